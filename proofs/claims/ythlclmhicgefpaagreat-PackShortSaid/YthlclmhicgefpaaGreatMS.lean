/- What the functions come to that S reaches, as plain functions; written by a program of this work, each told by Lean. -/
import Derived.Test.YthlclmhicgefpaaGreatMS1
namespace Go.Proofs.YthlclmhicgefpaaGreat.s
open Go.AX
set_option linter.unusedVariables false
set_option maxRecDepth 100000
set_option maxHeartbeats 4000000
open List (getD length)
open Int (toNat)
abbrev T_Y4b : Type := Tc9 → Int → Int → (Int × Int × Int × Int × Unit) → Int → (List Int) → Tc4 → (Tc9 → Int → Int → (List Int) → Tc4 → OB) → OB
noncomputable def Y4b.body (Y4b : T_Y4b) (Y4a : T_Y4a) : T_Y4b := fun t0 n1 n2 t3 n4 n5 t6 k1 =>
  (cond_ (decide (n4 < 4)) (cond_ ((decide (0 ≤ n4)) && (decide (n4 < 4))) (Y4a n5 (getD (t3.1 :: (t3.2.1 :: (t3.2.2.1 :: (t3.2.2.2.1 :: [])))) (toNat n4) 0) 2
 (fun n7 => (Y4b t0 n1 n2 t3 (IntKind.wrap .i64 (n4 + 1)) n7 t6 k1))) none) (k1 t0 n1 n2 n5 t6))
noncomputable def Y4b : Nat → T_Y4b
  | 0 => fun _ _ _ _ _ _ _ _ => none
  | n + 1 => Y4b.body (Y4b n) Y4a
def Y4b.p : LPat := lp 2 46 [0, 6, 13, 14, 15, 30, 31] (ps (pr [1, 0]) (ps (pq [1, 1] 0 0) (pl (pb 1 124 Ty13) (pl (pd (.int .i64)) (pl (pd (.int .i64)) (pl (pd (.st [(.int .i64), (.int .i64), (.int .i64), (.int .i64)])) (pl (pd (.int .i64)) pz))))))) (pl (po [1, 0] 5 1 (ed (.int .u8))) (pl (po [1, 1] 124 5 (es Ty13 (pl eh pz))) pz))
def Y4b.g (F : T_Y4b) (v : Y4b.p.T) (k : KE) : OB := F v.1.1 v.1.2.1 v.1.2.2.1 v.1.2.2.2.1 v.1.2.2.2.2.1 v.2.1 v.2.2.1.1 (fun y0 y1 y2 y3 y4 => k (.exit 2) ⟨fillS 46 [0, 6, 13, 14, 15] [(.ref [1, 0]), (.ptr [1, 1] 0 0), (.bv 1 124 Ty13 y0), (.d ⟨(.int .i64), y1⟩), (.d ⟨(.int .i64), y2⟩)], [([1, 0], ⟨5, 1, (.data (.int .u8) y3)⟩), ([1, 1], ⟨124, 5, (.data Ty13 [y4])⟩)], 2⟩)
theorem Y4b.step (S : T_Y4b) (F0 : T_Y4a) : ∀ v k, exR 27 Tryz.f27 2 Y4b.p [⟨Y4a.p, Y4a.g F0⟩] [] [] (Y4b.g S) v k = Y4b.g (Y4b.body S F0) v k := fun v k => by kernel_rfl
theorem Y4b.ok : okL 27 Tryz.f27 1 2 Y4b.p (Y4b.g (Y4b ROUNDS)) := loop2 (G := fun n => Y4b.g (Y4b n)) (fun n => Y4b.step (Y4b n) Y4a) (.cons Y4a.ok .nil) [] (by kernel_rfl) .nil (fun _ _ => rfl)
abbrev T_Y4c : Type := Bool → (Int → OB) → OB
noncomputable def Y4c.body : T_Y4c := fun b0 k1 =>
  (cond_ b0 (k1 1) (k1 0))
noncomputable def Y4c : T_Y4c := Y4c.body
def Y4c.p : FPat := fp 54 (pl (pd .bool) pz) pz
def Y4c.g (F : T_Y4c) (v : Y4c.p.T) (k : KR) : OB := F v.1.1 (fun y0 => k (.d ⟨(.int .i64), y0⟩) [])
theorem Y4c.eq : ∀ v k, exF Tryz.f54 Y4c.p [] [] [] v k = Y4c.g (Y4c.body) v k := fun v k => by kernel_rfl
theorem Y4c.ok : okF 1 Y4c.p (Y4c.g Y4c) := fn2 (Y4c.eq) Tryz.func54 (by kernel_rfl) .nil [] (by kernel_rfl) .nil
abbrev T_Y4d : Type := Tc9 → Int → Int → (List Int) → ((List Int) → OB) → OB
noncomputable def Y4d.body (Y4d : T_Y4d) (Y4c : T_Y4c) (Y4a : T_Y4a) (Y4b : T_Y4b) : T_Y4d := fun t0 n1 n2 n3 k1 =>
  (cond_ (decide (n2 < n1)) (cond_ ((decide (0 ≤ n2)) && (decide (n2 < (length t0 : Int)))) (Y4b t0 n1 n2 ((getD t0 (toNat n2) ZRu).1, ((getD t0 (toNat n2) ZRu).2.1, ((getD t0 (toNat n2) ZRu).2.2.1, ((getD t0 (toNat n2) ZRu).2.2.2.2.1, ())))) 0 n3 (getD t0 (toNat n2) ZRu)
 (fun t4 n5 n6 n7 t8 => (Y4c t8.2.2.2.1
 (fun n9 => (Y4a n7 n9 1
 (fun na => (Y4d t4 n5 (IntKind.wrap .i64 (n6 + 1)) na k1))))))) none) (k1 n3))
noncomputable def Y4d : Nat → T_Y4d
  | 0 => fun _ _ _ _ _ => none
  | n + 1 => Y4d.body (Y4d n) Y4c Y4a (Y4b ROUNDS)
def Y4d.p : LPat := lp 2 46 [0, 13, 14, 15] (ps (pr [1, 0]) (pl (pb 1 124 Ty13) (pl (pd (.int .i64)) (pl (pd (.int .i64)) pz)))) (pl (po [1, 0] 5 1 (ed (.int .u8))) pz)
def Y4d.g (F : T_Y4d) (v : Y4d.p.T) (k : KE) : OB := F v.1.1 v.1.2.1 v.1.2.2.1 v.2.1 (fun y0 => k (.exit 0) ⟨fillS 46 [0] [(.ref [1, 0])], [([1, 0], ⟨5, 1, (.data (.int .u8) y0)⟩)], 2⟩)
theorem Y4d.step (S : T_Y4d) (F0 : T_Y4c) (F1 : T_Y4a) (L0 : T_Y4b) : ∀ v k, exR 27 Tryz.f27 0 Y4d.p [⟨Y4c.p, Y4c.g F0⟩, ⟨Y4a.p, Y4a.g F1⟩] [] [⟨2, Y4b.p, Y4b.g L0⟩] (Y4d.g S) v k = Y4d.g (Y4d.body S F0 F1 L0) v k := fun v k => by kernel_rfl
theorem Y4d.ok : okL 27 Tryz.f27 1 0 Y4d.p (Y4d.g (Y4d ROUNDS)) := loop2 (G := fun n => Y4d.g (Y4d n)) (fun n => Y4d.step (Y4d n) Y4c Y4a (Y4b ROUNDS)) (.cons Y4c.ok (.cons Y4a.ok .nil)) [2] (by kernel_rfl) (.cons Y4b.ok .nil) (fun _ _ => rfl)
abbrev T_Y4e : Type := (List Int) → Tc9 → ((List Int) → OB) → OB
noncomputable def Y4e.body (Y44 : T_Y44) (Y4d : T_Y4d) : T_Y4e := fun n0 t1 k1 =>
  (Y44 n0 (length t1 : Int) 2
 (fun n2 => (Y4d t1 (length t1 : Int) 0 n2
 (fun n3 => (k1 n3)))))
noncomputable def Y4e : T_Y4e := Y4e.body Y44 (Y4d ROUNDS)
def Y4e.p : FPat := fp 27 (pl (pb 0 5 (.int .u8)) (pl (pb 1 124 Ty13) pz)) pz
def Y4e.g (F : T_Y4e) (v : Y4e.p.T) (k : KR) : OB := F v.1.1 v.1.2.1 (fun y0 => k (.ref [1, 0]) [([1, 0], ⟨5, 1, (.data (.int .u8) y0)⟩)])
theorem Y4e.eq (F0 : T_Y44) (L0 : T_Y4d) : ∀ v k, exF Tryz.f27 Y4e.p [⟨Y44.p, Y44.g F0⟩] [] [⟨0, Y4d.p, Y4d.g L0⟩] v k = Y4e.g (Y4e.body F0 L0) v k := fun v k => by kernel_rfl
theorem Y4e.ok : okF 2 Y4e.p (Y4e.g Y4e) := fn2 (Y4e.eq Y44 (Y4d ROUNDS)) Tryz.func27 (by kernel_rfl) (.cons Y44.ok .nil) [0] (by kernel_rfl) (.cons Y4d.ok .nil)
abbrev T_Y4f : Type := ((Int × Int × Bool × Unit) → OB) → OB
noncomputable def Y4f.body : T_Y4f := fun k1 =>
  (k1 (1, (0, (true, ()))))
noncomputable def Y4f : T_Y4f := Y4f.body
def Y4f.p : FPat := fp 83 pz pz
def Y4f.g (F : T_Y4f) (v : Y4f.p.T) (k : KR) : OB := F (fun y0 => k (.ptr [1, 0] 0 0) [([1, 0], ⟨187, 3, (.data Ty6 [y0])⟩)])
theorem Y4f.eq : ∀ v k, exF Tryz.f83 Y4f.p [] [] [] v k = Y4f.g (Y4f.body) v k := fun v k => by kernel_rfl
theorem Y4f.ok : okF 1 Y4f.p (Y4f.g Y4f) := fn2 (Y4f.eq) Tryz.func83 (by kernel_rfl) .nil [] (by kernel_rfl) .nil
abbrev T_Y4g : Type := (List Int) → Int → Int → (Int × Int × Bool × Unit) → ((Int × Int × Bool × Unit) → OB) → OB
noncomputable def Y4g.body (Y4g : T_Y4g) : T_Y4g := fun n0 n1 n2 t3 k1 =>
  (cond_ (decide (n2 < n1)) (cond_ ((decide (0 ≤ n2)) && (decide (n2 < (length n0 : Int)))) (Y4g n0 n1 (IntKind.wrap .i64 (n2 + 1)) ((Int.tmod (IntKind.wrap .i64 (t3.1 + (IntKind.wrap .i64 (getD n0 (toNat n2) 0)))) 65521), ((Int.tmod (IntKind.wrap .i64 (t3.2.1 + (Int.tmod (IntKind.wrap .i64 (t3.1 + (IntKind.wrap .i64 (getD n0 (toNat n2) 0)))) 65521))) 65521), (t3.2.2.1, ()))) k1) none) (k1 t3))
noncomputable def Y4g : Nat → T_Y4g
  | 0 => fun _ _ _ _ _ => none
  | n + 1 => Y4g.body (Y4g n)
def Y4g.p : LPat := lp 2 46 [0, 15, 16, 17] (ps (pq [0, 0] 0 0) (pl (pb 1 5 (.int .u8)) (pl (pd (.int .i64)) (pl (pd (.int .i64)) pz)))) (pl (po [0, 0] 187 3 (es Ty6 (pl eh pz))) pz)
def Y4g.g (F : T_Y4g) (v : Y4g.p.T) (k : KE) : OB := F v.1.1 v.1.2.1 v.1.2.2.1 v.2.1.1 (fun y0 => k (.exit 0) ⟨fillS 46 [] [], [([0, 0], ⟨187, 3, (.data Ty6 [y0])⟩)], 2⟩)
theorem Y4g.step (S : T_Y4g) : ∀ v k, exR 85 Tryz.f85 0 Y4g.p [] [] [] (Y4g.g S) v k = Y4g.g (Y4g.body S) v k := fun v k => by kernel_rfl
theorem Y4g.ok : okL 85 Tryz.f85 0 0 Y4g.p (Y4g.g (Y4g ROUNDS)) := loop2 (G := fun n => Y4g.g (Y4g n)) (fun n => Y4g.step (Y4g n)) .nil [] (by kernel_rfl) .nil (fun _ _ => rfl)
abbrev T_Y4h : Type := (List Int) → (Int × Int × Bool × Unit) → ((Int × Int × Bool × Unit) → OB) → OB
noncomputable def Y4h.body (Y4g : T_Y4g) : T_Y4h := fun n0 t1 k1 =>
  (cond_ (! t1.2.2.1) (k1 t1) (Y4g n0 (length n0 : Int) 0 t1
 (fun t2 => (k1 t2))))
noncomputable def Y4h : T_Y4h := Y4h.body (Y4g ROUNDS)
def Y4h.p : FPat := fp 85 (ps (pq [0, 0] 0 0) (pl (pb 1 5 (.int .u8)) pz)) (pl (po [0, 0] 187 3 (es Ty6 (pl eh pz))) pz)
def Y4h.g (F : T_Y4h) (v : Y4h.p.T) (k : KR) : OB := F v.1.1 v.2.1.1 (fun y0 => k (.tup []) [([0, 0], ⟨187, 3, (.data Ty6 [y0])⟩)])
theorem Y4h.eq (L0 : T_Y4g) : ∀ v k, exF Tryz.f85 Y4h.p [] [] [⟨0, Y4g.p, Y4g.g L0⟩] v k = Y4h.g (Y4h.body L0) v k := fun v k => by kernel_rfl
theorem Y4h.ok : okF 1 Y4h.p (Y4h.g Y4h) := fn2 (Y4h.eq (Y4g ROUNDS)) Tryz.func85 (by kernel_rfl) .nil [0] (by kernel_rfl) (.cons Y4g.ok .nil)
abbrev T_Y4i : Type := (List Int) → (Int × Int × Bool × Unit) → ((Int × Int × Bool × Unit) → OB) → OB
noncomputable def Y4i.body (Y4h : T_Y4h) : T_Y4i := fun n0 t1 k1 =>
  (Y4h n0 t1
 (fun t2 => (k1 t2)))
noncomputable def Y4i : T_Y4i := Y4i.body Y4h
def Y4i.p : FPat := fp 84 (pl (pf 85 (ps (pq [0, 0] 0 0) pz) pz) (pl (pb 1 5 (.int .u8)) pz)) (pl (po [0, 0] 187 3 (es Ty6 (pl eh pz))) pz)
def Y4i.g (F : T_Y4i) (v : Y4i.p.T) (k : KR) : OB := F v.1.2.1 v.2.1.1 (fun y0 => k (.tup []) [([0, 0], ⟨187, 3, (.data Ty6 [y0])⟩)])
theorem Y4i.eq (F0 : T_Y4h) : ∀ v k, exF Tryz.f84 Y4i.p [⟨Y4h.p, Y4h.g F0⟩] [] [] v k = Y4i.g (Y4i.body F0) v k := fun v k => by kernel_rfl
theorem Y4i.ok : okF 2 Y4i.p (Y4i.g Y4i) := fn2 (Y4i.eq Y4h) Tryz.func84 (by kernel_rfl) (.cons Y4h.ok .nil) [] (by kernel_rfl) .nil
abbrev T_Y4j : Type := (Int × Int × Bool × Unit) → (Int → (Int × Int × Bool × Unit) → OB) → OB
noncomputable def Y4j.body : T_Y4j := fun t0 k1 =>
  (cond_ (! t0.2.2.1) (k1 0 t0) (k1 (IntKind.wrap .i64 (((@BitVec.toNat (64 : Nat) ((@BitVec.ofInt (64 : Nat) (IntKind.wrap .i64 (t0.2.1 * 65536))) ||| (@BitVec.ofInt (64 : Nat) t0.1))) : Nat) : Int)) t0))
noncomputable def Y4j : T_Y4j := Y4j.body
def Y4j.p : FPat := fp 86 (ps (pq [0, 0] 0 0) pz) (pl (po [0, 0] 187 3 (es Ty6 (pl eh pz))) pz)
def Y4j.g (F : T_Y4j) (v : Y4j.p.T) (k : KR) : OB := F v.2.1.1 (fun y0 y1 => k (.d ⟨(.int .i64), y0⟩) [([0, 0], ⟨187, 3, (.data Ty6 [y1])⟩)])
theorem Y4j.eq : ∀ v k, exF Tryz.f86 Y4j.p [] [] [] v k = Y4j.g (Y4j.body) v k := fun v k => by kernel_rfl
theorem Y4j.ok : okF 1 Y4j.p (Y4j.g Y4j) := fn2 (Y4j.eq) Tryz.func86 (by kernel_rfl) .nil [] (by kernel_rfl) .nil
abbrev T_Y4k : Type := (List Int) → (Int → OB) → OB
noncomputable def Y4k.body (Y4f : T_Y4f) (Y4i : T_Y4i) (Y4j : T_Y4j) : T_Y4k := fun n0 k1 =>
  (Y4f
 (fun t1 => (Y4i n0 t1
 (fun t2 => (Y4j t2
 (fun n3 t4 => (k1 n3)))))))
noncomputable def Y4k : T_Y4k := Y4k.body Y4f Y4i Y4j
def Y4k.p : FPat := fp 53 (pl (pb 1 5 (.int .u8)) pz) pz
def Y4k.g (F : T_Y4k) (v : Y4k.p.T) (k : KR) : OB := F v.1.1 (fun y0 => k (.d ⟨(.int .i64), y0⟩) [])
theorem Y4k.eq (F0 : T_Y4f) (F1 : T_Y4i) (F2 : T_Y4j) : ∀ v k, exF Tryz.f53 Y4k.p [⟨Y4f.p, Y4f.g F0⟩, ⟨Y4i.p, Y4i.g F1⟩, ⟨Y4j.p, Y4j.g F2⟩] [] [] v k = Y4k.g (Y4k.body F0 F1 F2) v k := fun v k => by kernel_rfl
theorem Y4k.ok : okF 3 Y4k.p (Y4k.g Y4k) := fn2 (Y4k.eq Y4f Y4i Y4j) Tryz.func53 (by kernel_rfl) (.cons Y4f.ok (.cons Y4i.ok (.cons Y4j.ok .nil))) [] (by kernel_rfl) .nil
abbrev T_Y4l : Type := (List Int) → ((List Int) → OB) → OB
noncomputable def Y4l.body (Y4k : T_Y4k) (Y4a : T_Y4a) : T_Y4l := fun n0 k1 =>
  (Y4k n0
 (fun n1 => (Y4a n0 n1 4
 (fun n2 => (k1 n2)))))
noncomputable def Y4l : T_Y4l := Y4l.body Y4k Y4a
def Y4l.p : FPat := fp 26 (pl (pb 1 5 (.int .u8)) pz) pz
def Y4l.g (F : T_Y4l) (v : Y4l.p.T) (k : KR) : OB := F v.1.1 (fun y0 => k (.ref [1, 0]) [([1, 0], ⟨5, 1, (.data (.int .u8) y0)⟩)])
theorem Y4l.eq (F0 : T_Y4k) (F1 : T_Y4a) : ∀ v k, exF Tryz.f26 Y4l.p [⟨Y4k.p, Y4k.g F0⟩, ⟨Y4a.p, Y4a.g F1⟩] [] [] v k = Y4l.g (Y4l.body F0 F1) v k := fun v k => by kernel_rfl
theorem Y4l.ok : okF 4 Y4l.p (Y4l.g Y4l) := fn2 (Y4l.eq Y4k Y4a) Tryz.func26 (by kernel_rfl) (.cons Y4k.ok (.cons Y4a.ok .nil)) [] (by kernel_rfl) .nil
abbrev T_Y4m : Type := Tc8 → (List Int) → Tc10 → Tc9 → Int → ((List Int) → OB) → OB
noncomputable def Y4m.body (Y46 : T_Y46) (Y4e : T_Y4e) (Y4l : T_Y4l) (Y47 : T_Y47) (Y48 : T_Y48) (Y49 : T_Y49) : T_Y4m := fun t0 n1 t2 t3 n4 k1 =>
  (Y46 2 [n4, (length t0 : Int)] ([83, 72, 73, 49], ())
 (fun t5 => (Y47 t0 (length t0 : Int) 0 t0 n1 t2 t3 n4 t5
 (fun t6 n7 t8 t9 na tb => (Y46 2 [(length n7 : Int)] tb
 (fun tc => (Y48 n7 (length n7 : Int) 0 t6 n7 t8 t9 na tc
 (fun td ne tf tg nh ti => (Y46 2 [(length tf : Int)] ti
 (fun tj => (Y49 tf (length tf : Int) 0 td ne tf tg nh tj
 (fun tk nl tm tn no tp => (Y4e tp.1 tn
 (fun nq => (Y4l nq
 (fun nr => (k1 nr)))))))))))))))))
noncomputable def Y4m : T_Y4m := Y4m.body Y46 Y4e Y4l (Y47 ROUNDS) (Y48 ROUNDS) (Y49 ROUNDS)
def Y4m.p : FPat := fp 9 (pl (pa (pl (pb 1 69 Ty15) (pl (pb 2 2 (.int .i64)) (pl (pb 3 72 Ty18) (pl (pb 4 124 Ty13) (pl (pd (.int .i64)) pz)))))) pz) pz
def Y4m.g (F : T_Y4m) (v : Y4m.p.T) (k : KR) : OB := F v.1.1.1 v.1.1.2.1 v.1.1.2.2.1 v.1.1.2.2.2.1 v.1.1.2.2.2.2.1 (fun y0 => k (.ref [1, 0]) [([1, 0], ⟨5, 1, (.data (.int .u8) y0)⟩)])
theorem Y4m.eq (F0 : T_Y46) (F1 : T_Y4e) (F2 : T_Y4l) (L0 : T_Y47) (L1 : T_Y48) (L2 : T_Y49) : ∀ v k, exF Tryz.f9 Y4m.p [⟨Y46.p, Y46.g F0⟩, ⟨Y4e.p, Y4e.g F1⟩, ⟨Y4l.p, Y4l.g F2⟩] [] [⟨0, Y47.p, Y47.g L0⟩, ⟨2, Y48.p, Y48.g L1⟩, ⟨4, Y49.p, Y49.g L2⟩] v k = Y4m.g (Y4m.body F0 F1 F2 L0 L1 L2) v k := fun v k => by kernel_rfl
theorem Y4m.ok : okF 5 Y4m.p (Y4m.g Y4m) := fn2 (Y4m.eq Y46 Y4e Y4l (Y47 ROUNDS) (Y48 ROUNDS) (Y49 ROUNDS)) Tryz.func9 (by kernel_rfl) (.cons Y46.ok (.cons Y4e.ok (.cons Y4l.ok .nil))) [0, 2, 4] (by kernel_rfl) (.cons Y47.ok (.cons Y48.ok (.cons Y49.ok .nil)))
abbrev T_Y4n : Type := (List Int) → (Int → Bool → Bool → (List Int) → OB) → OB
noncomputable def Y4n.body : T_Y4n := fun n0 k1 =>
  (cond_ (Nat.ble (((0 : Nat) + (length n0)) * (1 : Nat)) (140737488355328 : Nat)) (k1 0 true false ([] ++ n0)) none)
noncomputable def Y4n : T_Y4n := Y4n.body
def Y4n.p : FPat := fp 55 (pl (pb 1 5 (.int .u8)) pz) pz
def Y4n.g (F : T_Y4n) (v : Y4n.p.T) (k : KR) : OB := F v.1.1 (fun y0 y1 y2 y3 => k (.ptr [1, 0] 0 0) [([1, 0], ⟨159, 4, (.mix [(.agg [(.ref [1, 1]), (.d ⟨(.int .i64), y0⟩), (.d ⟨.bool, y1⟩), (.d ⟨.bool, y2⟩)])])⟩), ([1, 1], ⟨5, 1, (.data (.int .u8) y3)⟩)])
theorem Y4n.eq : ∀ v k, exF Tryz.f55 Y4n.p [] [] [] v k = Y4n.g (Y4n.body) v k := fun v k => by kernel_rfl
theorem Y4n.ok : okF 1 Y4n.p (Y4n.g Y4n) := fn2 (Y4n.eq) Tryz.func55 (by kernel_rfl) .nil [] (by kernel_rfl) .nil
abbrev T_Y4o : Type := Int → Bool → Bool → (List Int) → (Bool → Int → Bool → Bool → (List Int) → OB) → OB
noncomputable def Y4o.body : T_Y4o := fun n0 b1 b2 n3 k1 =>
  (cond_ (! (! b1)) (k1 b2 n0 b1 b2 n3) (k1 true n0 b1 b2 n3))
noncomputable def Y4o : T_Y4o := Y4o.body
def Y4o.p : FPat := fp 58 (ps (pq [0, 0] 0 0) pz) (pl (po [0, 0] 159 4 (em (pl (pa (ps (pr [0, 1]) (pl (pd (.int .i64)) (pl (pd .bool) (pl (pd .bool) pz))))) pz))) (pl (po [0, 1] 5 1 (ed (.int .u8))) pz))
def Y4o.g (F : T_Y4o) (v : Y4o.p.T) (k : KR) : OB := F v.2.1.1.1 v.2.1.1.2.1 v.2.1.1.2.2.1 v.2.2.1 (fun y0 y1 y2 y3 y4 => k (.d ⟨.bool, y0⟩) [([0, 0], ⟨159, 4, (.mix [(.agg [(.ref [0, 1]), (.d ⟨(.int .i64), y1⟩), (.d ⟨.bool, y2⟩), (.d ⟨.bool, y3⟩)])])⟩), ([0, 1], ⟨5, 1, (.data (.int .u8) y4)⟩)])
theorem Y4o.eq : ∀ v k, exF Tryz.f58 Y4o.p [] [] [] v k = Y4o.g (Y4o.body) v k := fun v k => by kernel_rfl
theorem Y4o.ok : okF 1 Y4o.p (Y4o.g Y4o) := fn2 (Y4o.eq) Tryz.func58 (by kernel_rfl) .nil [] (by kernel_rfl) .nil
abbrev T_Y4p : Type := Int → Bool → Bool → (List Int) → (Int → Int → Bool → Bool → (List Int) → OB) → OB
noncomputable def Y4p.body : T_Y4p := fun n0 b1 b2 n3 k1 =>
  (k1 (IntKind.wrap .i64 ((length n3 : Int) - n0)) n0 b1 b2 n3)
noncomputable def Y4p : T_Y4p := Y4p.body
def Y4p.p : FPat := fp 60 (ps (pq [0, 0] 0 0) pz) (pl (po [0, 0] 159 4 (em (pl (pa (ps (pr [0, 1]) (pl (pd (.int .i64)) (pl (pd .bool) (pl (pd .bool) pz))))) pz))) (pl (po [0, 1] 5 1 (ed (.int .u8))) pz))
def Y4p.g (F : T_Y4p) (v : Y4p.p.T) (k : KR) : OB := F v.2.1.1.1 v.2.1.1.2.1 v.2.1.1.2.2.1 v.2.2.1 (fun y0 y1 y2 y3 y4 => k (.d ⟨(.int .i64), y0⟩) [([0, 0], ⟨159, 4, (.mix [(.agg [(.ref [0, 1]), (.d ⟨(.int .i64), y1⟩), (.d ⟨.bool, y2⟩), (.d ⟨.bool, y3⟩)])])⟩), ([0, 1], ⟨5, 1, (.data (.int .u8) y4)⟩)])
theorem Y4p.eq : ∀ v k, exF Tryz.f60 Y4p.p [] [] [] v k = Y4p.g (Y4p.body) v k := fun v k => by kernel_rfl
theorem Y4p.ok : okF 1 Y4p.p (Y4p.g Y4p) := fn2 (Y4p.eq) Tryz.func60 (by kernel_rfl) .nil [] (by kernel_rfl) .nil
abbrev T_Y4q : Type := Int → Bool → Bool → (List Int) → (Int → Bool → Bool → (List Int) → OB) → OB
noncomputable def Y4q.body : T_Y4q := fun n0 b1 b2 n3 k1 =>
  (k1 n0 b1 true n3)
noncomputable def Y4q : T_Y4q := Y4q.body
def Y4q.p : FPat := fp 116 (ps (pq [0, 0] 0 0) pz) (pl (po [0, 0] 159 4 (em (pl (pa (ps (pr [0, 1]) (pl (pd (.int .i64)) (pl (pd .bool) (pl (pd .bool) pz))))) pz))) (pl (po [0, 1] 5 1 (ed (.int .u8))) pz))
def Y4q.g (F : T_Y4q) (v : Y4q.p.T) (k : KR) : OB := F v.2.1.1.1 v.2.1.1.2.1 v.2.1.1.2.2.1 v.2.2.1 (fun y0 y1 y2 y3 => k (.tup []) [([0, 0], ⟨159, 4, (.mix [(.agg [(.ref [0, 1]), (.d ⟨(.int .i64), y0⟩), (.d ⟨.bool, y1⟩), (.d ⟨.bool, y2⟩)])])⟩), ([0, 1], ⟨5, 1, (.data (.int .u8) y3)⟩)])
theorem Y4q.eq : ∀ v k, exF Tryz.f116 Y4q.p [] [] [] v k = Y4q.g (Y4q.body) v k := fun v k => by kernel_rfl
theorem Y4q.ok : okF 1 Y4q.p (Y4q.g Y4q) := fn2 (Y4q.eq) Tryz.func116 (by kernel_rfl) .nil [] (by kernel_rfl) .nil
abbrev T_Y4r : Type := Int → Int → Bool → Bool → (List Int) → (Int → Bool → Bool → (List Int) → (List Int) → OB) → (Nat → Nat → Int → Bool → Bool → (List Int) → OB) → OB
noncomputable def Y4r.body (Y4o : T_Y4o) (Y4p : T_Y4p) (Y4q : T_Y4q) : T_Y4r := fun n0 n1 b2 b3 n4 k1 k2 =>
  (Y4o n1 b2 b3 n4
 (fun b5 n6 b7 b8 n9 => (cond_ (! b5) (cond_ (! (decide (n0 < 0))) (Y4p n6 b7 b8 n9
 (fun na nb bc bd ne => (cond_ (decide (n0 > na)) (Y4q nb bc bd ne
 (fun nf bg bh ni => (k1 nf bg bh ni []))) (cond_ (((decide (0 ≤ (IntKind.wrap .i64 ((IntKind.wrap .i64 (nb + n0)) - n0)))) && (decide ((IntKind.wrap .i64 ((IntKind.wrap .i64 (nb + n0)) - n0)) ≤ (IntKind.wrap .i64 (nb + n0))))) && (decide ((IntKind.wrap .i64 (nb + n0)) ≤ (length ne : Int)))) (k2 (toNat (IntKind.wrap .i64 ((IntKind.wrap .i64 (nb + n0)) - n0))) (toNat ((IntKind.wrap .i64 (nb + n0)) - (IntKind.wrap .i64 ((IntKind.wrap .i64 (nb + n0)) - n0)))) (IntKind.wrap .i64 (nb + n0)) bc bd ne) none)))) (Y4q n6 b7 b8 n9
 (fun nj bk bl nm => (k1 nj bk bl nm [])))) (Y4q n6 b7 b8 n9
 (fun nn bo bp nq => (k1 nn bo bp nq []))))))
noncomputable def Y4r : T_Y4r := Y4r.body Y4o Y4p Y4q
def Y4r.p : FPat := fp 88 (ps (pq [0, 0] 0 0) (pl (pd (.int .i64)) pz)) (pl (po [0, 0] 159 4 (em (pl (pa (ps (pr [0, 1]) (pl (pd (.int .i64)) (pl (pd .bool) (pl (pd .bool) pz))))) pz))) (pl (po [0, 1] 5 1 (ed (.int .u8))) pz))
def Y4r.g (F : T_Y4r) (v : Y4r.p.T) (k : KR) : OB := F v.1.1 v.2.1.1.1 v.2.1.1.2.1 v.2.1.1.2.2.1 v.2.2.1 (fun y0 y1 y2 y3 y4 => k (.ref [1, 0]) [([0, 0], ⟨159, 4, (.mix [(.agg [(.ref [0, 1]), (.d ⟨(.int .i64), y0⟩), (.d ⟨.bool, y1⟩), (.d ⟨.bool, y2⟩)])])⟩), ([0, 1], ⟨5, 1, (.data (.int .u8) y3)⟩), ([1, 0], ⟨5, 1, (.data (.int .u8) y4)⟩)]) (fun y0 y1 y2 y3 y4 y5 => k (.cut [0, 1] y0 y1) [([0, 0], ⟨159, 4, (.mix [(.agg [(.ref [0, 1]), (.d ⟨(.int .i64), y2⟩), (.d ⟨.bool, y3⟩), (.d ⟨.bool, y4⟩)])])⟩), ([0, 1], ⟨5, 1, (.data (.int .u8) y5)⟩)])
theorem Y4r.eq (F0 : T_Y4o) (F1 : T_Y4p) (F2 : T_Y4q) : ∀ v k, exF Tryz.f88 Y4r.p [⟨Y4o.p, Y4o.g F0⟩, ⟨Y4p.p, Y4p.g F1⟩, ⟨Y4q.p, Y4q.g F2⟩] [] [] v k = Y4r.g (Y4r.body F0 F1 F2) v k := fun v k => by kernel_rfl
theorem Y4r.ok : okF 2 Y4r.p (Y4r.g Y4r) := fn2 (Y4r.eq Y4o Y4p Y4q) Tryz.func88 (by kernel_rfl) (.cons Y4o.ok (.cons Y4p.ok (.cons Y4q.ok .nil))) [] (by kernel_rfl) .nil
abbrev T_Y4s : Type := Int → Int → Int → Int → Bool → Bool → (List Int) → (List Int) → (Int → Int → Bool → Bool → (List Int) → (List Int) → OB) → OB
noncomputable def Y4s.body (Y4s : T_Y4s) : T_Y4s := fun n0 n1 n2 n3 b4 b5 n6 n7 k1 =>
  (cond_ (decide (n2 < n1)) (cond_ ((decide (0 ≤ n2)) && (decide (n2 < (length n7 : Int)))) (Y4s (IntKind.wrap .i64 (((@BitVec.toNat (64 : Nat) ((@BitVec.ofInt (64 : Nat) (IntKind.wrap .i64 (n0 * 256))) ||| (@BitVec.ofInt (64 : Nat) (IntKind.wrap .i64 (getD n7 (toNat n2) 0))))) : Nat) : Int)) n1 (IntKind.wrap .i64 (n2 + 1)) n3 b4 b5 n6 n7 k1) none) (k1 n0 n3 b4 b5 n6 n7))
noncomputable def Y4s : Nat → T_Y4s
  | 0 => fun _ _ _ _ _ _ _ _ _ => none
  | n + 1 => Y4s.body (Y4s n)
def Y4s.p : LPat := lp 2 33 [6, 7, 19, 20, 21] (pl (pd (.int .i64)) (ps (pr [1, 0]) (ps (pr [1, 0]) (pl (pd (.int .i64)) (pl (pd (.int .i64)) pz))))) (pl (po [0, 0] 159 4 (em (pl (pa (ps (pr [0, 1]) (pl (pd (.int .i64)) (pl (pd .bool) (pl (pd .bool) pz))))) pz))) (pl (po [0, 1] 5 1 (ed (.int .u8))) (pl (po [1, 0] 5 1 (ed (.int .u8))) pz)))
def Y4s.g (F : T_Y4s) (v : Y4s.p.T) (k : KE) : OB := F v.1.1 v.1.2.1 v.1.2.2.1 v.2.1.1.1 v.2.1.1.2.1 v.2.1.1.2.2.1 v.2.2.1 v.2.2.2.1 (fun y0 y1 y2 y3 y4 y5 => k (.exit 0) ⟨fillS 33 [6, 7] [(.d ⟨(.int .i64), y0⟩), (.ref [1, 0])], [([0, 0], ⟨159, 4, (.mix [(.agg [(.ref [0, 1]), (.d ⟨(.int .i64), y1⟩), (.d ⟨.bool, y2⟩), (.d ⟨.bool, y3⟩)])])⟩), ([0, 1], ⟨5, 1, (.data (.int .u8) y4)⟩), ([1, 0], ⟨5, 1, (.data (.int .u8) y5)⟩)], 2⟩)
theorem Y4s.step (S : T_Y4s) : ∀ v k, exR 87 Tryz.f87 0 Y4s.p [] [] [] (Y4s.g S) v k = Y4s.g (Y4s.body S) v k := fun v k => by kernel_rfl
theorem Y4s.ok : okL 87 Tryz.f87 0 0 Y4s.p (Y4s.g (Y4s ROUNDS)) := loop2 (G := fun n => Y4s.g (Y4s n)) (fun n => Y4s.step (Y4s n)) .nil [] (by kernel_rfl) .nil (fun _ _ => rfl)
abbrev T_Y4t : Type := Int → Nat → Nat → Nat → Nat → Int → Int → Int → Bool → Bool → (List Int) → (Int → Nat → Nat → Int → Bool → Bool → (List Int) → OB) → OB
noncomputable def Y4t.body (Y4t : T_Y4t) : T_Y4t := fun n0 m1 m2 m3 m4 n5 n6 n7 b8 b9 na k1 =>
  (cond_ (decide (n6 < n5)) (cond_ ((decide (0 ≤ n6)) && (decide (n6 < ((m4 : Nat) : Int)))) (Y4t (IntKind.wrap .i64 (((@BitVec.toNat (64 : Nat) ((@BitVec.ofInt (64 : Nat) (IntKind.wrap .i64 (n0 * 256))) ||| (@BitVec.ofInt (64 : Nat) (IntKind.wrap .i64 (getD na (m3 + (toNat n6)) 0))))) : Nat) : Int)) m1 m2 m3 m4 n5 (IntKind.wrap .i64 (n6 + 1)) n7 b8 b9 na k1) none) (k1 n0 m1 m2 n7 b8 b9 na))
noncomputable def Y4t : Nat → T_Y4t
  | 0 => fun _ _ _ _ _ _ _ _ _ _ _ _ => none
  | n + 1 => Y4t.body (Y4t n)
def Y4t.p : LPat := lp 2 33 [6, 7, 19, 20, 21] (pl (pd (.int .i64)) (pl (pc [0, 1] nv nv) (pl (pc [0, 1] nv nv) (pl (pd (.int .i64)) (pl (pd (.int .i64)) pz))))) (pl (po [0, 0] 159 4 (em (pl (pa (ps (pr [0, 1]) (pl (pd (.int .i64)) (pl (pd .bool) (pl (pd .bool) pz))))) pz))) (pl (po [0, 1] 5 1 (ed (.int .u8))) pz))
def Y4t.g (F : T_Y4t) (v : Y4t.p.T) (k : KE) : OB := F v.1.1 v.1.2.1.1 v.1.2.1.2 v.1.2.2.1.1 v.1.2.2.1.2 v.1.2.2.2.1 v.1.2.2.2.2.1 v.2.1.1.1 v.2.1.1.2.1 v.2.1.1.2.2.1 v.2.2.1 (fun y0 y1 y2 y3 y4 y5 y6 => k (.exit 0) ⟨fillS 33 [6, 7] [(.d ⟨(.int .i64), y0⟩), (.cut [0, 1] y1 y2)], [([0, 0], ⟨159, 4, (.mix [(.agg [(.ref [0, 1]), (.d ⟨(.int .i64), y3⟩), (.d ⟨.bool, y4⟩), (.d ⟨.bool, y5⟩)])])⟩), ([0, 1], ⟨5, 1, (.data (.int .u8) y6)⟩)], 2⟩)
theorem Y4t.step (S : T_Y4t) : ∀ v k, exR 87 Tryz.f87 0 Y4t.p [] [] [] (Y4t.g S) v k = Y4t.g (Y4t.body S) v k := fun v k => by kernel_rfl
theorem Y4t.ok : okL 87 Tryz.f87 0 0 Y4t.p (Y4t.g (Y4t ROUNDS)) := loop2 (G := fun n => Y4t.g (Y4t n)) (fun n => Y4t.step (Y4t n)) .nil [] (by kernel_rfl) .nil (fun _ _ => rfl)
abbrev T_Y4u : Type := Int → Int → Bool → Bool → (List Int) → (Int → Int → Bool → Bool → (List Int) → (List Int) → OB) → (Int → Nat → Nat → Int → Bool → Bool → (List Int) → OB) → OB
noncomputable def Y4u.body (Y4r : T_Y4r) (Y4s : T_Y4s) (Y4t : T_Y4t) : T_Y4u := fun n0 n1 b2 b3 n4 k1 k2 =>
  (cond_ (! (decide (n0 < 1))) (cond_ (decide (n0 > 8)) (Y4r (-1) n1 b2 b3 n4
 (fun n5 b6 b7 n8 n9 => (Y4s 0 (length n9 : Int) 0 n5 b6 b7 n8 n9
 (fun na nb bc bd ne nf => (k1 na nb bc bd ne nf))))
 (fun mg mh ni bj bk nl => (Y4t 0 mg mh mg mh ((mh : Nat) : Int) 0 ni bj bk nl
 (fun nm mn mo np bq br ns => (k2 nm mn mo np bq br ns))))) (Y4r n0 n1 b2 b3 n4
 (fun nt bu bv nw nx => (Y4s 0 (length nx : Int) 0 nt bu bv nw nx
 (fun ny nz b10 b11 n12 n13 => (k1 ny nz b10 b11 n12 n13))))
 (fun m14 m15 n16 b17 b18 n19 => (Y4t 0 m14 m15 m14 m15 ((m15 : Nat) : Int) 0 n16 b17 b18 n19
 (fun n1a m1b m1c n1d b1e b1f n1g => (k2 n1a m1b m1c n1d b1e b1f n1g)))))) (Y4r (-1) n1 b2 b3 n4
 (fun n1h b1i b1j n1k n1l => (Y4s 0 (length n1l : Int) 0 n1h b1i b1j n1k n1l
 (fun n1m n1n b1o b1p n1q n1r => (k1 n1m n1n b1o b1p n1q n1r))))
 (fun m1s m1t n1u b1v b1w n1x => (Y4t 0 m1s m1t m1s m1t ((m1t : Nat) : Int) 0 n1u b1v b1w n1x
 (fun n1y m1z m20 n21 b22 b23 n24 => (k2 n1y m1z m20 n21 b22 b23 n24))))))
noncomputable def Y4u : T_Y4u := Y4u.body Y4r (Y4s ROUNDS) (Y4t ROUNDS)
def Y4u.p : FPat := fp 87 (pl (pf 88 (ps (pq [0, 0] 0 0) pz) pz) (pl (pd (.int .i64)) pz)) (pl (po [0, 0] 159 4 (em (pl (pa (ps (pr [0, 1]) (pl (pd (.int .i64)) (pl (pd .bool) (pl (pd .bool) pz))))) pz))) (pl (po [0, 1] 5 1 (ed (.int .u8))) pz))
def Y4u.g (F : T_Y4u) (v : Y4u.p.T) (k : KR) : OB := F v.1.2.1 v.2.1.1.1 v.2.1.1.2.1 v.2.1.1.2.2.1 v.2.2.1 (fun y0 y1 y2 y3 y4 y5 => k (.tup [(.d ⟨(.int .i64), y0⟩), (.ref [1, 0])]) [([0, 0], ⟨159, 4, (.mix [(.agg [(.ref [0, 1]), (.d ⟨(.int .i64), y1⟩), (.d ⟨.bool, y2⟩), (.d ⟨.bool, y3⟩)])])⟩), ([0, 1], ⟨5, 1, (.data (.int .u8) y4)⟩), ([1, 0], ⟨5, 1, (.data (.int .u8) y5)⟩)]) (fun y0 y1 y2 y3 y4 y5 y6 => k (.tup [(.d ⟨(.int .i64), y0⟩), (.cut [0, 1] y1 y2)]) [([0, 0], ⟨159, 4, (.mix [(.agg [(.ref [0, 1]), (.d ⟨(.int .i64), y3⟩), (.d ⟨.bool, y4⟩), (.d ⟨.bool, y5⟩)])])⟩), ([0, 1], ⟨5, 1, (.data (.int .u8) y6)⟩)])
theorem Y4u.eq (F0 : T_Y4r) (L0 : T_Y4s) (L1 : T_Y4t) : ∀ v k, exF Tryz.f87 Y4u.p [⟨Y4r.p, Y4r.g F0⟩] [] [⟨0, Y4s.p, Y4s.g L0⟩, ⟨0, Y4t.p, Y4t.g L1⟩] v k = Y4u.g (Y4u.body F0 L0 L1) v k := fun v k => by kernel_rfl
theorem Y4u.ok : okF 3 Y4u.p (Y4u.g Y4u) := fn2 (Y4u.eq Y4r (Y4s ROUNDS) (Y4t ROUNDS)) Tryz.func87 (by kernel_rfl) (.cons Y4r.ok .nil) [0] (by kernel_rfl) (.cons Y4s.ok (.cons Y4t.ok .nil))
abbrev T_Y4v : Type := Int → Int → Bool → Bool → (List Int) → (Int → Int → Bool → Bool → (List Int) → OB) → OB
noncomputable def Y4v.body (Y4u : T_Y4u) : T_Y4v := fun n0 n1 b2 b3 n4 k1 =>
  (Y4u n0 n1 b2 b3 n4
 (fun n5 n6 b7 b8 n9 na => (k1 n5 n6 b7 b8 n9))
 (fun nb mc md ne bf bg nh => (k1 nb ne bf bg nh)))
noncomputable def Y4v : T_Y4v := Y4v.body Y4u
def Y4v.p : FPat := fp 56 (ps (pq [0, 0] 0 0) (pl (pd (.int .i64)) pz)) (pl (po [0, 0] 159 4 (em (pl (pa (ps (pr [0, 1]) (pl (pd (.int .i64)) (pl (pd .bool) (pl (pd .bool) pz))))) pz))) (pl (po [0, 1] 5 1 (ed (.int .u8))) pz))
def Y4v.g (F : T_Y4v) (v : Y4v.p.T) (k : KR) : OB := F v.1.1 v.2.1.1.1 v.2.1.1.2.1 v.2.1.1.2.2.1 v.2.2.1 (fun y0 y1 y2 y3 y4 => k (.d ⟨(.int .i64), y0⟩) [([0, 0], ⟨159, 4, (.mix [(.agg [(.ref [0, 1]), (.d ⟨(.int .i64), y1⟩), (.d ⟨.bool, y2⟩), (.d ⟨.bool, y3⟩)])])⟩), ([0, 1], ⟨5, 1, (.data (.int .u8) y4)⟩)])
theorem Y4v.eq (F0 : T_Y4u) : ∀ v k, exF Tryz.f56 Y4v.p [⟨Y4u.p, Y4u.g F0⟩] [] [] v k = Y4v.g (Y4v.body F0) v k := fun v k => by kernel_rfl
theorem Y4v.ok : okF 4 Y4v.p (Y4v.g Y4v) := fn2 (Y4v.eq Y4u) Tryz.func56 (by kernel_rfl) (.cons Y4u.ok .nil) [] (by kernel_rfl) .nil
abbrev T_Y4w : Type := (List Int) → (Int → (List Int) → OB) → OB
noncomputable def Y4w.body (Y4n : T_Y4n) (Y4v : T_Y4v) (Y4k : T_Y4k) : T_Y4w := fun n0 k1 =>
  (cond_ (decide ((IntKind.wrap .i64 ((length n0 : Int) - 4)) < 0)) (k1 5 []) (cond_ ((decide (0 ≤ (IntKind.wrap .i64 ((length n0 : Int) - 4)))) && (decide ((IntKind.wrap .i64 ((length n0 : Int) - 4)) ≤ (length n0 : Int)))) (Y4n (List.take ((length n0) - (toNat (IntKind.wrap .i64 ((length n0 : Int) - 4)))) (List.drop (toNat (IntKind.wrap .i64 ((length n0 : Int) - 4))) n0))
 (fun n1 b2 b3 n4 => (Y4v 4 n1 b2 b3 n4
 (fun n5 n6 b7 b8 n9 => (cond_ ((true && (decide (0 ≤ (IntKind.wrap .i64 ((length n0 : Int) - 4))))) && (decide ((IntKind.wrap .i64 ((length n0 : Int) - 4)) ≤ (length n0 : Int)))) (Y4k (List.take (toNat ((IntKind.wrap .i64 ((length n0 : Int) - 4)) - 0)) (List.drop (0 : Nat) n0))
 (fun na => (cond_ (n5 != na) (k1 4 []) (cond_ ((true && (decide (0 ≤ (IntKind.wrap .i64 ((length n0 : Int) - 4))))) && (decide ((IntKind.wrap .i64 ((length n0 : Int) - 4)) ≤ (length n0 : Int)))) (cond_ (Nat.ble (((0 : Nat) + (length (List.take (toNat ((IntKind.wrap .i64 ((length n0 : Int) - 4)) - 0)) (List.drop (0 : Nat) n0)))) * (1 : Nat)) (140737488355328 : Nat)) (k1 0 ([] ++ (List.take (toNat ((IntKind.wrap .i64 ((length n0 : Int) - 4)) - 0)) (List.drop (0 : Nat) n0)))) none) none)))) none))))) none))
noncomputable def Y4w : T_Y4w := Y4w.body Y4n Y4v Y4k
def Y4w.p : FPat := fp 28 (pl (pb 1 5 (.int .u8)) pz) pz
def Y4w.g (F : T_Y4w) (v : Y4w.p.T) (k : KR) : OB := F v.1.1 (fun y0 y1 => k (.tup [(.ref [1, 0]), (.d ⟨(.int .i64), y0⟩)]) [([1, 0], ⟨5, 1, (.data (.int .u8) y1)⟩)])
theorem Y4w.eq (F0 : T_Y4n) (F1 : T_Y4v) (F2 : T_Y4k) : ∀ v k, exF Tryz.f28 Y4w.p [⟨Y4n.p, Y4n.g F0⟩, ⟨Y4v.p, Y4v.g F1⟩, ⟨Y4k.p, Y4k.g F2⟩] [] [] v k = Y4w.g (Y4w.body F0 F1 F2) v k := fun v k => by kernel_rfl
theorem Y4w.ok : okF 5 Y4w.p (Y4w.g Y4w) := fn2 (Y4w.eq Y4n Y4v Y4k) Tryz.func28 (by kernel_rfl) (.cons Y4n.ok (.cons Y4v.ok (.cons Y4k.ok .nil))) [] (by kernel_rfl) .nil
abbrev T_Y4x : Type := Int → Int → Int → Bool → Bool → (List Int) → Int → Int → (Int → Bool → Bool → (List Int) → Int → OB) → OB
noncomputable def Y4x.body (Y4x : T_Y4x) (Y4v : T_Y4v) : T_Y4x := fun n0 n1 n2 b3 b4 n5 n6 n7 k1 =>
  (cond_ (decide (n1 < n0)) (cond_ (n1 == 0) (Y4v n7 n2 b3 b4 n5
 (fun n8 n9 ba bb nc => (Y4x n0 (IntKind.wrap .i64 (n1 + 1)) n9 ba bb nc n8 n7 k1))) none) (k1 n2 b3 b4 n5 n6))
noncomputable def Y4x : Nat → T_Y4x
  | 0 => fun _ _ _ _ _ _ _ _ _ => none
  | n + 1 => Y4x.body (Y4x n) Y4v
def Y4x.p : LPat := lp 2 23 [1, 3, 8, 9, 10] (ps (pq [0, 0] 0 0) (ps (pq [1, 0] 0 0) (ps (pr [0, 2]) (pl (pd (.int .i64)) (pl (pd (.int .i64)) pz))))) (pl (po [0, 0] 159 4 (em (pl (pa (ps (pr [0, 1]) (pl (pd (.int .i64)) (pl (pd .bool) (pl (pd .bool) pz))))) pz))) (pl (po [0, 1] 5 1 (ed (.int .u8))) (ps (po [0, 2] 167 1 (em (ps (pq [0, 3] 0 4) pz))) (pl (po [0, 3] 40 5 (em (pl (pa (ps (pk 0) (ps (pk 0) (ps (pk 0) (ps (pk 0) (pl (pd (.int .i64)) pz)))))) pz))) (pl (po [1, 0] 165 2 (em (pl (pa (pl (pf 56 pz pz) (pl (pd (.int .i64)) pz))) pz))) pz)))))
def Y4x.g (F : T_Y4x) (v : Y4x.p.T) (k : KE) : OB := F v.1.1 v.1.2.1 v.2.1.1.1 v.2.1.1.2.1 v.2.1.1.2.2.1 v.2.2.1 v.2.2.2.1.1.1 v.2.2.2.2.1.1.2.1 (fun y0 y1 y2 y3 y4 => k (.exit 0) ⟨fillS 23 [] [], [([0, 0], ⟨159, 4, (.mix [(.agg [(.ref [0, 1]), (.d ⟨(.int .i64), y0⟩), (.d ⟨.bool, y1⟩), (.d ⟨.bool, y2⟩)])])⟩), ([0, 1], ⟨5, 1, (.data (.int .u8) y3)⟩), ([0, 2], ⟨167, 1, (.mix [(.ptr [0, 3] 0 4)])⟩), ([0, 3], ⟨40, 5, (.mix [(.agg [.nils, .nils, .nils, .nils, (.d ⟨(.int .i64), y4⟩)])])⟩)], 2⟩)
theorem Y4x.step (S : T_Y4x) (F0 : T_Y4v) : ∀ v k, exR 90 Tryz.f90 0 Y4x.p [⟨Y4v.p, Y4v.g F0⟩] [] [] (Y4x.g S) v k = Y4x.g (Y4x.body S F0) v k := fun v k => by kernel_rfl
theorem Y4x.ok : okL 90 Tryz.f90 4 0 Y4x.p (Y4x.g (Y4x ROUNDS)) := loop2 (G := fun n => Y4x.g (Y4x n)) (fun n => Y4x.step (Y4x n) Y4v) (.cons Y4v.ok .nil) [] (by kernel_rfl) .nil (fun _ _ => rfl)
abbrev T_Y4y : Type := Int → Int → Bool → Bool → (List Int) → Int → (Int → Bool → Bool → (List Int) → Int → OB) → OB
noncomputable def Y4y.body (Y4x : T_Y4x) : T_Y4y := fun n0 n1 b2 b3 n4 n5 k1 =>
  (Y4x 1 0 n1 b2 b3 n4 n5 n0
 (fun n6 b7 b8 n9 na => (k1 n6 b7 b8 n9 na)))
noncomputable def Y4y : T_Y4y := Y4y.body (Y4x ROUNDS)
def Y4y.p : FPat := fp 90 (pl (pa (pl (pf 56 pz pz) (pl (pd (.int .i64)) pz))) (ps (pq [0, 0] 0 0) (ps (pr [0, 2]) pz))) (pl (po [0, 0] 159 4 (em (pl (pa (ps (pr [0, 1]) (pl (pd (.int .i64)) (pl (pd .bool) (pl (pd .bool) pz))))) pz))) (pl (po [0, 1] 5 1 (ed (.int .u8))) (ps (po [0, 2] 167 1 (em (ps (pq [0, 3] 0 4) pz))) (pl (po [0, 3] 40 5 (em (pl (pa (ps (pk 0) (ps (pk 0) (ps (pk 0) (ps (pk 0) (pl (pd (.int .i64)) pz)))))) pz))) pz))))
def Y4y.g (F : T_Y4y) (v : Y4y.p.T) (k : KR) : OB := F v.1.1.2.1 v.2.1.1.1 v.2.1.1.2.1 v.2.1.1.2.2.1 v.2.2.1 v.2.2.2.1.1.1 (fun y0 y1 y2 y3 y4 => k (.tup []) [([0, 0], ⟨159, 4, (.mix [(.agg [(.ref [0, 1]), (.d ⟨(.int .i64), y0⟩), (.d ⟨.bool, y1⟩), (.d ⟨.bool, y2⟩)])])⟩), ([0, 1], ⟨5, 1, (.data (.int .u8) y3)⟩), ([0, 2], ⟨167, 1, (.mix [(.ptr [0, 3] 0 4)])⟩), ([0, 3], ⟨40, 5, (.mix [(.agg [.nils, .nils, .nils, .nils, (.d ⟨(.int .i64), y4⟩)])])⟩)])
theorem Y4y.eq (L0 : T_Y4x) : ∀ v k, exF Tryz.f90 Y4y.p [] [] [⟨0, Y4x.p, Y4x.g L0⟩] v k = Y4y.g (Y4y.body L0) v k := fun v k => by kernel_rfl
theorem Y4y.ok : okF 5 Y4y.p (Y4y.g Y4y) := fn2 (Y4y.eq (Y4x ROUNDS)) Tryz.func90 (by kernel_rfl) .nil [0] (by kernel_rfl) (.cons Y4x.ok .nil)
abbrev T_Y4z : Type := Int → Int → Int → Bool → Bool → (List Int) → Tc3 → Int → (Int → Bool → Bool → (List Int) → Tc3 → OB) → OB
noncomputable def Y4z.body (Y4z : T_Y4z) (Y4v : T_Y4v) : T_Y4z := fun n0 n1 n2 b3 b4 n5 t6 n7 k1 =>
  (cond_ (decide (n1 < n0)) (cond_ (n1 == 0) (Y4v n7 n2 b3 b4 n5
 (fun n8 n9 ba bb nc => (Y4z n0 (IntKind.wrap .i64 (n1 + 1)) n9 ba bb nc (n8, (t6.2.1, (t6.2.2.1, (t6.2.2.2.1, (t6.2.2.2.2.1, ()))))) n7 k1))) (cond_ (n1 == 1) (Y4v n7 n2 b3 b4 n5
 (fun nd ne bf bg nh => (Y4z n0 (IntKind.wrap .i64 (n1 + 1)) ne bf bg nh (t6.1, (nd, (t6.2.2.1, (t6.2.2.2.1, (t6.2.2.2.2.1, ()))))) n7 k1))) (cond_ (n1 == 2) (Y4v n7 n2 b3 b4 n5
 (fun ni nj bk bl nm => (Y4z n0 (IntKind.wrap .i64 (n1 + 1)) nj bk bl nm (t6.1, (t6.2.1, (ni, (t6.2.2.2.1, (t6.2.2.2.2.1, ()))))) n7 k1))) (cond_ (n1 == 3) (Y4v n7 n2 b3 b4 n5
 (fun nn no bp bq nr => (Y4z n0 (IntKind.wrap .i64 (n1 + 1)) no bp bq nr (t6.1, (t6.2.1, (t6.2.2.1, (nn, (t6.2.2.2.2.1, ()))))) n7 k1))) none)))) (k1 n2 b3 b4 n5 t6))
noncomputable def Y4z : Nat → T_Y4z
  | 0 => fun _ _ _ _ _ _ _ _ _ => none
  | n + 1 => Y4z.body (Y4z n) Y4v
def Y4z.p : LPat := lp 2 23 [1, 3, 8, 9, 10] (ps (pq [0, 0] 0 0) (ps (pq [1, 0] 0 0) (ps (pr [0, 2]) (pl (pd (.int .i64)) (pl (pd (.int .i64)) pz))))) (pl (po [0, 0] 159 4 (em (pl (pa (ps (pr [0, 1]) (pl (pd (.int .i64)) (pl (pd .bool) (pl (pd .bool) pz))))) pz))) (pl (po [0, 1] 5 1 (ed (.int .u8))) (ps (po [0, 2] 167 1 (em (ps (pq [0, 3] 0 0) (ps (pq [0, 3] 0 1) (ps (pq [0, 3] 0 2) (ps (pq [0, 3] 0 3) pz)))))) (pl (po [0, 3] 69 5 (es Ty15 (pl eh pz))) (pl (po [1, 0] 165 2 (em (pl (pa (pl (pf 56 pz pz) (pl (pd (.int .i64)) pz))) pz))) pz)))))
def Y4z.g (F : T_Y4z) (v : Y4z.p.T) (k : KE) : OB := F v.1.1 v.1.2.1 v.2.1.1.1 v.2.1.1.2.1 v.2.1.1.2.2.1 v.2.2.1 v.2.2.2.1.1 v.2.2.2.2.1.1.2.1 (fun y0 y1 y2 y3 y4 => k (.exit 0) ⟨fillS 23 [] [], [([0, 0], ⟨159, 4, (.mix [(.agg [(.ref [0, 1]), (.d ⟨(.int .i64), y0⟩), (.d ⟨.bool, y1⟩), (.d ⟨.bool, y2⟩)])])⟩), ([0, 1], ⟨5, 1, (.data (.int .u8) y3)⟩), ([0, 2], ⟨167, 1, (.mix [(.ptr [0, 3] 0 0), (.ptr [0, 3] 0 1), (.ptr [0, 3] 0 2), (.ptr [0, 3] 0 3)])⟩), ([0, 3], ⟨69, 5, (.data Ty15 [y4])⟩)], 2⟩)
theorem Y4z.step (S : T_Y4z) (F0 : T_Y4v) : ∀ v k, exR 90 Tryz.f90 0 Y4z.p [⟨Y4v.p, Y4v.g F0⟩] [] [] (Y4z.g S) v k = Y4z.g (Y4z.body S F0) v k := fun v k => by kernel_rfl
theorem Y4z.ok : okL 90 Tryz.f90 4 0 Y4z.p (Y4z.g (Y4z ROUNDS)) := loop2 (G := fun n => Y4z.g (Y4z n)) (fun n => Y4z.step (Y4z n) Y4v) (.cons Y4v.ok .nil) [] (by kernel_rfl) .nil (fun _ _ => rfl)
abbrev T_Y50 : Type := Int → Int → Bool → Bool → (List Int) → Tc3 → (Int → Bool → Bool → (List Int) → Tc3 → OB) → OB
noncomputable def Y50.body (Y4z : T_Y4z) : T_Y50 := fun n0 n1 b2 b3 n4 t5 k1 =>
  (Y4z 4 0 n1 b2 b3 n4 t5 n0
 (fun n6 b7 b8 n9 ta => (k1 n6 b7 b8 n9 ta)))
noncomputable def Y50 : T_Y50 := Y50.body (Y4z ROUNDS)
def Y50.p : FPat := fp 90 (pl (pa (pl (pf 56 pz pz) (pl (pd (.int .i64)) pz))) (ps (pq [0, 0] 0 0) (ps (pr [0, 2]) pz))) (pl (po [0, 0] 159 4 (em (pl (pa (ps (pr [0, 1]) (pl (pd (.int .i64)) (pl (pd .bool) (pl (pd .bool) pz))))) pz))) (pl (po [0, 1] 5 1 (ed (.int .u8))) (ps (po [0, 2] 167 1 (em (ps (pq [0, 3] 0 0) (ps (pq [0, 3] 0 1) (ps (pq [0, 3] 0 2) (ps (pq [0, 3] 0 3) pz)))))) (pl (po [0, 3] 69 5 (es Ty15 (pl eh pz))) pz))))
def Y50.g (F : T_Y50) (v : Y50.p.T) (k : KR) : OB := F v.1.1.2.1 v.2.1.1.1 v.2.1.1.2.1 v.2.1.1.2.2.1 v.2.2.1 v.2.2.2.1.1 (fun y0 y1 y2 y3 y4 => k (.tup []) [([0, 0], ⟨159, 4, (.mix [(.agg [(.ref [0, 1]), (.d ⟨(.int .i64), y0⟩), (.d ⟨.bool, y1⟩), (.d ⟨.bool, y2⟩)])])⟩), ([0, 1], ⟨5, 1, (.data (.int .u8) y3)⟩), ([0, 2], ⟨167, 1, (.mix [(.ptr [0, 3] 0 0), (.ptr [0, 3] 0 1), (.ptr [0, 3] 0 2), (.ptr [0, 3] 0 3)])⟩), ([0, 3], ⟨69, 5, (.data Ty15 [y4])⟩)])
theorem Y50.eq (L0 : T_Y4z) : ∀ v k, exF Tryz.f90 Y50.p [] [] [⟨0, Y4z.p, Y4z.g L0⟩] v k = Y50.g (Y50.body L0) v k := fun v k => by kernel_rfl
theorem Y50.ok : okF 5 Y50.p (Y50.g Y50) := fn2 (Y50.eq (Y4z ROUNDS)) Tryz.func90 (by kernel_rfl) .nil [0] (by kernel_rfl) (.cons Y4z.ok .nil)
abbrev T_Y51 : Type := Int → Int → Bool → Bool → (List Int) → (Int → Int → Bool → Bool → (List Int) → OB) → OB
noncomputable def Y51.body (Y4u : T_Y4u) : T_Y51 := fun n0 n1 b2 b3 n4 k1 =>
  (Y4u n0 n1 b2 b3 n4
 (fun n5 n6 b7 b8 n9 na => (cond_ ((length na : Int) == 0) (k1 0 n6 b7 b8 n9) (cond_ (decide (0 ≤ (IntKind.wrap .u64 (8 * (IntKind.wrap .u64 (IntKind.wrap .i64 (8 - (length na : Int)))))))) (cond_ (decide (0 ≤ (IntKind.wrap .u64 (8 * (IntKind.wrap .u64 (IntKind.wrap .i64 (8 - (length na : Int)))))))) (k1 (Int.fdiv (IntKind.wrap .i64 (n5 * (2 ^ (min (toNat (IntKind.wrap .u64 (8 * (IntKind.wrap .u64 (IntKind.wrap .i64 (8 - (length na : Int))))))) (64 : Nat))))) (2 ^ (min (toNat (IntKind.wrap .u64 (8 * (IntKind.wrap .u64 (IntKind.wrap .i64 (8 - (length na : Int))))))) (64 : Nat)))) n6 b7 b8 n9) none) none)))
 (fun nb mc md ne bf bg nh => (cond_ (((md : Nat) : Int) == 0) (k1 0 ne bf bg nh) (cond_ (decide (0 ≤ (IntKind.wrap .u64 (8 * (IntKind.wrap .u64 (IntKind.wrap .i64 (8 - ((md : Nat) : Int)))))))) (cond_ (decide (0 ≤ (IntKind.wrap .u64 (8 * (IntKind.wrap .u64 (IntKind.wrap .i64 (8 - ((md : Nat) : Int)))))))) (k1 (Int.fdiv (IntKind.wrap .i64 (nb * (2 ^ (min (toNat (IntKind.wrap .u64 (8 * (IntKind.wrap .u64 (IntKind.wrap .i64 (8 - ((md : Nat) : Int))))))) (64 : Nat))))) (2 ^ (min (toNat (IntKind.wrap .u64 (8 * (IntKind.wrap .u64 (IntKind.wrap .i64 (8 - ((md : Nat) : Int))))))) (64 : Nat)))) ne bf bg nh) none) none))))
noncomputable def Y51 : T_Y51 := Y51.body Y4u
def Y51.p : FPat := fp 89 (ps (pq [0, 0] 0 0) (pl (pd (.int .i64)) pz)) (pl (po [0, 0] 159 4 (em (pl (pa (ps (pr [0, 1]) (pl (pd (.int .i64)) (pl (pd .bool) (pl (pd .bool) pz))))) pz))) (pl (po [0, 1] 5 1 (ed (.int .u8))) pz))
def Y51.g (F : T_Y51) (v : Y51.p.T) (k : KR) : OB := F v.1.1 v.2.1.1.1 v.2.1.1.2.1 v.2.1.1.2.2.1 v.2.2.1 (fun y0 y1 y2 y3 y4 => k (.d ⟨(.int .i64), y0⟩) [([0, 0], ⟨159, 4, (.mix [(.agg [(.ref [0, 1]), (.d ⟨(.int .i64), y1⟩), (.d ⟨.bool, y2⟩), (.d ⟨.bool, y3⟩)])])⟩), ([0, 1], ⟨5, 1, (.data (.int .u8) y4)⟩)])
theorem Y51.eq (F0 : T_Y4u) : ∀ v k, exF Tryz.f89 Y51.p [⟨Y4u.p, Y4u.g F0⟩] [] [] v k = Y51.g (Y51.body F0) v k := fun v k => by kernel_rfl
theorem Y51.ok : okF 4 Y51.p (Y51.g Y51) := fn2 (Y51.eq Y4u) Tryz.func89 (by kernel_rfl) (.cons Y4u.ok .nil) [] (by kernel_rfl) .nil
abbrev T_Y52 : Type := Int → Int → Bool → Bool → (List Int) → Int → Int → Tc8 → Tc10 → (Int → Int → Bool → Bool → (List Int) → Int → Int → Tc10 → Tc8 → OB) → OB
noncomputable def Y52.body (Y50 : T_Y50) (Y51 : T_Y51) : T_Y52 := fun n0 n1 b2 b3 n4 n5 n6 t7 t8 k1 =>
  (Y50 n0 n1 b2 b3 n4 ZIns
 (fun n9 ba bb nc td => (Y51 n5 n9 ba bb nc
 (fun ne nf bg bh ni => (cond_ (Nat.ble (((length t7) + (length ((td.1, (td.2.1, (td.2.2.1, (td.2.2.2.1, (ne, ()))))) :: []))) * (40 : Nat)) (140737488355328 : Nat)) (k1 n0 nf bg bh ni n5 n6 t8 (t7 ++ ((td.1, (td.2.1, (td.2.2.1, (td.2.2.2.1, (ne, ()))))) :: []))) none)))))
noncomputable def Y52 : T_Y52 := Y52.body Y50 Y51
def Y52.p : FPat := fp 92 (ps (pq [0, 0] 0 0) (ps (pq [0, 1] 0 0) (ps (pq [0, 4] 0 0) (ps (pq [0, 5] 0 0) pz)))) (pl (po [0, 0] 165 2 (em (pl (pa (pl (pf 56 pz pz) (pl (pd (.int .i64)) pz))) pz))) (ps (po [0, 1] 127 1 (em (ps (pq [0, 2] 0 0) pz))) (pl (po [0, 2] 159 4 (em (pl (pa (ps (pr [0, 3]) (pl (pd (.int .i64)) (pl (pd .bool) (pl (pd .bool) pz))))) pz))) (pl (po [0, 3] 5 1 (ed (.int .u8))) (pl (po [0, 4] 165 2 (em (pl (pa (pl (pf 89 pz pz) (pl (pd (.int .i64)) pz))) pz))) (pl (po [0, 5] 40 5 (em (pl (pa (ps (pr [0, 6]) (ps (pk 0) (ps (pr [0, 7]) (ps (pk 0) (pl (pd (.int .i64)) pz)))))) pz))) (pl (po [0, 6] 69 5 (ed Ty15)) (pl (po [0, 7] 72 6 (ed Ty18)) pz))))))))
def Y52.g (F : T_Y52) (v : Y52.p.T) (k : KR) : OB := F v.2.1.1.2.1 v.2.2.1.1.1 v.2.2.1.1.2.1 v.2.2.1.1.2.2.1 v.2.2.2.1 v.2.2.2.2.1.1.2.1 v.2.2.2.2.2.1.1.1 v.2.2.2.2.2.2.1 v.2.2.2.2.2.2.2.1 (fun y0 y1 y2 y3 y4 y5 y6 y7 y8 => k (.tup []) [([0, 0], ⟨165, 2, (.mix [(.agg [(.fn (.func 56) [] []), (.d ⟨(.int .i64), y0⟩)])])⟩), ([0, 1], ⟨127, 1, (.mix [(.ptr [0, 2] 0 0)])⟩), ([0, 2], ⟨159, 4, (.mix [(.agg [(.ref [0, 3]), (.d ⟨(.int .i64), y1⟩), (.d ⟨.bool, y2⟩), (.d ⟨.bool, y3⟩)])])⟩), ([0, 3], ⟨5, 1, (.data (.int .u8) y4)⟩), ([0, 4], ⟨165, 2, (.mix [(.agg [(.fn (.func 89) [] []), (.d ⟨(.int .i64), y5⟩)])])⟩), ([0, 5], ⟨40, 5, (.mix [(.agg [(.ref [1, 0]), .nils, (.ref [0, 7]), .nils, (.d ⟨(.int .i64), y6⟩)])])⟩), ([0, 7], ⟨72, 6, (.data Ty18 y7)⟩), ([1, 0], ⟨69, 5, (.data Ty15 y8)⟩)])
theorem Y52.eq (F0 : T_Y50) (F1 : T_Y51) : ∀ v k, exF Tryz.f92 Y52.p [⟨Y50.p, Y50.g F0⟩, ⟨Y51.p, Y51.g F1⟩] [] [] v k = Y52.g (Y52.body F0 F1) v k := fun v k => by kernel_rfl
theorem Y52.ok : okF 6 Y52.p (Y52.g Y52) := fn2 (Y52.eq Y50 Y51) Tryz.func92 (by kernel_rfl) (.cons Y50.ok (.cons Y51.ok .nil)) [] (by kernel_rfl) .nil
abbrev T_Y53 : Type := Int → Int → Int → Bool → Bool → (List Int) → Int → Int → Int → Tc8 → Tc10 → (Int → Bool → Bool → (List Int) → Int → Int → Int → Tc8 → Tc10 → OB) → (Int → Bool → Bool → (List Int) → Int → Int → Int → Tc8 → Tc10 → OB) → OB
noncomputable def Y53.body (Y53 : T_Y53) (Y4o : T_Y4o) (Y52 : T_Y52) : T_Y53 := fun n0 n1 n2 b3 b4 n5 n6 n7 n8 t9 ta k1 k2 =>
  (cond_ (decide (n1 < n0)) (Y4o n2 b3 b4 n5
 (fun bb nc bd be nf => (cond_ bb (k1 nc bd be nf n6 n7 n8 t9 ta) (Y52 n6 nc bd be nf n7 n8 t9 ta
 (fun ng nh bi bj nk nl nm tn to => (Y53 n0 (IntKind.wrap .i64 (n1 + 1)) nh bi bj nk ng nl nm to tn k1 k2)))))) (k2 n2 b3 b4 n5 n6 n7 n8 t9 ta))
noncomputable def Y53 : Nat → T_Y53
  | 0 => fun _ _ _ _ _ _ _ _ _ _ _ _ _ => none
  | n + 1 => Y53.body (Y53 n) Y4o Y52
def Y53.p : LPat := lp 2 13 [0, 1, 5, 6] (ps (pq [0, 0] 0 0) (pl (pf 92 pz (ps (pq [0, 2] 0 0) (ps (pq [0, 3] 0 0) (ps (pq [0, 4] 0 0) (ps (pq [0, 5] 0 0) pz))))) (pl (pd (.int .i64)) (pl (pd (.int .i64)) pz)))) (pl (po [0, 0] 159 4 (em (pl (pa (ps (pr [0, 1]) (pl (pd (.int .i64)) (pl (pd .bool) (pl (pd .bool) pz))))) pz))) (pl (po [0, 1] 5 1 (ed (.int .u8))) (pl (po [0, 2] 165 2 (em (pl (pa (pl (pf 56 pz pz) (pl (pd (.int .i64)) pz))) pz))) (ps (po [0, 3] 127 1 (em (ps (pq [0, 0] 0 0) pz))) (pl (po [0, 4] 165 2 (em (pl (pa (pl (pf 89 pz pz) (pl (pd (.int .i64)) pz))) pz))) (pl (po [0, 5] 40 5 (em (pl (pa (ps (pr [1, 0]) (ps (pk 0) (ps (pr [1, 1]) (ps (pk 0) (pl (pd (.int .i64)) pz)))))) pz))) (pl (po [1, 0] 69 5 (ed Ty15)) (pl (po [1, 1] 72 6 (ed Ty18)) pz))))))))
def Y53.g (F : T_Y53) (v : Y53.p.T) (k : KE) : OB := F v.1.2.1 v.1.2.2.1 v.2.1.1.1 v.2.1.1.2.1 v.2.1.1.2.2.1 v.2.2.1 v.2.2.2.1.1.2.1 v.2.2.2.2.1.1.2.1 v.2.2.2.2.2.1.1.1 v.2.2.2.2.2.2.1 v.2.2.2.2.2.2.2.1 (fun y0 y1 y2 y3 y4 y5 y6 y7 y8 => k .ret ⟨fillS 13 [] [], [([0, 0], ⟨159, 4, (.mix [(.agg [(.ref [0, 1]), (.d ⟨(.int .i64), y0⟩), (.d ⟨.bool, y1⟩), (.d ⟨.bool, y2⟩)])])⟩), ([0, 1], ⟨5, 1, (.data (.int .u8) y3)⟩), ([0, 2], ⟨165, 2, (.mix [(.agg [(.fn (.func 56) [] []), (.d ⟨(.int .i64), y4⟩)])])⟩), ([0, 3], ⟨127, 1, (.mix [(.ptr [0, 0] 0 0)])⟩), ([0, 4], ⟨165, 2, (.mix [(.agg [(.fn (.func 89) [] []), (.d ⟨(.int .i64), y5⟩)])])⟩), ([0, 5], ⟨40, 5, (.mix [(.agg [(.ref [1, 0]), .nils, (.ref [1, 1]), .nils, (.d ⟨(.int .i64), y6⟩)])])⟩), ([1, 0], ⟨69, 5, (.data Ty15 y7)⟩), ([1, 1], ⟨72, 6, (.data Ty18 y8)⟩)], 2⟩) (fun y0 y1 y2 y3 y4 y5 y6 y7 y8 => k (.exit 0) ⟨fillS 13 [] [], [([0, 0], ⟨159, 4, (.mix [(.agg [(.ref [0, 1]), (.d ⟨(.int .i64), y0⟩), (.d ⟨.bool, y1⟩), (.d ⟨.bool, y2⟩)])])⟩), ([0, 1], ⟨5, 1, (.data (.int .u8) y3)⟩), ([0, 2], ⟨165, 2, (.mix [(.agg [(.fn (.func 56) [] []), (.d ⟨(.int .i64), y4⟩)])])⟩), ([0, 3], ⟨127, 1, (.mix [(.ptr [0, 0] 0 0)])⟩), ([0, 4], ⟨165, 2, (.mix [(.agg [(.fn (.func 89) [] []), (.d ⟨(.int .i64), y5⟩)])])⟩), ([0, 5], ⟨40, 5, (.mix [(.agg [(.ref [1, 0]), .nils, (.ref [1, 1]), .nils, (.d ⟨(.int .i64), y6⟩)])])⟩), ([1, 0], ⟨69, 5, (.data Ty15 y7)⟩), ([1, 1], ⟨72, 6, (.data Ty18 y8)⟩)], 2⟩)
theorem Y53.step (S : T_Y53) (F0 : T_Y4o) (F1 : T_Y52) : ∀ v k, exR 91 Tryz.f91 0 Y53.p [⟨Y4o.p, Y4o.g F0⟩, ⟨Y52.p, Y52.g F1⟩] [] [] (Y53.g S) v k = Y53.g (Y53.body S F0 F1) v k := fun v k => by kernel_rfl
theorem Y53.ok : okL 91 Tryz.f91 6 0 Y53.p (Y53.g (Y53 ROUNDS)) := loop2 (G := fun n => Y53.g (Y53 n)) (fun n => Y53.step (Y53 n) Y4o Y52) (.cons Y4o.ok (.cons Y52.ok .nil)) [] (by kernel_rfl) .nil (fun _ _ => rfl)
abbrev T_Y54 : Type := Int → Bool → Bool → (List Int) → Int → Int → Int → (Int → Bool → Bool → (List Int) → Int → Int → Int → Tc8 → Tc10 → OB) → OB
noncomputable def Y54.body (Y4v : T_Y4v) (Y53 : T_Y53) : T_Y54 := fun n0 b1 b2 n3 n4 n5 n6 k1 =>
  (Y4v 2 n0 b1 b2 n3
 (fun n7 n8 b9 ba nb => (Y53 n7 0 n8 b9 ba nb n4 n5 n6 [] []
 (fun nc bd be nf ng nh ni tj tk => (k1 nc bd be nf ng nh ni tj tk))
 (fun nl bm bn no np nq nr ts tt => (k1 nl bm bn no np nq nr ts tt)))))
noncomputable def Y54 : T_Y54 := Y54.body Y4v (Y53 ROUNDS)
def Y54.p : FPat := fp 91 (ps (pq [0, 0] 0 0) (pl (pf 92 pz (ps (pq [0, 2] 0 0) (ps (pq [0, 3] 0 0) (ps (pq [0, 4] 0 0) (ps (pq [0, 5] 0 0) pz))))) pz)) (pl (po [0, 0] 159 4 (em (pl (pa (ps (pr [0, 1]) (pl (pd (.int .i64)) (pl (pd .bool) (pl (pd .bool) pz))))) pz))) (pl (po [0, 1] 5 1 (ed (.int .u8))) (pl (po [0, 2] 165 2 (em (pl (pa (pl (pf 56 pz pz) (pl (pd (.int .i64)) pz))) pz))) (ps (po [0, 3] 127 1 (em (ps (pq [0, 0] 0 0) pz))) (pl (po [0, 4] 165 2 (em (pl (pa (pl (pf 89 pz pz) (pl (pd (.int .i64)) pz))) pz))) (pl (po [0, 5] 40 5 (em (pl (pa (ps (pk 0) (ps (pk 0) (ps (pk 0) (ps (pk 0) (pl (pd (.int .i64)) pz)))))) pz))) pz))))))
def Y54.g (F : T_Y54) (v : Y54.p.T) (k : KR) : OB := F v.2.1.1.1 v.2.1.1.2.1 v.2.1.1.2.2.1 v.2.2.1 v.2.2.2.1.1.2.1 v.2.2.2.2.1.1.2.1 v.2.2.2.2.2.1.1.1 (fun y0 y1 y2 y3 y4 y5 y6 y7 y8 => k (.tup []) [([0, 0], ⟨159, 4, (.mix [(.agg [(.ref [0, 1]), (.d ⟨(.int .i64), y0⟩), (.d ⟨.bool, y1⟩), (.d ⟨.bool, y2⟩)])])⟩), ([0, 1], ⟨5, 1, (.data (.int .u8) y3)⟩), ([0, 2], ⟨165, 2, (.mix [(.agg [(.fn (.func 56) [] []), (.d ⟨(.int .i64), y4⟩)])])⟩), ([0, 3], ⟨127, 1, (.mix [(.ptr [0, 0] 0 0)])⟩), ([0, 4], ⟨165, 2, (.mix [(.agg [(.fn (.func 89) [] []), (.d ⟨(.int .i64), y5⟩)])])⟩), ([0, 5], ⟨40, 5, (.mix [(.agg [(.ref [1, 0]), .nils, (.ref [1, 1]), .nils, (.d ⟨(.int .i64), y6⟩)])])⟩), ([1, 0], ⟨69, 5, (.data Ty15 y7)⟩), ([1, 1], ⟨72, 6, (.data Ty18 y8)⟩)])
theorem Y54.eq (F0 : T_Y4v) (L0 : T_Y53) : ∀ v k, exF Tryz.f91 Y54.p [⟨Y4v.p, Y4v.g F0⟩] [] [⟨0, Y53.p, Y53.g L0⟩] v k = Y54.g (Y54.body F0 L0) v k := fun v k => by kernel_rfl
theorem Y54.ok : okF 7 Y54.p (Y54.g Y54) := fn2 (Y54.eq Y4v (Y53 ROUNDS)) Tryz.func91 (by kernel_rfl) (.cons Y4v.ok .nil) [0] (by kernel_rfl) (.cons Y53.ok .nil)
abbrev T_Y55 : Type := Int → Tc8 → (List Int) → Tc10 → Int → Bool → Bool → (List Int) → (Int → Tc8 → Tc10 → Int → Bool → Bool → (List Int) → (List Int) → OB) → OB
noncomputable def Y55.body (Y4v : T_Y4v) : T_Y55 := fun n0 t1 n2 t3 n4 b5 b6 n7 k1 =>
  (Y4v 8 n4 b5 b6 n7
 (fun n8 n9 ba bb nc => (cond_ (Nat.ble (((length n2) + (length (n8 :: []))) * (8 : Nat)) (140737488355328 : Nat)) (k1 n0 t1 t3 n9 ba bb nc (n2 ++ (n8 :: []))) none)))
noncomputable def Y55 : T_Y55 := Y55.body Y4v
def Y55.p : FPat := fp 93 (ps (pq [0, 0] 0 0) (ps (pq [0, 4] 0 0) pz)) (pl (po [0, 0] 40 5 (em (pl (pa (ps (pr [0, 1]) (ps (pr [0, 2]) (ps (pr [0, 3]) (ps (pk 0) (pl (pd (.int .i64)) pz)))))) pz))) (pl (po [0, 1] 69 5 (ed Ty15)) (pl (po [0, 2] 2 1 (ed (.int .i64))) (pl (po [0, 3] 72 6 (ed Ty18)) (ps (po [0, 4] 127 1 (em (ps (pq [0, 5] 0 0) pz))) (pl (po [0, 5] 159 4 (em (pl (pa (ps (pr [0, 6]) (pl (pd (.int .i64)) (pl (pd .bool) (pl (pd .bool) pz))))) pz))) (pl (po [0, 6] 5 1 (ed (.int .u8))) pz)))))))
def Y55.g (F : T_Y55) (v : Y55.p.T) (k : KR) : OB := F v.2.1.1.1 v.2.2.1 v.2.2.2.1 v.2.2.2.2.1 v.2.2.2.2.2.1.1.1 v.2.2.2.2.2.1.1.2.1 v.2.2.2.2.2.1.1.2.2.1 v.2.2.2.2.2.2.1 (fun y0 y1 y2 y3 y4 y5 y6 y7 => k (.tup []) [([0, 0], ⟨40, 5, (.mix [(.agg [(.ref [0, 1]), (.ref [1, 0]), (.ref [0, 3]), .nils, (.d ⟨(.int .i64), y0⟩)])])⟩), ([0, 1], ⟨69, 5, (.data Ty15 y1)⟩), ([0, 3], ⟨72, 6, (.data Ty18 y2)⟩), ([0, 4], ⟨127, 1, (.mix [(.ptr [0, 5] 0 0)])⟩), ([0, 5], ⟨159, 4, (.mix [(.agg [(.ref [0, 6]), (.d ⟨(.int .i64), y3⟩), (.d ⟨.bool, y4⟩), (.d ⟨.bool, y5⟩)])])⟩), ([0, 6], ⟨5, 1, (.data (.int .u8) y6)⟩), ([1, 0], ⟨2, 1, (.data (.int .i64) y7)⟩)])
theorem Y55.eq (F0 : T_Y4v) : ∀ v k, exF Tryz.f93 Y55.p [⟨Y4v.p, Y4v.g F0⟩] [] [] v k = Y55.g (Y55.body F0) v k := fun v k => by kernel_rfl
theorem Y55.ok : okF 5 Y55.p (Y55.g Y55) := fn2 (Y55.eq Y4v) Tryz.func93 (by kernel_rfl) (.cons Y4v.ok .nil) [] (by kernel_rfl) .nil
abbrev T_Y56 : Type := Int → Int → Int → Bool → Bool → (List Int) → Int → Tc8 → Tc10 → (List Int) → (Int → Bool → Bool → (List Int) → Int → Tc8 → Tc10 → (List Int) → OB) → (Int → Bool → Bool → (List Int) → Int → Tc8 → Tc10 → (List Int) → OB) → OB
noncomputable def Y56.body (Y56 : T_Y56) (Y4o : T_Y4o) (Y55 : T_Y55) : T_Y56 := fun n0 n1 n2 b3 b4 n5 n6 t7 t8 n9 k1 k2 =>
  (cond_ (decide (n1 < n0)) (Y4o n2 b3 b4 n5
 (fun ba nb bc bd ne => (cond_ ba (k1 nb bc bd ne n6 t7 t8 n9) (Y55 n6 t7 n9 t8 nb bc bd ne
 (fun nf tg th ni bj bk nl nm => (Y56 n0 (IntKind.wrap .i64 (n1 + 1)) ni bj bk nl nf tg th nm k1 k2)))))) (k2 n2 b3 b4 n5 n6 t7 t8 n9))
noncomputable def Y56 : Nat → T_Y56
  | 0 => fun _ _ _ _ _ _ _ _ _ _ _ _ => none
  | n + 1 => Y56.body (Y56 n) Y4o Y55
def Y56.p : LPat := lp 2 13 [0, 1, 5, 6] (ps (pq [0, 0] 0 0) (pl (pf 93 pz (ps (pq [0, 2] 0 0) (ps (pq [0, 5] 0 0) pz))) (pl (pd (.int .i64)) (pl (pd (.int .i64)) pz)))) (pl (po [0, 0] 159 4 (em (pl (pa (ps (pr [0, 1]) (pl (pd (.int .i64)) (pl (pd .bool) (pl (pd .bool) pz))))) pz))) (pl (po [0, 1] 5 1 (ed (.int .u8))) (pl (po [0, 2] 40 5 (em (pl (pa (ps (pr [0, 3]) (ps (pr [1, 0]) (ps (pr [0, 4]) (ps (pk 0) (pl (pd (.int .i64)) pz)))))) pz))) (pl (po [0, 3] 69 5 (ed Ty15)) (pl (po [0, 4] 72 6 (ed Ty18)) (ps (po [0, 5] 127 1 (em (ps (pq [0, 0] 0 0) pz))) (pl (po [1, 0] 2 1 (ed (.int .i64))) pz)))))))
def Y56.g (F : T_Y56) (v : Y56.p.T) (k : KE) : OB := F v.1.2.1 v.1.2.2.1 v.2.1.1.1 v.2.1.1.2.1 v.2.1.1.2.2.1 v.2.2.1 v.2.2.2.1.1.1 v.2.2.2.2.1 v.2.2.2.2.2.1 v.2.2.2.2.2.2.1 (fun y0 y1 y2 y3 y4 y5 y6 y7 => k .ret ⟨fillS 13 [] [], [([0, 0], ⟨159, 4, (.mix [(.agg [(.ref [0, 1]), (.d ⟨(.int .i64), y0⟩), (.d ⟨.bool, y1⟩), (.d ⟨.bool, y2⟩)])])⟩), ([0, 1], ⟨5, 1, (.data (.int .u8) y3)⟩), ([0, 2], ⟨40, 5, (.mix [(.agg [(.ref [0, 3]), (.ref [1, 0]), (.ref [0, 4]), .nils, (.d ⟨(.int .i64), y4⟩)])])⟩), ([0, 3], ⟨69, 5, (.data Ty15 y5)⟩), ([0, 4], ⟨72, 6, (.data Ty18 y6)⟩), ([0, 5], ⟨127, 1, (.mix [(.ptr [0, 0] 0 0)])⟩), ([1, 0], ⟨2, 1, (.data (.int .i64) y7)⟩)], 2⟩) (fun y0 y1 y2 y3 y4 y5 y6 y7 => k (.exit 0) ⟨fillS 13 [] [], [([0, 0], ⟨159, 4, (.mix [(.agg [(.ref [0, 1]), (.d ⟨(.int .i64), y0⟩), (.d ⟨.bool, y1⟩), (.d ⟨.bool, y2⟩)])])⟩), ([0, 1], ⟨5, 1, (.data (.int .u8) y3)⟩), ([0, 2], ⟨40, 5, (.mix [(.agg [(.ref [0, 3]), (.ref [1, 0]), (.ref [0, 4]), .nils, (.d ⟨(.int .i64), y4⟩)])])⟩), ([0, 3], ⟨69, 5, (.data Ty15 y5)⟩), ([0, 4], ⟨72, 6, (.data Ty18 y6)⟩), ([0, 5], ⟨127, 1, (.mix [(.ptr [0, 0] 0 0)])⟩), ([1, 0], ⟨2, 1, (.data (.int .i64) y7)⟩)], 2⟩)
theorem Y56.step (S : T_Y56) (F0 : T_Y4o) (F1 : T_Y55) : ∀ v k, exR 91 Tryz.f91 0 Y56.p [⟨Y4o.p, Y4o.g F0⟩, ⟨Y55.p, Y55.g F1⟩] [] [] (Y56.g S) v k = Y56.g (Y56.body S F0 F1) v k := fun v k => by kernel_rfl
theorem Y56.ok : okL 91 Tryz.f91 5 0 Y56.p (Y56.g (Y56 ROUNDS)) := loop2 (G := fun n => Y56.g (Y56 n)) (fun n => Y56.step (Y56 n) Y4o Y55) (.cons Y4o.ok (.cons Y55.ok .nil)) [] (by kernel_rfl) .nil (fun _ _ => rfl)
abbrev T_Y57 : Type := Int → Bool → Bool → (List Int) → Int → Tc8 → Tc10 → (Int → Bool → Bool → (List Int) → Int → Tc8 → Tc10 → (List Int) → OB) → OB
noncomputable def Y57.body (Y4v : T_Y4v) (Y56 : T_Y56) : T_Y57 := fun n0 b1 b2 n3 n4 t5 t6 k1 =>
  (Y4v 2 n0 b1 b2 n3
 (fun n7 n8 b9 ba nb => (Y56 n7 0 n8 b9 ba nb n4 t5 t6 []
 (fun nc bd be nf ng th ti nj => (k1 nc bd be nf ng th ti nj))
 (fun nk bl bm nn no tp tq nr => (k1 nk bl bm nn no tp tq nr)))))
noncomputable def Y57 : T_Y57 := Y57.body Y4v (Y56 ROUNDS)
def Y57.p : FPat := fp 91 (ps (pq [0, 0] 0 0) (pl (pf 93 pz (ps (pq [0, 2] 0 0) (ps (pq [0, 5] 0 0) pz))) pz)) (pl (po [0, 0] 159 4 (em (pl (pa (ps (pr [0, 1]) (pl (pd (.int .i64)) (pl (pd .bool) (pl (pd .bool) pz))))) pz))) (pl (po [0, 1] 5 1 (ed (.int .u8))) (pl (po [0, 2] 40 5 (em (pl (pa (ps (pr [0, 3]) (ps (pk 0) (ps (pr [0, 4]) (ps (pk 0) (pl (pd (.int .i64)) pz)))))) pz))) (pl (po [0, 3] 69 5 (ed Ty15)) (pl (po [0, 4] 72 6 (ed Ty18)) (ps (po [0, 5] 127 1 (em (ps (pq [0, 0] 0 0) pz))) pz))))))
def Y57.g (F : T_Y57) (v : Y57.p.T) (k : KR) : OB := F v.2.1.1.1 v.2.1.1.2.1 v.2.1.1.2.2.1 v.2.2.1 v.2.2.2.1.1.1 v.2.2.2.2.1 v.2.2.2.2.2.1 (fun y0 y1 y2 y3 y4 y5 y6 y7 => k (.tup []) [([0, 0], ⟨159, 4, (.mix [(.agg [(.ref [0, 1]), (.d ⟨(.int .i64), y0⟩), (.d ⟨.bool, y1⟩), (.d ⟨.bool, y2⟩)])])⟩), ([0, 1], ⟨5, 1, (.data (.int .u8) y3)⟩), ([0, 2], ⟨40, 5, (.mix [(.agg [(.ref [0, 3]), (.ref [1, 0]), (.ref [0, 4]), .nils, (.d ⟨(.int .i64), y4⟩)])])⟩), ([0, 3], ⟨69, 5, (.data Ty15 y5)⟩), ([0, 4], ⟨72, 6, (.data Ty18 y6)⟩), ([0, 5], ⟨127, 1, (.mix [(.ptr [0, 0] 0 0)])⟩), ([1, 0], ⟨2, 1, (.data (.int .i64) y7)⟩)])
theorem Y57.eq (F0 : T_Y4v) (L0 : T_Y56) : ∀ v k, exF Tryz.f91 Y57.p [⟨Y4v.p, Y4v.g F0⟩] [] [⟨0, Y56.p, Y56.g L0⟩] v k = Y57.g (Y57.body F0 L0) v k := fun v k => by kernel_rfl
theorem Y57.ok : okF 6 Y57.p (Y57.g Y57) := fn2 (Y57.eq Y4v (Y56 ROUNDS)) Tryz.func91 (by kernel_rfl) (.cons Y4v.ok .nil) [0] (by kernel_rfl) (.cons Y56.ok .nil)
abbrev T_Y58 : Type := Int → Int → Int → Bool → Bool → (List Int) → Tc6 → Int → (Int → Bool → Bool → (List Int) → Tc6 → OB) → OB
noncomputable def Y58.body (Y58 : T_Y58) (Y4v : T_Y4v) : T_Y58 := fun n0 n1 n2 b3 b4 n5 t6 n7 k1 =>
  (cond_ (decide (n1 < n0)) (cond_ (n1 == 0) (Y4v n7 n2 b3 b4 n5
 (fun n8 n9 ba bb nc => (Y58 n0 (IntKind.wrap .i64 (n1 + 1)) n9 ba bb nc (n8, (t6.2.1, (t6.2.2.1, (t6.2.2.2.1, (t6.2.2.2.2.1, (t6.2.2.2.2.2.1, ())))))) n7 k1))) (cond_ (n1 == 1) (Y4v n7 n2 b3 b4 n5
 (fun nd ne bf bg nh => (Y58 n0 (IntKind.wrap .i64 (n1 + 1)) ne bf bg nh (t6.1, (nd, (t6.2.2.1, (t6.2.2.2.1, (t6.2.2.2.2.1, (t6.2.2.2.2.2.1, ())))))) n7 k1))) none)) (k1 n2 b3 b4 n5 t6))
noncomputable def Y58 : Nat → T_Y58
  | 0 => fun _ _ _ _ _ _ _ _ _ => none
  | n + 1 => Y58.body (Y58 n) Y4v
def Y58.p : LPat := lp 2 23 [1, 3, 8, 9, 10] (ps (pq [0, 0] 0 0) (ps (pq [1, 0] 0 0) (ps (pr [0, 2]) (pl (pd (.int .i64)) (pl (pd (.int .i64)) pz))))) (pl (po [0, 0] 159 4 (em (pl (pa (ps (pr [0, 1]) (pl (pd (.int .i64)) (pl (pd .bool) (pl (pd .bool) pz))))) pz))) (pl (po [0, 1] 5 1 (ed (.int .u8))) (ps (po [0, 2] 167 1 (em (ps (pq [0, 3] 0 0) (ps (pq [0, 3] 0 1) pz)))) (pl (po [0, 3] 72 6 (es Ty18 (pl eh pz))) (pl (po [1, 0] 165 2 (em (pl (pa (pl (pf 56 pz pz) (pl (pd (.int .i64)) pz))) pz))) pz)))))
def Y58.g (F : T_Y58) (v : Y58.p.T) (k : KE) : OB := F v.1.1 v.1.2.1 v.2.1.1.1 v.2.1.1.2.1 v.2.1.1.2.2.1 v.2.2.1 v.2.2.2.1.1 v.2.2.2.2.1.1.2.1 (fun y0 y1 y2 y3 y4 => k (.exit 0) ⟨fillS 23 [] [], [([0, 0], ⟨159, 4, (.mix [(.agg [(.ref [0, 1]), (.d ⟨(.int .i64), y0⟩), (.d ⟨.bool, y1⟩), (.d ⟨.bool, y2⟩)])])⟩), ([0, 1], ⟨5, 1, (.data (.int .u8) y3)⟩), ([0, 2], ⟨167, 1, (.mix [(.ptr [0, 3] 0 0), (.ptr [0, 3] 0 1)])⟩), ([0, 3], ⟨72, 6, (.data Ty18 [y4])⟩)], 2⟩)
theorem Y58.step (S : T_Y58) (F0 : T_Y4v) : ∀ v k, exR 90 Tryz.f90 0 Y58.p [⟨Y4v.p, Y4v.g F0⟩] [] [] (Y58.g S) v k = Y58.g (Y58.body S F0) v k := fun v k => by kernel_rfl
theorem Y58.ok : okL 90 Tryz.f90 4 0 Y58.p (Y58.g (Y58 ROUNDS)) := loop2 (G := fun n => Y58.g (Y58 n)) (fun n => Y58.step (Y58 n) Y4v) (.cons Y4v.ok .nil) [] (by kernel_rfl) .nil (fun _ _ => rfl)
abbrev T_Y59 : Type := Int → Int → Bool → Bool → (List Int) → Tc6 → (Int → Bool → Bool → (List Int) → Tc6 → OB) → OB
noncomputable def Y59.body (Y58 : T_Y58) : T_Y59 := fun n0 n1 b2 b3 n4 t5 k1 =>
  (Y58 2 0 n1 b2 b3 n4 t5 n0
 (fun n6 b7 b8 n9 ta => (k1 n6 b7 b8 n9 ta)))
noncomputable def Y59 : T_Y59 := Y59.body (Y58 ROUNDS)
def Y59.p : FPat := fp 90 (pl (pa (pl (pf 56 pz pz) (pl (pd (.int .i64)) pz))) (ps (pq [0, 0] 0 0) (ps (pr [0, 2]) pz))) (pl (po [0, 0] 159 4 (em (pl (pa (ps (pr [0, 1]) (pl (pd (.int .i64)) (pl (pd .bool) (pl (pd .bool) pz))))) pz))) (pl (po [0, 1] 5 1 (ed (.int .u8))) (ps (po [0, 2] 167 1 (em (ps (pq [0, 3] 0 0) (ps (pq [0, 3] 0 1) pz)))) (pl (po [0, 3] 72 6 (es Ty18 (pl eh pz))) pz))))
def Y59.g (F : T_Y59) (v : Y59.p.T) (k : KR) : OB := F v.1.1.2.1 v.2.1.1.1 v.2.1.1.2.1 v.2.1.1.2.2.1 v.2.2.1 v.2.2.2.1.1 (fun y0 y1 y2 y3 y4 => k (.tup []) [([0, 0], ⟨159, 4, (.mix [(.agg [(.ref [0, 1]), (.d ⟨(.int .i64), y0⟩), (.d ⟨.bool, y1⟩), (.d ⟨.bool, y2⟩)])])⟩), ([0, 1], ⟨5, 1, (.data (.int .u8) y3)⟩), ([0, 2], ⟨167, 1, (.mix [(.ptr [0, 3] 0 0), (.ptr [0, 3] 0 1)])⟩), ([0, 3], ⟨72, 6, (.data Ty18 [y4])⟩)])
theorem Y59.eq (L0 : T_Y58) : ∀ v k, exF Tryz.f90 Y59.p [] [] [⟨0, Y58.p, Y58.g L0⟩] v k = Y59.g (Y59.body L0) v k := fun v k => by kernel_rfl
theorem Y59.ok : okF 5 Y59.p (Y59.g Y59) := fn2 (Y59.eq (Y58 ROUNDS)) Tryz.func90 (by kernel_rfl) .nil [0] (by kernel_rfl) (.cons Y58.ok .nil)
abbrev T_Y5a : Type := Int → Int → Int → Bool → Bool → (List Int) → Tc6 → Int → (Int → Bool → Bool → (List Int) → Tc6 → OB) → OB
noncomputable def Y5a.body (Y5a : T_Y5a) (Y4v : T_Y4v) : T_Y5a := fun n0 n1 n2 b3 b4 n5 t6 n7 k1 =>
  (cond_ (decide (n1 < n0)) (cond_ (n1 == 0) (Y4v n7 n2 b3 b4 n5
 (fun n8 n9 ba bb nc => (Y5a n0 (IntKind.wrap .i64 (n1 + 1)) n9 ba bb nc (t6.1, (t6.2.1, (n8, (t6.2.2.2.1, (t6.2.2.2.2.1, (t6.2.2.2.2.2.1, ())))))) n7 k1))) (cond_ (n1 == 1) (Y4v n7 n2 b3 b4 n5
 (fun nd ne bf bg nh => (Y5a n0 (IntKind.wrap .i64 (n1 + 1)) ne bf bg nh (t6.1, (t6.2.1, (t6.2.2.1, (nd, (t6.2.2.2.2.1, (t6.2.2.2.2.2.1, ())))))) n7 k1))) (cond_ (n1 == 2) (Y4v n7 n2 b3 b4 n5
 (fun ni nj bk bl nm => (Y5a n0 (IntKind.wrap .i64 (n1 + 1)) nj bk bl nm (t6.1, (t6.2.1, (t6.2.2.1, (t6.2.2.2.1, (ni, (t6.2.2.2.2.2.1, ())))))) n7 k1))) (cond_ (n1 == 3) (Y4v n7 n2 b3 b4 n5
 (fun nn no bp bq nr => (Y5a n0 (IntKind.wrap .i64 (n1 + 1)) no bp bq nr (t6.1, (t6.2.1, (t6.2.2.1, (t6.2.2.2.1, (t6.2.2.2.2.1, (nn, ())))))) n7 k1))) none)))) (k1 n2 b3 b4 n5 t6))
noncomputable def Y5a : Nat → T_Y5a
  | 0 => fun _ _ _ _ _ _ _ _ _ => none
  | n + 1 => Y5a.body (Y5a n) Y4v
def Y5a.p : LPat := lp 2 23 [1, 3, 8, 9, 10] (ps (pq [0, 0] 0 0) (ps (pq [1, 0] 0 0) (ps (pr [0, 2]) (pl (pd (.int .i64)) (pl (pd (.int .i64)) pz))))) (pl (po [0, 0] 159 4 (em (pl (pa (ps (pr [0, 1]) (pl (pd (.int .i64)) (pl (pd .bool) (pl (pd .bool) pz))))) pz))) (pl (po [0, 1] 5 1 (ed (.int .u8))) (ps (po [0, 2] 167 1 (em (ps (pq [0, 3] 0 2) (ps (pq [0, 3] 0 3) (ps (pq [0, 3] 0 4) (ps (pq [0, 3] 0 5) pz)))))) (pl (po [0, 3] 72 6 (es Ty18 (pl eh pz))) (pl (po [1, 0] 165 2 (em (pl (pa (pl (pf 56 pz pz) (pl (pd (.int .i64)) pz))) pz))) pz)))))
def Y5a.g (F : T_Y5a) (v : Y5a.p.T) (k : KE) : OB := F v.1.1 v.1.2.1 v.2.1.1.1 v.2.1.1.2.1 v.2.1.1.2.2.1 v.2.2.1 v.2.2.2.1.1 v.2.2.2.2.1.1.2.1 (fun y0 y1 y2 y3 y4 => k (.exit 0) ⟨fillS 23 [] [], [([0, 0], ⟨159, 4, (.mix [(.agg [(.ref [0, 1]), (.d ⟨(.int .i64), y0⟩), (.d ⟨.bool, y1⟩), (.d ⟨.bool, y2⟩)])])⟩), ([0, 1], ⟨5, 1, (.data (.int .u8) y3)⟩), ([0, 2], ⟨167, 1, (.mix [(.ptr [0, 3] 0 2), (.ptr [0, 3] 0 3), (.ptr [0, 3] 0 4), (.ptr [0, 3] 0 5)])⟩), ([0, 3], ⟨72, 6, (.data Ty18 [y4])⟩)], 2⟩)
theorem Y5a.step (S : T_Y5a) (F0 : T_Y4v) : ∀ v k, exR 90 Tryz.f90 0 Y5a.p [⟨Y4v.p, Y4v.g F0⟩] [] [] (Y5a.g S) v k = Y5a.g (Y5a.body S F0) v k := fun v k => by kernel_rfl
theorem Y5a.ok : okL 90 Tryz.f90 4 0 Y5a.p (Y5a.g (Y5a ROUNDS)) := loop2 (G := fun n => Y5a.g (Y5a n)) (fun n => Y5a.step (Y5a n) Y4v) (.cons Y4v.ok .nil) [] (by kernel_rfl) .nil (fun _ _ => rfl)
abbrev T_Y5b : Type := Int → Int → Bool → Bool → (List Int) → Tc6 → (Int → Bool → Bool → (List Int) → Tc6 → OB) → OB
noncomputable def Y5b.body (Y5a : T_Y5a) : T_Y5b := fun n0 n1 b2 b3 n4 t5 k1 =>
  (Y5a 4 0 n1 b2 b3 n4 t5 n0
 (fun n6 b7 b8 n9 ta => (k1 n6 b7 b8 n9 ta)))
noncomputable def Y5b : T_Y5b := Y5b.body (Y5a ROUNDS)
def Y5b.p : FPat := fp 90 (pl (pa (pl (pf 56 pz pz) (pl (pd (.int .i64)) pz))) (ps (pq [0, 0] 0 0) (ps (pr [0, 2]) pz))) (pl (po [0, 0] 159 4 (em (pl (pa (ps (pr [0, 1]) (pl (pd (.int .i64)) (pl (pd .bool) (pl (pd .bool) pz))))) pz))) (pl (po [0, 1] 5 1 (ed (.int .u8))) (ps (po [0, 2] 167 1 (em (ps (pq [0, 3] 0 2) (ps (pq [0, 3] 0 3) (ps (pq [0, 3] 0 4) (ps (pq [0, 3] 0 5) pz)))))) (pl (po [0, 3] 72 6 (es Ty18 (pl eh pz))) pz))))
def Y5b.g (F : T_Y5b) (v : Y5b.p.T) (k : KR) : OB := F v.1.1.2.1 v.2.1.1.1 v.2.1.1.2.1 v.2.1.1.2.2.1 v.2.2.1 v.2.2.2.1.1 (fun y0 y1 y2 y3 y4 => k (.tup []) [([0, 0], ⟨159, 4, (.mix [(.agg [(.ref [0, 1]), (.d ⟨(.int .i64), y0⟩), (.d ⟨.bool, y1⟩), (.d ⟨.bool, y2⟩)])])⟩), ([0, 1], ⟨5, 1, (.data (.int .u8) y3)⟩), ([0, 2], ⟨167, 1, (.mix [(.ptr [0, 3] 0 2), (.ptr [0, 3] 0 3), (.ptr [0, 3] 0 4), (.ptr [0, 3] 0 5)])⟩), ([0, 3], ⟨72, 6, (.data Ty18 [y4])⟩)])
theorem Y5b.eq (L0 : T_Y5a) : ∀ v k, exF Tryz.f90 Y5b.p [] [] [⟨0, Y5a.p, Y5a.g L0⟩] v k = Y5b.g (Y5b.body L0) v k := fun v k => by kernel_rfl
theorem Y5b.ok : okF 5 Y5b.p (Y5b.g Y5b) := fn2 (Y5b.eq (Y5a ROUNDS)) Tryz.func90 (by kernel_rfl) .nil [0] (by kernel_rfl) (.cons Y5a.ok .nil)
abbrev T_Y5c : Type := Int → Int → Bool → Bool → (List Int) → Int → Int → Tc8 → (List Int) → Tc10 → (Int → Int → Bool → Bool → (List Int) → Int → Int → Tc8 → (List Int) → Tc10 → OB) → OB
noncomputable def Y5c.body (Y59 : T_Y59) (Y5b : T_Y5b) : T_Y5c := fun n0 n1 b2 b3 n4 n5 n6 t7 n8 t9 k1 =>
  (Y59 n0 n1 b2 b3 n4 ZFn
 (fun na bb bc nd te => (Y5b n5 na bb bc nd te
 (fun nf bg bh ni tj => (cond_ (Nat.ble (((length t9) + (length ((tj.1, (tj.2.1, (tj.2.2.1, (tj.2.2.2.1, (tj.2.2.2.2.1, (tj.2.2.2.2.2.1, ())))))) :: []))) * (48 : Nat)) (140737488355328 : Nat)) (k1 n0 nf bg bh ni n5 n6 t7 n8 (t9 ++ ((tj.1, (tj.2.1, (tj.2.2.1, (tj.2.2.2.1, (tj.2.2.2.2.1, (tj.2.2.2.2.2.1, ())))))) :: []))) none)))))
noncomputable def Y5c : T_Y5c := Y5c.body Y59 Y5b
def Y5c.p : FPat := fp 94 (ps (pq [0, 0] 0 0) (ps (pq [0, 1] 0 0) (ps (pq [0, 4] 0 0) (ps (pq [0, 5] 0 0) pz)))) (pl (po [0, 0] 165 2 (em (pl (pa (pl (pf 56 pz pz) (pl (pd (.int .i64)) pz))) pz))) (ps (po [0, 1] 127 1 (em (ps (pq [0, 2] 0 0) pz))) (pl (po [0, 2] 159 4 (em (pl (pa (ps (pr [0, 3]) (pl (pd (.int .i64)) (pl (pd .bool) (pl (pd .bool) pz))))) pz))) (pl (po [0, 3] 5 1 (ed (.int .u8))) (pl (po [0, 4] 165 2 (em (pl (pa (pl (pf 56 pz pz) (pl (pd (.int .i64)) pz))) pz))) (pl (po [0, 5] 40 5 (em (pl (pa (ps (pr [0, 6]) (ps (pr [0, 7]) (ps (pr [0, 8]) (ps (pk 0) (pl (pd (.int .i64)) pz)))))) pz))) (pl (po [0, 6] 69 5 (ed Ty15)) (pl (po [0, 7] 2 1 (ed (.int .i64))) (pl (po [0, 8] 72 6 (ed Ty18)) pz)))))))))
def Y5c.g (F : T_Y5c) (v : Y5c.p.T) (k : KR) : OB := F v.2.1.1.2.1 v.2.2.1.1.1 v.2.2.1.1.2.1 v.2.2.1.1.2.2.1 v.2.2.2.1 v.2.2.2.2.1.1.2.1 v.2.2.2.2.2.1.1.1 v.2.2.2.2.2.2.1 v.2.2.2.2.2.2.2.1 v.2.2.2.2.2.2.2.2.1 (fun y0 y1 y2 y3 y4 y5 y6 y7 y8 y9 => k (.tup []) [([0, 0], ⟨165, 2, (.mix [(.agg [(.fn (.func 56) [] []), (.d ⟨(.int .i64), y0⟩)])])⟩), ([0, 1], ⟨127, 1, (.mix [(.ptr [0, 2] 0 0)])⟩), ([0, 2], ⟨159, 4, (.mix [(.agg [(.ref [0, 3]), (.d ⟨(.int .i64), y1⟩), (.d ⟨.bool, y2⟩), (.d ⟨.bool, y3⟩)])])⟩), ([0, 3], ⟨5, 1, (.data (.int .u8) y4)⟩), ([0, 4], ⟨165, 2, (.mix [(.agg [(.fn (.func 56) [] []), (.d ⟨(.int .i64), y5⟩)])])⟩), ([0, 5], ⟨40, 5, (.mix [(.agg [(.ref [0, 6]), (.ref [0, 7]), (.ref [1, 0]), .nils, (.d ⟨(.int .i64), y6⟩)])])⟩), ([0, 6], ⟨69, 5, (.data Ty15 y7)⟩), ([0, 7], ⟨2, 1, (.data (.int .i64) y8)⟩), ([1, 0], ⟨72, 6, (.data Ty18 y9)⟩)])
theorem Y5c.eq (F0 : T_Y59) (F1 : T_Y5b) : ∀ v k, exF Tryz.f94 Y5c.p [⟨Y59.p, Y59.g F0⟩, ⟨Y5b.p, Y5b.g F1⟩] [] [] v k = Y5c.g (Y5c.body F0 F1) v k := fun v k => by kernel_rfl
theorem Y5c.ok : okF 6 Y5c.p (Y5c.g Y5c) := fn2 (Y5c.eq Y59 Y5b) Tryz.func94 (by kernel_rfl) (.cons Y59.ok (.cons Y5b.ok .nil)) [] (by kernel_rfl) .nil
abbrev T_Y5d : Type := Int → Int → Int → Bool → Bool → (List Int) → Int → Int → Int → Tc8 → (List Int) → Tc10 → (Int → Bool → Bool → (List Int) → Int → Int → Int → Tc8 → (List Int) → Tc10 → OB) → (Int → Bool → Bool → (List Int) → Int → Int → Int → Tc8 → (List Int) → Tc10 → OB) → OB
noncomputable def Y5d.body (Y5d : T_Y5d) (Y4o : T_Y4o) (Y5c : T_Y5c) : T_Y5d := fun n0 n1 n2 b3 b4 n5 n6 n7 n8 t9 na tb k1 k2 =>
  (cond_ (decide (n1 < n0)) (Y4o n2 b3 b4 n5
 (fun bc nd be bf ng => (cond_ bc (k1 nd be bf ng n6 n7 n8 t9 na tb) (Y5c n6 nd be bf ng n7 n8 t9 na tb
 (fun nh ni bj bk nl nm nn to np tq => (Y5d n0 (IntKind.wrap .i64 (n1 + 1)) ni bj bk nl nh nm nn to np tq k1 k2)))))) (k2 n2 b3 b4 n5 n6 n7 n8 t9 na tb))
noncomputable def Y5d : Nat → T_Y5d
  | 0 => fun _ _ _ _ _ _ _ _ _ _ _ _ _ _ => none
  | n + 1 => Y5d.body (Y5d n) Y4o Y5c
def Y5d.p : LPat := lp 2 13 [0, 1, 5, 6] (ps (pq [0, 0] 0 0) (pl (pf 94 pz (ps (pq [0, 2] 0 0) (ps (pq [0, 3] 0 0) (ps (pq [0, 4] 0 0) (ps (pq [0, 5] 0 0) pz))))) (pl (pd (.int .i64)) (pl (pd (.int .i64)) pz)))) (pl (po [0, 0] 159 4 (em (pl (pa (ps (pr [0, 1]) (pl (pd (.int .i64)) (pl (pd .bool) (pl (pd .bool) pz))))) pz))) (pl (po [0, 1] 5 1 (ed (.int .u8))) (pl (po [0, 2] 165 2 (em (pl (pa (pl (pf 56 pz pz) (pl (pd (.int .i64)) pz))) pz))) (ps (po [0, 3] 127 1 (em (ps (pq [0, 0] 0 0) pz))) (pl (po [0, 4] 165 2 (em (pl (pa (pl (pf 56 pz pz) (pl (pd (.int .i64)) pz))) pz))) (pl (po [0, 5] 40 5 (em (pl (pa (ps (pr [0, 6]) (ps (pr [0, 7]) (ps (pr [1, 0]) (ps (pk 0) (pl (pd (.int .i64)) pz)))))) pz))) (pl (po [0, 6] 69 5 (ed Ty15)) (pl (po [0, 7] 2 1 (ed (.int .i64))) (pl (po [1, 0] 72 6 (ed Ty18)) pz)))))))))
def Y5d.g (F : T_Y5d) (v : Y5d.p.T) (k : KE) : OB := F v.1.2.1 v.1.2.2.1 v.2.1.1.1 v.2.1.1.2.1 v.2.1.1.2.2.1 v.2.2.1 v.2.2.2.1.1.2.1 v.2.2.2.2.1.1.2.1 v.2.2.2.2.2.1.1.1 v.2.2.2.2.2.2.1 v.2.2.2.2.2.2.2.1 v.2.2.2.2.2.2.2.2.1 (fun y0 y1 y2 y3 y4 y5 y6 y7 y8 y9 => k .ret ⟨fillS 13 [] [], [([0, 0], ⟨159, 4, (.mix [(.agg [(.ref [0, 1]), (.d ⟨(.int .i64), y0⟩), (.d ⟨.bool, y1⟩), (.d ⟨.bool, y2⟩)])])⟩), ([0, 1], ⟨5, 1, (.data (.int .u8) y3)⟩), ([0, 2], ⟨165, 2, (.mix [(.agg [(.fn (.func 56) [] []), (.d ⟨(.int .i64), y4⟩)])])⟩), ([0, 3], ⟨127, 1, (.mix [(.ptr [0, 0] 0 0)])⟩), ([0, 4], ⟨165, 2, (.mix [(.agg [(.fn (.func 56) [] []), (.d ⟨(.int .i64), y5⟩)])])⟩), ([0, 5], ⟨40, 5, (.mix [(.agg [(.ref [0, 6]), (.ref [0, 7]), (.ref [1, 0]), .nils, (.d ⟨(.int .i64), y6⟩)])])⟩), ([0, 6], ⟨69, 5, (.data Ty15 y7)⟩), ([0, 7], ⟨2, 1, (.data (.int .i64) y8)⟩), ([1, 0], ⟨72, 6, (.data Ty18 y9)⟩)], 2⟩) (fun y0 y1 y2 y3 y4 y5 y6 y7 y8 y9 => k (.exit 0) ⟨fillS 13 [] [], [([0, 0], ⟨159, 4, (.mix [(.agg [(.ref [0, 1]), (.d ⟨(.int .i64), y0⟩), (.d ⟨.bool, y1⟩), (.d ⟨.bool, y2⟩)])])⟩), ([0, 1], ⟨5, 1, (.data (.int .u8) y3)⟩), ([0, 2], ⟨165, 2, (.mix [(.agg [(.fn (.func 56) [] []), (.d ⟨(.int .i64), y4⟩)])])⟩), ([0, 3], ⟨127, 1, (.mix [(.ptr [0, 0] 0 0)])⟩), ([0, 4], ⟨165, 2, (.mix [(.agg [(.fn (.func 56) [] []), (.d ⟨(.int .i64), y5⟩)])])⟩), ([0, 5], ⟨40, 5, (.mix [(.agg [(.ref [0, 6]), (.ref [0, 7]), (.ref [1, 0]), .nils, (.d ⟨(.int .i64), y6⟩)])])⟩), ([0, 6], ⟨69, 5, (.data Ty15 y7)⟩), ([0, 7], ⟨2, 1, (.data (.int .i64) y8)⟩), ([1, 0], ⟨72, 6, (.data Ty18 y9)⟩)], 2⟩)
theorem Y5d.step (S : T_Y5d) (F0 : T_Y4o) (F1 : T_Y5c) : ∀ v k, exR 91 Tryz.f91 0 Y5d.p [⟨Y4o.p, Y4o.g F0⟩, ⟨Y5c.p, Y5c.g F1⟩] [] [] (Y5d.g S) v k = Y5d.g (Y5d.body S F0 F1) v k := fun v k => by kernel_rfl
theorem Y5d.ok : okL 91 Tryz.f91 6 0 Y5d.p (Y5d.g (Y5d ROUNDS)) := loop2 (G := fun n => Y5d.g (Y5d n)) (fun n => Y5d.step (Y5d n) Y4o Y5c) (.cons Y4o.ok (.cons Y5c.ok .nil)) [] (by kernel_rfl) .nil (fun _ _ => rfl)
abbrev T_Y5e : Type := Int → Bool → Bool → (List Int) → Int → Int → Int → Tc8 → (List Int) → Tc10 → (Int → Bool → Bool → (List Int) → Int → Int → Int → Tc8 → (List Int) → Tc10 → OB) → OB
noncomputable def Y5e.body (Y4v : T_Y4v) (Y5d : T_Y5d) : T_Y5e := fun n0 b1 b2 n3 n4 n5 n6 t7 n8 t9 k1 =>
  (Y4v 2 n0 b1 b2 n3
 (fun na nb bc bd ne => (Y5d na 0 nb bc bd ne n4 n5 n6 t7 n8 t9
 (fun nf bg bh ni nj nk nl tm nn to => (k1 nf bg bh ni nj nk nl tm nn to))
 (fun np bq br ns nt nu nv tw nx ty => (k1 np bq br ns nt nu nv tw nx ty)))))
noncomputable def Y5e : T_Y5e := Y5e.body Y4v (Y5d ROUNDS)
def Y5e.p : FPat := fp 91 (ps (pq [0, 0] 0 0) (pl (pf 94 pz (ps (pq [0, 2] 0 0) (ps (pq [0, 3] 0 0) (ps (pq [0, 4] 0 0) (ps (pq [0, 5] 0 0) pz))))) pz)) (pl (po [0, 0] 159 4 (em (pl (pa (ps (pr [0, 1]) (pl (pd (.int .i64)) (pl (pd .bool) (pl (pd .bool) pz))))) pz))) (pl (po [0, 1] 5 1 (ed (.int .u8))) (pl (po [0, 2] 165 2 (em (pl (pa (pl (pf 56 pz pz) (pl (pd (.int .i64)) pz))) pz))) (ps (po [0, 3] 127 1 (em (ps (pq [0, 0] 0 0) pz))) (pl (po [0, 4] 165 2 (em (pl (pa (pl (pf 56 pz pz) (pl (pd (.int .i64)) pz))) pz))) (pl (po [0, 5] 40 5 (em (pl (pa (ps (pr [0, 6]) (ps (pr [0, 7]) (ps (pr [0, 8]) (ps (pk 0) (pl (pd (.int .i64)) pz)))))) pz))) (pl (po [0, 6] 69 5 (ed Ty15)) (pl (po [0, 7] 2 1 (ed (.int .i64))) (pl (po [0, 8] 72 6 (ed Ty18)) pz)))))))))
def Y5e.g (F : T_Y5e) (v : Y5e.p.T) (k : KR) : OB := F v.2.1.1.1 v.2.1.1.2.1 v.2.1.1.2.2.1 v.2.2.1 v.2.2.2.1.1.2.1 v.2.2.2.2.1.1.2.1 v.2.2.2.2.2.1.1.1 v.2.2.2.2.2.2.1 v.2.2.2.2.2.2.2.1 v.2.2.2.2.2.2.2.2.1 (fun y0 y1 y2 y3 y4 y5 y6 y7 y8 y9 => k (.tup []) [([0, 0], ⟨159, 4, (.mix [(.agg [(.ref [0, 1]), (.d ⟨(.int .i64), y0⟩), (.d ⟨.bool, y1⟩), (.d ⟨.bool, y2⟩)])])⟩), ([0, 1], ⟨5, 1, (.data (.int .u8) y3)⟩), ([0, 2], ⟨165, 2, (.mix [(.agg [(.fn (.func 56) [] []), (.d ⟨(.int .i64), y4⟩)])])⟩), ([0, 3], ⟨127, 1, (.mix [(.ptr [0, 0] 0 0)])⟩), ([0, 4], ⟨165, 2, (.mix [(.agg [(.fn (.func 56) [] []), (.d ⟨(.int .i64), y5⟩)])])⟩), ([0, 5], ⟨40, 5, (.mix [(.agg [(.ref [0, 6]), (.ref [0, 7]), (.ref [1, 0]), .nils, (.d ⟨(.int .i64), y6⟩)])])⟩), ([0, 6], ⟨69, 5, (.data Ty15 y7)⟩), ([0, 7], ⟨2, 1, (.data (.int .i64) y8)⟩), ([1, 0], ⟨72, 6, (.data Ty18 y9)⟩)])
theorem Y5e.eq (F0 : T_Y4v) (L0 : T_Y5d) : ∀ v k, exF Tryz.f91 Y5e.p [⟨Y4v.p, Y4v.g F0⟩] [] [⟨0, Y5d.p, Y5d.g L0⟩] v k = Y5e.g (Y5e.body F0 L0) v k := fun v k => by kernel_rfl
theorem Y5e.ok : okF 7 Y5e.p (Y5e.g Y5e) := fn2 (Y5e.eq Y4v (Y5d ROUNDS)) Tryz.func91 (by kernel_rfl) (.cons Y4v.ok .nil) [0] (by kernel_rfl) (.cons Y5d.ok .nil)
abbrev T_Y5f : Type := Int → Bool → Bool → (List Int) → (Int → Int → Bool → Bool → (List Int) → Tc8 → (List Int) → Tc10 → OB) → OB
noncomputable def Y5f.body (Y4y : T_Y4y) (Y54 : T_Y54) (Y57 : T_Y57) (Y5e : T_Y5e) : T_Y5f := fun n0 b1 b2 n3 k1 =>
  (Y4y 2 n0 b1 b2 n3 0
 (fun n4 b5 b6 n7 n8 => (Y54 n4 b5 b6 n7 1 4 n8
 (fun n9 ba bb nc nd ne nf tg th => (Y57 n9 ba bb nc nf tg th
 (fun ni bj bk nl nm tn to np => (Y5e ni bj bk nl nd 2 nm tn np to
 (fun nq br bs nt nu nv nw tx ny tz => (k1 nw nq br bs nt tx ny tz)))))))))
noncomputable def Y5f : T_Y5f := Y5f.body Y4y Y54 Y57 Y5e
def Y5f.p : FPat := fp 57 (ps (pq [0, 0] 0 0) pz) (pl (po [0, 0] 159 4 (em (pl (pa (ps (pr [0, 1]) (pl (pd (.int .i64)) (pl (pd .bool) (pl (pd .bool) pz))))) pz))) (pl (po [0, 1] 5 1 (ed (.int .u8))) pz))
def Y5f.g (F : T_Y5f) (v : Y5f.p.T) (k : KR) : OB := F v.2.1.1.1 v.2.1.1.2.1 v.2.1.1.2.2.1 v.2.2.1 (fun y0 y1 y2 y3 y4 y5 y6 y7 => k (.agg [(.ref [1, 0]), (.ref [1, 1]), (.ref [1, 2]), .nils, (.d ⟨(.int .i64), y0⟩)]) [([0, 0], ⟨159, 4, (.mix [(.agg [(.ref [0, 1]), (.d ⟨(.int .i64), y1⟩), (.d ⟨.bool, y2⟩), (.d ⟨.bool, y3⟩)])])⟩), ([0, 1], ⟨5, 1, (.data (.int .u8) y4)⟩), ([1, 0], ⟨69, 5, (.data Ty15 y5)⟩), ([1, 1], ⟨2, 1, (.data (.int .i64) y6)⟩), ([1, 2], ⟨72, 6, (.data Ty18 y7)⟩)])
theorem Y5f.eq (F0 : T_Y4y) (F1 : T_Y54) (F2 : T_Y57) (F3 : T_Y5e) : ∀ v k, exF Tryz.f57 Y5f.p [⟨Y4y.p, Y4y.g F0⟩, ⟨Y54.p, Y54.g F1⟩, ⟨Y57.p, Y57.g F2⟩, ⟨Y5e.p, Y5e.g F3⟩] [] [] v k = Y5f.g (Y5f.body F0 F1 F2 F3) v k := fun v k => by kernel_rfl
theorem Y5f.ok : okF 8 Y5f.p (Y5f.g Y5f) := fn2 (Y5f.eq Y4y Y54 Y57 Y5e) Tryz.func57 (by kernel_rfl) (.cons Y4y.ok (.cons Y54.ok (.cons Y57.ok (.cons Y5e.ok .nil)))) [] (by kernel_rfl) .nil
abbrev T_Y5g : Type := Int → Int → Int → Bool → Bool → (List Int) → Tc9 → (Int → Int → Bool → Bool → (List Int) → OB) → (Int → Bool → Bool → (List Int) → Tc9 → OB) → OB
noncomputable def Y5g.body (Y5g : T_Y5g) (Y4v : T_Y4v) (Y4o : T_Y4o) : T_Y5g := fun n0 n1 n2 b3 b4 n5 t6 k1 k2 =>
  (cond_ (decide (n1 < n0)) (Y4v 2 n2 b3 b4 n5
 (fun n7 n8 b9 ba nb => (Y4v 2 n8 b9 ba nb
 (fun nc nd be bf ng => (Y4v 2 nd be bf ng
 (fun nh ni bj bk nl => (Y4v 2 ni bj bk nl
 (fun nm nn bo bp nq => (Y4v 1 nn bo bp nq
 (fun nr ns bt bu nv => (Y4o ns bt bu nv
 (fun bw nx bY bz n10 => (cond_ bw (k1 5 nx bY bz n10) (cond_ (decide (nr > 1)) (k1 3 nx bY bz n10) (cond_ (Nat.ble (((length t6) + (length ((n7, (nc, (nh, ((nr == 1), (nm, ()))))) :: []))) * (40 : Nat)) (140737488355328 : Nat)) (Y5g n0 (IntKind.wrap .i64 (n1 + 1)) nx bY bz n10 (t6 ++ ((n7, (nc, (nh, ((nr == 1), (nm, ()))))) :: [])) k1 k2) none))))))))))))))) (k2 n2 b3 b4 n5 t6))
noncomputable def Y5g : Nat → T_Y5g
  | 0 => fun _ _ _ _ _ _ _ _ _ => none
  | n + 1 => Y5g.body (Y5g n) Y4v Y4o
def Y5g.p : LPat := lp 2 47 [0, 4, 9, 10] (ps (pq [0, 0] 0 0) (ps (pr [1, 0]) (pl (pd (.int .i64)) (pl (pd (.int .i64)) pz)))) (pl (po [0, 0] 159 4 (em (pl (pa (ps (pr [0, 1]) (pl (pd (.int .i64)) (pl (pd .bool) (pl (pd .bool) pz))))) pz))) (pl (po [0, 1] 5 1 (ed (.int .u8))) (pl (po [1, 0] 124 5 (ed Ty13)) pz)))
def Y5g.g (F : T_Y5g) (v : Y5g.p.T) (k : KE) : OB := F v.1.1 v.1.2.1 v.2.1.1.1 v.2.1.1.2.1 v.2.1.1.2.2.1 v.2.2.1 v.2.2.2.1 (fun y0 y1 y2 y3 y4 => k .ret ⟨fillS 47 [2, 3] [.nils, (.d ⟨(.int .i64), y0⟩)], [([0, 0], ⟨159, 4, (.mix [(.agg [(.ref [0, 1]), (.d ⟨(.int .i64), y1⟩), (.d ⟨.bool, y2⟩), (.d ⟨.bool, y3⟩)])])⟩), ([0, 1], ⟨5, 1, (.data (.int .u8) y4)⟩)], 2⟩) (fun y0 y1 y2 y3 y4 => k (.exit 0) ⟨fillS 47 [0, 4] [(.ptr [0, 0] 0 0), (.ref [1, 0])], [([0, 0], ⟨159, 4, (.mix [(.agg [(.ref [0, 1]), (.d ⟨(.int .i64), y0⟩), (.d ⟨.bool, y1⟩), (.d ⟨.bool, y2⟩)])])⟩), ([0, 1], ⟨5, 1, (.data (.int .u8) y3)⟩), ([1, 0], ⟨124, 5, (.data Ty13 y4)⟩)], 2⟩)
theorem Y5g.step (S : T_Y5g) (F0 : T_Y4v) (F1 : T_Y4o) : ∀ v k, exR 59 Tryz.f59 0 Y5g.p [⟨Y4v.p, Y4v.g F0⟩, ⟨Y4o.p, Y4o.g F1⟩] [2] [] (Y5g.g S) v k = Y5g.g (Y5g.body S F0 F1) v k := fun v k => by kernel_rfl
theorem Y5g.ok : okL 59 Tryz.f59 4 0 Y5g.p (Y5g.g (Y5g ROUNDS)) := loop2 (G := fun n => Y5g.g (Y5g n)) (fun n => Y5g.step (Y5g n) Y4v Y4o) (.cons Y4v.ok (.cons Y4o.ok .nil)) [] (by kernel_rfl) .nil (fun _ _ => rfl)
abbrev T_Y5h : Type := Int → Bool → Bool → (List Int) → (Int → Int → Bool → Bool → (List Int) → Tc9 → OB) → OB
noncomputable def Y5h.body (Y4v : T_Y4v) (Y4o : T_Y4o) (Y5g : T_Y5g) : T_Y5h := fun n0 b1 b2 n3 k1 =>
  (Y4v 2 n0 b1 b2 n3
 (fun n4 n5 b6 b7 n8 => (Y5g n4 0 n5 b6 b7 n8 []
 (fun n9 na bb bc nd => (k1 n9 na bb bc nd []))
 (fun ne bf bg nh ti => (Y4o ne bf bg nh
 (fun bj nk bl bm nn => (cond_ bj (k1 5 nk bl bm nn []) (k1 0 nk bl bm nn ti))))))))
noncomputable def Y5h : T_Y5h := Y5h.body Y4v Y4o (Y5g ROUNDS)
def Y5h.p : FPat := fp 59 (ps (pq [0, 0] 0 0) pz) (pl (po [0, 0] 159 4 (em (pl (pa (ps (pr [0, 1]) (pl (pd (.int .i64)) (pl (pd .bool) (pl (pd .bool) pz))))) pz))) (pl (po [0, 1] 5 1 (ed (.int .u8))) pz))
def Y5h.g (F : T_Y5h) (v : Y5h.p.T) (k : KR) : OB := F v.2.1.1.1 v.2.1.1.2.1 v.2.1.1.2.2.1 v.2.2.1 (fun y0 y1 y2 y3 y4 y5 => k (.tup [(.ref [1, 0]), (.d ⟨(.int .i64), y0⟩)]) [([0, 0], ⟨159, 4, (.mix [(.agg [(.ref [0, 1]), (.d ⟨(.int .i64), y1⟩), (.d ⟨.bool, y2⟩), (.d ⟨.bool, y3⟩)])])⟩), ([0, 1], ⟨5, 1, (.data (.int .u8) y4)⟩), ([1, 0], ⟨124, 5, (.data Ty13 y5)⟩)])
theorem Y5h.eq (F0 : T_Y4v) (F1 : T_Y4o) (L0 : T_Y5g) : ∀ v k, exF Tryz.f59 Y5h.p [⟨Y4v.p, Y4v.g F0⟩, ⟨Y4o.p, Y4o.g F1⟩] [2] [⟨0, Y5g.p, Y5g.g L0⟩] v k = Y5h.g (Y5h.body F0 F1 L0) v k := fun v k => by kernel_rfl
theorem Y5h.ok : okF 5 Y5h.p (Y5h.g Y5h) := fn2 (Y5h.eq Y4v Y4o (Y5g ROUNDS)) Tryz.func59 (by kernel_rfl) (.cons Y4v.ok (.cons Y4o.ok .nil)) [0] (by kernel_rfl) (.cons Y5g.ok .nil)
abbrev T_Y5i : Type := Int → Tc8 → (List Int) → Tc10 → Tc9 → Int → (Tc8 → (List Int) → Tc10 → Tc9 → Int → Int → OB) → OB
noncomputable def Y5i.body : T_Y5i := fun n0 t1 n2 t3 t4 n5 k1 =>
  (k1 t1 n2 t3 t4 n5 n0)
noncomputable def Y5i : T_Y5i := Y5i.body
def Y5i.p : FPat := fp 96 (pl (pd (.int .i64)) (pl (pf 97 pz (ps (pq [0, 0] 0 0) pz)) pz)) (pl (po [0, 0] 40 5 (em (pl (pa (pl (pb 1 69 Ty15) (pl (pb 2 2 (.int .i64)) (pl (pb 3 72 Ty18) (pl (pb 4 124 Ty13) (pl (pd (.int .i64)) pz)))))) pz))) pz)
def Y5i.g (F : T_Y5i) (v : Y5i.p.T) (k : KR) : OB := F v.1.1 v.2.1.1.1 v.2.1.1.2.1 v.2.1.1.2.2.1 v.2.1.1.2.2.2.1 v.2.1.1.2.2.2.2.1 (fun y0 y1 y2 y3 y4 y5 => k (.fn (.func 117) [] [(.ptr [1, 0] 0 0), (.ptr [1, 1] 0 0)]) [([0, 0], ⟨40, 5, (.mix [(.agg [(.bv 1 69 Ty15 y0), (.bv 2 2 (.int .i64) y1), (.bv 3 72 Ty18 y2), (.bv 4 124 Ty13 y3), (.d ⟨(.int .i64), y4⟩)])])⟩), ([1, 0], ⟨34, 1, (.mix [(.fn (.func 97) [] [(.ptr [0, 0] 0 0)])])⟩), ([1, 1], ⟨44, 1, (.data (.int .i64) [y5])⟩)])
theorem Y5i.eq : ∀ v k, exF Tryz.f96 Y5i.p [] [] [] v k = Y5i.g (Y5i.body) v k := fun v k => by kernel_rfl
theorem Y5i.ok : okF 1 Y5i.p (Y5i.g Y5i) := fn2 (Y5i.eq) Tryz.func96 (by kernel_rfl) .nil [] (by kernel_rfl) .nil
abbrev T_Y5j : Type := Int → Tc8 → (List Int) → Tc10 → Tc9 → Int → (Tc8 → (List Int) → Tc10 → Tc9 → Int → Int → OB) → OB
noncomputable def Y5j.body : T_Y5j := fun n0 t1 n2 t3 t4 n5 k1 =>
  (k1 t1 n2 t3 t4 n5 n0)
noncomputable def Y5j : T_Y5j := Y5j.body
def Y5j.p : FPat := fp 96 (pl (pd (.int .i64)) (pl (pf 98 pz (ps (pq [0, 0] 0 0) pz)) pz)) (pl (po [0, 0] 40 5 (em (pl (pa (pl (pb 1 69 Ty15) (pl (pb 2 2 (.int .i64)) (pl (pb 3 72 Ty18) (pl (pb 4 124 Ty13) (pl (pd (.int .i64)) pz)))))) pz))) pz)
def Y5j.g (F : T_Y5j) (v : Y5j.p.T) (k : KR) : OB := F v.1.1 v.2.1.1.1 v.2.1.1.2.1 v.2.1.1.2.2.1 v.2.1.1.2.2.2.1 v.2.1.1.2.2.2.2.1 (fun y0 y1 y2 y3 y4 y5 => k (.fn (.func 117) [] [(.ptr [1, 0] 0 0), (.ptr [1, 1] 0 0)]) [([0, 0], ⟨40, 5, (.mix [(.agg [(.bv 1 69 Ty15 y0), (.bv 2 2 (.int .i64) y1), (.bv 3 72 Ty18 y2), (.bv 4 124 Ty13 y3), (.d ⟨(.int .i64), y4⟩)])])⟩), ([1, 0], ⟨34, 1, (.mix [(.fn (.func 98) [] [(.ptr [0, 0] 0 0)])])⟩), ([1, 1], ⟨44, 1, (.data (.int .i64) [y5])⟩)])
theorem Y5j.eq : ∀ v k, exF Tryz.f96 Y5j.p [] [] [] v k = Y5j.g (Y5j.body) v k := fun v k => by kernel_rfl
theorem Y5j.ok : okF 1 Y5j.p (Y5j.g Y5j) := fn2 (Y5j.eq) Tryz.func96 (by kernel_rfl) .nil [] (by kernel_rfl) .nil
abbrev T_Y5k : Type := Int → Tc8 → (List Int) → Tc10 → Tc9 → Int → (Tc8 → (List Int) → Tc10 → Tc9 → Int → Int → OB) → OB
noncomputable def Y5k.body : T_Y5k := fun n0 t1 n2 t3 t4 n5 k1 =>
  (k1 t1 n2 t3 t4 n5 n0)
noncomputable def Y5k : T_Y5k := Y5k.body
def Y5k.p : FPat := fp 96 (pl (pd (.int .i64)) (pl (pf 99 pz (ps (pq [0, 0] 0 0) pz)) pz)) (pl (po [0, 0] 40 5 (em (pl (pa (pl (pb 1 69 Ty15) (pl (pb 2 2 (.int .i64)) (pl (pb 3 72 Ty18) (pl (pb 4 124 Ty13) (pl (pd (.int .i64)) pz)))))) pz))) pz)
def Y5k.g (F : T_Y5k) (v : Y5k.p.T) (k : KR) : OB := F v.1.1 v.2.1.1.1 v.2.1.1.2.1 v.2.1.1.2.2.1 v.2.1.1.2.2.2.1 v.2.1.1.2.2.2.2.1 (fun y0 y1 y2 y3 y4 y5 => k (.fn (.func 117) [] [(.ptr [1, 0] 0 0), (.ptr [1, 1] 0 0)]) [([0, 0], ⟨40, 5, (.mix [(.agg [(.bv 1 69 Ty15 y0), (.bv 2 2 (.int .i64) y1), (.bv 3 72 Ty18 y2), (.bv 4 124 Ty13 y3), (.d ⟨(.int .i64), y4⟩)])])⟩), ([1, 0], ⟨34, 1, (.mix [(.fn (.func 99) [] [(.ptr [0, 0] 0 0)])])⟩), ([1, 1], ⟨44, 1, (.data (.int .i64) [y5])⟩)])
theorem Y5k.eq : ∀ v k, exF Tryz.f96 Y5k.p [] [] [] v k = Y5k.g (Y5k.body) v k := fun v k => by kernel_rfl
theorem Y5k.ok : okF 1 Y5k.p (Y5k.g Y5k) := fn2 (Y5k.eq) Tryz.func96 (by kernel_rfl) .nil [] (by kernel_rfl) .nil
abbrev T_Y5l : Type := Int → Tc8 → (List Int) → Tc10 → Tc9 → Int → (Tc8 → (List Int) → Tc10 → Tc9 → Int → Int → OB) → OB
noncomputable def Y5l.body : T_Y5l := fun n0 t1 n2 t3 t4 n5 k1 =>
  (k1 t1 n2 t3 t4 n5 n0)
noncomputable def Y5l : T_Y5l := Y5l.body
def Y5l.p : FPat := fp 96 (pl (pd (.int .i64)) (pl (pf 101 pz (ps (pq [0, 0] 0 0) pz)) pz)) (pl (po [0, 0] 40 5 (em (pl (pa (pl (pb 1 69 Ty15) (pl (pb 2 2 (.int .i64)) (pl (pb 3 72 Ty18) (pl (pb 4 124 Ty13) (pl (pd (.int .i64)) pz)))))) pz))) pz)
def Y5l.g (F : T_Y5l) (v : Y5l.p.T) (k : KR) : OB := F v.1.1 v.2.1.1.1 v.2.1.1.2.1 v.2.1.1.2.2.1 v.2.1.1.2.2.2.1 v.2.1.1.2.2.2.2.1 (fun y0 y1 y2 y3 y4 y5 => k (.fn (.func 117) [] [(.ptr [1, 0] 0 0), (.ptr [1, 1] 0 0)]) [([0, 0], ⟨40, 5, (.mix [(.agg [(.bv 1 69 Ty15 y0), (.bv 2 2 (.int .i64) y1), (.bv 3 72 Ty18 y2), (.bv 4 124 Ty13 y3), (.d ⟨(.int .i64), y4⟩)])])⟩), ([1, 0], ⟨34, 1, (.mix [(.fn (.func 101) [] [(.ptr [0, 0] 0 0)])])⟩), ([1, 1], ⟨44, 1, (.data (.int .i64) [y5])⟩)])
theorem Y5l.eq : ∀ v k, exF Tryz.f96 Y5l.p [] [] [] v k = Y5l.g (Y5l.body) v k := fun v k => by kernel_rfl
theorem Y5l.ok : okF 1 Y5l.p (Y5l.g Y5l) := fn2 (Y5l.eq) Tryz.func96 (by kernel_rfl) .nil [] (by kernel_rfl) .nil
abbrev T_Y5m : Type := Int → Tc8 → (List Int) → Tc10 → Tc9 → Int → (Tc8 → (List Int) → Tc10 → Tc9 → Int → Int → OB) → OB
noncomputable def Y5m.body : T_Y5m := fun n0 t1 n2 t3 t4 n5 k1 =>
  (k1 t1 n2 t3 t4 n5 n0)
noncomputable def Y5m : T_Y5m := Y5m.body
def Y5m.p : FPat := fp 96 (pl (pd (.int .i64)) (pl (pf 106 pz (ps (pq [0, 0] 0 0) pz)) pz)) (pl (po [0, 0] 40 5 (em (pl (pa (pl (pb 1 69 Ty15) (pl (pb 2 2 (.int .i64)) (pl (pb 3 72 Ty18) (pl (pb 4 124 Ty13) (pl (pd (.int .i64)) pz)))))) pz))) pz)
def Y5m.g (F : T_Y5m) (v : Y5m.p.T) (k : KR) : OB := F v.1.1 v.2.1.1.1 v.2.1.1.2.1 v.2.1.1.2.2.1 v.2.1.1.2.2.2.1 v.2.1.1.2.2.2.2.1 (fun y0 y1 y2 y3 y4 y5 => k (.fn (.func 117) [] [(.ptr [1, 0] 0 0), (.ptr [1, 1] 0 0)]) [([0, 0], ⟨40, 5, (.mix [(.agg [(.bv 1 69 Ty15 y0), (.bv 2 2 (.int .i64) y1), (.bv 3 72 Ty18 y2), (.bv 4 124 Ty13 y3), (.d ⟨(.int .i64), y4⟩)])])⟩), ([1, 0], ⟨34, 1, (.mix [(.fn (.func 106) [] [(.ptr [0, 0] 0 0)])])⟩), ([1, 1], ⟨44, 1, (.data (.int .i64) [y5])⟩)])
theorem Y5m.eq : ∀ v k, exF Tryz.f96 Y5m.p [] [] [] v k = Y5m.g (Y5m.body) v k := fun v k => by kernel_rfl
theorem Y5m.ok : okF 1 Y5m.p (Y5m.g Y5m) := fn2 (Y5m.eq) Tryz.func96 (by kernel_rfl) .nil [] (by kernel_rfl) .nil
abbrev T_Y5n : Type := Tc8 → (List Int) → Tc10 → Tc9 → Int → (Bool → Tc8 → (List Int) → Tc10 → Tc9 → Int → OB) → OB
noncomputable def Y5n.body : T_Y5n := fun t0 n1 t2 t3 n4 k1 =>
  (cond_ (! (decide ((length t0 : Int) > 65535))) (k1 (decide ((length n1 : Int) > 65535)) t0 n1 t2 t3 n4) (k1 true t0 n1 t2 t3 n4))
noncomputable def Y5n : T_Y5n := Y5n.body
def Y5n.p : FPat := fp 97 (ps (pq [0, 0] 0 0) pz) (pl (po [0, 0] 40 5 (em (pl (pa (pl (pb 1 69 Ty15) (pl (pb 2 2 (.int .i64)) (pl (pb 3 72 Ty18) (pl (pb 4 124 Ty13) (pl (pd (.int .i64)) pz)))))) pz))) pz)
def Y5n.g (F : T_Y5n) (v : Y5n.p.T) (k : KR) : OB := F v.2.1.1.1 v.2.1.1.2.1 v.2.1.1.2.2.1 v.2.1.1.2.2.2.1 v.2.1.1.2.2.2.2.1 (fun y0 y1 y2 y3 y4 y5 => k (.d ⟨.bool, y0⟩) [([0, 0], ⟨40, 5, (.mix [(.agg [(.bv 1 69 Ty15 y1), (.bv 2 2 (.int .i64) y2), (.bv 3 72 Ty18 y3), (.bv 4 124 Ty13 y4), (.d ⟨(.int .i64), y5⟩)])])⟩)])
theorem Y5n.eq : ∀ v k, exF Tryz.f97 Y5n.p [] [] [] v k = Y5n.g (Y5n.body) v k := fun v k => by kernel_rfl
theorem Y5n.ok : okF 1 Y5n.p (Y5n.g Y5n) := fn2 (Y5n.eq) Tryz.func97 (by kernel_rfl) .nil [] (by kernel_rfl) .nil
abbrev T_Y5o : Type := Tc8 → (List Int) → Tc10 → Tc9 → Int → Int → (Int → Tc8 → (List Int) → Tc10 → Tc9 → Int → Int → OB) → OB
noncomputable def Y5o.body (Y5n : T_Y5n) : T_Y5o := fun t0 n1 t2 t3 n4 n5 k1 =>
  (Y5n t0 n1 t2 t3 n4
 (fun b6 t7 n8 t9 ta nb => (cond_ b6 (k1 n5 t7 n8 t9 ta nb n5) (k1 0 t7 n8 t9 ta nb n5))))
noncomputable def Y5o : T_Y5o := Y5o.body Y5n
def Y5o.p : FPat := fp 117 (ps (pq [0, 0] 0 0) (ps (pq [0, 2] 0 0) pz)) (pl (po [0, 0] 34 1 (em (pl (pf 97 pz (ps (pq [0, 1] 0 0) pz)) pz))) (pl (po [0, 1] 40 5 (em (pl (pa (pl (pb 1 69 Ty15) (pl (pb 2 2 (.int .i64)) (pl (pb 3 72 Ty18) (pl (pb 4 124 Ty13) (pl (pd (.int .i64)) pz)))))) pz))) (pl (po [0, 2] 44 1 (es (.int .i64) (pl eh pz))) pz)))
def Y5o.g (F : T_Y5o) (v : Y5o.p.T) (k : KR) : OB := F v.2.2.1.1.1 v.2.2.1.1.2.1 v.2.2.1.1.2.2.1 v.2.2.1.1.2.2.2.1 v.2.2.1.1.2.2.2.2.1 v.2.2.2.1.1 (fun y0 y1 y2 y3 y4 y5 y6 => k (.d ⟨(.int .i64), y0⟩) [([0, 0], ⟨34, 1, (.mix [(.fn (.func 97) [] [(.ptr [0, 1] 0 0)])])⟩), ([0, 1], ⟨40, 5, (.mix [(.agg [(.bv 1 69 Ty15 y1), (.bv 2 2 (.int .i64) y2), (.bv 3 72 Ty18 y3), (.bv 4 124 Ty13 y4), (.d ⟨(.int .i64), y5⟩)])])⟩), ([0, 2], ⟨44, 1, (.data (.int .i64) [y6])⟩)])
theorem Y5o.eq (F0 : T_Y5n) : ∀ v k, exF Tryz.f117 Y5o.p [⟨Y5n.p, Y5n.g F0⟩] [] [] v k = Y5o.g (Y5o.body F0) v k := fun v k => by kernel_rfl
theorem Y5o.ok : okF 2 Y5o.p (Y5o.g Y5o) := fn2 (Y5o.eq Y5n) Tryz.func117 (by kernel_rfl) (.cons Y5n.ok .nil) [] (by kernel_rfl) .nil
abbrev T_Y5p : Type := Tc8 → (List Int) → Tc10 → Tc9 → Int → (Bool → Tc8 → (List Int) → Tc10 → Tc9 → Int → OB) → OB
noncomputable def Y5p.body : T_Y5p := fun t0 n1 t2 t3 n4 k1 =>
  (cond_ (! (decide ((length t0 : Int) < 2))) (cond_ (true && (decide (0 < (length t0 : Int)))) (cond_ (! (! (((getD t0 (0 : Nat) ZIns).1 == 27) && (((getD t0 (0 : Nat) ZIns).2.1 == 0) && (((getD t0 (0 : Nat) ZIns).2.2.1 == 0) && (((getD t0 (0 : Nat) ZIns).2.2.2.1 == 0) && (((getD t0 (0 : Nat) ZIns).2.2.2.2.1 == 0) && true))))))) (cond_ (true && (decide (1 < (length t0 : Int)))) (k1 (! (((getD t0 (1 : Nat) ZIns).1 == 28) && (((getD t0 (1 : Nat) ZIns).2.1 == 0) && (((getD t0 (1 : Nat) ZIns).2.2.1 == 0) && (((getD t0 (1 : Nat) ZIns).2.2.2.1 == 0) && (((getD t0 (1 : Nat) ZIns).2.2.2.2.1 == 0) && true)))))) t0 n1 t2 t3 n4) none) (k1 true t0 n1 t2 t3 n4)) none) (k1 true t0 n1 t2 t3 n4))
noncomputable def Y5p : T_Y5p := Y5p.body
def Y5p.p : FPat := fp 98 (ps (pq [0, 0] 0 0) pz) (pl (po [0, 0] 40 5 (em (pl (pa (pl (pb 1 69 Ty15) (pl (pb 2 2 (.int .i64)) (pl (pb 3 72 Ty18) (pl (pb 4 124 Ty13) (pl (pd (.int .i64)) pz)))))) pz))) pz)
def Y5p.g (F : T_Y5p) (v : Y5p.p.T) (k : KR) : OB := F v.2.1.1.1 v.2.1.1.2.1 v.2.1.1.2.2.1 v.2.1.1.2.2.2.1 v.2.1.1.2.2.2.2.1 (fun y0 y1 y2 y3 y4 y5 => k (.d ⟨.bool, y0⟩) [([0, 0], ⟨40, 5, (.mix [(.agg [(.bv 1 69 Ty15 y1), (.bv 2 2 (.int .i64) y2), (.bv 3 72 Ty18 y3), (.bv 4 124 Ty13 y4), (.d ⟨(.int .i64), y5⟩)])])⟩)])
theorem Y5p.eq : ∀ v k, exF Tryz.f98 Y5p.p [] [] [] v k = Y5p.g (Y5p.body) v k := fun v k => by kernel_rfl
theorem Y5p.ok : okF 1 Y5p.p (Y5p.g Y5p) := fn2 (Y5p.eq) Tryz.func98 (by kernel_rfl) .nil [] (by kernel_rfl) .nil
abbrev T_Y5q : Type := Tc8 → (List Int) → Tc10 → Tc9 → Int → Int → (Int → Tc8 → (List Int) → Tc10 → Tc9 → Int → Int → OB) → OB
noncomputable def Y5q.body (Y5p : T_Y5p) : T_Y5q := fun t0 n1 t2 t3 n4 n5 k1 =>
  (Y5p t0 n1 t2 t3 n4
 (fun b6 t7 n8 t9 ta nb => (cond_ b6 (k1 n5 t7 n8 t9 ta nb n5) (k1 0 t7 n8 t9 ta nb n5))))
noncomputable def Y5q : T_Y5q := Y5q.body Y5p
def Y5q.p : FPat := fp 117 (ps (pq [0, 0] 0 0) (ps (pq [0, 2] 0 0) pz)) (pl (po [0, 0] 34 1 (em (pl (pf 98 pz (ps (pq [0, 1] 0 0) pz)) pz))) (pl (po [0, 1] 40 5 (em (pl (pa (pl (pb 1 69 Ty15) (pl (pb 2 2 (.int .i64)) (pl (pb 3 72 Ty18) (pl (pb 4 124 Ty13) (pl (pd (.int .i64)) pz)))))) pz))) (pl (po [0, 2] 44 1 (es (.int .i64) (pl eh pz))) pz)))
def Y5q.g (F : T_Y5q) (v : Y5q.p.T) (k : KR) : OB := F v.2.2.1.1.1 v.2.2.1.1.2.1 v.2.2.1.1.2.2.1 v.2.2.1.1.2.2.2.1 v.2.2.1.1.2.2.2.2.1 v.2.2.2.1.1 (fun y0 y1 y2 y3 y4 y5 y6 => k (.d ⟨(.int .i64), y0⟩) [([0, 0], ⟨34, 1, (.mix [(.fn (.func 98) [] [(.ptr [0, 1] 0 0)])])⟩), ([0, 1], ⟨40, 5, (.mix [(.agg [(.bv 1 69 Ty15 y1), (.bv 2 2 (.int .i64) y2), (.bv 3 72 Ty18 y3), (.bv 4 124 Ty13 y4), (.d ⟨(.int .i64), y5⟩)])])⟩), ([0, 2], ⟨44, 1, (.data (.int .i64) [y6])⟩)])
theorem Y5q.eq (F0 : T_Y5p) : ∀ v k, exF Tryz.f117 Y5q.p [⟨Y5p.p, Y5p.g F0⟩] [] [] v k = Y5q.g (Y5q.body F0) v k := fun v k => by kernel_rfl
theorem Y5q.ok : okF 2 Y5q.p (Y5q.g Y5q) := fn2 (Y5q.eq Y5p) Tryz.func117 (by kernel_rfl) (.cons Y5p.ok .nil) [] (by kernel_rfl) .nil
abbrev T_Y5r : Type := Int → Tc10 → Int → Int → Tc8 → (List Int) → Tc10 → Tc9 → Int → (Bool → OB) → (Int → Tc8 → (List Int) → Tc10 → Tc9 → Int → OB) → OB
noncomputable def Y5r.body (Y5r : T_Y5r) : T_Y5r := fun n0 t1 n2 n3 t4 n5 t6 t7 n8 k1 k2 =>
  (cond_ (decide (n3 < n2)) (cond_ ((decide (0 ≤ n3)) && (decide (n3 < (length t1 : Int)))) (cond_ (! ((getD t1 (toNat n3) ZFn).2.2.1 != n0)) (cond_ (! (decide ((getD t1 (toNat n3) ZFn).2.2.2.1 ≤ (getD t1 (toNat n3) ZFn).2.2.1))) (cond_ (! (decide ((getD t1 (toNat n3) ZFn).2.2.2.1 > (getD t1 (toNat n3) ZFn).2.2.2.2.1))) (cond_ (decide ((getD t1 (toNat n3) ZFn).2.2.2.2.2.1 < 0)) (k1 true) (Y5r (getD t1 (toNat n3) ZFn).2.2.2.2.1 t1 n2 (IntKind.wrap .i64 (n3 + 1)) t4 n5 t6 t7 n8 k1 k2)) (k1 true)) (k1 true)) (k1 true)) none) (k2 n0 t4 n5 t6 t7 n8))
noncomputable def Y5r : Nat → T_Y5r
  | 0 => fun _ _ _ _ _ _ _ _ _ _ _ => none
  | n + 1 => Y5r.body (Y5r n)
def Y5r.p : LPat := lp 2 44 [1, 3, 7, 8, 9] (ps (pq [1, 0] 0 0) (pl (pd (.int .i64)) (pl (pb 3 72 Ty18) (pl (pd (.int .i64)) (pl (pd (.int .i64)) pz))))) (pl (po [1, 0] 40 5 (em (pl (pa (pl (pb 1 69 Ty15) (pl (pb 2 2 (.int .i64)) (pl (pb 3 72 Ty18) (pl (pb 4 124 Ty13) (pl (pd (.int .i64)) pz)))))) pz))) pz)
def Y5r.g (F : T_Y5r) (v : Y5r.p.T) (k : KE) : OB := F v.1.1 v.1.2.1 v.1.2.2.1 v.1.2.2.2.1 v.2.1.1.1 v.2.1.1.2.1 v.2.1.1.2.2.1 v.2.1.1.2.2.2.1 v.2.1.1.2.2.2.2.1 (fun y0 => k .ret ⟨fillS 44 [2] [(.d ⟨.bool, y0⟩)], [], 2⟩) (fun y0 y1 y2 y3 y4 y5 => k (.exit 0) ⟨fillS 44 [1, 3] [(.ptr [1, 0] 0 0), (.d ⟨(.int .i64), y0⟩)], [([1, 0], ⟨40, 5, (.mix [(.agg [(.bv 1 69 Ty15 y1), (.bv 2 2 (.int .i64) y2), (.bv 3 72 Ty18 y3), (.bv 4 124 Ty13 y4), (.d ⟨(.int .i64), y5⟩)])])⟩)], 2⟩)
theorem Y5r.step (S : T_Y5r) : ∀ v k, exR 100 Tryz.f100 0 Y5r.p [] [] [] (Y5r.g S) v k = Y5r.g (Y5r.body S) v k := fun v k => by kernel_rfl
theorem Y5r.ok : okL 100 Tryz.f100 0 0 Y5r.p (Y5r.g (Y5r ROUNDS)) := loop2 (G := fun n => Y5r.g (Y5r n)) (fun n => Y5r.step (Y5r n)) .nil [] (by kernel_rfl) .nil (fun _ _ => rfl)
abbrev T_Y5s : Type := Tc8 → (List Int) → Tc10 → Tc9 → Int → (Bool → OB) → OB
noncomputable def Y5s.body (Y5r : T_Y5r) : T_Y5s := fun t0 n1 t2 t3 n4 k1 =>
  (Y5r 2 t2 (length t2 : Int) 0 t0 n1 t2 t3 n4
 (fun b5 => (k1 b5))
 (fun n6 t7 n8 t9 ta nb => (k1 (n6 != (length t7 : Int)))))
noncomputable def Y5s : T_Y5s := Y5s.body (Y5r ROUNDS)
def Y5s.p : FPat := fp 100 (pl (pa (pl (pb 1 69 Ty15) (pl (pb 2 2 (.int .i64)) (pl (pb 3 72 Ty18) (pl (pb 4 124 Ty13) (pl (pd (.int .i64)) pz)))))) pz) pz
def Y5s.g (F : T_Y5s) (v : Y5s.p.T) (k : KR) : OB := F v.1.1.1 v.1.1.2.1 v.1.1.2.2.1 v.1.1.2.2.2.1 v.1.1.2.2.2.2.1 (fun y0 => k (.d ⟨.bool, y0⟩) [])
theorem Y5s.eq (L0 : T_Y5r) : ∀ v k, exF Tryz.f100 Y5s.p [] [] [⟨0, Y5r.p, Y5r.g L0⟩] v k = Y5s.g (Y5s.body L0) v k := fun v k => by kernel_rfl
theorem Y5s.ok : okF 1 Y5s.p (Y5s.g Y5s) := fn2 (Y5s.eq (Y5r ROUNDS)) Tryz.func100 (by kernel_rfl) .nil [0] (by kernel_rfl) (.cons Y5r.ok .nil)
abbrev T_Y5t : Type := Tc8 → (List Int) → Tc10 → Tc9 → Int → (Bool → Tc8 → (List Int) → Tc10 → Tc9 → Int → OB) → OB
noncomputable def Y5t.body (Y5s : T_Y5s) : T_Y5t := fun t0 n1 t2 t3 n4 k1 =>
  (Y5s t0 n1 t2 t3 n4
 (fun b5 => (k1 b5 t0 n1 t2 t3 n4)))
noncomputable def Y5t : T_Y5t := Y5t.body Y5s
def Y5t.p : FPat := fp 99 (ps (pq [0, 0] 0 0) pz) (pl (po [0, 0] 40 5 (em (pl (pa (pl (pb 1 69 Ty15) (pl (pb 2 2 (.int .i64)) (pl (pb 3 72 Ty18) (pl (pb 4 124 Ty13) (pl (pd (.int .i64)) pz)))))) pz))) pz)
def Y5t.g (F : T_Y5t) (v : Y5t.p.T) (k : KR) : OB := F v.2.1.1.1 v.2.1.1.2.1 v.2.1.1.2.2.1 v.2.1.1.2.2.2.1 v.2.1.1.2.2.2.2.1 (fun y0 y1 y2 y3 y4 y5 => k (.d ⟨.bool, y0⟩) [([0, 0], ⟨40, 5, (.mix [(.agg [(.bv 1 69 Ty15 y1), (.bv 2 2 (.int .i64) y2), (.bv 3 72 Ty18 y3), (.bv 4 124 Ty13 y4), (.d ⟨(.int .i64), y5⟩)])])⟩)])
theorem Y5t.eq (F0 : T_Y5s) : ∀ v k, exF Tryz.f99 Y5t.p [⟨Y5s.p, Y5s.g F0⟩] [] [] v k = Y5t.g (Y5t.body F0) v k := fun v k => by kernel_rfl
theorem Y5t.ok : okF 2 Y5t.p (Y5t.g Y5t) := fn2 (Y5t.eq Y5s) Tryz.func99 (by kernel_rfl) (.cons Y5s.ok .nil) [] (by kernel_rfl) .nil
abbrev T_Y5u : Type := Tc8 → (List Int) → Tc10 → Tc9 → Int → Int → (Int → Tc8 → (List Int) → Tc10 → Tc9 → Int → Int → OB) → OB
noncomputable def Y5u.body (Y5t : T_Y5t) : T_Y5u := fun t0 n1 t2 t3 n4 n5 k1 =>
  (Y5t t0 n1 t2 t3 n4
 (fun b6 t7 n8 t9 ta nb => (cond_ b6 (k1 n5 t7 n8 t9 ta nb n5) (k1 0 t7 n8 t9 ta nb n5))))
noncomputable def Y5u : T_Y5u := Y5u.body Y5t
def Y5u.p : FPat := fp 117 (ps (pq [0, 0] 0 0) (ps (pq [0, 2] 0 0) pz)) (pl (po [0, 0] 34 1 (em (pl (pf 99 pz (ps (pq [0, 1] 0 0) pz)) pz))) (pl (po [0, 1] 40 5 (em (pl (pa (pl (pb 1 69 Ty15) (pl (pb 2 2 (.int .i64)) (pl (pb 3 72 Ty18) (pl (pb 4 124 Ty13) (pl (pd (.int .i64)) pz)))))) pz))) (pl (po [0, 2] 44 1 (es (.int .i64) (pl eh pz))) pz)))
def Y5u.g (F : T_Y5u) (v : Y5u.p.T) (k : KR) : OB := F v.2.2.1.1.1 v.2.2.1.1.2.1 v.2.2.1.1.2.2.1 v.2.2.1.1.2.2.2.1 v.2.2.1.1.2.2.2.2.1 v.2.2.2.1.1 (fun y0 y1 y2 y3 y4 y5 y6 => k (.d ⟨(.int .i64), y0⟩) [([0, 0], ⟨34, 1, (.mix [(.fn (.func 99) [] [(.ptr [0, 1] 0 0)])])⟩), ([0, 1], ⟨40, 5, (.mix [(.agg [(.bv 1 69 Ty15 y1), (.bv 2 2 (.int .i64) y2), (.bv 3 72 Ty18 y3), (.bv 4 124 Ty13 y4), (.d ⟨(.int .i64), y5⟩)])])⟩), ([0, 2], ⟨44, 1, (.data (.int .i64) [y6])⟩)])
theorem Y5u.eq (F0 : T_Y5t) : ∀ v k, exF Tryz.f117 Y5u.p [⟨Y5t.p, Y5t.g F0⟩] [] [] v k = Y5u.g (Y5u.body F0) v k := fun v k => by kernel_rfl
theorem Y5u.ok : okF 3 Y5u.p (Y5u.g Y5u) := fn2 (Y5u.eq Y5t) Tryz.func117 (by kernel_rfl) (.cons Y5t.ok .nil) [] (by kernel_rfl) .nil
abbrev T_Y5v : Type := Tc8 → (List Int) → Tc10 → Tc9 → Int → (Tc8 → (List Int) → Tc10 → Tc9 → Int → OB) → OB
noncomputable def Y5v.body : T_Y5v := fun t0 n1 t2 t3 n4 k1 =>
  (k1 t0 n1 t2 t3 n4)
noncomputable def Y5v : T_Y5v := Y5v.body
def Y5v.p : FPat := fp 103 (pl (pa (pl (pb 1 69 Ty15) (pl (pb 2 2 (.int .i64)) (pl (pb 3 72 Ty18) (pl (pb 4 124 Ty13) (pl (pd (.int .i64)) pz)))))) pz) pz
def Y5v.g (F : T_Y5v) (v : Y5v.p.T) (k : KR) : OB := F v.1.1.1 v.1.1.2.1 v.1.1.2.2.1 v.1.1.2.2.2.1 v.1.1.2.2.2.2.1 (fun y0 y1 y2 y3 y4 => k (.fn (.func 119) [] [(.ptr [1, 0] 0 0)]) [([1, 0], ⟨40, 5, (.mix [(.agg [(.bv 1 69 Ty15 y0), (.bv 2 2 (.int .i64) y1), (.bv 3 72 Ty18 y2), (.bv 4 124 Ty13 y3), (.d ⟨(.int .i64), y4⟩)])])⟩)])
theorem Y5v.eq : ∀ v k, exF Tryz.f103 Y5v.p [] [] [] v k = Y5v.g (Y5v.body) v k := fun v k => by kernel_rfl
theorem Y5v.ok : okF 1 Y5v.p (Y5v.g Y5v) := fn2 (Y5v.eq) Tryz.func103 (by kernel_rfl) .nil [] (by kernel_rfl) .nil
abbrev T_Y5w : Type := Tc6 → Tc8 → (List Int) → Tc10 → Tc9 → Int → (Bool → Tc8 → (List Int) → Tc10 → Tc9 → Int → OB) → OB
noncomputable def Y5w.body : T_Y5w := fun t0 t1 n2 t3 t4 n5 k1 =>
  (cond_ (((decide (0 ≤ t0.2.2.1)) && (decide (t0.2.2.1 ≤ t0.2.2.2.1))) && (decide (t0.2.2.2.1 ≤ (length t1 : Int)))) (cond_ ((((length (List.take (toNat (t0.2.2.2.1 - t0.2.2.1)) (List.drop (toNat t0.2.2.1) t1))) : Nat) : Int) == 2) (cond_ (true && (decide (0 < (((length (List.take (toNat (t0.2.2.2.1 - t0.2.2.1)) (List.drop (toNat t0.2.2.1) t1))) : Nat) : Int)))) (cond_ ((getD (List.take (toNat (t0.2.2.2.1 - t0.2.2.1)) (List.drop (toNat t0.2.2.1) t1)) (0 : Nat) ZIns).1 == 25) (cond_ (true && (decide (1 ≤ (((length (List.take (toNat (t0.2.2.2.1 - t0.2.2.1)) (List.drop (toNat t0.2.2.1) t1))) : Nat) : Int)))) (cond_ (! ((((length (List.take ((length (List.take (toNat (t0.2.2.2.1 - t0.2.2.1)) (List.drop (toNat t0.2.2.1) t1))) - (1 : Nat)) (List.drop (1 : Nat) (List.take (toNat (t0.2.2.2.1 - t0.2.2.1)) (List.drop (toNat t0.2.2.1) t1))))) : Nat) : Int) != 1)) (cond_ (true && (decide (0 < (((length (List.take ((length (List.take (toNat (t0.2.2.2.1 - t0.2.2.1)) (List.drop (toNat t0.2.2.1) t1))) - (1 : Nat)) (List.drop (1 : Nat) (List.take (toNat (t0.2.2.2.1 - t0.2.2.1)) (List.drop (toNat t0.2.2.1) t1))))) : Nat) : Int)))) (k1 ((getD (List.take ((length (List.take (toNat (t0.2.2.2.1 - t0.2.2.1)) (List.drop (toNat t0.2.2.1) t1))) - (1 : Nat)) (List.drop (1 : Nat) (List.take (toNat (t0.2.2.2.1 - t0.2.2.1)) (List.drop (toNat t0.2.2.1) t1)))) (0 : Nat) ZIns).1 != 26) t1 n2 t3 t4 n5) none) (k1 true t1 n2 t3 t4 n5)) none) (cond_ (! ((((length (List.take (toNat (t0.2.2.2.1 - t0.2.2.1)) (List.drop (toNat t0.2.2.1) t1))) : Nat) : Int) != 1)) (cond_ (true && (decide (0 < (((length (List.take (toNat (t0.2.2.2.1 - t0.2.2.1)) (List.drop (toNat t0.2.2.1) t1))) : Nat) : Int)))) (k1 ((getD (List.take (toNat (t0.2.2.2.1 - t0.2.2.1)) (List.drop (toNat t0.2.2.1) t1)) (0 : Nat) ZIns).1 != 26) t1 n2 t3 t4 n5) none) (k1 true t1 n2 t3 t4 n5))) none) (cond_ (! ((((length (List.take (toNat (t0.2.2.2.1 - t0.2.2.1)) (List.drop (toNat t0.2.2.1) t1))) : Nat) : Int) != 1)) (cond_ (true && (decide (0 < (((length (List.take (toNat (t0.2.2.2.1 - t0.2.2.1)) (List.drop (toNat t0.2.2.1) t1))) : Nat) : Int)))) (k1 ((getD (List.take (toNat (t0.2.2.2.1 - t0.2.2.1)) (List.drop (toNat t0.2.2.1) t1)) (0 : Nat) ZIns).1 != 26) t1 n2 t3 t4 n5) none) (k1 true t1 n2 t3 t4 n5))) none)
noncomputable def Y5w : T_Y5w := Y5w.body
def Y5w.p : FPat := fp 119 (pl (pd Ty18) (ps (pq [0, 0] 0 0) pz)) (pl (po [0, 0] 40 5 (em (pl (pa (pl (pb 1 69 Ty15) (pl (pb 2 2 (.int .i64)) (pl (pb 3 72 Ty18) (pl (pb 4 124 Ty13) (pl (pd (.int .i64)) pz)))))) pz))) pz)
def Y5w.g (F : T_Y5w) (v : Y5w.p.T) (k : KR) : OB := F v.1.1 v.2.1.1.1 v.2.1.1.2.1 v.2.1.1.2.2.1 v.2.1.1.2.2.2.1 v.2.1.1.2.2.2.2.1 (fun y0 y1 y2 y3 y4 y5 => k (.d ⟨.bool, y0⟩) [([0, 0], ⟨40, 5, (.mix [(.agg [(.bv 1 69 Ty15 y1), (.bv 2 2 (.int .i64) y2), (.bv 3 72 Ty18 y3), (.bv 4 124 Ty13 y4), (.d ⟨(.int .i64), y5⟩)])])⟩)])
theorem Y5w.eq : ∀ v k, exF Tryz.f119 Y5w.p [] [] [] v k = Y5w.g (Y5w.body) v k := fun v k => by kernel_rfl
theorem Y5w.ok : okF 1 Y5w.p (Y5w.g Y5w) := fn2 (Y5w.eq) Tryz.func119 (by kernel_rfl) .nil [] (by kernel_rfl) .nil
abbrev T_Y5x : Type := Tc10 → Int → Int → Tc8 → (List Int) → Tc10 → Tc9 → Int → (Int → Tc8 → (List Int) → Tc10 → Tc9 → Int → OB) → (Tc8 → (List Int) → Tc10 → Tc9 → Int → OB) → OB
noncomputable def Y5x.body (Y5x : T_Y5x) (Y5w : T_Y5w) : T_Y5x := fun t0 n1 n2 t3 n4 t5 t6 n7 k1 k2 =>
  (cond_ (decide (n2 < n1)) (cond_ ((decide (0 ≤ n2)) && (decide (n2 < (length t0 : Int)))) (Y5w (getD t0 (toNat n2) ZFn) t3 n4 t5 t6 n7
 (fun b8 t9 na tb tc nd => (cond_ b8 (k1 n2 t9 na tb tc nd) (Y5x t0 n1 (IntKind.wrap .i64 (n2 + 1)) t9 na tb tc nd k1 k2)))) none) (k2 t3 n4 t5 t6 n7))
noncomputable def Y5x : Nat → T_Y5x
  | 0 => fun _ _ _ _ _ _ _ _ _ _ => none
  | n + 1 => Y5x.body (Y5x n) Y5w
def Y5x.p : LPat := lp 2 19 [0, 1, 7, 8] (pl (pb 1 72 Ty18) (pl (pf 119 pz (ps (pq [0, 0] 0 0) pz)) (pl (pd (.int .i64)) (pl (pd (.int .i64)) pz)))) (pl (po [0, 0] 40 5 (em (pl (pa (pl (pb 2 69 Ty15) (pl (pb 3 2 (.int .i64)) (pl (pb 4 72 Ty18) (pl (pb 5 124 Ty13) (pl (pd (.int .i64)) pz)))))) pz))) pz)
def Y5x.g (F : T_Y5x) (v : Y5x.p.T) (k : KE) : OB := F v.1.1 v.1.2.2.1 v.1.2.2.2.1 v.2.1.1.1 v.2.1.1.2.1 v.2.1.1.2.2.1 v.2.1.1.2.2.2.1 v.2.1.1.2.2.2.2.1 (fun y0 y1 y2 y3 y4 y5 => k .ret ⟨fillS 19 [4] [(.d ⟨(.int .i64), y0⟩)], [([0, 0], ⟨40, 5, (.mix [(.agg [(.bv 2 69 Ty15 y1), (.bv 3 2 (.int .i64) y2), (.bv 4 72 Ty18 y3), (.bv 5 124 Ty13 y4), (.d ⟨(.int .i64), y5⟩)])])⟩)], 2⟩) (fun y0 y1 y2 y3 y4 => k (.exit 0) ⟨fillS 19 [] [], [([0, 0], ⟨40, 5, (.mix [(.agg [(.bv 2 69 Ty15 y0), (.bv 3 2 (.int .i64) y1), (.bv 4 72 Ty18 y2), (.bv 5 124 Ty13 y3), (.d ⟨(.int .i64), y4⟩)])])⟩)], 2⟩)
theorem Y5x.step (S : T_Y5x) (F0 : T_Y5w) : ∀ v k, exR 118 Tryz.f118 0 Y5x.p [⟨Y5w.p, Y5w.g F0⟩] [] [] (Y5x.g S) v k = Y5x.g (Y5x.body S F0) v k := fun v k => by kernel_rfl
theorem Y5x.ok : okL 118 Tryz.f118 1 0 Y5x.p (Y5x.g (Y5x ROUNDS)) := loop2 (G := fun n => Y5x.g (Y5x n)) (fun n => Y5x.step (Y5x n) Y5w) (.cons Y5w.ok .nil) [] (by kernel_rfl) .nil (fun _ _ => rfl)
abbrev T_Y5y : Type := Tc10 → Tc8 → (List Int) → Tc10 → Tc9 → Int → (Int → Tc8 → (List Int) → Tc10 → Tc9 → Int → OB) → OB
noncomputable def Y5y.body (Y5x : T_Y5x) : T_Y5y := fun t0 t1 n2 t3 t4 n5 k1 =>
  (Y5x t0 (length t0 : Int) 0 t1 n2 t3 t4 n5
 (fun n6 t7 n8 t9 ta nb => (k1 n6 t7 n8 t9 ta nb))
 (fun tc nd te tf ng => (k1 (-1) tc nd te tf ng)))
noncomputable def Y5y : T_Y5y := Y5y.body (Y5x ROUNDS)
def Y5y.p : FPat := fp 118 (pl (pb 1 72 Ty18) (pl (pf 119 pz (ps (pq [0, 0] 0 0) pz)) pz)) (pl (po [0, 0] 40 5 (em (pl (pa (pl (pb 2 69 Ty15) (pl (pb 3 2 (.int .i64)) (pl (pb 4 72 Ty18) (pl (pb 5 124 Ty13) (pl (pd (.int .i64)) pz)))))) pz))) pz)
def Y5y.g (F : T_Y5y) (v : Y5y.p.T) (k : KR) : OB := F v.1.1 v.2.1.1.1 v.2.1.1.2.1 v.2.1.1.2.2.1 v.2.1.1.2.2.2.1 v.2.1.1.2.2.2.2.1 (fun y0 y1 y2 y3 y4 y5 => k (.d ⟨(.int .i64), y0⟩) [([0, 0], ⟨40, 5, (.mix [(.agg [(.bv 2 69 Ty15 y1), (.bv 3 2 (.int .i64) y2), (.bv 4 72 Ty18 y3), (.bv 5 124 Ty13 y4), (.d ⟨(.int .i64), y5⟩)])])⟩)])
theorem Y5y.eq (L0 : T_Y5x) : ∀ v k, exF Tryz.f118 Y5y.p [] [] [⟨0, Y5x.p, Y5x.g L0⟩] v k = Y5y.g (Y5y.body L0) v k := fun v k => by kernel_rfl
theorem Y5y.ok : okF 2 Y5y.p (Y5y.g Y5y) := fn2 (Y5y.eq (Y5x ROUNDS)) Tryz.func118 (by kernel_rfl) .nil [0] (by kernel_rfl) (.cons Y5x.ok .nil)
abbrev T_Y5z : Type := Tc10 → Tc8 → (List Int) → Tc10 → Tc9 → Int → (Bool → Tc8 → (List Int) → Tc10 → Tc9 → Int → OB) → OB
noncomputable def Y5z.body (Y5y : T_Y5y) : T_Y5z := fun t0 t1 n2 t3 t4 n5 k1 =>
  (Y5y t0 t1 n2 t3 t4 n5
 (fun n6 t7 n8 t9 ta nb => (k1 (decide (n6 ≥ 0)) t7 n8 t9 ta nb)))
noncomputable def Y5z : T_Y5z := Y5z.body Y5y
def Y5z.p : FPat := fp 102 (pl (pb 1 72 Ty18) (pl (pf 119 pz (ps (pq [0, 0] 0 0) pz)) pz)) (pl (po [0, 0] 40 5 (em (pl (pa (pl (pb 2 69 Ty15) (pl (pb 3 2 (.int .i64)) (pl (pb 4 72 Ty18) (pl (pb 5 124 Ty13) (pl (pd (.int .i64)) pz)))))) pz))) pz)
def Y5z.g (F : T_Y5z) (v : Y5z.p.T) (k : KR) : OB := F v.1.1 v.2.1.1.1 v.2.1.1.2.1 v.2.1.1.2.2.1 v.2.1.1.2.2.2.1 v.2.1.1.2.2.2.2.1 (fun y0 y1 y2 y3 y4 y5 => k (.d ⟨.bool, y0⟩) [([0, 0], ⟨40, 5, (.mix [(.agg [(.bv 2 69 Ty15 y1), (.bv 3 2 (.int .i64) y2), (.bv 4 72 Ty18 y3), (.bv 5 124 Ty13 y4), (.d ⟨(.int .i64), y5⟩)])])⟩)])
theorem Y5z.eq (F0 : T_Y5y) : ∀ v k, exF Tryz.f102 Y5z.p [⟨Y5y.p, Y5y.g F0⟩] [] [] v k = Y5z.g (Y5z.body F0) v k := fun v k => by kernel_rfl
theorem Y5z.ok : okF 3 Y5z.p (Y5z.g Y5z) := fn2 (Y5z.eq Y5y) Tryz.func102 (by kernel_rfl) (.cons Y5y.ok .nil) [] (by kernel_rfl) .nil
abbrev T_Y60 : Type := Tc8 → (List Int) → Tc10 → Tc9 → Int → (Bool → Tc8 → (List Int) → Tc10 → Tc9 → Int → OB) → OB
noncomputable def Y60.body (Y5v : T_Y5v) (Y5z : T_Y5z) : T_Y60 := fun t0 n1 t2 t3 n4 k1 =>
  (Y5v t0 n1 t2 t3 n4
 (fun t5 n6 t7 t8 n9 => (Y5z t2 t5 n6 t7 t8 n9
 (fun ba tb nc td te nf => (k1 ba t0 n1 t2 t3 n4)))))
noncomputable def Y60 : T_Y60 := Y60.body Y5v Y5z
def Y60.p : FPat := fp 101 (ps (pq [0, 0] 0 0) pz) (pl (po [0, 0] 40 5 (em (pl (pa (pl (pb 1 69 Ty15) (pl (pb 2 2 (.int .i64)) (pl (pb 3 72 Ty18) (pl (pb 4 124 Ty13) (pl (pd (.int .i64)) pz)))))) pz))) pz)
def Y60.g (F : T_Y60) (v : Y60.p.T) (k : KR) : OB := F v.2.1.1.1 v.2.1.1.2.1 v.2.1.1.2.2.1 v.2.1.1.2.2.2.1 v.2.1.1.2.2.2.2.1 (fun y0 y1 y2 y3 y4 y5 => k (.d ⟨.bool, y0⟩) [([0, 0], ⟨40, 5, (.mix [(.agg [(.bv 1 69 Ty15 y1), (.bv 2 2 (.int .i64) y2), (.bv 3 72 Ty18 y3), (.bv 4 124 Ty13 y4), (.d ⟨(.int .i64), y5⟩)])])⟩)])
theorem Y60.eq (F0 : T_Y5v) (F1 : T_Y5z) : ∀ v k, exF Tryz.f101 Y60.p [⟨Y5v.p, Y5v.g F0⟩, ⟨Y5z.p, Y5z.g F1⟩] [] [] v k = Y60.g (Y60.body F0 F1) v k := fun v k => by kernel_rfl
theorem Y60.ok : okF 4 Y60.p (Y60.g Y60) := fn2 (Y60.eq Y5v Y5z) Tryz.func101 (by kernel_rfl) (.cons Y5v.ok (.cons Y5z.ok .nil)) [] (by kernel_rfl) .nil
abbrev T_Y61 : Type := Tc8 → (List Int) → Tc10 → Tc9 → Int → Int → (Int → Tc8 → (List Int) → Tc10 → Tc9 → Int → Int → OB) → OB
noncomputable def Y61.body (Y60 : T_Y60) : T_Y61 := fun t0 n1 t2 t3 n4 n5 k1 =>
  (Y60 t0 n1 t2 t3 n4
 (fun b6 t7 n8 t9 ta nb => (cond_ b6 (k1 n5 t7 n8 t9 ta nb n5) (k1 0 t7 n8 t9 ta nb n5))))
noncomputable def Y61 : T_Y61 := Y61.body Y60
def Y61.p : FPat := fp 117 (ps (pq [0, 0] 0 0) (ps (pq [0, 2] 0 0) pz)) (pl (po [0, 0] 34 1 (em (pl (pf 101 pz (ps (pq [0, 1] 0 0) pz)) pz))) (pl (po [0, 1] 40 5 (em (pl (pa (pl (pb 1 69 Ty15) (pl (pb 2 2 (.int .i64)) (pl (pb 3 72 Ty18) (pl (pb 4 124 Ty13) (pl (pd (.int .i64)) pz)))))) pz))) (pl (po [0, 2] 44 1 (es (.int .i64) (pl eh pz))) pz)))
def Y61.g (F : T_Y61) (v : Y61.p.T) (k : KR) : OB := F v.2.2.1.1.1 v.2.2.1.1.2.1 v.2.2.1.1.2.2.1 v.2.2.1.1.2.2.2.1 v.2.2.1.1.2.2.2.2.1 v.2.2.2.1.1 (fun y0 y1 y2 y3 y4 y5 y6 => k (.d ⟨(.int .i64), y0⟩) [([0, 0], ⟨34, 1, (.mix [(.fn (.func 101) [] [(.ptr [0, 1] 0 0)])])⟩), ([0, 1], ⟨40, 5, (.mix [(.agg [(.bv 1 69 Ty15 y1), (.bv 2 2 (.int .i64) y2), (.bv 3 72 Ty18 y3), (.bv 4 124 Ty13 y4), (.d ⟨(.int .i64), y5⟩)])])⟩), ([0, 2], ⟨44, 1, (.data (.int .i64) [y6])⟩)])
theorem Y61.eq (F0 : T_Y60) : ∀ v k, exF Tryz.f117 Y61.p [⟨Y60.p, Y60.g F0⟩] [] [] v k = Y61.g (Y61.body F0) v k := fun v k => by kernel_rfl
theorem Y61.ok : okF 5 Y61.p (Y61.g Y61) := fn2 (Y61.eq Y60) Tryz.func117 (by kernel_rfl) (.cons Y60.ok .nil) [] (by kernel_rfl) .nil
abbrev T_Y62 : Type := Tc9 → Int → Int → Tc9 → Int → Int → (Int → OB) → (Tc9 → OB) → OB
noncomputable def Y62.body (Y62 : T_Y62) : T_Y62 := fun t0 n1 n2 t3 n4 n5 k1 k2 =>
  (cond_ (decide (n5 < n4)) (cond_ ((decide (0 ≤ n5)) && (decide (n5 < (length t3 : Int)))) (cond_ (! (decide ((getD t3 (toNat n5) ZRu).1 ≤ n2))) (cond_ (! (decide ((getD t3 (toNat n5) ZRu).1 ≥ n1))) (cond_ (n5 == 0) (cond_ ((getD t3 (toNat n5) ZRu).1 != 0) (k1 9) (Y62 t0 n1 (getD t3 (toNat n5) ZRu).1 t3 n4 (IntKind.wrap .i64 (n5 + 1)) k1 k2)) (Y62 t0 n1 (getD t3 (toNat n5) ZRu).1 t3 n4 (IntKind.wrap .i64 (n5 + 1)) k1 k2)) (k1 9)) (k1 9)) none) (k2 t0))
noncomputable def Y62 : Nat → T_Y62
  | 0 => fun _ _ _ _ _ _ _ _ => none
  | n + 1 => Y62.body (Y62 n)
def Y62.p : LPat := lp 2 67 [0, 1, 5, 20, 21, 22] (pl (pb 1 124 Ty13) (pl (pd (.int .i64)) (pl (pd (.int .i64)) (pl (pb 1 124 Ty13) (pl (pd (.int .i64)) (pl (pd (.int .i64)) pz)))))) pz
def Y62.g (F : T_Y62) (v : Y62.p.T) (k : KE) : OB := F v.1.1 v.1.2.1 v.1.2.2.1 v.1.2.2.2.1 v.1.2.2.2.2.1 v.1.2.2.2.2.2.1 (fun y0 => k .ret ⟨fillS 67 [4] [(.d ⟨(.int .i64), y0⟩)], [], 2⟩) (fun y0 => k (.exit 1) ⟨fillS 67 [0] [(.bv 1 124 Ty13 y0)], [], 2⟩)
theorem Y62.step (S : T_Y62) : ∀ v k, exR 105 Tryz.f105 1 Y62.p [] [] [] (Y62.g S) v k = Y62.g (Y62.body S) v k := fun v k => by kernel_rfl
theorem Y62.ok : okL 105 Tryz.f105 0 1 Y62.p (Y62.g (Y62 ROUNDS)) := loop2 (G := fun n => Y62.g (Y62 n)) (fun n => Y62.step (Y62 n)) .nil [] (by kernel_rfl) .nil (fun _ _ => rfl)
abbrev T_Y63 : Type := Tc9 → Int → (Int → OB) → (OB) → OB
noncomputable def Y63.body (Y63 : T_Y63) : T_Y63 := fun t0 n1 k1 k2 =>
  (cond_ (decide (n1 < (length t0 : Int))) (cond_ ((decide (0 ≤ n1)) && (decide (n1 < (length t0 : Int)))) (cond_ ((decide (0 ≤ (IntKind.wrap .i64 (n1 - 1)))) && (decide ((IntKind.wrap .i64 (n1 - 1)) < (length t0 : Int)))) (cond_ (((getD t0 (toNat n1) ZRu).2.1 == (getD t0 (toNat (IntKind.wrap .i64 (n1 - 1))) ZRu).2.1) && (((getD t0 (toNat n1) ZRu).2.2.1 == (getD t0 (toNat (IntKind.wrap .i64 (n1 - 1))) ZRu).2.2.1) && (((getD t0 (toNat n1) ZRu).2.2.2.1 == (getD t0 (toNat (IntKind.wrap .i64 (n1 - 1))) ZRu).2.2.2.1) && (((getD t0 (toNat n1) ZRu).2.2.2.2.1 == (getD t0 (toNat (IntKind.wrap .i64 (n1 - 1))) ZRu).2.2.2.2.1) && true)))) (k1 12) (Y63 t0 (IntKind.wrap .i64 (n1 + 1)) k1 k2)) none) none) (k2))
noncomputable def Y63 : Nat → T_Y63
  | 0 => fun _ _ _ _ => none
  | n + 1 => Y63.body (Y63 n)
def Y63.p : LPat := lp 2 67 [0, 8] (pl (pb 1 124 Ty13) (pl (pd (.int .i64)) pz)) pz
def Y63.g (F : T_Y63) (v : Y63.p.T) (k : KE) : OB := F v.1.1 v.1.2.1 (fun y0 => k .ret ⟨fillS 67 [4] [(.d ⟨(.int .i64), y0⟩)], [], 2⟩) (k (.exit 3) ⟨fillS 67 [] [], [], 2⟩)
theorem Y63.step (S : T_Y63) : ∀ v k, exR 105 Tryz.f105 3 Y63.p [] [] [] (Y63.g S) v k = Y63.g (Y63.body S) v k := fun v k => by kernel_rfl
theorem Y63.ok : okL 105 Tryz.f105 0 3 Y63.p (Y63.g (Y63 ROUNDS)) := loop2 (G := fun n => Y63.g (Y63 n)) (fun n => Y63.step (Y63 n)) .nil [] (by kernel_rfl) .nil (fun _ _ => rfl)
abbrev T_Y64 : Type := Tc9 → Int → (Int → OB) → OB
noncomputable def Y64.body (Y62 : T_Y62) (Y63 : T_Y63) : T_Y64 := fun t0 n1 k1 =>
  (cond_ (decide ((length t0 : Int) > 4096)) (k1 19) (cond_ (! (((length t0 : Int) == 0) == (decide (n1 ≤ 0)))) (k1 9) (Y62 t0 n1 (-1) t0 (length t0 : Int) 0
 (fun n2 => (k1 n2))
 (fun t3 => (Y63 t3 1
 (fun n4 => (k1 n4))
  (k1 0))))))
noncomputable def Y64 : T_Y64 := Y64.body (Y62 ROUNDS) (Y63 ROUNDS)
def Y64.p : FPat := fp 105 (pl (pb 1 124 Ty13) (pl (pd (.int .i64)) pz)) pz
def Y64.g (F : T_Y64) (v : Y64.p.T) (k : KR) : OB := F v.1.1 v.1.2.1 (fun y0 => k (.d ⟨(.int .i64), y0⟩) [])
theorem Y64.eq (L0 : T_Y62) (L1 : T_Y63) : ∀ v k, exF Tryz.f105 Y64.p [] [] [⟨1, Y62.p, Y62.g L0⟩, ⟨3, Y63.p, Y63.g L1⟩] v k = Y64.g (Y64.body L0 L1) v k := fun v k => by kernel_rfl
theorem Y64.ok : okF 1 Y64.p (Y64.g Y64) := fn2 (Y64.eq (Y62 ROUNDS) (Y63 ROUNDS)) Tryz.func105 (by kernel_rfl) .nil [1, 3] (by kernel_rfl) (.cons Y62.ok (.cons Y63.ok .nil))
abbrev T_Y65 : Type := Tc8 → (List Int) → Tc10 → Tc9 → Int → (Int → Tc8 → (List Int) → Tc10 → Tc9 → Int → OB) → OB
noncomputable def Y65.body (Y64 : T_Y64) : T_Y65 := fun t0 n1 t2 t3 n4 k1 =>
  (Y64 t3 (length t0 : Int)
 (fun n5 => (k1 n5 t0 n1 t2 t3 n4)))
noncomputable def Y65 : T_Y65 := Y65.body Y64
def Y65.p : FPat := fp 104 (ps (pq [0, 0] 0 0) pz) (pl (po [0, 0] 40 5 (em (pl (pa (pl (pb 1 69 Ty15) (pl (pb 2 2 (.int .i64)) (pl (pb 3 72 Ty18) (pl (pb 4 124 Ty13) (pl (pd (.int .i64)) pz)))))) pz))) pz)
def Y65.g (F : T_Y65) (v : Y65.p.T) (k : KR) : OB := F v.2.1.1.1 v.2.1.1.2.1 v.2.1.1.2.2.1 v.2.1.1.2.2.2.1 v.2.1.1.2.2.2.2.1 (fun y0 y1 y2 y3 y4 y5 => k (.d ⟨(.int .i64), y0⟩) [([0, 0], ⟨40, 5, (.mix [(.agg [(.bv 1 69 Ty15 y1), (.bv 2 2 (.int .i64) y2), (.bv 3 72 Ty18 y3), (.bv 4 124 Ty13 y4), (.d ⟨(.int .i64), y5⟩)])])⟩)])
theorem Y65.eq (F0 : T_Y64) : ∀ v k, exF Tryz.f104 Y65.p [⟨Y64.p, Y64.g F0⟩] [] [] v k = Y65.g (Y65.body F0) v k := fun v k => by kernel_rfl
theorem Y65.ok : okF 2 Y65.p (Y65.g Y65) := fn2 (Y65.eq Y64) Tryz.func104 (by kernel_rfl) (.cons Y64.ok .nil) [] (by kernel_rfl) .nil
abbrev T_Y66 : Type := Tc6 → Tc8 → (List Int) → Tc10 → Tc9 → Int → (Bool → Tc8 → (List Int) → Tc10 → Tc9 → Int → OB) → OB
noncomputable def Y66.body : T_Y66 := fun t0 t1 n2 t3 t4 n5 k1 =>
  (k1 (t0.2.2.1 == n5) t1 n2 t3 t4 n5)
noncomputable def Y66 : T_Y66 := Y66.body
def Y66.p : FPat := fp 107 (pl (pd Ty18) (ps (pq [0, 0] 0 0) pz)) (pl (po [0, 0] 40 5 (em (pl (pa (pl (pb 1 69 Ty15) (pl (pb 2 2 (.int .i64)) (pl (pb 3 72 Ty18) (pl (pb 4 124 Ty13) (pl (pd (.int .i64)) pz)))))) pz))) pz)
def Y66.g (F : T_Y66) (v : Y66.p.T) (k : KR) : OB := F v.1.1 v.2.1.1.1 v.2.1.1.2.1 v.2.1.1.2.2.1 v.2.1.1.2.2.2.1 v.2.1.1.2.2.2.2.1 (fun y0 y1 y2 y3 y4 y5 => k (.d ⟨.bool, y0⟩) [([0, 0], ⟨40, 5, (.mix [(.agg [(.bv 1 69 Ty15 y1), (.bv 2 2 (.int .i64) y2), (.bv 3 72 Ty18 y3), (.bv 4 124 Ty13 y4), (.d ⟨(.int .i64), y5⟩)])])⟩)])
theorem Y66.eq : ∀ v k, exF Tryz.f107 Y66.p [] [] [] v k = Y66.g (Y66.body) v k := fun v k => by kernel_rfl
theorem Y66.ok : okF 1 Y66.p (Y66.g Y66) := fn2 (Y66.eq) Tryz.func107 (by kernel_rfl) .nil [] (by kernel_rfl) .nil
abbrev T_Y67 : Type := Tc10 → Int → Int → Tc8 → (List Int) → Tc10 → Tc9 → Int → (Int → Tc8 → (List Int) → Tc10 → Tc9 → Int → OB) → (Tc8 → (List Int) → Tc10 → Tc9 → Int → OB) → OB
noncomputable def Y67.body (Y67 : T_Y67) (Y66 : T_Y66) : T_Y67 := fun t0 n1 n2 t3 n4 t5 t6 n7 k1 k2 =>
  (cond_ (decide (n2 < n1)) (cond_ ((decide (0 ≤ n2)) && (decide (n2 < (length t0 : Int)))) (Y66 (getD t0 (toNat n2) ZFn) t3 n4 t5 t6 n7
 (fun b8 t9 na tb tc nd => (cond_ b8 (k1 n2 t9 na tb tc nd) (Y67 t0 n1 (IntKind.wrap .i64 (n2 + 1)) t9 na tb tc nd k1 k2)))) none) (k2 t3 n4 t5 t6 n7))
noncomputable def Y67 : Nat → T_Y67
  | 0 => fun _ _ _ _ _ _ _ _ _ _ => none
  | n + 1 => Y67.body (Y67 n) Y66
def Y67.p : LPat := lp 2 19 [0, 1, 7, 8] (pl (pb 1 72 Ty18) (pl (pf 107 pz (ps (pq [0, 0] 0 0) pz)) (pl (pd (.int .i64)) (pl (pd (.int .i64)) pz)))) (pl (po [0, 0] 40 5 (em (pl (pa (pl (pb 2 69 Ty15) (pl (pb 3 2 (.int .i64)) (pl (pb 4 72 Ty18) (pl (pb 5 124 Ty13) (pl (pd (.int .i64)) pz)))))) pz))) pz)
def Y67.g (F : T_Y67) (v : Y67.p.T) (k : KE) : OB := F v.1.1 v.1.2.2.1 v.1.2.2.2.1 v.2.1.1.1 v.2.1.1.2.1 v.2.1.1.2.2.1 v.2.1.1.2.2.2.1 v.2.1.1.2.2.2.2.1 (fun y0 y1 y2 y3 y4 y5 => k .ret ⟨fillS 19 [4] [(.d ⟨(.int .i64), y0⟩)], [([0, 0], ⟨40, 5, (.mix [(.agg [(.bv 2 69 Ty15 y1), (.bv 3 2 (.int .i64) y2), (.bv 4 72 Ty18 y3), (.bv 5 124 Ty13 y4), (.d ⟨(.int .i64), y5⟩)])])⟩)], 2⟩) (fun y0 y1 y2 y3 y4 => k (.exit 0) ⟨fillS 19 [] [], [([0, 0], ⟨40, 5, (.mix [(.agg [(.bv 2 69 Ty15 y0), (.bv 3 2 (.int .i64) y1), (.bv 4 72 Ty18 y2), (.bv 5 124 Ty13 y3), (.d ⟨(.int .i64), y4⟩)])])⟩)], 2⟩)
theorem Y67.step (S : T_Y67) (F0 : T_Y66) : ∀ v k, exR 118 Tryz.f118 0 Y67.p [⟨Y66.p, Y66.g F0⟩] [] [] (Y67.g S) v k = Y67.g (Y67.body S F0) v k := fun v k => by kernel_rfl
theorem Y67.ok : okL 118 Tryz.f118 1 0 Y67.p (Y67.g (Y67 ROUNDS)) := loop2 (G := fun n => Y67.g (Y67 n)) (fun n => Y67.step (Y67 n) Y66) (.cons Y66.ok .nil) [] (by kernel_rfl) .nil (fun _ _ => rfl)
abbrev T_Y68 : Type := Tc10 → Tc8 → (List Int) → Tc10 → Tc9 → Int → (Int → Tc8 → (List Int) → Tc10 → Tc9 → Int → OB) → OB
noncomputable def Y68.body (Y67 : T_Y67) : T_Y68 := fun t0 t1 n2 t3 t4 n5 k1 =>
  (Y67 t0 (length t0 : Int) 0 t1 n2 t3 t4 n5
 (fun n6 t7 n8 t9 ta nb => (k1 n6 t7 n8 t9 ta nb))
 (fun tc nd te tf ng => (k1 (-1) tc nd te tf ng)))
noncomputable def Y68 : T_Y68 := Y68.body (Y67 ROUNDS)
def Y68.p : FPat := fp 118 (pl (pb 1 72 Ty18) (pl (pf 107 pz (ps (pq [0, 0] 0 0) pz)) pz)) (pl (po [0, 0] 40 5 (em (pl (pa (pl (pb 2 69 Ty15) (pl (pb 3 2 (.int .i64)) (pl (pb 4 72 Ty18) (pl (pb 5 124 Ty13) (pl (pd (.int .i64)) pz)))))) pz))) pz)
def Y68.g (F : T_Y68) (v : Y68.p.T) (k : KR) : OB := F v.1.1 v.2.1.1.1 v.2.1.1.2.1 v.2.1.1.2.2.1 v.2.1.1.2.2.2.1 v.2.1.1.2.2.2.2.1 (fun y0 y1 y2 y3 y4 y5 => k (.d ⟨(.int .i64), y0⟩) [([0, 0], ⟨40, 5, (.mix [(.agg [(.bv 2 69 Ty15 y1), (.bv 3 2 (.int .i64) y2), (.bv 4 72 Ty18 y3), (.bv 5 124 Ty13 y4), (.d ⟨(.int .i64), y5⟩)])])⟩)])
theorem Y68.eq (L0 : T_Y67) : ∀ v k, exF Tryz.f118 Y68.p [] [] [⟨0, Y67.p, Y67.g L0⟩] v k = Y68.g (Y68.body L0) v k := fun v k => by kernel_rfl
theorem Y68.ok : okF 2 Y68.p (Y68.g Y68) := fn2 (Y68.eq (Y67 ROUNDS)) Tryz.func118 (by kernel_rfl) .nil [0] (by kernel_rfl) (.cons Y67.ok .nil)
abbrev T_Y69 : Type := Tc10 → Tc8 → (List Int) → Tc10 → Tc9 → Int → (Bool → Tc8 → (List Int) → Tc10 → Tc9 → Int → OB) → OB
noncomputable def Y69.body (Y68 : T_Y68) : T_Y69 := fun t0 t1 n2 t3 t4 n5 k1 =>
  (Y68 t0 t1 n2 t3 t4 n5
 (fun n6 t7 n8 t9 ta nb => (k1 (decide (n6 ≥ 0)) t7 n8 t9 ta nb)))
noncomputable def Y69 : T_Y69 := Y69.body Y68
def Y69.p : FPat := fp 102 (pl (pb 1 72 Ty18) (pl (pf 107 pz (ps (pq [0, 0] 0 0) pz)) pz)) (pl (po [0, 0] 40 5 (em (pl (pa (pl (pb 2 69 Ty15) (pl (pb 3 2 (.int .i64)) (pl (pb 4 72 Ty18) (pl (pb 5 124 Ty13) (pl (pd (.int .i64)) pz)))))) pz))) pz)
def Y69.g (F : T_Y69) (v : Y69.p.T) (k : KR) : OB := F v.1.1 v.2.1.1.1 v.2.1.1.2.1 v.2.1.1.2.2.1 v.2.1.1.2.2.2.1 v.2.1.1.2.2.2.2.1 (fun y0 y1 y2 y3 y4 y5 => k (.d ⟨.bool, y0⟩) [([0, 0], ⟨40, 5, (.mix [(.agg [(.bv 2 69 Ty15 y1), (.bv 3 2 (.int .i64) y2), (.bv 4 72 Ty18 y3), (.bv 5 124 Ty13 y4), (.d ⟨(.int .i64), y5⟩)])])⟩)])
theorem Y69.eq (F0 : T_Y68) : ∀ v k, exF Tryz.f102 Y69.p [⟨Y68.p, Y68.g F0⟩] [] [] v k = Y69.g (Y69.body F0) v k := fun v k => by kernel_rfl
theorem Y69.ok : okF 3 Y69.p (Y69.g Y69) := fn2 (Y69.eq Y68) Tryz.func102 (by kernel_rfl) (.cons Y68.ok .nil) [] (by kernel_rfl) .nil
abbrev T_Y6a : Type := Tc8 → (List Int) → Tc10 → Tc9 → Int → (Bool → Tc8 → (List Int) → Tc10 → Tc9 → Int → OB) → OB
noncomputable def Y6a.body (Y69 : T_Y69) : T_Y6a := fun t0 n1 t2 t3 n4 k1 =>
  (Y69 t2 t0 n1 t2 t3 n4
 (fun b5 t6 n7 t8 t9 na => (k1 (! b5) t6 n7 t8 t9 na)))
noncomputable def Y6a : T_Y6a := Y6a.body Y69
def Y6a.p : FPat := fp 106 (ps (pq [0, 0] 0 0) pz) (pl (po [0, 0] 40 5 (em (pl (pa (pl (pb 1 69 Ty15) (pl (pb 2 2 (.int .i64)) (pl (pb 3 72 Ty18) (pl (pb 4 124 Ty13) (pl (pd (.int .i64)) pz)))))) pz))) pz)
def Y6a.g (F : T_Y6a) (v : Y6a.p.T) (k : KR) : OB := F v.2.1.1.1 v.2.1.1.2.1 v.2.1.1.2.2.1 v.2.1.1.2.2.2.1 v.2.1.1.2.2.2.2.1 (fun y0 y1 y2 y3 y4 y5 => k (.d ⟨.bool, y0⟩) [([0, 0], ⟨40, 5, (.mix [(.agg [(.bv 1 69 Ty15 y1), (.bv 2 2 (.int .i64) y2), (.bv 3 72 Ty18 y3), (.bv 4 124 Ty13 y4), (.d ⟨(.int .i64), y5⟩)])])⟩)])
theorem Y6a.eq (F0 : T_Y69) : ∀ v k, exF Tryz.f106 Y6a.p [⟨Y69.p, Y69.g F0⟩] [] [] v k = Y6a.g (Y6a.body F0) v k := fun v k => by kernel_rfl
theorem Y6a.ok : okF 4 Y6a.p (Y6a.g Y6a) := fn2 (Y6a.eq Y69) Tryz.func106 (by kernel_rfl) (.cons Y69.ok .nil) [] (by kernel_rfl) .nil
abbrev T_Y6b : Type := Tc8 → (List Int) → Tc10 → Tc9 → Int → Int → (Int → Tc8 → (List Int) → Tc10 → Tc9 → Int → Int → OB) → OB
noncomputable def Y6b.body (Y6a : T_Y6a) : T_Y6b := fun t0 n1 t2 t3 n4 n5 k1 =>
  (Y6a t0 n1 t2 t3 n4
 (fun b6 t7 n8 t9 ta nb => (cond_ b6 (k1 n5 t7 n8 t9 ta nb n5) (k1 0 t7 n8 t9 ta nb n5))))
noncomputable def Y6b : T_Y6b := Y6b.body Y6a
def Y6b.p : FPat := fp 117 (ps (pq [0, 0] 0 0) (ps (pq [0, 2] 0 0) pz)) (pl (po [0, 0] 34 1 (em (pl (pf 106 pz (ps (pq [0, 1] 0 0) pz)) pz))) (pl (po [0, 1] 40 5 (em (pl (pa (pl (pb 1 69 Ty15) (pl (pb 2 2 (.int .i64)) (pl (pb 3 72 Ty18) (pl (pb 4 124 Ty13) (pl (pd (.int .i64)) pz)))))) pz))) (pl (po [0, 2] 44 1 (es (.int .i64) (pl eh pz))) pz)))
def Y6b.g (F : T_Y6b) (v : Y6b.p.T) (k : KR) : OB := F v.2.2.1.1.1 v.2.2.1.1.2.1 v.2.2.1.1.2.2.1 v.2.2.1.1.2.2.2.1 v.2.2.1.1.2.2.2.2.1 v.2.2.2.1.1 (fun y0 y1 y2 y3 y4 y5 y6 => k (.d ⟨(.int .i64), y0⟩) [([0, 0], ⟨34, 1, (.mix [(.fn (.func 106) [] [(.ptr [0, 1] 0 0)])])⟩), ([0, 1], ⟨40, 5, (.mix [(.agg [(.bv 1 69 Ty15 y1), (.bv 2 2 (.int .i64) y2), (.bv 3 72 Ty18 y3), (.bv 4 124 Ty13 y4), (.d ⟨(.int .i64), y5⟩)])])⟩), ([0, 2], ⟨44, 1, (.data (.int .i64) [y6])⟩)])
theorem Y6b.eq (F0 : T_Y6a) : ∀ v k, exF Tryz.f117 Y6b.p [⟨Y6a.p, Y6a.g F0⟩] [] [] v k = Y6b.g (Y6b.body F0) v k := fun v k => by kernel_rfl
theorem Y6b.ok : okF 5 Y6b.p (Y6b.g Y6b) := fn2 (Y6b.eq Y6a) Tryz.func117 (by kernel_rfl) (.cons Y6a.ok .nil) [] (by kernel_rfl) .nil
abbrev T_Y6c : Type := Int → Int → Tc8 → (List Int) → Tc10 → Tc9 → Int → Int → Int → Int → Int → Int → (Int → Tc8 → (List Int) → Tc10 → Tc9 → Int → Int → Int → Int → Int → Int → OB) → (Tc8 → (List Int) → Tc10 → Tc9 → Int → Int → Int → Int → Int → Int → OB) → OB
noncomputable def Y6c.body (Y6c : T_Y6c) (Y5o : T_Y5o) (Y5q : T_Y5q) (Y5u : T_Y5u) (Y61 : T_Y61) (Y65 : T_Y65) (Y6b : T_Y6b) : T_Y6c := fun n0 n1 t2 n3 t4 t5 n6 n7 n8 n9 na nb k1 k2 =>
  (cond_ (decide (n1 < n0)) (cond_ (n1 == 0) (Y5o t2 n3 t4 t5 n6 n7
 (fun nc td ne tf tg nh ni => (cond_ (nc != 0) (k1 nc td ne tf tg nh ni n8 n9 na nb) (Y6c n0 (IntKind.wrap .i64 (n1 + 1)) td ne tf tg nh ni n8 n9 na nb k1 k2)))) (cond_ (n1 == 1) (Y5q t2 n3 t4 t5 n6 n8
 (fun nj tk nl tm tn no np => (cond_ (nj != 0) (k1 nj tk nl tm tn no n7 np n9 na nb) (Y6c n0 (IntKind.wrap .i64 (n1 + 1)) tk nl tm tn no n7 np n9 na nb k1 k2)))) (cond_ (n1 == 2) (Y5u t2 n3 t4 t5 n6 n9
 (fun nq tr ns tt tu nv nw => (cond_ (nq != 0) (k1 nq tr ns tt tu nv n7 n8 nw na nb) (Y6c n0 (IntKind.wrap .i64 (n1 + 1)) tr ns tt tu nv n7 n8 nw na nb k1 k2)))) (cond_ (n1 == 3) (Y61 t2 n3 t4 t5 n6 na
 (fun nx ty nz t10 t11 n12 n13 => (cond_ (nx != 0) (k1 nx ty nz t10 t11 n12 n7 n8 n9 n13 nb) (Y6c n0 (IntKind.wrap .i64 (n1 + 1)) ty nz t10 t11 n12 n7 n8 n9 n13 nb k1 k2)))) (cond_ (n1 == 4) (Y65 t2 n3 t4 t5 n6
 (fun n14 t15 n16 t17 t18 n19 => (cond_ (n14 != 0) (k1 n14 t15 n16 t17 t18 n19 n7 n8 n9 na nb) (Y6c n0 (IntKind.wrap .i64 (n1 + 1)) t15 n16 t17 t18 n19 n7 n8 n9 na nb k1 k2)))) (cond_ (n1 == 5) (Y6b t2 n3 t4 t5 n6 nb
 (fun n1a t1b n1c t1d t1e n1f n1g => (cond_ (n1a != 0) (k1 n1a t1b n1c t1d t1e n1f n7 n8 n9 na n1g) (Y6c n0 (IntKind.wrap .i64 (n1 + 1)) t1b n1c t1d t1e n1f n7 n8 n9 na n1g k1 k2)))) none)))))) (k2 t2 n3 t4 t5 n6 n7 n8 n9 na nb))
noncomputable def Y6c : Nat → T_Y6c
  | 0 => fun _ _ _ _ _ _ _ _ _ _ _ _ _ _ => none
  | n + 1 => Y6c.body (Y6c n) Y5o Y5q Y5u Y61 Y65 Y6b
def Y6c.p : LPat := lp 2 18 [6, 7, 8] (ps (pr [0, 0]) (pl (pd (.int .i64)) (pl (pd (.int .i64)) pz))) (pl (po [0, 0] 170 1 (em (pl (pf 117 pz (ps (pq [0, 1] 0 0) (ps (pq [0, 3] 0 0) pz))) (pl (pf 117 pz (ps (pq [0, 4] 0 0) (ps (pq [0, 5] 0 0) pz))) (pl (pf 117 pz (ps (pq [0, 6] 0 0) (ps (pq [0, 7] 0 0) pz))) (pl (pf 117 pz (ps (pq [0, 8] 0 0) (ps (pq [0, 9] 0 0) pz))) (pl (pf 104 pz (ps (pq [0, 2] 0 0) pz)) (pl (pf 117 pz (ps (pq [0, 10] 0 0) (ps (pq [0, 11] 0 0) pz))) pz)))))))) (pl (po [0, 1] 34 1 (em (pl (pf 97 pz (ps (pq [0, 2] 0 0) pz)) pz))) (pl (po [0, 2] 40 5 (em (pl (pa (pl (pb 1 69 Ty15) (pl (pb 2 2 (.int .i64)) (pl (pb 3 72 Ty18) (pl (pb 4 124 Ty13) (pl (pd (.int .i64)) pz)))))) pz))) (pl (po [0, 3] 44 1 (es (.int .i64) (pl eh pz))) (pl (po [0, 4] 34 1 (em (pl (pf 98 pz (ps (pq [0, 2] 0 0) pz)) pz))) (pl (po [0, 5] 44 1 (es (.int .i64) (pl eh pz))) (pl (po [0, 6] 34 1 (em (pl (pf 99 pz (ps (pq [0, 2] 0 0) pz)) pz))) (pl (po [0, 7] 44 1 (es (.int .i64) (pl eh pz))) (pl (po [0, 8] 34 1 (em (pl (pf 101 pz (ps (pq [0, 2] 0 0) pz)) pz))) (pl (po [0, 9] 44 1 (es (.int .i64) (pl eh pz))) (pl (po [0, 10] 34 1 (em (pl (pf 106 pz (ps (pq [0, 2] 0 0) pz)) pz))) (pl (po [0, 11] 44 1 (es (.int .i64) (pl eh pz))) pz))))))))))))
def Y6c.g (F : T_Y6c) (v : Y6c.p.T) (k : KE) : OB := F v.1.1 v.1.2.1 v.2.2.2.1.1.1 v.2.2.2.1.1.2.1 v.2.2.2.1.1.2.2.1 v.2.2.2.1.1.2.2.2.1 v.2.2.2.1.1.2.2.2.2.1 v.2.2.2.2.1.1 v.2.2.2.2.2.2.1.1 v.2.2.2.2.2.2.2.2.1.1 v.2.2.2.2.2.2.2.2.2.2.1.1 v.2.2.2.2.2.2.2.2.2.2.2.2.1.1 (fun y0 y1 y2 y3 y4 y5 y6 y7 y8 y9 y10 => k .ret ⟨fillS 18 [2] [(.d ⟨(.int .i64), y0⟩)], [([0, 0], ⟨170, 1, (.mix [(.fn (.func 117) [] [(.ptr [0, 1] 0 0), (.ptr [0, 3] 0 0)]), (.fn (.func 117) [] [(.ptr [0, 4] 0 0), (.ptr [0, 5] 0 0)]), (.fn (.func 117) [] [(.ptr [0, 6] 0 0), (.ptr [0, 7] 0 0)]), (.fn (.func 117) [] [(.ptr [0, 8] 0 0), (.ptr [0, 9] 0 0)]), (.fn (.func 104) [] [(.ptr [0, 2] 0 0)]), (.fn (.func 117) [] [(.ptr [0, 10] 0 0), (.ptr [0, 11] 0 0)])])⟩), ([0, 1], ⟨34, 1, (.mix [(.fn (.func 97) [] [(.ptr [0, 2] 0 0)])])⟩), ([0, 2], ⟨40, 5, (.mix [(.agg [(.bv 1 69 Ty15 y1), (.bv 2 2 (.int .i64) y2), (.bv 3 72 Ty18 y3), (.bv 4 124 Ty13 y4), (.d ⟨(.int .i64), y5⟩)])])⟩), ([0, 3], ⟨44, 1, (.data (.int .i64) [y6])⟩), ([0, 4], ⟨34, 1, (.mix [(.fn (.func 98) [] [(.ptr [0, 2] 0 0)])])⟩), ([0, 5], ⟨44, 1, (.data (.int .i64) [y7])⟩), ([0, 6], ⟨34, 1, (.mix [(.fn (.func 99) [] [(.ptr [0, 2] 0 0)])])⟩), ([0, 7], ⟨44, 1, (.data (.int .i64) [y8])⟩), ([0, 8], ⟨34, 1, (.mix [(.fn (.func 101) [] [(.ptr [0, 2] 0 0)])])⟩), ([0, 9], ⟨44, 1, (.data (.int .i64) [y9])⟩), ([0, 10], ⟨34, 1, (.mix [(.fn (.func 106) [] [(.ptr [0, 2] 0 0)])])⟩), ([0, 11], ⟨44, 1, (.data (.int .i64) [y10])⟩)], 2⟩) (fun y0 y1 y2 y3 y4 y5 y6 y7 y8 y9 => k (.exit 0) ⟨fillS 18 [] [], [([0, 0], ⟨170, 1, (.mix [(.fn (.func 117) [] [(.ptr [0, 1] 0 0), (.ptr [0, 3] 0 0)]), (.fn (.func 117) [] [(.ptr [0, 4] 0 0), (.ptr [0, 5] 0 0)]), (.fn (.func 117) [] [(.ptr [0, 6] 0 0), (.ptr [0, 7] 0 0)]), (.fn (.func 117) [] [(.ptr [0, 8] 0 0), (.ptr [0, 9] 0 0)]), (.fn (.func 104) [] [(.ptr [0, 2] 0 0)]), (.fn (.func 117) [] [(.ptr [0, 10] 0 0), (.ptr [0, 11] 0 0)])])⟩), ([0, 1], ⟨34, 1, (.mix [(.fn (.func 97) [] [(.ptr [0, 2] 0 0)])])⟩), ([0, 2], ⟨40, 5, (.mix [(.agg [(.bv 1 69 Ty15 y0), (.bv 2 2 (.int .i64) y1), (.bv 3 72 Ty18 y2), (.bv 4 124 Ty13 y3), (.d ⟨(.int .i64), y4⟩)])])⟩), ([0, 3], ⟨44, 1, (.data (.int .i64) [y5])⟩), ([0, 4], ⟨34, 1, (.mix [(.fn (.func 98) [] [(.ptr [0, 2] 0 0)])])⟩), ([0, 5], ⟨44, 1, (.data (.int .i64) [y6])⟩), ([0, 6], ⟨34, 1, (.mix [(.fn (.func 99) [] [(.ptr [0, 2] 0 0)])])⟩), ([0, 7], ⟨44, 1, (.data (.int .i64) [y7])⟩), ([0, 8], ⟨34, 1, (.mix [(.fn (.func 101) [] [(.ptr [0, 2] 0 0)])])⟩), ([0, 9], ⟨44, 1, (.data (.int .i64) [y8])⟩), ([0, 10], ⟨34, 1, (.mix [(.fn (.func 106) [] [(.ptr [0, 2] 0 0)])])⟩), ([0, 11], ⟨44, 1, (.data (.int .i64) [y9])⟩)], 2⟩)
theorem Y6c.step (S : T_Y6c) (F0 : T_Y5o) (F1 : T_Y5q) (F2 : T_Y5u) (F3 : T_Y61) (F4 : T_Y65) (F5 : T_Y6b) : ∀ v k, exR 95 Tryz.f95 0 Y6c.p [⟨Y5o.p, Y5o.g F0⟩, ⟨Y5q.p, Y5q.g F1⟩, ⟨Y5u.p, Y5u.g F2⟩, ⟨Y61.p, Y61.g F3⟩, ⟨Y65.p, Y65.g F4⟩, ⟨Y6b.p, Y6b.g F5⟩] [] [] (Y6c.g S) v k = Y6c.g (Y6c.body S F0 F1 F2 F3 F4 F5) v k := fun v k => by kernel_rfl
theorem Y6c.ok : okL 95 Tryz.f95 5 0 Y6c.p (Y6c.g (Y6c ROUNDS)) := loop2 (G := fun n => Y6c.g (Y6c n)) (fun n => Y6c.step (Y6c n) Y5o Y5q Y5u Y61 Y65 Y6b) (.cons Y5o.ok (.cons Y5q.ok (.cons Y5u.ok (.cons Y61.ok (.cons Y65.ok (.cons Y6b.ok .nil)))))) [] (by kernel_rfl) .nil (fun _ _ => rfl)
abbrev T_Y6d : Type := Tc8 → (List Int) → Tc10 → Tc9 → Int → Int → Int → Int → Int → Int → (Int → Tc8 → (List Int) → Tc10 → Tc9 → Int → Int → Int → Int → Int → Int → OB) → OB
noncomputable def Y6d.body (Y6c : T_Y6c) : T_Y6d := fun t0 n1 t2 t3 n4 n5 n6 n7 n8 n9 k1 =>
  (Y6c 6 0 t0 n1 t2 t3 n4 n5 n6 n7 n8 n9
 (fun na tb nc td te nf ng nh ni nj nk => (k1 na tb nc td te nf ng nh ni nj nk))
 (fun tl nm tn to np nq nr ns nt nu => (k1 0 tl nm tn to np nq nr ns nt nu)))
noncomputable def Y6d : T_Y6d := Y6d.body (Y6c ROUNDS)
def Y6d.p : FPat := fp 95 (ps (pr [0, 0]) pz) (pl (po [0, 0] 170 1 (em (pl (pf 117 pz (ps (pq [0, 1] 0 0) (ps (pq [0, 3] 0 0) pz))) (pl (pf 117 pz (ps (pq [0, 4] 0 0) (ps (pq [0, 5] 0 0) pz))) (pl (pf 117 pz (ps (pq [0, 6] 0 0) (ps (pq [0, 7] 0 0) pz))) (pl (pf 117 pz (ps (pq [0, 8] 0 0) (ps (pq [0, 9] 0 0) pz))) (pl (pf 104 pz (ps (pq [0, 2] 0 0) pz)) (pl (pf 117 pz (ps (pq [0, 10] 0 0) (ps (pq [0, 11] 0 0) pz))) pz)))))))) (pl (po [0, 1] 34 1 (em (pl (pf 97 pz (ps (pq [0, 2] 0 0) pz)) pz))) (pl (po [0, 2] 40 5 (em (pl (pa (pl (pb 1 69 Ty15) (pl (pb 2 2 (.int .i64)) (pl (pb 3 72 Ty18) (pl (pb 4 124 Ty13) (pl (pd (.int .i64)) pz)))))) pz))) (pl (po [0, 3] 44 1 (es (.int .i64) (pl eh pz))) (pl (po [0, 4] 34 1 (em (pl (pf 98 pz (ps (pq [0, 2] 0 0) pz)) pz))) (pl (po [0, 5] 44 1 (es (.int .i64) (pl eh pz))) (pl (po [0, 6] 34 1 (em (pl (pf 99 pz (ps (pq [0, 2] 0 0) pz)) pz))) (pl (po [0, 7] 44 1 (es (.int .i64) (pl eh pz))) (pl (po [0, 8] 34 1 (em (pl (pf 101 pz (ps (pq [0, 2] 0 0) pz)) pz))) (pl (po [0, 9] 44 1 (es (.int .i64) (pl eh pz))) (pl (po [0, 10] 34 1 (em (pl (pf 106 pz (ps (pq [0, 2] 0 0) pz)) pz))) (pl (po [0, 11] 44 1 (es (.int .i64) (pl eh pz))) pz))))))))))))
def Y6d.g (F : T_Y6d) (v : Y6d.p.T) (k : KR) : OB := F v.2.2.2.1.1.1 v.2.2.2.1.1.2.1 v.2.2.2.1.1.2.2.1 v.2.2.2.1.1.2.2.2.1 v.2.2.2.1.1.2.2.2.2.1 v.2.2.2.2.1.1 v.2.2.2.2.2.2.1.1 v.2.2.2.2.2.2.2.2.1.1 v.2.2.2.2.2.2.2.2.2.2.1.1 v.2.2.2.2.2.2.2.2.2.2.2.2.1.1 (fun y0 y1 y2 y3 y4 y5 y6 y7 y8 y9 y10 => k (.d ⟨(.int .i64), y0⟩) [([0, 0], ⟨170, 1, (.mix [(.fn (.func 117) [] [(.ptr [0, 1] 0 0), (.ptr [0, 3] 0 0)]), (.fn (.func 117) [] [(.ptr [0, 4] 0 0), (.ptr [0, 5] 0 0)]), (.fn (.func 117) [] [(.ptr [0, 6] 0 0), (.ptr [0, 7] 0 0)]), (.fn (.func 117) [] [(.ptr [0, 8] 0 0), (.ptr [0, 9] 0 0)]), (.fn (.func 104) [] [(.ptr [0, 2] 0 0)]), (.fn (.func 117) [] [(.ptr [0, 10] 0 0), (.ptr [0, 11] 0 0)])])⟩), ([0, 1], ⟨34, 1, (.mix [(.fn (.func 97) [] [(.ptr [0, 2] 0 0)])])⟩), ([0, 2], ⟨40, 5, (.mix [(.agg [(.bv 1 69 Ty15 y1), (.bv 2 2 (.int .i64) y2), (.bv 3 72 Ty18 y3), (.bv 4 124 Ty13 y4), (.d ⟨(.int .i64), y5⟩)])])⟩), ([0, 3], ⟨44, 1, (.data (.int .i64) [y6])⟩), ([0, 4], ⟨34, 1, (.mix [(.fn (.func 98) [] [(.ptr [0, 2] 0 0)])])⟩), ([0, 5], ⟨44, 1, (.data (.int .i64) [y7])⟩), ([0, 6], ⟨34, 1, (.mix [(.fn (.func 99) [] [(.ptr [0, 2] 0 0)])])⟩), ([0, 7], ⟨44, 1, (.data (.int .i64) [y8])⟩), ([0, 8], ⟨34, 1, (.mix [(.fn (.func 101) [] [(.ptr [0, 2] 0 0)])])⟩), ([0, 9], ⟨44, 1, (.data (.int .i64) [y9])⟩), ([0, 10], ⟨34, 1, (.mix [(.fn (.func 106) [] [(.ptr [0, 2] 0 0)])])⟩), ([0, 11], ⟨44, 1, (.data (.int .i64) [y10])⟩)])
theorem Y6d.eq (L0 : T_Y6c) : ∀ v k, exF Tryz.f95 Y6d.p [] [] [⟨0, Y6c.p, Y6c.g L0⟩] v k = Y6d.g (Y6d.body L0) v k := fun v k => by kernel_rfl
theorem Y6d.ok : okF 6 Y6d.p (Y6d.g Y6d) := fn2 (Y6d.eq (Y6c ROUNDS)) Tryz.func95 (by kernel_rfl) .nil [0] (by kernel_rfl) (.cons Y6c.ok .nil)
abbrev T_Y6e : Type := Tc8 → (List Int) → Tc10 → Tc9 → Int → (Int → OB) → OB
noncomputable def Y6e.body (Y5i : T_Y5i) (Y5j : T_Y5j) (Y5k : T_Y5k) (Y5l : T_Y5l) (Y5m : T_Y5m) (Y6d : T_Y6d) : T_Y6e := fun t0 n1 t2 t3 n4 k1 =>
  (Y5i 19 t0 n1 t2 t3 n4
 (fun t5 n6 t7 t8 n9 na => (Y5j 3 t5 n6 t7 t8 n9
 (fun tb nc td te nf ng => (Y5k 9 tb nc td te nf
 (fun th ni tj tk nl nm => (Y5l 8 th ni tj tk nl
 (fun tn no tp tq nr ns => (Y5m 15 tn no tp tq nr
 (fun tt nu tv tw nx ny => (Y6d tt nu tv tw nx na ng nm ns ny
 (fun nz t10 n11 t12 t13 n14 n15 n16 n17 n18 n19 => (k1 nz)))))))))))))
noncomputable def Y6e : T_Y6e := Y6e.body Y5i Y5j Y5k Y5l Y5m Y6d
def Y6e.p : FPat := fp 61 (pl (pa (pl (pb 1 69 Ty15) (pl (pb 2 2 (.int .i64)) (pl (pb 3 72 Ty18) (pl (pb 4 124 Ty13) (pl (pd (.int .i64)) pz)))))) pz) pz
def Y6e.g (F : T_Y6e) (v : Y6e.p.T) (k : KR) : OB := F v.1.1.1 v.1.1.2.1 v.1.1.2.2.1 v.1.1.2.2.2.1 v.1.1.2.2.2.2.1 (fun y0 => k (.d ⟨(.int .i64), y0⟩) [])
theorem Y6e.eq (F0 : T_Y5i) (F1 : T_Y5j) (F2 : T_Y5k) (F3 : T_Y5l) (F4 : T_Y5m) (F5 : T_Y6d) : ∀ v k, exF Tryz.f61 Y6e.p [⟨Y5i.p, Y5i.g F0⟩, ⟨Y5j.p, Y5j.g F1⟩, ⟨Y5k.p, Y5k.g F2⟩, ⟨Y5l.p, Y5l.g F3⟩, ⟨Y5m.p, Y5m.g F4⟩, ⟨Y6d.p, Y6d.g F5⟩] [] [] v k = Y6e.g (Y6e.body F0 F1 F2 F3 F4 F5) v k := fun v k => by kernel_rfl
theorem Y6e.ok : okF 7 Y6e.p (Y6e.g Y6e) := fn2 (Y6e.eq Y5i Y5j Y5k Y5l Y5m Y6d) Tryz.func61 (by kernel_rfl) (.cons Y5i.ok (.cons Y5j.ok (.cons Y5k.ok (.cons Y5l.ok (.cons Y5m.ok (.cons Y6d.ok .nil)))))) [] (by kernel_rfl) .nil
abbrev T_Y6f : Type := (List Int) → (Tc18 → Int → OB) → OB
noncomputable def Y6f.body (Y4n : T_Y4n) (Y5f : T_Y5f) (Y4o : T_Y4o) (Y5h : T_Y5h) (Y4p : T_Y4p) (Y6e : T_Y6e) : T_Y6f := fun n0 k1 =>
  (cond_ (decide ((length n0 : Int) < 4)) (k1 ([], ([], ([], ([], (0, ()))))) 5) (cond_ (true && (decide (4 ≤ (length n0 : Int)))) (cond_ (! ((ByteArray.toList (strOf (List.take (4 : Nat) (List.drop (0 : Nat) n0)))) == (ByteArray.toList (⟨#[83, 72, 73, 49]⟩ : ByteArray)))) (k1 ([], ([], ([], ([], (0, ()))))) 3) (cond_ (true && (decide (4 ≤ (length n0 : Int)))) (Y4n (List.take ((length n0) - (4 : Nat)) (List.drop (4 : Nat) n0))
 (fun n1 b2 b3 n4 => (Y5f n1 b2 b3 n4
 (fun n5 n6 b7 b8 n9 ta nb tc => (Y4o n6 b7 b8 n9
 (fun bd ne bf bg nh => (cond_ bd (k1 (ta, (nb, (tc, ([], (n5, ()))))) 5) (Y5h ne bf bg nh
 (fun ni nj bk bl nm tn => (cond_ (ni != 0) (k1 (ta, (nb, (tc, (tn, (n5, ()))))) ni) (Y4p nj bk bl nm
 (fun no np bq br ns => (cond_ (decide (no > 0)) (k1 (ta, (nb, (tc, (tn, (n5, ()))))) 6) (Y6e ta nb tc tn n5
 (fun nt => (k1 (ta, (nb, (tc, (tn, (n5, ()))))) nt)))))))))))))))) none)) none))
noncomputable def Y6f : T_Y6f := Y6f.body Y4n Y5f Y4o Y5h Y4p Y6e
def Y6f.p : FPat := fp 29 (pl (pb 1 5 (.int .u8)) pz) pz
def Y6f.g (F : T_Y6f) (v : Y6f.p.T) (k : KR) : OB := F v.1.1 (fun y0 y1 => k (.tup [(.d ⟨Ty26, y0⟩), (.d ⟨(.int .i64), y1⟩)]) [])
theorem Y6f.eq (F0 : T_Y4n) (F1 : T_Y5f) (F2 : T_Y4o) (F3 : T_Y5h) (F4 : T_Y4p) (F5 : T_Y6e) : ∀ v k, exF Tryz.f29 Y6f.p [⟨Y4n.p, Y4n.g F0⟩, ⟨Y5f.p, Y5f.g F1⟩, ⟨Y4o.p, Y4o.g F2⟩, ⟨Y5h.p, Y5h.g F3⟩, ⟨Y4p.p, Y4p.g F4⟩, ⟨Y6e.p, Y6e.g F5⟩] [] [] v k = Y6f.g (Y6f.body F0 F1 F2 F3 F4 F5) v k := fun v k => by kernel_rfl
theorem Y6f.ok : okF 9 Y6f.p (Y6f.g Y6f) := fn2 (Y6f.eq Y4n Y5f Y4o Y5h Y4p Y6e) Tryz.func29 (by kernel_rfl) (.cons Y4n.ok (.cons Y5f.ok (.cons Y4o.ok (.cons Y5h.ok (.cons Y4p.ok (.cons Y6e.ok .nil)))))) [] (by kernel_rfl) .nil
abbrev T_Y6g : Type := (List Int) → (Tc18 → Int → OB) → OB
noncomputable def Y6g.body (Y4w : T_Y4w) (Y6f : T_Y6f) : T_Y6g := fun n0 k1 =>
  (Y4w n0
 (fun n1 n2 => (cond_ (n1 != 0) (k1 ([], ([], ([], ([], (0, ()))))) n1) (Y6f n2
 (fun t3 n4 => (cond_ (n4 != 0) (k1 ([], ([], ([], ([], (0, ()))))) n4) (k1 (t3.1, (t3.2.1, (t3.2.2.1, (t3.2.2.2.1, (t3.2.2.2.2.1, ()))))) 0)))))))
noncomputable def Y6g : T_Y6g := Y6g.body Y4w Y6f
def Y6g.p : FPat := fp 10 (pl (pb 1 5 (.int .u8)) pz) pz
def Y6g.g (F : T_Y6g) (v : Y6g.p.T) (k : KR) : OB := F v.1.1 (fun y0 y1 => k (.tup [(.d ⟨Ty26, y0⟩), (.d ⟨(.int .i64), y1⟩)]) [])
theorem Y6g.eq (F0 : T_Y4w) (F1 : T_Y6f) : ∀ v k, exF Tryz.f10 Y6g.p [⟨Y4w.p, Y4w.g F0⟩, ⟨Y6f.p, Y6f.g F1⟩] [] [] v k = Y6g.g (Y6g.body F0 F1) v k := fun v k => by kernel_rfl
theorem Y6g.ok : okF 10 Y6g.p (Y6g.g Y6g) := fn2 (Y6g.eq Y4w Y6f) Tryz.func10 (by kernel_rfl) (.cons Y4w.ok (.cons Y6f.ok .nil)) [] (by kernel_rfl) .nil
abbrev T_Y6h : Type := (Int → (List Int) → OB) → OB
noncomputable def Y6h.body : T_Y6h := fun k1 =>
  (k1 5 [])
noncomputable def Y6h : T_Y6h := Y6h.body
def Y6h.p : FPat := fp 28 (ps (pk 0) pz) pz
def Y6h.g (F : T_Y6h) (v : Y6h.p.T) (k : KR) : OB := F (fun y0 y1 => k (.tup [(.ref [1, 0]), (.d ⟨(.int .i64), y0⟩)]) [([1, 0], ⟨5, 1, (.data (.int .u8) y1)⟩)])
theorem Y6h.eq : ∀ v k, exF Tryz.f28 Y6h.p [] [] [] v k = Y6h.g (Y6h.body) v k := fun v k => by kernel_rfl
theorem Y6h.ok : okF 1 Y6h.p (Y6h.g Y6h) := fn2 (Y6h.eq) Tryz.func28 (by kernel_rfl) .nil [] (by kernel_rfl) .nil
abbrev T_Y6i : Type := (Tc18 → Int → OB) → OB
noncomputable def Y6i.body (Y6h : T_Y6h) (Y6f : T_Y6f) : T_Y6i := fun k1 =>
  (Y6h
 (fun n0 n1 => (cond_ (n0 != 0) (k1 ([], ([], ([], ([], (0, ()))))) n0) (Y6f n1
 (fun t2 n3 => (cond_ (n3 != 0) (k1 ([], ([], ([], ([], (0, ()))))) n3) (k1 (t2.1, (t2.2.1, (t2.2.2.1, (t2.2.2.2.1, (t2.2.2.2.2.1, ()))))) 0)))))))
noncomputable def Y6i : T_Y6i := Y6i.body Y6h Y6f
def Y6i.p : FPat := fp 10 (ps (pk 0) pz) pz
def Y6i.g (F : T_Y6i) (v : Y6i.p.T) (k : KR) : OB := F (fun y0 y1 => k (.tup [(.d ⟨Ty26, y0⟩), (.d ⟨(.int .i64), y1⟩)]) [])
theorem Y6i.eq (F0 : T_Y6h) (F1 : T_Y6f) : ∀ v k, exF Tryz.f10 Y6i.p [⟨Y6h.p, Y6h.g F0⟩, ⟨Y6f.p, Y6f.g F1⟩] [] [] v k = Y6i.g (Y6i.body F0 F1) v k := fun v k => by kernel_rfl
theorem Y6i.ok : okF 10 Y6i.p (Y6i.g Y6i) := fn2 (Y6i.eq Y6h Y6f) Tryz.func10 (by kernel_rfl) (.cons Y6h.ok (.cons Y6f.ok .nil)) [] (by kernel_rfl) .nil
abbrev T_Y6j : Type := Tc8 → Tc8 → Int → (Bool → OB) → (OB) → OB
noncomputable def Y6j.body (Y6j : T_Y6j) : T_Y6j := fun t0 t1 n2 k1 k2 =>
  (cond_ (decide (n2 < (length t0 : Int))) (cond_ ((decide (0 ≤ n2)) && (decide (n2 < (length t0 : Int)))) (cond_ ((decide (0 ≤ n2)) && (decide (n2 < (length t1 : Int)))) (cond_ (! (((getD t0 (toNat n2) ZIns).1 == (getD t1 (toNat n2) ZIns).1) && (((getD t0 (toNat n2) ZIns).2.1 == (getD t1 (toNat n2) ZIns).2.1) && (((getD t0 (toNat n2) ZIns).2.2.1 == (getD t1 (toNat n2) ZIns).2.2.1) && (((getD t0 (toNat n2) ZIns).2.2.2.1 == (getD t1 (toNat n2) ZIns).2.2.2.1) && (((getD t0 (toNat n2) ZIns).2.2.2.2.1 == (getD t1 (toNat n2) ZIns).2.2.2.2.1) && true)))))) (k1 false) (Y6j t0 t1 (IntKind.wrap .i64 (n2 + 1)) k1 k2)) none) none) (k2))
noncomputable def Y6j : Nat → T_Y6j
  | 0 => fun _ _ _ _ _ => none
  | n + 1 => Y6j.body (Y6j n)
def Y6j.p : LPat := lp 2 26 [0, 1, 5] (pl (pb 0 69 Ty15) (pl (pb 1 69 Ty15) (pl (pd (.int .i64)) pz))) pz
def Y6j.g (F : T_Y6j) (v : Y6j.p.T) (k : KE) : OB := F v.1.1 v.1.2.1 v.1.2.2.1 (fun y0 => k .ret ⟨fillS 26 [4] [(.d ⟨.bool, y0⟩)], [], 2⟩) (k (.exit 0) ⟨fillS 26 [] [], [], 2⟩)
theorem Y6j.step (S : T_Y6j) : ∀ v k, exR 30 Tryz.f30 0 Y6j.p [] [] [] (Y6j.g S) v k = Y6j.g (Y6j.body S) v k := fun v k => by kernel_rfl
theorem Y6j.ok : okL 30 Tryz.f30 0 0 Y6j.p (Y6j.g (Y6j ROUNDS)) := loop2 (G := fun n => Y6j.g (Y6j n)) (fun n => Y6j.step (Y6j n)) .nil [] (by kernel_rfl) .nil (fun _ _ => rfl)
abbrev T_Y6k : Type := Tc8 → Tc8 → (Bool → OB) → OB
noncomputable def Y6k.body (Y6j : T_Y6j) : T_Y6k := fun t0 t1 k1 =>
  (cond_ ((length t0 : Int) != (length t1 : Int)) (k1 false) (Y6j t0 t1 0
 (fun b2 => (k1 b2))
  (k1 true)))
noncomputable def Y6k : T_Y6k := Y6k.body (Y6j ROUNDS)
def Y6k.p : FPat := fp 30 (pl (pb 0 69 Ty15) (pl (pb 1 69 Ty15) pz)) pz
def Y6k.g (F : T_Y6k) (v : Y6k.p.T) (k : KR) : OB := F v.1.1 v.1.2.1 (fun y0 => k (.d ⟨.bool, y0⟩) [])
theorem Y6k.eq (L0 : T_Y6j) : ∀ v k, exF Tryz.f30 Y6k.p [] [] [⟨0, Y6j.p, Y6j.g L0⟩] v k = Y6k.g (Y6k.body L0) v k := fun v k => by kernel_rfl
theorem Y6k.ok : okF 1 Y6k.p (Y6k.g Y6k) := fn2 (Y6k.eq (Y6j ROUNDS)) Tryz.func30 (by kernel_rfl) .nil [0] (by kernel_rfl) (.cons Y6j.ok .nil)
abbrev T_Y6l : Type := (List Int) → (List Int) → Int → (Bool → OB) → (OB) → OB
noncomputable def Y6l.body (Y6l : T_Y6l) : T_Y6l := fun n0 n1 n2 k1 k2 =>
  (cond_ (decide (n2 < (length n0 : Int))) (cond_ ((decide (0 ≤ n2)) && (decide (n2 < (length n0 : Int)))) (cond_ ((decide (0 ≤ n2)) && (decide (n2 < (length n1 : Int)))) (cond_ ((getD n0 (toNat n2) 0) != (getD n1 (toNat n2) 0)) (k1 false) (Y6l n0 n1 (IntKind.wrap .i64 (n2 + 1)) k1 k2)) none) none) (k2))
noncomputable def Y6l : Nat → T_Y6l
  | 0 => fun _ _ _ _ _ => none
  | n + 1 => Y6l.body (Y6l n)
def Y6l.p : LPat := lp 2 26 [0, 1, 5] (pl (pb 0 2 (.int .i64)) (pl (pb 1 2 (.int .i64)) (pl (pd (.int .i64)) pz))) pz
def Y6l.g (F : T_Y6l) (v : Y6l.p.T) (k : KE) : OB := F v.1.1 v.1.2.1 v.1.2.2.1 (fun y0 => k .ret ⟨fillS 26 [4] [(.d ⟨.bool, y0⟩)], [], 2⟩) (k (.exit 0) ⟨fillS 26 [] [], [], 2⟩)
theorem Y6l.step (S : T_Y6l) : ∀ v k, exR 31 Tryz.f31 0 Y6l.p [] [] [] (Y6l.g S) v k = Y6l.g (Y6l.body S) v k := fun v k => by kernel_rfl
theorem Y6l.ok : okL 31 Tryz.f31 0 0 Y6l.p (Y6l.g (Y6l ROUNDS)) := loop2 (G := fun n => Y6l.g (Y6l n)) (fun n => Y6l.step (Y6l n)) .nil [] (by kernel_rfl) .nil (fun _ _ => rfl)
abbrev T_Y6m : Type := (List Int) → (List Int) → (Bool → OB) → OB
noncomputable def Y6m.body (Y6l : T_Y6l) : T_Y6m := fun n0 n1 k1 =>
  (cond_ ((length n0 : Int) != (length n1 : Int)) (k1 false) (Y6l n0 n1 0
 (fun b2 => (k1 b2))
  (k1 true)))
noncomputable def Y6m : T_Y6m := Y6m.body (Y6l ROUNDS)
def Y6m.p : FPat := fp 31 (pl (pb 0 2 (.int .i64)) (pl (pb 1 2 (.int .i64)) pz)) pz
def Y6m.g (F : T_Y6m) (v : Y6m.p.T) (k : KR) : OB := F v.1.1 v.1.2.1 (fun y0 => k (.d ⟨.bool, y0⟩) [])
theorem Y6m.eq (L0 : T_Y6l) : ∀ v k, exF Tryz.f31 Y6m.p [] [] [⟨0, Y6l.p, Y6l.g L0⟩] v k = Y6m.g (Y6m.body L0) v k := fun v k => by kernel_rfl
theorem Y6m.ok : okF 1 Y6m.p (Y6m.g Y6m) := fn2 (Y6m.eq (Y6l ROUNDS)) Tryz.func31 (by kernel_rfl) .nil [0] (by kernel_rfl) (.cons Y6l.ok .nil)
abbrev T_Y6n : Type := Tc10 → Tc10 → Int → (Bool → OB) → (OB) → OB
noncomputable def Y6n.body (Y6n : T_Y6n) : T_Y6n := fun t0 t1 n2 k1 k2 =>
  (cond_ (decide (n2 < (length t0 : Int))) (cond_ ((decide (0 ≤ n2)) && (decide (n2 < (length t0 : Int)))) (cond_ ((decide (0 ≤ n2)) && (decide (n2 < (length t1 : Int)))) (cond_ (! (((getD t0 (toNat n2) ZFn).1 == (getD t1 (toNat n2) ZFn).1) && (((getD t0 (toNat n2) ZFn).2.1 == (getD t1 (toNat n2) ZFn).2.1) && (((getD t0 (toNat n2) ZFn).2.2.1 == (getD t1 (toNat n2) ZFn).2.2.1) && (((getD t0 (toNat n2) ZFn).2.2.2.1 == (getD t1 (toNat n2) ZFn).2.2.2.1) && (((getD t0 (toNat n2) ZFn).2.2.2.2.1 == (getD t1 (toNat n2) ZFn).2.2.2.2.1) && (((getD t0 (toNat n2) ZFn).2.2.2.2.2.1 == (getD t1 (toNat n2) ZFn).2.2.2.2.2.1) && true))))))) (k1 false) (Y6n t0 t1 (IntKind.wrap .i64 (n2 + 1)) k1 k2)) none) none) (k2))
noncomputable def Y6n : Nat → T_Y6n
  | 0 => fun _ _ _ _ _ => none
  | n + 1 => Y6n.body (Y6n n)
def Y6n.p : LPat := lp 2 26 [0, 1, 5] (pl (pb 0 72 Ty18) (pl (pb 1 72 Ty18) (pl (pd (.int .i64)) pz))) pz
def Y6n.g (F : T_Y6n) (v : Y6n.p.T) (k : KE) : OB := F v.1.1 v.1.2.1 v.1.2.2.1 (fun y0 => k .ret ⟨fillS 26 [4] [(.d ⟨.bool, y0⟩)], [], 2⟩) (k (.exit 0) ⟨fillS 26 [] [], [], 2⟩)
theorem Y6n.step (S : T_Y6n) : ∀ v k, exR 32 Tryz.f32 0 Y6n.p [] [] [] (Y6n.g S) v k = Y6n.g (Y6n.body S) v k := fun v k => by kernel_rfl
theorem Y6n.ok : okL 32 Tryz.f32 0 0 Y6n.p (Y6n.g (Y6n ROUNDS)) := loop2 (G := fun n => Y6n.g (Y6n n)) (fun n => Y6n.step (Y6n n)) .nil [] (by kernel_rfl) .nil (fun _ _ => rfl)
abbrev T_Y6o : Type := Tc10 → Tc10 → (Bool → OB) → OB
noncomputable def Y6o.body (Y6n : T_Y6n) : T_Y6o := fun t0 t1 k1 =>
  (cond_ ((length t0 : Int) != (length t1 : Int)) (k1 false) (Y6n t0 t1 0
 (fun b2 => (k1 b2))
  (k1 true)))
noncomputable def Y6o : T_Y6o := Y6o.body (Y6n ROUNDS)
def Y6o.p : FPat := fp 32 (pl (pb 0 72 Ty18) (pl (pb 1 72 Ty18) pz)) pz
def Y6o.g (F : T_Y6o) (v : Y6o.p.T) (k : KR) : OB := F v.1.1 v.1.2.1 (fun y0 => k (.d ⟨.bool, y0⟩) [])
theorem Y6o.eq (L0 : T_Y6n) : ∀ v k, exF Tryz.f32 Y6o.p [] [] [⟨0, Y6n.p, Y6n.g L0⟩] v k = Y6o.g (Y6o.body L0) v k := fun v k => by kernel_rfl
theorem Y6o.ok : okF 1 Y6o.p (Y6o.g Y6o) := fn2 (Y6o.eq (Y6n ROUNDS)) Tryz.func32 (by kernel_rfl) .nil [0] (by kernel_rfl) (.cons Y6n.ok .nil)
abbrev T_Y6p : Type := Tc9 → Tc9 → Int → (Bool → OB) → (OB) → OB
noncomputable def Y6p.body (Y6p : T_Y6p) : T_Y6p := fun t0 t1 n2 k1 k2 =>
  (cond_ (decide (n2 < (length t0 : Int))) (cond_ ((decide (0 ≤ n2)) && (decide (n2 < (length t0 : Int)))) (cond_ ((decide (0 ≤ n2)) && (decide (n2 < (length t1 : Int)))) (cond_ (! (((getD t0 (toNat n2) ZRu).1 == (getD t1 (toNat n2) ZRu).1) && ((((getD t0 (toNat n2) ZRu).2.1 == (getD t1 (toNat n2) ZRu).2.1) && (((getD t0 (toNat n2) ZRu).2.2.1 == (getD t1 (toNat n2) ZRu).2.2.1) && (((getD t0 (toNat n2) ZRu).2.2.2.1 == (getD t1 (toNat n2) ZRu).2.2.2.1) && (((getD t0 (toNat n2) ZRu).2.2.2.2.1 == (getD t1 (toNat n2) ZRu).2.2.2.2.1) && true)))) && true))) (k1 false) (Y6p t0 t1 (IntKind.wrap .i64 (n2 + 1)) k1 k2)) none) none) (k2))
noncomputable def Y6p : Nat → T_Y6p
  | 0 => fun _ _ _ _ _ => none
  | n + 1 => Y6p.body (Y6p n)
def Y6p.p : LPat := lp 2 26 [0, 1, 5] (pl (pb 0 124 Ty13) (pl (pb 1 124 Ty13) (pl (pd (.int .i64)) pz))) pz
def Y6p.g (F : T_Y6p) (v : Y6p.p.T) (k : KE) : OB := F v.1.1 v.1.2.1 v.1.2.2.1 (fun y0 => k .ret ⟨fillS 26 [4] [(.d ⟨.bool, y0⟩)], [], 2⟩) (k (.exit 0) ⟨fillS 26 [] [], [], 2⟩)
theorem Y6p.step (S : T_Y6p) : ∀ v k, exR 33 Tryz.f33 0 Y6p.p [] [] [] (Y6p.g S) v k = Y6p.g (Y6p.body S) v k := fun v k => by kernel_rfl
theorem Y6p.ok : okL 33 Tryz.f33 0 0 Y6p.p (Y6p.g (Y6p ROUNDS)) := loop2 (G := fun n => Y6p.g (Y6p n)) (fun n => Y6p.step (Y6p n)) .nil [] (by kernel_rfl) .nil (fun _ _ => rfl)
abbrev T_Y6q : Type := Tc9 → Tc9 → (Bool → OB) → OB
noncomputable def Y6q.body (Y6p : T_Y6p) : T_Y6q := fun t0 t1 k1 =>
  (cond_ ((length t0 : Int) != (length t1 : Int)) (k1 false) (Y6p t0 t1 0
 (fun b2 => (k1 b2))
  (k1 true)))
noncomputable def Y6q : T_Y6q := Y6q.body (Y6p ROUNDS)
def Y6q.p : FPat := fp 33 (pl (pb 0 124 Ty13) (pl (pb 1 124 Ty13) pz)) pz
def Y6q.g (F : T_Y6q) (v : Y6q.p.T) (k : KR) : OB := F v.1.1 v.1.2.1 (fun y0 => k (.d ⟨.bool, y0⟩) [])
theorem Y6q.eq (L0 : T_Y6p) : ∀ v k, exF Tryz.f33 Y6q.p [] [] [⟨0, Y6p.p, Y6p.g L0⟩] v k = Y6q.g (Y6q.body L0) v k := fun v k => by kernel_rfl
theorem Y6q.ok : okF 1 Y6q.p (Y6q.g Y6q) := fn2 (Y6q.eq (Y6p ROUNDS)) Tryz.func33 (by kernel_rfl) .nil [0] (by kernel_rfl) (.cons Y6p.ok .nil)
abbrev T_Y6r : Type := Tc18 → Tc8 → (List Int) → Tc10 → Tc9 → Int → (Bool → OB) → OB
noncomputable def Y6r.body (Y6k : T_Y6k) (Y6m : T_Y6m) (Y6o : T_Y6o) (Y6q : T_Y6q) : T_Y6r := fun t0 t1 n2 t3 t4 n5 k1 =>
  (Y6k t0.1 t1
 (fun b6 => (cond_ b6 (Y6m t0.2.1 n2
 (fun b7 => (cond_ b7 (Y6o t0.2.2.1 t3
 (fun b8 => (cond_ b8 (Y6q t0.2.2.2.1 t4
 (fun b9 => (cond_ b9 (k1 (t0.2.2.2.2.1 == n5)) (k1 false)))) (k1 false)))) (k1 false)))) (k1 false))))
noncomputable def Y6r : T_Y6r := Y6r.body Y6k Y6m Y6o Y6q
def Y6r.p : FPat := fp 11 (pl (pd Ty26) (pl (pa (pl (pb 1 69 Ty15) (pl (pb 2 2 (.int .i64)) (pl (pb 3 72 Ty18) (pl (pb 4 124 Ty13) (pl (pd (.int .i64)) pz)))))) pz)) pz
def Y6r.g (F : T_Y6r) (v : Y6r.p.T) (k : KR) : OB := F v.1.1 v.1.2.1.1 v.1.2.1.2.1 v.1.2.1.2.2.1 v.1.2.1.2.2.2.1 v.1.2.1.2.2.2.2.1 (fun y0 => k (.d ⟨.bool, y0⟩) [])
theorem Y6r.eq (F0 : T_Y6k) (F1 : T_Y6m) (F2 : T_Y6o) (F3 : T_Y6q) : ∀ v k, exF Tryz.f11 Y6r.p [⟨Y6k.p, Y6k.g F0⟩, ⟨Y6m.p, Y6m.g F1⟩, ⟨Y6o.p, Y6o.g F2⟩, ⟨Y6q.p, Y6q.g F3⟩] [] [] v k = Y6r.g (Y6r.body F0 F1 F2 F3) v k := fun v k => by kernel_rfl
theorem Y6r.ok : okF 2 Y6r.p (Y6r.g Y6r) := fn2 (Y6r.eq Y6k Y6m Y6o Y6q) Tryz.func11 (by kernel_rfl) (.cons Y6k.ok (.cons Y6m.ok (.cons Y6o.ok (.cons Y6q.ok .nil)))) [] (by kernel_rfl) .nil
abbrev T_Y6s : Type := Tc23 → Tc2 → Int → (Bool → OB) → OB
noncomputable def Y6s.body : T_Y6s := fun t0 t1 n2 k1 =>
  (cond_ (decide (n2 ≥ 0)) (cond_ (decide (n2 < (length t0.1 : Int))) (cond_ (decide (n2 < (length t1.1 : Int))) (cond_ ((decide (0 ≤ n2)) && (decide (n2 < (length t1.1 : Int)))) (k1 (getD t1.1 (toNat n2) false)) none) (k1 false)) (k1 false)) (k1 false))
noncomputable def Y6s : T_Y6s := Y6s.body
def Y6s.p : FPat := fp 6 (pl (pd Ty30) (pl (pd Ty8) (pl (pd (.int .i64)) pz))) pz
def Y6s.g (F : T_Y6s) (v : Y6s.p.T) (k : KR) : OB := F v.1.1 v.1.2.1 v.1.2.2.1 (fun y0 => k (.d ⟨.bool, y0⟩) [])
theorem Y6s.eq : ∀ v k, exF Tryz.f6 Y6s.p [] [] [] v k = Y6s.g (Y6s.body) v k := fun v k => by kernel_rfl
theorem Y6s.ok : okF 1 Y6s.p (Y6s.g Y6s) := fn2 (Y6s.eq) Tryz.func6 (by kernel_rfl) .nil [] (by kernel_rfl) .nil
abbrev T_Y6t : Type := Tc2 → Int → (Int → OB) → OB
noncomputable def Y6t.body : T_Y6t := fun t0 n1 k1 =>
  (cond_ (! (decide (n1 < 0))) (cond_ (decide (n1 ≥ (length t0.2.1 : Int))) (k1 0) (cond_ ((decide (0 ≤ n1)) && (decide (n1 < (length t0.2.1 : Int)))) (k1 (getD t0.2.1 (toNat n1) 0)) none)) (k1 0))
noncomputable def Y6t : T_Y6t := Y6t.body
def Y6t.p : FPat := fp 46 (pl (pd Ty8) (pl (pd (.int .i64)) pz)) pz
def Y6t.g (F : T_Y6t) (v : Y6t.p.T) (k : KR) : OB := F v.1.1 v.1.2.1 (fun y0 => k (.d ⟨(.int .i64), y0⟩) [])
theorem Y6t.eq : ∀ v k, exF Tryz.f46 Y6t.p [] [] [] v k = Y6t.g (Y6t.body) v k := fun v k => by kernel_rfl
theorem Y6t.ok : okF 1 Y6t.p (Y6t.g Y6t) := fn2 (Y6t.eq) Tryz.func46 (by kernel_rfl) .nil [] (by kernel_rfl) .nil
abbrev T_Y6u : Type := Tc23 → Tc2 → Int → (Int → OB) → OB
noncomputable def Y6u.body (Y6s : T_Y6s) (Y6t : T_Y6t) : T_Y6u := fun t0 t1 n2 k1 =>
  (Y6s t0 t1 n2
 (fun b3 => (cond_ (! b3) (k1 0) (cond_ ((decide (0 ≤ n2)) && (decide (n2 < (length t0.1 : Int)))) (Y6t t1 n2
 (fun n4 => (cond_ (n4 != 0) (k1 (IntKind.wrap .i64 ((IntKind.wrap .i64 (1 + (length (getD t0.1 (toNat n2) ZFun).2.2.2.2.2.2.2.2.2.2.1 : Int))) + 1))) (k1 (IntKind.wrap .i64 (1 + (length (getD t0.1 (toNat n2) ZFun).2.2.2.2.2.2.2.2.2.2.1 : Int))))))) none))))
noncomputable def Y6u : T_Y6u := Y6u.body Y6s Y6t
def Y6u.p : FPat := fp 80 (pl (pd Ty30) (pl (pd Ty8) (pl (pd (.int .i64)) pz))) pz
def Y6u.g (F : T_Y6u) (v : Y6u.p.T) (k : KR) : OB := F v.1.1 v.1.2.1 v.1.2.2.1 (fun y0 => k (.d ⟨(.int .i64), y0⟩) [])
theorem Y6u.eq (F0 : T_Y6s) (F1 : T_Y6t) : ∀ v k, exF Tryz.f80 Y6u.p [⟨Y6s.p, Y6s.g F0⟩, ⟨Y6t.p, Y6t.g F1⟩] [] [] v k = Y6u.g (Y6u.body F0 F1) v k := fun v k => by kernel_rfl
theorem Y6u.ok : okF 2 Y6u.p (Y6u.g Y6u) := fn2 (Y6u.eq Y6s Y6t) Tryz.func80 (by kernel_rfl) (.cons Y6s.ok (.cons Y6t.ok .nil)) [] (by kernel_rfl) .nil
abbrev T_Y6v : Type := Int → Int → Int → Tc23 → Tc2 → (Int → OB) → OB
noncomputable def Y6v.body (Y6v : T_Y6v) (Y6u : T_Y6u) : T_Y6v := fun n0 n1 n2 t3 t4 k1 =>
  (cond_ (decide (n2 < n0)) (Y6u t3 t4 n2
 (fun n5 => (Y6v n0 (IntKind.wrap .i64 (n1 + n5)) (IntKind.wrap .i64 (n2 + 1)) t3 t4 k1))) (k1 n1))
noncomputable def Y6v : Nat → T_Y6v
  | 0 => fun _ _ _ _ _ _ => none
  | n + 1 => Y6v.body (Y6v n) Y6u
def Y6v.p : LPat := lp 2 21 [2, 3, 4, 7, 8] (pl (pd (.int .i64)) (ps (pq [1, 0] 0 0) (ps (pq [1, 1] 0 0) (pl (pd (.int .i64)) (pl (pd (.int .i64)) pz))))) (pl (po [1, 0] 30 3 (es Ty30 (pl eh pz))) (pl (po [1, 1] 26 2 (es Ty8 (pl eh pz))) pz))
def Y6v.g (F : T_Y6v) (v : Y6v.p.T) (k : KE) : OB := F v.1.1 v.1.2.1 v.1.2.2.1 v.2.1.1 v.2.2.1.1 (fun y0 => k (.exit 0) ⟨fillS 21 [7] [(.d ⟨(.int .i64), y0⟩)], [], 2⟩)
theorem Y6v.step (S : T_Y6v) (F0 : T_Y6u) : ∀ v k, exR 50 Tryz.f50 0 Y6v.p [⟨Y6u.p, Y6u.g F0⟩] [] [] (Y6v.g S) v k = Y6v.g (Y6v.body S F0) v k := fun v k => by kernel_rfl
theorem Y6v.ok : okL 50 Tryz.f50 2 0 Y6v.p (Y6v.g (Y6v ROUNDS)) := loop2 (G := fun n => Y6v.g (Y6v n)) (fun n => Y6v.step (Y6v n) Y6u) (.cons Y6u.ok .nil) [] (by kernel_rfl) .nil (fun _ _ => rfl)
abbrev T_Y6w : Type := Tc23 → Tc2 → Int → (Int → OB) → OB
noncomputable def Y6w.body (Y6v : T_Y6v) : T_Y6w := fun t0 t1 n2 k1 =>
  (Y6v n2 2 0 t0 t1
 (fun n3 => (k1 n3)))
noncomputable def Y6w : T_Y6w := Y6w.body (Y6v ROUNDS)
def Y6w.p : FPat := fp 50 (pl (pd Ty30) (pl (pd Ty8) (pl (pd (.int .i64)) pz))) pz
def Y6w.g (F : T_Y6w) (v : Y6w.p.T) (k : KR) : OB := F v.1.1 v.1.2.1 v.1.2.2.1 (fun y0 => k (.d ⟨(.int .i64), y0⟩) [])
theorem Y6w.eq (L0 : T_Y6v) : ∀ v k, exF Tryz.f50 Y6w.p [] [] [⟨0, Y6v.p, Y6v.g L0⟩] v k = Y6w.g (Y6w.body L0) v k := fun v k => by kernel_rfl
theorem Y6w.ok : okF 3 Y6w.p (Y6w.g Y6w) := fn2 (Y6w.eq (Y6v ROUNDS)) Tryz.func50 (by kernel_rfl) .nil [0] (by kernel_rfl) (.cons Y6v.ok .nil)
abbrev T_Y6x : Type := Int → Tc23 → Tc2 → (List Int) → ((List Int) → OB) → OB
noncomputable def Y6x.body (Y6x : T_Y6x) (Y6s : T_Y6s) (Y6w : T_Y6w) : T_Y6x := fun n0 t1 t2 n3 k1 =>
  (cond_ (decide (n0 < (length t1.1 : Int))) (Y6s t1 t2 n0
 (fun b4 => (cond_ b4 (Y6w t1 t2 n0
 (fun n5 => (cond_ (Nat.ble (((length n3) + (length (n5 :: []))) * (8 : Nat)) (140737488355328 : Nat)) (Y6x (IntKind.wrap .i64 (n0 + 1)) t1 t2 (n3 ++ (n5 :: [])) k1) none))) (cond_ (Nat.ble (((length n3) + (1 : Nat)) * (8 : Nat)) (140737488355328 : Nat)) (Y6x (IntKind.wrap .i64 (n0 + 1)) t1 t2 (n3 ++ ((-1) :: [])) k1) none)))) (k1 n3))
noncomputable def Y6x : Nat → T_Y6x
  | 0 => fun _ _ _ _ _ => none
  | n + 1 => Y6x.body (Y6x n) Y6s Y6w
def Y6x.p : LPat := lp 2 28 [2, 3, 5, 6] (ps (pq [1, 0] 0 0) (ps (pq [1, 1] 0 0) (ps (pr [1, 2]) (pl (pd (.int .i64)) pz)))) (pl (po [1, 0] 30 3 (es Ty30 (pl eh pz))) (pl (po [1, 1] 26 2 (es Ty8 (pl eh pz))) (pl (po [1, 2] 3 1 (ed (.int .i64))) pz)))
def Y6x.g (F : T_Y6x) (v : Y6x.p.T) (k : KE) : OB := F v.1.1 v.2.1.1 v.2.2.1.1 v.2.2.2.1 (fun y0 => k (.exit 0) ⟨fillS 28 [5] [(.ref [1, 0])], [([1, 0], ⟨3, 1, (.data (.int .i64) y0)⟩)], 2⟩)
theorem Y6x.step (S : T_Y6x) (F0 : T_Y6s) (F1 : T_Y6w) : ∀ v k, exR 23 Tryz.f23 0 Y6x.p [⟨Y6s.p, Y6s.g F0⟩, ⟨Y6w.p, Y6w.g F1⟩] [] [] (Y6x.g S) v k = Y6x.g (Y6x.body S F0 F1) v k := fun v k => by kernel_rfl
theorem Y6x.ok : okL 23 Tryz.f23 3 0 Y6x.p (Y6x.g (Y6x ROUNDS)) := loop2 (G := fun n => Y6x.g (Y6x n)) (fun n => Y6x.step (Y6x n) Y6s Y6w) (.cons Y6s.ok (.cons Y6w.ok .nil)) [] (by kernel_rfl) .nil (fun _ _ => rfl)
abbrev T_Y6y : Type := Tc23 → Tc2 → ((List Int) → OB) → OB
noncomputable def Y6y.body (Y6x : T_Y6x) : T_Y6y := fun t0 t1 k1 =>
  (Y6x 0 t0 t1 []
 (fun n2 => (k1 n2)))
noncomputable def Y6y : T_Y6y := Y6y.body (Y6x ROUNDS)
def Y6y.p : FPat := fp 23 (pl (pd Ty30) (pl (pd Ty8) pz)) pz
def Y6y.g (F : T_Y6y) (v : Y6y.p.T) (k : KR) : OB := F v.1.1 v.1.2.1 (fun y0 => k (.ref [1, 0]) [([1, 0], ⟨3, 1, (.data (.int .i64) y0)⟩)])
theorem Y6y.eq (L0 : T_Y6x) : ∀ v k, exF Tryz.f23 Y6y.p [] [] [⟨0, Y6x.p, Y6x.g L0⟩] v k = Y6y.g (Y6y.body L0) v k := fun v k => by kernel_rfl
theorem Y6y.ok : okF 4 Y6y.p (Y6y.g Y6y) := fn2 (Y6y.eq (Y6x ROUNDS)) Tryz.func23 (by kernel_rfl) .nil [0] (by kernel_rfl) (.cons Y6x.ok .nil)
abbrev T_Y6z : Type := Int → Int → Int → Tc23 → (Int → OB) → OB
noncomputable def Y6z.body (Y6z : T_Y6z) : T_Y6z := fun n0 n1 n2 t3 k1 =>
  (cond_ (decide (n2 < n0)) (cond_ ((decide (0 ≤ n2)) && (decide (n2 < (length t3.2.1 : Int)))) (Y6z n0 (IntKind.wrap .i64 ((IntKind.wrap .i64 (n1 + 1)) + (length (getD t3.2.1 (toNat n2) ZDat).2.2.2.2.1 : Int))) (IntKind.wrap .i64 (n2 + 1)) t3 k1) none) (k1 n1))
noncomputable def Y6z : Nat → T_Y6z
  | 0 => fun _ _ _ _ _ => none
  | n + 1 => Y6z.body (Y6z n)
def Y6z.p : LPat := lp 2 24 [1, 2, 5, 6] (pl (pd (.int .i64)) (ps (pq [1, 0] 0 0) (pl (pd (.int .i64)) (pl (pd (.int .i64)) pz)))) (pl (po [1, 0] 30 3 (es Ty30 (pl eh pz))) pz)
def Y6z.g (F : T_Y6z) (v : Y6z.p.T) (k : KE) : OB := F v.1.1 v.1.2.1 v.1.2.2.1 v.2.1.1 (fun y0 => k (.exit 0) ⟨fillS 24 [5] [(.d ⟨(.int .i64), y0⟩)], [], 2⟩)
theorem Y6z.step (S : T_Y6z) : ∀ v k, exR 75 Tryz.f75 0 Y6z.p [] [] [] (Y6z.g S) v k = Y6z.g (Y6z.body S) v k := fun v k => by kernel_rfl
theorem Y6z.ok : okL 75 Tryz.f75 0 0 Y6z.p (Y6z.g (Y6z ROUNDS)) := loop2 (G := fun n => Y6z.g (Y6z n)) (fun n => Y6z.step (Y6z n)) .nil [] (by kernel_rfl) .nil (fun _ _ => rfl)
abbrev T_Y70 : Type := Tc23 → Int → (Int → OB) → OB
noncomputable def Y70.body (Y6z : T_Y6z) : T_Y70 := fun t0 n1 k1 =>
  (Y6z n1 0 0 t0
 (fun n2 => (k1 n2)))
noncomputable def Y70 : T_Y70 := Y70.body (Y6z ROUNDS)
def Y70.p : FPat := fp 75 (pl (pd Ty30) (pl (pd (.int .i64)) pz)) pz
def Y70.g (F : T_Y70) (v : Y70.p.T) (k : KR) : OB := F v.1.1 v.1.2.1 (fun y0 => k (.d ⟨(.int .i64), y0⟩) [])
theorem Y70.eq (L0 : T_Y6z) : ∀ v k, exF Tryz.f75 Y70.p [] [] [⟨0, Y6z.p, Y6z.g L0⟩] v k = Y70.g (Y70.body L0) v k := fun v k => by kernel_rfl
theorem Y70.ok : okF 1 Y70.p (Y70.g Y70) := fn2 (Y70.eq (Y6z ROUNDS)) Tryz.func75 (by kernel_rfl) .nil [0] (by kernel_rfl) (.cons Y6z.ok .nil)
abbrev T_Y71 : Type := Int → Tc23 → (List Int) → ((List Int) → OB) → OB
noncomputable def Y71.body (Y71 : T_Y71) (Y70 : T_Y70) : T_Y71 := fun n0 t1 n2 k1 =>
  (cond_ (decide (n0 < (length t1.2.1 : Int))) (Y70 t1 n0
 (fun n3 => (cond_ (Nat.ble (((length n2) + (length (n3 :: []))) * (8 : Nat)) (140737488355328 : Nat)) (Y71 (IntKind.wrap .i64 (n0 + 1)) t1 (n2 ++ (n3 :: [])) k1) none))) (k1 n2))
noncomputable def Y71 : Nat → T_Y71
  | 0 => fun _ _ _ _ => none
  | n + 1 => Y71.body (Y71 n) Y70
def Y71.p : LPat := lp 2 19 [1, 3, 4] (ps (pq [1, 0] 0 0) (ps (pr [1, 1]) (pl (pd (.int .i64)) pz))) (pl (po [1, 0] 30 3 (es Ty30 (pl eh pz))) (pl (po [1, 1] 3 1 (ed (.int .i64))) pz))
def Y71.g (F : T_Y71) (v : Y71.p.T) (k : KE) : OB := F v.1.1 v.2.1.1 v.2.2.1 (fun y0 => k (.exit 0) ⟨fillS 19 [3] [(.ref [1, 0])], [([1, 0], ⟨3, 1, (.data (.int .i64) y0)⟩)], 2⟩)
theorem Y71.step (S : T_Y71) (F0 : T_Y70) : ∀ v k, exR 44 Tryz.f44 0 Y71.p [⟨Y70.p, Y70.g F0⟩] [] [] (Y71.g S) v k = Y71.g (Y71.body S F0) v k := fun v k => by kernel_rfl
theorem Y71.ok : okL 44 Tryz.f44 1 0 Y71.p (Y71.g (Y71 ROUNDS)) := loop2 (G := fun n => Y71.g (Y71 n)) (fun n => Y71.step (Y71 n) Y70) (.cons Y70.ok .nil) [] (by kernel_rfl) .nil (fun _ _ => rfl)
abbrev T_Y72 : Type := Tc23 → ((List Int) → OB) → OB
noncomputable def Y72.body (Y71 : T_Y71) : T_Y72 := fun t0 k1 =>
  (Y71 0 t0 []
 (fun n1 => (k1 n1)))
noncomputable def Y72 : T_Y72 := Y72.body (Y71 ROUNDS)
def Y72.p : FPat := fp 44 (pl (pd Ty30) pz) pz
def Y72.g (F : T_Y72) (v : Y72.p.T) (k : KR) : OB := F v.1.1 (fun y0 => k (.ref [1, 0]) [([1, 0], ⟨3, 1, (.data (.int .i64) y0)⟩)])
theorem Y72.eq (L0 : T_Y71) : ∀ v k, exF Tryz.f44 Y72.p [] [] [⟨0, Y71.p, Y71.g L0⟩] v k = Y72.g (Y72.body L0) v k := fun v k => by kernel_rfl
theorem Y72.ok : okF 2 Y72.p (Y72.g Y72) := fn2 (Y72.eq (Y71 ROUNDS)) Tryz.func44 (by kernel_rfl) .nil [0] (by kernel_rfl) (.cons Y71.ok .nil)
abbrev T_Y73 : Type := Tc23 → (List Int) → (List Int) → Tc19 → Int → Int → (Tc3 → OB) → OB
noncomputable def Y73.body (Y1m : T_Y1m) (Y1d : T_Y1d) (Y3o : T_Y3o) : T_Y73 := fun t0 n1 n2 t3 n4 n5 k1 =>
  (cond_ ((decide (0 ≤ n4)) && (decide (n4 < (length t3.2.2.2.2.2.2.2.2.2.2.1 : Int)))) (cond_ (! ((gC t3 n4).1 == 11)) (cond_ ((gC t3 n4).1 == 12) (cond_ ((gC t3 n4).1 == 24) (Y1m t3.2.2.2.1
 (fun b6 => (cond_ b6 (Y1d (gC t3 n4).1
 (fun n7 => (cond_ (! (n7 == 3)) (cond_ (n7 == 4) (Y3o t3.2.2.2.2.2.2.2.2.2.2.2.2.1 n4 (length n2 : Int)
 (fun n8 => (cond_ (decide (n8 ≥ 0)) (cond_ ((decide (0 ≤ n8)) && (decide (n8 < (length n2 : Int)))) (k1 ((gC t3 n4).1, ((gC t3 n4).2.1, (1, ((gC t3 n4).2.2.2.1, ((getD n2 (toNat n8) 0), ())))))) none) (k1 ((gC t3 n4).1, ((gC t3 n4).2.1, (1, ((gC t3 n4).2.2.2.1, ((IntKind.wrap .i64 ((gC t3 n4).2.2.2.2.1 + n5)), ()))))))))) (cond_ (decide (n7 > 0)) (Y3o t3.2.2.2.2.2.2.2.2.2.2.2.2.1 n4 (length n1 : Int)
 (fun n9 => (cond_ (decide (n9 ≥ 0)) (cond_ ((decide (0 ≤ n9)) && (decide (n9 < (length n1 : Int)))) (cond_ ((gC t3 n4).1 != 17) (cond_ ((decide (0 ≤ n9)) && (decide (n9 < (length t0.1 : Int)))) (k1 ((gC t3 n4).1, ((gC t3 n4).2.1, (1, ((getD t0.1 (toNat n9) ZFun).2.2.2.1, ((getD n1 (toNat n9) 0), ())))))) none) (k1 ((gC t3 n4).1, ((gC t3 n4).2.1, (1, ((gC t3 n4).2.2.2.1, ((getD n1 (toNat n9) 0), ()))))))) none) (k1 ((gC t3 n4).1, ((gC t3 n4).2.1, (1, ((gC t3 n4).2.2.2.1, ((IntKind.wrap .i64 ((gC t3 n4).2.2.2.2.1 + n5)), ()))))))))) (k1 ((gC t3 n4).1, ((gC t3 n4).2.1, (1, ((gC t3 n4).2.2.2.1, ((IntKind.wrap .i64 ((gC t3 n4).2.2.2.2.1 + n5)), ())))))))) (Y3o t3.2.2.2.2.2.2.2.2.2.2.2.2.1 n4 (length n2 : Int)
 (fun na => (cond_ (decide (na ≥ 0)) (cond_ ((decide (0 ≤ na)) && (decide (na < (length n2 : Int)))) (k1 ((gC t3 n4).1, ((gC t3 n4).2.1, (1, ((gC t3 n4).2.2.2.1, ((getD n2 (toNat na) 0), ())))))) none) (k1 ((gC t3 n4).1, ((gC t3 n4).2.1, (1, ((gC t3 n4).2.2.2.1, ((IntKind.wrap .i64 ((gC t3 n4).2.2.2.2.1 + n5)), ())))))))))))) (Y1d (gC t3 n4).1
 (fun nb => (cond_ (! (nb == 3)) (cond_ (nb == 4) (Y3o t3.2.2.2.2.2.2.2.2.2.2.2.2.1 n4 (length n2 : Int)
 (fun nc => (cond_ (decide (nc ≥ 0)) (cond_ ((decide (0 ≤ nc)) && (decide (nc < (length n2 : Int)))) (k1 ((gC t3 n4).1, ((gC t3 n4).2.1, (0, ((gC t3 n4).2.2.2.1, ((getD n2 (toNat nc) 0), ())))))) none) (k1 ((gC t3 n4).1, ((gC t3 n4).2.1, (0, ((gC t3 n4).2.2.2.1, ((IntKind.wrap .i64 ((gC t3 n4).2.2.2.2.1 + n5)), ()))))))))) (cond_ (decide (nb > 0)) (Y3o t3.2.2.2.2.2.2.2.2.2.2.2.2.1 n4 (length n1 : Int)
 (fun nd => (cond_ (decide (nd ≥ 0)) (cond_ ((decide (0 ≤ nd)) && (decide (nd < (length n1 : Int)))) (cond_ ((gC t3 n4).1 != 17) (cond_ ((decide (0 ≤ nd)) && (decide (nd < (length t0.1 : Int)))) (k1 ((gC t3 n4).1, ((gC t3 n4).2.1, (0, ((getD t0.1 (toNat nd) ZFun).2.2.2.1, ((getD n1 (toNat nd) 0), ())))))) none) (k1 ((gC t3 n4).1, ((gC t3 n4).2.1, (0, ((gC t3 n4).2.2.2.1, ((getD n1 (toNat nd) 0), ()))))))) none) (k1 ((gC t3 n4).1, ((gC t3 n4).2.1, (0, ((gC t3 n4).2.2.2.1, ((IntKind.wrap .i64 ((gC t3 n4).2.2.2.2.1 + n5)), ()))))))))) (k1 ((gC t3 n4).1, ((gC t3 n4).2.1, (0, ((gC t3 n4).2.2.2.1, ((IntKind.wrap .i64 ((gC t3 n4).2.2.2.2.1 + n5)), ())))))))) (Y3o t3.2.2.2.2.2.2.2.2.2.2.2.2.1 n4 (length n2 : Int)
 (fun ne => (cond_ (decide (ne ≥ 0)) (cond_ ((decide (0 ≤ ne)) && (decide (ne < (length n2 : Int)))) (k1 ((gC t3 n4).1, ((gC t3 n4).2.1, (0, ((gC t3 n4).2.2.2.1, ((getD n2 (toNat ne) 0), ())))))) none) (k1 ((gC t3 n4).1, ((gC t3 n4).2.1, (0, ((gC t3 n4).2.2.2.1, ((IntKind.wrap .i64 ((gC t3 n4).2.2.2.2.1 + n5)), ()))))))))))))))) (Y1d (gC t3 n4).1
 (fun nf => (cond_ (! (nf == 3)) (cond_ (nf == 4) (Y3o t3.2.2.2.2.2.2.2.2.2.2.2.2.1 n4 (length n2 : Int)
 (fun ng => (cond_ (decide (ng ≥ 0)) (cond_ ((decide (0 ≤ ng)) && (decide (ng < (length n2 : Int)))) (k1 ((gC t3 n4).1, ((gC t3 n4).2.1, ((gC t3 n4).2.2.1, ((gC t3 n4).2.2.2.1, ((getD n2 (toNat ng) 0), ())))))) none) (k1 ((gC t3 n4).1, ((gC t3 n4).2.1, ((gC t3 n4).2.2.1, ((gC t3 n4).2.2.2.1, ((IntKind.wrap .i64 ((gC t3 n4).2.2.2.2.1 + n5)), ()))))))))) (cond_ (decide (nf > 0)) (Y3o t3.2.2.2.2.2.2.2.2.2.2.2.2.1 n4 (length n1 : Int)
 (fun nh => (cond_ (decide (nh ≥ 0)) (cond_ ((decide (0 ≤ nh)) && (decide (nh < (length n1 : Int)))) (cond_ ((gC t3 n4).1 != 17) (cond_ ((decide (0 ≤ nh)) && (decide (nh < (length t0.1 : Int)))) (k1 ((gC t3 n4).1, ((gC t3 n4).2.1, ((gC t3 n4).2.2.1, ((getD t0.1 (toNat nh) ZFun).2.2.2.1, ((getD n1 (toNat nh) 0), ())))))) none) (k1 ((gC t3 n4).1, ((gC t3 n4).2.1, ((gC t3 n4).2.2.1, ((gC t3 n4).2.2.2.1, ((getD n1 (toNat nh) 0), ()))))))) none) (k1 ((gC t3 n4).1, ((gC t3 n4).2.1, ((gC t3 n4).2.2.1, ((gC t3 n4).2.2.2.1, ((IntKind.wrap .i64 ((gC t3 n4).2.2.2.2.1 + n5)), ()))))))))) (k1 ((gC t3 n4).1, ((gC t3 n4).2.1, ((gC t3 n4).2.2.1, ((gC t3 n4).2.2.2.1, ((IntKind.wrap .i64 ((gC t3 n4).2.2.2.2.1 + n5)), ())))))))) (Y3o t3.2.2.2.2.2.2.2.2.2.2.2.2.1 n4 (length n2 : Int)
 (fun ni => (cond_ (decide (ni ≥ 0)) (cond_ ((decide (0 ≤ ni)) && (decide (ni < (length n2 : Int)))) (k1 ((gC t3 n4).1, ((gC t3 n4).2.1, ((gC t3 n4).2.2.1, ((gC t3 n4).2.2.2.1, ((getD n2 (toNat ni) 0), ())))))) none) (k1 ((gC t3 n4).1, ((gC t3 n4).2.1, ((gC t3 n4).2.2.1, ((gC t3 n4).2.2.2.1, ((IntKind.wrap .i64 ((gC t3 n4).2.2.2.2.1 + n5)), ()))))))))))))) (cond_ ((gC t3 n4).1 == 24) (Y1m t3.2.2.2.1
 (fun bj => (cond_ bj (Y1d (gC t3 n4).1
 (fun nk => (cond_ (! (nk == 3)) (cond_ (nk == 4) (Y3o t3.2.2.2.2.2.2.2.2.2.2.2.2.1 n4 (length n2 : Int)
 (fun nl => (cond_ (decide (nl ≥ 0)) (cond_ ((decide (0 ≤ nl)) && (decide (nl < (length n2 : Int)))) (k1 ((gC t3 n4).1, ((gC t3 n4).2.1, (1, ((gC t3 n4).2.2.2.1, ((getD n2 (toNat nl) 0), ())))))) none) (k1 ((gC t3 n4).1, ((gC t3 n4).2.1, (1, ((gC t3 n4).2.2.2.1, ((gC t3 n4).2.2.2.2.1, ()))))))))) (cond_ (decide (nk > 0)) (Y3o t3.2.2.2.2.2.2.2.2.2.2.2.2.1 n4 (length n1 : Int)
 (fun nm => (cond_ (decide (nm ≥ 0)) (cond_ ((decide (0 ≤ nm)) && (decide (nm < (length n1 : Int)))) (cond_ ((gC t3 n4).1 != 17) (cond_ ((decide (0 ≤ nm)) && (decide (nm < (length t0.1 : Int)))) (k1 ((gC t3 n4).1, ((gC t3 n4).2.1, (1, ((getD t0.1 (toNat nm) ZFun).2.2.2.1, ((getD n1 (toNat nm) 0), ())))))) none) (k1 ((gC t3 n4).1, ((gC t3 n4).2.1, (1, ((gC t3 n4).2.2.2.1, ((getD n1 (toNat nm) 0), ()))))))) none) (k1 ((gC t3 n4).1, ((gC t3 n4).2.1, (1, ((gC t3 n4).2.2.2.1, ((gC t3 n4).2.2.2.2.1, ()))))))))) (k1 ((gC t3 n4).1, ((gC t3 n4).2.1, (1, ((gC t3 n4).2.2.2.1, ((gC t3 n4).2.2.2.2.1, ())))))))) (Y3o t3.2.2.2.2.2.2.2.2.2.2.2.2.1 n4 (length n2 : Int)
 (fun nn => (cond_ (decide (nn ≥ 0)) (cond_ ((decide (0 ≤ nn)) && (decide (nn < (length n2 : Int)))) (k1 ((gC t3 n4).1, ((gC t3 n4).2.1, (1, ((gC t3 n4).2.2.2.1, ((getD n2 (toNat nn) 0), ())))))) none) (k1 ((gC t3 n4).1, ((gC t3 n4).2.1, (1, ((gC t3 n4).2.2.2.1, ((gC t3 n4).2.2.2.2.1, ())))))))))))) (Y1d (gC t3 n4).1
 (fun no => (cond_ (! (no == 3)) (cond_ (no == 4) (Y3o t3.2.2.2.2.2.2.2.2.2.2.2.2.1 n4 (length n2 : Int)
 (fun np => (cond_ (decide (np ≥ 0)) (cond_ ((decide (0 ≤ np)) && (decide (np < (length n2 : Int)))) (k1 ((gC t3 n4).1, ((gC t3 n4).2.1, (0, ((gC t3 n4).2.2.2.1, ((getD n2 (toNat np) 0), ())))))) none) (k1 ((gC t3 n4).1, ((gC t3 n4).2.1, (0, ((gC t3 n4).2.2.2.1, ((gC t3 n4).2.2.2.2.1, ()))))))))) (cond_ (decide (no > 0)) (Y3o t3.2.2.2.2.2.2.2.2.2.2.2.2.1 n4 (length n1 : Int)
 (fun nq => (cond_ (decide (nq ≥ 0)) (cond_ ((decide (0 ≤ nq)) && (decide (nq < (length n1 : Int)))) (cond_ ((gC t3 n4).1 != 17) (cond_ ((decide (0 ≤ nq)) && (decide (nq < (length t0.1 : Int)))) (k1 ((gC t3 n4).1, ((gC t3 n4).2.1, (0, ((getD t0.1 (toNat nq) ZFun).2.2.2.1, ((getD n1 (toNat nq) 0), ())))))) none) (k1 ((gC t3 n4).1, ((gC t3 n4).2.1, (0, ((gC t3 n4).2.2.2.1, ((getD n1 (toNat nq) 0), ()))))))) none) (k1 ((gC t3 n4).1, ((gC t3 n4).2.1, (0, ((gC t3 n4).2.2.2.1, ((gC t3 n4).2.2.2.2.1, ()))))))))) (k1 ((gC t3 n4).1, ((gC t3 n4).2.1, (0, ((gC t3 n4).2.2.2.1, ((gC t3 n4).2.2.2.2.1, ())))))))) (Y3o t3.2.2.2.2.2.2.2.2.2.2.2.2.1 n4 (length n2 : Int)
 (fun nr => (cond_ (decide (nr ≥ 0)) (cond_ ((decide (0 ≤ nr)) && (decide (nr < (length n2 : Int)))) (k1 ((gC t3 n4).1, ((gC t3 n4).2.1, (0, ((gC t3 n4).2.2.2.1, ((getD n2 (toNat nr) 0), ())))))) none) (k1 ((gC t3 n4).1, ((gC t3 n4).2.1, (0, ((gC t3 n4).2.2.2.1, ((gC t3 n4).2.2.2.2.1, ()))))))))))))))) (Y1d (gC t3 n4).1
 (fun ns => (cond_ (! (ns == 3)) (cond_ (ns == 4) (Y3o t3.2.2.2.2.2.2.2.2.2.2.2.2.1 n4 (length n2 : Int)
 (fun nt => (cond_ (decide (nt ≥ 0)) (cond_ ((decide (0 ≤ nt)) && (decide (nt < (length n2 : Int)))) (k1 ((gC t3 n4).1, ((gC t3 n4).2.1, ((gC t3 n4).2.2.1, ((gC t3 n4).2.2.2.1, ((getD n2 (toNat nt) 0), ())))))) none) (k1 (gC t3 n4))))) (cond_ (decide (ns > 0)) (Y3o t3.2.2.2.2.2.2.2.2.2.2.2.2.1 n4 (length n1 : Int)
 (fun nu => (cond_ (decide (nu ≥ 0)) (cond_ ((decide (0 ≤ nu)) && (decide (nu < (length n1 : Int)))) (cond_ ((gC t3 n4).1 != 17) (cond_ ((decide (0 ≤ nu)) && (decide (nu < (length t0.1 : Int)))) (k1 ((gC t3 n4).1, ((gC t3 n4).2.1, ((gC t3 n4).2.2.1, ((getD t0.1 (toNat nu) ZFun).2.2.2.1, ((getD n1 (toNat nu) 0), ())))))) none) (k1 ((gC t3 n4).1, ((gC t3 n4).2.1, ((gC t3 n4).2.2.1, ((gC t3 n4).2.2.2.1, ((getD n1 (toNat nu) 0), ()))))))) none) (k1 (gC t3 n4))))) (k1 (gC t3 n4)))) (Y3o t3.2.2.2.2.2.2.2.2.2.2.2.2.1 n4 (length n2 : Int)
 (fun nv => (cond_ (decide (nv ≥ 0)) (cond_ ((decide (0 ≤ nv)) && (decide (nv < (length n2 : Int)))) (k1 ((gC t3 n4).1, ((gC t3 n4).2.1, ((gC t3 n4).2.2.1, ((gC t3 n4).2.2.2.1, ((getD n2 (toNat nv) 0), ())))))) none) (k1 (gC t3 n4)))))))))) (cond_ ((gC t3 n4).1 == 24) (Y1m t3.2.2.2.1
 (fun bw => (cond_ bw (Y1d (gC t3 n4).1
 (fun nx => (cond_ (! (nx == 3)) (cond_ (nx == 4) (Y3o t3.2.2.2.2.2.2.2.2.2.2.2.2.1 n4 (length n2 : Int)
 (fun ny => (cond_ (decide (ny ≥ 0)) (cond_ ((decide (0 ≤ ny)) && (decide (ny < (length n2 : Int)))) (k1 ((gC t3 n4).1, ((gC t3 n4).2.1, (1, ((gC t3 n4).2.2.2.1, ((getD n2 (toNat ny) 0), ())))))) none) (k1 ((gC t3 n4).1, ((gC t3 n4).2.1, (1, ((gC t3 n4).2.2.2.1, ((IntKind.wrap .i64 ((gC t3 n4).2.2.2.2.1 + n5)), ()))))))))) (cond_ (decide (nx > 0)) (Y3o t3.2.2.2.2.2.2.2.2.2.2.2.2.1 n4 (length n1 : Int)
 (fun nz => (cond_ (decide (nz ≥ 0)) (cond_ ((decide (0 ≤ nz)) && (decide (nz < (length n1 : Int)))) (cond_ ((gC t3 n4).1 != 17) (cond_ ((decide (0 ≤ nz)) && (decide (nz < (length t0.1 : Int)))) (k1 ((gC t3 n4).1, ((gC t3 n4).2.1, (1, ((getD t0.1 (toNat nz) ZFun).2.2.2.1, ((getD n1 (toNat nz) 0), ())))))) none) (k1 ((gC t3 n4).1, ((gC t3 n4).2.1, (1, ((gC t3 n4).2.2.2.1, ((getD n1 (toNat nz) 0), ()))))))) none) (k1 ((gC t3 n4).1, ((gC t3 n4).2.1, (1, ((gC t3 n4).2.2.2.1, ((IntKind.wrap .i64 ((gC t3 n4).2.2.2.2.1 + n5)), ()))))))))) (k1 ((gC t3 n4).1, ((gC t3 n4).2.1, (1, ((gC t3 n4).2.2.2.1, ((IntKind.wrap .i64 ((gC t3 n4).2.2.2.2.1 + n5)), ())))))))) (Y3o t3.2.2.2.2.2.2.2.2.2.2.2.2.1 n4 (length n2 : Int)
 (fun n10 => (cond_ (decide (n10 ≥ 0)) (cond_ ((decide (0 ≤ n10)) && (decide (n10 < (length n2 : Int)))) (k1 ((gC t3 n4).1, ((gC t3 n4).2.1, (1, ((gC t3 n4).2.2.2.1, ((getD n2 (toNat n10) 0), ())))))) none) (k1 ((gC t3 n4).1, ((gC t3 n4).2.1, (1, ((gC t3 n4).2.2.2.1, ((IntKind.wrap .i64 ((gC t3 n4).2.2.2.2.1 + n5)), ())))))))))))) (Y1d (gC t3 n4).1
 (fun n11 => (cond_ (! (n11 == 3)) (cond_ (n11 == 4) (Y3o t3.2.2.2.2.2.2.2.2.2.2.2.2.1 n4 (length n2 : Int)
 (fun n12 => (cond_ (decide (n12 ≥ 0)) (cond_ ((decide (0 ≤ n12)) && (decide (n12 < (length n2 : Int)))) (k1 ((gC t3 n4).1, ((gC t3 n4).2.1, (0, ((gC t3 n4).2.2.2.1, ((getD n2 (toNat n12) 0), ())))))) none) (k1 ((gC t3 n4).1, ((gC t3 n4).2.1, (0, ((gC t3 n4).2.2.2.1, ((IntKind.wrap .i64 ((gC t3 n4).2.2.2.2.1 + n5)), ()))))))))) (cond_ (decide (n11 > 0)) (Y3o t3.2.2.2.2.2.2.2.2.2.2.2.2.1 n4 (length n1 : Int)
 (fun n13 => (cond_ (decide (n13 ≥ 0)) (cond_ ((decide (0 ≤ n13)) && (decide (n13 < (length n1 : Int)))) (cond_ ((gC t3 n4).1 != 17) (cond_ ((decide (0 ≤ n13)) && (decide (n13 < (length t0.1 : Int)))) (k1 ((gC t3 n4).1, ((gC t3 n4).2.1, (0, ((getD t0.1 (toNat n13) ZFun).2.2.2.1, ((getD n1 (toNat n13) 0), ())))))) none) (k1 ((gC t3 n4).1, ((gC t3 n4).2.1, (0, ((gC t3 n4).2.2.2.1, ((getD n1 (toNat n13) 0), ()))))))) none) (k1 ((gC t3 n4).1, ((gC t3 n4).2.1, (0, ((gC t3 n4).2.2.2.1, ((IntKind.wrap .i64 ((gC t3 n4).2.2.2.2.1 + n5)), ()))))))))) (k1 ((gC t3 n4).1, ((gC t3 n4).2.1, (0, ((gC t3 n4).2.2.2.1, ((IntKind.wrap .i64 ((gC t3 n4).2.2.2.2.1 + n5)), ())))))))) (Y3o t3.2.2.2.2.2.2.2.2.2.2.2.2.1 n4 (length n2 : Int)
 (fun n14 => (cond_ (decide (n14 ≥ 0)) (cond_ ((decide (0 ≤ n14)) && (decide (n14 < (length n2 : Int)))) (k1 ((gC t3 n4).1, ((gC t3 n4).2.1, (0, ((gC t3 n4).2.2.2.1, ((getD n2 (toNat n14) 0), ())))))) none) (k1 ((gC t3 n4).1, ((gC t3 n4).2.1, (0, ((gC t3 n4).2.2.2.1, ((IntKind.wrap .i64 ((gC t3 n4).2.2.2.2.1 + n5)), ()))))))))))))))) (Y1d (gC t3 n4).1
 (fun n15 => (cond_ (! (n15 == 3)) (cond_ (n15 == 4) (Y3o t3.2.2.2.2.2.2.2.2.2.2.2.2.1 n4 (length n2 : Int)
 (fun n16 => (cond_ (decide (n16 ≥ 0)) (cond_ ((decide (0 ≤ n16)) && (decide (n16 < (length n2 : Int)))) (k1 ((gC t3 n4).1, ((gC t3 n4).2.1, ((gC t3 n4).2.2.1, ((gC t3 n4).2.2.2.1, ((getD n2 (toNat n16) 0), ())))))) none) (k1 ((gC t3 n4).1, ((gC t3 n4).2.1, ((gC t3 n4).2.2.1, ((gC t3 n4).2.2.2.1, ((IntKind.wrap .i64 ((gC t3 n4).2.2.2.2.1 + n5)), ()))))))))) (cond_ (decide (n15 > 0)) (Y3o t3.2.2.2.2.2.2.2.2.2.2.2.2.1 n4 (length n1 : Int)
 (fun n17 => (cond_ (decide (n17 ≥ 0)) (cond_ ((decide (0 ≤ n17)) && (decide (n17 < (length n1 : Int)))) (cond_ ((gC t3 n4).1 != 17) (cond_ ((decide (0 ≤ n17)) && (decide (n17 < (length t0.1 : Int)))) (k1 ((gC t3 n4).1, ((gC t3 n4).2.1, ((gC t3 n4).2.2.1, ((getD t0.1 (toNat n17) ZFun).2.2.2.1, ((getD n1 (toNat n17) 0), ())))))) none) (k1 ((gC t3 n4).1, ((gC t3 n4).2.1, ((gC t3 n4).2.2.1, ((gC t3 n4).2.2.2.1, ((getD n1 (toNat n17) 0), ()))))))) none) (k1 ((gC t3 n4).1, ((gC t3 n4).2.1, ((gC t3 n4).2.2.1, ((gC t3 n4).2.2.2.1, ((IntKind.wrap .i64 ((gC t3 n4).2.2.2.2.1 + n5)), ()))))))))) (k1 ((gC t3 n4).1, ((gC t3 n4).2.1, ((gC t3 n4).2.2.1, ((gC t3 n4).2.2.2.1, ((IntKind.wrap .i64 ((gC t3 n4).2.2.2.2.1 + n5)), ())))))))) (Y3o t3.2.2.2.2.2.2.2.2.2.2.2.2.1 n4 (length n2 : Int)
 (fun n18 => (cond_ (decide (n18 ≥ 0)) (cond_ ((decide (0 ≤ n18)) && (decide (n18 < (length n2 : Int)))) (k1 ((gC t3 n4).1, ((gC t3 n4).2.1, ((gC t3 n4).2.2.1, ((gC t3 n4).2.2.2.1, ((getD n2 (toNat n18) 0), ())))))) none) (k1 ((gC t3 n4).1, ((gC t3 n4).2.1, ((gC t3 n4).2.2.1, ((gC t3 n4).2.2.2.1, ((IntKind.wrap .i64 ((gC t3 n4).2.2.2.2.1 + n5)), ())))))))))))))) none)
noncomputable def Y73 : T_Y73 := Y73.body Y1m Y1d Y3o
def Y73.p : FPat := fp 48 (pl (pd Ty30) (pl (pb 1 3 (.int .i64)) (pl (pb 2 3 (.int .i64)) (pl (pd Ty27) (pl (pd (.int .i64)) (pl (pd (.int .i64)) pz)))))) pz
def Y73.g (F : T_Y73) (v : Y73.p.T) (k : KR) : OB := F v.1.1 v.1.2.1 v.1.2.2.1 v.1.2.2.2.1 v.1.2.2.2.2.1 v.1.2.2.2.2.2.1 (fun y0 => k (.d ⟨Ty15, y0⟩) [])
theorem Y73.eq (F0 : T_Y1m) (F1 : T_Y1d) (F2 : T_Y3o) : ∀ v k, exF Tryz.f48 Y73.p [⟨Y1m.p, Y1m.g F0⟩, ⟨Y1d.p, Y1d.g F1⟩, ⟨Y3o.p, Y3o.g F2⟩] [] [] v k = Y73.g (Y73.body F0 F1 F2) v k := fun v k => by kernel_rfl
theorem Y73.ok : okF 4 Y73.p (Y73.g Y73) := fn2 (Y73.eq Y1m Y1d Y3o) Tryz.func48 (by kernel_rfl) (.cons Y1m.ok (.cons Y1d.ok (.cons Y3o.ok .nil))) [] (by kernel_rfl) .nil
abbrev T_Y74 : Type := Int → Int → Int → Tc23 → Tc2 → (List Int) → (List Int) → Tc8 → Int → Int → ByteArray → Int → (List Int) → Int → Bool → Int → Int → (List (Int × Int × Unit)) → Tc8 → Tc1 → (List Int) → (Int → Tc23 → Tc2 → (List Int) → (List Int) → Tc8 → OB) → OB
noncomputable def Y74.body (Y74 : T_Y74) (Y73 : T_Y73) : T_Y74 := fun n0 n1 n2 t3 t4 n5 n6 t7 n8 n9 sa nb lc nd be nf ng lh li lj lk k1 =>
  (cond_ (decide (n2 < (length li : Int))) (Y73 t3 n5 n6 (n8, (n9, (sa, (nb, (lc, (nd, (be, (nf, (ng, (lh, (li, (lj, (lk, ()))))))))))))) n2 n1
 (fun tl => (cond_ (Nat.ble (((length t7) + (length ((tl.1, (tl.2.1, (tl.2.2.1, (tl.2.2.2.1, (tl.2.2.2.2.1, ()))))) :: []))) * (40 : Nat)) (140737488355328 : Nat)) (Y74 n0 n1 (IntKind.wrap .i64 (n2 + 1)) t3 t4 n5 n6 (t7 ++ ((tl.1, (tl.2.1, (tl.2.2.1, (tl.2.2.2.1, (tl.2.2.2.2.1, ()))))) :: [])) n8 n9 sa nb lc nd be nf ng lh li lj lk k1) none))) (k1 n0 t3 t4 n5 n6 t7))
noncomputable def Y74 : Nat → T_Y74
  | 0 => fun _ _ _ _ _ _ _ _ _ _ _ _ _ _ _ _ _ _ _ _ _ _ => none
  | n + 1 => Y74.body (Y74 n) Y73
def Y74.p : LPat := lp 2 87 [2, 3, 5, 6, 7, 8, 9, 12, 13] (ps (pq [1, 0] 0 0) (ps (pq [1, 1] 0 0) (ps (pr [1, 2]) (ps (pr [1, 3]) (ps (pr [1, 4]) (pl (pd (.int .i64)) (ps (pq [1, 5] 0 0) (pl (pd (.int .i64)) (pl (pd (.int .i64)) pz))))))))) (pl (po [1, 0] 30 3 (es Ty30 (pl eh pz))) (pl (po [1, 1] 26 2 (es Ty8 (pl eh pz))) (pl (po [1, 2] 3 1 (ed (.int .i64))) (pl (po [1, 3] 3 1 (ed (.int .i64))) (pl (po [1, 4] 69 5 (ed Ty15)) (pl (po [1, 5] 102 13 (em (pl (pa (pl (pd (.int .i64)) (pl (pd (.int .i64)) (pl (pd .str) (pl (pd (.int .i64)) (pl (pd Ty2) (pl (pd (.int .i64)) (pl (pd .bool) (pl (pd (.int .i64)) (pl (pd (.int .i64)) (pl (pd Ty7) (pl (pd Ty17) (pl (pd Ty10) (pl (pd Ty2) pz)))))))))))))) pz))) pz))))))
def Y74.g (F : T_Y74) (v : Y74.p.T) (k : KE) : OB := F v.1.1 v.1.2.1 v.1.2.2.1 v.2.1.1 v.2.2.1.1 v.2.2.2.1 v.2.2.2.2.1 v.2.2.2.2.2.1 v.2.2.2.2.2.2.1.1.1 v.2.2.2.2.2.2.1.1.2.1 v.2.2.2.2.2.2.1.1.2.2.1 v.2.2.2.2.2.2.1.1.2.2.2.1 v.2.2.2.2.2.2.1.1.2.2.2.2.1 v.2.2.2.2.2.2.1.1.2.2.2.2.2.1 v.2.2.2.2.2.2.1.1.2.2.2.2.2.2.1 v.2.2.2.2.2.2.1.1.2.2.2.2.2.2.2.1 v.2.2.2.2.2.2.1.1.2.2.2.2.2.2.2.2.1 v.2.2.2.2.2.2.1.1.2.2.2.2.2.2.2.2.2.1 v.2.2.2.2.2.2.1.1.2.2.2.2.2.2.2.2.2.2.1 v.2.2.2.2.2.2.1.1.2.2.2.2.2.2.2.2.2.2.2.1 v.2.2.2.2.2.2.1.1.2.2.2.2.2.2.2.2.2.2.2.2.1 (fun y0 y1 y2 y3 y4 y5 => k (.exit 2) ⟨fillS 87 [2, 3, 5, 6, 7, 8] [(.ptr [1, 0] 0 0), (.ptr [1, 1] 0 0), (.ref [1, 2]), (.ref [1, 3]), (.ref [1, 4]), (.d ⟨(.int .i64), y0⟩)], [([1, 0], ⟨30, 3, (.data Ty30 [y1])⟩), ([1, 1], ⟨26, 2, (.data Ty8 [y2])⟩), ([1, 2], ⟨3, 1, (.data (.int .i64) y3)⟩), ([1, 3], ⟨3, 1, (.data (.int .i64) y4)⟩), ([1, 4], ⟨69, 5, (.data Ty15 y5)⟩)], 2⟩)
theorem Y74.step (S : T_Y74) (F0 : T_Y73) : ∀ v k, exR 19 Tryz.f19 2 Y74.p [⟨Y73.p, Y73.g F0⟩] [] [] (Y74.g S) v k = Y74.g (Y74.body S F0) v k := fun v k => by kernel_rfl
theorem Y74.ok : okL 19 Tryz.f19 4 2 Y74.p (Y74.g (Y74 ROUNDS)) := loop2 (G := fun n => Y74.g (Y74 n)) (fun n => Y74.step (Y74 n) Y73) (.cons Y73.ok .nil) [] (by kernel_rfl) .nil (fun _ _ => rfl)
abbrev T_Y75 : Type := Int → Tc23 → Tc2 → (List Int) → (List Int) → Tc8 → (Tc8 → OB) → OB
noncomputable def Y75.body (Y75 : T_Y75) (Y6s : T_Y6s) (Y3n : T_Y3n) (Y6t : T_Y6t) (Yr : T_Yr) (Y74 : T_Y74) : T_Y75 := fun n0 t1 t2 n3 n4 t5 k1 =>
  (cond_ (decide (n0 < (length t1.1 : Int))) (cond_ ((decide (0 ≤ n0)) && (decide (n0 < (length t1.1 : Int)))) (Y6s t1 t2 n0
 (fun b6 => (cond_ (! b6) (Y75 (IntKind.wrap .i64 (n0 + 1)) t1 t2 n3 n4 t5 k1) (Y3n ((getD t1.1 (toNat n0) ZFun).2.2.2.1, ((getD t1.1 (toNat n0) ZFun).2.2.2.2.1, ((getD t1.1 (toNat n0) ZFun).2.2.2.2.2.1, ((getD t1.1 (toNat n0) ZFun).2.2.2.2.2.2.1, ((getD t1.1 (toNat n0) ZFun).2.2.2.2.2.2.2.1, ((getD t1.1 (toNat n0) ZFun).2.2.2.2.2.2.2.2.1, ((getD t1.1 (toNat n0) ZFun).2.2.2.2.2.2.2.2.2.1, ((getD t1.1 (toNat n0) ZFun).2.2.2.2.2.2.2.2.2.2.1, ((getD t1.1 (toNat n0) ZFun).2.2.2.2.2.2.2.2.2.2.2.1, ())))))))))
 (fun n7 => (Y6t t2 n0
 (fun n8 => (cond_ (n8 != 0) (cond_ (Nat.ble (((length t5) + (length ((25, (n8, (0, (0, (n7, ()))))) :: []))) * (40 : Nat)) (140737488355328 : Nat)) (Yr (getD t1.1 (toNat n0) ZFun).2.2.2.1
 (fun n9 => (cond_ (Nat.ble (((length (t5 ++ ((25, (n8, (0, (0, (n7, ()))))) :: []))) + (length ((26, ((length (getD t1.1 (toNat n0) ZFun).2.2.2.2.1 : Int), (n9, (0, (n7, ()))))) :: []))) * (40 : Nat)) (140737488355328 : Nat)) (Y74 n0 (((length ((t5 ++ ((25, (n8, (0, (0, (n7, ()))))) :: [])) ++ ((26, ((length (getD t1.1 (toNat n0) ZFun).2.2.2.2.1 : Int), (n9, (0, (n7, ()))))) :: []))) : Nat) : Int) 0 t1 t2 n3 n4 ((t5 ++ ((25, (n8, (0, (0, (n7, ()))))) :: [])) ++ ((26, ((length (getD t1.1 (toNat n0) ZFun).2.2.2.2.1 : Int), (n9, (0, (n7, ()))))) :: [])) (getD t1.1 (toNat n0) ZFun).1 (getD t1.1 (toNat n0) ZFun).2.1 (getD t1.1 (toNat n0) ZFun).2.2.1 (getD t1.1 (toNat n0) ZFun).2.2.2.1 (getD t1.1 (toNat n0) ZFun).2.2.2.2.1 (getD t1.1 (toNat n0) ZFun).2.2.2.2.2.1 (getD t1.1 (toNat n0) ZFun).2.2.2.2.2.2.1 (getD t1.1 (toNat n0) ZFun).2.2.2.2.2.2.2.1 (getD t1.1 (toNat n0) ZFun).2.2.2.2.2.2.2.2.1 (getD t1.1 (toNat n0) ZFun).2.2.2.2.2.2.2.2.2.1 (getD t1.1 (toNat n0) ZFun).2.2.2.2.2.2.2.2.2.2.1 (getD t1.1 (toNat n0) ZFun).2.2.2.2.2.2.2.2.2.2.2.1 (getD t1.1 (toNat n0) ZFun).2.2.2.2.2.2.2.2.2.2.2.2.1
 (fun na tb tc nd ne tf => (Y75 (IntKind.wrap .i64 (na + 1)) tb tc nd ne tf k1))) none))) none) (Yr (getD t1.1 (toNat n0) ZFun).2.2.2.1
 (fun ng => (cond_ (Nat.ble (((length t5) + (length ((26, ((length (getD t1.1 (toNat n0) ZFun).2.2.2.2.1 : Int), (ng, (0, (n7, ()))))) :: []))) * (40 : Nat)) (140737488355328 : Nat)) (Y74 n0 (((length (t5 ++ ((26, ((length (getD t1.1 (toNat n0) ZFun).2.2.2.2.1 : Int), (ng, (0, (n7, ()))))) :: []))) : Nat) : Int) 0 t1 t2 n3 n4 (t5 ++ ((26, ((length (getD t1.1 (toNat n0) ZFun).2.2.2.2.1 : Int), (ng, (0, (n7, ()))))) :: [])) (getD t1.1 (toNat n0) ZFun).1 (getD t1.1 (toNat n0) ZFun).2.1 (getD t1.1 (toNat n0) ZFun).2.2.1 (getD t1.1 (toNat n0) ZFun).2.2.2.1 (getD t1.1 (toNat n0) ZFun).2.2.2.2.1 (getD t1.1 (toNat n0) ZFun).2.2.2.2.2.1 (getD t1.1 (toNat n0) ZFun).2.2.2.2.2.2.1 (getD t1.1 (toNat n0) ZFun).2.2.2.2.2.2.2.1 (getD t1.1 (toNat n0) ZFun).2.2.2.2.2.2.2.2.1 (getD t1.1 (toNat n0) ZFun).2.2.2.2.2.2.2.2.2.1 (getD t1.1 (toNat n0) ZFun).2.2.2.2.2.2.2.2.2.2.1 (getD t1.1 (toNat n0) ZFun).2.2.2.2.2.2.2.2.2.2.2.1 (getD t1.1 (toNat n0) ZFun).2.2.2.2.2.2.2.2.2.2.2.2.1
 (fun nh ti tj nk nl tm => (Y75 (IntKind.wrap .i64 (nh + 1)) ti tj nk nl tm k1))) none))))))))))) none) (k1 t5))
noncomputable def Y75 : Nat → T_Y75
  | 0 => fun _ _ _ _ _ _ _ => none
  | n + 1 => Y75.body (Y75 n) Y6s Y3n Y6t Yr (Y74 ROUNDS)
def Y75.p : LPat := lp 2 87 [2, 3, 5, 6, 7, 8] (ps (pq [1, 0] 0 0) (ps (pq [1, 1] 0 0) (ps (pr [1, 2]) (ps (pr [1, 3]) (ps (pr [1, 4]) (pl (pd (.int .i64)) pz)))))) (pl (po [1, 0] 30 3 (es Ty30 (pl eh pz))) (pl (po [1, 1] 26 2 (es Ty8 (pl eh pz))) (pl (po [1, 2] 3 1 (ed (.int .i64))) (pl (po [1, 3] 3 1 (ed (.int .i64))) (pl (po [1, 4] 69 5 (ed Ty15)) pz)))))
def Y75.g (F : T_Y75) (v : Y75.p.T) (k : KE) : OB := F v.1.1 v.2.1.1 v.2.2.1.1 v.2.2.2.1 v.2.2.2.2.1 v.2.2.2.2.2.1 (fun y0 => k (.exit 0) ⟨fillS 87 [7] [(.ref [1, 0])], [([1, 0], ⟨69, 5, (.data Ty15 y0)⟩)], 2⟩)
theorem Y75.step (S : T_Y75) (F0 : T_Y6s) (F1 : T_Y3n) (F2 : T_Y6t) (F3 : T_Yr) (L0 : T_Y74) : ∀ v k, exR 19 Tryz.f19 0 Y75.p [⟨Y6s.p, Y6s.g F0⟩, ⟨Y3n.p, Y3n.g F1⟩, ⟨Y6t.p, Y6t.g F2⟩, ⟨Yr.p, Yr.g F3⟩] [] [⟨2, Y74.p, Y74.g L0⟩] (Y75.g S) v k = Y75.g (Y75.body S F0 F1 F2 F3 L0) v k := fun v k => by kernel_rfl
theorem Y75.ok : okL 19 Tryz.f19 4 0 Y75.p (Y75.g (Y75 ROUNDS)) := loop2 (G := fun n => Y75.g (Y75 n)) (fun n => Y75.step (Y75 n) Y6s Y3n Y6t Yr (Y74 ROUNDS)) (.cons Y6s.ok (.cons Y3n.ok (.cons Y6t.ok (.cons Yr.ok .nil)))) [2] (by kernel_rfl) (.cons Y74.ok .nil) (fun _ _ => rfl)
abbrev T_Y76 : Type := Tc23 → Tc2 → (Tc8 → OB) → OB
noncomputable def Y76.body (Y6y : T_Y6y) (Y72 : T_Y72) (Y75 : T_Y75) : T_Y76 := fun t0 t1 k1 =>
  (Y6y t0 t1
 (fun n2 => (Y72 t0
 (fun n3 => (Y75 0 t0 t1 n2 n3 [(27, (0, (0, (0, (0, ()))))), (28, (0, (0, (0, (0, ())))))]
 (fun t4 => (k1 t4)))))))
noncomputable def Y76 : T_Y76 := Y76.body Y6y Y72 (Y75 ROUNDS)
def Y76.p : FPat := fp 19 (pl (pd Ty30) (pl (pd Ty8) pz)) pz
def Y76.g (F : T_Y76) (v : Y76.p.T) (k : KR) : OB := F v.1.1 v.1.2.1 (fun y0 => k (.ref [1, 0]) [([1, 0], ⟨69, 5, (.data Ty15 y0)⟩)])
theorem Y76.eq (F0 : T_Y6y) (F1 : T_Y72) (L0 : T_Y75) : ∀ v k, exF Tryz.f19 Y76.p [⟨Y6y.p, Y6y.g F0⟩, ⟨Y72.p, Y72.g F1⟩] [] [⟨0, Y75.p, Y75.g L0⟩] v k = Y76.g (Y76.body F0 F1 L0) v k := fun v k => by kernel_rfl
theorem Y76.ok : okF 5 Y76.p (Y76.g Y76) := fn2 (Y76.eq Y6y Y72 (Y75 ROUNDS)) Tryz.func19 (by kernel_rfl) (.cons Y6y.ok (.cons Y72.ok .nil)) [0] (by kernel_rfl) (.cons Y75.ok .nil)
abbrev T_Y77 : Type := Int → Tc20 → Int → (List Int) → (List Int) → ((List Int) → OB) → OB
noncomputable def Y77.body (Y77 : T_Y77) : T_Y77 := fun n0 t1 n2 n3 n4 k1 =>
  (cond_ (decide (n0 < 0)) none (k1 n4))
noncomputable def Y77 : Nat → T_Y77
  | 0 => fun _ _ _ _ _ _ => none
  | n + 1 => Y77.body (Y77 n)
def Y77.p : LPat := lp 2 79 [2, 5, 6, 7] (ps (pq [1, 0] 0 0) (ps (pr [1, 1]) (ps (pr [1, 2]) (pl (pd (.int .i64)) pz)))) (pl (po [1, 0] 30 3 (em (pl (pa (pl (pb 1 102 Ty27) (ps (pk 0) (pl (pd (.int .i64)) pz)))) pz))) (pl (po [1, 1] 3 1 (ed (.int .i64))) (pl (po [1, 2] 2 1 (ed (.int .i64))) pz)))
def Y77.g (F : T_Y77) (v : Y77.p.T) (k : KE) : OB := F v.1.1 v.2.1.1.1 v.2.1.1.2.1 v.2.2.1 v.2.2.2.1 (fun y0 => k (.exit 0) ⟨fillS 79 [6] [(.ref [1, 0])], [([1, 0], ⟨2, 1, (.data (.int .i64) y0)⟩)], 2⟩)
theorem Y77.step (S : T_Y77) : ∀ v k, exR 20 Tryz.f20 0 Y77.p [] [] [] (Y77.g S) v k = Y77.g (Y77.body S) v k := fun v k => by kernel_rfl
theorem Y77.ok : okL 20 Tryz.f20 0 0 Y77.p (Y77.g (Y77 ROUNDS)) := loop2 (G := fun n => Y77.g (Y77 n)) (fun n => Y77.step (Y77 n)) .nil [] (by kernel_rfl) .nil (fun _ _ => rfl)
abbrev T_Y78 : Type := Tc20 → Int → (List Bool) → (List Int) → ((List Int) → OB) → OB
noncomputable def Y78.body (Y3h : T_Y3h) (Y77 : T_Y77) : T_Y78 := fun t0 n1 b2 n3 k1 =>
  (Y3h t0 n1 b2 n3
 (fun n4 => (Y77 0 t0 n1 n4 []
 (fun n5 => (k1 n5)))))
noncomputable def Y78 : T_Y78 := Y78.body Y3h (Y77 ROUNDS)
def Y78.p : FPat := fp 20 (pl (pa (pl (pb 1 102 Ty27) (ps (pk 0) (pl (pd (.int .i64)) pz)))) (pl (pa (pl (pb 2 4 .bool) (pl (pb 3 3 (.int .i64)) pz))) pz)) pz
def Y78.g (F : T_Y78) (v : Y78.p.T) (k : KR) : OB := F v.1.1.1 v.1.1.2.1 v.1.2.1.1 v.1.2.1.2.1 (fun y0 => k (.ref [1, 0]) [([1, 0], ⟨2, 1, (.data (.int .i64) y0)⟩)])
theorem Y78.eq (F0 : T_Y3h) (L0 : T_Y77) : ∀ v k, exF Tryz.f20 Y78.p [⟨Y3h.p, Y3h.g F0⟩] [] [⟨0, Y77.p, Y77.g L0⟩] v k = Y78.g (Y78.body F0 L0) v k := fun v k => by kernel_rfl
theorem Y78.ok : okF 5 Y78.p (Y78.g Y78) := fn2 (Y78.eq Y3h (Y77 ROUNDS)) Tryz.func20 (by kernel_rfl) (.cons Y3h.ok .nil) [0] (by kernel_rfl) (.cons Y77.ok .nil)
abbrev T_Y79 : Type := Tc20 → Int → (List Bool) → (List Int) → (Int → Tc8 → (List Int) → Tc10 → Tc9 → OB) → OB
noncomputable def Y79.body (Y3s : T_Y3s) (Y78 : T_Y78) (Y3u : T_Y3u) (Y43 : T_Y43) (Y3h : T_Y3h) : T_Y79 := fun t0 n1 b2 n3 k1 =>
  (Y3s t0 n1 b2 n3
 (fun t4 => (Y78 t0 n1 b2 n3
 (fun n5 => (Y3u t0 n1 b2 n3
 (fun t6 => (Y43 t0 n1 b2 n3
 (fun t7 => (Y3h t0 n1 b2 n3
 (fun n8 => (cond_ (decide (n1 ≥ 0)) (cond_ (decide (n1 < (length n8 : Int))) (cond_ ((decide (0 ≤ n1)) && (decide (n1 < (length n8 : Int)))) (k1 (getD n8 (toNat n1) 0) t4 n5 t6 t7) none) (k1 (-1) t4 n5 t6 t7)) (k1 (-1) t4 n5 t6 t7))))))))))))
noncomputable def Y79 : T_Y79 := Y79.body Y3s Y78 Y3u Y43 Y3h
def Y79.p : FPat := fp 8 (pl (pa (pl (pb 1 102 Ty27) (ps (pk 0) (pl (pd (.int .i64)) pz)))) (pl (pa (pl (pb 2 4 .bool) (pl (pb 3 3 (.int .i64)) pz))) pz)) pz
def Y79.g (F : T_Y79) (v : Y79.p.T) (k : KR) : OB := F v.1.1.1 v.1.1.2.1 v.1.2.1.1 v.1.2.1.2.1 (fun y0 y1 y2 y3 y4 => k (.agg [(.ref [1, 0]), (.ref [1, 1]), (.ref [1, 2]), (.ref [1, 3]), (.d ⟨(.int .i64), y0⟩)]) [([1, 0], ⟨69, 5, (.data Ty15 y1)⟩), ([1, 1], ⟨2, 1, (.data (.int .i64) y2)⟩), ([1, 2], ⟨72, 6, (.data Ty18 y3)⟩), ([1, 3], ⟨124, 5, (.data Ty13 y4)⟩)])
theorem Y79.eq (F0 : T_Y3s) (F1 : T_Y78) (F2 : T_Y3u) (F3 : T_Y43) (F4 : T_Y3h) : ∀ v k, exF Tryz.f8 Y79.p [⟨Y3s.p, Y3s.g F0⟩, ⟨Y78.p, Y78.g F1⟩, ⟨Y3u.p, Y3u.g F2⟩, ⟨Y43.p, Y43.g F3⟩, ⟨Y3h.p, Y3h.g F4⟩] [] [] v k = Y79.g (Y79.body F0 F1 F2 F3 F4) v k := fun v k => by kernel_rfl
theorem Y79.ok : okF 6 Y79.p (Y79.g Y79) := fn2 (Y79.eq Y3s Y78 Y3u Y43 Y3h) Tryz.func8 (by kernel_rfl) (.cons Y3s.ok (.cons Y78.ok (.cons Y3u.ok (.cons Y43.ok (.cons Y3h.ok .nil))))) [] (by kernel_rfl) .nil
abbrev T_Y7a : Type := (Bool → OB) → OB
noncomputable def Y7a.body (Y38 : T_Y38) (Y3a : T_Y3a) (Y79 : T_Y79) (Y4m : T_Y4m) (Y6g : T_Y6g) (Y6i : T_Y6i) (Y6r : T_Y6r) : T_Y7a := fun k1 =>
  (Y38
 (fun n0 t1 => (Y38
 (fun n2 t3 => (Y3a t3 n2
 (fun b4 n5 => (Y79 t1 n0 b4 n5
 (fun n6 t7 n8 t9 ta => (Y4m t7 n8 t9 ta n6
 (fun nb => (Y6g nb
 (fun tc nd => (Y6i
 (fun te nf => (Y6r (tc.1, (tc.2.1, (tc.2.2.1, (tc.2.2.2.1, (tc.2.2.2.2.1, ()))))) t7 n8 t9 ta n6
 (fun bg => (cond_ bg (cond_ (nd == 0) (k1 (nf == 5)) (k1 false)) (k1 false))))))))))))))))))
noncomputable def Y7a : T_Y7a := Y7a.body Y38 Y3a Y79 Y4m Y6g Y6i Y6r
def Y7a.p : FPat := fp 7 pz pz
def Y7a.g (F : T_Y7a) (v : Y7a.p.T) (k : KR) : OB := F (fun y0 => k (.d ⟨.bool, y0⟩) [])
theorem Y7a.eq (F0 : T_Y38) (F1 : T_Y3a) (F2 : T_Y79) (F3 : T_Y4m) (F4 : T_Y6g) (F5 : T_Y6i) (F6 : T_Y6r) : ∀ v k, exF Tryz.f7 Y7a.p [⟨Y38.p, Y38.g F0⟩, ⟨Y3a.p, Y3a.g F1⟩, ⟨Y79.p, Y79.g F2⟩, ⟨Y4m.p, Y4m.g F3⟩, ⟨Y6g.p, Y6g.g F4⟩, ⟨Y6i.p, Y6i.g F5⟩, ⟨Y6r.p, Y6r.g F6⟩] [] [] v k = Y7a.g (Y7a.body F0 F1 F2 F3 F4 F5 F6) v k := fun v k => by kernel_rfl
theorem Y7a.ok : okF 11 Y7a.p (Y7a.g Y7a) := fn2 (Y7a.eq Y38 Y3a Y79 Y4m Y6g Y6i Y6r) Tryz.func7 (by kernel_rfl) (.cons Y38.ok (.cons Y3a.ok (.cons Y79.ok (.cons Y4m.ok (.cons Y6g.ok (.cons Y6i.ok (.cons Y6r.ok .nil))))))) [] (by kernel_rfl) .nil
abbrev T_Y7b : Type := Int → Int → Tc23 → (List Int) → (List Int) → Int → Int → ByteArray → Int → (List Int) → Tc1 → (List Int) → (Int → Tc23 → (List Int) → (List Int) → OB) → OB
noncomputable def Y7b.body (Y7b : T_Y7b) (Y3o : T_Y3o) : T_Y7b := fun n0 n1 t2 n3 n4 n5 n6 s7 n8 l9 la lb k1 =>
  (cond_ (decide (n1 < (length l9 : Int))) (cond_ ((decide (0 ≤ n1)) && (decide (n1 < (length l9 : Int)))) (cond_ (! (decide (n1 ≥ (length lb : Int)))) (cond_ ((decide (0 ≤ n1)) && (decide (n1 < (length lb : Int)))) (cond_ ((getD lb (toNat n1) 0) != (-1)) (Y3o lb n1 (length n3 : Int)
 (fun nc => (cond_ (decide (nc ≥ 0)) (cond_ ((decide (0 ≤ nc)) && (decide (nc < (length n3 : Int)))) (cond_ (Nat.ble (((length n4) + (length ((if ((getD n3 (toNat nc) 0) < 0) then 0 else (getD n3 (toNat nc) 0)) :: []))) * (8 : Nat)) (140737488355328 : Nat)) (Y7b n0 (IntKind.wrap .i64 (n1 + 1)) t2 n3 (n4 ++ ((if ((getD n3 (toNat nc) 0) < 0) then 0 else (getD n3 (toNat nc) 0)) :: [])) n5 n6 s7 n8 l9 la lb k1) none) none) (cond_ (Nat.ble (((length n4) + (1 : Nat)) * (8 : Nat)) (140737488355328 : Nat)) (Y7b n0 (IntKind.wrap .i64 (n1 + 1)) t2 n3 (n4 ++ (0 :: [])) n5 n6 s7 n8 l9 la lb k1) none)))) (cond_ (Nat.ble (((length n4) + (length ((getD l9 (toNat n1) 0) :: []))) * (8 : Nat)) (140737488355328 : Nat)) (Y7b n0 (IntKind.wrap .i64 (n1 + 1)) t2 n3 (n4 ++ ((getD l9 (toNat n1) 0) :: [])) n5 n6 s7 n8 l9 la lb k1) none)) none) (Y3o lb n1 (length n3 : Int)
 (fun nd => (cond_ (decide (nd ≥ 0)) (cond_ ((decide (0 ≤ nd)) && (decide (nd < (length n3 : Int)))) (cond_ (Nat.ble (((length n4) + (length ((if ((getD n3 (toNat nd) 0) < 0) then 0 else (getD n3 (toNat nd) 0)) :: []))) * (8 : Nat)) (140737488355328 : Nat)) (Y7b n0 (IntKind.wrap .i64 (n1 + 1)) t2 n3 (n4 ++ ((if ((getD n3 (toNat nd) 0) < 0) then 0 else (getD n3 (toNat nd) 0)) :: [])) n5 n6 s7 n8 l9 la lb k1) none) none) (cond_ (Nat.ble (((length n4) + (1 : Nat)) * (8 : Nat)) (140737488355328 : Nat)) (Y7b n0 (IntKind.wrap .i64 (n1 + 1)) t2 n3 (n4 ++ (0 :: [])) n5 n6 s7 n8 l9 la lb k1) none))))) none) (k1 n0 t2 n3 n4))
noncomputable def Y7b : Nat → T_Y7b
  | 0 => fun _ _ _ _ _ _ _ _ _ _ _ _ _ => none
  | n + 1 => Y7b.body (Y7b n) Y3o
def Y7b.p : LPat := lp 2 79 [2, 5, 6, 7, 8, 9] (ps (pq [1, 0] 0 0) (ps (pr [1, 1]) (ps (pr [1, 2]) (pl (pd (.int .i64)) (ps (pq [1, 3] 0 0) (pl (pd (.int .i64)) pz)))))) (pl (po [1, 0] 30 3 (es Ty30 (pl eh pz))) (pl (po [1, 1] 3 1 (ed (.int .i64))) (pl (po [1, 2] 2 1 (ed (.int .i64))) (pl (po [1, 3] 106 7 (em (pl (pa (pl (pd (.int .i64)) (pl (pd (.int .i64)) (pl (pd .str) (pl (pd (.int .i64)) (pl (pd Ty3) (pl (pd Ty10) (pl (pd Ty2) pz)))))))) pz))) pz))))
def Y7b.g (F : T_Y7b) (v : Y7b.p.T) (k : KE) : OB := F v.1.1 v.1.2.1 v.2.1.1 v.2.2.1 v.2.2.2.1 v.2.2.2.2.1.1.1 v.2.2.2.2.1.1.2.1 v.2.2.2.2.1.1.2.2.1 v.2.2.2.2.1.1.2.2.2.1 v.2.2.2.2.1.1.2.2.2.2.1 v.2.2.2.2.1.1.2.2.2.2.2.1 v.2.2.2.2.1.1.2.2.2.2.2.2.1 (fun y0 y1 y2 y3 => k (.exit 2) ⟨fillS 79 [2, 5, 6, 7] [(.ptr [1, 0] 0 0), (.ref [1, 1]), (.ref [1, 2]), (.d ⟨(.int .i64), y0⟩)], [([1, 0], ⟨30, 3, (.data Ty30 [y1])⟩), ([1, 1], ⟨3, 1, (.data (.int .i64) y2)⟩), ([1, 2], ⟨2, 1, (.data (.int .i64) y3)⟩)], 2⟩)
theorem Y7b.step (S : T_Y7b) (F0 : T_Y3o) : ∀ v k, exR 20 Tryz.f20 2 Y7b.p [⟨Y3o.p, Y3o.g F0⟩] [] [] (Y7b.g S) v k = Y7b.g (Y7b.body S F0) v k := fun v k => by kernel_rfl
theorem Y7b.ok : okL 20 Tryz.f20 1 2 Y7b.p (Y7b.g (Y7b ROUNDS)) := loop2 (G := fun n => Y7b.g (Y7b n)) (fun n => Y7b.step (Y7b n) Y3o) (.cons Y3o.ok .nil) [] (by kernel_rfl) .nil (fun _ _ => rfl)
abbrev T_Y7c : Type := Int → Tc23 → (List Int) → (List Int) → ((List Int) → OB) → OB
noncomputable def Y7c.body (Y7c : T_Y7c) (Y7b : T_Y7b) : T_Y7c := fun n0 t1 n2 n3 k1 =>
  (cond_ (decide (n0 < (length t1.2.1 : Int))) (cond_ ((decide (0 ≤ n0)) && (decide (n0 < (length t1.2.1 : Int)))) (cond_ (Nat.ble (((length n3) + (length ((length (getD t1.2.1 (toNat n0) ZDat).2.2.2.2.1 : Int) :: []))) * (8 : Nat)) (140737488355328 : Nat)) (Y7b n0 0 t1 n2 (n3 ++ ((length (getD t1.2.1 (toNat n0) ZDat).2.2.2.2.1 : Int) :: [])) (getD t1.2.1 (toNat n0) ZDat).1 (getD t1.2.1 (toNat n0) ZDat).2.1 (getD t1.2.1 (toNat n0) ZDat).2.2.1 (getD t1.2.1 (toNat n0) ZDat).2.2.2.1 (getD t1.2.1 (toNat n0) ZDat).2.2.2.2.1 (getD t1.2.1 (toNat n0) ZDat).2.2.2.2.2.1 (getD t1.2.1 (toNat n0) ZDat).2.2.2.2.2.2.1
 (fun n4 t5 n6 n7 => (Y7c (IntKind.wrap .i64 (n4 + 1)) t5 n6 n7 k1))) none) none) (k1 n3))
noncomputable def Y7c : Nat → T_Y7c
  | 0 => fun _ _ _ _ _ => none
  | n + 1 => Y7c.body (Y7c n) (Y7b ROUNDS)
def Y7c.p : LPat := lp 2 79 [2, 5, 6, 7] (ps (pq [1, 0] 0 0) (ps (pr [1, 1]) (ps (pr [1, 2]) (pl (pd (.int .i64)) pz)))) (pl (po [1, 0] 30 3 (es Ty30 (pl eh pz))) (pl (po [1, 1] 3 1 (ed (.int .i64))) (pl (po [1, 2] 2 1 (ed (.int .i64))) pz)))
def Y7c.g (F : T_Y7c) (v : Y7c.p.T) (k : KE) : OB := F v.1.1 v.2.1.1 v.2.2.1 v.2.2.2.1 (fun y0 => k (.exit 0) ⟨fillS 79 [6] [(.ref [1, 0])], [([1, 0], ⟨2, 1, (.data (.int .i64) y0)⟩)], 2⟩)
theorem Y7c.step (S : T_Y7c) (L0 : T_Y7b) : ∀ v k, exR 20 Tryz.f20 0 Y7c.p [] [] [⟨2, Y7b.p, Y7b.g L0⟩] (Y7c.g S) v k = Y7c.g (Y7c.body S L0) v k := fun v k => by kernel_rfl
theorem Y7c.ok : okL 20 Tryz.f20 1 0 Y7c.p (Y7c.g (Y7c ROUNDS)) := loop2 (G := fun n => Y7c.g (Y7c n)) (fun n => Y7c.step (Y7c n) (Y7b ROUNDS)) .nil [2] (by kernel_rfl) (.cons Y7b.ok .nil) (fun _ _ => rfl)
abbrev T_Y7d : Type := Tc23 → Tc2 → ((List Int) → OB) → OB
noncomputable def Y7d.body (Y6y : T_Y6y) (Y7c : T_Y7c) : T_Y7d := fun t0 t1 k1 =>
  (Y6y t0 t1
 (fun n2 => (Y7c 0 t0 n2 []
 (fun n3 => (k1 n3)))))
noncomputable def Y7d : T_Y7d := Y7d.body Y6y (Y7c ROUNDS)
def Y7d.p : FPat := fp 20 (pl (pd Ty30) (pl (pd Ty8) pz)) pz
def Y7d.g (F : T_Y7d) (v : Y7d.p.T) (k : KR) : OB := F v.1.1 v.1.2.1 (fun y0 => k (.ref [1, 0]) [([1, 0], ⟨2, 1, (.data (.int .i64) y0)⟩)])
theorem Y7d.eq (F0 : T_Y6y) (L0 : T_Y7c) : ∀ v k, exF Tryz.f20 Y7d.p [⟨Y6y.p, Y6y.g F0⟩] [] [⟨0, Y7c.p, Y7c.g L0⟩] v k = Y7d.g (Y7d.body F0 L0) v k := fun v k => by kernel_rfl
theorem Y7d.ok : okF 5 Y7d.p (Y7d.g Y7d) := fn2 (Y7d.eq Y6y (Y7c ROUNDS)) Tryz.func20 (by kernel_rfl) (.cons Y6y.ok .nil) [0] (by kernel_rfl) (.cons Y7c.ok .nil)
abbrev T_Y7e : Type := Int → Tc23 → Tc2 → Tc10 → (Tc10 → OB) → OB
noncomputable def Y7e.body (Y7e : T_Y7e) (Y6s : T_Y6s) (Y6w : T_Y6w) (Y3n : T_Y3n) : T_Y7e := fun n0 t1 t2 t3 k1 =>
  (cond_ (decide (n0 < (length t1.1 : Int))) (Y6s t1 t2 n0
 (fun b4 => (cond_ (! b4) (Y7e (IntKind.wrap .i64 (n0 + 1)) t1 t2 t3 k1) (cond_ ((decide (0 ≤ n0)) && (decide (n0 < (length t1.1 : Int)))) (Y6w t1 t2 (IntKind.wrap .i64 (n0 + 1))
 (fun n5 => (Y6w t1 t2 n0
 (fun n6 => (Y3n ((getD t1.1 (toNat n0) ZFun).2.2.2.1, ((getD t1.1 (toNat n0) ZFun).2.2.2.2.1, ((getD t1.1 (toNat n0) ZFun).2.2.2.2.2.1, ((getD t1.1 (toNat n0) ZFun).2.2.2.2.2.2.1, ((getD t1.1 (toNat n0) ZFun).2.2.2.2.2.2.2.1, ((getD t1.1 (toNat n0) ZFun).2.2.2.2.2.2.2.2.1, ((getD t1.1 (toNat n0) ZFun).2.2.2.2.2.2.2.2.2.1, ((getD t1.1 (toNat n0) ZFun).2.2.2.2.2.2.2.2.2.2.1, ((getD t1.1 (toNat n0) ZFun).2.2.2.2.2.2.2.2.2.2.2.1, ())))))))))
 (fun n7 => (cond_ (Nat.ble (((length t3) + (length (((getD t1.1 (toNat n0) ZFun).1, ((getD t1.1 (toNat n0) ZFun).2.1, (n6, ((IntKind.wrap .i64 (n5 - (length (getD t1.1 (toNat n0) ZFun).2.2.2.2.2.2.2.2.2.2.1 : Int))), (n5, (n7, ())))))) :: []))) * (48 : Nat)) (140737488355328 : Nat)) (Y7e (IntKind.wrap .i64 (n0 + 1)) t1 t2 (t3 ++ (((getD t1.1 (toNat n0) ZFun).1, ((getD t1.1 (toNat n0) ZFun).2.1, (n6, ((IntKind.wrap .i64 (n5 - (length (getD t1.1 (toNat n0) ZFun).2.2.2.2.2.2.2.2.2.2.1 : Int))), (n5, (n7, ())))))) :: [])) k1) none))))))) none)))) (k1 t3))
noncomputable def Y7e : Nat → T_Y7e
  | 0 => fun _ _ _ _ _ => none
  | n + 1 => Y7e.body (Y7e n) Y6s Y6w Y3n
def Y7e.p : LPat := lp 2 54 [2, 3, 5, 6] (ps (pq [1, 0] 0 0) (ps (pq [1, 1] 0 0) (ps (pr [1, 2]) (pl (pd (.int .i64)) pz)))) (pl (po [1, 0] 30 3 (es Ty30 (pl eh pz))) (pl (po [1, 1] 26 2 (es Ty8 (pl eh pz))) (pl (po [1, 2] 72 6 (ed Ty18)) pz)))
def Y7e.g (F : T_Y7e) (v : Y7e.p.T) (k : KE) : OB := F v.1.1 v.2.1.1 v.2.2.1.1 v.2.2.2.1 (fun y0 => k (.exit 0) ⟨fillS 54 [5] [(.ref [1, 0])], [([1, 0], ⟨72, 6, (.data Ty18 y0)⟩)], 2⟩)
theorem Y7e.step (S : T_Y7e) (F0 : T_Y6s) (F1 : T_Y6w) (F2 : T_Y3n) : ∀ v k, exR 21 Tryz.f21 0 Y7e.p [⟨Y6s.p, Y6s.g F0⟩, ⟨Y6w.p, Y6w.g F1⟩, ⟨Y3n.p, Y3n.g F2⟩] [] [] (Y7e.g S) v k = Y7e.g (Y7e.body S F0 F1 F2) v k := fun v k => by kernel_rfl
theorem Y7e.ok : okL 21 Tryz.f21 3 0 Y7e.p (Y7e.g (Y7e ROUNDS)) := loop2 (G := fun n => Y7e.g (Y7e n)) (fun n => Y7e.step (Y7e n) Y6s Y6w Y3n) (.cons Y6s.ok (.cons Y6w.ok (.cons Y3n.ok .nil))) [] (by kernel_rfl) .nil (fun _ _ => rfl)
abbrev T_Y7f : Type := Tc23 → Tc2 → (Tc10 → OB) → OB
noncomputable def Y7f.body (Y7e : T_Y7e) : T_Y7f := fun t0 t1 k1 =>
  (Y7e 0 t0 t1 []
 (fun t2 => (k1 t2)))
noncomputable def Y7f : T_Y7f := Y7f.body (Y7e ROUNDS)
def Y7f.p : FPat := fp 21 (pl (pd Ty30) (pl (pd Ty8) pz)) pz
def Y7f.g (F : T_Y7f) (v : Y7f.p.T) (k : KR) : OB := F v.1.1 v.1.2.1 (fun y0 => k (.ref [1, 0]) [([1, 0], ⟨72, 6, (.data Ty18 y0)⟩)])
theorem Y7f.eq (L0 : T_Y7e) : ∀ v k, exF Tryz.f21 Y7f.p [] [] [⟨0, Y7e.p, Y7e.g L0⟩] v k = Y7f.g (Y7f.body L0) v k := fun v k => by kernel_rfl
theorem Y7f.ok : okF 4 Y7f.p (Y7f.g Y7f) := fn2 (Y7f.eq (Y7e ROUNDS)) Tryz.func21 (by kernel_rfl) .nil [0] (by kernel_rfl) (.cons Y7e.ok .nil)
abbrev T_Y7g : Type := Int → Int → Int → Tc23 → Tc2 → Tc5 → Int → (List Int) → Int → Bool → Int → Int → (List (Int × Int × Unit)) → Tc8 → Tc1 → (Int → Int → Tc23 → Tc2 → Tc5 → Int → (List Int) → Int → Bool → Int → Int → (List (Int × Int × Unit)) → Tc8 → Tc1 → OB) → OB
noncomputable def Y7g.body (Y7g : T_Y7g) (Y6u : T_Y6u) : T_Y7g := fun n0 n1 n2 t3 t4 t5 n6 l7 n8 b9 na nb lc ld le k1 =>
  (Y6u t3 t4 n1
 (fun nf => (cond_ (decide (n2 < nf)) (cond_ (Nat.ble (((length t5) + (length ((n0, (0, (false, (0, ())))) :: []))) * (32 : Nat)) (140737488355328 : Nat)) (Y7g n0 n1 (IntKind.wrap .i64 (n2 + 1)) t3 t4 (t5 ++ ((n0, (0, (false, (0, ())))) :: [])) n6 l7 n8 b9 na nb lc ld le k1) none) (k1 n0 n1 t3 t4 t5 n6 l7 n8 b9 na nb lc ld le))))
noncomputable def Y7g : Nat → T_Y7g
  | 0 => fun _ _ _ _ _ _ _ _ _ _ _ _ _ _ _ _ => none
  | n + 1 => Y7g.body (Y7g n) Y6u
def Y7g.p : LPat := lp 2 71 [2, 3, 5, 6, 7, 8, 9] (ps (pq [1, 0] 0 0) (ps (pq [1, 1] 0 0) (ps (pr [1, 2]) (pl (pd (.int .i64)) (pl (pd (.int .i64)) (ps (pq [1, 3] 0 0) (pl (pd (.int .i64)) pz))))))) (pl (po [1, 0] 30 3 (es Ty30 (pl eh pz))) (pl (po [1, 1] 26 2 (es Ty8 (pl eh pz))) (pl (po [1, 2] 122 4 (ed Ty11)) (pl (po [1, 3] 100 9 (em (pl (pa (pl (pd (.int .i64)) (pl (pd Ty2) (pl (pd (.int .i64)) (pl (pd .bool) (pl (pd (.int .i64)) (pl (pd (.int .i64)) (pl (pd Ty7) (pl (pd Ty17) (pl (pd Ty10) pz)))))))))) pz))) pz))))
def Y7g.g (F : T_Y7g) (v : Y7g.p.T) (k : KE) : OB := F v.1.1 v.1.2.1 v.1.2.2.1 v.2.1.1 v.2.2.1.1 v.2.2.2.1 v.2.2.2.2.1.1.1 v.2.2.2.2.1.1.2.1 v.2.2.2.2.1.1.2.2.1 v.2.2.2.2.1.1.2.2.2.1 v.2.2.2.2.1.1.2.2.2.2.1 v.2.2.2.2.1.1.2.2.2.2.2.1 v.2.2.2.2.1.1.2.2.2.2.2.2.1 v.2.2.2.2.1.1.2.2.2.2.2.2.2.1 v.2.2.2.2.1.1.2.2.2.2.2.2.2.2.1 (fun y0 y1 y2 y3 y4 y5 y6 y7 y8 y9 y10 y11 y12 y13 => k (.exit 2) ⟨fillS 71 [2, 3, 5, 6, 7, 8] [(.ptr [1, 0] 0 0), (.ptr [1, 1] 0 0), (.ref [1, 2]), (.d ⟨(.int .i64), y0⟩), (.d ⟨(.int .i64), y1⟩), (.ptr [1, 3] 0 0)], [([1, 0], ⟨30, 3, (.data Ty30 [y2])⟩), ([1, 1], ⟨26, 2, (.data Ty8 [y3])⟩), ([1, 2], ⟨122, 4, (.data Ty11 y4)⟩), ([1, 3], ⟨100, 9, (.mix [(.agg [(.d ⟨(.int .i64), y5⟩), (.d ⟨Ty2, y6⟩), (.d ⟨(.int .i64), y7⟩), (.d ⟨.bool, y8⟩), (.d ⟨(.int .i64), y9⟩), (.d ⟨(.int .i64), y10⟩), (.d ⟨Ty7, y11⟩), (.d ⟨Ty17, y12⟩), (.d ⟨Ty10, y13⟩)])])⟩)], 2⟩)
theorem Y7g.step (S : T_Y7g) (F0 : T_Y6u) : ∀ v k, exR 52 Tryz.f52 2 Y7g.p [⟨Y6u.p, Y6u.g F0⟩] [] [] (Y7g.g S) v k = Y7g.g (Y7g.body S F0) v k := fun v k => by kernel_rfl
theorem Y7g.ok : okL 52 Tryz.f52 2 2 Y7g.p (Y7g.g (Y7g ROUNDS)) := loop2 (G := fun n => Y7g.g (Y7g n)) (fun n => Y7g.step (Y7g n) Y6u) (.cons Y6u.ok .nil) [] (by kernel_rfl) .nil (fun _ _ => rfl)
abbrev T_Y7h : Type := Int → Int → Int → Tc23 → Tc2 → Tc5 → Int → (List Int) → Int → Bool → Int → Int → (List (Int × Int × Unit)) → Tc8 → Tc1 → (Int → Int → Tc23 → Tc2 → Tc5 → OB) → OB
noncomputable def Y7h.body (Y7h : T_Y7h) (Y3n : T_Y3n) (Y26 : T_Y26) (Y3x : T_Y3x) : T_Y7h := fun n0 n1 n2 t3 t4 t5 n6 l7 n8 b9 na nb lc ld le k1 =>
  (cond_ (decide (n2 < (length ld : Int))) (Y3n (n6, (l7, (n8, (b9, (na, (nb, (lc, (ld, (le, ())))))))))
 (fun nf => (Y26 (n6, (l7, (n8, (b9, (na, (nb, (lc, (ld, (le, ()))))))))) n2
 (fun bg => (Y3x (n6, (l7, (n8, (b9, (na, (nb, (lc, (ld, (le, ()))))))))) n2
 (fun nh => (cond_ (Nat.ble (((length t5) + (length ((n0, (nf, (bg, (nh, ())))) :: []))) * (32 : Nat)) (140737488355328 : Nat)) (Y7h n0 n1 (IntKind.wrap .i64 (n2 + 1)) t3 t4 (t5 ++ ((n0, (nf, (bg, (nh, ())))) :: [])) n6 l7 n8 b9 na nb lc ld le k1) none))))))) (k1 n0 n1 t3 t4 t5))
noncomputable def Y7h : Nat → T_Y7h
  | 0 => fun _ _ _ _ _ _ _ _ _ _ _ _ _ _ _ _ => none
  | n + 1 => Y7h.body (Y7h n) Y3n Y26 Y3x
def Y7h.p : LPat := lp 2 71 [2, 3, 5, 6, 7, 8, 10] (ps (pq [1, 0] 0 0) (ps (pq [1, 1] 0 0) (ps (pr [1, 2]) (pl (pd (.int .i64)) (pl (pd (.int .i64)) (ps (pq [1, 3] 0 0) (pl (pd (.int .i64)) pz))))))) (pl (po [1, 0] 30 3 (es Ty30 (pl eh pz))) (pl (po [1, 1] 26 2 (es Ty8 (pl eh pz))) (pl (po [1, 2] 122 4 (ed Ty11)) (pl (po [1, 3] 100 9 (em (pl (pa (pl (pd (.int .i64)) (pl (pd Ty2) (pl (pd (.int .i64)) (pl (pd .bool) (pl (pd (.int .i64)) (pl (pd (.int .i64)) (pl (pd Ty7) (pl (pd Ty17) (pl (pd Ty10) pz)))))))))) pz))) pz))))
def Y7h.g (F : T_Y7h) (v : Y7h.p.T) (k : KE) : OB := F v.1.1 v.1.2.1 v.1.2.2.1 v.2.1.1 v.2.2.1.1 v.2.2.2.1 v.2.2.2.2.1.1.1 v.2.2.2.2.1.1.2.1 v.2.2.2.2.1.1.2.2.1 v.2.2.2.2.1.1.2.2.2.1 v.2.2.2.2.1.1.2.2.2.2.1 v.2.2.2.2.1.1.2.2.2.2.2.1 v.2.2.2.2.1.1.2.2.2.2.2.2.1 v.2.2.2.2.1.1.2.2.2.2.2.2.2.1 v.2.2.2.2.1.1.2.2.2.2.2.2.2.2.1 (fun y0 y1 y2 y3 y4 => k (.exit 4) ⟨fillS 71 [2, 3, 5, 6, 7] [(.ptr [1, 0] 0 0), (.ptr [1, 1] 0 0), (.ref [1, 2]), (.d ⟨(.int .i64), y0⟩), (.d ⟨(.int .i64), y1⟩)], [([1, 0], ⟨30, 3, (.data Ty30 [y2])⟩), ([1, 1], ⟨26, 2, (.data Ty8 [y3])⟩), ([1, 2], ⟨122, 4, (.data Ty11 y4)⟩)], 2⟩)
theorem Y7h.step (S : T_Y7h) (F0 : T_Y3n) (F1 : T_Y26) (F2 : T_Y3x) : ∀ v k, exR 52 Tryz.f52 4 Y7h.p [⟨Y3n.p, Y3n.g F0⟩, ⟨Y26.p, Y26.g F1⟩, ⟨Y3x.p, Y3x.g F2⟩] [] [] (Y7h.g S) v k = Y7h.g (Y7h.body S F0 F1 F2) v k := fun v k => by kernel_rfl
theorem Y7h.ok : okL 52 Tryz.f52 2 4 Y7h.p (Y7h.g (Y7h ROUNDS)) := loop2 (G := fun n => Y7h.g (Y7h n)) (fun n => Y7h.step (Y7h n) Y3n Y26 Y3x) (.cons Y3n.ok (.cons Y26.ok (.cons Y3x.ok .nil))) [] (by kernel_rfl) .nil (fun _ _ => rfl)
abbrev T_Y7i : Type := Int → Int → Tc23 → Tc2 → Tc5 → (Tc5 → OB) → OB
noncomputable def Y7i.body (Y7i : T_Y7i) (Y6s : T_Y6s) (Y7g : T_Y7g) (Y7h : T_Y7h) : T_Y7i := fun n0 n1 t2 t3 t4 k1 =>
  (cond_ (decide (n1 < (length t2.1 : Int))) (Y6s t2 t3 n1
 (fun b5 => (cond_ (! b5) (Y7i n0 (IntKind.wrap .i64 (n1 + 1)) t2 t3 t4 k1) (cond_ ((decide (0 ≤ n1)) && (decide (n1 < (length t2.1 : Int)))) (Y7g (IntKind.wrap .i64 (n0 + 1)) n1 (length (getD t2.1 (toNat n1) ZFun).2.2.2.2.2.2.2.2.2.2.1 : Int) t2 t3 t4 (getD t2.1 (toNat n1) ZFun).2.2.2.1 (getD t2.1 (toNat n1) ZFun).2.2.2.2.1 (getD t2.1 (toNat n1) ZFun).2.2.2.2.2.1 (getD t2.1 (toNat n1) ZFun).2.2.2.2.2.2.1 (getD t2.1 (toNat n1) ZFun).2.2.2.2.2.2.2.1 (getD t2.1 (toNat n1) ZFun).2.2.2.2.2.2.2.2.1 (getD t2.1 (toNat n1) ZFun).2.2.2.2.2.2.2.2.2.1 (getD t2.1 (toNat n1) ZFun).2.2.2.2.2.2.2.2.2.2.1 (getD t2.1 (toNat n1) ZFun).2.2.2.2.2.2.2.2.2.2.2.1
 (fun n6 n7 t8 t9 ta nb lc nd be nf ng lh li lj => (Y7h n6 n7 0 t8 t9 ta nb lc nd be nf ng lh li lj
 (fun nk nl tm tn to => (Y7i nk (IntKind.wrap .i64 (nl + 1)) tm tn to k1))))) none)))) (k1 t4))
noncomputable def Y7i : Nat → T_Y7i
  | 0 => fun _ _ _ _ _ _ => none
  | n + 1 => Y7i.body (Y7i n) Y6s (Y7g ROUNDS) (Y7h ROUNDS)
def Y7i.p : LPat := lp 2 71 [2, 3, 5, 6, 7] (ps (pq [1, 0] 0 0) (ps (pq [1, 1] 0 0) (ps (pr [1, 2]) (pl (pd (.int .i64)) (pl (pd (.int .i64)) pz))))) (pl (po [1, 0] 30 3 (es Ty30 (pl eh pz))) (pl (po [1, 1] 26 2 (es Ty8 (pl eh pz))) (pl (po [1, 2] 122 4 (ed Ty11)) pz)))
def Y7i.g (F : T_Y7i) (v : Y7i.p.T) (k : KE) : OB := F v.1.1 v.1.2.1 v.2.1.1 v.2.2.1.1 v.2.2.2.1 (fun y0 => k (.exit 0) ⟨fillS 71 [5] [(.ref [1, 0])], [([1, 0], ⟨122, 4, (.data Ty11 y0)⟩)], 2⟩)
theorem Y7i.step (S : T_Y7i) (F0 : T_Y6s) (L0 : T_Y7g) (L1 : T_Y7h) : ∀ v k, exR 52 Tryz.f52 0 Y7i.p [⟨Y6s.p, Y6s.g F0⟩] [] [⟨2, Y7g.p, Y7g.g L0⟩, ⟨4, Y7h.p, Y7h.g L1⟩] (Y7i.g S) v k = Y7i.g (Y7i.body S F0 L0 L1) v k := fun v k => by kernel_rfl
theorem Y7i.ok : okL 52 Tryz.f52 2 0 Y7i.p (Y7i.g (Y7i ROUNDS)) := loop2 (G := fun n => Y7i.g (Y7i n)) (fun n => Y7i.step (Y7i n) Y6s (Y7g ROUNDS) (Y7h ROUNDS)) (.cons Y6s.ok .nil) [2, 4] (by kernel_rfl) (.cons Y7g.ok (.cons Y7h.ok .nil)) (fun _ _ => rfl)
abbrev T_Y7j : Type := Tc23 → Tc2 → (Tc5 → OB) → OB
noncomputable def Y7j.body (Y7i : T_Y7i) : T_Y7j := fun t0 t1 k1 =>
  (Y7i 0 0 t0 t1 [ZRo, ZRo]
 (fun t2 => (k1 t2)))
noncomputable def Y7j : T_Y7j := Y7j.body (Y7i ROUNDS)
def Y7j.p : FPat := fp 52 (pl (pd Ty30) (pl (pd Ty8) pz)) pz
def Y7j.g (F : T_Y7j) (v : Y7j.p.T) (k : KR) : OB := F v.1.1 v.1.2.1 (fun y0 => k (.ref [1, 0]) [([1, 0], ⟨122, 4, (.data Ty11 y0)⟩)])
theorem Y7j.eq (L0 : T_Y7i) : ∀ v k, exF Tryz.f52 Y7j.p [] [] [⟨0, Y7i.p, Y7i.g L0⟩] v k = Y7j.g (Y7j.body L0) v k := fun v k => by kernel_rfl
theorem Y7j.ok : okF 3 Y7j.p (Y7j.g Y7j) := fn2 (Y7j.eq (Y7i ROUNDS)) Tryz.func52 (by kernel_rfl) .nil [0] (by kernel_rfl) (.cons Y7i.ok .nil)
abbrev T_Y7k : Type := Tc23 → Tc2 → (Tc9 → OB) → OB
noncomputable def Y7k.body (Y7j : T_Y7j) (Y42 : T_Y42) : T_Y7k := fun t0 t1 k1 =>
  (Y7j t0 t1
 (fun t2 => (Y42 t2
 (fun t3 => (k1 t3)))))
noncomputable def Y7k : T_Y7k := Y7k.body Y7j Y42
def Y7k.p : FPat := fp 22 (pl (pd Ty30) (pl (pd Ty8) pz)) pz
def Y7k.g (F : T_Y7k) (v : Y7k.p.T) (k : KR) : OB := F v.1.1 v.1.2.1 (fun y0 => k (.ref [1, 0]) [([1, 0], ⟨124, 5, (.data Ty13 y0)⟩)])
theorem Y7k.eq (F0 : T_Y7j) (F1 : T_Y42) : ∀ v k, exF Tryz.f22 Y7k.p [⟨Y7j.p, Y7j.g F0⟩, ⟨Y42.p, Y42.g F1⟩] [] [] v k = Y7k.g (Y7k.body F0 F1) v k := fun v k => by kernel_rfl
theorem Y7k.ok : okF 4 Y7k.p (Y7k.g Y7k) := fn2 (Y7k.eq Y7j Y42) Tryz.func22 (by kernel_rfl) (.cons Y7j.ok (.cons Y42.ok .nil)) [] (by kernel_rfl) .nil
abbrev T_Y7l : Type := Tc23 → Tc2 → (Int → Tc8 → (List Int) → Tc10 → Tc9 → OB) → OB
noncomputable def Y7l.body (Y76 : T_Y76) (Y7d : T_Y7d) (Y7f : T_Y7f) (Y7k : T_Y7k) (Y6y : T_Y6y) : T_Y7l := fun t0 t1 k1 =>
  (Y76 t0 t1
 (fun t2 => (Y7d t0 t1
 (fun n3 => (Y7f t0 t1
 (fun t4 => (Y7k t0 t1
 (fun t5 => (Y6y t0 t1
 (fun n6 => (cond_ (decide (t0.2.2.1 ≥ 0)) (cond_ (decide (t0.2.2.1 < (length n6 : Int))) (cond_ ((decide (0 ≤ t0.2.2.1)) && (decide (t0.2.2.1 < (length n6 : Int)))) (k1 (getD n6 (toNat t0.2.2.1) 0) t2 n3 t4 t5) none) (k1 (-1) t2 n3 t4 t5)) (k1 (-1) t2 n3 t4 t5))))))))))))
noncomputable def Y7l : T_Y7l := Y7l.body Y76 Y7d Y7f Y7k Y6y
def Y7l.p : FPat := fp 8 (pl (pd Ty30) (pl (pd Ty8) pz)) pz
def Y7l.g (F : T_Y7l) (v : Y7l.p.T) (k : KR) : OB := F v.1.1 v.1.2.1 (fun y0 y1 y2 y3 y4 => k (.agg [(.ref [1, 0]), (.ref [1, 1]), (.ref [1, 2]), (.ref [1, 3]), (.d ⟨(.int .i64), y0⟩)]) [([1, 0], ⟨69, 5, (.data Ty15 y1)⟩), ([1, 1], ⟨2, 1, (.data (.int .i64) y2)⟩), ([1, 2], ⟨72, 6, (.data Ty18 y3)⟩), ([1, 3], ⟨124, 5, (.data Ty13 y4)⟩)])
theorem Y7l.eq (F0 : T_Y76) (F1 : T_Y7d) (F2 : T_Y7f) (F3 : T_Y7k) (F4 : T_Y6y) : ∀ v k, exF Tryz.f8 Y7l.p [⟨Y76.p, Y76.g F0⟩, ⟨Y7d.p, Y7d.g F1⟩, ⟨Y7f.p, Y7f.g F2⟩, ⟨Y7k.p, Y7k.g F3⟩, ⟨Y6y.p, Y6y.g F4⟩] [] [] v k = Y7l.g (Y7l.body F0 F1 F2 F3 F4) v k := fun v k => by kernel_rfl
theorem Y7l.ok : okF 6 Y7l.p (Y7l.g Y7l) := fn2 (Y7l.eq Y76 Y7d Y7f Y7k Y6y) Tryz.func8 (by kernel_rfl) (.cons Y76.ok (.cons Y7d.ok (.cons Y7f.ok (.cons Y7k.ok (.cons Y6y.ok .nil))))) [] (by kernel_rfl) .nil
abbrev T_Y7m : Type := Int → Int → Int → Int → (List Int) → (Int → Int → Int → (List Int) → OB) → OB
noncomputable def Y7m.body (Y7m : T_Y7m) : T_Y7m := fun n0 n1 n2 n3 n4 k1 =>
  (cond_ (decide (n3 < n1)) (Y7m n0 n1 (IntKind.wrap .u64 (Int.tdiv n2 256)) (IntKind.wrap .i64 (n3 + 1)) n4 k1) (k1 n0 n1 n2 n4))
noncomputable def Y7m : Nat → T_Y7m
  | 0 => fun _ _ _ _ _ _ => none
  | n + 1 => Y7m.body (Y7m n)
def Y7m.p : LPat := lp 2 45 [7, 8, 9, 10, 11] (ps (pr [1, 0]) (pl (pd (.int .u64)) (pl (pd (.int .i64)) (pl (pd (.int .u64)) (pl (pd (.int .i64)) pz))))) (pl (po [1, 0] 5 1 (ed (.int .u8))) pz)
def Y7m.g (F : T_Y7m) (v : Y7m.p.T) (k : KE) : OB := F v.1.1 v.1.2.1 v.1.2.2.1 v.1.2.2.2.1 v.2.1 (fun y0 y1 y2 y3 => k (.exit 2) ⟨fillS 45 [7, 8, 9, 10] [(.ref [1, 0]), (.d ⟨(.int .u64), y0⟩), (.d ⟨(.int .i64), y1⟩), (.d ⟨(.int .u64), y2⟩)], [([1, 0], ⟨5, 1, (.data (.int .u8) y3)⟩)], 2⟩)
theorem Y7m.step (S : T_Y7m) : ∀ v k, exR 34 Tryz.f34 2 Y7m.p [] [] [] (Y7m.g S) v k = Y7m.g (Y7m.body S) v k := fun v k => by kernel_rfl
theorem Y7m.ok : okL 34 Tryz.f34 0 2 Y7m.p (Y7m.g (Y7m ROUNDS)) := loop2 (G := fun n => Y7m.g (Y7m n)) (fun n => Y7m.step (Y7m n)) .nil [] (by kernel_rfl) .nil (fun _ _ => rfl)
abbrev T_Y7n : Type := Int → Int → (List Int) → ((List Int) → OB) → OB
noncomputable def Y7n.body (Y7n : T_Y7n) (Y7m : T_Y7m) : T_Y7n := fun n0 n1 n2 k1 =>
  (cond_ (decide (n1 ≥ 0)) (Y7m n0 n1 n0 0 n2
 (fun n3 n4 n5 n6 => (cond_ (Nat.ble (((length n6) + (length ((IntKind.wrap .u8 (Int.tmod n5 256)) :: []))) * (1 : Nat)) (140737488355328 : Nat)) (Y7n n3 (IntKind.wrap .i64 (n4 - 1)) (n6 ++ ((IntKind.wrap .u8 (Int.tmod n5 256)) :: [])) k1) none))) (k1 n2))
noncomputable def Y7n : Nat → T_Y7n
  | 0 => fun _ _ _ _ => none
  | n + 1 => Y7n.body (Y7n n) (Y7m ROUNDS)
def Y7n.p : LPat := lp 2 45 [7, 8, 9] (ps (pr [1, 0]) (pl (pd (.int .u64)) (pl (pd (.int .i64)) pz))) (pl (po [1, 0] 5 1 (ed (.int .u8))) pz)
def Y7n.g (F : T_Y7n) (v : Y7n.p.T) (k : KE) : OB := F v.1.1 v.1.2.1 v.2.1 (fun y0 => k (.exit 0) ⟨fillS 45 [7] [(.ref [1, 0])], [([1, 0], ⟨5, 1, (.data (.int .u8) y0)⟩)], 2⟩)
theorem Y7n.step (S : T_Y7n) (L0 : T_Y7m) : ∀ v k, exR 34 Tryz.f34 0 Y7n.p [] [] [⟨2, Y7m.p, Y7m.g L0⟩] (Y7n.g S) v k = Y7n.g (Y7n.body S L0) v k := fun v k => by kernel_rfl
theorem Y7n.ok : okL 34 Tryz.f34 0 0 Y7n.p (Y7n.g (Y7n ROUNDS)) := loop2 (G := fun n => Y7n.g (Y7n n)) (fun n => Y7n.step (Y7n n) (Y7m ROUNDS)) .nil [2] (by kernel_rfl) (.cons Y7m.ok .nil) (fun _ _ => rfl)
abbrev T_Y7o : Type := (List Int) → Int → Int → ((List Int) → OB) → OB
noncomputable def Y7o.body (Y7n : T_Y7n) : T_Y7o := fun n0 n1 n2 k1 =>
  (cond_ (Nat.ble ((length n0) * (1 : Nat)) (140737488355328 : Nat)) (cond_ (! (decide (n2 < 1))) (cond_ (decide (n2 > 8)) (k1 n0) (Y7n (IntKind.wrap .u64 n1) (IntKind.wrap .i64 (n2 - 1)) n0
 (fun n3 => (k1 n3)))) (k1 n0)) none)
noncomputable def Y7o : T_Y7o := Y7o.body (Y7n ROUNDS)
def Y7o.p : FPat := fp 34 (pl (pb 1 5 (.int .u8)) (pl (pd (.int .i64)) (pl (pd (.int .i64)) pz))) pz
def Y7o.g (F : T_Y7o) (v : Y7o.p.T) (k : KR) : OB := F v.1.1 v.1.2.1 v.1.2.2.1 (fun y0 => k (.ref [1, 0]) [([1, 0], ⟨5, 1, (.data (.int .u8) y0)⟩)])
theorem Y7o.eq (L0 : T_Y7n) : ∀ v k, exF Tryz.f34 Y7o.p [] [] [⟨0, Y7n.p, Y7n.g L0⟩] v k = Y7o.g (Y7o.body L0) v k := fun v k => by kernel_rfl
theorem Y7o.ok : okF 1 Y7o.p (Y7o.g Y7o) := fn2 (Y7o.eq (Y7n ROUNDS)) Tryz.func34 (by kernel_rfl) .nil [0] (by kernel_rfl) (.cons Y7n.ok .nil)
abbrev T_Y7p : Type := (List Int) → Tc3 → ((List Int) → OB) → OB
noncomputable def Y7p.body (Y7o : T_Y7o) : T_Y7p := fun n0 t1 k1 =>
  (Y7o n0 t1.1 1
 (fun n2 => (Y7o n2 t1.2.1 1
 (fun n3 => (Y7o n3 t1.2.2.1 1
 (fun n4 => (Y7o n4 t1.2.2.2.1 1
 (fun n5 => (Y7o n5 t1.2.2.2.2.1 4
 (fun n6 => (k1 n6)))))))))))
noncomputable def Y7p : T_Y7p := Y7p.body Y7o
def Y7p.p : FPat := fp 35 (pl (pb 1 5 (.int .u8)) (pl (pd Ty15) pz)) pz
def Y7p.g (F : T_Y7p) (v : Y7p.p.T) (k : KR) : OB := F v.1.1 v.1.2.1 (fun y0 => k (.ref [1, 0]) [([1, 0], ⟨5, 1, (.data (.int .u8) y0)⟩)])
theorem Y7p.eq (F0 : T_Y7o) : ∀ v k, exF Tryz.f35 Y7p.p [⟨Y7o.p, Y7o.g F0⟩] [] [] v k = Y7p.g (Y7p.body F0) v k := fun v k => by kernel_rfl
theorem Y7p.ok : okF 2 Y7p.p (Y7p.g Y7p) := fn2 (Y7p.eq Y7o) Tryz.func35 (by kernel_rfl) (.cons Y7o.ok .nil) [] (by kernel_rfl) .nil
abbrev T_Y7q : Type := Int → Tc8 → (List Int) → Tc10 → Tc9 → Int → (List Int) → (Tc8 → (List Int) → Tc10 → Tc9 → Int → (List Int) → OB) → OB
noncomputable def Y7q.body (Y7q : T_Y7q) (Y7p : T_Y7p) : T_Y7q := fun n0 t1 n2 t3 t4 n5 n6 k1 =>
  (cond_ (decide (n0 < (length t1 : Int))) (cond_ ((decide (0 ≤ n0)) && (decide (n0 < (length t1 : Int)))) (Y7p n6 (getD t1 (toNat n0) ZIns)
 (fun n7 => (Y7q (IntKind.wrap .i64 (n0 + 1)) t1 n2 t3 t4 n5 n7 k1))) none) (k1 t1 n2 t3 t4 n5 n6))
noncomputable def Y7q : Nat → T_Y7q
  | 0 => fun _ _ _ _ _ _ _ _ => none
  | n + 1 => Y7q.body (Y7q n) Y7p
def Y7q.p : LPat := lp 2 97 [1, 3, 4] (ps (pq [1, 0] 0 0) (ps (pr [1, 1]) (pl (pd (.int .i64)) pz))) (pl (po [1, 0] 40 5 (em (pl (pa (pl (pb 1 69 Ty15) (pl (pb 2 2 (.int .i64)) (pl (pb 3 72 Ty18) (pl (pb 4 124 Ty13) (pl (pd (.int .i64)) pz)))))) pz))) (pl (po [1, 1] 5 1 (ed (.int .u8))) pz))
def Y7q.g (F : T_Y7q) (v : Y7q.p.T) (k : KE) : OB := F v.1.1 v.2.1.1.1 v.2.1.1.2.1 v.2.1.1.2.2.1 v.2.1.1.2.2.2.1 v.2.1.1.2.2.2.2.1 v.2.2.1 (fun y0 y1 y2 y3 y4 y5 => k (.exit 0) ⟨fillS 97 [1, 3] [(.ptr [1, 0] 0 0), (.ref [1, 1])], [([1, 0], ⟨40, 5, (.mix [(.agg [(.bv 1 69 Ty15 y0), (.bv 2 2 (.int .i64) y1), (.bv 3 72 Ty18 y2), (.bv 4 124 Ty13 y3), (.d ⟨(.int .i64), y4⟩)])])⟩), ([1, 1], ⟨5, 1, (.data (.int .u8) y5)⟩)], 2⟩)
theorem Y7q.step (S : T_Y7q) (F0 : T_Y7p) : ∀ v k, exR 12 Tryz.f12 0 Y7q.p [⟨Y7p.p, Y7p.g F0⟩] [] [] (Y7q.g S) v k = Y7q.g (Y7q.body S F0) v k := fun v k => by kernel_rfl
theorem Y7q.ok : okL 12 Tryz.f12 2 0 Y7q.p (Y7q.g (Y7q ROUNDS)) := loop2 (G := fun n => Y7q.g (Y7q n)) (fun n => Y7q.step (Y7q n) Y7p) (.cons Y7p.ok .nil) [] (by kernel_rfl) .nil (fun _ _ => rfl)
abbrev T_Y7r : Type := Int → Tc8 → (List Int) → Tc10 → Tc9 → Int → (List Int) → (Tc8 → (List Int) → Tc10 → Tc9 → Int → (List Int) → OB) → OB
noncomputable def Y7r.body (Y7r : T_Y7r) (Y7o : T_Y7o) : T_Y7r := fun n0 t1 n2 t3 t4 n5 n6 k1 =>
  (cond_ (decide (n0 < (length n2 : Int))) (cond_ ((decide (0 ≤ n0)) && (decide (n0 < (length n2 : Int)))) (Y7o n6 (getD n2 (toNat n0) 0) 8
 (fun n7 => (Y7r (IntKind.wrap .i64 (n0 + 1)) t1 n2 t3 t4 n5 n7 k1))) none) (k1 t1 n2 t3 t4 n5 n6))
noncomputable def Y7r : Nat → T_Y7r
  | 0 => fun _ _ _ _ _ _ _ _ => none
  | n + 1 => Y7r.body (Y7r n) Y7o
def Y7r.p : LPat := lp 2 97 [1, 3, 5] (ps (pq [1, 0] 0 0) (ps (pr [1, 1]) (pl (pd (.int .i64)) pz))) (pl (po [1, 0] 40 5 (em (pl (pa (pl (pb 1 69 Ty15) (pl (pb 2 2 (.int .i64)) (pl (pb 3 72 Ty18) (pl (pb 4 124 Ty13) (pl (pd (.int .i64)) pz)))))) pz))) (pl (po [1, 1] 5 1 (ed (.int .u8))) pz))
def Y7r.g (F : T_Y7r) (v : Y7r.p.T) (k : KE) : OB := F v.1.1 v.2.1.1.1 v.2.1.1.2.1 v.2.1.1.2.2.1 v.2.1.1.2.2.2.1 v.2.1.1.2.2.2.2.1 v.2.2.1 (fun y0 y1 y2 y3 y4 y5 => k (.exit 2) ⟨fillS 97 [1, 3] [(.ptr [1, 0] 0 0), (.ref [1, 1])], [([1, 0], ⟨40, 5, (.mix [(.agg [(.bv 1 69 Ty15 y0), (.bv 2 2 (.int .i64) y1), (.bv 3 72 Ty18 y2), (.bv 4 124 Ty13 y3), (.d ⟨(.int .i64), y4⟩)])])⟩), ([1, 1], ⟨5, 1, (.data (.int .u8) y5)⟩)], 2⟩)
theorem Y7r.step (S : T_Y7r) (F0 : T_Y7o) : ∀ v k, exR 12 Tryz.f12 2 Y7r.p [⟨Y7o.p, Y7o.g F0⟩] [] [] (Y7r.g S) v k = Y7r.g (Y7r.body S F0) v k := fun v k => by kernel_rfl
theorem Y7r.ok : okL 12 Tryz.f12 1 2 Y7r.p (Y7r.g (Y7r ROUNDS)) := loop2 (G := fun n => Y7r.g (Y7r n)) (fun n => Y7r.step (Y7r n) Y7o) (.cons Y7o.ok .nil) [] (by kernel_rfl) .nil (fun _ _ => rfl)
abbrev T_Y7s : Type := Int → Tc8 → (List Int) → Tc10 → Tc9 → Int → (List Int) → (Tc8 → (List Int) → Tc10 → Tc9 → Int → (List Int) → OB) → OB
noncomputable def Y7s.body (Y7s : T_Y7s) (Y7o : T_Y7o) : T_Y7s := fun n0 t1 n2 t3 t4 n5 n6 k1 =>
  (cond_ (decide (n0 < (length t3 : Int))) (cond_ ((decide (0 ≤ n0)) && (decide (n0 < (length t3 : Int)))) (Y7o n6 (getD t3 (toNat n0) ZFn).1 1
 (fun n7 => (Y7o n7 (getD t3 (toNat n0) ZFn).2.1 1
 (fun n8 => (Y7o n8 (getD t3 (toNat n0) ZFn).2.2.1 2
 (fun n9 => (Y7o n9 (getD t3 (toNat n0) ZFn).2.2.2.1 2
 (fun na => (Y7o na (getD t3 (toNat n0) ZFn).2.2.2.2.1 2
 (fun nb => (Y7o nb (getD t3 (toNat n0) ZFn).2.2.2.2.2.1 2
 (fun nc => (Y7s (IntKind.wrap .i64 (n0 + 1)) t1 n2 t3 t4 n5 nc k1))))))))))))) none) (k1 t1 n2 t3 t4 n5 n6))
noncomputable def Y7s : Nat → T_Y7s
  | 0 => fun _ _ _ _ _ _ _ _ => none
  | n + 1 => Y7s.body (Y7s n) Y7o
def Y7s.p : LPat := lp 2 97 [1, 3, 6] (ps (pq [1, 0] 0 0) (ps (pr [1, 1]) (pl (pd (.int .i64)) pz))) (pl (po [1, 0] 40 5 (em (pl (pa (pl (pb 1 69 Ty15) (pl (pb 2 2 (.int .i64)) (pl (pb 3 72 Ty18) (pl (pb 4 124 Ty13) (pl (pd (.int .i64)) pz)))))) pz))) (pl (po [1, 1] 5 1 (ed (.int .u8))) pz))
def Y7s.g (F : T_Y7s) (v : Y7s.p.T) (k : KE) : OB := F v.1.1 v.2.1.1.1 v.2.1.1.2.1 v.2.1.1.2.2.1 v.2.1.1.2.2.2.1 v.2.1.1.2.2.2.2.1 v.2.2.1 (fun y0 y1 y2 y3 y4 y5 => k (.exit 4) ⟨fillS 97 [1, 3] [(.ptr [1, 0] 0 0), (.ref [1, 1])], [([1, 0], ⟨40, 5, (.mix [(.agg [(.bv 1 69 Ty15 y0), (.bv 2 2 (.int .i64) y1), (.bv 3 72 Ty18 y2), (.bv 4 124 Ty13 y3), (.d ⟨(.int .i64), y4⟩)])])⟩), ([1, 1], ⟨5, 1, (.data (.int .u8) y5)⟩)], 2⟩)
theorem Y7s.step (S : T_Y7s) (F0 : T_Y7o) : ∀ v k, exR 12 Tryz.f12 4 Y7s.p [⟨Y7o.p, Y7o.g F0⟩] [] [] (Y7s.g S) v k = Y7s.g (Y7s.body S F0) v k := fun v k => by kernel_rfl
theorem Y7s.ok : okL 12 Tryz.f12 1 4 Y7s.p (Y7s.g (Y7s ROUNDS)) := loop2 (G := fun n => Y7s.g (Y7s n)) (fun n => Y7s.step (Y7s n) Y7o) (.cons Y7o.ok .nil) [] (by kernel_rfl) .nil (fun _ _ => rfl)
abbrev T_Y7t : Type := Bool → (Int → OB) → OB
noncomputable def Y7t.body : T_Y7t := fun b0 k1 =>
  (cond_ b0 (k1 1) (k1 0))
noncomputable def Y7t : T_Y7t := Y7t.body
def Y7t.p : FPat := fp 62 (pl (pd .bool) pz) pz
def Y7t.g (F : T_Y7t) (v : Y7t.p.T) (k : KR) : OB := F v.1.1 (fun y0 => k (.d ⟨(.int .i64), y0⟩) [])
theorem Y7t.eq : ∀ v k, exF Tryz.f62 Y7t.p [] [] [] v k = Y7t.g (Y7t.body) v k := fun v k => by kernel_rfl
theorem Y7t.ok : okF 1 Y7t.p (Y7t.g Y7t) := fn2 (Y7t.eq) Tryz.func62 (by kernel_rfl) .nil [] (by kernel_rfl) .nil
abbrev T_Y7u : Type := Tc9 → Int → (List Int) → ((List Int) → OB) → OB
noncomputable def Y7u.body (Y7u : T_Y7u) (Y7o : T_Y7o) (Y7t : T_Y7t) : T_Y7u := fun t0 n1 n2 k1 =>
  (cond_ (decide (n1 < (length t0 : Int))) (cond_ ((decide (0 ≤ n1)) && (decide (n1 < (length t0 : Int)))) (Y7o n2 (getD t0 (toNat n1) ZRu).1 2
 (fun n3 => (cond_ ((decide (0 ≤ n1)) && (decide (n1 < (length t0 : Int)))) (Y7o n3 (getD t0 (toNat n1) ZRu).2.1 2
 (fun n4 => (cond_ ((decide (0 ≤ n1)) && (decide (n1 < (length t0 : Int)))) (Y7o n4 (getD t0 (toNat n1) ZRu).2.2.1 2
 (fun n5 => (cond_ ((decide (0 ≤ n1)) && (decide (n1 < (length t0 : Int)))) (Y7o n5 (getD t0 (toNat n1) ZRu).2.2.2.2.1 2
 (fun n6 => (cond_ ((decide (0 ≤ n1)) && (decide (n1 < (length t0 : Int)))) (Y7t (getD t0 (toNat n1) ZRu).2.2.2.1
 (fun n7 => (Y7o n6 n7 1
 (fun n8 => (Y7u t0 (IntKind.wrap .i64 (n1 + 1)) n8 k1))))) none))) none))) none))) none))) none) (k1 n2))
noncomputable def Y7u : Nat → T_Y7u
  | 0 => fun _ _ _ _ => none
  | n + 1 => Y7u.body (Y7u n) Y7o Y7t
def Y7u.p : LPat := lp 2 57 [0, 1, 5] (ps (pr [1, 0]) (pl (pb 2 124 Ty13) (pl (pd (.int .i64)) pz))) (pl (po [1, 0] 5 1 (ed (.int .u8))) pz)
def Y7u.g (F : T_Y7u) (v : Y7u.p.T) (k : KE) : OB := F v.1.1 v.1.2.1 v.2.1 (fun y0 => k (.exit 0) ⟨fillS 57 [0] [(.ref [1, 0])], [([1, 0], ⟨5, 1, (.data (.int .u8) y0)⟩)], 2⟩)
theorem Y7u.step (S : T_Y7u) (F0 : T_Y7o) (F1 : T_Y7t) : ∀ v k, exR 36 Tryz.f36 0 Y7u.p [⟨Y7o.p, Y7o.g F0⟩, ⟨Y7t.p, Y7t.g F1⟩] [] [] (Y7u.g S) v k = Y7u.g (Y7u.body S F0 F1) v k := fun v k => by kernel_rfl
theorem Y7u.ok : okL 36 Tryz.f36 1 0 Y7u.p (Y7u.g (Y7u ROUNDS)) := loop2 (G := fun n => Y7u.g (Y7u n)) (fun n => Y7u.step (Y7u n) Y7o Y7t) (.cons Y7o.ok (.cons Y7t.ok .nil)) [] (by kernel_rfl) .nil (fun _ _ => rfl)
abbrev T_Y7v : Type := (List Int) → Tc9 → ((List Int) → OB) → OB
noncomputable def Y7v.body (Y7o : T_Y7o) (Y7u : T_Y7u) : T_Y7v := fun n0 t1 k1 =>
  (Y7o n0 (length t1 : Int) 2
 (fun n2 => (Y7u t1 0 n2
 (fun n3 => (k1 n3)))))
noncomputable def Y7v : T_Y7v := Y7v.body Y7o (Y7u ROUNDS)
def Y7v.p : FPat := fp 36 (pl (pb 1 5 (.int .u8)) (pl (pb 2 124 Ty13) pz)) pz
def Y7v.g (F : T_Y7v) (v : Y7v.p.T) (k : KR) : OB := F v.1.1 v.1.2.1 (fun y0 => k (.ref [1, 0]) [([1, 0], ⟨5, 1, (.data (.int .u8) y0)⟩)])
theorem Y7v.eq (F0 : T_Y7o) (L0 : T_Y7u) : ∀ v k, exF Tryz.f36 Y7v.p [⟨Y7o.p, Y7o.g F0⟩] [] [⟨0, Y7u.p, Y7u.g L0⟩] v k = Y7v.g (Y7v.body F0 L0) v k := fun v k => by kernel_rfl
theorem Y7v.ok : okF 2 Y7v.p (Y7v.g Y7v) := fn2 (Y7v.eq Y7o (Y7u ROUNDS)) Tryz.func36 (by kernel_rfl) (.cons Y7o.ok .nil) [0] (by kernel_rfl) (.cons Y7u.ok .nil)
abbrev T_Y7w : Type := (List Int) → Int → Int → Int → (Int → Int → OB) → OB
noncomputable def Y7w.body (Y7w : T_Y7w) : T_Y7w := fun n0 n1 n2 n3 k1 =>
  (cond_ (decide (n3 < (length n0 : Int))) (cond_ ((decide (0 ≤ n3)) && (decide (n3 < (length n0 : Int)))) (Y7w n0 (Int.tmod (IntKind.wrap .i64 (n1 + (IntKind.wrap .i64 (getD n0 (toNat n3) 0)))) 65521) (Int.tmod (IntKind.wrap .i64 (n2 + (Int.tmod (IntKind.wrap .i64 (n1 + (IntKind.wrap .i64 (getD n0 (toNat n3) 0)))) 65521))) 65521) (IntKind.wrap .i64 (n3 + 1)) k1) none) (k1 n1 n2))
noncomputable def Y7w : Nat → T_Y7w
  | 0 => fun _ _ _ _ _ => none
  | n + 1 => Y7w.body (Y7w n)
def Y7w.p : LPat := lp 2 28 [0, 3, 4, 5] (pl (pb 1 5 (.int .u8)) (pl (pd (.int .i64)) (pl (pd (.int .i64)) (pl (pd (.int .i64)) pz)))) pz
def Y7w.g (F : T_Y7w) (v : Y7w.p.T) (k : KE) : OB := F v.1.1 v.1.2.1 v.1.2.2.1 v.1.2.2.2.1 (fun y0 y1 => k (.exit 0) ⟨fillS 28 [3, 4] [(.d ⟨(.int .i64), y0⟩), (.d ⟨(.int .i64), y1⟩)], [], 2⟩)
theorem Y7w.step (S : T_Y7w) : ∀ v k, exR 37 Tryz.f37 0 Y7w.p [] [] [] (Y7w.g S) v k = Y7w.g (Y7w.body S) v k := fun v k => by kernel_rfl
theorem Y7w.ok : okL 37 Tryz.f37 0 0 Y7w.p (Y7w.g (Y7w ROUNDS)) := loop2 (G := fun n => Y7w.g (Y7w n)) (fun n => Y7w.step (Y7w n)) .nil [] (by kernel_rfl) .nil (fun _ _ => rfl)
abbrev T_Y7x : Type := (List Int) → (Int → OB) → OB
noncomputable def Y7x.body (Y7w : T_Y7w) : T_Y7x := fun n0 k1 =>
  (Y7w n0 1 0 0
 (fun n1 n2 => (k1 (IntKind.wrap .i64 ((IntKind.wrap .i64 (n2 * 65536)) + n1)))))
noncomputable def Y7x : T_Y7x := Y7x.body (Y7w ROUNDS)
def Y7x.p : FPat := fp 37 (pl (pb 1 5 (.int .u8)) pz) pz
def Y7x.g (F : T_Y7x) (v : Y7x.p.T) (k : KR) : OB := F v.1.1 (fun y0 => k (.d ⟨(.int .i64), y0⟩) [])
theorem Y7x.eq (L0 : T_Y7w) : ∀ v k, exF Tryz.f37 Y7x.p [] [] [⟨0, Y7w.p, Y7w.g L0⟩] v k = Y7x.g (Y7x.body L0) v k := fun v k => by kernel_rfl
theorem Y7x.ok : okF 1 Y7x.p (Y7x.g Y7x) := fn2 (Y7x.eq (Y7w ROUNDS)) Tryz.func37 (by kernel_rfl) .nil [0] (by kernel_rfl) (.cons Y7w.ok .nil)
abbrev T_Y7y : Type := (List Int) → ((List Int) → OB) → OB
noncomputable def Y7y.body (Y7x : T_Y7x) (Y7o : T_Y7o) : T_Y7y := fun n0 k1 =>
  (Y7x n0
 (fun n1 => (Y7o n0 n1 4
 (fun n2 => (k1 n2)))))
noncomputable def Y7y : T_Y7y := Y7y.body Y7x Y7o
def Y7y.p : FPat := fp 13 (pl (pb 1 5 (.int .u8)) pz) pz
def Y7y.g (F : T_Y7y) (v : Y7y.p.T) (k : KR) : OB := F v.1.1 (fun y0 => k (.ref [1, 0]) [([1, 0], ⟨5, 1, (.data (.int .u8) y0)⟩)])
theorem Y7y.eq (F0 : T_Y7x) (F1 : T_Y7o) : ∀ v k, exF Tryz.f13 Y7y.p [⟨Y7x.p, Y7x.g F0⟩, ⟨Y7o.p, Y7o.g F1⟩] [] [] v k = Y7y.g (Y7y.body F0 F1) v k := fun v k => by kernel_rfl
theorem Y7y.ok : okF 2 Y7y.p (Y7y.g Y7y) := fn2 (Y7y.eq Y7x Y7o) Tryz.func13 (by kernel_rfl) (.cons Y7x.ok (.cons Y7o.ok .nil)) [] (by kernel_rfl) .nil
abbrev T_Y7z : Type := Tc8 → (List Int) → Tc10 → Tc9 → Int → ((List Int) → OB) → OB
noncomputable def Y7z.body (Y7o : T_Y7o) (Y7v : T_Y7v) (Y7y : T_Y7y) (Y7q : T_Y7q) (Y7r : T_Y7r) (Y7s : T_Y7s) : T_Y7z := fun t0 n1 t2 t3 n4 k1 =>
  (Y7o [83, 72, 73, 49] n4 2
 (fun n5 => (Y7o n5 (length t0 : Int) 2
 (fun n6 => (Y7q 0 t0 n1 t2 t3 n4 n6
 (fun t7 n8 t9 ta nb nc => (Y7o nc (length n8 : Int) 2
 (fun nd => (Y7r 0 t7 n8 t9 ta nb nd
 (fun te nf tg th ni nj => (Y7o nj (length tg : Int) 2
 (fun nk => (Y7s 0 te nf tg th ni nk
 (fun tl nm tn to np nq => (Y7v nq to
 (fun nr => (Y7y nr
 (fun ns => (k1 ns)))))))))))))))))))
noncomputable def Y7z : T_Y7z := Y7z.body Y7o Y7v Y7y (Y7q ROUNDS) (Y7r ROUNDS) (Y7s ROUNDS)
def Y7z.p : FPat := fp 12 (pl (pa (pl (pb 1 69 Ty15) (pl (pb 2 2 (.int .i64)) (pl (pb 3 72 Ty18) (pl (pb 4 124 Ty13) (pl (pd (.int .i64)) pz)))))) pz) pz
def Y7z.g (F : T_Y7z) (v : Y7z.p.T) (k : KR) : OB := F v.1.1.1 v.1.1.2.1 v.1.1.2.2.1 v.1.1.2.2.2.1 v.1.1.2.2.2.2.1 (fun y0 => k (.ref [1, 0]) [([1, 0], ⟨5, 1, (.data (.int .u8) y0)⟩)])
theorem Y7z.eq (F0 : T_Y7o) (F1 : T_Y7v) (F2 : T_Y7y) (L0 : T_Y7q) (L1 : T_Y7r) (L2 : T_Y7s) : ∀ v k, exF Tryz.f12 Y7z.p [⟨Y7o.p, Y7o.g F0⟩, ⟨Y7v.p, Y7v.g F1⟩, ⟨Y7y.p, Y7y.g F2⟩] [] [⟨0, Y7q.p, Y7q.g L0⟩, ⟨2, Y7r.p, Y7r.g L1⟩, ⟨4, Y7s.p, Y7s.g L2⟩] v k = Y7z.g (Y7z.body F0 F1 F2 L0 L1 L2) v k := fun v k => by kernel_rfl
theorem Y7z.ok : okF 3 Y7z.p (Y7z.g Y7z) := fn2 (Y7z.eq Y7o Y7v Y7y (Y7q ROUNDS) (Y7r ROUNDS) (Y7s ROUNDS)) Tryz.func12 (by kernel_rfl) (.cons Y7o.ok (.cons Y7v.ok (.cons Y7y.ok .nil))) [0, 2, 4] (by kernel_rfl) (.cons Y7q.ok (.cons Y7r.ok (.cons Y7s.ok .nil)))
abbrev T_Y80 : Type := Tc8 → Int → (OB) → OB
noncomputable def Y80.body (Y80 : T_Y80) : T_Y80 := fun t0 n1 k1 =>
  (cond_ (decide (n1 < (length t0 : Int))) (cond_ ((decide (0 ≤ n1)) && (decide (n1 < (length t0 : Int)))) none none) (k1))
noncomputable def Y80 : Nat → T_Y80
  | 0 => fun _ _ _ => none
  | n + 1 => Y80.body (Y80 n)
def Y80.p : LPat := lp 2 26 [0, 1, 5] (pl (pb 0 69 Ty15) (ps (pk 0) (pl (pd (.int .i64)) pz))) pz
def Y80.g (F : T_Y80) (v : Y80.p.T) (k : KE) : OB := F v.1.1 v.1.2.1 (k (.exit 0) ⟨fillS 26 [] [], [], 2⟩)
theorem Y80.step (S : T_Y80) : ∀ v k, exR 30 Tryz.f30 0 Y80.p [] [] [] (Y80.g S) v k = Y80.g (Y80.body S) v k := fun v k => by kernel_rfl
theorem Y80.ok : okL 30 Tryz.f30 0 0 Y80.p (Y80.g (Y80 ROUNDS)) := loop2 (G := fun n => Y80.g (Y80 n)) (fun n => Y80.step (Y80 n)) .nil [] (by kernel_rfl) .nil (fun _ _ => rfl)
abbrev T_Y81 : Type := Tc8 → (Bool → OB) → OB
noncomputable def Y81.body (Y80 : T_Y80) : T_Y81 := fun t0 k1 =>
  (cond_ ((length t0 : Int) != 0) (k1 false) (Y80 t0 0
  (k1 true)))
noncomputable def Y81 : T_Y81 := Y81.body (Y80 ROUNDS)
def Y81.p : FPat := fp 30 (pl (pb 0 69 Ty15) (ps (pk 0) pz)) pz
def Y81.g (F : T_Y81) (v : Y81.p.T) (k : KR) : OB := F v.1.1 (fun y0 => k (.d ⟨.bool, y0⟩) [])
theorem Y81.eq (L0 : T_Y80) : ∀ v k, exF Tryz.f30 Y81.p [] [] [⟨0, Y80.p, Y80.g L0⟩] v k = Y81.g (Y81.body L0) v k := fun v k => by kernel_rfl
theorem Y81.ok : okF 1 Y81.p (Y81.g Y81) := fn2 (Y81.eq (Y80 ROUNDS)) Tryz.func30 (by kernel_rfl) .nil [0] (by kernel_rfl) (.cons Y80.ok .nil)
abbrev T_Y82 : Type := (List Int) → Int → (OB) → OB
noncomputable def Y82.body (Y82 : T_Y82) : T_Y82 := fun n0 n1 k1 =>
  (cond_ (decide (n1 < (length n0 : Int))) (cond_ ((decide (0 ≤ n1)) && (decide (n1 < (length n0 : Int)))) none none) (k1))
noncomputable def Y82 : Nat → T_Y82
  | 0 => fun _ _ _ => none
  | n + 1 => Y82.body (Y82 n)
def Y82.p : LPat := lp 2 26 [0, 1, 5] (pl (pb 0 2 (.int .i64)) (ps (pk 0) (pl (pd (.int .i64)) pz))) pz
def Y82.g (F : T_Y82) (v : Y82.p.T) (k : KE) : OB := F v.1.1 v.1.2.1 (k (.exit 0) ⟨fillS 26 [] [], [], 2⟩)
theorem Y82.step (S : T_Y82) : ∀ v k, exR 31 Tryz.f31 0 Y82.p [] [] [] (Y82.g S) v k = Y82.g (Y82.body S) v k := fun v k => by kernel_rfl
theorem Y82.ok : okL 31 Tryz.f31 0 0 Y82.p (Y82.g (Y82 ROUNDS)) := loop2 (G := fun n => Y82.g (Y82 n)) (fun n => Y82.step (Y82 n)) .nil [] (by kernel_rfl) .nil (fun _ _ => rfl)
abbrev T_Y83 : Type := (List Int) → (Bool → OB) → OB
noncomputable def Y83.body (Y82 : T_Y82) : T_Y83 := fun n0 k1 =>
  (cond_ ((length n0 : Int) != 0) (k1 false) (Y82 n0 0
  (k1 true)))
noncomputable def Y83 : T_Y83 := Y83.body (Y82 ROUNDS)
def Y83.p : FPat := fp 31 (pl (pb 0 2 (.int .i64)) (ps (pk 0) pz)) pz
def Y83.g (F : T_Y83) (v : Y83.p.T) (k : KR) : OB := F v.1.1 (fun y0 => k (.d ⟨.bool, y0⟩) [])
theorem Y83.eq (L0 : T_Y82) : ∀ v k, exF Tryz.f31 Y83.p [] [] [⟨0, Y82.p, Y82.g L0⟩] v k = Y83.g (Y83.body L0) v k := fun v k => by kernel_rfl
theorem Y83.ok : okF 1 Y83.p (Y83.g Y83) := fn2 (Y83.eq (Y82 ROUNDS)) Tryz.func31 (by kernel_rfl) .nil [0] (by kernel_rfl) (.cons Y82.ok .nil)
abbrev T_Y84 : Type := Tc10 → Int → (OB) → OB
noncomputable def Y84.body (Y84 : T_Y84) : T_Y84 := fun t0 n1 k1 =>
  (cond_ (decide (n1 < (length t0 : Int))) (cond_ ((decide (0 ≤ n1)) && (decide (n1 < (length t0 : Int)))) none none) (k1))
noncomputable def Y84 : Nat → T_Y84
  | 0 => fun _ _ _ => none
  | n + 1 => Y84.body (Y84 n)
def Y84.p : LPat := lp 2 26 [0, 1, 5] (pl (pb 0 72 Ty18) (ps (pk 0) (pl (pd (.int .i64)) pz))) pz
def Y84.g (F : T_Y84) (v : Y84.p.T) (k : KE) : OB := F v.1.1 v.1.2.1 (k (.exit 0) ⟨fillS 26 [] [], [], 2⟩)
theorem Y84.step (S : T_Y84) : ∀ v k, exR 32 Tryz.f32 0 Y84.p [] [] [] (Y84.g S) v k = Y84.g (Y84.body S) v k := fun v k => by kernel_rfl
theorem Y84.ok : okL 32 Tryz.f32 0 0 Y84.p (Y84.g (Y84 ROUNDS)) := loop2 (G := fun n => Y84.g (Y84 n)) (fun n => Y84.step (Y84 n)) .nil [] (by kernel_rfl) .nil (fun _ _ => rfl)
abbrev T_Y85 : Type := Tc10 → (Bool → OB) → OB
noncomputable def Y85.body (Y84 : T_Y84) : T_Y85 := fun t0 k1 =>
  (cond_ ((length t0 : Int) != 0) (k1 false) (Y84 t0 0
  (k1 true)))
noncomputable def Y85 : T_Y85 := Y85.body (Y84 ROUNDS)
def Y85.p : FPat := fp 32 (pl (pb 0 72 Ty18) (ps (pk 0) pz)) pz
def Y85.g (F : T_Y85) (v : Y85.p.T) (k : KR) : OB := F v.1.1 (fun y0 => k (.d ⟨.bool, y0⟩) [])
theorem Y85.eq (L0 : T_Y84) : ∀ v k, exF Tryz.f32 Y85.p [] [] [⟨0, Y84.p, Y84.g L0⟩] v k = Y85.g (Y85.body L0) v k := fun v k => by kernel_rfl
theorem Y85.ok : okF 1 Y85.p (Y85.g Y85) := fn2 (Y85.eq (Y84 ROUNDS)) Tryz.func32 (by kernel_rfl) .nil [0] (by kernel_rfl) (.cons Y84.ok .nil)
abbrev T_Y86 : Type := Tc9 → Int → (OB) → OB
noncomputable def Y86.body (Y86 : T_Y86) : T_Y86 := fun t0 n1 k1 =>
  (cond_ (decide (n1 < (length t0 : Int))) (cond_ ((decide (0 ≤ n1)) && (decide (n1 < (length t0 : Int)))) none none) (k1))
noncomputable def Y86 : Nat → T_Y86
  | 0 => fun _ _ _ => none
  | n + 1 => Y86.body (Y86 n)
def Y86.p : LPat := lp 2 26 [0, 1, 5] (pl (pb 0 124 Ty13) (ps (pk 0) (pl (pd (.int .i64)) pz))) pz
def Y86.g (F : T_Y86) (v : Y86.p.T) (k : KE) : OB := F v.1.1 v.1.2.1 (k (.exit 0) ⟨fillS 26 [] [], [], 2⟩)
theorem Y86.step (S : T_Y86) : ∀ v k, exR 33 Tryz.f33 0 Y86.p [] [] [] (Y86.g S) v k = Y86.g (Y86.body S) v k := fun v k => by kernel_rfl
theorem Y86.ok : okL 33 Tryz.f33 0 0 Y86.p (Y86.g (Y86 ROUNDS)) := loop2 (G := fun n => Y86.g (Y86 n)) (fun n => Y86.step (Y86 n)) .nil [] (by kernel_rfl) .nil (fun _ _ => rfl)
abbrev T_Y87 : Type := Tc9 → (Bool → OB) → OB
noncomputable def Y87.body (Y86 : T_Y86) : T_Y87 := fun t0 k1 =>
  (cond_ ((length t0 : Int) != 0) (k1 false) (Y86 t0 0
  (k1 true)))
noncomputable def Y87 : T_Y87 := Y87.body (Y86 ROUNDS)
def Y87.p : FPat := fp 33 (pl (pb 0 124 Ty13) (ps (pk 0) pz)) pz
def Y87.g (F : T_Y87) (v : Y87.p.T) (k : KR) : OB := F v.1.1 (fun y0 => k (.d ⟨.bool, y0⟩) [])
theorem Y87.eq (L0 : T_Y86) : ∀ v k, exF Tryz.f33 Y87.p [] [] [⟨0, Y86.p, Y86.g L0⟩] v k = Y87.g (Y87.body L0) v k := fun v k => by kernel_rfl
theorem Y87.ok : okF 1 Y87.p (Y87.g Y87) := fn2 (Y87.eq (Y86 ROUNDS)) Tryz.func33 (by kernel_rfl) .nil [0] (by kernel_rfl) (.cons Y86.ok .nil)
abbrev T_Y88 : Type := Tc18 → Int → (Bool → OB) → OB
noncomputable def Y88.body (Y81 : T_Y81) (Y83 : T_Y83) (Y85 : T_Y85) (Y87 : T_Y87) : T_Y88 := fun t0 n1 k1 =>
  (Y81 t0.1
 (fun b2 => (cond_ b2 (Y83 t0.2.1
 (fun b3 => (cond_ b3 (Y85 t0.2.2.1
 (fun b4 => (cond_ b4 (Y87 t0.2.2.2.1
 (fun b5 => (cond_ b5 (k1 (t0.2.2.2.2.1 == n1)) (k1 false)))) (k1 false)))) (k1 false)))) (k1 false))))
noncomputable def Y88 : T_Y88 := Y88.body Y81 Y83 Y85 Y87
def Y88.p : FPat := fp 11 (pl (pd Ty26) (pl (pa (ps (pk 0) (ps (pk 0) (ps (pk 0) (ps (pk 0) (pl (pd (.int .i64)) pz)))))) pz)) pz
def Y88.g (F : T_Y88) (v : Y88.p.T) (k : KR) : OB := F v.1.1 v.1.2.1.1 (fun y0 => k (.d ⟨.bool, y0⟩) [])
theorem Y88.eq (F0 : T_Y81) (F1 : T_Y83) (F2 : T_Y85) (F3 : T_Y87) : ∀ v k, exF Tryz.f11 Y88.p [⟨Y81.p, Y81.g F0⟩, ⟨Y83.p, Y83.g F1⟩, ⟨Y85.p, Y85.g F2⟩, ⟨Y87.p, Y87.g F3⟩] [] [] v k = Y88.g (Y88.body F0 F1 F2 F3) v k := fun v k => by kernel_rfl
theorem Y88.ok : okF 2 Y88.p (Y88.g Y88) := fn2 (Y88.eq Y81 Y83 Y85 Y87) Tryz.func11 (by kernel_rfl) (.cons Y81.ok (.cons Y83.ok (.cons Y85.ok (.cons Y87.ok .nil)))) [] (by kernel_rfl) .nil
abbrev T_law35_PackShort : Type := Tc22 → Tc2 → Int → (Bool → OB) → OB
noncomputable def law35_PackShort.body (Y37 : T_Y37) (Y7a : T_Y7a) (Y7l : T_Y7l) (Y7z : T_Y7z) (Y7y : T_Y7y) (Y6g : T_Y6g) (Y88 : T_Y88) : T_law35_PackShort := fun t0 t1 n2 k1 =>
  (Y37 t0 t1
 (fun t3 b4 => (cond_ (! b4) (Y7a
 (fun b5 => (k1 b5))) (Y7l (t3.1, (t3.2.1, (t3.2.2.1, ()))) t1
 (fun n6 t7 n8 t9 ta => (Y7z t7 n8 t9 ta n6
 (fun nb => (cond_ (! (decide (n2 < 0))) (cond_ (decide (n2 ≥ (IntKind.wrap .i64 ((length nb : Int) - 4)))) (Y7a
 (fun bc => (k1 bc))) (cond_ ((true && (decide (0 ≤ n2))) && (decide (n2 ≤ (length nb : Int)))) (Y7y (List.take (toNat (n2 - 0)) (List.drop (0 : Nat) nb))
 (fun nd => (Y6g nd
 (fun te nf => (cond_ (nf == 5) (Y88 (te.1, (te.2.1, (te.2.2.1, (te.2.2.2.1, (te.2.2.2.2.1, ()))))) 0
 (fun bg => (cond_ bg (Y7a
 (fun bh => (k1 bh))) (k1 false)))) (k1 false)))))) none)) (Y7a
 (fun bi => (k1 bi)))))))))))
noncomputable def law35_PackShort : T_law35_PackShort := law35_PackShort.body Y37 Y7a Y7l Y7z Y7y Y6g Y88
def law35_PackShort.p : FPat := fp 4 (pl (pb 0 87 Ty29) (pl (pd Ty8) (pl (pd (.int .i64)) pz))) pz
def law35_PackShort.g (F : T_law35_PackShort) (v : law35_PackShort.p.T) (k : KR) : OB := F v.1.1 v.1.2.1 v.1.2.2.1 (fun y0 => k (.d ⟨.bool, y0⟩) [])
theorem law35_PackShort.eq (F0 : T_Y37) (F1 : T_Y7a) (F2 : T_Y7l) (F3 : T_Y7z) (F4 : T_Y7y) (F5 : T_Y6g) (F6 : T_Y88) : ∀ v k, exF Tryz.f4 law35_PackShort.p [⟨Y37.p, Y37.g F0⟩, ⟨Y7a.p, Y7a.g F1⟩, ⟨Y7l.p, Y7l.g F2⟩, ⟨Y7z.p, Y7z.g F3⟩, ⟨Y7y.p, Y7y.g F4⟩, ⟨Y6g.p, Y6g.g F5⟩, ⟨Y88.p, Y88.g F6⟩] [] [] v k = law35_PackShort.g (law35_PackShort.body F0 F1 F2 F3 F4 F5 F6) v k := fun v k => by kernel_rfl
attribute [local irreducible] Y7a
theorem law35_PackShort.ok : okF 13 law35_PackShort.p (law35_PackShort.g law35_PackShort) := fn2 (law35_PackShort.eq Y37 Y7a Y7l Y7z Y7y Y6g Y88) Tryz.func4 (by kernel_rfl) (.cons Y37.ok (.cons Y7a.ok (.cons Y7l.ok (.cons Y7z.ok (.cons Y7y.ok (.cons Y6g.ok (.cons Y88.ok .nil))))))) [] (by kernel_rfl) .nil
-- LAWROW law35_PackShort | 4 | 13 | (.sl 87 Ty29) ¦ Ty8 ¦ (.int .i64)
end Go.Proofs.YthlclmhicgefpaaGreat.s
