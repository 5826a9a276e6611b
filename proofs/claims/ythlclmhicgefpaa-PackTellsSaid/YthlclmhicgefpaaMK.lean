/- What the functions come to that K reaches, as plain functions; written by a program of this work, each told by Lean. -/
import Derived.Test.YthlclmhicgefpaaMK1
namespace Go.Proofs.Ythlclmhicgefpaa.k
open Go.AX
set_option linter.unusedVariables false
set_option maxRecDepth 100000
set_option maxHeartbeats 4000000
/-- function 77: the loop in block 0 -/
abbrev T_image_gaps_L0 : Type := Int → Tc9 → Int → Int → Tc7 → (List Int) → Tc9 → Tc8 → Int → (Bool → Option Bool) → (Int → Tc7 → (List Int) → Tc9 → Tc8 → Int → Option Bool) → Option Bool
noncomputable def image_gaps_L0.body (image_gaps_L0 : T_image_gaps_L0) : T_image_gaps_L0 := fun n1492 ts1493 n1494 n1495 ts1496 ns1497 ts1498 ts1499 n1500 k1 k2 =>
  (cond_ (decide (n1495 < n1494)) (cond_ ((decide ((0 : Int) ≤ n1495)) && (decide (n1495 < (List.length ts1493 : Int)))) (cond_ (! ((List.getD ts1493 (Int.toNat n1495) (0, (0, (0, (0, (0, (0, ()))))))).2.2.1 != n1492)) (cond_ (! (decide ((List.getD ts1493 (Int.toNat n1495) (0, (0, (0, (0, (0, (0, ()))))))).2.2.2.1 ≤ (List.getD ts1493 (Int.toNat n1495) (0, (0, (0, (0, (0, (0, ()))))))).2.2.1))) (cond_ (! (decide ((List.getD ts1493 (Int.toNat n1495) (0, (0, (0, (0, (0, (0, ()))))))).2.2.2.1 > (List.getD ts1493 (Int.toNat n1495) (0, (0, (0, (0, (0, (0, ()))))))).2.2.2.2.1))) (cond_ (decide ((List.getD ts1493 (Int.toNat n1495) (0, (0, (0, (0, (0, (0, ()))))))).2.2.2.2.2.1 < (0 : Int))) (k1 true) (image_gaps_L0 (List.getD ts1493 (Int.toNat n1495) (0, (0, (0, (0, (0, (0, ()))))))).2.2.2.2.1 ts1493 n1494 (IntKind.wrap .i64 (n1495 + (1 : Int))) ts1496 ns1497 ts1498 ts1499 n1500 k1 k2)) (k1 true)) (k1 true)) (k1 true)) none) (k2 n1492 ts1496 ns1497 ts1498 ts1499 n1500))
noncomputable def image_gaps_L0 : Nat → T_image_gaps_L0
  | 0 => fun _ _ _ _ _ _ _ _ _ _ _ => none
  | n + 1 => image_gaps_L0.body (image_gaps_L0 n)
def image_gaps_L0.p : LPat := lp 2 44 [1, 3, 7, 8, 9] (ps (pq [1, 0] 0 0) (pl (pd (.int .i64)) (pl (pb 3 58 Ty15) (pl (pd (.int .i64)) (pl (pd (.int .i64)) pz))))) (pl (po [1, 0] 27 5 (em (pl (pa (pl (pb 1 55 Ty12) (pl (pb 2 2 (.int .i64)) (pl (pb 3 58 Ty15) (pl (pb 4 101 Ty11) (pl (pd (.int .i64)) pz)))))) pz))) pz)
def image_gaps_L0.g (F : T_image_gaps_L0) (v : image_gaps_L0.p.T) (k : KE) : Option Bool := F v.1.1 v.1.2.1 v.1.2.2.1 v.1.2.2.2.1 v.2.1.1.1 v.2.1.1.2.1 v.2.1.1.2.2.1 v.2.1.1.2.2.2.1 v.2.1.1.2.2.2.2.1 (fun y0 => k .ret ⟨fillS 44 [2] [(.d ⟨.bool, y0⟩)], [], 2⟩) (fun y0 y1 y2 y3 y4 y5 => k (.exit 0) ⟨fillS 44 [1, 3] [(.ptr [1, 0] 0 0), (.d ⟨(.int .i64), y0⟩)], [([1, 0], ⟨27, 5, (.mix [(.agg [(.bv 1 55 Ty12 y1), (.bv 2 2 (.int .i64) y2), (.bv 3 58 Ty15 y3), (.bv 4 101 Ty11 y4), (.d ⟨(.int .i64), y5⟩)])])⟩)], 2⟩)
theorem image_gaps_L0.step (S : T_image_gaps_L0) : ∀ v k, exR 77 Try.f77 0 image_gaps_L0.p [] [] [] (image_gaps_L0.g S) v k = image_gaps_L0.g (image_gaps_L0.body S) v k := fun v k => by kernel_rfl
theorem image_gaps_L0.ok : okL 77 Try.f77 0 0 image_gaps_L0.p (image_gaps_L0.g (image_gaps_L0 ROUNDS)) := loop2 (G := fun n => image_gaps_L0.g (image_gaps_L0 n)) (fun n => image_gaps_L0.step (image_gaps_L0 n)) .nil [] (by kernel_rfl) .nil (fun _ _ => rfl)
/-- function 77: sheerleg/image.gaps -/
abbrev T_image_gaps : Type := Tc7 → (List Int) → Tc9 → Tc8 → Int → (Bool → Option Bool) → Option Bool
noncomputable def image_gaps.body (image_gaps_L0 : T_image_gaps_L0) : T_image_gaps := fun ts1487 ns1488 ts1489 ts1490 n1491 k1 =>
  (image_gaps_L0 (2 : Int) ts1489 (List.length ts1489 : Int) (0 : Int) ts1487 ns1488 ts1489 ts1490 n1491
  (fun b1501 => (k1 b1501))
  (fun n1502 ts1503 ns1504 ts1505 ts1506 n1507 => (k1 (n1502 != (List.length ts1503 : Int)))))
noncomputable def image_gaps : T_image_gaps := image_gaps.body (image_gaps_L0 ROUNDS)
def image_gaps.p : FPat := fp 77 (pl (pa (pl (pb 1 55 Ty12) (pl (pb 2 2 (.int .i64)) (pl (pb 3 58 Ty15) (pl (pb 4 101 Ty11) (pl (pd (.int .i64)) pz)))))) pz) pz
def image_gaps.g (F : T_image_gaps) (v : image_gaps.p.T) (k : KR) : Option Bool := F v.1.1.1 v.1.1.2.1 v.1.1.2.2.1 v.1.1.2.2.2.1 v.1.1.2.2.2.2.1 (fun y0 => k (.d ⟨.bool, y0⟩) [])
theorem image_gaps.eq (L0 : T_image_gaps_L0) : ∀ v k, exF Try.f77 image_gaps.p [] [] [⟨0, image_gaps_L0.p, image_gaps_L0.g L0⟩] v k = image_gaps.g (image_gaps.body L0) v k := fun v k => by kernel_rfl
theorem image_gaps.ok : okF 1 image_gaps.p (image_gaps.g image_gaps) := fn2 (image_gaps.eq (image_gaps_L0 ROUNDS)) Try.func77 (by kernel_rfl) .nil [0] (by kernel_rfl) (.cons image_gaps_L0.ok .nil)
/-- function 76: sheerleg/image.Check$3 -/
abbrev T_image_Checkfn3 : Type := Tc7 → (List Int) → Tc9 → Tc8 → Int → (Bool → Tc7 → (List Int) → Tc9 → Tc8 → Int → Option Bool) → Option Bool
noncomputable def image_Checkfn3.body (image_gaps : T_image_gaps) : T_image_Checkfn3 := fun ts1482 ns1483 ts1484 ts1485 n1486 k1 =>
  (image_gaps ts1482 ns1483 ts1484 ts1485 n1486
  (fun b1508 => (k1 b1508 ts1482 ns1483 ts1484 ts1485 n1486)))
noncomputable def image_Checkfn3 : T_image_Checkfn3 := image_Checkfn3.body image_gaps
def image_Checkfn3.p : FPat := fp 76 (ps (pq [0, 0] 0 0) pz) (pl (po [0, 0] 27 5 (em (pl (pa (pl (pb 1 55 Ty12) (pl (pb 2 2 (.int .i64)) (pl (pb 3 58 Ty15) (pl (pb 4 101 Ty11) (pl (pd (.int .i64)) pz)))))) pz))) pz)
def image_Checkfn3.g (F : T_image_Checkfn3) (v : image_Checkfn3.p.T) (k : KR) : Option Bool := F v.2.1.1.1 v.2.1.1.2.1 v.2.1.1.2.2.1 v.2.1.1.2.2.2.1 v.2.1.1.2.2.2.2.1 (fun y0 y1 y2 y3 y4 y5 => k (.d ⟨.bool, y0⟩) [([0, 0], ⟨27, 5, (.mix [(.agg [(.bv 1 55 Ty12 y1), (.bv 2 2 (.int .i64) y2), (.bv 3 58 Ty15 y3), (.bv 4 101 Ty11 y4), (.d ⟨(.int .i64), y5⟩)])])⟩)])
theorem image_Checkfn3.eq (F0 : T_image_gaps) : ∀ v k, exF Try.f76 image_Checkfn3.p [⟨image_gaps.p, image_gaps.g F0⟩] [] [] v k = image_Checkfn3.g (image_Checkfn3.body F0) v k := fun v k => by kernel_rfl
theorem image_Checkfn3.ok : okF 2 image_Checkfn3.p (image_Checkfn3.g image_Checkfn3) := fn2 (image_Checkfn3.eq image_gaps) Try.func76 (by kernel_rfl) (.cons image_gaps.ok .nil) [] (by kernel_rfl) .nil
/-- function 97: sheerleg/image.look$1 -/
abbrev T_image_lookfn1v2 : Type := Tc7 → (List Int) → Tc9 → Tc8 → Int → Int → (Int → Tc7 → (List Int) → Tc9 → Tc8 → Int → Int → Option Bool) → Option Bool
noncomputable def image_lookfn1v2.body (image_Checkfn3 : T_image_Checkfn3) : T_image_lookfn1v2 := fun ts1476 ns1477 ts1478 ts1479 n1480 n1481 k1 =>
  (image_Checkfn3 ts1476 ns1477 ts1478 ts1479 n1480
  (fun b1509 ts1510 ns1511 ts1512 ts1513 n1514 => (cond_ b1509 (k1 n1481 ts1510 ns1511 ts1512 ts1513 n1514 n1481) (k1 (0 : Int) ts1510 ns1511 ts1512 ts1513 n1514 n1481))))
noncomputable def image_lookfn1v2 : T_image_lookfn1v2 := image_lookfn1v2.body image_Checkfn3
def image_lookfn1v2.p : FPat := fp 97 (ps (pq [0, 0] 0 0) (ps (pq [0, 2] 0 0) pz)) (pl (po [0, 0] 30 1 (em (pl (pf 76 pz (ps (pq [0, 1] 0 0) pz)) pz))) (pl (po [0, 1] 27 5 (em (pl (pa (pl (pb 1 55 Ty12) (pl (pb 2 2 (.int .i64)) (pl (pb 3 58 Ty15) (pl (pb 4 101 Ty11) (pl (pd (.int .i64)) pz)))))) pz))) (pl (po [0, 2] 31 1 (es (.int .i64) (pl eh pz))) pz)))
def image_lookfn1v2.g (F : T_image_lookfn1v2) (v : image_lookfn1v2.p.T) (k : KR) : Option Bool := F v.2.2.1.1.1 v.2.2.1.1.2.1 v.2.2.1.1.2.2.1 v.2.2.1.1.2.2.2.1 v.2.2.1.1.2.2.2.2.1 v.2.2.2.1.1 (fun y0 y1 y2 y3 y4 y5 y6 => k (.d ⟨(.int .i64), y0⟩) [([0, 0], ⟨30, 1, (.mix [(.fn (.func 76) [] [(.ptr [0, 1] 0 0)])])⟩), ([0, 1], ⟨27, 5, (.mix [(.agg [(.bv 1 55 Ty12 y1), (.bv 2 2 (.int .i64) y2), (.bv 3 58 Ty15 y3), (.bv 4 101 Ty11 y4), (.d ⟨(.int .i64), y5⟩)])])⟩), ([0, 2], ⟨31, 1, (.data (.int .i64) [y6])⟩)])
theorem image_lookfn1v2.eq (F0 : T_image_Checkfn3) : ∀ v k, exF Try.f97 image_lookfn1v2.p [⟨image_Checkfn3.p, image_Checkfn3.g F0⟩] [] [] v k = image_lookfn1v2.g (image_lookfn1v2.body F0) v k := fun v k => by kernel_rfl
theorem image_lookfn1v2.ok : okF 3 image_lookfn1v2.p (image_lookfn1v2.g image_lookfn1v2) := fn2 (image_lookfn1v2.eq image_Checkfn3) Try.func97 (by kernel_rfl) (.cons image_Checkfn3.ok .nil) [] (by kernel_rfl) .nil
/-- function 80: sheerleg/image.odd -/
abbrev T_image_odd : Type := Tc7 → (List Int) → Tc9 → Tc8 → Int → (Tc7 → (List Int) → Tc9 → Tc8 → Int → Option Bool) → Option Bool
noncomputable def image_odd.body : T_image_odd := fun ts1533 ns1534 ts1535 ts1536 n1537 k1 =>
  (k1 ts1533 ns1534 ts1535 ts1536 n1537)
noncomputable def image_odd : T_image_odd := image_odd.body
def image_odd.p : FPat := fp 80 (pl (pa (pl (pb 1 55 Ty12) (pl (pb 2 2 (.int .i64)) (pl (pb 3 58 Ty15) (pl (pb 4 101 Ty11) (pl (pd (.int .i64)) pz)))))) pz) pz
def image_odd.g (F : T_image_odd) (v : image_odd.p.T) (k : KR) : Option Bool := F v.1.1.1 v.1.1.2.1 v.1.1.2.2.1 v.1.1.2.2.2.1 v.1.1.2.2.2.2.1 (fun y0 y1 y2 y3 y4 => k (.fn (.func 99) [] [(.ptr [1, 0] 0 0)]) [([1, 0], ⟨27, 5, (.mix [(.agg [(.bv 1 55 Ty12 y0), (.bv 2 2 (.int .i64) y1), (.bv 3 58 Ty15 y2), (.bv 4 101 Ty11 y3), (.d ⟨(.int .i64), y4⟩)])])⟩)])
theorem image_odd.eq : ∀ v k, exF Try.f80 image_odd.p [] [] [] v k = image_odd.g (image_odd.body) v k := fun v k => by kernel_rfl
theorem image_odd.ok : okF 1 image_odd.p (image_odd.g image_odd) := fn2 (image_odd.eq) Try.func80 (by kernel_rfl) .nil [] (by kernel_rfl) .nil
/-- function 99: sheerleg/image.odd$1 -/
abbrev T_image_oddfn1 : Type := Tc6 → Tc7 → (List Int) → Tc9 → Tc8 → Int → (Bool → Tc7 → (List Int) → Tc9 → Tc8 → Int → Option Bool) → Option Bool
noncomputable def image_oddfn1.body : T_image_oddfn1 := fun t1563 ts1564 ns1565 ts1566 ts1567 n1568 k1 =>
  (cond_ (((decide ((0 : Int) ≤ t1563.2.2.1)) && (decide (t1563.2.2.1 ≤ t1563.2.2.2.1))) && (decide (t1563.2.2.2.1 ≤ (List.length ts1564 : Int)))) (cond_ ((((List.length (List.take (Int.toNat (t1563.2.2.2.1 - t1563.2.2.1)) (List.drop (Int.toNat t1563.2.2.1) ts1564))) : Nat) : Int) == (2 : Int)) (cond_ (true && (decide ((0 : Int) < (((List.length (List.take (Int.toNat (t1563.2.2.2.1 - t1563.2.2.1)) (List.drop (Int.toNat t1563.2.2.1) ts1564))) : Nat) : Int)))) (cond_ ((List.getD (List.take (Int.toNat (t1563.2.2.2.1 - t1563.2.2.1)) (List.drop (Int.toNat t1563.2.2.1) ts1564)) (0 : Nat) (0, (0, (0, (0, (0, ())))))).1 == (25 : Int)) (cond_ (true && (decide ((1 : Int) ≤ (((List.length (List.take (Int.toNat (t1563.2.2.2.1 - t1563.2.2.1)) (List.drop (Int.toNat t1563.2.2.1) ts1564))) : Nat) : Int)))) (cond_ (! ((((List.length (List.take ((List.length (List.take (Int.toNat (t1563.2.2.2.1 - t1563.2.2.1)) (List.drop (Int.toNat t1563.2.2.1) ts1564))) - (1 : Nat)) (List.drop (1 : Nat) (List.take (Int.toNat (t1563.2.2.2.1 - t1563.2.2.1)) (List.drop (Int.toNat t1563.2.2.1) ts1564))))) : Nat) : Int) != (1 : Int))) (cond_ (true && (decide ((0 : Int) < (((List.length (List.take ((List.length (List.take (Int.toNat (t1563.2.2.2.1 - t1563.2.2.1)) (List.drop (Int.toNat t1563.2.2.1) ts1564))) - (1 : Nat)) (List.drop (1 : Nat) (List.take (Int.toNat (t1563.2.2.2.1 - t1563.2.2.1)) (List.drop (Int.toNat t1563.2.2.1) ts1564))))) : Nat) : Int)))) (k1 ((List.getD (List.take ((List.length (List.take (Int.toNat (t1563.2.2.2.1 - t1563.2.2.1)) (List.drop (Int.toNat t1563.2.2.1) ts1564))) - (1 : Nat)) (List.drop (1 : Nat) (List.take (Int.toNat (t1563.2.2.2.1 - t1563.2.2.1)) (List.drop (Int.toNat t1563.2.2.1) ts1564)))) (0 : Nat) (0, (0, (0, (0, (0, ())))))).1 != (26 : Int)) ts1564 ns1565 ts1566 ts1567 n1568) none) (k1 true ts1564 ns1565 ts1566 ts1567 n1568)) none) (cond_ (! ((((List.length (List.take (Int.toNat (t1563.2.2.2.1 - t1563.2.2.1)) (List.drop (Int.toNat t1563.2.2.1) ts1564))) : Nat) : Int) != (1 : Int))) (cond_ (true && (decide ((0 : Int) < (((List.length (List.take (Int.toNat (t1563.2.2.2.1 - t1563.2.2.1)) (List.drop (Int.toNat t1563.2.2.1) ts1564))) : Nat) : Int)))) (k1 ((List.getD (List.take (Int.toNat (t1563.2.2.2.1 - t1563.2.2.1)) (List.drop (Int.toNat t1563.2.2.1) ts1564)) (0 : Nat) (0, (0, (0, (0, (0, ())))))).1 != (26 : Int)) ts1564 ns1565 ts1566 ts1567 n1568) none) (k1 true ts1564 ns1565 ts1566 ts1567 n1568))) none) (cond_ (! ((((List.length (List.take (Int.toNat (t1563.2.2.2.1 - t1563.2.2.1)) (List.drop (Int.toNat t1563.2.2.1) ts1564))) : Nat) : Int) != (1 : Int))) (cond_ (true && (decide ((0 : Int) < (((List.length (List.take (Int.toNat (t1563.2.2.2.1 - t1563.2.2.1)) (List.drop (Int.toNat t1563.2.2.1) ts1564))) : Nat) : Int)))) (k1 ((List.getD (List.take (Int.toNat (t1563.2.2.2.1 - t1563.2.2.1)) (List.drop (Int.toNat t1563.2.2.1) ts1564)) (0 : Nat) (0, (0, (0, (0, (0, ())))))).1 != (26 : Int)) ts1564 ns1565 ts1566 ts1567 n1568) none) (k1 true ts1564 ns1565 ts1566 ts1567 n1568))) none)
noncomputable def image_oddfn1 : T_image_oddfn1 := image_oddfn1.body
def image_oddfn1.p : FPat := fp 99 (pl (pd Ty15) (ps (pq [0, 0] 0 0) pz)) (pl (po [0, 0] 27 5 (em (pl (pa (pl (pb 1 55 Ty12) (pl (pb 2 2 (.int .i64)) (pl (pb 3 58 Ty15) (pl (pb 4 101 Ty11) (pl (pd (.int .i64)) pz)))))) pz))) pz)
def image_oddfn1.g (F : T_image_oddfn1) (v : image_oddfn1.p.T) (k : KR) : Option Bool := F v.1.1 v.2.1.1.1 v.2.1.1.2.1 v.2.1.1.2.2.1 v.2.1.1.2.2.2.1 v.2.1.1.2.2.2.2.1 (fun y0 y1 y2 y3 y4 y5 => k (.d ⟨.bool, y0⟩) [([0, 0], ⟨27, 5, (.mix [(.agg [(.bv 1 55 Ty12 y1), (.bv 2 2 (.int .i64) y2), (.bv 3 58 Ty15 y3), (.bv 4 101 Ty11 y4), (.d ⟨(.int .i64), y5⟩)])])⟩)])
theorem image_oddfn1.eq : ∀ v k, exF Try.f99 image_oddfn1.p [] [] [] v k = image_oddfn1.g (image_oddfn1.body) v k := fun v k => by kernel_rfl
theorem image_oddfn1.ok : okF 1 image_oddfn1.p (image_oddfn1.g image_oddfn1) := fn2 (image_oddfn1.eq) Try.func99 (by kernel_rfl) .nil [] (by kernel_rfl) .nil
/-- function 98: the loop in block 0 -/
abbrev T_slices_IndexFunc_api_Fn_api_Fn_L0 : Type := Tc9 → Int → Int → Tc7 → (List Int) → Tc9 → Tc8 → Int → (Int → Tc7 → (List Int) → Tc9 → Tc8 → Int → Option Bool) → (Tc7 → (List Int) → Tc9 → Tc8 → Int → Option Bool) → Option Bool
noncomputable def slices_IndexFunc_api_Fn_api_Fn_L0.body (slices_IndexFunc_api_Fn_api_Fn_L0 : T_slices_IndexFunc_api_Fn_api_Fn_L0) (image_oddfn1 : T_image_oddfn1) : T_slices_IndexFunc_api_Fn_api_Fn_L0 := fun ts1555 n1556 n1557 ts1558 ns1559 ts1560 ts1561 n1562 k1 k2 =>
  (cond_ (decide (n1557 < n1556)) (cond_ ((decide ((0 : Int) ≤ n1557)) && (decide (n1557 < (List.length ts1555 : Int)))) (image_oddfn1 (List.getD ts1555 (Int.toNat n1557) (0, (0, (0, (0, (0, (0, ()))))))) ts1558 ns1559 ts1560 ts1561 n1562
  (fun b1569 ts1570 ns1571 ts1572 ts1573 n1574 => (cond_ b1569 (k1 n1557 ts1570 ns1571 ts1572 ts1573 n1574) (slices_IndexFunc_api_Fn_api_Fn_L0 ts1555 n1556 (IntKind.wrap .i64 (n1557 + (1 : Int))) ts1570 ns1571 ts1572 ts1573 n1574 k1 k2)))) none) (k2 ts1558 ns1559 ts1560 ts1561 n1562))
noncomputable def slices_IndexFunc_api_Fn_api_Fn_L0 : Nat → T_slices_IndexFunc_api_Fn_api_Fn_L0
  | 0 => fun _ _ _ _ _ _ _ _ _ _ => none
  | n + 1 => slices_IndexFunc_api_Fn_api_Fn_L0.body (slices_IndexFunc_api_Fn_api_Fn_L0 n) image_oddfn1
def slices_IndexFunc_api_Fn_api_Fn_L0.p : LPat := lp 2 19 [0, 1, 7, 8] (pl (pb 1 58 Ty15) (pl (pf 99 pz (ps (pq [0, 0] 0 0) pz)) (pl (pd (.int .i64)) (pl (pd (.int .i64)) pz)))) (pl (po [0, 0] 27 5 (em (pl (pa (pl (pb 2 55 Ty12) (pl (pb 3 2 (.int .i64)) (pl (pb 4 58 Ty15) (pl (pb 5 101 Ty11) (pl (pd (.int .i64)) pz)))))) pz))) pz)
def slices_IndexFunc_api_Fn_api_Fn_L0.g (F : T_slices_IndexFunc_api_Fn_api_Fn_L0) (v : slices_IndexFunc_api_Fn_api_Fn_L0.p.T) (k : KE) : Option Bool := F v.1.1 v.1.2.2.1 v.1.2.2.2.1 v.2.1.1.1 v.2.1.1.2.1 v.2.1.1.2.2.1 v.2.1.1.2.2.2.1 v.2.1.1.2.2.2.2.1 (fun y0 y1 y2 y3 y4 y5 => k .ret ⟨fillS 19 [4] [(.d ⟨(.int .i64), y0⟩)], [([0, 0], ⟨27, 5, (.mix [(.agg [(.bv 2 55 Ty12 y1), (.bv 3 2 (.int .i64) y2), (.bv 4 58 Ty15 y3), (.bv 5 101 Ty11 y4), (.d ⟨(.int .i64), y5⟩)])])⟩)], 2⟩) (fun y0 y1 y2 y3 y4 => k (.exit 0) ⟨fillS 19 [] [], [([0, 0], ⟨27, 5, (.mix [(.agg [(.bv 2 55 Ty12 y0), (.bv 3 2 (.int .i64) y1), (.bv 4 58 Ty15 y2), (.bv 5 101 Ty11 y3), (.d ⟨(.int .i64), y4⟩)])])⟩)], 2⟩)
theorem slices_IndexFunc_api_Fn_api_Fn_L0.step (S : T_slices_IndexFunc_api_Fn_api_Fn_L0) (F0 : T_image_oddfn1) : ∀ v k, exR 98 Try.f98 0 slices_IndexFunc_api_Fn_api_Fn_L0.p [⟨image_oddfn1.p, image_oddfn1.g F0⟩] [] [] (slices_IndexFunc_api_Fn_api_Fn_L0.g S) v k = slices_IndexFunc_api_Fn_api_Fn_L0.g (slices_IndexFunc_api_Fn_api_Fn_L0.body S F0) v k := fun v k => by kernel_rfl
theorem slices_IndexFunc_api_Fn_api_Fn_L0.ok : okL 98 Try.f98 1 0 slices_IndexFunc_api_Fn_api_Fn_L0.p (slices_IndexFunc_api_Fn_api_Fn_L0.g (slices_IndexFunc_api_Fn_api_Fn_L0 ROUNDS)) := loop2 (G := fun n => slices_IndexFunc_api_Fn_api_Fn_L0.g (slices_IndexFunc_api_Fn_api_Fn_L0 n)) (fun n => slices_IndexFunc_api_Fn_api_Fn_L0.step (slices_IndexFunc_api_Fn_api_Fn_L0 n) image_oddfn1) (.cons image_oddfn1.ok .nil) [] (by kernel_rfl) .nil (fun _ _ => rfl)
/-- function 98: slices.IndexFunc[[]sheerleg/api.Fn,sheerleg/api.Fn] -/
abbrev T_slices_IndexFunc_api_Fn_api_Fn : Type := Tc9 → Tc7 → (List Int) → Tc9 → Tc8 → Int → (Int → Tc7 → (List Int) → Tc9 → Tc8 → Int → Option Bool) → Option Bool
noncomputable def slices_IndexFunc_api_Fn_api_Fn.body (slices_IndexFunc_api_Fn_api_Fn_L0 : T_slices_IndexFunc_api_Fn_api_Fn_L0) : T_slices_IndexFunc_api_Fn_api_Fn := fun ts1549 ts1550 ns1551 ts1552 ts1553 n1554 k1 =>
  (slices_IndexFunc_api_Fn_api_Fn_L0 ts1549 (List.length ts1549 : Int) (0 : Int) ts1550 ns1551 ts1552 ts1553 n1554
  (fun n1575 ts1576 ns1577 ts1578 ts1579 n1580 => (k1 n1575 ts1576 ns1577 ts1578 ts1579 n1580))
  (fun ts1581 ns1582 ts1583 ts1584 n1585 => (k1 (-1 : Int) ts1581 ns1582 ts1583 ts1584 n1585)))
noncomputable def slices_IndexFunc_api_Fn_api_Fn : T_slices_IndexFunc_api_Fn_api_Fn := slices_IndexFunc_api_Fn_api_Fn.body (slices_IndexFunc_api_Fn_api_Fn_L0 ROUNDS)
def slices_IndexFunc_api_Fn_api_Fn.p : FPat := fp 98 (pl (pb 1 58 Ty15) (pl (pf 99 pz (ps (pq [0, 0] 0 0) pz)) pz)) (pl (po [0, 0] 27 5 (em (pl (pa (pl (pb 2 55 Ty12) (pl (pb 3 2 (.int .i64)) (pl (pb 4 58 Ty15) (pl (pb 5 101 Ty11) (pl (pd (.int .i64)) pz)))))) pz))) pz)
def slices_IndexFunc_api_Fn_api_Fn.g (F : T_slices_IndexFunc_api_Fn_api_Fn) (v : slices_IndexFunc_api_Fn_api_Fn.p.T) (k : KR) : Option Bool := F v.1.1 v.2.1.1.1 v.2.1.1.2.1 v.2.1.1.2.2.1 v.2.1.1.2.2.2.1 v.2.1.1.2.2.2.2.1 (fun y0 y1 y2 y3 y4 y5 => k (.d ⟨(.int .i64), y0⟩) [([0, 0], ⟨27, 5, (.mix [(.agg [(.bv 2 55 Ty12 y1), (.bv 3 2 (.int .i64) y2), (.bv 4 58 Ty15 y3), (.bv 5 101 Ty11 y4), (.d ⟨(.int .i64), y5⟩)])])⟩)])
theorem slices_IndexFunc_api_Fn_api_Fn.eq (L0 : T_slices_IndexFunc_api_Fn_api_Fn_L0) : ∀ v k, exF Try.f98 slices_IndexFunc_api_Fn_api_Fn.p [] [] [⟨0, slices_IndexFunc_api_Fn_api_Fn_L0.p, slices_IndexFunc_api_Fn_api_Fn_L0.g L0⟩] v k = slices_IndexFunc_api_Fn_api_Fn.g (slices_IndexFunc_api_Fn_api_Fn.body L0) v k := fun v k => by kernel_rfl
theorem slices_IndexFunc_api_Fn_api_Fn.ok : okF 2 slices_IndexFunc_api_Fn_api_Fn.p (slices_IndexFunc_api_Fn_api_Fn.g slices_IndexFunc_api_Fn_api_Fn) := fn2 (slices_IndexFunc_api_Fn_api_Fn.eq (slices_IndexFunc_api_Fn_api_Fn_L0 ROUNDS)) Try.func98 (by kernel_rfl) .nil [0] (by kernel_rfl) (.cons slices_IndexFunc_api_Fn_api_Fn_L0.ok .nil)
/-- function 79: slices.ContainsFunc[[]sheerleg/api.Fn,sheerleg/api.Fn] -/
abbrev T_slices_ContainsFunc_api_Fn_api_Fn : Type := Tc9 → Tc7 → (List Int) → Tc9 → Tc8 → Int → (Bool → Tc7 → (List Int) → Tc9 → Tc8 → Int → Option Bool) → Option Bool
noncomputable def slices_ContainsFunc_api_Fn_api_Fn.body (slices_IndexFunc_api_Fn_api_Fn : T_slices_IndexFunc_api_Fn_api_Fn) : T_slices_ContainsFunc_api_Fn_api_Fn := fun ts1543 ts1544 ns1545 ts1546 ts1547 n1548 k1 =>
  (slices_IndexFunc_api_Fn_api_Fn ts1543 ts1544 ns1545 ts1546 ts1547 n1548
  (fun n1586 ts1587 ns1588 ts1589 ts1590 n1591 => (k1 (decide (n1586 ≥ (0 : Int))) ts1587 ns1588 ts1589 ts1590 n1591)))
noncomputable def slices_ContainsFunc_api_Fn_api_Fn : T_slices_ContainsFunc_api_Fn_api_Fn := slices_ContainsFunc_api_Fn_api_Fn.body slices_IndexFunc_api_Fn_api_Fn
def slices_ContainsFunc_api_Fn_api_Fn.p : FPat := fp 79 (pl (pb 1 58 Ty15) (pl (pf 99 pz (ps (pq [0, 0] 0 0) pz)) pz)) (pl (po [0, 0] 27 5 (em (pl (pa (pl (pb 2 55 Ty12) (pl (pb 3 2 (.int .i64)) (pl (pb 4 58 Ty15) (pl (pb 5 101 Ty11) (pl (pd (.int .i64)) pz)))))) pz))) pz)
def slices_ContainsFunc_api_Fn_api_Fn.g (F : T_slices_ContainsFunc_api_Fn_api_Fn) (v : slices_ContainsFunc_api_Fn_api_Fn.p.T) (k : KR) : Option Bool := F v.1.1 v.2.1.1.1 v.2.1.1.2.1 v.2.1.1.2.2.1 v.2.1.1.2.2.2.1 v.2.1.1.2.2.2.2.1 (fun y0 y1 y2 y3 y4 y5 => k (.d ⟨.bool, y0⟩) [([0, 0], ⟨27, 5, (.mix [(.agg [(.bv 2 55 Ty12 y1), (.bv 3 2 (.int .i64) y2), (.bv 4 58 Ty15 y3), (.bv 5 101 Ty11 y4), (.d ⟨(.int .i64), y5⟩)])])⟩)])
theorem slices_ContainsFunc_api_Fn_api_Fn.eq (F0 : T_slices_IndexFunc_api_Fn_api_Fn) : ∀ v k, exF Try.f79 slices_ContainsFunc_api_Fn_api_Fn.p [⟨slices_IndexFunc_api_Fn_api_Fn.p, slices_IndexFunc_api_Fn_api_Fn.g F0⟩] [] [] v k = slices_ContainsFunc_api_Fn_api_Fn.g (slices_ContainsFunc_api_Fn_api_Fn.body F0) v k := fun v k => by kernel_rfl
theorem slices_ContainsFunc_api_Fn_api_Fn.ok : okF 3 slices_ContainsFunc_api_Fn_api_Fn.p (slices_ContainsFunc_api_Fn_api_Fn.g slices_ContainsFunc_api_Fn_api_Fn) := fn2 (slices_ContainsFunc_api_Fn_api_Fn.eq slices_IndexFunc_api_Fn_api_Fn) Try.func79 (by kernel_rfl) (.cons slices_IndexFunc_api_Fn_api_Fn.ok .nil) [] (by kernel_rfl) .nil
/-- function 78: sheerleg/image.Check$4 -/
abbrev T_image_Checkfn4 : Type := Tc7 → (List Int) → Tc9 → Tc8 → Int → (Bool → Tc7 → (List Int) → Tc9 → Tc8 → Int → Option Bool) → Option Bool
noncomputable def image_Checkfn4.body (image_odd : T_image_odd) (slices_ContainsFunc_api_Fn_api_Fn : T_slices_ContainsFunc_api_Fn_api_Fn) : T_image_Checkfn4 := fun ts1528 ns1529 ts1530 ts1531 n1532 k1 =>
  (image_odd ts1528 ns1529 ts1530 ts1531 n1532
  (fun ts1538 ns1539 ts1540 ts1541 n1542 => (slices_ContainsFunc_api_Fn_api_Fn ts1530 ts1538 ns1539 ts1540 ts1541 n1542
  (fun b1592 ts1593 ns1594 ts1595 ts1596 n1597 => (k1 b1592 ts1528 ns1529 ts1530 ts1531 n1532)))))
noncomputable def image_Checkfn4 : T_image_Checkfn4 := image_Checkfn4.body image_odd slices_ContainsFunc_api_Fn_api_Fn
def image_Checkfn4.p : FPat := fp 78 (ps (pq [0, 0] 0 0) pz) (pl (po [0, 0] 27 5 (em (pl (pa (pl (pb 1 55 Ty12) (pl (pb 2 2 (.int .i64)) (pl (pb 3 58 Ty15) (pl (pb 4 101 Ty11) (pl (pd (.int .i64)) pz)))))) pz))) pz)
def image_Checkfn4.g (F : T_image_Checkfn4) (v : image_Checkfn4.p.T) (k : KR) : Option Bool := F v.2.1.1.1 v.2.1.1.2.1 v.2.1.1.2.2.1 v.2.1.1.2.2.2.1 v.2.1.1.2.2.2.2.1 (fun y0 y1 y2 y3 y4 y5 => k (.d ⟨.bool, y0⟩) [([0, 0], ⟨27, 5, (.mix [(.agg [(.bv 1 55 Ty12 y1), (.bv 2 2 (.int .i64) y2), (.bv 3 58 Ty15 y3), (.bv 4 101 Ty11 y4), (.d ⟨(.int .i64), y5⟩)])])⟩)])
theorem image_Checkfn4.eq (F0 : T_image_odd) (F1 : T_slices_ContainsFunc_api_Fn_api_Fn) : ∀ v k, exF Try.f78 image_Checkfn4.p [⟨image_odd.p, image_odd.g F0⟩, ⟨slices_ContainsFunc_api_Fn_api_Fn.p, slices_ContainsFunc_api_Fn_api_Fn.g F1⟩] [] [] v k = image_Checkfn4.g (image_Checkfn4.body F0 F1) v k := fun v k => by kernel_rfl
theorem image_Checkfn4.ok : okF 4 image_Checkfn4.p (image_Checkfn4.g image_Checkfn4) := fn2 (image_Checkfn4.eq image_odd slices_ContainsFunc_api_Fn_api_Fn) Try.func78 (by kernel_rfl) (.cons image_odd.ok (.cons slices_ContainsFunc_api_Fn_api_Fn.ok .nil)) [] (by kernel_rfl) .nil
/-- function 97: sheerleg/image.look$1 -/
abbrev T_image_lookfn1v3 : Type := Tc7 → (List Int) → Tc9 → Tc8 → Int → Int → (Int → Tc7 → (List Int) → Tc9 → Tc8 → Int → Int → Option Bool) → Option Bool
noncomputable def image_lookfn1v3.body (image_Checkfn4 : T_image_Checkfn4) : T_image_lookfn1v3 := fun ts1522 ns1523 ts1524 ts1525 n1526 n1527 k1 =>
  (image_Checkfn4 ts1522 ns1523 ts1524 ts1525 n1526
  (fun b1598 ts1599 ns1600 ts1601 ts1602 n1603 => (cond_ b1598 (k1 n1527 ts1599 ns1600 ts1601 ts1602 n1603 n1527) (k1 (0 : Int) ts1599 ns1600 ts1601 ts1602 n1603 n1527))))
noncomputable def image_lookfn1v3 : T_image_lookfn1v3 := image_lookfn1v3.body image_Checkfn4
def image_lookfn1v3.p : FPat := fp 97 (ps (pq [0, 0] 0 0) (ps (pq [0, 2] 0 0) pz)) (pl (po [0, 0] 30 1 (em (pl (pf 78 pz (ps (pq [0, 1] 0 0) pz)) pz))) (pl (po [0, 1] 27 5 (em (pl (pa (pl (pb 1 55 Ty12) (pl (pb 2 2 (.int .i64)) (pl (pb 3 58 Ty15) (pl (pb 4 101 Ty11) (pl (pd (.int .i64)) pz)))))) pz))) (pl (po [0, 2] 31 1 (es (.int .i64) (pl eh pz))) pz)))
def image_lookfn1v3.g (F : T_image_lookfn1v3) (v : image_lookfn1v3.p.T) (k : KR) : Option Bool := F v.2.2.1.1.1 v.2.2.1.1.2.1 v.2.2.1.1.2.2.1 v.2.2.1.1.2.2.2.1 v.2.2.1.1.2.2.2.2.1 v.2.2.2.1.1 (fun y0 y1 y2 y3 y4 y5 y6 => k (.d ⟨(.int .i64), y0⟩) [([0, 0], ⟨30, 1, (.mix [(.fn (.func 78) [] [(.ptr [0, 1] 0 0)])])⟩), ([0, 1], ⟨27, 5, (.mix [(.agg [(.bv 1 55 Ty12 y1), (.bv 2 2 (.int .i64) y2), (.bv 3 58 Ty15 y3), (.bv 4 101 Ty11 y4), (.d ⟨(.int .i64), y5⟩)])])⟩), ([0, 2], ⟨31, 1, (.data (.int .i64) [y6])⟩)])
theorem image_lookfn1v3.eq (F0 : T_image_Checkfn4) : ∀ v k, exF Try.f97 image_lookfn1v3.p [⟨image_Checkfn4.p, image_Checkfn4.g F0⟩] [] [] v k = image_lookfn1v3.g (image_lookfn1v3.body F0) v k := fun v k => by kernel_rfl
theorem image_lookfn1v3.ok : okF 5 image_lookfn1v3.p (image_lookfn1v3.g image_lookfn1v3) := fn2 (image_lookfn1v3.eq image_Checkfn4) Try.func97 (by kernel_rfl) (.cons image_Checkfn4.ok .nil) [] (by kernel_rfl) .nil
/-- function 82: the loop in block 1 -/
abbrev T_runs_Check_L1 : Type := Tc8 → Int → Int → Tc8 → Int → Int → (Int → Option Bool) → (Tc8 → Option Bool) → Option Bool
noncomputable def runs_Check_L1.body (runs_Check_L1 : T_runs_Check_L1) : T_runs_Check_L1 := fun ts1618 n1619 n1620 ts1621 n1622 n1623 k1 k2 =>
  (cond_ (decide (n1623 < n1622)) (cond_ ((decide ((0 : Int) ≤ n1623)) && (decide (n1623 < (List.length ts1621 : Int)))) (cond_ (! (decide ((List.getD ts1621 (Int.toNat n1623) (0, (0, (0, (false, (0, ())))))).1 ≤ n1620))) (cond_ (! (decide ((List.getD ts1621 (Int.toNat n1623) (0, (0, (0, (false, (0, ())))))).1 ≥ n1619))) (cond_ (n1623 == (0 : Int)) (cond_ ((List.getD ts1621 (Int.toNat n1623) (0, (0, (0, (false, (0, ())))))).1 != (0 : Int)) (k1 (9 : Int)) (runs_Check_L1 ts1618 n1619 (List.getD ts1621 (Int.toNat n1623) (0, (0, (0, (false, (0, ())))))).1 ts1621 n1622 (IntKind.wrap .i64 (n1623 + (1 : Int))) k1 k2)) (runs_Check_L1 ts1618 n1619 (List.getD ts1621 (Int.toNat n1623) (0, (0, (0, (false, (0, ())))))).1 ts1621 n1622 (IntKind.wrap .i64 (n1623 + (1 : Int))) k1 k2)) (k1 (9 : Int))) (k1 (9 : Int))) none) (k2 ts1618))
noncomputable def runs_Check_L1 : Nat → T_runs_Check_L1
  | 0 => fun _ _ _ _ _ _ _ _ => none
  | n + 1 => runs_Check_L1.body (runs_Check_L1 n)
def runs_Check_L1.p : LPat := lp 2 67 [0, 1, 5, 20, 21, 22] (pl (pb 1 101 Ty11) (pl (pd (.int .i64)) (pl (pd (.int .i64)) (pl (pb 1 101 Ty11) (pl (pd (.int .i64)) (pl (pd (.int .i64)) pz)))))) pz
def runs_Check_L1.g (F : T_runs_Check_L1) (v : runs_Check_L1.p.T) (k : KE) : Option Bool := F v.1.1 v.1.2.1 v.1.2.2.1 v.1.2.2.2.1 v.1.2.2.2.2.1 v.1.2.2.2.2.2.1 (fun y0 => k .ret ⟨fillS 67 [4] [(.d ⟨(.int .i64), y0⟩)], [], 2⟩) (fun y0 => k (.exit 1) ⟨fillS 67 [0] [(.bv 1 101 Ty11 y0)], [], 2⟩)
theorem runs_Check_L1.step (S : T_runs_Check_L1) : ∀ v k, exR 82 Try.f82 1 runs_Check_L1.p [] [] [] (runs_Check_L1.g S) v k = runs_Check_L1.g (runs_Check_L1.body S) v k := fun v k => by kernel_rfl
theorem runs_Check_L1.ok : okL 82 Try.f82 0 1 runs_Check_L1.p (runs_Check_L1.g (runs_Check_L1 ROUNDS)) := loop2 (G := fun n => runs_Check_L1.g (runs_Check_L1 n)) (fun n => runs_Check_L1.step (runs_Check_L1 n)) .nil [] (by kernel_rfl) .nil (fun _ _ => rfl)
/-- function 82: the loop in block 3 -/
abbrev T_runs_Check_L3 : Type := Tc8 → Int → (Int → Option Bool) → (Option Bool) → Option Bool
noncomputable def runs_Check_L3.body (runs_Check_L3 : T_runs_Check_L3) : T_runs_Check_L3 := fun ts1626 n1627 k1 k2 =>
  (cond_ (decide (n1627 < (List.length ts1626 : Int))) (cond_ ((decide ((0 : Int) ≤ n1627)) && (decide (n1627 < (List.length ts1626 : Int)))) (cond_ ((decide ((0 : Int) ≤ (IntKind.wrap .i64 (n1627 - (1 : Int))))) && (decide ((IntKind.wrap .i64 (n1627 - (1 : Int))) < (List.length ts1626 : Int)))) (cond_ (((List.getD ts1626 (Int.toNat n1627) (0, (0, (0, (false, (0, ())))))).2.1 == (List.getD ts1626 (Int.toNat (IntKind.wrap .i64 (n1627 - (1 : Int)))) (0, (0, (0, (false, (0, ())))))).2.1) && (((List.getD ts1626 (Int.toNat n1627) (0, (0, (0, (false, (0, ())))))).2.2.1 == (List.getD ts1626 (Int.toNat (IntKind.wrap .i64 (n1627 - (1 : Int)))) (0, (0, (0, (false, (0, ())))))).2.2.1) && (((List.getD ts1626 (Int.toNat n1627) (0, (0, (0, (false, (0, ())))))).2.2.2.1 == (List.getD ts1626 (Int.toNat (IntKind.wrap .i64 (n1627 - (1 : Int)))) (0, (0, (0, (false, (0, ())))))).2.2.2.1) && (((List.getD ts1626 (Int.toNat n1627) (0, (0, (0, (false, (0, ())))))).2.2.2.2.1 == (List.getD ts1626 (Int.toNat (IntKind.wrap .i64 (n1627 - (1 : Int)))) (0, (0, (0, (false, (0, ())))))).2.2.2.2.1) && true)))) (k1 (12 : Int)) (runs_Check_L3 ts1626 (IntKind.wrap .i64 (n1627 + (1 : Int))) k1 k2)) none) none) (k2))
noncomputable def runs_Check_L3 : Nat → T_runs_Check_L3
  | 0 => fun _ _ _ _ => none
  | n + 1 => runs_Check_L3.body (runs_Check_L3 n)
def runs_Check_L3.p : LPat := lp 2 67 [0, 8] (pl (pb 1 101 Ty11) (pl (pd (.int .i64)) pz)) pz
def runs_Check_L3.g (F : T_runs_Check_L3) (v : runs_Check_L3.p.T) (k : KE) : Option Bool := F v.1.1 v.1.2.1 (fun y0 => k .ret ⟨fillS 67 [4] [(.d ⟨(.int .i64), y0⟩)], [], 2⟩) (k (.exit 3) ⟨fillS 67 [] [], [], 2⟩)
theorem runs_Check_L3.step (S : T_runs_Check_L3) : ∀ v k, exR 82 Try.f82 3 runs_Check_L3.p [] [] [] (runs_Check_L3.g S) v k = runs_Check_L3.g (runs_Check_L3.body S) v k := fun v k => by kernel_rfl
theorem runs_Check_L3.ok : okL 82 Try.f82 0 3 runs_Check_L3.p (runs_Check_L3.g (runs_Check_L3 ROUNDS)) := loop2 (G := fun n => runs_Check_L3.g (runs_Check_L3 n)) (fun n => runs_Check_L3.step (runs_Check_L3 n)) .nil [] (by kernel_rfl) .nil (fun _ _ => rfl)
/-- function 82: sheerleg/runs.Check -/
abbrev T_runs_Check : Type := Tc8 → Int → (Int → Option Bool) → Option Bool
noncomputable def runs_Check.body (runs_Check_L1 : T_runs_Check_L1) (runs_Check_L3 : T_runs_Check_L3) : T_runs_Check := fun ts1616 n1617 k1 =>
  (cond_ (decide ((List.length ts1616 : Int) > (4096 : Int))) (k1 (19 : Int)) (cond_ (! (((List.length ts1616 : Int) == (0 : Int)) == (decide (n1617 ≤ (0 : Int))))) (k1 (9 : Int)) (runs_Check_L1 ts1616 n1617 (-1 : Int) ts1616 (List.length ts1616 : Int) (0 : Int)
  (fun n1624 => (k1 n1624))
  (fun ts1625 => (runs_Check_L3 ts1625 (1 : Int)
  (fun n1628 => (k1 n1628))
  (k1 (0 : Int)))))))
noncomputable def runs_Check : T_runs_Check := runs_Check.body (runs_Check_L1 ROUNDS) (runs_Check_L3 ROUNDS)
def runs_Check.p : FPat := fp 82 (pl (pb 1 101 Ty11) (pl (pd (.int .i64)) pz)) pz
def runs_Check.g (F : T_runs_Check) (v : runs_Check.p.T) (k : KR) : Option Bool := F v.1.1 v.1.2.1 (fun y0 => k (.d ⟨(.int .i64), y0⟩) [])
theorem runs_Check.eq (L0 : T_runs_Check_L1) (L1 : T_runs_Check_L3) : ∀ v k, exF Try.f82 runs_Check.p [] [] [⟨1, runs_Check_L1.p, runs_Check_L1.g L0⟩, ⟨3, runs_Check_L3.p, runs_Check_L3.g L1⟩] v k = runs_Check.g (runs_Check.body L0 L1) v k := fun v k => by kernel_rfl
theorem runs_Check.ok : okF 1 runs_Check.p (runs_Check.g runs_Check) := fn2 (runs_Check.eq (runs_Check_L1 ROUNDS) (runs_Check_L3 ROUNDS)) Try.func82 (by kernel_rfl) .nil [1, 3] (by kernel_rfl) (.cons runs_Check_L1.ok (.cons runs_Check_L3.ok .nil))
/-- function 81: sheerleg/image.Check$5 -/
abbrev T_image_Checkfn5 : Type := Tc7 → (List Int) → Tc9 → Tc8 → Int → (Int → Tc7 → (List Int) → Tc9 → Tc8 → Int → Option Bool) → Option Bool
noncomputable def image_Checkfn5.body (runs_Check : T_runs_Check) : T_image_Checkfn5 := fun ts1611 ns1612 ts1613 ts1614 n1615 k1 =>
  (runs_Check ts1614 (List.length ts1611 : Int)
  (fun n1629 => (k1 n1629 ts1611 ns1612 ts1613 ts1614 n1615)))
noncomputable def image_Checkfn5 : T_image_Checkfn5 := image_Checkfn5.body runs_Check
def image_Checkfn5.p : FPat := fp 81 (ps (pq [0, 0] 0 0) pz) (pl (po [0, 0] 27 5 (em (pl (pa (pl (pb 1 55 Ty12) (pl (pb 2 2 (.int .i64)) (pl (pb 3 58 Ty15) (pl (pb 4 101 Ty11) (pl (pd (.int .i64)) pz)))))) pz))) pz)
def image_Checkfn5.g (F : T_image_Checkfn5) (v : image_Checkfn5.p.T) (k : KR) : Option Bool := F v.2.1.1.1 v.2.1.1.2.1 v.2.1.1.2.2.1 v.2.1.1.2.2.2.1 v.2.1.1.2.2.2.2.1 (fun y0 y1 y2 y3 y4 y5 => k (.d ⟨(.int .i64), y0⟩) [([0, 0], ⟨27, 5, (.mix [(.agg [(.bv 1 55 Ty12 y1), (.bv 2 2 (.int .i64) y2), (.bv 3 58 Ty15 y3), (.bv 4 101 Ty11 y4), (.d ⟨(.int .i64), y5⟩)])])⟩)])
theorem image_Checkfn5.eq (F0 : T_runs_Check) : ∀ v k, exF Try.f81 image_Checkfn5.p [⟨runs_Check.p, runs_Check.g F0⟩] [] [] v k = image_Checkfn5.g (image_Checkfn5.body F0) v k := fun v k => by kernel_rfl
theorem image_Checkfn5.ok : okF 2 image_Checkfn5.p (image_Checkfn5.g image_Checkfn5) := fn2 (image_Checkfn5.eq runs_Check) Try.func81 (by kernel_rfl) (.cons runs_Check.ok .nil) [] (by kernel_rfl) .nil
/-- function 84: sheerleg/image.Check$6$1 -/
abbrev T_image_Checkfn6fn1 : Type := Tc6 → Tc7 → (List Int) → Tc9 → Tc8 → Int → (Bool → Tc7 → (List Int) → Tc9 → Tc8 → Int → Option Bool) → Option Bool
noncomputable def image_Checkfn6fn1.body : T_image_Checkfn6fn1 := fun t1667 ts1668 ns1669 ts1670 ts1671 n1672 k1 =>
  (k1 (t1667.2.2.1 == n1672) ts1668 ns1669 ts1670 ts1671 n1672)
noncomputable def image_Checkfn6fn1 : T_image_Checkfn6fn1 := image_Checkfn6fn1.body
def image_Checkfn6fn1.p : FPat := fp 84 (pl (pd Ty15) (ps (pq [0, 0] 0 0) pz)) (pl (po [0, 0] 27 5 (em (pl (pa (pl (pb 1 55 Ty12) (pl (pb 2 2 (.int .i64)) (pl (pb 3 58 Ty15) (pl (pb 4 101 Ty11) (pl (pd (.int .i64)) pz)))))) pz))) pz)
def image_Checkfn6fn1.g (F : T_image_Checkfn6fn1) (v : image_Checkfn6fn1.p.T) (k : KR) : Option Bool := F v.1.1 v.2.1.1.1 v.2.1.1.2.1 v.2.1.1.2.2.1 v.2.1.1.2.2.2.1 v.2.1.1.2.2.2.2.1 (fun y0 y1 y2 y3 y4 y5 => k (.d ⟨.bool, y0⟩) [([0, 0], ⟨27, 5, (.mix [(.agg [(.bv 1 55 Ty12 y1), (.bv 2 2 (.int .i64) y2), (.bv 3 58 Ty15 y3), (.bv 4 101 Ty11 y4), (.d ⟨(.int .i64), y5⟩)])])⟩)])
theorem image_Checkfn6fn1.eq : ∀ v k, exF Try.f84 image_Checkfn6fn1.p [] [] [] v k = image_Checkfn6fn1.g (image_Checkfn6fn1.body) v k := fun v k => by kernel_rfl
theorem image_Checkfn6fn1.ok : okF 1 image_Checkfn6fn1.p (image_Checkfn6fn1.g image_Checkfn6fn1) := fn2 (image_Checkfn6fn1.eq) Try.func84 (by kernel_rfl) .nil [] (by kernel_rfl) .nil
/-- function 98: the loop in block 0 -/
abbrev T_slices_IndexFunc_api_Fn_api_Fnv1_L0 : Type := Tc9 → Int → Int → Tc7 → (List Int) → Tc9 → Tc8 → Int → (Int → Tc7 → (List Int) → Tc9 → Tc8 → Int → Option Bool) → (Tc7 → (List Int) → Tc9 → Tc8 → Int → Option Bool) → Option Bool
noncomputable def slices_IndexFunc_api_Fn_api_Fnv1_L0.body (slices_IndexFunc_api_Fn_api_Fnv1_L0 : T_slices_IndexFunc_api_Fn_api_Fnv1_L0) (image_Checkfn6fn1 : T_image_Checkfn6fn1) : T_slices_IndexFunc_api_Fn_api_Fnv1_L0 := fun ts1659 n1660 n1661 ts1662 ns1663 ts1664 ts1665 n1666 k1 k2 =>
  (cond_ (decide (n1661 < n1660)) (cond_ ((decide ((0 : Int) ≤ n1661)) && (decide (n1661 < (List.length ts1659 : Int)))) (image_Checkfn6fn1 (List.getD ts1659 (Int.toNat n1661) (0, (0, (0, (0, (0, (0, ()))))))) ts1662 ns1663 ts1664 ts1665 n1666
  (fun b1673 ts1674 ns1675 ts1676 ts1677 n1678 => (cond_ b1673 (k1 n1661 ts1674 ns1675 ts1676 ts1677 n1678) (slices_IndexFunc_api_Fn_api_Fnv1_L0 ts1659 n1660 (IntKind.wrap .i64 (n1661 + (1 : Int))) ts1674 ns1675 ts1676 ts1677 n1678 k1 k2)))) none) (k2 ts1662 ns1663 ts1664 ts1665 n1666))
noncomputable def slices_IndexFunc_api_Fn_api_Fnv1_L0 : Nat → T_slices_IndexFunc_api_Fn_api_Fnv1_L0
  | 0 => fun _ _ _ _ _ _ _ _ _ _ => none
  | n + 1 => slices_IndexFunc_api_Fn_api_Fnv1_L0.body (slices_IndexFunc_api_Fn_api_Fnv1_L0 n) image_Checkfn6fn1
def slices_IndexFunc_api_Fn_api_Fnv1_L0.p : LPat := lp 2 19 [0, 1, 7, 8] (pl (pb 1 58 Ty15) (pl (pf 84 pz (ps (pq [0, 0] 0 0) pz)) (pl (pd (.int .i64)) (pl (pd (.int .i64)) pz)))) (pl (po [0, 0] 27 5 (em (pl (pa (pl (pb 2 55 Ty12) (pl (pb 3 2 (.int .i64)) (pl (pb 4 58 Ty15) (pl (pb 5 101 Ty11) (pl (pd (.int .i64)) pz)))))) pz))) pz)
def slices_IndexFunc_api_Fn_api_Fnv1_L0.g (F : T_slices_IndexFunc_api_Fn_api_Fnv1_L0) (v : slices_IndexFunc_api_Fn_api_Fnv1_L0.p.T) (k : KE) : Option Bool := F v.1.1 v.1.2.2.1 v.1.2.2.2.1 v.2.1.1.1 v.2.1.1.2.1 v.2.1.1.2.2.1 v.2.1.1.2.2.2.1 v.2.1.1.2.2.2.2.1 (fun y0 y1 y2 y3 y4 y5 => k .ret ⟨fillS 19 [4] [(.d ⟨(.int .i64), y0⟩)], [([0, 0], ⟨27, 5, (.mix [(.agg [(.bv 2 55 Ty12 y1), (.bv 3 2 (.int .i64) y2), (.bv 4 58 Ty15 y3), (.bv 5 101 Ty11 y4), (.d ⟨(.int .i64), y5⟩)])])⟩)], 2⟩) (fun y0 y1 y2 y3 y4 => k (.exit 0) ⟨fillS 19 [] [], [([0, 0], ⟨27, 5, (.mix [(.agg [(.bv 2 55 Ty12 y0), (.bv 3 2 (.int .i64) y1), (.bv 4 58 Ty15 y2), (.bv 5 101 Ty11 y3), (.d ⟨(.int .i64), y4⟩)])])⟩)], 2⟩)
theorem slices_IndexFunc_api_Fn_api_Fnv1_L0.step (S : T_slices_IndexFunc_api_Fn_api_Fnv1_L0) (F0 : T_image_Checkfn6fn1) : ∀ v k, exR 98 Try.f98 0 slices_IndexFunc_api_Fn_api_Fnv1_L0.p [⟨image_Checkfn6fn1.p, image_Checkfn6fn1.g F0⟩] [] [] (slices_IndexFunc_api_Fn_api_Fnv1_L0.g S) v k = slices_IndexFunc_api_Fn_api_Fnv1_L0.g (slices_IndexFunc_api_Fn_api_Fnv1_L0.body S F0) v k := fun v k => by kernel_rfl
theorem slices_IndexFunc_api_Fn_api_Fnv1_L0.ok : okL 98 Try.f98 1 0 slices_IndexFunc_api_Fn_api_Fnv1_L0.p (slices_IndexFunc_api_Fn_api_Fnv1_L0.g (slices_IndexFunc_api_Fn_api_Fnv1_L0 ROUNDS)) := loop2 (G := fun n => slices_IndexFunc_api_Fn_api_Fnv1_L0.g (slices_IndexFunc_api_Fn_api_Fnv1_L0 n)) (fun n => slices_IndexFunc_api_Fn_api_Fnv1_L0.step (slices_IndexFunc_api_Fn_api_Fnv1_L0 n) image_Checkfn6fn1) (.cons image_Checkfn6fn1.ok .nil) [] (by kernel_rfl) .nil (fun _ _ => rfl)
/-- function 98: slices.IndexFunc[[]sheerleg/api.Fn,sheerleg/api.Fn] -/
abbrev T_slices_IndexFunc_api_Fn_api_Fnv1 : Type := Tc9 → Tc7 → (List Int) → Tc9 → Tc8 → Int → (Int → Tc7 → (List Int) → Tc9 → Tc8 → Int → Option Bool) → Option Bool
noncomputable def slices_IndexFunc_api_Fn_api_Fnv1.body (slices_IndexFunc_api_Fn_api_Fnv1_L0 : T_slices_IndexFunc_api_Fn_api_Fnv1_L0) : T_slices_IndexFunc_api_Fn_api_Fnv1 := fun ts1653 ts1654 ns1655 ts1656 ts1657 n1658 k1 =>
  (slices_IndexFunc_api_Fn_api_Fnv1_L0 ts1653 (List.length ts1653 : Int) (0 : Int) ts1654 ns1655 ts1656 ts1657 n1658
  (fun n1679 ts1680 ns1681 ts1682 ts1683 n1684 => (k1 n1679 ts1680 ns1681 ts1682 ts1683 n1684))
  (fun ts1685 ns1686 ts1687 ts1688 n1689 => (k1 (-1 : Int) ts1685 ns1686 ts1687 ts1688 n1689)))
noncomputable def slices_IndexFunc_api_Fn_api_Fnv1 : T_slices_IndexFunc_api_Fn_api_Fnv1 := slices_IndexFunc_api_Fn_api_Fnv1.body (slices_IndexFunc_api_Fn_api_Fnv1_L0 ROUNDS)
def slices_IndexFunc_api_Fn_api_Fnv1.p : FPat := fp 98 (pl (pb 1 58 Ty15) (pl (pf 84 pz (ps (pq [0, 0] 0 0) pz)) pz)) (pl (po [0, 0] 27 5 (em (pl (pa (pl (pb 2 55 Ty12) (pl (pb 3 2 (.int .i64)) (pl (pb 4 58 Ty15) (pl (pb 5 101 Ty11) (pl (pd (.int .i64)) pz)))))) pz))) pz)
def slices_IndexFunc_api_Fn_api_Fnv1.g (F : T_slices_IndexFunc_api_Fn_api_Fnv1) (v : slices_IndexFunc_api_Fn_api_Fnv1.p.T) (k : KR) : Option Bool := F v.1.1 v.2.1.1.1 v.2.1.1.2.1 v.2.1.1.2.2.1 v.2.1.1.2.2.2.1 v.2.1.1.2.2.2.2.1 (fun y0 y1 y2 y3 y4 y5 => k (.d ⟨(.int .i64), y0⟩) [([0, 0], ⟨27, 5, (.mix [(.agg [(.bv 2 55 Ty12 y1), (.bv 3 2 (.int .i64) y2), (.bv 4 58 Ty15 y3), (.bv 5 101 Ty11 y4), (.d ⟨(.int .i64), y5⟩)])])⟩)])
theorem slices_IndexFunc_api_Fn_api_Fnv1.eq (L0 : T_slices_IndexFunc_api_Fn_api_Fnv1_L0) : ∀ v k, exF Try.f98 slices_IndexFunc_api_Fn_api_Fnv1.p [] [] [⟨0, slices_IndexFunc_api_Fn_api_Fnv1_L0.p, slices_IndexFunc_api_Fn_api_Fnv1_L0.g L0⟩] v k = slices_IndexFunc_api_Fn_api_Fnv1.g (slices_IndexFunc_api_Fn_api_Fnv1.body L0) v k := fun v k => by kernel_rfl
theorem slices_IndexFunc_api_Fn_api_Fnv1.ok : okF 2 slices_IndexFunc_api_Fn_api_Fnv1.p (slices_IndexFunc_api_Fn_api_Fnv1.g slices_IndexFunc_api_Fn_api_Fnv1) := fn2 (slices_IndexFunc_api_Fn_api_Fnv1.eq (slices_IndexFunc_api_Fn_api_Fnv1_L0 ROUNDS)) Try.func98 (by kernel_rfl) .nil [0] (by kernel_rfl) (.cons slices_IndexFunc_api_Fn_api_Fnv1_L0.ok .nil)
/-- function 79: slices.ContainsFunc[[]sheerleg/api.Fn,sheerleg/api.Fn] -/
abbrev T_slices_ContainsFunc_api_Fn_api_Fnv1 : Type := Tc9 → Tc7 → (List Int) → Tc9 → Tc8 → Int → (Bool → Tc7 → (List Int) → Tc9 → Tc8 → Int → Option Bool) → Option Bool
noncomputable def slices_ContainsFunc_api_Fn_api_Fnv1.body (slices_IndexFunc_api_Fn_api_Fnv1 : T_slices_IndexFunc_api_Fn_api_Fnv1) : T_slices_ContainsFunc_api_Fn_api_Fnv1 := fun ts1647 ts1648 ns1649 ts1650 ts1651 n1652 k1 =>
  (slices_IndexFunc_api_Fn_api_Fnv1 ts1647 ts1648 ns1649 ts1650 ts1651 n1652
  (fun n1690 ts1691 ns1692 ts1693 ts1694 n1695 => (k1 (decide (n1690 ≥ (0 : Int))) ts1691 ns1692 ts1693 ts1694 n1695)))
noncomputable def slices_ContainsFunc_api_Fn_api_Fnv1 : T_slices_ContainsFunc_api_Fn_api_Fnv1 := slices_ContainsFunc_api_Fn_api_Fnv1.body slices_IndexFunc_api_Fn_api_Fnv1
def slices_ContainsFunc_api_Fn_api_Fnv1.p : FPat := fp 79 (pl (pb 1 58 Ty15) (pl (pf 84 pz (ps (pq [0, 0] 0 0) pz)) pz)) (pl (po [0, 0] 27 5 (em (pl (pa (pl (pb 2 55 Ty12) (pl (pb 3 2 (.int .i64)) (pl (pb 4 58 Ty15) (pl (pb 5 101 Ty11) (pl (pd (.int .i64)) pz)))))) pz))) pz)
def slices_ContainsFunc_api_Fn_api_Fnv1.g (F : T_slices_ContainsFunc_api_Fn_api_Fnv1) (v : slices_ContainsFunc_api_Fn_api_Fnv1.p.T) (k : KR) : Option Bool := F v.1.1 v.2.1.1.1 v.2.1.1.2.1 v.2.1.1.2.2.1 v.2.1.1.2.2.2.1 v.2.1.1.2.2.2.2.1 (fun y0 y1 y2 y3 y4 y5 => k (.d ⟨.bool, y0⟩) [([0, 0], ⟨27, 5, (.mix [(.agg [(.bv 2 55 Ty12 y1), (.bv 3 2 (.int .i64) y2), (.bv 4 58 Ty15 y3), (.bv 5 101 Ty11 y4), (.d ⟨(.int .i64), y5⟩)])])⟩)])
theorem slices_ContainsFunc_api_Fn_api_Fnv1.eq (F0 : T_slices_IndexFunc_api_Fn_api_Fnv1) : ∀ v k, exF Try.f79 slices_ContainsFunc_api_Fn_api_Fnv1.p [⟨slices_IndexFunc_api_Fn_api_Fnv1.p, slices_IndexFunc_api_Fn_api_Fnv1.g F0⟩] [] [] v k = slices_ContainsFunc_api_Fn_api_Fnv1.g (slices_ContainsFunc_api_Fn_api_Fnv1.body F0) v k := fun v k => by kernel_rfl
theorem slices_ContainsFunc_api_Fn_api_Fnv1.ok : okF 3 slices_ContainsFunc_api_Fn_api_Fnv1.p (slices_ContainsFunc_api_Fn_api_Fnv1.g slices_ContainsFunc_api_Fn_api_Fnv1) := fn2 (slices_ContainsFunc_api_Fn_api_Fnv1.eq slices_IndexFunc_api_Fn_api_Fnv1) Try.func79 (by kernel_rfl) (.cons slices_IndexFunc_api_Fn_api_Fnv1.ok .nil) [] (by kernel_rfl) .nil
/-- function 83: sheerleg/image.Check$6 -/
abbrev T_image_Checkfn6 : Type := Tc7 → (List Int) → Tc9 → Tc8 → Int → (Bool → Tc7 → (List Int) → Tc9 → Tc8 → Int → Option Bool) → Option Bool
noncomputable def image_Checkfn6.body (slices_ContainsFunc_api_Fn_api_Fnv1 : T_slices_ContainsFunc_api_Fn_api_Fnv1) : T_image_Checkfn6 := fun ts1642 ns1643 ts1644 ts1645 n1646 k1 =>
  (slices_ContainsFunc_api_Fn_api_Fnv1 ts1644 ts1642 ns1643 ts1644 ts1645 n1646
  (fun b1696 ts1697 ns1698 ts1699 ts1700 n1701 => (k1 (! b1696) ts1697 ns1698 ts1699 ts1700 n1701)))
noncomputable def image_Checkfn6 : T_image_Checkfn6 := image_Checkfn6.body slices_ContainsFunc_api_Fn_api_Fnv1
def image_Checkfn6.p : FPat := fp 83 (ps (pq [0, 0] 0 0) pz) (pl (po [0, 0] 27 5 (em (pl (pa (pl (pb 1 55 Ty12) (pl (pb 2 2 (.int .i64)) (pl (pb 3 58 Ty15) (pl (pb 4 101 Ty11) (pl (pd (.int .i64)) pz)))))) pz))) pz)
def image_Checkfn6.g (F : T_image_Checkfn6) (v : image_Checkfn6.p.T) (k : KR) : Option Bool := F v.2.1.1.1 v.2.1.1.2.1 v.2.1.1.2.2.1 v.2.1.1.2.2.2.1 v.2.1.1.2.2.2.2.1 (fun y0 y1 y2 y3 y4 y5 => k (.d ⟨.bool, y0⟩) [([0, 0], ⟨27, 5, (.mix [(.agg [(.bv 1 55 Ty12 y1), (.bv 2 2 (.int .i64) y2), (.bv 3 58 Ty15 y3), (.bv 4 101 Ty11 y4), (.d ⟨(.int .i64), y5⟩)])])⟩)])
theorem image_Checkfn6.eq (F0 : T_slices_ContainsFunc_api_Fn_api_Fnv1) : ∀ v k, exF Try.f83 image_Checkfn6.p [⟨slices_ContainsFunc_api_Fn_api_Fnv1.p, slices_ContainsFunc_api_Fn_api_Fnv1.g F0⟩] [] [] v k = image_Checkfn6.g (image_Checkfn6.body F0) v k := fun v k => by kernel_rfl
theorem image_Checkfn6.ok : okF 4 image_Checkfn6.p (image_Checkfn6.g image_Checkfn6) := fn2 (image_Checkfn6.eq slices_ContainsFunc_api_Fn_api_Fnv1) Try.func83 (by kernel_rfl) (.cons slices_ContainsFunc_api_Fn_api_Fnv1.ok .nil) [] (by kernel_rfl) .nil
/-- function 97: sheerleg/image.look$1 -/
abbrev T_image_lookfn1v4 : Type := Tc7 → (List Int) → Tc9 → Tc8 → Int → Int → (Int → Tc7 → (List Int) → Tc9 → Tc8 → Int → Int → Option Bool) → Option Bool
noncomputable def image_lookfn1v4.body (image_Checkfn6 : T_image_Checkfn6) : T_image_lookfn1v4 := fun ts1636 ns1637 ts1638 ts1639 n1640 n1641 k1 =>
  (image_Checkfn6 ts1636 ns1637 ts1638 ts1639 n1640
  (fun b1702 ts1703 ns1704 ts1705 ts1706 n1707 => (cond_ b1702 (k1 n1641 ts1703 ns1704 ts1705 ts1706 n1707 n1641) (k1 (0 : Int) ts1703 ns1704 ts1705 ts1706 n1707 n1641))))
noncomputable def image_lookfn1v4 : T_image_lookfn1v4 := image_lookfn1v4.body image_Checkfn6
def image_lookfn1v4.p : FPat := fp 97 (ps (pq [0, 0] 0 0) (ps (pq [0, 2] 0 0) pz)) (pl (po [0, 0] 30 1 (em (pl (pf 83 pz (ps (pq [0, 1] 0 0) pz)) pz))) (pl (po [0, 1] 27 5 (em (pl (pa (pl (pb 1 55 Ty12) (pl (pb 2 2 (.int .i64)) (pl (pb 3 58 Ty15) (pl (pb 4 101 Ty11) (pl (pd (.int .i64)) pz)))))) pz))) (pl (po [0, 2] 31 1 (es (.int .i64) (pl eh pz))) pz)))
def image_lookfn1v4.g (F : T_image_lookfn1v4) (v : image_lookfn1v4.p.T) (k : KR) : Option Bool := F v.2.2.1.1.1 v.2.2.1.1.2.1 v.2.2.1.1.2.2.1 v.2.2.1.1.2.2.2.1 v.2.2.1.1.2.2.2.2.1 v.2.2.2.1.1 (fun y0 y1 y2 y3 y4 y5 y6 => k (.d ⟨(.int .i64), y0⟩) [([0, 0], ⟨30, 1, (.mix [(.fn (.func 83) [] [(.ptr [0, 1] 0 0)])])⟩), ([0, 1], ⟨27, 5, (.mix [(.agg [(.bv 1 55 Ty12 y1), (.bv 2 2 (.int .i64) y2), (.bv 3 58 Ty15 y3), (.bv 4 101 Ty11 y4), (.d ⟨(.int .i64), y5⟩)])])⟩), ([0, 2], ⟨31, 1, (.data (.int .i64) [y6])⟩)])
theorem image_lookfn1v4.eq (F0 : T_image_Checkfn6) : ∀ v k, exF Try.f97 image_lookfn1v4.p [⟨image_Checkfn6.p, image_Checkfn6.g F0⟩] [] [] v k = image_lookfn1v4.g (image_lookfn1v4.body F0) v k := fun v k => by kernel_rfl
theorem image_lookfn1v4.ok : okF 5 image_lookfn1v4.p (image_lookfn1v4.g image_lookfn1v4) := fn2 (image_lookfn1v4.eq image_Checkfn6) Try.func97 (by kernel_rfl) (.cons image_Checkfn6.ok .nil) [] (by kernel_rfl) .nil
/-- function 72: the loop in block 0 -/
abbrev T_image_all_L0 : Type := Int → Int → Tc7 → (List Int) → Tc9 → Tc8 → Int → Int → Int → Int → Int → Int → (Int → Tc7 → (List Int) → Tc9 → Tc8 → Int → Int → Int → Int → Int → Int → Option Bool) → (Tc7 → (List Int) → Tc9 → Tc8 → Int → Int → Int → Int → Int → Int → Option Bool) → Option Bool
noncomputable def image_all_L0.body (image_all_L0 : T_image_all_L0) (image_lookfn1 : T_image_lookfn1) (image_lookfn1v1 : T_image_lookfn1v1) (image_lookfn1v2 : T_image_lookfn1v2) (image_lookfn1v3 : T_image_lookfn1v3) (image_Checkfn5 : T_image_Checkfn5) (image_lookfn1v4 : T_image_lookfn1v4) : T_image_all_L0 := fun n1416 n1417 ts1418 ns1419 ts1420 ts1421 n1422 n1423 n1424 n1425 n1426 n1427 k1 k2 =>
  (cond_ (decide (n1417 < n1416)) (cond_ (n1417 == (0 : Int)) (image_lookfn1 ts1418 ns1419 ts1420 ts1421 n1422 n1423
  (fun n1445 ts1446 ns1447 ts1448 ts1449 n1450 n1451 => (cond_ (n1445 != (0 : Int)) (k1 n1445 ts1446 ns1447 ts1448 ts1449 n1450 n1451 n1424 n1425 n1426 n1427) (image_all_L0 n1416 (IntKind.wrap .i64 (n1417 + (1 : Int))) ts1446 ns1447 ts1448 ts1449 n1450 n1451 n1424 n1425 n1426 n1427 k1 k2)))) (cond_ (n1417 == (1 : Int)) (image_lookfn1v1 ts1418 ns1419 ts1420 ts1421 n1422 n1424
  (fun n1469 ts1470 ns1471 ts1472 ts1473 n1474 n1475 => (cond_ (n1469 != (0 : Int)) (k1 n1469 ts1470 ns1471 ts1472 ts1473 n1474 n1423 n1475 n1425 n1426 n1427) (image_all_L0 n1416 (IntKind.wrap .i64 (n1417 + (1 : Int))) ts1470 ns1471 ts1472 ts1473 n1474 n1423 n1475 n1425 n1426 n1427 k1 k2)))) (cond_ (n1417 == (2 : Int)) (image_lookfn1v2 ts1418 ns1419 ts1420 ts1421 n1422 n1425
  (fun n1515 ts1516 ns1517 ts1518 ts1519 n1520 n1521 => (cond_ (n1515 != (0 : Int)) (k1 n1515 ts1516 ns1517 ts1518 ts1519 n1520 n1423 n1424 n1521 n1426 n1427) (image_all_L0 n1416 (IntKind.wrap .i64 (n1417 + (1 : Int))) ts1516 ns1517 ts1518 ts1519 n1520 n1423 n1424 n1521 n1426 n1427 k1 k2)))) (cond_ (n1417 == (3 : Int)) (image_lookfn1v3 ts1418 ns1419 ts1420 ts1421 n1422 n1426
  (fun n1604 ts1605 ns1606 ts1607 ts1608 n1609 n1610 => (cond_ (n1604 != (0 : Int)) (k1 n1604 ts1605 ns1606 ts1607 ts1608 n1609 n1423 n1424 n1425 n1610 n1427) (image_all_L0 n1416 (IntKind.wrap .i64 (n1417 + (1 : Int))) ts1605 ns1606 ts1607 ts1608 n1609 n1423 n1424 n1425 n1610 n1427 k1 k2)))) (cond_ (n1417 == (4 : Int)) (image_Checkfn5 ts1418 ns1419 ts1420 ts1421 n1422
  (fun n1630 ts1631 ns1632 ts1633 ts1634 n1635 => (cond_ (n1630 != (0 : Int)) (k1 n1630 ts1631 ns1632 ts1633 ts1634 n1635 n1423 n1424 n1425 n1426 n1427) (image_all_L0 n1416 (IntKind.wrap .i64 (n1417 + (1 : Int))) ts1631 ns1632 ts1633 ts1634 n1635 n1423 n1424 n1425 n1426 n1427 k1 k2)))) (cond_ (n1417 == (5 : Int)) (image_lookfn1v4 ts1418 ns1419 ts1420 ts1421 n1422 n1427
  (fun n1708 ts1709 ns1710 ts1711 ts1712 n1713 n1714 => (cond_ (n1708 != (0 : Int)) (k1 n1708 ts1709 ns1710 ts1711 ts1712 n1713 n1423 n1424 n1425 n1426 n1714) (image_all_L0 n1416 (IntKind.wrap .i64 (n1417 + (1 : Int))) ts1709 ns1710 ts1711 ts1712 n1713 n1423 n1424 n1425 n1426 n1714 k1 k2)))) none)))))) (k2 ts1418 ns1419 ts1420 ts1421 n1422 n1423 n1424 n1425 n1426 n1427))
noncomputable def image_all_L0 : Nat → T_image_all_L0
  | 0 => fun _ _ _ _ _ _ _ _ _ _ _ _ _ _ => none
  | n + 1 => image_all_L0.body (image_all_L0 n) image_lookfn1 image_lookfn1v1 image_lookfn1v2 image_lookfn1v3 image_Checkfn5 image_lookfn1v4
def image_all_L0.p : LPat := lp 2 18 [6, 7, 8] (ps (pr [0, 0]) (pl (pd (.int .i64)) (pl (pd (.int .i64)) pz))) (pl (po [0, 0] 137 1 (em (pl (pf 97 pz (ps (pq [0, 1] 0 0) (ps (pq [0, 3] 0 0) pz))) (pl (pf 97 pz (ps (pq [0, 4] 0 0) (ps (pq [0, 5] 0 0) pz))) (pl (pf 97 pz (ps (pq [0, 6] 0 0) (ps (pq [0, 7] 0 0) pz))) (pl (pf 97 pz (ps (pq [0, 8] 0 0) (ps (pq [0, 9] 0 0) pz))) (pl (pf 81 pz (ps (pq [0, 2] 0 0) pz)) (pl (pf 97 pz (ps (pq [0, 10] 0 0) (ps (pq [0, 11] 0 0) pz))) pz)))))))) (pl (po [0, 1] 30 1 (em (pl (pf 74 pz (ps (pq [0, 2] 0 0) pz)) pz))) (pl (po [0, 2] 27 5 (em (pl (pa (pl (pb 1 55 Ty12) (pl (pb 2 2 (.int .i64)) (pl (pb 3 58 Ty15) (pl (pb 4 101 Ty11) (pl (pd (.int .i64)) pz)))))) pz))) (pl (po [0, 3] 31 1 (es (.int .i64) (pl eh pz))) (pl (po [0, 4] 30 1 (em (pl (pf 75 pz (ps (pq [0, 2] 0 0) pz)) pz))) (pl (po [0, 5] 31 1 (es (.int .i64) (pl eh pz))) (pl (po [0, 6] 30 1 (em (pl (pf 76 pz (ps (pq [0, 2] 0 0) pz)) pz))) (pl (po [0, 7] 31 1 (es (.int .i64) (pl eh pz))) (pl (po [0, 8] 30 1 (em (pl (pf 78 pz (ps (pq [0, 2] 0 0) pz)) pz))) (pl (po [0, 9] 31 1 (es (.int .i64) (pl eh pz))) (pl (po [0, 10] 30 1 (em (pl (pf 83 pz (ps (pq [0, 2] 0 0) pz)) pz))) (pl (po [0, 11] 31 1 (es (.int .i64) (pl eh pz))) pz))))))))))))
def image_all_L0.g (F : T_image_all_L0) (v : image_all_L0.p.T) (k : KE) : Option Bool := F v.1.1 v.1.2.1 v.2.2.2.1.1.1 v.2.2.2.1.1.2.1 v.2.2.2.1.1.2.2.1 v.2.2.2.1.1.2.2.2.1 v.2.2.2.1.1.2.2.2.2.1 v.2.2.2.2.1.1 v.2.2.2.2.2.2.1.1 v.2.2.2.2.2.2.2.2.1.1 v.2.2.2.2.2.2.2.2.2.2.1.1 v.2.2.2.2.2.2.2.2.2.2.2.2.1.1 (fun y0 y1 y2 y3 y4 y5 y6 y7 y8 y9 y10 => k .ret ⟨fillS 18 [2] [(.d ⟨(.int .i64), y0⟩)], [([0, 0], ⟨137, 1, (.mix [(.fn (.func 97) [] [(.ptr [0, 1] 0 0), (.ptr [0, 3] 0 0)]), (.fn (.func 97) [] [(.ptr [0, 4] 0 0), (.ptr [0, 5] 0 0)]), (.fn (.func 97) [] [(.ptr [0, 6] 0 0), (.ptr [0, 7] 0 0)]), (.fn (.func 97) [] [(.ptr [0, 8] 0 0), (.ptr [0, 9] 0 0)]), (.fn (.func 81) [] [(.ptr [0, 2] 0 0)]), (.fn (.func 97) [] [(.ptr [0, 10] 0 0), (.ptr [0, 11] 0 0)])])⟩), ([0, 1], ⟨30, 1, (.mix [(.fn (.func 74) [] [(.ptr [0, 2] 0 0)])])⟩), ([0, 2], ⟨27, 5, (.mix [(.agg [(.bv 1 55 Ty12 y1), (.bv 2 2 (.int .i64) y2), (.bv 3 58 Ty15 y3), (.bv 4 101 Ty11 y4), (.d ⟨(.int .i64), y5⟩)])])⟩), ([0, 3], ⟨31, 1, (.data (.int .i64) [y6])⟩), ([0, 4], ⟨30, 1, (.mix [(.fn (.func 75) [] [(.ptr [0, 2] 0 0)])])⟩), ([0, 5], ⟨31, 1, (.data (.int .i64) [y7])⟩), ([0, 6], ⟨30, 1, (.mix [(.fn (.func 76) [] [(.ptr [0, 2] 0 0)])])⟩), ([0, 7], ⟨31, 1, (.data (.int .i64) [y8])⟩), ([0, 8], ⟨30, 1, (.mix [(.fn (.func 78) [] [(.ptr [0, 2] 0 0)])])⟩), ([0, 9], ⟨31, 1, (.data (.int .i64) [y9])⟩), ([0, 10], ⟨30, 1, (.mix [(.fn (.func 83) [] [(.ptr [0, 2] 0 0)])])⟩), ([0, 11], ⟨31, 1, (.data (.int .i64) [y10])⟩)], 2⟩) (fun y0 y1 y2 y3 y4 y5 y6 y7 y8 y9 => k (.exit 0) ⟨fillS 18 [] [], [([0, 0], ⟨137, 1, (.mix [(.fn (.func 97) [] [(.ptr [0, 1] 0 0), (.ptr [0, 3] 0 0)]), (.fn (.func 97) [] [(.ptr [0, 4] 0 0), (.ptr [0, 5] 0 0)]), (.fn (.func 97) [] [(.ptr [0, 6] 0 0), (.ptr [0, 7] 0 0)]), (.fn (.func 97) [] [(.ptr [0, 8] 0 0), (.ptr [0, 9] 0 0)]), (.fn (.func 81) [] [(.ptr [0, 2] 0 0)]), (.fn (.func 97) [] [(.ptr [0, 10] 0 0), (.ptr [0, 11] 0 0)])])⟩), ([0, 1], ⟨30, 1, (.mix [(.fn (.func 74) [] [(.ptr [0, 2] 0 0)])])⟩), ([0, 2], ⟨27, 5, (.mix [(.agg [(.bv 1 55 Ty12 y0), (.bv 2 2 (.int .i64) y1), (.bv 3 58 Ty15 y2), (.bv 4 101 Ty11 y3), (.d ⟨(.int .i64), y4⟩)])])⟩), ([0, 3], ⟨31, 1, (.data (.int .i64) [y5])⟩), ([0, 4], ⟨30, 1, (.mix [(.fn (.func 75) [] [(.ptr [0, 2] 0 0)])])⟩), ([0, 5], ⟨31, 1, (.data (.int .i64) [y6])⟩), ([0, 6], ⟨30, 1, (.mix [(.fn (.func 76) [] [(.ptr [0, 2] 0 0)])])⟩), ([0, 7], ⟨31, 1, (.data (.int .i64) [y7])⟩), ([0, 8], ⟨30, 1, (.mix [(.fn (.func 78) [] [(.ptr [0, 2] 0 0)])])⟩), ([0, 9], ⟨31, 1, (.data (.int .i64) [y8])⟩), ([0, 10], ⟨30, 1, (.mix [(.fn (.func 83) [] [(.ptr [0, 2] 0 0)])])⟩), ([0, 11], ⟨31, 1, (.data (.int .i64) [y9])⟩)], 2⟩)
theorem image_all_L0.step (S : T_image_all_L0) (F0 : T_image_lookfn1) (F1 : T_image_lookfn1v1) (F2 : T_image_lookfn1v2) (F3 : T_image_lookfn1v3) (F4 : T_image_Checkfn5) (F5 : T_image_lookfn1v4) : ∀ v k, exR 72 Try.f72 0 image_all_L0.p [⟨image_lookfn1.p, image_lookfn1.g F0⟩, ⟨image_lookfn1v1.p, image_lookfn1v1.g F1⟩, ⟨image_lookfn1v2.p, image_lookfn1v2.g F2⟩, ⟨image_lookfn1v3.p, image_lookfn1v3.g F3⟩, ⟨image_Checkfn5.p, image_Checkfn5.g F4⟩, ⟨image_lookfn1v4.p, image_lookfn1v4.g F5⟩] [] [] (image_all_L0.g S) v k = image_all_L0.g (image_all_L0.body S F0 F1 F2 F3 F4 F5) v k := fun v k => by kernel_rfl
theorem image_all_L0.ok : okL 72 Try.f72 5 0 image_all_L0.p (image_all_L0.g (image_all_L0 ROUNDS)) := loop2 (G := fun n => image_all_L0.g (image_all_L0 n)) (fun n => image_all_L0.step (image_all_L0 n) image_lookfn1 image_lookfn1v1 image_lookfn1v2 image_lookfn1v3 image_Checkfn5 image_lookfn1v4) (.cons image_lookfn1.ok (.cons image_lookfn1v1.ok (.cons image_lookfn1v2.ok (.cons image_lookfn1v3.ok (.cons image_Checkfn5.ok (.cons image_lookfn1v4.ok .nil)))))) [] (by kernel_rfl) .nil (fun _ _ => rfl)
/-- function 72: sheerleg/image.all -/
abbrev T_image_all : Type := Tc7 → (List Int) → Tc9 → Tc8 → Int → Int → Int → Int → Int → Int → (Int → Tc7 → (List Int) → Tc9 → Tc8 → Int → Int → Int → Int → Int → Int → Option Bool) → Option Bool
noncomputable def image_all.body (image_all_L0 : T_image_all_L0) : T_image_all := fun ts1406 ns1407 ts1408 ts1409 n1410 n1411 n1412 n1413 n1414 n1415 k1 =>
  (image_all_L0 (6 : Int) (0 : Int) ts1406 ns1407 ts1408 ts1409 n1410 n1411 n1412 n1413 n1414 n1415
  (fun n1715 ts1716 ns1717 ts1718 ts1719 n1720 n1721 n1722 n1723 n1724 n1725 => (k1 n1715 ts1716 ns1717 ts1718 ts1719 n1720 n1721 n1722 n1723 n1724 n1725))
  (fun ts1726 ns1727 ts1728 ts1729 n1730 n1731 n1732 n1733 n1734 n1735 => (k1 (0 : Int) ts1726 ns1727 ts1728 ts1729 n1730 n1731 n1732 n1733 n1734 n1735)))
noncomputable def image_all : T_image_all := image_all.body (image_all_L0 ROUNDS)
def image_all.p : FPat := fp 72 (ps (pr [0, 0]) pz) (pl (po [0, 0] 137 1 (em (pl (pf 97 pz (ps (pq [0, 1] 0 0) (ps (pq [0, 3] 0 0) pz))) (pl (pf 97 pz (ps (pq [0, 4] 0 0) (ps (pq [0, 5] 0 0) pz))) (pl (pf 97 pz (ps (pq [0, 6] 0 0) (ps (pq [0, 7] 0 0) pz))) (pl (pf 97 pz (ps (pq [0, 8] 0 0) (ps (pq [0, 9] 0 0) pz))) (pl (pf 81 pz (ps (pq [0, 2] 0 0) pz)) (pl (pf 97 pz (ps (pq [0, 10] 0 0) (ps (pq [0, 11] 0 0) pz))) pz)))))))) (pl (po [0, 1] 30 1 (em (pl (pf 74 pz (ps (pq [0, 2] 0 0) pz)) pz))) (pl (po [0, 2] 27 5 (em (pl (pa (pl (pb 1 55 Ty12) (pl (pb 2 2 (.int .i64)) (pl (pb 3 58 Ty15) (pl (pb 4 101 Ty11) (pl (pd (.int .i64)) pz)))))) pz))) (pl (po [0, 3] 31 1 (es (.int .i64) (pl eh pz))) (pl (po [0, 4] 30 1 (em (pl (pf 75 pz (ps (pq [0, 2] 0 0) pz)) pz))) (pl (po [0, 5] 31 1 (es (.int .i64) (pl eh pz))) (pl (po [0, 6] 30 1 (em (pl (pf 76 pz (ps (pq [0, 2] 0 0) pz)) pz))) (pl (po [0, 7] 31 1 (es (.int .i64) (pl eh pz))) (pl (po [0, 8] 30 1 (em (pl (pf 78 pz (ps (pq [0, 2] 0 0) pz)) pz))) (pl (po [0, 9] 31 1 (es (.int .i64) (pl eh pz))) (pl (po [0, 10] 30 1 (em (pl (pf 83 pz (ps (pq [0, 2] 0 0) pz)) pz))) (pl (po [0, 11] 31 1 (es (.int .i64) (pl eh pz))) pz))))))))))))
def image_all.g (F : T_image_all) (v : image_all.p.T) (k : KR) : Option Bool := F v.2.2.2.1.1.1 v.2.2.2.1.1.2.1 v.2.2.2.1.1.2.2.1 v.2.2.2.1.1.2.2.2.1 v.2.2.2.1.1.2.2.2.2.1 v.2.2.2.2.1.1 v.2.2.2.2.2.2.1.1 v.2.2.2.2.2.2.2.2.1.1 v.2.2.2.2.2.2.2.2.2.2.1.1 v.2.2.2.2.2.2.2.2.2.2.2.2.1.1 (fun y0 y1 y2 y3 y4 y5 y6 y7 y8 y9 y10 => k (.d ⟨(.int .i64), y0⟩) [([0, 0], ⟨137, 1, (.mix [(.fn (.func 97) [] [(.ptr [0, 1] 0 0), (.ptr [0, 3] 0 0)]), (.fn (.func 97) [] [(.ptr [0, 4] 0 0), (.ptr [0, 5] 0 0)]), (.fn (.func 97) [] [(.ptr [0, 6] 0 0), (.ptr [0, 7] 0 0)]), (.fn (.func 97) [] [(.ptr [0, 8] 0 0), (.ptr [0, 9] 0 0)]), (.fn (.func 81) [] [(.ptr [0, 2] 0 0)]), (.fn (.func 97) [] [(.ptr [0, 10] 0 0), (.ptr [0, 11] 0 0)])])⟩), ([0, 1], ⟨30, 1, (.mix [(.fn (.func 74) [] [(.ptr [0, 2] 0 0)])])⟩), ([0, 2], ⟨27, 5, (.mix [(.agg [(.bv 1 55 Ty12 y1), (.bv 2 2 (.int .i64) y2), (.bv 3 58 Ty15 y3), (.bv 4 101 Ty11 y4), (.d ⟨(.int .i64), y5⟩)])])⟩), ([0, 3], ⟨31, 1, (.data (.int .i64) [y6])⟩), ([0, 4], ⟨30, 1, (.mix [(.fn (.func 75) [] [(.ptr [0, 2] 0 0)])])⟩), ([0, 5], ⟨31, 1, (.data (.int .i64) [y7])⟩), ([0, 6], ⟨30, 1, (.mix [(.fn (.func 76) [] [(.ptr [0, 2] 0 0)])])⟩), ([0, 7], ⟨31, 1, (.data (.int .i64) [y8])⟩), ([0, 8], ⟨30, 1, (.mix [(.fn (.func 78) [] [(.ptr [0, 2] 0 0)])])⟩), ([0, 9], ⟨31, 1, (.data (.int .i64) [y9])⟩), ([0, 10], ⟨30, 1, (.mix [(.fn (.func 83) [] [(.ptr [0, 2] 0 0)])])⟩), ([0, 11], ⟨31, 1, (.data (.int .i64) [y10])⟩)])
theorem image_all.eq (L0 : T_image_all_L0) : ∀ v k, exF Try.f72 image_all.p [] [] [⟨0, image_all_L0.p, image_all_L0.g L0⟩] v k = image_all.g (image_all.body L0) v k := fun v k => by kernel_rfl
theorem image_all.ok : okF 6 image_all.p (image_all.g image_all) := fn2 (image_all.eq (image_all_L0 ROUNDS)) Try.func72 (by kernel_rfl) .nil [0] (by kernel_rfl) (.cons image_all_L0.ok .nil)
/-- function 42: sheerleg/image.Check -/
abbrev T_image_Check : Type := Tc7 → (List Int) → Tc9 → Tc8 → Int → (Int → Option Bool) → Option Bool
noncomputable def image_Check.body (image_look : T_image_look) (image_lookv1 : T_image_lookv1) (image_lookv2 : T_image_lookv2) (image_lookv3 : T_image_lookv3) (image_lookv4 : T_image_lookv4) (image_all : T_image_all) : T_image_Check := fun ts1341 ns1342 ts1343 ts1344 n1345 k1 =>
  (image_look (19 : Int) ts1341 ns1342 ts1343 ts1344 n1345
  (fun ts1352 ns1353 ts1354 ts1355 n1356 n1357 => (image_lookv1 (3 : Int) ts1352 ns1353 ts1354 ts1355 n1356
  (fun ts1364 ns1365 ts1366 ts1367 n1368 n1369 => (image_lookv2 (9 : Int) ts1364 ns1365 ts1366 ts1367 n1368
  (fun ts1376 ns1377 ts1378 ts1379 n1380 n1381 => (image_lookv3 (8 : Int) ts1376 ns1377 ts1378 ts1379 n1380
  (fun ts1388 ns1389 ts1390 ts1391 n1392 n1393 => (image_lookv4 (15 : Int) ts1388 ns1389 ts1390 ts1391 n1392
  (fun ts1400 ns1401 ts1402 ts1403 n1404 n1405 => (image_all ts1400 ns1401 ts1402 ts1403 n1404 n1357 n1369 n1381 n1393 n1405
  (fun n1736 ts1737 ns1738 ts1739 ts1740 n1741 n1742 n1743 n1744 n1745 n1746 => (k1 n1736)))))))))))))
noncomputable def image_Check : T_image_Check := image_Check.body image_look image_lookv1 image_lookv2 image_lookv3 image_lookv4 image_all
def image_Check.p : FPat := fp 42 (pl (pa (pl (pb 1 55 Ty12) (pl (pb 2 2 (.int .i64)) (pl (pb 3 58 Ty15) (pl (pb 4 101 Ty11) (pl (pd (.int .i64)) pz)))))) pz) pz
def image_Check.g (F : T_image_Check) (v : image_Check.p.T) (k : KR) : Option Bool := F v.1.1.1 v.1.1.2.1 v.1.1.2.2.1 v.1.1.2.2.2.1 v.1.1.2.2.2.2.1 (fun y0 => k (.d ⟨(.int .i64), y0⟩) [])
theorem image_Check.eq (F0 : T_image_look) (F1 : T_image_lookv1) (F2 : T_image_lookv2) (F3 : T_image_lookv3) (F4 : T_image_lookv4) (F5 : T_image_all) : ∀ v k, exF Try.f42 image_Check.p [⟨image_look.p, image_look.g F0⟩, ⟨image_lookv1.p, image_lookv1.g F1⟩, ⟨image_lookv2.p, image_lookv2.g F2⟩, ⟨image_lookv3.p, image_lookv3.g F3⟩, ⟨image_lookv4.p, image_lookv4.g F4⟩, ⟨image_all.p, image_all.g F5⟩] [] [] v k = image_Check.g (image_Check.body F0 F1 F2 F3 F4 F5) v k := fun v k => by kernel_rfl
theorem image_Check.ok : okF 7 image_Check.p (image_Check.g image_Check) := fn2 (image_Check.eq image_look image_lookv1 image_lookv2 image_lookv3 image_lookv4 image_all) Try.func42 (by kernel_rfl) (.cons image_look.ok (.cons image_lookv1.ok (.cons image_lookv2.ok (.cons image_lookv3.ok (.cons image_lookv4.ok (.cons image_all.ok .nil)))))) [] (by kernel_rfl) .nil
/-- function 15: sheerleg/pack.inner -/
abbrev T_pack_inner : Type := (List Int) → (Tc11 → Int → Option Bool) → Option Bool
noncomputable def pack_inner.body (octet_New : T_octet_New) (pack_body : T_pack_body) (octet_Reader_Bad : T_octet_Reader_Bad) (runs_Get : T_runs_Get) (octet_Reader_Left : T_octet_Reader_Left) (image_Check : T_image_Check) : T_pack_inner := fun ns1251 k1 =>
  (cond_ (decide ((List.length ns1251 : Int) < (4 : Int))) (k1 ([], ([], ([], ([], (0, ()))))) (5 : Int)) (cond_ (true && (decide ((4 : Int) ≤ (List.length ns1251 : Int)))) (cond_ (! ((ByteArray.toList (strOf (List.take (4 : Nat) (List.drop (0 : Nat) ns1251)))) == (ByteArray.toList (⟨#[83, 72, 73, 49]⟩ : ByteArray)))) (k1 ([], ([], ([], ([], (0, ()))))) (3 : Int)) (cond_ (true && (decide ((4 : Int) ≤ (List.length ns1251 : Int)))) (octet_New (List.take ((List.length ns1251) - (4 : Nat)) (List.drop (4 : Nat) ns1251))
  (fun n1252 b1253 b1254 ns1255 => (pack_body n1252 b1253 b1254 ns1255
  (fun n1256 n1257 b1258 b1259 ns1260 ts1261 ns1262 ts1263 => (octet_Reader_Bad n1257 b1258 b1259 ns1260
  (fun b1264 n1265 b1266 b1267 ns1268 => (cond_ b1264 (k1 (ts1261, (ns1262, (ts1263, ([], (n1256, ()))))) (5 : Int)) (runs_Get n1265 b1266 b1267 ns1268
  (fun n1330 n1331 b1332 b1333 ns1334 ts1335 => (cond_ (n1330 != (0 : Int)) (k1 (ts1261, (ns1262, (ts1263, (ts1335, (n1256, ()))))) n1330) (octet_Reader_Left n1331 b1332 b1333 ns1334
  (fun n1336 n1337 b1338 b1339 ns1340 => (cond_ (decide (n1336 > (0 : Int))) (k1 (ts1261, (ns1262, (ts1263, (ts1335, (n1256, ()))))) (6 : Int)) (image_Check ts1261 ns1262 ts1263 ts1335 n1256
  (fun n1747 => (k1 (ts1261, (ns1262, (ts1263, (ts1335, (n1256, ()))))) n1747)))))))))))))))) none)) none))
noncomputable def pack_inner : T_pack_inner := pack_inner.body octet_New pack_body octet_Reader_Bad runs_Get octet_Reader_Left image_Check
def pack_inner.p : FPat := fp 15 (pl (pb 1 5 (.int .u8)) pz) pz
def pack_inner.g (F : T_pack_inner) (v : pack_inner.p.T) (k : KR) : Option Bool := F v.1.1 (fun y0 y1 => k (.tup [(.d ⟨Ty18, y0⟩), (.d ⟨(.int .i64), y1⟩)]) [])
theorem pack_inner.eq (F0 : T_octet_New) (F1 : T_pack_body) (F2 : T_octet_Reader_Bad) (F3 : T_runs_Get) (F4 : T_octet_Reader_Left) (F5 : T_image_Check) : ∀ v k, exF Try.f15 pack_inner.p [⟨octet_New.p, octet_New.g F0⟩, ⟨pack_body.p, pack_body.g F1⟩, ⟨octet_Reader_Bad.p, octet_Reader_Bad.g F2⟩, ⟨runs_Get.p, runs_Get.g F3⟩, ⟨octet_Reader_Left.p, octet_Reader_Left.g F4⟩, ⟨image_Check.p, image_Check.g F5⟩] [] [] v k = pack_inner.g (pack_inner.body F0 F1 F2 F3 F4 F5) v k := fun v k => by kernel_rfl
theorem pack_inner.ok : okF 9 pack_inner.p (pack_inner.g pack_inner) := fn2 (pack_inner.eq octet_New pack_body octet_Reader_Bad runs_Get octet_Reader_Left image_Check) Try.func15 (by kernel_rfl) (.cons octet_New.ok (.cons pack_body.ok (.cons octet_Reader_Bad.ok (.cons runs_Get.ok (.cons octet_Reader_Left.ok (.cons image_Check.ok .nil)))))) [] (by kernel_rfl) .nil
/-- function 6: sheerleg/pack.Get -/
abbrev T_pack_Get : Type := (List Int) → (Tc11 → Int → Option Bool) → Option Bool
noncomputable def pack_Get.body (sum_Open : T_sum_Open) (pack_inner : T_pack_inner) : T_pack_Get := fun ns1248 k1 =>
  (sum_Open ns1248
  (fun n1249 ns1250 => (cond_ (n1249 != (0 : Int)) (k1 ([], ([], ([], ([], (0, ()))))) n1249) (pack_inner ns1250
  (fun t1748 n1749 => (cond_ (n1749 != (0 : Int)) (k1 ([], ([], ([], ([], (0, ()))))) n1749) (k1 (t1748.1, (t1748.2.1, (t1748.2.2.1, (t1748.2.2.2.1, (t1748.2.2.2.2.1, ()))))) (0 : Int))))))))
noncomputable def pack_Get : T_pack_Get := pack_Get.body sum_Open pack_inner
def pack_Get.p : FPat := fp 6 (pl (pb 1 5 (.int .u8)) pz) pz
def pack_Get.g (F : T_pack_Get) (v : pack_Get.p.T) (k : KR) : Option Bool := F v.1.1 (fun y0 y1 => k (.tup [(.d ⟨Ty18, y0⟩), (.d ⟨(.int .i64), y1⟩)]) [])
theorem pack_Get.eq (F0 : T_sum_Open) (F1 : T_pack_inner) : ∀ v k, exF Try.f6 pack_Get.p [⟨sum_Open.p, sum_Open.g F0⟩, ⟨pack_inner.p, pack_inner.g F1⟩] [] [] v k = pack_Get.g (pack_Get.body F0 F1) v k := fun v k => by kernel_rfl
theorem pack_Get.ok : okF 10 pack_Get.p (pack_Get.g pack_Get) := fn2 (pack_Get.eq sum_Open pack_inner) Try.func6 (by kernel_rfl) (.cons sum_Open.ok (.cons pack_inner.ok .nil)) [] (by kernel_rfl) .nil
/-- function 14: sheerleg/sum.Open -/
abbrev T_sum_Openv1 : Type := (Int → (List Int) → Option Bool) → Option Bool
noncomputable def sum_Openv1.body : T_sum_Openv1 := fun k1 =>
  (k1 (5 : Int) [])
noncomputable def sum_Openv1 : T_sum_Openv1 := sum_Openv1.body
def sum_Openv1.p : FPat := fp 14 (ps (pk 0) pz) pz
def sum_Openv1.g (F : T_sum_Openv1) (v : sum_Openv1.p.T) (k : KR) : Option Bool := F (fun y0 y1 => k (.tup [(.ref [1, 0]), (.d ⟨(.int .i64), y0⟩)]) [([1, 0], ⟨5, 1, (.data (.int .u8) y1)⟩)])
theorem sum_Openv1.eq : ∀ v k, exF Try.f14 sum_Openv1.p [] [] [] v k = sum_Openv1.g (sum_Openv1.body) v k := fun v k => by kernel_rfl
theorem sum_Openv1.ok : okF 1 sum_Openv1.p (sum_Openv1.g sum_Openv1) := fn2 (sum_Openv1.eq) Try.func14 (by kernel_rfl) .nil [] (by kernel_rfl) .nil
/-- function 6: sheerleg/pack.Get -/
abbrev T_pack_Getv1 : Type := (Tc11 → Int → Option Bool) → Option Bool
noncomputable def pack_Getv1.body (sum_Openv1 : T_sum_Openv1) (pack_inner : T_pack_inner) : T_pack_Getv1 := fun k1 =>
  (sum_Openv1
  (fun n1752 ns1753 => (cond_ (n1752 != (0 : Int)) (k1 ([], ([], ([], ([], (0, ()))))) n1752) (pack_inner ns1753
  (fun t1754 n1755 => (cond_ (n1755 != (0 : Int)) (k1 ([], ([], ([], ([], (0, ()))))) n1755) (k1 (t1754.1, (t1754.2.1, (t1754.2.2.1, (t1754.2.2.2.1, (t1754.2.2.2.2.1, ()))))) (0 : Int))))))))
noncomputable def pack_Getv1 : T_pack_Getv1 := pack_Getv1.body sum_Openv1 pack_inner
def pack_Getv1.p : FPat := fp 6 (ps (pk 0) pz) pz
def pack_Getv1.g (F : T_pack_Getv1) (v : pack_Getv1.p.T) (k : KR) : Option Bool := F (fun y0 y1 => k (.tup [(.d ⟨Ty18, y0⟩), (.d ⟨(.int .i64), y1⟩)]) [])
theorem pack_Getv1.eq (F0 : T_sum_Openv1) (F1 : T_pack_inner) : ∀ v k, exF Try.f6 pack_Getv1.p [⟨sum_Openv1.p, sum_Openv1.g F0⟩, ⟨pack_inner.p, pack_inner.g F1⟩] [] [] v k = pack_Getv1.g (pack_Getv1.body F0 F1) v k := fun v k => by kernel_rfl
theorem pack_Getv1.ok : okF 10 pack_Getv1.p (pack_Getv1.g pack_Getv1) := fn2 (pack_Getv1.eq sum_Openv1 pack_inner) Try.func6 (by kernel_rfl) (.cons sum_Openv1.ok (.cons pack_inner.ok .nil)) [] (by kernel_rfl) .nil
/-- function 26: the loop in block 0 -/
abbrev T_ref32_Same_L0 : Type := Tc7 → Tc7 → Int → (Bool → Option Bool) → (Option Bool) → Option Bool
noncomputable def ref32_Same_L0.body (ref32_Same_L0 : T_ref32_Same_L0) : T_ref32_Same_L0 := fun ts1766 ts1767 n1768 k1 k2 =>
  (cond_ (decide (n1768 < (List.length ts1766 : Int))) (cond_ ((decide ((0 : Int) ≤ n1768)) && (decide (n1768 < (List.length ts1766 : Int)))) (cond_ ((decide ((0 : Int) ≤ n1768)) && (decide (n1768 < (List.length ts1767 : Int)))) (cond_ (! (((List.getD ts1766 (Int.toNat n1768) (0, (0, (0, (0, (0, ())))))).1 == (List.getD ts1767 (Int.toNat n1768) (0, (0, (0, (0, (0, ())))))).1) && (((List.getD ts1766 (Int.toNat n1768) (0, (0, (0, (0, (0, ())))))).2.1 == (List.getD ts1767 (Int.toNat n1768) (0, (0, (0, (0, (0, ())))))).2.1) && (((List.getD ts1766 (Int.toNat n1768) (0, (0, (0, (0, (0, ())))))).2.2.1 == (List.getD ts1767 (Int.toNat n1768) (0, (0, (0, (0, (0, ())))))).2.2.1) && (((List.getD ts1766 (Int.toNat n1768) (0, (0, (0, (0, (0, ())))))).2.2.2.1 == (List.getD ts1767 (Int.toNat n1768) (0, (0, (0, (0, (0, ())))))).2.2.2.1) && (((List.getD ts1766 (Int.toNat n1768) (0, (0, (0, (0, (0, ())))))).2.2.2.2.1 == (List.getD ts1767 (Int.toNat n1768) (0, (0, (0, (0, (0, ())))))).2.2.2.2.1) && true)))))) (k1 false) (ref32_Same_L0 ts1766 ts1767 (IntKind.wrap .i64 (n1768 + (1 : Int))) k1 k2)) none) none) (k2))
noncomputable def ref32_Same_L0 : Nat → T_ref32_Same_L0
  | 0 => fun _ _ _ _ _ => none
  | n + 1 => ref32_Same_L0.body (ref32_Same_L0 n)
def ref32_Same_L0.p : LPat := lp 2 26 [0, 1, 5] (pl (pb 0 55 Ty12) (pl (pb 1 55 Ty12) (pl (pd (.int .i64)) pz))) pz
def ref32_Same_L0.g (F : T_ref32_Same_L0) (v : ref32_Same_L0.p.T) (k : KE) : Option Bool := F v.1.1 v.1.2.1 v.1.2.2.1 (fun y0 => k .ret ⟨fillS 26 [4] [(.d ⟨.bool, y0⟩)], [], 2⟩) (k (.exit 0) ⟨fillS 26 [] [], [], 2⟩)
theorem ref32_Same_L0.step (S : T_ref32_Same_L0) : ∀ v k, exR 26 Try.f26 0 ref32_Same_L0.p [] [] [] (ref32_Same_L0.g S) v k = ref32_Same_L0.g (ref32_Same_L0.body S) v k := fun v k => by kernel_rfl
theorem ref32_Same_L0.ok : okL 26 Try.f26 0 0 ref32_Same_L0.p (ref32_Same_L0.g (ref32_Same_L0 ROUNDS)) := loop2 (G := fun n => ref32_Same_L0.g (ref32_Same_L0 n)) (fun n => ref32_Same_L0.step (ref32_Same_L0 n)) .nil [] (by kernel_rfl) .nil (fun _ _ => rfl)
/-- function 26: sheerleg/sheerlegref32.Same -/
abbrev T_ref32_Same : Type := Tc7 → Tc7 → (Bool → Option Bool) → Option Bool
noncomputable def ref32_Same.body (ref32_Same_L0 : T_ref32_Same_L0) : T_ref32_Same := fun ts1764 ts1765 k1 =>
  (cond_ ((List.length ts1764 : Int) != (List.length ts1765 : Int)) (k1 false) (ref32_Same_L0 ts1764 ts1765 (0 : Int)
  (fun b1769 => (k1 b1769))
  (k1 true)))
noncomputable def ref32_Same : T_ref32_Same := ref32_Same.body (ref32_Same_L0 ROUNDS)
def ref32_Same.p : FPat := fp 26 (pl (pb 0 55 Ty12) (pl (pb 1 55 Ty12) pz)) pz
def ref32_Same.g (F : T_ref32_Same) (v : ref32_Same.p.T) (k : KR) : Option Bool := F v.1.1 v.1.2.1 (fun y0 => k (.d ⟨.bool, y0⟩) [])
theorem ref32_Same.eq (L0 : T_ref32_Same_L0) : ∀ v k, exF Try.f26 ref32_Same.p [] [] [⟨0, ref32_Same_L0.p, ref32_Same_L0.g L0⟩] v k = ref32_Same.g (ref32_Same.body L0) v k := fun v k => by kernel_rfl
theorem ref32_Same.ok : okF 1 ref32_Same.p (ref32_Same.g ref32_Same) := fn2 (ref32_Same.eq (ref32_Same_L0 ROUNDS)) Try.func26 (by kernel_rfl) .nil [0] (by kernel_rfl) (.cons ref32_Same_L0.ok .nil)
/-- function 27: the loop in block 0 -/
abbrev T_ref01_Longs_L0 : Type := (List Int) → (List Int) → Int → (Bool → Option Bool) → (Option Bool) → Option Bool
noncomputable def ref01_Longs_L0.body (ref01_Longs_L0 : T_ref01_Longs_L0) : T_ref01_Longs_L0 := fun ns1773 ns1774 n1775 k1 k2 =>
  (cond_ (decide (n1775 < (List.length ns1773 : Int))) (cond_ ((decide ((0 : Int) ≤ n1775)) && (decide (n1775 < (List.length ns1773 : Int)))) (cond_ ((decide ((0 : Int) ≤ n1775)) && (decide (n1775 < (List.length ns1774 : Int)))) (cond_ ((List.getD ns1773 (Int.toNat n1775) (0 : Int)) != (List.getD ns1774 (Int.toNat n1775) (0 : Int))) (k1 false) (ref01_Longs_L0 ns1773 ns1774 (IntKind.wrap .i64 (n1775 + (1 : Int))) k1 k2)) none) none) (k2))
noncomputable def ref01_Longs_L0 : Nat → T_ref01_Longs_L0
  | 0 => fun _ _ _ _ _ => none
  | n + 1 => ref01_Longs_L0.body (ref01_Longs_L0 n)
def ref01_Longs_L0.p : LPat := lp 2 26 [0, 1, 5] (pl (pb 0 2 (.int .i64)) (pl (pb 1 2 (.int .i64)) (pl (pd (.int .i64)) pz))) pz
def ref01_Longs_L0.g (F : T_ref01_Longs_L0) (v : ref01_Longs_L0.p.T) (k : KE) : Option Bool := F v.1.1 v.1.2.1 v.1.2.2.1 (fun y0 => k .ret ⟨fillS 26 [4] [(.d ⟨.bool, y0⟩)], [], 2⟩) (k (.exit 0) ⟨fillS 26 [] [], [], 2⟩)
theorem ref01_Longs_L0.step (S : T_ref01_Longs_L0) : ∀ v k, exR 27 Try.f27 0 ref01_Longs_L0.p [] [] [] (ref01_Longs_L0.g S) v k = ref01_Longs_L0.g (ref01_Longs_L0.body S) v k := fun v k => by kernel_rfl
theorem ref01_Longs_L0.ok : okL 27 Try.f27 0 0 ref01_Longs_L0.p (ref01_Longs_L0.g (ref01_Longs_L0 ROUNDS)) := loop2 (G := fun n => ref01_Longs_L0.g (ref01_Longs_L0 n)) (fun n => ref01_Longs_L0.step (ref01_Longs_L0 n)) .nil [] (by kernel_rfl) .nil (fun _ _ => rfl)
/-- function 27: sheerleg/sheerlegref01.Longs -/
abbrev T_ref01_Longs : Type := (List Int) → (List Int) → (Bool → Option Bool) → Option Bool
noncomputable def ref01_Longs.body (ref01_Longs_L0 : T_ref01_Longs_L0) : T_ref01_Longs := fun ns1771 ns1772 k1 =>
  (cond_ ((List.length ns1771 : Int) != (List.length ns1772 : Int)) (k1 false) (ref01_Longs_L0 ns1771 ns1772 (0 : Int)
  (fun b1776 => (k1 b1776))
  (k1 true)))
noncomputable def ref01_Longs : T_ref01_Longs := ref01_Longs.body (ref01_Longs_L0 ROUNDS)
def ref01_Longs.p : FPat := fp 27 (pl (pb 0 2 (.int .i64)) (pl (pb 1 2 (.int .i64)) pz)) pz
def ref01_Longs.g (F : T_ref01_Longs) (v : ref01_Longs.p.T) (k : KR) : Option Bool := F v.1.1 v.1.2.1 (fun y0 => k (.d ⟨.bool, y0⟩) [])
theorem ref01_Longs.eq (L0 : T_ref01_Longs_L0) : ∀ v k, exF Try.f27 ref01_Longs.p [] [] [⟨0, ref01_Longs_L0.p, ref01_Longs_L0.g L0⟩] v k = ref01_Longs.g (ref01_Longs.body L0) v k := fun v k => by kernel_rfl
theorem ref01_Longs.ok : okF 1 ref01_Longs.p (ref01_Longs.g ref01_Longs) := fn2 (ref01_Longs.eq (ref01_Longs_L0 ROUNDS)) Try.func27 (by kernel_rfl) .nil [0] (by kernel_rfl) (.cons ref01_Longs_L0.ok .nil)
/-- function 28: the loop in block 0 -/
abbrev T_ref29_Same_L0 : Type := Tc9 → Tc9 → Int → (Bool → Option Bool) → (Option Bool) → Option Bool
noncomputable def ref29_Same_L0.body (ref29_Same_L0 : T_ref29_Same_L0) : T_ref29_Same_L0 := fun ts1780 ts1781 n1782 k1 k2 =>
  (cond_ (decide (n1782 < (List.length ts1780 : Int))) (cond_ ((decide ((0 : Int) ≤ n1782)) && (decide (n1782 < (List.length ts1780 : Int)))) (cond_ ((decide ((0 : Int) ≤ n1782)) && (decide (n1782 < (List.length ts1781 : Int)))) (cond_ (! (((List.getD ts1780 (Int.toNat n1782) (0, (0, (0, (0, (0, (0, ()))))))).1 == (List.getD ts1781 (Int.toNat n1782) (0, (0, (0, (0, (0, (0, ()))))))).1) && (((List.getD ts1780 (Int.toNat n1782) (0, (0, (0, (0, (0, (0, ()))))))).2.1 == (List.getD ts1781 (Int.toNat n1782) (0, (0, (0, (0, (0, (0, ()))))))).2.1) && (((List.getD ts1780 (Int.toNat n1782) (0, (0, (0, (0, (0, (0, ()))))))).2.2.1 == (List.getD ts1781 (Int.toNat n1782) (0, (0, (0, (0, (0, (0, ()))))))).2.2.1) && (((List.getD ts1780 (Int.toNat n1782) (0, (0, (0, (0, (0, (0, ()))))))).2.2.2.1 == (List.getD ts1781 (Int.toNat n1782) (0, (0, (0, (0, (0, (0, ()))))))).2.2.2.1) && (((List.getD ts1780 (Int.toNat n1782) (0, (0, (0, (0, (0, (0, ()))))))).2.2.2.2.1 == (List.getD ts1781 (Int.toNat n1782) (0, (0, (0, (0, (0, (0, ()))))))).2.2.2.2.1) && (((List.getD ts1780 (Int.toNat n1782) (0, (0, (0, (0, (0, (0, ()))))))).2.2.2.2.2.1 == (List.getD ts1781 (Int.toNat n1782) (0, (0, (0, (0, (0, (0, ()))))))).2.2.2.2.2.1) && true))))))) (k1 false) (ref29_Same_L0 ts1780 ts1781 (IntKind.wrap .i64 (n1782 + (1 : Int))) k1 k2)) none) none) (k2))
noncomputable def ref29_Same_L0 : Nat → T_ref29_Same_L0
  | 0 => fun _ _ _ _ _ => none
  | n + 1 => ref29_Same_L0.body (ref29_Same_L0 n)
def ref29_Same_L0.p : LPat := lp 2 26 [0, 1, 5] (pl (pb 0 58 Ty15) (pl (pb 1 58 Ty15) (pl (pd (.int .i64)) pz))) pz
def ref29_Same_L0.g (F : T_ref29_Same_L0) (v : ref29_Same_L0.p.T) (k : KE) : Option Bool := F v.1.1 v.1.2.1 v.1.2.2.1 (fun y0 => k .ret ⟨fillS 26 [4] [(.d ⟨.bool, y0⟩)], [], 2⟩) (k (.exit 0) ⟨fillS 26 [] [], [], 2⟩)
theorem ref29_Same_L0.step (S : T_ref29_Same_L0) : ∀ v k, exR 28 Try.f28 0 ref29_Same_L0.p [] [] [] (ref29_Same_L0.g S) v k = ref29_Same_L0.g (ref29_Same_L0.body S) v k := fun v k => by kernel_rfl
theorem ref29_Same_L0.ok : okL 28 Try.f28 0 0 ref29_Same_L0.p (ref29_Same_L0.g (ref29_Same_L0 ROUNDS)) := loop2 (G := fun n => ref29_Same_L0.g (ref29_Same_L0 n)) (fun n => ref29_Same_L0.step (ref29_Same_L0 n)) .nil [] (by kernel_rfl) .nil (fun _ _ => rfl)
/-- function 28: sheerleg/sheerlegref29.Same -/
abbrev T_ref29_Same : Type := Tc9 → Tc9 → (Bool → Option Bool) → Option Bool
noncomputable def ref29_Same.body (ref29_Same_L0 : T_ref29_Same_L0) : T_ref29_Same := fun ts1778 ts1779 k1 =>
  (cond_ ((List.length ts1778 : Int) != (List.length ts1779 : Int)) (k1 false) (ref29_Same_L0 ts1778 ts1779 (0 : Int)
  (fun b1783 => (k1 b1783))
  (k1 true)))
noncomputable def ref29_Same : T_ref29_Same := ref29_Same.body (ref29_Same_L0 ROUNDS)
def ref29_Same.p : FPat := fp 28 (pl (pb 0 58 Ty15) (pl (pb 1 58 Ty15) pz)) pz
def ref29_Same.g (F : T_ref29_Same) (v : ref29_Same.p.T) (k : KR) : Option Bool := F v.1.1 v.1.2.1 (fun y0 => k (.d ⟨.bool, y0⟩) [])
theorem ref29_Same.eq (L0 : T_ref29_Same_L0) : ∀ v k, exF Try.f28 ref29_Same.p [] [] [⟨0, ref29_Same_L0.p, ref29_Same_L0.g L0⟩] v k = ref29_Same.g (ref29_Same.body L0) v k := fun v k => by kernel_rfl
theorem ref29_Same.ok : okF 1 ref29_Same.p (ref29_Same.g ref29_Same) := fn2 (ref29_Same.eq (ref29_Same_L0 ROUNDS)) Try.func28 (by kernel_rfl) .nil [0] (by kernel_rfl) (.cons ref29_Same_L0.ok .nil)
/-- function 29: the loop in block 0 -/
abbrev T_ref13_Same_L0 : Type := Tc8 → Tc8 → Int → (Bool → Option Bool) → (Option Bool) → Option Bool
noncomputable def ref13_Same_L0.body (ref13_Same_L0 : T_ref13_Same_L0) : T_ref13_Same_L0 := fun ts1787 ts1788 n1789 k1 k2 =>
  (cond_ (decide (n1789 < (List.length ts1787 : Int))) (cond_ ((decide ((0 : Int) ≤ n1789)) && (decide (n1789 < (List.length ts1787 : Int)))) (cond_ ((decide ((0 : Int) ≤ n1789)) && (decide (n1789 < (List.length ts1788 : Int)))) (cond_ (! (((List.getD ts1787 (Int.toNat n1789) (0, (0, (0, (false, (0, ())))))).1 == (List.getD ts1788 (Int.toNat n1789) (0, (0, (0, (false, (0, ())))))).1) && ((((List.getD ts1787 (Int.toNat n1789) (0, (0, (0, (false, (0, ())))))).2.1 == (List.getD ts1788 (Int.toNat n1789) (0, (0, (0, (false, (0, ())))))).2.1) && (((List.getD ts1787 (Int.toNat n1789) (0, (0, (0, (false, (0, ())))))).2.2.1 == (List.getD ts1788 (Int.toNat n1789) (0, (0, (0, (false, (0, ())))))).2.2.1) && (((List.getD ts1787 (Int.toNat n1789) (0, (0, (0, (false, (0, ())))))).2.2.2.1 == (List.getD ts1788 (Int.toNat n1789) (0, (0, (0, (false, (0, ())))))).2.2.2.1) && (((List.getD ts1787 (Int.toNat n1789) (0, (0, (0, (false, (0, ())))))).2.2.2.2.1 == (List.getD ts1788 (Int.toNat n1789) (0, (0, (0, (false, (0, ())))))).2.2.2.2.1) && true)))) && true))) (k1 false) (ref13_Same_L0 ts1787 ts1788 (IntKind.wrap .i64 (n1789 + (1 : Int))) k1 k2)) none) none) (k2))
noncomputable def ref13_Same_L0 : Nat → T_ref13_Same_L0
  | 0 => fun _ _ _ _ _ => none
  | n + 1 => ref13_Same_L0.body (ref13_Same_L0 n)
def ref13_Same_L0.p : LPat := lp 2 26 [0, 1, 5] (pl (pb 0 101 Ty11) (pl (pb 1 101 Ty11) (pl (pd (.int .i64)) pz))) pz
def ref13_Same_L0.g (F : T_ref13_Same_L0) (v : ref13_Same_L0.p.T) (k : KE) : Option Bool := F v.1.1 v.1.2.1 v.1.2.2.1 (fun y0 => k .ret ⟨fillS 26 [4] [(.d ⟨.bool, y0⟩)], [], 2⟩) (k (.exit 0) ⟨fillS 26 [] [], [], 2⟩)
theorem ref13_Same_L0.step (S : T_ref13_Same_L0) : ∀ v k, exR 29 Try.f29 0 ref13_Same_L0.p [] [] [] (ref13_Same_L0.g S) v k = ref13_Same_L0.g (ref13_Same_L0.body S) v k := fun v k => by kernel_rfl
theorem ref13_Same_L0.ok : okL 29 Try.f29 0 0 ref13_Same_L0.p (ref13_Same_L0.g (ref13_Same_L0 ROUNDS)) := loop2 (G := fun n => ref13_Same_L0.g (ref13_Same_L0 n)) (fun n => ref13_Same_L0.step (ref13_Same_L0 n)) .nil [] (by kernel_rfl) .nil (fun _ _ => rfl)
/-- function 29: sheerleg/sheerlegref13.Same -/
abbrev T_ref13_Same : Type := Tc8 → Tc8 → (Bool → Option Bool) → Option Bool
noncomputable def ref13_Same.body (ref13_Same_L0 : T_ref13_Same_L0) : T_ref13_Same := fun ts1785 ts1786 k1 =>
  (cond_ ((List.length ts1785 : Int) != (List.length ts1786 : Int)) (k1 false) (ref13_Same_L0 ts1785 ts1786 (0 : Int)
  (fun b1790 => (k1 b1790))
  (k1 true)))
noncomputable def ref13_Same : T_ref13_Same := ref13_Same.body (ref13_Same_L0 ROUNDS)
def ref13_Same.p : FPat := fp 29 (pl (pb 0 101 Ty11) (pl (pb 1 101 Ty11) pz)) pz
def ref13_Same.g (F : T_ref13_Same) (v : ref13_Same.p.T) (k : KR) : Option Bool := F v.1.1 v.1.2.1 (fun y0 => k (.d ⟨.bool, y0⟩) [])
theorem ref13_Same.eq (L0 : T_ref13_Same_L0) : ∀ v k, exF Try.f29 ref13_Same.p [] [] [⟨0, ref13_Same_L0.p, ref13_Same_L0.g L0⟩] v k = ref13_Same.g (ref13_Same.body L0) v k := fun v k => by kernel_rfl
theorem ref13_Same.ok : okF 1 ref13_Same.p (ref13_Same.g ref13_Same) := fn2 (ref13_Same.eq (ref13_Same_L0 ROUNDS)) Try.func29 (by kernel_rfl) .nil [0] (by kernel_rfl) (.cons ref13_Same_L0.ok .nil)
/-- function 10: sheerleg/sheerlegref34.Same -/
abbrev T_ref34_Same : Type := Tc11 → Tc7 → (List Int) → Tc9 → Tc8 → Int → (Bool → Option Bool) → Option Bool
noncomputable def ref34_Same.body (ref32_Same : T_ref32_Same) (ref01_Longs : T_ref01_Longs) (ref29_Same : T_ref29_Same) (ref13_Same : T_ref13_Same) : T_ref34_Same := fun t1758 ts1759 ns1760 ts1761 ts1762 n1763 k1 =>
  (ref32_Same t1758.1 ts1759
  (fun b1770 => (cond_ b1770 (ref01_Longs t1758.2.1 ns1760
  (fun b1777 => (cond_ b1777 (ref29_Same t1758.2.2.1 ts1761
  (fun b1784 => (cond_ b1784 (ref13_Same t1758.2.2.2.1 ts1762
  (fun b1791 => (cond_ b1791 (k1 (t1758.2.2.2.2.1 == n1763)) (k1 false)))) (k1 false)))) (k1 false)))) (k1 false))))
noncomputable def ref34_Same : T_ref34_Same := ref34_Same.body ref32_Same ref01_Longs ref29_Same ref13_Same
def ref34_Same.p : FPat := fp 10 (pl (pd Ty18) (pl (pa (pl (pb 1 55 Ty12) (pl (pb 2 2 (.int .i64)) (pl (pb 3 58 Ty15) (pl (pb 4 101 Ty11) (pl (pd (.int .i64)) pz)))))) pz)) pz
def ref34_Same.g (F : T_ref34_Same) (v : ref34_Same.p.T) (k : KR) : Option Bool := F v.1.1 v.1.2.1.1 v.1.2.1.2.1 v.1.2.1.2.2.1 v.1.2.1.2.2.2.1 v.1.2.1.2.2.2.2.1 (fun y0 => k (.d ⟨.bool, y0⟩) [])
theorem ref34_Same.eq (F0 : T_ref32_Same) (F1 : T_ref01_Longs) (F2 : T_ref29_Same) (F3 : T_ref13_Same) : ∀ v k, exF Try.f10 ref34_Same.p [⟨ref32_Same.p, ref32_Same.g F0⟩, ⟨ref01_Longs.p, ref01_Longs.g F1⟩, ⟨ref29_Same.p, ref29_Same.g F2⟩, ⟨ref13_Same.p, ref13_Same.g F3⟩] [] [] v k = ref34_Same.g (ref34_Same.body F0 F1 F2 F3) v k := fun v k => by kernel_rfl
theorem ref34_Same.ok : okF 2 ref34_Same.p (ref34_Same.g ref34_Same) := fn2 (ref34_Same.eq ref32_Same ref01_Longs ref29_Same ref13_Same) Try.func10 (by kernel_rfl) (.cons ref32_Same.ok (.cons ref01_Longs.ok (.cons ref29_Same.ok (.cons ref13_Same.ok .nil)))) [] (by kernel_rfl) .nil
/-- function 5: sheerleg/sheerleglaw35.known -/
abbrev T_law35_known : Type := (Bool → Option Bool) → Option Bool
noncomputable def law35_known.body (law25_Two : T_law25_Two) (ref28_Full : T_ref28_Full) (ref34_Make : T_ref34_Make) (pack_Put : T_pack_Put) (pack_Get : T_pack_Get) (pack_Getv1 : T_pack_Getv1) (ref34_Same : T_ref34_Same) : T_law35_known := fun k1 =>
  (law25_Two
  (fun n1236 ts1237 => (law25_Two
  (fun n1238 ts1239 => (ref28_Full ts1239 n1238
  (fun bs1240 ns1241 => (ref34_Make ts1237 n1236 bs1240 ns1241
  (fun n1242 ts1243 ns1244 ts1245 ts1246 => (pack_Put ts1243 ns1244 ts1245 ts1246 n1242
  (fun ns1247 => (pack_Get ns1247
  (fun t1750 n1751 => (pack_Getv1
  (fun t1756 n1757 => (ref34_Same (t1750.1, (t1750.2.1, (t1750.2.2.1, (t1750.2.2.2.1, (t1750.2.2.2.2.1, ()))))) ts1243 ns1244 ts1245 ts1246 n1242
  (fun b1792 => (cond_ b1792 (cond_ (n1751 == (0 : Int)) (k1 (n1757 == (5 : Int))) (k1 false)) (k1 false))))))))))))))))))
noncomputable def law35_known : T_law35_known := law35_known.body law25_Two ref28_Full ref34_Make pack_Put pack_Get pack_Getv1 ref34_Same
def law35_known.p : FPat := fp 5 pz pz
def law35_known.g (F : T_law35_known) (v : law35_known.p.T) (k : KR) : Option Bool := F (fun y0 => k (.d ⟨.bool, y0⟩) [])
theorem law35_known.eq (F0 : T_law25_Two) (F1 : T_ref28_Full) (F2 : T_ref34_Make) (F3 : T_pack_Put) (F4 : T_pack_Get) (F5 : T_pack_Getv1) (F6 : T_ref34_Same) : ∀ v k, exF Try.f5 law35_known.p [⟨law25_Two.p, law25_Two.g F0⟩, ⟨ref28_Full.p, ref28_Full.g F1⟩, ⟨ref34_Make.p, ref34_Make.g F2⟩, ⟨pack_Put.p, pack_Put.g F3⟩, ⟨pack_Get.p, pack_Get.g F4⟩, ⟨pack_Getv1.p, pack_Getv1.g F5⟩, ⟨ref34_Same.p, ref34_Same.g F6⟩] [] [] v k = law35_known.g (law35_known.body F0 F1 F2 F3 F4 F5 F6) v k := fun v k => by kernel_rfl
theorem law35_known.ok : okF 11 law35_known.p (law35_known.g law35_known) := fn2 (law35_known.eq law25_Two ref28_Full ref34_Make pack_Put pack_Get pack_Getv1 ref34_Same) Try.func5 (by kernel_rfl) (.cons law25_Two.ok (.cons ref28_Full.ok (.cons ref34_Make.ok (.cons pack_Put.ok (.cons pack_Get.ok (.cons pack_Getv1.ok (.cons ref34_Same.ok .nil))))))) [] (by kernel_rfl) .nil
/-- function 35: sheerleg/octet.New -/
abbrev T_octet_Newv1 : Type := (List Int) → (Int → Bool → Bool → (List Int) → Option Bool) → Option Bool
noncomputable def octet_Newv1.body : T_octet_Newv1 := fun ns1796 k1 =>
  (cond_ (Nat.ble (((0 : Nat) + (List.length ns1796)) * (1 : Nat)) (140737488355328 : Nat)) (k1 (0 : Int) true false ([] ++ ns1796)) none)
noncomputable def octet_Newv1 : T_octet_Newv1 := octet_Newv1.body
def octet_Newv1.p : FPat := fp 35 (pl (pb 0 5 (.int .u8)) pz) pz
def octet_Newv1.g (F : T_octet_Newv1) (v : octet_Newv1.p.T) (k : KR) : Option Bool := F v.1.1 (fun y0 y1 y2 y3 => k (.ptr [1, 0] 0 0) [([1, 0], ⟨121, 4, (.mix [(.agg [(.ref [1, 1]), (.d ⟨(.int .i64), y0⟩), (.d ⟨.bool, y1⟩), (.d ⟨.bool, y2⟩)])])⟩), ([1, 1], ⟨5, 1, (.data (.int .u8) y3)⟩)])
theorem octet_Newv1.eq : ∀ v k, exF Try.f35 octet_Newv1.p [] [] [] v k = octet_Newv1.g (octet_Newv1.body) v k := fun v k => by kernel_rfl
theorem octet_Newv1.ok : okF 1 octet_Newv1.p (octet_Newv1.g octet_Newv1) := fn2 (octet_Newv1.eq) Try.func35 (by kernel_rfl) .nil [] (by kernel_rfl) .nil
/-- function 64: the loop in block 0 -/
abbrev T_sum_Adder_Addv1_L0 : Type := (List Int) → Int → Int → (Int × Int × Bool × Unit) → ((Int × Int × Bool × Unit) → Option Bool) → Option Bool
noncomputable def sum_Adder_Addv1_L0.body (sum_Adder_Addv1_L0 : T_sum_Adder_Addv1_L0) : T_sum_Adder_Addv1_L0 := fun ns1812 n1813 n1814 t1815 k1 =>
  (cond_ (decide (n1814 < n1813)) (cond_ ((decide ((0 : Int) ≤ n1814)) && (decide (n1814 < (List.length ns1812 : Int)))) (sum_Adder_Addv1_L0 ns1812 n1813 (IntKind.wrap .i64 (n1814 + (1 : Int))) ((Int.tmod (IntKind.wrap .i64 (t1815.1 + (IntKind.wrap .i64 (List.getD ns1812 (Int.toNat n1814) (0 : Int))))) (65521 : Int)), ((Int.tmod (IntKind.wrap .i64 (t1815.2.1 + (Int.tmod (IntKind.wrap .i64 (t1815.1 + (IntKind.wrap .i64 (List.getD ns1812 (Int.toNat n1814) (0 : Int))))) (65521 : Int)))) (65521 : Int)), (t1815.2.2.1, ()))) k1) none) (k1 t1815))
noncomputable def sum_Adder_Addv1_L0 : Nat → T_sum_Adder_Addv1_L0
  | 0 => fun _ _ _ _ _ => none
  | n + 1 => sum_Adder_Addv1_L0.body (sum_Adder_Addv1_L0 n)
def sum_Adder_Addv1_L0.p : LPat := lp 2 46 [0, 15, 16, 17] (ps (pq [0, 0] 0 0) (pl (pb 0 5 (.int .u8)) (pl (pd (.int .i64)) (pl (pd (.int .i64)) pz)))) (pl (po [0, 0] 150 3 (es Ty5 (pl eh pz))) pz)
def sum_Adder_Addv1_L0.g (F : T_sum_Adder_Addv1_L0) (v : sum_Adder_Addv1_L0.p.T) (k : KE) : Option Bool := F v.1.1 v.1.2.1 v.1.2.2.1 v.2.1.1 (fun y0 => k (.exit 0) ⟨fillS 46 [] [], [([0, 0], ⟨150, 3, (.data Ty5 [y0])⟩)], 2⟩)
theorem sum_Adder_Addv1_L0.step (S : T_sum_Adder_Addv1_L0) : ∀ v k, exR 64 Try.f64 0 sum_Adder_Addv1_L0.p [] [] [] (sum_Adder_Addv1_L0.g S) v k = sum_Adder_Addv1_L0.g (sum_Adder_Addv1_L0.body S) v k := fun v k => by kernel_rfl
theorem sum_Adder_Addv1_L0.ok : okL 64 Try.f64 0 0 sum_Adder_Addv1_L0.p (sum_Adder_Addv1_L0.g (sum_Adder_Addv1_L0 ROUNDS)) := loop2 (G := fun n => sum_Adder_Addv1_L0.g (sum_Adder_Addv1_L0 n)) (fun n => sum_Adder_Addv1_L0.step (sum_Adder_Addv1_L0 n)) .nil [] (by kernel_rfl) .nil (fun _ _ => rfl)
/-- function 64: (*sheerleg/sum.Adder).Add -/
abbrev T_sum_Adder_Addv1 : Type := (List Int) → (Int × Int × Bool × Unit) → ((Int × Int × Bool × Unit) → Option Bool) → Option Bool
noncomputable def sum_Adder_Addv1.body (sum_Adder_Addv1_L0 : T_sum_Adder_Addv1_L0) : T_sum_Adder_Addv1 := fun ns1810 t1811 k1 =>
  (cond_ (! t1811.2.2.1) (k1 t1811) (sum_Adder_Addv1_L0 ns1810 (List.length ns1810 : Int) (0 : Int) t1811
  (fun t1816 => (k1 t1816))))
noncomputable def sum_Adder_Addv1 : T_sum_Adder_Addv1 := sum_Adder_Addv1.body (sum_Adder_Addv1_L0 ROUNDS)
def sum_Adder_Addv1.p : FPat := fp 64 (ps (pq [0, 0] 0 0) (pl (pb 0 5 (.int .u8)) pz)) (pl (po [0, 0] 150 3 (es Ty5 (pl eh pz))) pz)
def sum_Adder_Addv1.g (F : T_sum_Adder_Addv1) (v : sum_Adder_Addv1.p.T) (k : KR) : Option Bool := F v.1.1 v.2.1.1 (fun y0 => k (.tup []) [([0, 0], ⟨150, 3, (.data Ty5 [y0])⟩)])
theorem sum_Adder_Addv1.eq (L0 : T_sum_Adder_Addv1_L0) : ∀ v k, exF Try.f64 sum_Adder_Addv1.p [] [] [⟨0, sum_Adder_Addv1_L0.p, sum_Adder_Addv1_L0.g L0⟩] v k = sum_Adder_Addv1.g (sum_Adder_Addv1.body L0) v k := fun v k => by kernel_rfl
theorem sum_Adder_Addv1.ok : okF 1 sum_Adder_Addv1.p (sum_Adder_Addv1.g sum_Adder_Addv1) := fn2 (sum_Adder_Addv1.eq (sum_Adder_Addv1_L0 ROUNDS)) Try.func64 (by kernel_rfl) .nil [0] (by kernel_rfl) (.cons sum_Adder_Addv1_L0.ok .nil)
/-- function 63: sheerleg/sum.feed -/
abbrev T_sum_feedv1 : Type := (List Int) → (Int × Int × Bool × Unit) → ((Int × Int × Bool × Unit) → Option Bool) → Option Bool
noncomputable def sum_feedv1.body (sum_Adder_Addv1 : T_sum_Adder_Addv1) : T_sum_feedv1 := fun ns1808 t1809 k1 =>
  (sum_Adder_Addv1 ns1808 t1809
  (fun t1817 => (k1 t1817)))
noncomputable def sum_feedv1 : T_sum_feedv1 := sum_feedv1.body sum_Adder_Addv1
def sum_feedv1.p : FPat := fp 63 (pl (pf 64 (ps (pq [0, 0] 0 0) pz) pz) (pl (pb 0 5 (.int .u8)) pz)) (pl (po [0, 0] 150 3 (es Ty5 (pl eh pz))) pz)
def sum_feedv1.g (F : T_sum_feedv1) (v : sum_feedv1.p.T) (k : KR) : Option Bool := F v.1.2.1 v.2.1.1 (fun y0 => k (.tup []) [([0, 0], ⟨150, 3, (.data Ty5 [y0])⟩)])
theorem sum_feedv1.eq (F0 : T_sum_Adder_Addv1) : ∀ v k, exF Try.f63 sum_feedv1.p [⟨sum_Adder_Addv1.p, sum_Adder_Addv1.g F0⟩] [] [] v k = sum_feedv1.g (sum_feedv1.body F0) v k := fun v k => by kernel_rfl
theorem sum_feedv1.ok : okF 2 sum_feedv1.p (sum_feedv1.g sum_feedv1) := fn2 (sum_feedv1.eq sum_Adder_Addv1) Try.func63 (by kernel_rfl) (.cons sum_Adder_Addv1.ok .nil) [] (by kernel_rfl) .nil
/-- function 37: sheerleg/sum.Of -/
abbrev T_sum_Ofv1 : Type := (List Int) → (Int → Option Bool) → Option Bool
noncomputable def sum_Ofv1.body (sum_New : T_sum_New) (sum_feedv1 : T_sum_feedv1) (sum_Adder_Sum : T_sum_Adder_Sum) : T_sum_Ofv1 := fun ns1806 k1 =>
  (sum_New
  (fun t1807 => (sum_feedv1 ns1806 t1807
  (fun t1818 => (sum_Adder_Sum t1818
  (fun n1819 t1820 => (k1 n1819)))))))
noncomputable def sum_Ofv1 : T_sum_Ofv1 := sum_Ofv1.body sum_New sum_feedv1 sum_Adder_Sum
def sum_Ofv1.p : FPat := fp 37 (pl (pb 0 5 (.int .u8)) pz) pz
def sum_Ofv1.g (F : T_sum_Ofv1) (v : sum_Ofv1.p.T) (k : KR) : Option Bool := F v.1.1 (fun y0 => k (.d ⟨(.int .i64), y0⟩) [])
theorem sum_Ofv1.eq (F0 : T_sum_New) (F1 : T_sum_feedv1) (F2 : T_sum_Adder_Sum) : ∀ v k, exF Try.f37 sum_Ofv1.p [⟨sum_New.p, sum_New.g F0⟩, ⟨sum_feedv1.p, sum_feedv1.g F1⟩, ⟨sum_Adder_Sum.p, sum_Adder_Sum.g F2⟩] [] [] v k = sum_Ofv1.g (sum_Ofv1.body F0 F1 F2) v k := fun v k => by kernel_rfl
theorem sum_Ofv1.ok : okF 3 sum_Ofv1.p (sum_Ofv1.g sum_Ofv1) := fn2 (sum_Ofv1.eq sum_New sum_feedv1 sum_Adder_Sum) Try.func37 (by kernel_rfl) (.cons sum_New.ok (.cons sum_feedv1.ok (.cons sum_Adder_Sum.ok .nil))) [] (by kernel_rfl) .nil
/-- function 14: sheerleg/sum.Open -/
abbrev T_sum_Openv2 : Type := (List Int) → (Int → (List Int) → Option Bool) → Option Bool
noncomputable def sum_Openv2.body (octet_Newv1 : T_octet_Newv1) (octet_Reader_Num : T_octet_Reader_Num) (sum_Ofv1 : T_sum_Ofv1) : T_sum_Openv2 := fun ns1795 k1 =>
  (cond_ (decide ((IntKind.wrap .i64 ((List.length ns1795 : Int) - (4 : Int))) < (0 : Int))) (k1 (5 : Int) []) (cond_ ((decide ((0 : Int) ≤ (IntKind.wrap .i64 ((List.length ns1795 : Int) - (4 : Int))))) && (decide ((IntKind.wrap .i64 ((List.length ns1795 : Int) - (4 : Int))) ≤ (List.length ns1795 : Int)))) (octet_Newv1 (List.take ((List.length ns1795) - (Int.toNat (IntKind.wrap .i64 ((List.length ns1795 : Int) - (4 : Int))))) (List.drop (Int.toNat (IntKind.wrap .i64 ((List.length ns1795 : Int) - (4 : Int)))) ns1795))
  (fun n1797 b1798 b1799 ns1800 => (octet_Reader_Num (4 : Int) n1797 b1798 b1799 ns1800
  (fun n1801 n1802 b1803 b1804 ns1805 => (cond_ ((true && (decide ((0 : Int) ≤ (IntKind.wrap .i64 ((List.length ns1795 : Int) - (4 : Int)))))) && (decide ((IntKind.wrap .i64 ((List.length ns1795 : Int) - (4 : Int))) ≤ (List.length ns1795 : Int)))) (sum_Ofv1 (List.take (Int.toNat ((IntKind.wrap .i64 ((List.length ns1795 : Int) - (4 : Int))) - (0 : Int))) (List.drop (0 : Nat) ns1795))
  (fun n1821 => (cond_ (n1801 != n1821) (k1 (4 : Int) []) (cond_ ((true && (decide ((0 : Int) ≤ (IntKind.wrap .i64 ((List.length ns1795 : Int) - (4 : Int)))))) && (decide ((IntKind.wrap .i64 ((List.length ns1795 : Int) - (4 : Int))) ≤ (List.length ns1795 : Int)))) (cond_ (Nat.ble (((0 : Nat) + (List.length (List.take (Int.toNat ((IntKind.wrap .i64 ((List.length ns1795 : Int) - (4 : Int))) - (0 : Int))) (List.drop (0 : Nat) ns1795)))) * (1 : Nat)) (140737488355328 : Nat)) (k1 (0 : Int) ([] ++ (List.take (Int.toNat ((IntKind.wrap .i64 ((List.length ns1795 : Int) - (4 : Int))) - (0 : Int))) (List.drop (0 : Nat) ns1795)))) none) none)))) none))))) none))
noncomputable def sum_Openv2 : T_sum_Openv2 := sum_Openv2.body octet_Newv1 octet_Reader_Num sum_Ofv1
def sum_Openv2.p : FPat := fp 14 (pl (pb 0 5 (.int .u8)) pz) pz
def sum_Openv2.g (F : T_sum_Openv2) (v : sum_Openv2.p.T) (k : KR) : Option Bool := F v.1.1 (fun y0 y1 => k (.tup [(.ref [1, 0]), (.d ⟨(.int .i64), y0⟩)]) [([1, 0], ⟨5, 1, (.data (.int .u8) y1)⟩)])
theorem sum_Openv2.eq (F0 : T_octet_Newv1) (F1 : T_octet_Reader_Num) (F2 : T_sum_Ofv1) : ∀ v k, exF Try.f14 sum_Openv2.p [⟨octet_Newv1.p, octet_Newv1.g F0⟩, ⟨octet_Reader_Num.p, octet_Reader_Num.g F1⟩, ⟨sum_Ofv1.p, sum_Ofv1.g F2⟩] [] [] v k = sum_Openv2.g (sum_Openv2.body F0 F1 F2) v k := fun v k => by kernel_rfl
theorem sum_Openv2.ok : okF 5 sum_Openv2.p (sum_Openv2.g sum_Openv2) := fn2 (sum_Openv2.eq octet_Newv1 octet_Reader_Num sum_Ofv1) Try.func14 (by kernel_rfl) (.cons octet_Newv1.ok (.cons octet_Reader_Num.ok (.cons sum_Ofv1.ok .nil))) [] (by kernel_rfl) .nil
/-- function 6: sheerleg/pack.Get -/
abbrev T_pack_Getv2 : Type := (List Int) → (Tc11 → Int → Option Bool) → Option Bool
noncomputable def pack_Getv2.body (sum_Openv2 : T_sum_Openv2) (pack_inner : T_pack_inner) : T_pack_Getv2 := fun ns1794 k1 =>
  (sum_Openv2 ns1794
  (fun n1822 ns1823 => (cond_ (n1822 != (0 : Int)) (k1 ([], ([], ([], ([], (0, ()))))) n1822) (pack_inner ns1823
  (fun t1824 n1825 => (cond_ (n1825 != (0 : Int)) (k1 ([], ([], ([], ([], (0, ()))))) n1825) (k1 (t1824.1, (t1824.2.1, (t1824.2.2.1, (t1824.2.2.2.1, (t1824.2.2.2.2.1, ()))))) (0 : Int))))))))
noncomputable def pack_Getv2 : T_pack_Getv2 := pack_Getv2.body sum_Openv2 pack_inner
def pack_Getv2.p : FPat := fp 6 (pl (pb 0 5 (.int .u8)) pz) pz
def pack_Getv2.g (F : T_pack_Getv2) (v : pack_Getv2.p.T) (k : KR) : Option Bool := F v.1.1 (fun y0 y1 => k (.tup [(.d ⟨Ty18, y0⟩), (.d ⟨(.int .i64), y1⟩)]) [])
theorem pack_Getv2.eq (F0 : T_sum_Openv2) (F1 : T_pack_inner) : ∀ v k, exF Try.f6 pack_Getv2.p [⟨sum_Openv2.p, sum_Openv2.g F0⟩, ⟨pack_inner.p, pack_inner.g F1⟩] [] [] v k = pack_Getv2.g (pack_Getv2.body F0 F1) v k := fun v k => by kernel_rfl
theorem pack_Getv2.ok : okF 10 pack_Getv2.p (pack_Getv2.g pack_Getv2) := fn2 (pack_Getv2.eq sum_Openv2 pack_inner) Try.func6 (by kernel_rfl) (.cons sum_Openv2.ok (.cons pack_inner.ok .nil)) [] (by kernel_rfl) .nil
/-- function 48: the loop in block 0 -/
abbrev T_ref03_Of_L0 : Type := (List Int) → Int → Int → Int → (Int → Int → Option Bool) → Option Bool
noncomputable def ref03_Of_L0.body (ref03_Of_L0 : T_ref03_Of_L0) : T_ref03_Of_L0 := fun ns1832 n1833 n1834 n1835 k1 =>
  (cond_ (decide (n1835 < (List.length ns1832 : Int))) (cond_ ((decide ((0 : Int) ≤ n1835)) && (decide (n1835 < (List.length ns1832 : Int)))) (ref03_Of_L0 ns1832 (Int.tmod (IntKind.wrap .i64 (n1833 + (IntKind.wrap .i64 (List.getD ns1832 (Int.toNat n1835) (0 : Int))))) (65521 : Int)) (Int.tmod (IntKind.wrap .i64 (n1834 + (Int.tmod (IntKind.wrap .i64 (n1833 + (IntKind.wrap .i64 (List.getD ns1832 (Int.toNat n1835) (0 : Int))))) (65521 : Int)))) (65521 : Int)) (IntKind.wrap .i64 (n1835 + (1 : Int))) k1) none) (k1 n1833 n1834))
noncomputable def ref03_Of_L0 : Nat → T_ref03_Of_L0
  | 0 => fun _ _ _ _ _ => none
  | n + 1 => ref03_Of_L0.body (ref03_Of_L0 n)
def ref03_Of_L0.p : LPat := lp 2 28 [0, 3, 4, 5] (pl (pb 0 5 (.int .u8)) (pl (pd (.int .i64)) (pl (pd (.int .i64)) (pl (pd (.int .i64)) pz)))) pz
def ref03_Of_L0.g (F : T_ref03_Of_L0) (v : ref03_Of_L0.p.T) (k : KE) : Option Bool := F v.1.1 v.1.2.1 v.1.2.2.1 v.1.2.2.2.1 (fun y0 y1 => k (.exit 0) ⟨fillS 28 [3, 4] [(.d ⟨(.int .i64), y0⟩), (.d ⟨(.int .i64), y1⟩)], [], 2⟩)
theorem ref03_Of_L0.step (S : T_ref03_Of_L0) : ∀ v k, exR 48 Try.f48 0 ref03_Of_L0.p [] [] [] (ref03_Of_L0.g S) v k = ref03_Of_L0.g (ref03_Of_L0.body S) v k := fun v k => by kernel_rfl
theorem ref03_Of_L0.ok : okL 48 Try.f48 0 0 ref03_Of_L0.p (ref03_Of_L0.g (ref03_Of_L0 ROUNDS)) := loop2 (G := fun n => ref03_Of_L0.g (ref03_Of_L0 n)) (fun n => ref03_Of_L0.step (ref03_Of_L0 n)) .nil [] (by kernel_rfl) .nil (fun _ _ => rfl)
/-- function 48: sheerleg/sheerlegref03.Of -/
abbrev T_ref03_Of : Type := (List Int) → (Int → Option Bool) → Option Bool
noncomputable def ref03_Of.body (ref03_Of_L0 : T_ref03_Of_L0) : T_ref03_Of := fun ns1831 k1 =>
  (ref03_Of_L0 ns1831 (1 : Int) (0 : Int) (0 : Int)
  (fun n1836 n1837 => (k1 (IntKind.wrap .i64 ((IntKind.wrap .i64 (n1837 * (65536 : Int))) + n1836)))))
noncomputable def ref03_Of : T_ref03_Of := ref03_Of.body (ref03_Of_L0 ROUNDS)
def ref03_Of.p : FPat := fp 48 (pl (pb 0 5 (.int .u8)) pz) pz
def ref03_Of.g (F : T_ref03_Of) (v : ref03_Of.p.T) (k : KR) : Option Bool := F v.1.1 (fun y0 => k (.d ⟨(.int .i64), y0⟩) [])
theorem ref03_Of.eq (L0 : T_ref03_Of_L0) : ∀ v k, exF Try.f48 ref03_Of.p [] [] [⟨0, ref03_Of_L0.p, ref03_Of_L0.g L0⟩] v k = ref03_Of.g (ref03_Of.body L0) v k := fun v k => by kernel_rfl
theorem ref03_Of.ok : okF 1 ref03_Of.p (ref03_Of.g ref03_Of) := fn2 (ref03_Of.eq (ref03_Of_L0 ROUNDS)) Try.func48 (by kernel_rfl) .nil [0] (by kernel_rfl) (.cons ref03_Of_L0.ok .nil)
/-- function 22: the loop in block 2 -/
abbrev T_ref02_Put_L0_L2 : Type := Int → Int → Int → Int → (List Int) → (Int → Int → Int → (List Int) → Option Bool) → Option Bool
noncomputable def ref02_Put_L0_L2.body (ref02_Put_L0_L2 : T_ref02_Put_L0_L2) : T_ref02_Put_L0_L2 := fun n1845 n1846 n1847 n1848 ns1849 k1 =>
  (cond_ (decide (n1848 < n1846)) (ref02_Put_L0_L2 n1845 n1846 (IntKind.wrap .u64 (Int.tdiv n1847 (256 : Int))) (IntKind.wrap .i64 (n1848 + (1 : Int))) ns1849 k1) (k1 n1845 n1846 n1847 ns1849))
noncomputable def ref02_Put_L0_L2 : Nat → T_ref02_Put_L0_L2
  | 0 => fun _ _ _ _ _ _ => none
  | n + 1 => ref02_Put_L0_L2.body (ref02_Put_L0_L2 n)
def ref02_Put_L0_L2.p : LPat := lp 2 45 [7, 8, 9, 10, 11] (ps (pr [1, 0]) (pl (pd (.int .u64)) (pl (pd (.int .i64)) (pl (pd (.int .u64)) (pl (pd (.int .i64)) pz))))) (pl (po [1, 0] 5 1 (ed (.int .u8))) pz)
def ref02_Put_L0_L2.g (F : T_ref02_Put_L0_L2) (v : ref02_Put_L0_L2.p.T) (k : KE) : Option Bool := F v.1.1 v.1.2.1 v.1.2.2.1 v.1.2.2.2.1 v.2.1 (fun y0 y1 y2 y3 => k (.exit 2) ⟨fillS 45 [7, 8, 9, 10] [(.ref [1, 0]), (.d ⟨(.int .u64), y0⟩), (.d ⟨(.int .i64), y1⟩), (.d ⟨(.int .u64), y2⟩)], [([1, 0], ⟨5, 1, (.data (.int .u8) y3)⟩)], 2⟩)
theorem ref02_Put_L0_L2.step (S : T_ref02_Put_L0_L2) : ∀ v k, exR 22 Try.f22 2 ref02_Put_L0_L2.p [] [] [] (ref02_Put_L0_L2.g S) v k = ref02_Put_L0_L2.g (ref02_Put_L0_L2.body S) v k := fun v k => by kernel_rfl
theorem ref02_Put_L0_L2.ok : okL 22 Try.f22 0 2 ref02_Put_L0_L2.p (ref02_Put_L0_L2.g (ref02_Put_L0_L2 ROUNDS)) := loop2 (G := fun n => ref02_Put_L0_L2.g (ref02_Put_L0_L2 n)) (fun n => ref02_Put_L0_L2.step (ref02_Put_L0_L2 n)) .nil [] (by kernel_rfl) .nil (fun _ _ => rfl)
/-- function 22: the loop in block 0 -/
abbrev T_ref02_Put_L0 : Type := Int → Int → (List Int) → ((List Int) → Option Bool) → Option Bool
noncomputable def ref02_Put_L0.body (ref02_Put_L0 : T_ref02_Put_L0) (ref02_Put_L0_L2 : T_ref02_Put_L0_L2) : T_ref02_Put_L0 := fun n1842 n1843 ns1844 k1 =>
  (cond_ (decide (n1843 ≥ (0 : Int))) (ref02_Put_L0_L2 n1842 n1843 n1842 (0 : Int) ns1844
  (fun n1850 n1851 n1852 ns1853 => (cond_ (Nat.ble (((List.length ns1853) + (List.length ((IntKind.wrap .u8 (Int.tmod n1852 (256 : Int))) :: []))) * (1 : Nat)) (140737488355328 : Nat)) (ref02_Put_L0 n1850 (IntKind.wrap .i64 (n1851 - (1 : Int))) (ns1853 ++ ((IntKind.wrap .u8 (Int.tmod n1852 (256 : Int))) :: [])) k1) none))) (k1 ns1844))
noncomputable def ref02_Put_L0 : Nat → T_ref02_Put_L0
  | 0 => fun _ _ _ _ => none
  | n + 1 => ref02_Put_L0.body (ref02_Put_L0 n) (ref02_Put_L0_L2 ROUNDS)
def ref02_Put_L0.p : LPat := lp 2 45 [7, 8, 9] (ps (pr [1, 0]) (pl (pd (.int .u64)) (pl (pd (.int .i64)) pz))) (pl (po [1, 0] 5 1 (ed (.int .u8))) pz)
def ref02_Put_L0.g (F : T_ref02_Put_L0) (v : ref02_Put_L0.p.T) (k : KE) : Option Bool := F v.1.1 v.1.2.1 v.2.1 (fun y0 => k (.exit 0) ⟨fillS 45 [7] [(.ref [1, 0])], [([1, 0], ⟨5, 1, (.data (.int .u8) y0)⟩)], 2⟩)
theorem ref02_Put_L0.step (S : T_ref02_Put_L0) (L0 : T_ref02_Put_L0_L2) : ∀ v k, exR 22 Try.f22 0 ref02_Put_L0.p [] [] [⟨2, ref02_Put_L0_L2.p, ref02_Put_L0_L2.g L0⟩] (ref02_Put_L0.g S) v k = ref02_Put_L0.g (ref02_Put_L0.body S L0) v k := fun v k => by kernel_rfl
theorem ref02_Put_L0.ok : okL 22 Try.f22 0 0 ref02_Put_L0.p (ref02_Put_L0.g (ref02_Put_L0 ROUNDS)) := loop2 (G := fun n => ref02_Put_L0.g (ref02_Put_L0 n)) (fun n => ref02_Put_L0.step (ref02_Put_L0 n) (ref02_Put_L0_L2 ROUNDS)) .nil [2] (by kernel_rfl) (.cons ref02_Put_L0_L2.ok .nil) (fun _ _ => rfl)
/-- function 22: sheerleg/sheerlegref02.Put -/
abbrev T_ref02_Put : Type := (List Int) → Int → Int → ((List Int) → Option Bool) → Option Bool
noncomputable def ref02_Put.body (ref02_Put_L0 : T_ref02_Put_L0) : T_ref02_Put := fun ns1839 n1840 n1841 k1 =>
  (cond_ (Nat.ble ((List.length ns1839) * (1 : Nat)) (140737488355328 : Nat)) (cond_ (! (decide (n1841 < (1 : Int)))) (cond_ (decide (n1841 > (8 : Int))) (k1 ns1839) (ref02_Put_L0 (IntKind.wrap .u64 n1840) (IntKind.wrap .i64 (n1841 - (1 : Int))) ns1839
  (fun ns1854 => (k1 ns1854)))) (k1 ns1839)) none)
noncomputable def ref02_Put : T_ref02_Put := ref02_Put.body (ref02_Put_L0 ROUNDS)
def ref02_Put.p : FPat := fp 22 (pl (pb 0 5 (.int .u8)) (pl (pd (.int .i64)) (pl (pd (.int .i64)) pz))) pz
def ref02_Put.g (F : T_ref02_Put) (v : ref02_Put.p.T) (k : KR) : Option Bool := F v.1.1 v.1.2.1 v.1.2.2.1 (fun y0 => k (.ref [1, 0]) [([1, 0], ⟨5, 1, (.data (.int .u8) y0)⟩)])
theorem ref02_Put.eq (L0 : T_ref02_Put_L0) : ∀ v k, exF Try.f22 ref02_Put.p [] [] [⟨0, ref02_Put_L0.p, ref02_Put_L0.g L0⟩] v k = ref02_Put.g (ref02_Put.body L0) v k := fun v k => by kernel_rfl
theorem ref02_Put.ok : okF 1 ref02_Put.p (ref02_Put.g ref02_Put) := fn2 (ref02_Put.eq (ref02_Put_L0 ROUNDS)) Try.func22 (by kernel_rfl) .nil [0] (by kernel_rfl) (.cons ref02_Put_L0.ok .nil)
/-- function 24: sheerleg/sheerlegref03.Seal -/
abbrev T_ref03_Seal : Type := (List Int) → ((List Int) → Option Bool) → Option Bool
noncomputable def ref03_Seal.body (ref03_Of : T_ref03_Of) (ref02_Put : T_ref02_Put) : T_ref03_Seal := fun ns1830 k1 =>
  (ref03_Of ns1830
  (fun n1838 => (ref02_Put ns1830 n1838 (4 : Int)
  (fun ns1855 => (k1 ns1855)))))
noncomputable def ref03_Seal : T_ref03_Seal := ref03_Seal.body ref03_Of ref02_Put
def ref03_Seal.p : FPat := fp 24 (pl (pb 0 5 (.int .u8)) pz) pz
def ref03_Seal.g (F : T_ref03_Seal) (v : ref03_Seal.p.T) (k : KR) : Option Bool := F v.1.1 (fun y0 => k (.ref [1, 0]) [([1, 0], ⟨5, 1, (.data (.int .u8) y0)⟩)])
theorem ref03_Seal.eq (F0 : T_ref03_Of) (F1 : T_ref02_Put) : ∀ v k, exF Try.f24 ref03_Seal.p [⟨ref03_Of.p, ref03_Of.g F0⟩, ⟨ref02_Put.p, ref02_Put.g F1⟩] [] [] v k = ref03_Seal.g (ref03_Seal.body F0 F1) v k := fun v k => by kernel_rfl
theorem ref03_Seal.ok : okF 2 ref03_Seal.p (ref03_Seal.g ref03_Seal) := fn2 (ref03_Seal.eq ref03_Of ref02_Put) Try.func24 (by kernel_rfl) (.cons ref03_Of.ok (.cons ref02_Put.ok .nil)) [] (by kernel_rfl) .nil
/-- function 16: sheerleg/sheerlegref03.Open -/
abbrev T_ref03_Open : Type := (List Int) → ((List Int) → Int → Option Bool) → Option Bool
noncomputable def ref03_Open.body (ref03_Seal : T_ref03_Seal) : T_ref03_Open := fun ns1829 k1 =>
  (cond_ (decide ((IntKind.wrap .i64 ((List.length ns1829 : Int) - (4 : Int))) < (0 : Int))) (k1 [] (5 : Int)) (cond_ ((true && (decide ((0 : Int) ≤ (IntKind.wrap .i64 ((List.length ns1829 : Int) - (4 : Int)))))) && (decide ((IntKind.wrap .i64 ((List.length ns1829 : Int) - (4 : Int))) ≤ (List.length ns1829 : Int)))) (ref03_Seal (List.take (Int.toNat ((IntKind.wrap .i64 ((List.length ns1829 : Int) - (4 : Int))) - (0 : Int))) (List.drop (0 : Nat) ns1829))
  (fun ns1856 => (cond_ (! ((ByteArray.toList (strOf ns1856)) == (ByteArray.toList (strOf ns1829)))) (k1 [] (4 : Int)) (cond_ ((true && (decide ((0 : Int) ≤ (IntKind.wrap .i64 ((List.length ns1829 : Int) - (4 : Int)))))) && (decide ((IntKind.wrap .i64 ((List.length ns1829 : Int) - (4 : Int))) ≤ (List.length ns1829 : Int)))) (k1 (List.take (Int.toNat ((IntKind.wrap .i64 ((List.length ns1829 : Int) - (4 : Int))) - (0 : Int))) (List.drop (0 : Nat) ns1829)) (0 : Int)) none)))) none))
noncomputable def ref03_Open : T_ref03_Open := ref03_Open.body ref03_Seal
def ref03_Open.p : FPat := fp 16 (pl (pb 0 5 (.int .u8)) pz) pz
def ref03_Open.g (F : T_ref03_Open) (v : ref03_Open.p.T) (k : KR) : Option Bool := F v.1.1 (fun y0 y1 => k (.tup [(.bv 0 5 (.int .u8) y0), (.d ⟨(.int .i64), y1⟩)]) [])
theorem ref03_Open.eq (F0 : T_ref03_Seal) : ∀ v k, exF Try.f16 ref03_Open.p [⟨ref03_Seal.p, ref03_Seal.g F0⟩] [] [] v k = ref03_Open.g (ref03_Open.body F0) v k := fun v k => by kernel_rfl
theorem ref03_Open.ok : okF 3 ref03_Open.p (ref03_Open.g ref03_Open) := fn2 (ref03_Open.eq ref03_Seal) Try.func16 (by kernel_rfl) (.cons ref03_Seal.ok .nil) [] (by kernel_rfl) .nil
/-- function 44: the loop in block 0 -/
abbrev T_ref02_Num_L0 : Type := Int → Bool → Int → Int → Tc2 → Int → Bool → (Int → Bool → Int → Tc2 → Int → Bool → Option Bool) → Option Bool
noncomputable def ref02_Num_L0.body (ref02_Num_L0 : T_ref02_Num_L0) : T_ref02_Num_L0 := fun n1871 b1872 n1873 n1874 t1875 n1876 b1877 k1 =>
  (cond_ (decide (n1874 < n1871)) (cond_ ((decide ((0 : Int) ≤ (IntKind.wrap .i64 (t1875.2.1 + n1874)))) && (decide ((IntKind.wrap .i64 (t1875.2.1 + n1874)) < (((List.length t1875.1) : Nat) : Int)))) (ref02_Num_L0 n1871 b1872 (IntKind.wrap .u64 ((IntKind.wrap .u64 (n1873 * (256 : Int))) + (IntKind.wrap .u64 (List.getD t1875.1 (Int.toNat (IntKind.wrap .i64 (t1875.2.1 + n1874))) (0 : Int))))) (IntKind.wrap .i64 (n1874 + (1 : Int))) t1875 n1876 b1877 k1) none) (k1 n1871 b1872 n1873 t1875 n1876 b1877))
noncomputable def ref02_Num_L0 : Nat → T_ref02_Num_L0
  | 0 => fun _ _ _ _ _ _ _ _ => none
  | n + 1 => ref02_Num_L0.body (ref02_Num_L0 n)
def ref02_Num_L0.p : LPat := lp 2 83 [1, 2, 3, 6, 8, 9] (pl (pd (.int .i64)) (pl (pd .bool) (ps (pq [1, 0] 0 0) (ps (pq [1, 1] 0 0) (pl (pd (.int .u64)) (pl (pd (.int .i64)) pz)))))) (pl (po [1, 0] 89 3 (es Ty7 (pl eh pz))) (pl (po [1, 1] 89 3 (em (pl (pa (ps (pk 0) (pl (pd (.int .i64)) (pl (pd .bool) pz)))) pz))) pz))
def ref02_Num_L0.g (F : T_ref02_Num_L0) (v : ref02_Num_L0.p.T) (k : KE) : Option Bool := F v.1.1 v.1.2.1 v.1.2.2.1 v.1.2.2.2.1 v.2.1.1 v.2.2.1.1.1 v.2.2.1.1.2.1 (fun y0 y1 y2 y3 y4 y5 => k (.exit 0) ⟨fillS 83 [1, 2, 3, 6, 8] [(.d ⟨(.int .i64), y0⟩), (.d ⟨.bool, y1⟩), (.ptr [1, 0] 0 0), (.ptr [1, 1] 0 0), (.d ⟨(.int .u64), y2⟩)], [([1, 0], ⟨89, 3, (.data Ty7 [y3])⟩), ([1, 1], ⟨89, 3, (.mix [(.agg [.nils, (.d ⟨(.int .i64), y4⟩), (.d ⟨.bool, y5⟩)])])⟩)], 2⟩)
theorem ref02_Num_L0.step (S : T_ref02_Num_L0) : ∀ v k, exR 44 Try.f44 0 ref02_Num_L0.p [] [] [] (ref02_Num_L0.g S) v k = ref02_Num_L0.g (ref02_Num_L0.body S) v k := fun v k => by kernel_rfl
theorem ref02_Num_L0.ok : okL 44 Try.f44 0 0 ref02_Num_L0.p (ref02_Num_L0.g (ref02_Num_L0 ROUNDS)) := loop2 (G := fun n => ref02_Num_L0.g (ref02_Num_L0 n)) (fun n => ref02_Num_L0.step (ref02_Num_L0 n)) .nil [] (by kernel_rfl) .nil (fun _ _ => rfl)
/-- function 44: the loop in block 2 -/
abbrev T_ref02_Num_L2 : Type := Int → Int → Int → Int → Tc2 → Int → Bool → (Int → Int → Int → Tc2 → Int → Bool → Option Bool) → Option Bool
noncomputable def ref02_Num_L2.body (ref02_Num_L2 : T_ref02_Num_L2) : T_ref02_Num_L2 := fun n1884 n1885 n1886 n1887 t1888 n1889 b1890 k1 =>
  (cond_ (decide (n1887 < n1884)) (ref02_Num_L2 n1884 n1885 (IntKind.wrap .u64 (n1886 * (256 : Int))) (IntKind.wrap .i64 (n1887 + (1 : Int))) t1888 n1889 b1890 k1) (k1 n1884 n1885 n1886 t1888 n1889 b1890))
noncomputable def ref02_Num_L2 : Nat → T_ref02_Num_L2
  | 0 => fun _ _ _ _ _ _ _ _ => none
  | n + 1 => ref02_Num_L2.body (ref02_Num_L2 n)
def ref02_Num_L2.p : LPat := lp 2 83 [1, 3, 6, 8, 10, 11] (pl (pd (.int .i64)) (ps (pq [1, 0] 0 0) (ps (pq [1, 1] 0 0) (pl (pd (.int .u64)) (pl (pd (.int .u64)) (pl (pd (.int .i64)) pz)))))) (pl (po [1, 0] 89 3 (es Ty7 (pl eh pz))) (pl (po [1, 1] 89 3 (em (pl (pa (ps (pk 0) (pl (pd (.int .i64)) (pl (pd .bool) pz)))) pz))) pz))
def ref02_Num_L2.g (F : T_ref02_Num_L2) (v : ref02_Num_L2.p.T) (k : KE) : Option Bool := F v.1.1 v.1.2.1 v.1.2.2.1 v.1.2.2.2.1 v.2.1.1 v.2.2.1.1.1 v.2.2.1.1.2.1 (fun y0 y1 y2 y3 y4 y5 => k (.exit 2) ⟨fillS 83 [1, 3, 6, 8, 10] [(.d ⟨(.int .i64), y0⟩), (.ptr [1, 0] 0 0), (.ptr [1, 1] 0 0), (.d ⟨(.int .u64), y1⟩), (.d ⟨(.int .u64), y2⟩)], [([1, 0], ⟨89, 3, (.data Ty7 [y3])⟩), ([1, 1], ⟨89, 3, (.mix [(.agg [.nils, (.d ⟨(.int .i64), y4⟩), (.d ⟨.bool, y5⟩)])])⟩)], 2⟩)
theorem ref02_Num_L2.step (S : T_ref02_Num_L2) : ∀ v k, exR 44 Try.f44 2 ref02_Num_L2.p [] [] [] (ref02_Num_L2.g S) v k = ref02_Num_L2.g (ref02_Num_L2.body S) v k := fun v k => by kernel_rfl
theorem ref02_Num_L2.ok : okL 44 Try.f44 0 2 ref02_Num_L2.p (ref02_Num_L2.g (ref02_Num_L2 ROUNDS)) := loop2 (G := fun n => ref02_Num_L2.g (ref02_Num_L2 n)) (fun n => ref02_Num_L2.step (ref02_Num_L2 n)) .nil [] (by kernel_rfl) .nil (fun _ _ => rfl)
/-- function 44: sheerleg/sheerlegref02.Num -/
abbrev T_ref02_Num : Type := Tc2 → Int → Bool → (Tc2 → Int → Option Bool) → Option Bool
noncomputable def ref02_Num.body (ref02_Num_L0 : T_ref02_Num_L0) (ref02_Num_L2 : T_ref02_Num_L2) : T_ref02_Num := fun t1868 n1869 b1870 k1 =>
  (cond_ (! t1868.2.2.1) (cond_ (! (decide (n1869 < (1 : Int)))) (cond_ (! (decide (n1869 > (8 : Int)))) (cond_ (decide (n1869 > (IntKind.wrap .i64 ((((List.length t1868.1) : Nat) : Int) - t1868.2.1)))) (k1 (t1868.1, (t1868.2.1, (true, ()))) (0 : Int)) (ref02_Num_L0 n1869 b1870 (0 : Int) (0 : Int) t1868 (0 : Int) false
  (fun n1878 b1879 n1880 t1881 n1882 b1883 => (cond_ b1879 (cond_ (decide (n1878 < (8 : Int))) (cond_ ((decide ((0 : Int) ≤ t1881.2.1)) && (decide (t1881.2.1 < (((List.length t1881.1) : Nat) : Int)))) (cond_ (decide ((List.getD t1881.1 (Int.toNat t1881.2.1) (0 : Int)) ≥ (128 : Int))) (ref02_Num_L2 n1878 n1880 (1 : Int) (0 : Int) t1881 n1882 b1883
  (fun n1891 n1892 n1893 t1894 n1895 b1896 => (k1 (t1894.1, ((IntKind.wrap .i64 (t1894.2.1 + n1891)), (t1894.2.2.1, ()))) (IntKind.wrap .i64 (IntKind.wrap .u64 (n1892 - n1893)))))) (k1 (t1881.1, ((IntKind.wrap .i64 (t1881.2.1 + n1878)), (t1881.2.2.1, ()))) (IntKind.wrap .i64 n1880))) none) (k1 (t1881.1, ((IntKind.wrap .i64 (t1881.2.1 + n1878)), (t1881.2.2.1, ()))) (IntKind.wrap .i64 n1880))) (k1 (t1881.1, ((IntKind.wrap .i64 (t1881.2.1 + n1878)), (t1881.2.2.1, ()))) (IntKind.wrap .i64 n1880)))))) (k1 (t1868.1, (t1868.2.1, (true, ()))) (0 : Int))) (k1 (t1868.1, (t1868.2.1, (true, ()))) (0 : Int))) (k1 (t1868.1, (t1868.2.1, (true, ()))) (0 : Int)))
noncomputable def ref02_Num : T_ref02_Num := ref02_Num.body (ref02_Num_L0 ROUNDS) (ref02_Num_L2 ROUNDS)
def ref02_Num.p : FPat := fp 44 (pl (pd Ty7) (pl (pd (.int .i64)) (pl (pd .bool) pz))) pz
def ref02_Num.g (F : T_ref02_Num) (v : ref02_Num.p.T) (k : KR) : Option Bool := F v.1.1 v.1.2.1 v.1.2.2.1 (fun y0 y1 => k (.tup [(.d ⟨Ty7, y0⟩), (.d ⟨(.int .i64), y1⟩)]) [])
theorem ref02_Num.eq (L0 : T_ref02_Num_L0) (L1 : T_ref02_Num_L2) : ∀ v k, exF Try.f44 ref02_Num.p [] [] [⟨0, ref02_Num_L0.p, ref02_Num_L0.g L0⟩, ⟨2, ref02_Num_L2.p, ref02_Num_L2.g L1⟩] v k = ref02_Num.g (ref02_Num.body L0 L1) v k := fun v k => by kernel_rfl
theorem ref02_Num.ok : okF 1 ref02_Num.p (ref02_Num.g ref02_Num) := fn2 (ref02_Num.eq (ref02_Num_L0 ROUNDS) (ref02_Num_L2 ROUNDS)) Try.func44 (by kernel_rfl) .nil [0, 2] (by kernel_rfl) (.cons ref02_Num_L0.ok (.cons ref02_Num_L2.ok .nil))
/-- function 43: the loop in block 0 -/
abbrev T_ref13_Nums_L0 : Type := (List Int) → Int → Tc2 → Int → Bool → (List Int) → (Tc2 → Int → Bool → (List Int) → Option Bool) → Option Bool
noncomputable def ref13_Nums_L0.body (ref13_Nums_L0 : T_ref13_Nums_L0) (ref02_Num : T_ref02_Num) : T_ref13_Nums_L0 := fun ns1862 n1863 t1864 n1865 b1866 ns1867 k1 =>
  (cond_ (decide (n1863 < (List.length ns1862 : Int))) (cond_ ((decide ((0 : Int) ≤ n1863)) && (decide (n1863 < (List.length ns1862 : Int)))) (ref02_Num t1864 (List.getD ns1862 (Int.toNat n1863) (0 : Int)) false
  (fun t1897 n1898 => (cond_ (Nat.ble (((List.length ns1867) + (List.length (n1898 :: []))) * (8 : Nat)) (140737488355328 : Nat)) (ref13_Nums_L0 ns1862 (IntKind.wrap .i64 (n1863 + (1 : Int))) (t1897.1, (t1897.2.1, (t1897.2.2.1, ()))) n1865 b1866 (ns1867 ++ (n1898 :: [])) k1) none))) none) (k1 t1864 n1865 b1866 ns1867))
noncomputable def ref13_Nums_L0 : Nat → T_ref13_Nums_L0
  | 0 => fun _ _ _ _ _ _ _ => none
  | n + 1 => ref13_Nums_L0.body (ref13_Nums_L0 n) ref02_Num
def ref13_Nums_L0.p : LPat := lp 2 32 [1, 2, 4, 6, 7] (pl (pb 1 3 (.int .i64)) (ps (pq [1, 0] 0 0) (ps (pq [1, 1] 0 0) (ps (pr [1, 2]) (pl (pd (.int .i64)) pz))))) (pl (po [1, 0] 89 3 (es Ty7 (pl eh pz))) (pl (po [1, 1] 89 3 (em (pl (pa (ps (pk 0) (pl (pd (.int .i64)) (pl (pd .bool) pz)))) pz))) (pl (po [1, 2] 2 1 (ed (.int .i64))) pz)))
def ref13_Nums_L0.g (F : T_ref13_Nums_L0) (v : ref13_Nums_L0.p.T) (k : KE) : Option Bool := F v.1.1 v.1.2.1 v.2.1.1 v.2.2.1.1.1 v.2.2.1.1.2.1 v.2.2.2.1 (fun y0 y1 y2 y3 => k (.exit 0) ⟨fillS 32 [2, 4, 6] [(.ptr [1, 0] 0 0), (.ptr [1, 1] 0 0), (.ref [1, 2])], [([1, 0], ⟨89, 3, (.data Ty7 [y0])⟩), ([1, 1], ⟨89, 3, (.mix [(.agg [.nils, (.d ⟨(.int .i64), y1⟩), (.d ⟨.bool, y2⟩)])])⟩), ([1, 2], ⟨2, 1, (.data (.int .i64) y3)⟩)], 2⟩)
theorem ref13_Nums_L0.step (S : T_ref13_Nums_L0) (F0 : T_ref02_Num) : ∀ v k, exR 43 Try.f43 0 ref13_Nums_L0.p [⟨ref02_Num.p, ref02_Num.g F0⟩] [] [] (ref13_Nums_L0.g S) v k = ref13_Nums_L0.g (ref13_Nums_L0.body S F0) v k := fun v k => by kernel_rfl
theorem ref13_Nums_L0.ok : okL 43 Try.f43 1 0 ref13_Nums_L0.p (ref13_Nums_L0.g (ref13_Nums_L0 ROUNDS)) := loop2 (G := fun n => ref13_Nums_L0.g (ref13_Nums_L0 n)) (fun n => ref13_Nums_L0.step (ref13_Nums_L0 n) ref02_Num) (.cons ref02_Num.ok .nil) [] (by kernel_rfl) .nil (fun _ _ => rfl)
/-- function 43: sheerleg/sheerlegref13.Nums -/
abbrev T_ref13_Nums : Type := Tc2 → (List Int) → (Tc2 → (List Int) → Option Bool) → Option Bool
noncomputable def ref13_Nums.body (ref13_Nums_L0 : T_ref13_Nums_L0) : T_ref13_Nums := fun t1860 ns1861 k1 =>
  (ref13_Nums_L0 ns1861 (0 : Int) t1860 (0 : Int) false []
  (fun t1899 n1900 b1901 ns1902 => (k1 (t1899.1, (t1899.2.1, (t1899.2.2.1, ()))) ns1902)))
noncomputable def ref13_Nums : T_ref13_Nums := ref13_Nums.body (ref13_Nums_L0 ROUNDS)
def ref13_Nums.p : FPat := fp 43 (pl (pd Ty7) (pl (pb 1 3 (.int .i64)) pz)) pz
def ref13_Nums.g (F : T_ref13_Nums) (v : ref13_Nums.p.T) (k : KR) : Option Bool := F v.1.1 v.1.2.1 (fun y0 y1 => k (.tup [(.d ⟨Ty7, y0⟩), (.ref [1, 0])]) [([1, 0], ⟨2, 1, (.data (.int .i64) y1)⟩)])
theorem ref13_Nums.eq (L0 : T_ref13_Nums_L0) : ∀ v k, exF Try.f43 ref13_Nums.p [] [] [⟨0, ref13_Nums_L0.p, ref13_Nums_L0.g L0⟩] v k = ref13_Nums.g (ref13_Nums.body L0) v k := fun v k => by kernel_rfl
theorem ref13_Nums.ok : okF 2 ref13_Nums.p (ref13_Nums.g ref13_Nums) := fn2 (ref13_Nums.eq (ref13_Nums_L0 ROUNDS)) Try.func43 (by kernel_rfl) .nil [0] (by kernel_rfl) (.cons ref13_Nums_L0.ok .nil)
/-- function 17: the loop in block 0 -/
abbrev T_ref35_inner_L0 : Type := (List Int) → Int → Int → (List Int) → Int → Bool → (List Int) → Int → Tc7 → ((List Int) → Int → (List Int) → Int → Bool → Int → Tc7 → Option Bool) → Option Bool
noncomputable def ref35_inner_L0.body (ref35_inner_L0 : T_ref35_inner_L0) (ref13_Nums : T_ref13_Nums) (ref02_Num : T_ref02_Num) : T_ref35_inner_L0 := fun ns1905 n1906 n1907 l1908 n1909 b1910 ns1911 n1912 ts1913 k1 =>
  (cond_ (true && (decide ((1 : Int) < (List.length ns1911 : Int)))) (cond_ (decide (n1906 < (List.getD ns1911 (1 : Nat) (0 : Int)))) (cond_ (! b1910) (ref13_Nums (l1908, (n1909, (b1910, ()))) [(1 : Int), (1 : Int), (1 : Int), (1 : Int)]
  (fun t1914 ns1915 => (ref02_Num (t1914.1, (t1914.2.1, (t1914.2.2.1, ()))) (4 : Int) true
  (fun t1916 n1917 => (cond_ (true && (decide ((0 : Int) < (List.length ns1915 : Int)))) (cond_ (true && (decide ((1 : Int) < (List.length ns1915 : Int)))) (cond_ (true && (decide ((2 : Int) < (List.length ns1915 : Int)))) (cond_ (true && (decide ((3 : Int) < (List.length ns1915 : Int)))) (cond_ (Nat.ble (((List.length ts1913) + (List.length (((List.getD ns1915 (0 : Nat) (0 : Int)), ((List.getD ns1915 (1 : Nat) (0 : Int)), ((List.getD ns1915 (2 : Nat) (0 : Int)), ((List.getD ns1915 (3 : Nat) (0 : Int)), (n1917, ()))))) :: []))) * (40 : Nat)) (140737488355328 : Nat)) (ref35_inner_L0 ns1905 (IntKind.wrap .i64 (n1906 + (1 : Int))) n1907 t1916.1 t1916.2.1 t1916.2.2.1 ns1911 n1912 (ts1913 ++ (((List.getD ns1915 (0 : Nat) (0 : Int)), ((List.getD ns1915 (1 : Nat) (0 : Int)), ((List.getD ns1915 (2 : Nat) (0 : Int)), ((List.getD ns1915 (3 : Nat) (0 : Int)), (n1917, ()))))) :: [])) k1) none) none) none) none) none))))) (k1 ns1905 n1907 l1908 n1909 b1910 n1912 ts1913)) (k1 ns1905 n1907 l1908 n1909 b1910 n1912 ts1913)) none)
noncomputable def ref35_inner_L0 : Nat → T_ref35_inner_L0
  | 0 => fun _ _ _ _ _ _ _ _ _ _ => none
  | n + 1 => ref35_inner_L0.body (ref35_inner_L0 n) ref13_Nums ref02_Num
def ref35_inner_L0.p : LPat := lp 2 186 [0, 2, 4, 5, 6, 7] (pl (pb 0 5 (.int .u8)) (ps (pq [1, 0] 0 0) (ps (pq [1, 1] 0 0) (ps (pr [1, 2]) (ps (pq [1, 3] 0 0) (pl (pd (.int .i64)) pz)))))) (pl (po [1, 0] 27 5 (em (pl (pa (ps (pk 0) (ps (pk 0) (ps (pk 0) (ps (pk 0) (pl (pd (.int .i64)) pz)))))) pz))) (pl (po [1, 1] 89 3 (em (pl (pa (pl (pd Ty0) (pl (pd (.int .i64)) (pl (pd .bool) pz)))) pz))) (pl (po [1, 2] 2 1 (ed (.int .i64))) (pl (po [1, 3] 27 5 (em (pl (pa (ps (pr [1, 4]) (ps (pk 0) (ps (pk 0) (ps (pk 0) (pl (pd (.int .i64)) pz)))))) pz))) (pl (po [1, 4] 55 5 (ed Ty12)) pz)))))
def ref35_inner_L0.g (F : T_ref35_inner_L0) (v : ref35_inner_L0.p.T) (k : KE) : Option Bool := F v.1.1 v.1.2.1 v.2.1.1.1 v.2.2.1.1.1 v.2.2.1.1.2.1 v.2.2.1.1.2.2.1 v.2.2.2.1 v.2.2.2.2.1.1.1 v.2.2.2.2.2.1 (fun y0 y1 y2 y3 y4 y5 y6 => k (.exit 0) ⟨fillS 186 [0, 2, 4, 6] [(.bv 0 5 (.int .u8) y0), (.ptr [1, 0] 0 0), (.ptr [1, 1] 0 0), (.ptr [1, 2] 0 0)], [([1, 0], ⟨27, 5, (.mix [(.agg [.nils, .nils, .nils, .nils, (.d ⟨(.int .i64), y1⟩)])])⟩), ([1, 1], ⟨89, 3, (.mix [(.agg [(.d ⟨Ty0, y2⟩), (.d ⟨(.int .i64), y3⟩), (.d ⟨.bool, y4⟩)])])⟩), ([1, 2], ⟨27, 5, (.mix [(.agg [(.ref [1, 3]), .nils, .nils, .nils, (.d ⟨(.int .i64), y5⟩)])])⟩), ([1, 3], ⟨55, 5, (.data Ty12 y6)⟩)], 2⟩)
theorem ref35_inner_L0.step (S : T_ref35_inner_L0) (F0 : T_ref13_Nums) (F1 : T_ref02_Num) : ∀ v k, exR 17 Try.f17 0 ref35_inner_L0.p [⟨ref13_Nums.p, ref13_Nums.g F0⟩, ⟨ref02_Num.p, ref02_Num.g F1⟩] [] [] (ref35_inner_L0.g S) v k = ref35_inner_L0.g (ref35_inner_L0.body S F0 F1) v k := fun v k => by kernel_rfl
theorem ref35_inner_L0.ok : okL 17 Try.f17 2 0 ref35_inner_L0.p (ref35_inner_L0.g (ref35_inner_L0 ROUNDS)) := loop2 (G := fun n => ref35_inner_L0.g (ref35_inner_L0 n)) (fun n => ref35_inner_L0.step (ref35_inner_L0 n) ref13_Nums ref02_Num) (.cons ref13_Nums.ok (.cons ref02_Num.ok .nil)) [] (by kernel_rfl) .nil (fun _ _ => rfl)
/-- function 17: the loop in block 2 -/
abbrev T_ref35_inner_L2 : Type := (List Int) → Int → Int → (List Int) → Int → Bool → (List Int) → Int → Tc7 → (List Int) → ((List Int) → Int → (List Int) → Int → Bool → Int → Tc7 → (List Int) → Option Bool) → Option Bool
noncomputable def ref35_inner_L2.body (ref35_inner_L2 : T_ref35_inner_L2) (ref02_Num : T_ref02_Num) : T_ref35_inner_L2 := fun ns1927 n1928 n1929 l1930 n1931 b1932 ns1933 n1934 ts1935 ns1936 k1 =>
  (cond_ (true && (decide ((0 : Int) < (List.length ns1933 : Int)))) (cond_ (decide (n1928 < (List.getD ns1933 (0 : Nat) (0 : Int)))) (cond_ (! b1932) (ref02_Num (l1930, (n1931, (b1932, ()))) (8 : Int) false
  (fun t1937 n1938 => (cond_ (Nat.ble (((List.length ns1936) + (List.length (n1938 :: []))) * (8 : Nat)) (140737488355328 : Nat)) (ref35_inner_L2 ns1927 (IntKind.wrap .i64 (n1928 + (1 : Int))) n1929 t1937.1 t1937.2.1 t1937.2.2.1 ns1933 n1934 ts1935 (ns1936 ++ (n1938 :: [])) k1) none))) (k1 ns1927 n1929 l1930 n1931 b1932 n1934 ts1935 ns1936)) (k1 ns1927 n1929 l1930 n1931 b1932 n1934 ts1935 ns1936)) none)
noncomputable def ref35_inner_L2 : Nat → T_ref35_inner_L2
  | 0 => fun _ _ _ _ _ _ _ _ _ _ _ => none
  | n + 1 => ref35_inner_L2.body (ref35_inner_L2 n) ref02_Num
def ref35_inner_L2.p : LPat := lp 2 186 [0, 2, 4, 5, 6, 12] (pl (pb 0 5 (.int .u8)) (ps (pq [1, 0] 0 0) (ps (pq [1, 1] 0 0) (ps (pr [1, 2]) (ps (pq [1, 3] 0 0) (pl (pd (.int .i64)) pz)))))) (pl (po [1, 0] 27 5 (em (pl (pa (ps (pk 0) (ps (pk 0) (ps (pk 0) (ps (pk 0) (pl (pd (.int .i64)) pz)))))) pz))) (pl (po [1, 1] 89 3 (em (pl (pa (pl (pd Ty0) (pl (pd (.int .i64)) (pl (pd .bool) pz)))) pz))) (pl (po [1, 2] 2 1 (ed (.int .i64))) (pl (po [1, 3] 27 5 (em (pl (pa (ps (pr [1, 4]) (ps (pr [1, 5]) (ps (pk 0) (ps (pk 0) (pl (pd (.int .i64)) pz)))))) pz))) (pl (po [1, 4] 55 5 (ed Ty12)) (pl (po [1, 5] 2 1 (ed (.int .i64))) pz))))))
def ref35_inner_L2.g (F : T_ref35_inner_L2) (v : ref35_inner_L2.p.T) (k : KE) : Option Bool := F v.1.1 v.1.2.1 v.2.1.1.1 v.2.2.1.1.1 v.2.2.1.1.2.1 v.2.2.1.1.2.2.1 v.2.2.2.1 v.2.2.2.2.1.1.1 v.2.2.2.2.2.1 v.2.2.2.2.2.2.1 (fun y0 y1 y2 y3 y4 y5 y6 y7 => k (.exit 2) ⟨fillS 186 [0, 2, 4, 6] [(.bv 0 5 (.int .u8) y0), (.ptr [1, 0] 0 0), (.ptr [1, 1] 0 0), (.ptr [1, 2] 0 0)], [([1, 0], ⟨27, 5, (.mix [(.agg [.nils, .nils, .nils, .nils, (.d ⟨(.int .i64), y1⟩)])])⟩), ([1, 1], ⟨89, 3, (.mix [(.agg [(.d ⟨Ty0, y2⟩), (.d ⟨(.int .i64), y3⟩), (.d ⟨.bool, y4⟩)])])⟩), ([1, 2], ⟨27, 5, (.mix [(.agg [(.ref [1, 3]), (.ref [1, 4]), .nils, .nils, (.d ⟨(.int .i64), y5⟩)])])⟩), ([1, 3], ⟨55, 5, (.data Ty12 y6)⟩), ([1, 4], ⟨2, 1, (.data (.int .i64) y7)⟩)], 2⟩)
theorem ref35_inner_L2.step (S : T_ref35_inner_L2) (F0 : T_ref02_Num) : ∀ v k, exR 17 Try.f17 2 ref35_inner_L2.p [⟨ref02_Num.p, ref02_Num.g F0⟩] [] [] (ref35_inner_L2.g S) v k = ref35_inner_L2.g (ref35_inner_L2.body S F0) v k := fun v k => by kernel_rfl
theorem ref35_inner_L2.ok : okL 17 Try.f17 1 2 ref35_inner_L2.p (ref35_inner_L2.g (ref35_inner_L2 ROUNDS)) := loop2 (G := fun n => ref35_inner_L2.g (ref35_inner_L2 n)) (fun n => ref35_inner_L2.step (ref35_inner_L2 n) ref02_Num) (.cons ref02_Num.ok .nil) [] (by kernel_rfl) .nil (fun _ _ => rfl)
/-- function 17: the loop in block 4 -/
abbrev T_ref35_inner_L4 : Type := (List Int) → Int → Int → (List Int) → Int → Bool → (List Int) → Int → Tc7 → (List Int) → Tc9 → ((List Int) → Int → (List Int) → Int → Bool → Int → Tc7 → (List Int) → Tc9 → Option Bool) → Option Bool
noncomputable def ref35_inner_L4.body (ref35_inner_L4 : T_ref35_inner_L4) (ref13_Nums : T_ref13_Nums) : T_ref35_inner_L4 := fun ns1949 n1950 n1951 l1952 n1953 b1954 ns1955 n1956 ts1957 ns1958 ts1959 k1 =>
  (cond_ (true && (decide ((0 : Int) < (List.length ns1955 : Int)))) (cond_ (decide (n1950 < (List.getD ns1955 (0 : Nat) (0 : Int)))) (cond_ (! b1954) (ref13_Nums (l1952, (n1953, (b1954, ()))) [(1 : Int), (1 : Int), (2 : Int), (2 : Int), (2 : Int), (2 : Int)]
  (fun t1960 ns1961 => (cond_ (true && (decide ((0 : Int) < (List.length ns1961 : Int)))) (cond_ (true && (decide ((1 : Int) < (List.length ns1961 : Int)))) (cond_ (true && (decide ((2 : Int) < (List.length ns1961 : Int)))) (cond_ (true && (decide ((3 : Int) < (List.length ns1961 : Int)))) (cond_ (true && (decide ((4 : Int) < (List.length ns1961 : Int)))) (cond_ (true && (decide ((5 : Int) < (List.length ns1961 : Int)))) (cond_ (Nat.ble (((List.length ts1959) + (List.length (((List.getD ns1961 (0 : Nat) (0 : Int)), ((List.getD ns1961 (1 : Nat) (0 : Int)), ((List.getD ns1961 (2 : Nat) (0 : Int)), ((List.getD ns1961 (3 : Nat) (0 : Int)), ((List.getD ns1961 (4 : Nat) (0 : Int)), ((List.getD ns1961 (5 : Nat) (0 : Int)), ())))))) :: []))) * (48 : Nat)) (140737488355328 : Nat)) (ref35_inner_L4 ns1949 (IntKind.wrap .i64 (n1950 + (1 : Int))) n1951 t1960.1 t1960.2.1 t1960.2.2.1 ns1955 n1956 ts1957 ns1958 (ts1959 ++ (((List.getD ns1961 (0 : Nat) (0 : Int)), ((List.getD ns1961 (1 : Nat) (0 : Int)), ((List.getD ns1961 (2 : Nat) (0 : Int)), ((List.getD ns1961 (3 : Nat) (0 : Int)), ((List.getD ns1961 (4 : Nat) (0 : Int)), ((List.getD ns1961 (5 : Nat) (0 : Int)), ())))))) :: [])) k1) none) none) none) none) none) none) none))) (k1 ns1949 n1951 l1952 n1953 b1954 n1956 ts1957 ns1958 ts1959)) (k1 ns1949 n1951 l1952 n1953 b1954 n1956 ts1957 ns1958 ts1959)) none)
noncomputable def ref35_inner_L4 : Nat → T_ref35_inner_L4
  | 0 => fun _ _ _ _ _ _ _ _ _ _ _ _ => none
  | n + 1 => ref35_inner_L4.body (ref35_inner_L4 n) ref13_Nums
def ref35_inner_L4.p : LPat := lp 2 186 [0, 2, 4, 5, 6, 15] (pl (pb 0 5 (.int .u8)) (ps (pq [1, 0] 0 0) (ps (pq [1, 1] 0 0) (ps (pr [1, 2]) (ps (pq [1, 3] 0 0) (pl (pd (.int .i64)) pz)))))) (pl (po [1, 0] 27 5 (em (pl (pa (ps (pk 0) (ps (pk 0) (ps (pk 0) (ps (pk 0) (pl (pd (.int .i64)) pz)))))) pz))) (pl (po [1, 1] 89 3 (em (pl (pa (pl (pd Ty0) (pl (pd (.int .i64)) (pl (pd .bool) pz)))) pz))) (pl (po [1, 2] 2 1 (ed (.int .i64))) (pl (po [1, 3] 27 5 (em (pl (pa (ps (pr [1, 4]) (ps (pr [1, 5]) (ps (pr [1, 6]) (ps (pk 0) (pl (pd (.int .i64)) pz)))))) pz))) (pl (po [1, 4] 55 5 (ed Ty12)) (pl (po [1, 5] 2 1 (ed (.int .i64))) (pl (po [1, 6] 58 6 (ed Ty15)) pz)))))))
def ref35_inner_L4.g (F : T_ref35_inner_L4) (v : ref35_inner_L4.p.T) (k : KE) : Option Bool := F v.1.1 v.1.2.1 v.2.1.1.1 v.2.2.1.1.1 v.2.2.1.1.2.1 v.2.2.1.1.2.2.1 v.2.2.2.1 v.2.2.2.2.1.1.1 v.2.2.2.2.2.1 v.2.2.2.2.2.2.1 v.2.2.2.2.2.2.2.1 (fun y0 y1 y2 y3 y4 y5 y6 y7 y8 => k (.exit 4) ⟨fillS 186 [0, 2, 4, 6] [(.bv 0 5 (.int .u8) y0), (.ptr [1, 0] 0 0), (.ptr [1, 1] 0 0), (.ptr [1, 2] 0 0)], [([1, 0], ⟨27, 5, (.mix [(.agg [.nils, .nils, .nils, .nils, (.d ⟨(.int .i64), y1⟩)])])⟩), ([1, 1], ⟨89, 3, (.mix [(.agg [(.d ⟨Ty0, y2⟩), (.d ⟨(.int .i64), y3⟩), (.d ⟨.bool, y4⟩)])])⟩), ([1, 2], ⟨27, 5, (.mix [(.agg [(.ref [1, 3]), (.ref [1, 4]), (.ref [1, 5]), .nils, (.d ⟨(.int .i64), y5⟩)])])⟩), ([1, 3], ⟨55, 5, (.data Ty12 y6)⟩), ([1, 4], ⟨2, 1, (.data (.int .i64) y7)⟩), ([1, 5], ⟨58, 6, (.data Ty15 y8)⟩)], 2⟩)
theorem ref35_inner_L4.step (S : T_ref35_inner_L4) (F0 : T_ref13_Nums) : ∀ v k, exR 17 Try.f17 4 ref35_inner_L4.p [⟨ref13_Nums.p, ref13_Nums.g F0⟩] [] [] (ref35_inner_L4.g S) v k = ref35_inner_L4.g (ref35_inner_L4.body S F0) v k := fun v k => by kernel_rfl
theorem ref35_inner_L4.ok : okL 17 Try.f17 2 4 ref35_inner_L4.p (ref35_inner_L4.g (ref35_inner_L4 ROUNDS)) := loop2 (G := fun n => ref35_inner_L4.g (ref35_inner_L4 n)) (fun n => ref35_inner_L4.step (ref35_inner_L4 n) ref13_Nums) (.cons ref13_Nums.ok .nil) [] (by kernel_rfl) .nil (fun _ _ => rfl)
/-- function 45: the loop in block 0 -/
abbrev T_ref13_Get_L0 : Type := Int → Int → Tc2 → Int → Bool → Tc8 → (Int → (List Int) → Int → Bool → Option Bool) → (Tc2 → Int → Bool → Tc8 → Option Bool) → Option Bool
noncomputable def ref13_Get_L0.body (ref13_Get_L0 : T_ref13_Get_L0) (ref13_Nums : T_ref13_Nums) : T_ref13_Get_L0 := fun n1974 n1975 t1976 n1977 b1978 ts1979 k1 k2 =>
  (cond_ (decide (n1975 < n1974)) (ref13_Nums t1976 [(2 : Int), (2 : Int), (2 : Int), (2 : Int), (1 : Int)]
  (fun t1980 ns1981 => (cond_ t1980.2.2.1 (k1 (5 : Int) t1980.1 t1980.2.1 t1980.2.2.1) (cond_ (true && (decide ((4 : Int) < (List.length ns1981 : Int)))) (cond_ (decide ((List.getD ns1981 (4 : Nat) (0 : Int)) > (1 : Int))) (k1 (3 : Int) t1980.1 t1980.2.1 t1980.2.2.1) (cond_ (true && (decide ((0 : Int) < (List.length ns1981 : Int)))) (cond_ (true && (decide ((1 : Int) < (List.length ns1981 : Int)))) (cond_ (true && (decide ((2 : Int) < (List.length ns1981 : Int)))) (cond_ (true && (decide ((3 : Int) < (List.length ns1981 : Int)))) (cond_ (true && (decide ((4 : Int) < (List.length ns1981 : Int)))) (cond_ (Nat.ble (((List.length ts1979) + (List.length (((List.getD ns1981 (0 : Nat) (0 : Int)), ((List.getD ns1981 (1 : Nat) (0 : Int)), ((List.getD ns1981 (2 : Nat) (0 : Int)), (((List.getD ns1981 (4 : Nat) (0 : Int)) == (1 : Int)), ((List.getD ns1981 (3 : Nat) (0 : Int)), ()))))) :: []))) * (40 : Nat)) (140737488355328 : Nat)) (ref13_Get_L0 n1974 (IntKind.wrap .i64 (n1975 + (1 : Int))) (t1980.1, (t1980.2.1, (t1980.2.2.1, ()))) n1977 b1978 (ts1979 ++ (((List.getD ns1981 (0 : Nat) (0 : Int)), ((List.getD ns1981 (1 : Nat) (0 : Int)), ((List.getD ns1981 (2 : Nat) (0 : Int)), (((List.getD ns1981 (4 : Nat) (0 : Int)) == (1 : Int)), ((List.getD ns1981 (3 : Nat) (0 : Int)), ()))))) :: [])) k1 k2) none) none) none) none) none) none)) none)))) (k2 t1976 n1977 b1978 ts1979))
noncomputable def ref13_Get_L0 : Nat → T_ref13_Get_L0
  | 0 => fun _ _ _ _ _ _ _ _ => none
  | n + 1 => ref13_Get_L0.body (ref13_Get_L0 n) ref13_Nums
def ref13_Get_L0.p : LPat := lp 2 61 [1, 2, 5, 6, 7] (ps (pq [1, 0] 0 0) (ps (pq [1, 1] 0 0) (pl (pd (.int .i64)) (ps (pr [1, 2]) (pl (pd (.int .i64)) pz))))) (pl (po [1, 0] 89 3 (es Ty7 (pl eh pz))) (pl (po [1, 1] 89 3 (em (pl (pa (ps (pk 0) (pl (pd (.int .i64)) (pl (pd .bool) pz)))) pz))) (pl (po [1, 2] 101 5 (ed Ty11)) pz)))
def ref13_Get_L0.g (F : T_ref13_Get_L0) (v : ref13_Get_L0.p.T) (k : KE) : Option Bool := F v.1.1 v.1.2.1 v.2.1.1 v.2.2.1.1.1 v.2.2.1.1.2.1 v.2.2.2.1 (fun y0 y1 y2 y3 => k .ret ⟨fillS 61 [2, 3, 4] [(.ptr [1, 0] 0 0), .nils, (.d ⟨(.int .i64), y0⟩)], [([1, 0], ⟨89, 3, (.mix [(.agg [(.d ⟨Ty0, y1⟩), (.d ⟨(.int .i64), y2⟩), (.d ⟨.bool, y3⟩)])])⟩)], 2⟩) (fun y0 y1 y2 y3 => k (.exit 0) ⟨fillS 61 [1, 2, 6] [(.ptr [1, 0] 0 0), (.ptr [1, 1] 0 0), (.ref [1, 2])], [([1, 0], ⟨89, 3, (.data Ty7 [y0])⟩), ([1, 1], ⟨89, 3, (.mix [(.agg [.nils, (.d ⟨(.int .i64), y1⟩), (.d ⟨.bool, y2⟩)])])⟩), ([1, 2], ⟨101, 5, (.data Ty11 y3)⟩)], 2⟩)
theorem ref13_Get_L0.step (S : T_ref13_Get_L0) (F0 : T_ref13_Nums) : ∀ v k, exR 45 Try.f45 0 ref13_Get_L0.p [⟨ref13_Nums.p, ref13_Nums.g F0⟩] [] [] (ref13_Get_L0.g S) v k = ref13_Get_L0.g (ref13_Get_L0.body S F0) v k := fun v k => by kernel_rfl
theorem ref13_Get_L0.ok : okL 45 Try.f45 2 0 ref13_Get_L0.p (ref13_Get_L0.g (ref13_Get_L0 ROUNDS)) := loop2 (G := fun n => ref13_Get_L0.g (ref13_Get_L0 n)) (fun n => ref13_Get_L0.step (ref13_Get_L0 n) ref13_Nums) (.cons ref13_Nums.ok .nil) [] (by kernel_rfl) .nil (fun _ _ => rfl)
/-- function 45: sheerleg/sheerlegref13.Get -/
abbrev T_ref13_Get : Type := Tc2 → (Tc2 → Int → Tc8 → Option Bool) → Option Bool
noncomputable def ref13_Get.body (ref02_Num : T_ref02_Num) (ref13_Get_L0 : T_ref13_Get_L0) : T_ref13_Get := fun t1971 k1 =>
  (ref02_Num t1971 (2 : Int) false
  (fun t1972 n1973 => (ref13_Get_L0 n1973 (0 : Int) t1972 (0 : Int) false []
  (fun n1982 l1983 n1984 b1985 => (k1 (l1983, (n1984, (b1985, ()))) n1982 []))
  (fun t1986 n1987 b1988 ts1989 => (cond_ t1986.2.2.1 (k1 (t1986.1, (t1986.2.1, (t1986.2.2.1, ()))) (5 : Int) []) (k1 (t1986.1, (t1986.2.1, (t1986.2.2.1, ()))) (0 : Int) ts1989))))))
noncomputable def ref13_Get : T_ref13_Get := ref13_Get.body ref02_Num (ref13_Get_L0 ROUNDS)
def ref13_Get.p : FPat := fp 45 (pl (pd Ty7) pz) pz
def ref13_Get.g (F : T_ref13_Get) (v : ref13_Get.p.T) (k : KR) : Option Bool := F v.1.1 (fun y0 y1 y2 => k (.tup [(.d ⟨Ty7, y0⟩), (.ref [1, 0]), (.d ⟨(.int .i64), y1⟩)]) [([1, 0], ⟨101, 5, (.data Ty11 y2)⟩)])
theorem ref13_Get.eq (F0 : T_ref02_Num) (L0 : T_ref13_Get_L0) : ∀ v k, exF Try.f45 ref13_Get.p [⟨ref02_Num.p, ref02_Num.g F0⟩] [] [⟨0, ref13_Get_L0.p, ref13_Get_L0.g L0⟩] v k = ref13_Get.g (ref13_Get.body F0 L0) v k := fun v k => by kernel_rfl
theorem ref13_Get.ok : okF 3 ref13_Get.p (ref13_Get.g ref13_Get) := fn2 (ref13_Get.eq ref02_Num (ref13_Get_L0 ROUNDS)) Try.func45 (by kernel_rfl) (.cons ref02_Num.ok .nil) [0] (by kernel_rfl) (.cons ref13_Get_L0.ok .nil)
/-- function 85: the loop in block 0 -/
abbrev T_ref34_gaps_L0 : Type := Int → Int → Tc7 → (List Int) → Tc9 → Tc8 → Int → (Bool → Option Bool) → (Int → Tc7 → (List Int) → Tc9 → Tc8 → Int → Option Bool) → Option Bool
noncomputable def ref34_gaps_L0.body (ref34_gaps_L0 : T_ref34_gaps_L0) : T_ref34_gaps_L0 := fun n2003 n2004 ts2005 ns2006 ts2007 ts2008 n2009 k1 k2 =>
  (cond_ (decide (n2004 < (List.length ts2007 : Int))) (cond_ ((decide ((0 : Int) ≤ n2004)) && (decide (n2004 < (List.length ts2007 : Int)))) (cond_ (! ((List.getD ts2007 (Int.toNat n2004) (0, (0, (0, (0, (0, (0, ()))))))).2.2.1 != n2003)) (cond_ (! (decide ((List.getD ts2007 (Int.toNat n2004) (0, (0, (0, (0, (0, (0, ()))))))).2.2.2.1 ≤ (List.getD ts2007 (Int.toNat n2004) (0, (0, (0, (0, (0, (0, ()))))))).2.2.1))) (cond_ (! (decide ((List.getD ts2007 (Int.toNat n2004) (0, (0, (0, (0, (0, (0, ()))))))).2.2.2.2.1 < (List.getD ts2007 (Int.toNat n2004) (0, (0, (0, (0, (0, (0, ()))))))).2.2.2.1))) (cond_ (decide ((List.getD ts2007 (Int.toNat n2004) (0, (0, (0, (0, (0, (0, ()))))))).2.2.2.2.2.1 < (0 : Int))) (k1 true) (ref34_gaps_L0 (List.getD ts2007 (Int.toNat n2004) (0, (0, (0, (0, (0, (0, ()))))))).2.2.2.2.1 (IntKind.wrap .i64 (n2004 + (1 : Int))) ts2005 ns2006 ts2007 ts2008 n2009 k1 k2)) (k1 true)) (k1 true)) (k1 true)) none) (k2 n2003 ts2005 ns2006 ts2007 ts2008 n2009))
noncomputable def ref34_gaps_L0 : Nat → T_ref34_gaps_L0
  | 0 => fun _ _ _ _ _ _ _ _ _ => none
  | n + 1 => ref34_gaps_L0.body (ref34_gaps_L0 n)
def ref34_gaps_L0.p : LPat := lp 2 48 [1, 3, 4] (ps (pq [1, 0] 0 0) (pl (pd (.int .i64)) (pl (pd (.int .i64)) pz))) (pl (po [1, 0] 27 5 (em (pl (pa (pl (pb 1 55 Ty12) (pl (pb 2 2 (.int .i64)) (pl (pb 3 58 Ty15) (pl (pb 4 101 Ty11) (pl (pd (.int .i64)) pz)))))) pz))) pz)
def ref34_gaps_L0.g (F : T_ref34_gaps_L0) (v : ref34_gaps_L0.p.T) (k : KE) : Option Bool := F v.1.1 v.1.2.1 v.2.1.1.1 v.2.1.1.2.1 v.2.1.1.2.2.1 v.2.1.1.2.2.2.1 v.2.1.1.2.2.2.2.1 (fun y0 => k .ret ⟨fillS 48 [2] [(.d ⟨.bool, y0⟩)], [], 2⟩) (fun y0 y1 y2 y3 y4 y5 => k (.exit 0) ⟨fillS 48 [1, 3] [(.ptr [1, 0] 0 0), (.d ⟨(.int .i64), y0⟩)], [([1, 0], ⟨27, 5, (.mix [(.agg [(.bv 1 55 Ty12 y1), (.bv 2 2 (.int .i64) y2), (.bv 3 58 Ty15 y3), (.bv 4 101 Ty11 y4), (.d ⟨(.int .i64), y5⟩)])])⟩)], 2⟩)
theorem ref34_gaps_L0.step (S : T_ref34_gaps_L0) : ∀ v k, exR 85 Try.f85 0 ref34_gaps_L0.p [] [] [] (ref34_gaps_L0.g S) v k = ref34_gaps_L0.g (ref34_gaps_L0.body S) v k := fun v k => by kernel_rfl
theorem ref34_gaps_L0.ok : okL 85 Try.f85 0 0 ref34_gaps_L0.p (ref34_gaps_L0.g (ref34_gaps_L0 ROUNDS)) := loop2 (G := fun n => ref34_gaps_L0.g (ref34_gaps_L0 n)) (fun n => ref34_gaps_L0.step (ref34_gaps_L0 n)) .nil [] (by kernel_rfl) .nil (fun _ _ => rfl)
/-- function 85: sheerleg/sheerlegref34.gaps -/
abbrev T_ref34_gaps : Type := Tc7 → (List Int) → Tc9 → Tc8 → Int → (Bool → Option Bool) → Option Bool
noncomputable def ref34_gaps.body (ref34_gaps_L0 : T_ref34_gaps_L0) : T_ref34_gaps := fun ts1998 ns1999 ts2000 ts2001 n2002 k1 =>
  (ref34_gaps_L0 (2 : Int) (0 : Int) ts1998 ns1999 ts2000 ts2001 n2002
  (fun b2010 => (k1 b2010))
  (fun n2011 ts2012 ns2013 ts2014 ts2015 n2016 => (k1 (n2011 != (List.length ts2012 : Int)))))
noncomputable def ref34_gaps : T_ref34_gaps := ref34_gaps.body (ref34_gaps_L0 ROUNDS)
def ref34_gaps.p : FPat := fp 85 (pl (pa (pl (pb 1 55 Ty12) (pl (pb 2 2 (.int .i64)) (pl (pb 3 58 Ty15) (pl (pb 4 101 Ty11) (pl (pd (.int .i64)) pz)))))) pz) pz
def ref34_gaps.g (F : T_ref34_gaps) (v : ref34_gaps.p.T) (k : KR) : Option Bool := F v.1.1.1 v.1.1.2.1 v.1.1.2.2.1 v.1.1.2.2.2.1 v.1.1.2.2.2.2.1 (fun y0 => k (.d ⟨.bool, y0⟩) [])
theorem ref34_gaps.eq (L0 : T_ref34_gaps_L0) : ∀ v k, exF Try.f85 ref34_gaps.p [] [] [⟨0, ref34_gaps_L0.p, ref34_gaps_L0.g L0⟩] v k = ref34_gaps.g (ref34_gaps.body L0) v k := fun v k => by kernel_rfl
theorem ref34_gaps.ok : okF 1 ref34_gaps.p (ref34_gaps.g ref34_gaps) := fn2 (ref34_gaps.eq (ref34_gaps_L0 ROUNDS)) Try.func85 (by kernel_rfl) .nil [0] (by kernel_rfl) (.cons ref34_gaps_L0.ok .nil)
/-- function 86: sheerleg/sheerlegref34.head -/
abbrev T_ref34_head : Type := Tc7 → (List Int) → Tc9 → Tc8 → Int → Tc6 → (Bool → Option Bool) → Option Bool
noncomputable def ref34_head.body : T_ref34_head := fun ts2024 ns2025 ts2026 ts2027 n2028 t2029 k1 =>
  (cond_ (! (decide ((IntKind.wrap .i64 (t2029.2.2.2.1 - t2029.2.2.1)) < (1 : Int)))) (cond_ (! (decide ((IntKind.wrap .i64 (t2029.2.2.2.1 - t2029.2.2.1)) > (2 : Int)))) (cond_ ((decide ((0 : Int) ≤ (IntKind.wrap .i64 (t2029.2.2.2.1 - (1 : Int))))) && (decide ((IntKind.wrap .i64 (t2029.2.2.2.1 - (1 : Int))) < (List.length ts2024 : Int)))) (cond_ ((List.getD ts2024 (Int.toNat (IntKind.wrap .i64 (t2029.2.2.2.1 - (1 : Int)))) (0, (0, (0, (0, (0, ())))))).1 != (26 : Int)) (k1 false) (cond_ (! ((IntKind.wrap .i64 (t2029.2.2.2.1 - t2029.2.2.1)) == (1 : Int))) (cond_ ((decide ((0 : Int) ≤ t2029.2.2.1)) && (decide (t2029.2.2.1 < (List.length ts2024 : Int)))) (k1 ((List.getD ts2024 (Int.toNat t2029.2.2.1) (0, (0, (0, (0, (0, ())))))).1 == (25 : Int))) none) (k1 true))) none) (k1 false)) (k1 false))
noncomputable def ref34_head : T_ref34_head := ref34_head.body
def ref34_head.p : FPat := fp 86 (pl (pa (pl (pb 1 55 Ty12) (pl (pb 2 2 (.int .i64)) (pl (pb 3 58 Ty15) (pl (pb 4 101 Ty11) (pl (pd (.int .i64)) pz)))))) (pl (pd Ty15) pz)) pz
def ref34_head.g (F : T_ref34_head) (v : ref34_head.p.T) (k : KR) : Option Bool := F v.1.1.1 v.1.1.2.1 v.1.1.2.2.1 v.1.1.2.2.2.1 v.1.1.2.2.2.2.1 v.1.2.1 (fun y0 => k (.d ⟨.bool, y0⟩) [])
theorem ref34_head.eq : ∀ v k, exF Try.f86 ref34_head.p [] [] [] v k = ref34_head.g (ref34_head.body) v k := fun v k => by kernel_rfl
theorem ref34_head.ok : okF 1 ref34_head.p (ref34_head.g ref34_head) := fn2 (ref34_head.eq) Try.func86 (by kernel_rfl) .nil [] (by kernel_rfl) .nil
/-- function 46: the loop in block 0 -/
abbrev T_ref34_Check_L0 : Type := Int → Tc7 → (List Int) → Tc9 → Tc8 → Int → (Int → Option Bool) → (Tc7 → (List Int) → Tc9 → Tc8 → Int → Option Bool) → Option Bool
noncomputable def ref34_Check_L0.body (ref34_Check_L0 : T_ref34_Check_L0) (ref34_head : T_ref34_head) : T_ref34_Check_L0 := fun n2018 ts2019 ns2020 ts2021 ts2022 n2023 k1 k2 =>
  (cond_ (decide (n2018 < (List.length ts2021 : Int))) (cond_ ((decide ((0 : Int) ≤ n2018)) && (decide (n2018 < (List.length ts2021 : Int)))) (ref34_head ts2019 ns2020 ts2021 ts2022 n2023 (List.getD ts2021 (Int.toNat n2018) (0, (0, (0, (0, (0, (0, ())))))))
  (fun b2030 => (cond_ (! b2030) (k1 (8 : Int)) (ref34_Check_L0 (IntKind.wrap .i64 (n2018 + (1 : Int))) ts2019 ns2020 ts2021 ts2022 n2023 k1 k2)))) none) (k2 ts2019 ns2020 ts2021 ts2022 n2023))
noncomputable def ref34_Check_L0 : Nat → T_ref34_Check_L0
  | 0 => fun _ _ _ _ _ _ _ _ => none
  | n + 1 => ref34_Check_L0.body (ref34_Check_L0 n) ref34_head
def ref34_Check_L0.p : LPat := lp 2 78 [1, 3] (ps (pq [1, 0] 0 0) (pl (pd (.int .i64)) pz)) (pl (po [1, 0] 27 5 (em (pl (pa (pl (pb 1 55 Ty12) (pl (pb 2 2 (.int .i64)) (pl (pb 3 58 Ty15) (pl (pb 4 101 Ty11) (pl (pd (.int .i64)) pz)))))) pz))) pz)
def ref34_Check_L0.g (F : T_ref34_Check_L0) (v : ref34_Check_L0.p.T) (k : KE) : Option Bool := F v.1.1 v.2.1.1.1 v.2.1.1.2.1 v.2.1.1.2.2.1 v.2.1.1.2.2.2.1 v.2.1.1.2.2.2.2.1 (fun y0 => k .ret ⟨fillS 78 [2] [(.d ⟨(.int .i64), y0⟩)], [], 2⟩) (fun y0 y1 y2 y3 y4 => k (.exit 0) ⟨fillS 78 [1] [(.ptr [1, 0] 0 0)], [([1, 0], ⟨27, 5, (.mix [(.agg [(.bv 1 55 Ty12 y0), (.bv 2 2 (.int .i64) y1), (.bv 3 58 Ty15 y2), (.bv 4 101 Ty11 y3), (.d ⟨(.int .i64), y4⟩)])])⟩)], 2⟩)
theorem ref34_Check_L0.step (S : T_ref34_Check_L0) (F0 : T_ref34_head) : ∀ v k, exR 46 Try.f46 0 ref34_Check_L0.p [⟨ref34_head.p, ref34_head.g F0⟩] [] [] (ref34_Check_L0.g S) v k = ref34_Check_L0.g (ref34_Check_L0.body S F0) v k := fun v k => by kernel_rfl
theorem ref34_Check_L0.ok : okL 46 Try.f46 1 0 ref34_Check_L0.p (ref34_Check_L0.g (ref34_Check_L0 ROUNDS)) := loop2 (G := fun n => ref34_Check_L0.g (ref34_Check_L0 n)) (fun n => ref34_Check_L0.step (ref34_Check_L0 n) ref34_head) (.cons ref34_head.ok .nil) [] (by kernel_rfl) .nil (fun _ _ => rfl)
/-- function 87: the loop in block 0 -/
abbrev T_ref13_Check_L0 : Type := Tc8 → Int → Int → (Int → Option Bool) → (Tc8 → Option Bool) → Option Bool
noncomputable def ref13_Check_L0.body (ref13_Check_L0 : T_ref13_Check_L0) : T_ref13_Check_L0 := fun ts2039 n2040 n2041 k1 k2 =>
  (cond_ (decide (n2041 < (List.length ts2039 : Int))) (cond_ ((decide ((0 : Int) ≤ n2041)) && (decide (n2041 < (List.length ts2039 : Int)))) (cond_ (! (decide ((List.getD ts2039 (Int.toNat n2041) (0, (0, (0, (false, (0, ())))))).1 ≥ n2040))) (cond_ (n2041 == (0 : Int)) (cond_ ((decide ((0 : Int) ≤ n2041)) && (decide (n2041 < (List.length ts2039 : Int)))) (cond_ (! ((List.getD ts2039 (Int.toNat n2041) (0, (0, (0, (false, (0, ())))))).1 != (0 : Int))) (cond_ (decide (n2041 > (0 : Int))) (cond_ ((decide ((0 : Int) ≤ n2041)) && (decide (n2041 < (List.length ts2039 : Int)))) (cond_ ((decide ((0 : Int) ≤ (IntKind.wrap .i64 (n2041 - (1 : Int))))) && (decide ((IntKind.wrap .i64 (n2041 - (1 : Int))) < (List.length ts2039 : Int)))) (cond_ (decide ((List.getD ts2039 (Int.toNat n2041) (0, (0, (0, (false, (0, ())))))).1 ≤ (List.getD ts2039 (Int.toNat (IntKind.wrap .i64 (n2041 - (1 : Int)))) (0, (0, (0, (false, (0, ())))))).1)) (k1 (9 : Int)) (ref13_Check_L0 ts2039 n2040 (IntKind.wrap .i64 (n2041 + (1 : Int))) k1 k2)) none) none) (ref13_Check_L0 ts2039 n2040 (IntKind.wrap .i64 (n2041 + (1 : Int))) k1 k2)) (k1 (9 : Int))) none) (cond_ (decide (n2041 > (0 : Int))) (cond_ ((decide ((0 : Int) ≤ n2041)) && (decide (n2041 < (List.length ts2039 : Int)))) (cond_ ((decide ((0 : Int) ≤ (IntKind.wrap .i64 (n2041 - (1 : Int))))) && (decide ((IntKind.wrap .i64 (n2041 - (1 : Int))) < (List.length ts2039 : Int)))) (cond_ (decide ((List.getD ts2039 (Int.toNat n2041) (0, (0, (0, (false, (0, ())))))).1 ≤ (List.getD ts2039 (Int.toNat (IntKind.wrap .i64 (n2041 - (1 : Int)))) (0, (0, (0, (false, (0, ())))))).1)) (k1 (9 : Int)) (ref13_Check_L0 ts2039 n2040 (IntKind.wrap .i64 (n2041 + (1 : Int))) k1 k2)) none) none) (ref13_Check_L0 ts2039 n2040 (IntKind.wrap .i64 (n2041 + (1 : Int))) k1 k2))) (k1 (9 : Int))) none) (k2 ts2039))
noncomputable def ref13_Check_L0 : Nat → T_ref13_Check_L0
  | 0 => fun _ _ _ _ _ => none
  | n + 1 => ref13_Check_L0.body (ref13_Check_L0 n)
def ref13_Check_L0.p : LPat := lp 2 77 [0, 1, 5] (pl (pb 1 101 Ty11) (pl (pd (.int .i64)) (pl (pd (.int .i64)) pz))) pz
def ref13_Check_L0.g (F : T_ref13_Check_L0) (v : ref13_Check_L0.p.T) (k : KE) : Option Bool := F v.1.1 v.1.2.1 v.1.2.2.1 (fun y0 => k .ret ⟨fillS 77 [4] [(.d ⟨(.int .i64), y0⟩)], [], 2⟩) (fun y0 => k (.exit 0) ⟨fillS 77 [0] [(.bv 1 101 Ty11 y0)], [], 2⟩)
theorem ref13_Check_L0.step (S : T_ref13_Check_L0) : ∀ v k, exR 87 Try.f87 0 ref13_Check_L0.p [] [] [] (ref13_Check_L0.g S) v k = ref13_Check_L0.g (ref13_Check_L0.body S) v k := fun v k => by kernel_rfl
theorem ref13_Check_L0.ok : okL 87 Try.f87 0 0 ref13_Check_L0.p (ref13_Check_L0.g (ref13_Check_L0 ROUNDS)) := loop2 (G := fun n => ref13_Check_L0.g (ref13_Check_L0 n)) (fun n => ref13_Check_L0.step (ref13_Check_L0 n)) .nil [] (by kernel_rfl) .nil (fun _ _ => rfl)
/-- function 87: the loop in block 2 -/
abbrev T_ref13_Check_L2 : Type := Tc8 → Int → (Int → Option Bool) → (Option Bool) → Option Bool
noncomputable def ref13_Check_L2.body (ref13_Check_L2 : T_ref13_Check_L2) : T_ref13_Check_L2 := fun ts2044 n2045 k1 k2 =>
  (cond_ (decide (n2045 < (List.length ts2044 : Int))) (cond_ ((decide ((0 : Int) ≤ n2045)) && (decide (n2045 < (List.length ts2044 : Int)))) (cond_ ((decide ((0 : Int) ≤ (IntKind.wrap .i64 (n2045 - (1 : Int))))) && (decide ((IntKind.wrap .i64 (n2045 - (1 : Int))) < (List.length ts2044 : Int)))) (cond_ (((List.getD ts2044 (Int.toNat n2045) (0, (0, (0, (false, (0, ())))))).2.1 == (List.getD ts2044 (Int.toNat (IntKind.wrap .i64 (n2045 - (1 : Int)))) (0, (0, (0, (false, (0, ())))))).2.1) && (((List.getD ts2044 (Int.toNat n2045) (0, (0, (0, (false, (0, ())))))).2.2.1 == (List.getD ts2044 (Int.toNat (IntKind.wrap .i64 (n2045 - (1 : Int)))) (0, (0, (0, (false, (0, ())))))).2.2.1) && (((List.getD ts2044 (Int.toNat n2045) (0, (0, (0, (false, (0, ())))))).2.2.2.1 == (List.getD ts2044 (Int.toNat (IntKind.wrap .i64 (n2045 - (1 : Int)))) (0, (0, (0, (false, (0, ())))))).2.2.2.1) && (((List.getD ts2044 (Int.toNat n2045) (0, (0, (0, (false, (0, ())))))).2.2.2.2.1 == (List.getD ts2044 (Int.toNat (IntKind.wrap .i64 (n2045 - (1 : Int)))) (0, (0, (0, (false, (0, ())))))).2.2.2.2.1) && true)))) (k1 (12 : Int)) (ref13_Check_L2 ts2044 (IntKind.wrap .i64 (n2045 + (1 : Int))) k1 k2)) none) none) (k2))
noncomputable def ref13_Check_L2 : Nat → T_ref13_Check_L2
  | 0 => fun _ _ _ _ => none
  | n + 1 => ref13_Check_L2.body (ref13_Check_L2 n)
def ref13_Check_L2.p : LPat := lp 2 77 [0, 6] (pl (pb 1 101 Ty11) (pl (pd (.int .i64)) pz)) pz
def ref13_Check_L2.g (F : T_ref13_Check_L2) (v : ref13_Check_L2.p.T) (k : KE) : Option Bool := F v.1.1 v.1.2.1 (fun y0 => k .ret ⟨fillS 77 [4] [(.d ⟨(.int .i64), y0⟩)], [], 2⟩) (k (.exit 2) ⟨fillS 77 [] [], [], 2⟩)
theorem ref13_Check_L2.step (S : T_ref13_Check_L2) : ∀ v k, exR 87 Try.f87 2 ref13_Check_L2.p [] [] [] (ref13_Check_L2.g S) v k = ref13_Check_L2.g (ref13_Check_L2.body S) v k := fun v k => by kernel_rfl
theorem ref13_Check_L2.ok : okL 87 Try.f87 0 2 ref13_Check_L2.p (ref13_Check_L2.g (ref13_Check_L2 ROUNDS)) := loop2 (G := fun n => ref13_Check_L2.g (ref13_Check_L2 n)) (fun n => ref13_Check_L2.step (ref13_Check_L2 n)) .nil [] (by kernel_rfl) .nil (fun _ _ => rfl)
/-- function 87: sheerleg/sheerlegref13.Check -/
abbrev T_ref13_Check : Type := Tc8 → Int → (Int → Option Bool) → Option Bool
noncomputable def ref13_Check.body (ref13_Check_L0 : T_ref13_Check_L0) (ref13_Check_L2 : T_ref13_Check_L2) : T_ref13_Check := fun ts2037 n2038 k1 =>
  (cond_ (decide ((List.length ts2037 : Int) > (4096 : Int))) (k1 (19 : Int)) (cond_ (! ((decide ((List.length ts2037 : Int) > (0 : Int))) == (decide (n2038 > (0 : Int))))) (k1 (9 : Int)) (ref13_Check_L0 ts2037 n2038 (0 : Int)
  (fun n2042 => (k1 n2042))
  (fun ts2043 => (ref13_Check_L2 ts2043 (1 : Int)
  (fun n2046 => (k1 n2046))
  (k1 (0 : Int)))))))
noncomputable def ref13_Check : T_ref13_Check := ref13_Check.body (ref13_Check_L0 ROUNDS) (ref13_Check_L2 ROUNDS)
def ref13_Check.p : FPat := fp 87 (pl (pb 1 101 Ty11) (pl (pd (.int .i64)) pz)) pz
def ref13_Check.g (F : T_ref13_Check) (v : ref13_Check.p.T) (k : KR) : Option Bool := F v.1.1 v.1.2.1 (fun y0 => k (.d ⟨(.int .i64), y0⟩) [])
theorem ref13_Check.eq (L0 : T_ref13_Check_L0) (L1 : T_ref13_Check_L2) : ∀ v k, exF Try.f87 ref13_Check.p [] [] [⟨0, ref13_Check_L0.p, ref13_Check_L0.g L0⟩, ⟨2, ref13_Check_L2.p, ref13_Check_L2.g L1⟩] v k = ref13_Check.g (ref13_Check.body L0 L1) v k := fun v k => by kernel_rfl
theorem ref13_Check.ok : okF 1 ref13_Check.p (ref13_Check.g ref13_Check) := fn2 (ref13_Check.eq (ref13_Check_L0 ROUNDS) (ref13_Check_L2 ROUNDS)) Try.func87 (by kernel_rfl) .nil [0, 2] (by kernel_rfl) (.cons ref13_Check_L0.ok (.cons ref13_Check_L2.ok .nil))
/-- function 46: the loop in block 2 -/
abbrev T_ref34_Check_L2 : Type := Int → Tc7 → (List Int) → Tc9 → Tc8 → Int → (Int → Option Bool) → (Option Bool) → Option Bool
noncomputable def ref34_Check_L2.body (ref34_Check_L2 : T_ref34_Check_L2) : T_ref34_Check_L2 := fun n2048 ts2049 ns2050 ts2051 ts2052 n2053 k1 k2 =>
  (cond_ (decide (n2048 < (List.length ts2051 : Int))) (cond_ ((decide ((0 : Int) ≤ n2048)) && (decide (n2048 < (List.length ts2051 : Int)))) (cond_ ((List.getD ts2051 (Int.toNat n2048) (0, (0, (0, (0, (0, (0, ()))))))).2.2.1 == n2053) (k1 (0 : Int)) (ref34_Check_L2 (IntKind.wrap .i64 (n2048 + (1 : Int))) ts2049 ns2050 ts2051 ts2052 n2053 k1 k2)) none) (k2))
noncomputable def ref34_Check_L2 : Nat → T_ref34_Check_L2
  | 0 => fun _ _ _ _ _ _ _ _ => none
  | n + 1 => ref34_Check_L2.body (ref34_Check_L2 n)
def ref34_Check_L2.p : LPat := lp 2 78 [1, 5] (ps (pq [1, 0] 0 0) (pl (pd (.int .i64)) pz)) (pl (po [1, 0] 27 5 (em (pl (pa (pl (pb 1 55 Ty12) (pl (pb 2 2 (.int .i64)) (pl (pb 3 58 Ty15) (pl (pb 4 101 Ty11) (pl (pd (.int .i64)) pz)))))) pz))) pz)
def ref34_Check_L2.g (F : T_ref34_Check_L2) (v : ref34_Check_L2.p.T) (k : KE) : Option Bool := F v.1.1 v.2.1.1.1 v.2.1.1.2.1 v.2.1.1.2.2.1 v.2.1.1.2.2.2.1 v.2.1.1.2.2.2.2.1 (fun y0 => k .ret ⟨fillS 78 [2] [(.d ⟨(.int .i64), y0⟩)], [], 2⟩) (k (.exit 2) ⟨fillS 78 [] [], [], 2⟩)
theorem ref34_Check_L2.step (S : T_ref34_Check_L2) : ∀ v k, exR 46 Try.f46 2 ref34_Check_L2.p [] [] [] (ref34_Check_L2.g S) v k = ref34_Check_L2.g (ref34_Check_L2.body S) v k := fun v k => by kernel_rfl
theorem ref34_Check_L2.ok : okL 46 Try.f46 0 2 ref34_Check_L2.p (ref34_Check_L2.g (ref34_Check_L2 ROUNDS)) := loop2 (G := fun n => ref34_Check_L2.g (ref34_Check_L2 n)) (fun n => ref34_Check_L2.step (ref34_Check_L2 n)) .nil [] (by kernel_rfl) .nil (fun _ _ => rfl)
/-- function 46: sheerleg/sheerlegref34.Check -/
abbrev T_ref34_Check : Type := Tc7 → (List Int) → Tc9 → Tc8 → Int → (Int → Option Bool) → Option Bool
noncomputable def ref34_Check.body (ref34_gaps : T_ref34_gaps) (ref13_Check : T_ref13_Check) (ref34_Check_L0 : T_ref34_Check_L0) (ref34_Check_L2 : T_ref34_Check_L2) : T_ref34_Check := fun ts1993 ns1994 ts1995 ts1996 n1997 k1 =>
  (cond_ (! (decide ((List.length ts1993 : Int) > (65535 : Int)))) (cond_ (decide ((List.length ns1994 : Int) > (65535 : Int))) (k1 (19 : Int)) (cond_ (! (decide ((List.length ts1993 : Int) < (2 : Int)))) (cond_ (true && (decide ((0 : Int) < (List.length ts1993 : Int)))) (cond_ (! (! (((List.getD ts1993 (0 : Nat) (0, (0, (0, (0, (0, ())))))).1 == (27 : Int)) && (((List.getD ts1993 (0 : Nat) (0, (0, (0, (0, (0, ())))))).2.1 == (0 : Int)) && (((List.getD ts1993 (0 : Nat) (0, (0, (0, (0, (0, ())))))).2.2.1 == (0 : Int)) && (((List.getD ts1993 (0 : Nat) (0, (0, (0, (0, (0, ())))))).2.2.2.1 == (0 : Int)) && (((List.getD ts1993 (0 : Nat) (0, (0, (0, (0, (0, ())))))).2.2.2.2.1 == (0 : Int)) && true))))))) (cond_ (true && (decide ((1 : Int) < (List.length ts1993 : Int)))) (cond_ (! (((List.getD ts1993 (1 : Nat) (0, (0, (0, (0, (0, ())))))).1 == (28 : Int)) && (((List.getD ts1993 (1 : Nat) (0, (0, (0, (0, (0, ())))))).2.1 == (0 : Int)) && (((List.getD ts1993 (1 : Nat) (0, (0, (0, (0, (0, ())))))).2.2.1 == (0 : Int)) && (((List.getD ts1993 (1 : Nat) (0, (0, (0, (0, (0, ())))))).2.2.2.1 == (0 : Int)) && (((List.getD ts1993 (1 : Nat) (0, (0, (0, (0, (0, ())))))).2.2.2.2.1 == (0 : Int)) && true)))))) (k1 (3 : Int)) (ref34_gaps ts1993 ns1994 ts1995 ts1996 n1997
  (fun b2017 => (cond_ b2017 (k1 (9 : Int)) (ref34_Check_L0 (0 : Int) ts1993 ns1994 ts1995 ts1996 n1997
  (fun n2031 => (k1 n2031))
  (fun ts2032 ns2033 ts2034 ts2035 n2036 => (ref13_Check ts2035 (List.length ts2032 : Int)
  (fun n2047 => (cond_ (n2047 != (0 : Int)) (k1 n2047) (ref34_Check_L2 (0 : Int) ts2032 ns2033 ts2034 ts2035 n2036
  (fun n2054 => (k1 n2054))
  (k1 (15 : Int)))))))))))) none) (k1 (3 : Int))) none) (k1 (3 : Int)))) (k1 (19 : Int)))
noncomputable def ref34_Check : T_ref34_Check := ref34_Check.body ref34_gaps ref13_Check (ref34_Check_L0 ROUNDS) (ref34_Check_L2 ROUNDS)
def ref34_Check.p : FPat := fp 46 (pl (pa (pl (pb 1 55 Ty12) (pl (pb 2 2 (.int .i64)) (pl (pb 3 58 Ty15) (pl (pb 4 101 Ty11) (pl (pd (.int .i64)) pz)))))) pz) pz
def ref34_Check.g (F : T_ref34_Check) (v : ref34_Check.p.T) (k : KR) : Option Bool := F v.1.1.1 v.1.1.2.1 v.1.1.2.2.1 v.1.1.2.2.2.1 v.1.1.2.2.2.2.1 (fun y0 => k (.d ⟨(.int .i64), y0⟩) [])
theorem ref34_Check.eq (F0 : T_ref34_gaps) (F1 : T_ref13_Check) (L0 : T_ref34_Check_L0) (L1 : T_ref34_Check_L2) : ∀ v k, exF Try.f46 ref34_Check.p [⟨ref34_gaps.p, ref34_gaps.g F0⟩, ⟨ref13_Check.p, ref13_Check.g F1⟩] [] [⟨0, ref34_Check_L0.p, ref34_Check_L0.g L0⟩, ⟨2, ref34_Check_L2.p, ref34_Check_L2.g L1⟩] v k = ref34_Check.g (ref34_Check.body F0 F1 L0 L1) v k := fun v k => by kernel_rfl
theorem ref34_Check.ok : okF 2 ref34_Check.p (ref34_Check.g ref34_Check) := fn2 (ref34_Check.eq ref34_gaps ref13_Check (ref34_Check_L0 ROUNDS) (ref34_Check_L2 ROUNDS)) Try.func46 (by kernel_rfl) (.cons ref34_gaps.ok (.cons ref13_Check.ok .nil)) [0, 2] (by kernel_rfl) (.cons ref34_Check_L0.ok (.cons ref34_Check_L2.ok .nil))
/-- function 17: sheerleg/sheerlegref35.inner -/
abbrev T_ref35_inner : Type := (List Int) → (Tc11 → Int → Option Bool) → Option Bool
noncomputable def ref35_inner.body (ref13_Nums : T_ref13_Nums) (ref13_Get : T_ref13_Get) (ref34_Check : T_ref34_Check) (ref35_inner_L0 : T_ref35_inner_L0) (ref35_inner_L2 : T_ref35_inner_L2) (ref35_inner_L4 : T_ref35_inner_L4) : T_ref35_inner := fun ns1859 k1 =>
  (cond_ (decide ((List.length ns1859 : Int) < (4 : Int))) (k1 ([], ([], ([], ([], (0, ()))))) (5 : Int)) (cond_ (true && (decide ((4 : Int) ≤ (List.length ns1859 : Int)))) (cond_ (! ((ByteArray.toList (strOf (List.take (4 : Nat) (List.drop (0 : Nat) ns1859)))) == (ByteArray.toList (⟨#[83, 72, 73, 49]⟩ : ByteArray)))) (k1 ([], ([], ([], ([], (0, ()))))) (3 : Int)) (ref13_Nums (ns1859, (4, (false, ()))) [(2 : Int), (2 : Int)]
  (fun t1903 ns1904 => (cond_ (true && (decide ((0 : Int) < (List.length ns1904 : Int)))) (ref35_inner_L0 ns1859 (0 : Int) (0 : Int) t1903.1 t1903.2.1 t1903.2.2.1 ns1904 (List.getD ns1904 (0 : Nat) (0 : Int)) []
  (fun ns1918 n1919 l1920 n1921 b1922 n1923 ts1924 => (ref13_Nums (l1920, (n1921, (b1922, ()))) [(2 : Int)]
  (fun t1925 ns1926 => (ref35_inner_L2 ns1918 (0 : Int) n1919 t1925.1 t1925.2.1 t1925.2.2.1 ns1926 n1923 ts1924 []
  (fun ns1939 n1940 l1941 n1942 b1943 n1944 ts1945 ns1946 => (ref13_Nums (l1941, (n1942, (b1943, ()))) [(2 : Int)]
  (fun t1947 ns1948 => (ref35_inner_L4 ns1939 (0 : Int) n1940 t1947.1 t1947.2.1 t1947.2.2.1 ns1948 n1944 ts1945 ns1946 []
  (fun ns1962 n1963 l1964 n1965 b1966 n1967 ts1968 ns1969 ts1970 => (cond_ b1966 (k1 ([], ([], ([], ([], (0, ()))))) (5 : Int)) (ref13_Get (l1964, (n1965, (b1966, ())))
  (fun t1990 n1991 ts1992 => (cond_ (n1991 != (0 : Int)) (k1 ([], ([], ([], ([], (0, ()))))) n1991) (cond_ (decide (t1990.2.1 < (List.length ns1962 : Int))) (k1 ([], ([], ([], ([], (0, ()))))) (6 : Int)) (ref34_Check ts1968 ns1969 ts1970 ts1992 n1967
  (fun n2055 => (k1 (ts1968, (ns1969, (ts1970, (ts1992, (n1967, ()))))) n2055)))))))))))))))))) none)))) none))
noncomputable def ref35_inner : T_ref35_inner := ref35_inner.body ref13_Nums ref13_Get ref34_Check (ref35_inner_L0 ROUNDS) (ref35_inner_L2 ROUNDS) (ref35_inner_L4 ROUNDS)
def ref35_inner.p : FPat := fp 17 (pl (pb 0 5 (.int .u8)) pz) pz
def ref35_inner.g (F : T_ref35_inner) (v : ref35_inner.p.T) (k : KR) : Option Bool := F v.1.1 (fun y0 y1 => k (.tup [(.d ⟨Ty18, y0⟩), (.d ⟨(.int .i64), y1⟩)]) [])
theorem ref35_inner.eq (F0 : T_ref13_Nums) (F1 : T_ref13_Get) (F2 : T_ref34_Check) (L0 : T_ref35_inner_L0) (L1 : T_ref35_inner_L2) (L2 : T_ref35_inner_L4) : ∀ v k, exF Try.f17 ref35_inner.p [⟨ref13_Nums.p, ref13_Nums.g F0⟩, ⟨ref13_Get.p, ref13_Get.g F1⟩, ⟨ref34_Check.p, ref34_Check.g F2⟩] [] [⟨0, ref35_inner_L0.p, ref35_inner_L0.g L0⟩, ⟨2, ref35_inner_L2.p, ref35_inner_L2.g L1⟩, ⟨4, ref35_inner_L4.p, ref35_inner_L4.g L2⟩] v k = ref35_inner.g (ref35_inner.body F0 F1 F2 L0 L1 L2) v k := fun v k => by kernel_rfl
theorem ref35_inner.ok : okF 4 ref35_inner.p (ref35_inner.g ref35_inner) := fn2 (ref35_inner.eq ref13_Nums ref13_Get ref34_Check (ref35_inner_L0 ROUNDS) (ref35_inner_L2 ROUNDS) (ref35_inner_L4 ROUNDS)) Try.func17 (by kernel_rfl) (.cons ref13_Nums.ok (.cons ref13_Get.ok (.cons ref34_Check.ok .nil))) [0, 2, 4] (by kernel_rfl) (.cons ref35_inner_L0.ok (.cons ref35_inner_L2.ok (.cons ref35_inner_L4.ok .nil)))
/-- function 7: sheerleg/sheerlegref35.Get -/
abbrev T_ref35_Get : Type := (List Int) → (Tc11 → Int → Option Bool) → Option Bool
noncomputable def ref35_Get.body (ref03_Open : T_ref03_Open) (ref35_inner : T_ref35_inner) : T_ref35_Get := fun ns1828 k1 =>
  (ref03_Open ns1828
  (fun ns1857 n1858 => (cond_ (n1858 != (0 : Int)) (k1 ([], ([], ([], ([], (0, ()))))) n1858) (ref35_inner ns1857
  (fun t2056 n2057 => (cond_ (n2057 != (0 : Int)) (k1 ([], ([], ([], ([], (0, ()))))) n2057) (k1 (t2056.1, (t2056.2.1, (t2056.2.2.1, (t2056.2.2.2.1, (t2056.2.2.2.2.1, ()))))) (0 : Int))))))))
noncomputable def ref35_Get : T_ref35_Get := ref35_Get.body ref03_Open ref35_inner
def ref35_Get.p : FPat := fp 7 (pl (pb 0 5 (.int .u8)) pz) pz
def ref35_Get.g (F : T_ref35_Get) (v : ref35_Get.p.T) (k : KR) : Option Bool := F v.1.1 (fun y0 y1 => k (.tup [(.d ⟨Ty18, y0⟩), (.d ⟨(.int .i64), y1⟩)]) [])
theorem ref35_Get.eq (F0 : T_ref03_Open) (F1 : T_ref35_inner) : ∀ v k, exF Try.f7 ref35_Get.p [⟨ref03_Open.p, ref03_Open.g F0⟩, ⟨ref35_inner.p, ref35_inner.g F1⟩] [] [] v k = ref35_Get.g (ref35_Get.body F0 F1) v k := fun v k => by kernel_rfl
theorem ref35_Get.ok : okF 5 ref35_Get.p (ref35_Get.g ref35_Get) := fn2 (ref35_Get.eq ref03_Open ref35_inner) Try.func7 (by kernel_rfl) (.cons ref03_Open.ok (.cons ref35_inner.ok .nil)) [] (by kernel_rfl) .nil
/-- function 8: the loop in block 0 -/
abbrev T_pack_Putv1_L0 : Type := Tc7 → Int → Int → Tc11 → ((List Int) × Unit) → (Tc11 → ((List Int) × Unit) → Option Bool) → Option Bool
noncomputable def pack_Putv1_L0.body (pack_Putv1_L0 : T_pack_Putv1_L0) (pack_writer_put : T_pack_writer_put) (octet_Put : T_octet_Put) : T_pack_Putv1_L0 := fun l2062 n2063 n2064 t2065 t2066 k1 =>
  (cond_ (decide (n2064 < n2063)) (cond_ ((decide ((0 : Int) ≤ n2064)) && (decide (n2064 < (List.length l2062 : Int)))) (pack_writer_put (1 : Int) [(List.getD l2062 (Int.toNat n2064) (0, (0, (0, (0, (0, ())))))).1, (List.getD l2062 (Int.toNat n2064) (0, (0, (0, (0, (0, ())))))).2.1, (List.getD l2062 (Int.toNat n2064) (0, (0, (0, (0, (0, ())))))).2.2.1, (List.getD l2062 (Int.toNat n2064) (0, (0, (0, (0, (0, ())))))).2.2.2.1] t2066
  (fun t2067 => (octet_Put t2067.1 (List.getD l2062 (Int.toNat n2064) (0, (0, (0, (0, (0, ())))))).2.2.2.2.1 (4 : Int)
  (fun ns2068 => (pack_Putv1_L0 l2062 n2063 (IntKind.wrap .i64 (n2064 + (1 : Int))) t2065 (ns2068, ()) k1))))) none) (k1 t2065 t2066))
noncomputable def pack_Putv1_L0 : Nat → T_pack_Putv1_L0
  | 0 => fun _ _ _ _ _ _ => none
  | n + 1 => pack_Putv1_L0.body (pack_Putv1_L0 n) pack_writer_put octet_Put
def pack_Putv1_L0.p : LPat := lp 2 114 [1, 3, 23, 24, 25] (ps (pq [1, 0] 0 0) (ps (pq [1, 1] 0 0) (pl (pd Ty14) (pl (pd (.int .i64)) (pl (pd (.int .i64)) pz))))) (pl (po [1, 0] 27 5 (es Ty18 (pl eh pz))) (pl (po [1, 1] 52 1 (es Ty3 (pl eh pz))) pz))
def pack_Putv1_L0.g (F : T_pack_Putv1_L0) (v : pack_Putv1_L0.p.T) (k : KE) : Option Bool := F v.1.1 v.1.2.1 v.1.2.2.1 v.2.1.1 v.2.2.1.1 (fun y0 y1 => k (.exit 0) ⟨fillS 114 [1, 3] [(.ptr [1, 0] 0 0), (.ptr [1, 1] 0 0)], [([1, 0], ⟨27, 5, (.data Ty18 [y0])⟩), ([1, 1], ⟨52, 1, (.data Ty3 [y1])⟩)], 2⟩)
theorem pack_Putv1_L0.step (S : T_pack_Putv1_L0) (F0 : T_pack_writer_put) (F1 : T_octet_Put) : ∀ v k, exR 8 Try.f8 0 pack_Putv1_L0.p [⟨pack_writer_put.p, pack_writer_put.g F0⟩, ⟨octet_Put.p, octet_Put.g F1⟩] [] [] (pack_Putv1_L0.g S) v k = pack_Putv1_L0.g (pack_Putv1_L0.body S F0 F1) v k := fun v k => by kernel_rfl
theorem pack_Putv1_L0.ok : okL 8 Try.f8 2 0 pack_Putv1_L0.p (pack_Putv1_L0.g (pack_Putv1_L0 ROUNDS)) := loop2 (G := fun n => pack_Putv1_L0.g (pack_Putv1_L0 n)) (fun n => pack_Putv1_L0.step (pack_Putv1_L0 n) pack_writer_put octet_Put) (.cons pack_writer_put.ok (.cons octet_Put.ok .nil)) [] (by kernel_rfl) .nil (fun _ _ => rfl)
/-- function 8: the loop in block 2 -/
abbrev T_pack_Putv1_L2 : Type := (List Int) → Int → Int → Tc11 → ((List Int) × Unit) → (Tc11 → ((List Int) × Unit) → Option Bool) → Option Bool
noncomputable def pack_Putv1_L2.body (pack_Putv1_L2 : T_pack_Putv1_L2) (octet_Put : T_octet_Put) : T_pack_Putv1_L2 := fun l2072 n2073 n2074 t2075 t2076 k1 =>
  (cond_ (decide (n2074 < n2073)) (cond_ ((decide ((0 : Int) ≤ n2074)) && (decide (n2074 < (List.length l2072 : Int)))) (octet_Put t2076.1 (List.getD l2072 (Int.toNat n2074) (0 : Int)) (8 : Int)
  (fun ns2077 => (pack_Putv1_L2 l2072 n2073 (IntKind.wrap .i64 (n2074 + (1 : Int))) t2075 (ns2077, ()) k1))) none) (k1 t2075 t2076))
noncomputable def pack_Putv1_L2 : Nat → T_pack_Putv1_L2
  | 0 => fun _ _ _ _ _ _ => none
  | n + 1 => pack_Putv1_L2.body (pack_Putv1_L2 n) octet_Put
def pack_Putv1_L2.p : LPat := lp 2 114 [1, 3, 58, 59, 60] (ps (pq [1, 0] 0 0) (ps (pq [1, 1] 0 0) (pl (pd Ty1) (pl (pd (.int .i64)) (pl (pd (.int .i64)) pz))))) (pl (po [1, 0] 27 5 (es Ty18 (pl eh pz))) (pl (po [1, 1] 52 1 (es Ty3 (pl eh pz))) pz))
def pack_Putv1_L2.g (F : T_pack_Putv1_L2) (v : pack_Putv1_L2.p.T) (k : KE) : Option Bool := F v.1.1 v.1.2.1 v.1.2.2.1 v.2.1.1 v.2.2.1.1 (fun y0 y1 => k (.exit 2) ⟨fillS 114 [1, 3] [(.ptr [1, 0] 0 0), (.ptr [1, 1] 0 0)], [([1, 0], ⟨27, 5, (.data Ty18 [y0])⟩), ([1, 1], ⟨52, 1, (.data Ty3 [y1])⟩)], 2⟩)
theorem pack_Putv1_L2.step (S : T_pack_Putv1_L2) (F0 : T_octet_Put) : ∀ v k, exR 8 Try.f8 2 pack_Putv1_L2.p [⟨octet_Put.p, octet_Put.g F0⟩] [] [] (pack_Putv1_L2.g S) v k = pack_Putv1_L2.g (pack_Putv1_L2.body S F0) v k := fun v k => by kernel_rfl
theorem pack_Putv1_L2.ok : okL 8 Try.f8 1 2 pack_Putv1_L2.p (pack_Putv1_L2.g (pack_Putv1_L2 ROUNDS)) := loop2 (G := fun n => pack_Putv1_L2.g (pack_Putv1_L2 n)) (fun n => pack_Putv1_L2.step (pack_Putv1_L2 n) octet_Put) (.cons octet_Put.ok .nil) [] (by kernel_rfl) .nil (fun _ _ => rfl)
/-- function 8: the loop in block 4 -/
abbrev T_pack_Putv1_L4 : Type := Tc9 → Int → Int → Tc11 → ((List Int) × Unit) → (Tc11 → ((List Int) × Unit) → Option Bool) → Option Bool
noncomputable def pack_Putv1_L4.body (pack_Putv1_L4 : T_pack_Putv1_L4) (pack_writer_put : T_pack_writer_put) : T_pack_Putv1_L4 := fun l2081 n2082 n2083 t2084 t2085 k1 =>
  (cond_ (decide (n2083 < n2082)) (cond_ ((decide ((0 : Int) ≤ n2083)) && (decide (n2083 < (List.length l2081 : Int)))) (pack_writer_put (1 : Int) [(List.getD l2081 (Int.toNat n2083) (0, (0, (0, (0, (0, (0, ()))))))).1, (List.getD l2081 (Int.toNat n2083) (0, (0, (0, (0, (0, (0, ()))))))).2.1] t2085
  (fun t2086 => (pack_writer_put (2 : Int) [(List.getD l2081 (Int.toNat n2083) (0, (0, (0, (0, (0, (0, ()))))))).2.2.1, (List.getD l2081 (Int.toNat n2083) (0, (0, (0, (0, (0, (0, ()))))))).2.2.2.1, (List.getD l2081 (Int.toNat n2083) (0, (0, (0, (0, (0, (0, ()))))))).2.2.2.2.1, (List.getD l2081 (Int.toNat n2083) (0, (0, (0, (0, (0, (0, ()))))))).2.2.2.2.2.1] t2086
  (fun t2087 => (pack_Putv1_L4 l2081 n2082 (IntKind.wrap .i64 (n2083 + (1 : Int))) t2084 t2087 k1))))) none) (k1 t2084 t2085))
noncomputable def pack_Putv1_L4 : Nat → T_pack_Putv1_L4
  | 0 => fun _ _ _ _ _ _ => none
  | n + 1 => pack_Putv1_L4.body (pack_Putv1_L4 n) pack_writer_put
def pack_Putv1_L4.p : LPat := lp 2 114 [1, 3, 81, 82, 83] (ps (pq [1, 0] 0 0) (ps (pq [1, 1] 0 0) (pl (pd Ty16) (pl (pd (.int .i64)) (pl (pd (.int .i64)) pz))))) (pl (po [1, 0] 27 5 (es Ty18 (pl eh pz))) (pl (po [1, 1] 52 1 (es Ty3 (pl eh pz))) pz))
def pack_Putv1_L4.g (F : T_pack_Putv1_L4) (v : pack_Putv1_L4.p.T) (k : KE) : Option Bool := F v.1.1 v.1.2.1 v.1.2.2.1 v.2.1.1 v.2.2.1.1 (fun y0 y1 => k (.exit 4) ⟨fillS 114 [1, 3] [(.ptr [1, 0] 0 0), (.ptr [1, 1] 0 0)], [([1, 0], ⟨27, 5, (.data Ty18 [y0])⟩), ([1, 1], ⟨52, 1, (.data Ty3 [y1])⟩)], 2⟩)
theorem pack_Putv1_L4.step (S : T_pack_Putv1_L4) (F0 : T_pack_writer_put) : ∀ v k, exR 8 Try.f8 4 pack_Putv1_L4.p [⟨pack_writer_put.p, pack_writer_put.g F0⟩] [] [] (pack_Putv1_L4.g S) v k = pack_Putv1_L4.g (pack_Putv1_L4.body S F0) v k := fun v k => by kernel_rfl
theorem pack_Putv1_L4.ok : okL 8 Try.f8 2 4 pack_Putv1_L4.p (pack_Putv1_L4.g (pack_Putv1_L4 ROUNDS)) := loop2 (G := fun n => pack_Putv1_L4.g (pack_Putv1_L4 n)) (fun n => pack_Putv1_L4.step (pack_Putv1_L4 n) pack_writer_put) (.cons pack_writer_put.ok .nil) [] (by kernel_rfl) .nil (fun _ _ => rfl)
/-- function 21: the loop in block 2 -/
abbrev T_runs_Putv1_L0_L2 : Type := Tc8 → Int → Int → (Int × Int × Int × Int × Unit) → Int → (List Int) → Tc4 → (Tc8 → Int → Int → (List Int) → Tc4 → Option Bool) → Option Bool
noncomputable def runs_Putv1_L0_L2.body (runs_Putv1_L0_L2 : T_runs_Putv1_L0_L2) (octet_Putv1 : T_octet_Putv1) : T_runs_Putv1_L0_L2 := fun ts2097 n2098 n2099 t2100 n2101 ns2102 t2103 k1 =>
  (cond_ (decide (n2101 < (4 : Int))) (cond_ ((decide ((0 : Int) ≤ n2101)) && (decide (n2101 < (4 : Int)))) (octet_Putv1 ns2102 (List.getD (t2100.1 :: (t2100.2.1 :: (t2100.2.2.1 :: (t2100.2.2.2.1 :: [])))) (Int.toNat n2101) (0 : Int)) (2 : Int)
  (fun ns2104 => (runs_Putv1_L0_L2 ts2097 n2098 n2099 t2100 (IntKind.wrap .i64 (n2101 + (1 : Int))) ns2104 t2103 k1))) none) (k1 ts2097 n2098 n2099 ns2102 t2103))
noncomputable def runs_Putv1_L0_L2 : Nat → T_runs_Putv1_L0_L2
  | 0 => fun _ _ _ _ _ _ _ _ => none
  | n + 1 => runs_Putv1_L0_L2.body (runs_Putv1_L0_L2 n) octet_Putv1
def runs_Putv1_L0_L2.p : LPat := lp 2 46 [0, 6, 13, 14, 15, 30, 31] (ps (pr [1, 0]) (ps (pq [1, 1] 0 0) (pl (pb 0 101 Ty11) (pl (pd (.int .i64)) (pl (pd (.int .i64)) (pl (pd Ty10) (pl (pd (.int .i64)) pz))))))) (pl (po [1, 0] 5 1 (ed (.int .u8))) (pl (po [1, 1] 101 5 (es Ty11 (pl eh pz))) pz))
def runs_Putv1_L0_L2.g (F : T_runs_Putv1_L0_L2) (v : runs_Putv1_L0_L2.p.T) (k : KE) : Option Bool := F v.1.1 v.1.2.1 v.1.2.2.1 v.1.2.2.2.1 v.1.2.2.2.2.1 v.2.1 v.2.2.1.1 (fun y0 y1 y2 y3 y4 => k (.exit 2) ⟨fillS 46 [0, 6, 13, 14, 15] [(.ref [1, 0]), (.ptr [1, 1] 0 0), (.bv 0 101 Ty11 y0), (.d ⟨(.int .i64), y1⟩), (.d ⟨(.int .i64), y2⟩)], [([1, 0], ⟨5, 1, (.data (.int .u8) y3)⟩), ([1, 1], ⟨101, 5, (.data Ty11 [y4])⟩)], 2⟩)
theorem runs_Putv1_L0_L2.step (S : T_runs_Putv1_L0_L2) (F0 : T_octet_Putv1) : ∀ v k, exR 21 Try.f21 2 runs_Putv1_L0_L2.p [⟨octet_Putv1.p, octet_Putv1.g F0⟩] [] [] (runs_Putv1_L0_L2.g S) v k = runs_Putv1_L0_L2.g (runs_Putv1_L0_L2.body S F0) v k := fun v k => by kernel_rfl
theorem runs_Putv1_L0_L2.ok : okL 21 Try.f21 1 2 runs_Putv1_L0_L2.p (runs_Putv1_L0_L2.g (runs_Putv1_L0_L2 ROUNDS)) := loop2 (G := fun n => runs_Putv1_L0_L2.g (runs_Putv1_L0_L2 n)) (fun n => runs_Putv1_L0_L2.step (runs_Putv1_L0_L2 n) octet_Putv1) (.cons octet_Putv1.ok .nil) [] (by kernel_rfl) .nil (fun _ _ => rfl)
/-- function 21: the loop in block 0 -/
abbrev T_runs_Putv1_L0 : Type := Tc8 → Int → Int → (List Int) → ((List Int) → Option Bool) → Option Bool
noncomputable def runs_Putv1_L0.body (runs_Putv1_L0 : T_runs_Putv1_L0) (runs_flag : T_runs_flag) (octet_Putv1 : T_octet_Putv1) (runs_Putv1_L0_L2 : T_runs_Putv1_L0_L2) : T_runs_Putv1_L0 := fun ts2093 n2094 n2095 ns2096 k1 =>
  (cond_ (decide (n2095 < n2094)) (cond_ ((decide ((0 : Int) ≤ n2095)) && (decide (n2095 < (List.length ts2093 : Int)))) (runs_Putv1_L0_L2 ts2093 n2094 n2095 ((List.getD ts2093 (Int.toNat n2095) (0, (0, (0, (false, (0, ())))))).1, ((List.getD ts2093 (Int.toNat n2095) (0, (0, (0, (false, (0, ())))))).2.1, ((List.getD ts2093 (Int.toNat n2095) (0, (0, (0, (false, (0, ())))))).2.2.1, ((List.getD ts2093 (Int.toNat n2095) (0, (0, (0, (false, (0, ())))))).2.2.2.2.1, ())))) (0 : Int) ns2096 (List.getD ts2093 (Int.toNat n2095) (0, (0, (0, (false, (0, ()))))))
  (fun ts2105 n2106 n2107 ns2108 t2109 => (runs_flag t2109.2.2.2.1
  (fun n2110 => (octet_Putv1 ns2108 n2110 (1 : Int)
  (fun ns2111 => (runs_Putv1_L0 ts2105 n2106 (IntKind.wrap .i64 (n2107 + (1 : Int))) ns2111 k1))))))) none) (k1 ns2096))
noncomputable def runs_Putv1_L0 : Nat → T_runs_Putv1_L0
  | 0 => fun _ _ _ _ _ => none
  | n + 1 => runs_Putv1_L0.body (runs_Putv1_L0 n) runs_flag octet_Putv1 (runs_Putv1_L0_L2 ROUNDS)
def runs_Putv1_L0.p : LPat := lp 2 46 [0, 13, 14, 15] (ps (pr [1, 0]) (pl (pb 0 101 Ty11) (pl (pd (.int .i64)) (pl (pd (.int .i64)) pz)))) (pl (po [1, 0] 5 1 (ed (.int .u8))) pz)
def runs_Putv1_L0.g (F : T_runs_Putv1_L0) (v : runs_Putv1_L0.p.T) (k : KE) : Option Bool := F v.1.1 v.1.2.1 v.1.2.2.1 v.2.1 (fun y0 => k (.exit 0) ⟨fillS 46 [0] [(.ref [1, 0])], [([1, 0], ⟨5, 1, (.data (.int .u8) y0)⟩)], 2⟩)
theorem runs_Putv1_L0.step (S : T_runs_Putv1_L0) (F0 : T_runs_flag) (F1 : T_octet_Putv1) (L0 : T_runs_Putv1_L0_L2) : ∀ v k, exR 21 Try.f21 0 runs_Putv1_L0.p [⟨runs_flag.p, runs_flag.g F0⟩, ⟨octet_Putv1.p, octet_Putv1.g F1⟩] [] [⟨2, runs_Putv1_L0_L2.p, runs_Putv1_L0_L2.g L0⟩] (runs_Putv1_L0.g S) v k = runs_Putv1_L0.g (runs_Putv1_L0.body S F0 F1 L0) v k := fun v k => by kernel_rfl
theorem runs_Putv1_L0.ok : okL 21 Try.f21 1 0 runs_Putv1_L0.p (runs_Putv1_L0.g (runs_Putv1_L0 ROUNDS)) := loop2 (G := fun n => runs_Putv1_L0.g (runs_Putv1_L0 n)) (fun n => runs_Putv1_L0.step (runs_Putv1_L0 n) runs_flag octet_Putv1 (runs_Putv1_L0_L2 ROUNDS)) (.cons runs_flag.ok (.cons octet_Putv1.ok .nil)) [2] (by kernel_rfl) (.cons runs_Putv1_L0_L2.ok .nil) (fun _ _ => rfl)
/-- function 21: sheerleg/runs.Put -/
abbrev T_runs_Putv1 : Type := (List Int) → Tc8 → ((List Int) → Option Bool) → Option Bool
noncomputable def runs_Putv1.body (octet_Put : T_octet_Put) (runs_Putv1_L0 : T_runs_Putv1_L0) : T_runs_Putv1 := fun ns2090 ts2091 k1 =>
  (octet_Put ns2090 (List.length ts2091 : Int) (2 : Int)
  (fun ns2092 => (runs_Putv1_L0 ts2091 (List.length ts2091 : Int) (0 : Int) ns2092
  (fun ns2112 => (k1 ns2112)))))
noncomputable def runs_Putv1 : T_runs_Putv1 := runs_Putv1.body octet_Put (runs_Putv1_L0 ROUNDS)
def runs_Putv1.p : FPat := fp 21 (pl (pb 0 5 (.int .u8)) (pl (pb 0 101 Ty11) pz)) pz
def runs_Putv1.g (F : T_runs_Putv1) (v : runs_Putv1.p.T) (k : KR) : Option Bool := F v.1.1 v.1.2.1 (fun y0 => k (.ref [1, 0]) [([1, 0], ⟨5, 1, (.data (.int .u8) y0)⟩)])
theorem runs_Putv1.eq (F0 : T_octet_Put) (L0 : T_runs_Putv1_L0) : ∀ v k, exF Try.f21 runs_Putv1.p [⟨octet_Put.p, octet_Put.g F0⟩] [] [⟨0, runs_Putv1_L0.p, runs_Putv1_L0.g L0⟩] v k = runs_Putv1.g (runs_Putv1.body F0 L0) v k := fun v k => by kernel_rfl
theorem runs_Putv1.ok : okF 2 runs_Putv1.p (runs_Putv1.g runs_Putv1) := fn2 (runs_Putv1.eq octet_Put (runs_Putv1_L0 ROUNDS)) Try.func21 (by kernel_rfl) (.cons octet_Put.ok .nil) [0] (by kernel_rfl) (.cons runs_Putv1_L0.ok .nil)
/-- function 8: sheerleg/pack.Put -/
abbrev T_pack_Putv1 : Type := Tc11 → ((List Int) → Option Bool) → Option Bool
noncomputable def pack_Putv1.body (pack_writer_put : T_pack_writer_put) (runs_Putv1 : T_runs_Putv1) (sum_Seal : T_sum_Seal) (pack_Putv1_L0 : T_pack_Putv1_L0) (pack_Putv1_L2 : T_pack_Putv1_L2) (pack_Putv1_L4 : T_pack_Putv1_L4) : T_pack_Putv1 := fun t2060 k1 =>
  (pack_writer_put (2 : Int) [t2060.2.2.2.2.1, (((List.length t2060.1) : Nat) : Int)] ([(83 : Int), (72 : Int), (73 : Int), (49 : Int)], ())
  (fun t2061 => (pack_Putv1_L0 t2060.1 (((List.length t2060.1) : Nat) : Int) (0 : Int) t2060 t2061
  (fun t2069 t2070 => (pack_writer_put (2 : Int) [(((List.length t2069.2.1) : Nat) : Int)] t2070
  (fun t2071 => (pack_Putv1_L2 t2069.2.1 (((List.length t2069.2.1) : Nat) : Int) (0 : Int) t2069 t2071
  (fun t2078 t2079 => (pack_writer_put (2 : Int) [(((List.length t2078.2.2.1) : Nat) : Int)] t2079
  (fun t2080 => (pack_Putv1_L4 t2078.2.2.1 (((List.length t2078.2.2.1) : Nat) : Int) (0 : Int) t2078 t2080
  (fun t2088 t2089 => (runs_Putv1 t2089.1 t2088.2.2.2.1
  (fun ns2113 => (sum_Seal ns2113
  (fun ns2114 => (k1 ns2114)))))))))))))))))
noncomputable def pack_Putv1 : T_pack_Putv1 := pack_Putv1.body pack_writer_put runs_Putv1 sum_Seal (pack_Putv1_L0 ROUNDS) (pack_Putv1_L2 ROUNDS) (pack_Putv1_L4 ROUNDS)
def pack_Putv1.p : FPat := fp 8 (pl (pd Ty18) pz) pz
def pack_Putv1.g (F : T_pack_Putv1) (v : pack_Putv1.p.T) (k : KR) : Option Bool := F v.1.1 (fun y0 => k (.ref [1, 0]) [([1, 0], ⟨5, 1, (.data (.int .u8) y0)⟩)])
theorem pack_Putv1.eq (F0 : T_pack_writer_put) (F1 : T_runs_Putv1) (F2 : T_sum_Seal) (L0 : T_pack_Putv1_L0) (L1 : T_pack_Putv1_L2) (L2 : T_pack_Putv1_L4) : ∀ v k, exF Try.f8 pack_Putv1.p [⟨pack_writer_put.p, pack_writer_put.g F0⟩, ⟨runs_Putv1.p, runs_Putv1.g F1⟩, ⟨sum_Seal.p, sum_Seal.g F2⟩] [] [⟨0, pack_Putv1_L0.p, pack_Putv1_L0.g L0⟩, ⟨2, pack_Putv1_L2.p, pack_Putv1_L2.g L1⟩, ⟨4, pack_Putv1_L4.p, pack_Putv1_L4.g L2⟩] v k = pack_Putv1.g (pack_Putv1.body F0 F1 F2 L0 L1 L2) v k := fun v k => by kernel_rfl
theorem pack_Putv1.ok : okF 5 pack_Putv1.p (pack_Putv1.g pack_Putv1) := fn2 (pack_Putv1.eq pack_writer_put runs_Putv1 sum_Seal (pack_Putv1_L0 ROUNDS) (pack_Putv1_L2 ROUNDS) (pack_Putv1_L4 ROUNDS)) Try.func8 (by kernel_rfl) (.cons pack_writer_put.ok (.cons runs_Putv1.ok (.cons sum_Seal.ok .nil))) [0, 2, 4] (by kernel_rfl) (.cons pack_Putv1_L0.ok (.cons pack_Putv1_L2.ok (.cons pack_Putv1_L4.ok .nil)))
/-- function 22: the loop in block 2 -/
abbrev T_ref02_Putv1_L0_L2 : Type := Int → Int → Int → Int → (List Int) → (Int → Int → Int → (List Int) → Option Bool) → Option Bool
noncomputable def ref02_Putv1_L0_L2.body (ref02_Putv1_L0_L2 : T_ref02_Putv1_L0_L2) : T_ref02_Putv1_L0_L2 := fun n2123 n2124 n2125 n2126 ns2127 k1 =>
  (cond_ (decide (n2126 < n2124)) (ref02_Putv1_L0_L2 n2123 n2124 (IntKind.wrap .u64 (Int.tdiv n2125 (256 : Int))) (IntKind.wrap .i64 (n2126 + (1 : Int))) ns2127 k1) (k1 n2123 n2124 n2125 ns2127))
noncomputable def ref02_Putv1_L0_L2 : Nat → T_ref02_Putv1_L0_L2
  | 0 => fun _ _ _ _ _ _ => none
  | n + 1 => ref02_Putv1_L0_L2.body (ref02_Putv1_L0_L2 n)
def ref02_Putv1_L0_L2.p : LPat := lp 2 45 [7, 8, 9, 10, 11] (ps (pr [1, 0]) (pl (pd (.int .u64)) (pl (pd (.int .i64)) (pl (pd (.int .u64)) (pl (pd (.int .i64)) pz))))) (pl (po [1, 0] 5 1 (ed (.int .u8))) pz)
def ref02_Putv1_L0_L2.g (F : T_ref02_Putv1_L0_L2) (v : ref02_Putv1_L0_L2.p.T) (k : KE) : Option Bool := F v.1.1 v.1.2.1 v.1.2.2.1 v.1.2.2.2.1 v.2.1 (fun y0 y1 y2 y3 => k (.exit 2) ⟨fillS 45 [7, 8, 9, 10] [(.ref [1, 0]), (.d ⟨(.int .u64), y0⟩), (.d ⟨(.int .i64), y1⟩), (.d ⟨(.int .u64), y2⟩)], [([1, 0], ⟨5, 1, (.data (.int .u8) y3)⟩)], 2⟩)
theorem ref02_Putv1_L0_L2.step (S : T_ref02_Putv1_L0_L2) : ∀ v k, exR 22 Try.f22 2 ref02_Putv1_L0_L2.p [] [] [] (ref02_Putv1_L0_L2.g S) v k = ref02_Putv1_L0_L2.g (ref02_Putv1_L0_L2.body S) v k := fun v k => by kernel_rfl
theorem ref02_Putv1_L0_L2.ok : okL 22 Try.f22 0 2 ref02_Putv1_L0_L2.p (ref02_Putv1_L0_L2.g (ref02_Putv1_L0_L2 ROUNDS)) := loop2 (G := fun n => ref02_Putv1_L0_L2.g (ref02_Putv1_L0_L2 n)) (fun n => ref02_Putv1_L0_L2.step (ref02_Putv1_L0_L2 n)) .nil [] (by kernel_rfl) .nil (fun _ _ => rfl)
/-- function 22: the loop in block 0 -/
abbrev T_ref02_Putv1_L0 : Type := Int → Int → (List Int) → ((List Int) → Option Bool) → Option Bool
noncomputable def ref02_Putv1_L0.body (ref02_Putv1_L0 : T_ref02_Putv1_L0) (ref02_Putv1_L0_L2 : T_ref02_Putv1_L0_L2) : T_ref02_Putv1_L0 := fun n2120 n2121 ns2122 k1 =>
  (cond_ (decide (n2121 ≥ (0 : Int))) (ref02_Putv1_L0_L2 n2120 n2121 n2120 (0 : Int) ns2122
  (fun n2128 n2129 n2130 ns2131 => (cond_ (Nat.ble (((List.length ns2131) + (List.length ((IntKind.wrap .u8 (Int.tmod n2130 (256 : Int))) :: []))) * (1 : Nat)) (140737488355328 : Nat)) (ref02_Putv1_L0 n2128 (IntKind.wrap .i64 (n2129 - (1 : Int))) (ns2131 ++ ((IntKind.wrap .u8 (Int.tmod n2130 (256 : Int))) :: [])) k1) none))) (k1 ns2122))
noncomputable def ref02_Putv1_L0 : Nat → T_ref02_Putv1_L0
  | 0 => fun _ _ _ _ => none
  | n + 1 => ref02_Putv1_L0.body (ref02_Putv1_L0 n) (ref02_Putv1_L0_L2 ROUNDS)
def ref02_Putv1_L0.p : LPat := lp 2 45 [7, 8, 9] (ps (pr [1, 0]) (pl (pd (.int .u64)) (pl (pd (.int .i64)) pz))) (pl (po [1, 0] 5 1 (ed (.int .u8))) pz)
def ref02_Putv1_L0.g (F : T_ref02_Putv1_L0) (v : ref02_Putv1_L0.p.T) (k : KE) : Option Bool := F v.1.1 v.1.2.1 v.2.1 (fun y0 => k (.exit 0) ⟨fillS 45 [7] [(.ref [1, 0])], [([1, 0], ⟨5, 1, (.data (.int .u8) y0)⟩)], 2⟩)
theorem ref02_Putv1_L0.step (S : T_ref02_Putv1_L0) (L0 : T_ref02_Putv1_L0_L2) : ∀ v k, exR 22 Try.f22 0 ref02_Putv1_L0.p [] [] [⟨2, ref02_Putv1_L0_L2.p, ref02_Putv1_L0_L2.g L0⟩] (ref02_Putv1_L0.g S) v k = ref02_Putv1_L0.g (ref02_Putv1_L0.body S L0) v k := fun v k => by kernel_rfl
theorem ref02_Putv1_L0.ok : okL 22 Try.f22 0 0 ref02_Putv1_L0.p (ref02_Putv1_L0.g (ref02_Putv1_L0 ROUNDS)) := loop2 (G := fun n => ref02_Putv1_L0.g (ref02_Putv1_L0 n)) (fun n => ref02_Putv1_L0.step (ref02_Putv1_L0 n) (ref02_Putv1_L0_L2 ROUNDS)) .nil [2] (by kernel_rfl) (.cons ref02_Putv1_L0_L2.ok .nil) (fun _ _ => rfl)
/-- function 22: sheerleg/sheerlegref02.Put -/
abbrev T_ref02_Putv1 : Type := (List Int) → Int → Int → ((List Int) → Option Bool) → Option Bool
noncomputable def ref02_Putv1.body (ref02_Putv1_L0 : T_ref02_Putv1_L0) : T_ref02_Putv1 := fun ns2117 n2118 n2119 k1 =>
  (cond_ (Nat.ble ((List.length ns2117) * (1 : Nat)) (140737488355328 : Nat)) (cond_ (! (decide (n2119 < (1 : Int)))) (cond_ (decide (n2119 > (8 : Int))) (k1 ns2117) (ref02_Putv1_L0 (IntKind.wrap .u64 n2118) (IntKind.wrap .i64 (n2119 - (1 : Int))) ns2117
  (fun ns2132 => (k1 ns2132)))) (k1 ns2117)) none)
noncomputable def ref02_Putv1 : T_ref02_Putv1 := ref02_Putv1.body (ref02_Putv1_L0 ROUNDS)
def ref02_Putv1.p : FPat := fp 22 (pl (pb 1 5 (.int .u8)) (pl (pd (.int .i64)) (pl (pd (.int .i64)) pz))) pz
def ref02_Putv1.g (F : T_ref02_Putv1) (v : ref02_Putv1.p.T) (k : KR) : Option Bool := F v.1.1 v.1.2.1 v.1.2.2.1 (fun y0 => k (.ref [1, 0]) [([1, 0], ⟨5, 1, (.data (.int .u8) y0)⟩)])
theorem ref02_Putv1.eq (L0 : T_ref02_Putv1_L0) : ∀ v k, exF Try.f22 ref02_Putv1.p [] [] [⟨0, ref02_Putv1_L0.p, ref02_Putv1_L0.g L0⟩] v k = ref02_Putv1.g (ref02_Putv1.body L0) v k := fun v k => by kernel_rfl
theorem ref02_Putv1.ok : okF 1 ref02_Putv1.p (ref02_Putv1.g ref02_Putv1) := fn2 (ref02_Putv1.eq (ref02_Putv1_L0 ROUNDS)) Try.func22 (by kernel_rfl) .nil [0] (by kernel_rfl) (.cons ref02_Putv1_L0.ok .nil)
/-- function 23: sheerleg/sheerlegref08.Put -/
abbrev T_ref08_Put : Type := (List Int) → Tc3 → ((List Int) → Option Bool) → Option Bool
noncomputable def ref08_Put.body (ref02_Putv1 : T_ref02_Putv1) : T_ref08_Put := fun ns2138 t2139 k1 =>
  (ref02_Putv1 ns2138 t2139.1 (1 : Int)
  (fun ns2140 => (ref02_Putv1 ns2140 t2139.2.1 (1 : Int)
  (fun ns2141 => (ref02_Putv1 ns2141 t2139.2.2.1 (1 : Int)
  (fun ns2142 => (ref02_Putv1 ns2142 t2139.2.2.2.1 (1 : Int)
  (fun ns2143 => (ref02_Putv1 ns2143 t2139.2.2.2.2.1 (4 : Int)
  (fun ns2144 => (k1 ns2144)))))))))))
noncomputable def ref08_Put : T_ref08_Put := ref08_Put.body ref02_Putv1
def ref08_Put.p : FPat := fp 23 (pl (pb 1 5 (.int .u8)) (pl (pd Ty12) pz)) pz
def ref08_Put.g (F : T_ref08_Put) (v : ref08_Put.p.T) (k : KR) : Option Bool := F v.1.1 v.1.2.1 (fun y0 => k (.ref [1, 0]) [([1, 0], ⟨5, 1, (.data (.int .u8) y0)⟩)])
theorem ref08_Put.eq (F0 : T_ref02_Putv1) : ∀ v k, exF Try.f23 ref08_Put.p [⟨ref02_Putv1.p, ref02_Putv1.g F0⟩] [] [] v k = ref08_Put.g (ref08_Put.body F0) v k := fun v k => by kernel_rfl
theorem ref08_Put.ok : okF 2 ref08_Put.p (ref08_Put.g ref08_Put) := fn2 (ref08_Put.eq ref02_Putv1) Try.func23 (by kernel_rfl) (.cons ref02_Putv1.ok .nil) [] (by kernel_rfl) .nil
/-- function 9: the loop in block 0 -/
abbrev T_ref35_Put_L0 : Type := Int → Tc11 → (List Int) → (Tc11 → (List Int) → Option Bool) → Option Bool
noncomputable def ref35_Put_L0.body (ref35_Put_L0 : T_ref35_Put_L0) (ref08_Put : T_ref08_Put) : T_ref35_Put_L0 := fun n2135 t2136 ns2137 k1 =>
  (cond_ (decide (n2135 < (((List.length t2136.1) : Nat) : Int))) (cond_ ((decide ((0 : Int) ≤ n2135)) && (decide (n2135 < (((List.length t2136.1) : Nat) : Int)))) (ref08_Put ns2137 (List.getD t2136.1 (Int.toNat n2135) (0, (0, (0, (0, (0, ()))))))
  (fun ns2145 => (ref35_Put_L0 (IntKind.wrap .i64 (n2135 + (1 : Int))) t2136 ns2145 k1))) none) (k1 t2136 ns2137))
noncomputable def ref35_Put_L0 : Nat → T_ref35_Put_L0
  | 0 => fun _ _ _ _ => none
  | n + 1 => ref35_Put_L0.body (ref35_Put_L0 n) ref08_Put
def ref35_Put_L0.p : LPat := lp 2 97 [1, 3, 4] (ps (pq [1, 0] 0 0) (ps (pr [1, 1]) (pl (pd (.int .i64)) pz))) (pl (po [1, 0] 27 5 (es Ty18 (pl eh pz))) (pl (po [1, 1] 5 1 (ed (.int .u8))) pz))
def ref35_Put_L0.g (F : T_ref35_Put_L0) (v : ref35_Put_L0.p.T) (k : KE) : Option Bool := F v.1.1 v.2.1.1 v.2.2.1 (fun y0 y1 => k (.exit 0) ⟨fillS 97 [1, 3] [(.ptr [1, 0] 0 0), (.ref [1, 1])], [([1, 0], ⟨27, 5, (.data Ty18 [y0])⟩), ([1, 1], ⟨5, 1, (.data (.int .u8) y1)⟩)], 2⟩)
theorem ref35_Put_L0.step (S : T_ref35_Put_L0) (F0 : T_ref08_Put) : ∀ v k, exR 9 Try.f9 0 ref35_Put_L0.p [⟨ref08_Put.p, ref08_Put.g F0⟩] [] [] (ref35_Put_L0.g S) v k = ref35_Put_L0.g (ref35_Put_L0.body S F0) v k := fun v k => by kernel_rfl
theorem ref35_Put_L0.ok : okL 9 Try.f9 2 0 ref35_Put_L0.p (ref35_Put_L0.g (ref35_Put_L0 ROUNDS)) := loop2 (G := fun n => ref35_Put_L0.g (ref35_Put_L0 n)) (fun n => ref35_Put_L0.step (ref35_Put_L0 n) ref08_Put) (.cons ref08_Put.ok .nil) [] (by kernel_rfl) .nil (fun _ _ => rfl)
/-- function 9: the loop in block 2 -/
abbrev T_ref35_Put_L2 : Type := Int → Tc11 → (List Int) → (Tc11 → (List Int) → Option Bool) → Option Bool
noncomputable def ref35_Put_L2.body (ref35_Put_L2 : T_ref35_Put_L2) (ref02_Putv1 : T_ref02_Putv1) : T_ref35_Put_L2 := fun n2149 t2150 ns2151 k1 =>
  (cond_ (decide (n2149 < (((List.length t2150.2.1) : Nat) : Int))) (cond_ ((decide ((0 : Int) ≤ n2149)) && (decide (n2149 < (((List.length t2150.2.1) : Nat) : Int)))) (ref02_Putv1 ns2151 (List.getD t2150.2.1 (Int.toNat n2149) (0 : Int)) (8 : Int)
  (fun ns2152 => (ref35_Put_L2 (IntKind.wrap .i64 (n2149 + (1 : Int))) t2150 ns2152 k1))) none) (k1 t2150 ns2151))
noncomputable def ref35_Put_L2 : Nat → T_ref35_Put_L2
  | 0 => fun _ _ _ _ => none
  | n + 1 => ref35_Put_L2.body (ref35_Put_L2 n) ref02_Putv1
def ref35_Put_L2.p : LPat := lp 2 97 [1, 3, 5] (ps (pq [1, 0] 0 0) (ps (pr [1, 1]) (pl (pd (.int .i64)) pz))) (pl (po [1, 0] 27 5 (es Ty18 (pl eh pz))) (pl (po [1, 1] 5 1 (ed (.int .u8))) pz))
def ref35_Put_L2.g (F : T_ref35_Put_L2) (v : ref35_Put_L2.p.T) (k : KE) : Option Bool := F v.1.1 v.2.1.1 v.2.2.1 (fun y0 y1 => k (.exit 2) ⟨fillS 97 [1, 3] [(.ptr [1, 0] 0 0), (.ref [1, 1])], [([1, 0], ⟨27, 5, (.data Ty18 [y0])⟩), ([1, 1], ⟨5, 1, (.data (.int .u8) y1)⟩)], 2⟩)
theorem ref35_Put_L2.step (S : T_ref35_Put_L2) (F0 : T_ref02_Putv1) : ∀ v k, exR 9 Try.f9 2 ref35_Put_L2.p [⟨ref02_Putv1.p, ref02_Putv1.g F0⟩] [] [] (ref35_Put_L2.g S) v k = ref35_Put_L2.g (ref35_Put_L2.body S F0) v k := fun v k => by kernel_rfl
theorem ref35_Put_L2.ok : okL 9 Try.f9 1 2 ref35_Put_L2.p (ref35_Put_L2.g (ref35_Put_L2 ROUNDS)) := loop2 (G := fun n => ref35_Put_L2.g (ref35_Put_L2 n)) (fun n => ref35_Put_L2.step (ref35_Put_L2 n) ref02_Putv1) (.cons ref02_Putv1.ok .nil) [] (by kernel_rfl) .nil (fun _ _ => rfl)
/-- function 9: the loop in block 4 -/
abbrev T_ref35_Put_L4 : Type := Int → Tc11 → (List Int) → (Tc11 → (List Int) → Option Bool) → Option Bool
noncomputable def ref35_Put_L4.body (ref35_Put_L4 : T_ref35_Put_L4) (ref02_Putv1 : T_ref02_Putv1) : T_ref35_Put_L4 := fun n2156 t2157 ns2158 k1 =>
  (cond_ (decide (n2156 < (((List.length t2157.2.2.1) : Nat) : Int))) (cond_ ((decide ((0 : Int) ≤ n2156)) && (decide (n2156 < (((List.length t2157.2.2.1) : Nat) : Int)))) (ref02_Putv1 ns2158 (List.getD t2157.2.2.1 (Int.toNat n2156) (0, (0, (0, (0, (0, (0, ()))))))).1 (1 : Int)
  (fun ns2159 => (ref02_Putv1 ns2159 (List.getD t2157.2.2.1 (Int.toNat n2156) (0, (0, (0, (0, (0, (0, ()))))))).2.1 (1 : Int)
  (fun ns2160 => (ref02_Putv1 ns2160 (List.getD t2157.2.2.1 (Int.toNat n2156) (0, (0, (0, (0, (0, (0, ()))))))).2.2.1 (2 : Int)
  (fun ns2161 => (ref02_Putv1 ns2161 (List.getD t2157.2.2.1 (Int.toNat n2156) (0, (0, (0, (0, (0, (0, ()))))))).2.2.2.1 (2 : Int)
  (fun ns2162 => (ref02_Putv1 ns2162 (List.getD t2157.2.2.1 (Int.toNat n2156) (0, (0, (0, (0, (0, (0, ()))))))).2.2.2.2.1 (2 : Int)
  (fun ns2163 => (ref02_Putv1 ns2163 (List.getD t2157.2.2.1 (Int.toNat n2156) (0, (0, (0, (0, (0, (0, ()))))))).2.2.2.2.2.1 (2 : Int)
  (fun ns2164 => (ref35_Put_L4 (IntKind.wrap .i64 (n2156 + (1 : Int))) t2157 ns2164 k1))))))))))))) none) (k1 t2157 ns2158))
noncomputable def ref35_Put_L4 : Nat → T_ref35_Put_L4
  | 0 => fun _ _ _ _ => none
  | n + 1 => ref35_Put_L4.body (ref35_Put_L4 n) ref02_Putv1
def ref35_Put_L4.p : LPat := lp 2 97 [1, 3, 6] (ps (pq [1, 0] 0 0) (ps (pr [1, 1]) (pl (pd (.int .i64)) pz))) (pl (po [1, 0] 27 5 (es Ty18 (pl eh pz))) (pl (po [1, 1] 5 1 (ed (.int .u8))) pz))
def ref35_Put_L4.g (F : T_ref35_Put_L4) (v : ref35_Put_L4.p.T) (k : KE) : Option Bool := F v.1.1 v.2.1.1 v.2.2.1 (fun y0 y1 => k (.exit 4) ⟨fillS 97 [1, 3] [(.ptr [1, 0] 0 0), (.ref [1, 1])], [([1, 0], ⟨27, 5, (.data Ty18 [y0])⟩), ([1, 1], ⟨5, 1, (.data (.int .u8) y1)⟩)], 2⟩)
theorem ref35_Put_L4.step (S : T_ref35_Put_L4) (F0 : T_ref02_Putv1) : ∀ v k, exR 9 Try.f9 4 ref35_Put_L4.p [⟨ref02_Putv1.p, ref02_Putv1.g F0⟩] [] [] (ref35_Put_L4.g S) v k = ref35_Put_L4.g (ref35_Put_L4.body S F0) v k := fun v k => by kernel_rfl
theorem ref35_Put_L4.ok : okL 9 Try.f9 1 4 ref35_Put_L4.p (ref35_Put_L4.g (ref35_Put_L4 ROUNDS)) := loop2 (G := fun n => ref35_Put_L4.g (ref35_Put_L4 n)) (fun n => ref35_Put_L4.step (ref35_Put_L4 n) ref02_Putv1) (.cons ref02_Putv1.ok .nil) [] (by kernel_rfl) .nil (fun _ _ => rfl)
/-- function 49: sheerleg/sheerlegref13.Flag -/
abbrev T_ref13_Flag : Type := Bool → (Int → Option Bool) → Option Bool
noncomputable def ref13_Flag.body : T_ref13_Flag := fun b2177 k1 =>
  (cond_ b2177 (k1 (1 : Int)) (k1 (0 : Int)))
noncomputable def ref13_Flag : T_ref13_Flag := ref13_Flag.body
def ref13_Flag.p : FPat := fp 49 (pl (pd .bool) pz) pz
def ref13_Flag.g (F : T_ref13_Flag) (v : ref13_Flag.p.T) (k : KR) : Option Bool := F v.1.1 (fun y0 => k (.d ⟨(.int .i64), y0⟩) [])
theorem ref13_Flag.eq : ∀ v k, exF Try.f49 ref13_Flag.p [] [] [] v k = ref13_Flag.g (ref13_Flag.body) v k := fun v k => by kernel_rfl
theorem ref13_Flag.ok : okF 1 ref13_Flag.p (ref13_Flag.g ref13_Flag) := fn2 (ref13_Flag.eq) Try.func49 (by kernel_rfl) .nil [] (by kernel_rfl) .nil
/-- function 25: the loop in block 0 -/
abbrev T_ref13_Put_L0 : Type := Tc8 → Int → (List Int) → ((List Int) → Option Bool) → Option Bool
noncomputable def ref13_Put_L0.body (ref13_Put_L0 : T_ref13_Put_L0) (ref02_Putv1 : T_ref02_Putv1) (ref13_Flag : T_ref13_Flag) : T_ref13_Put_L0 := fun ts2170 n2171 ns2172 k1 =>
  (cond_ (decide (n2171 < (List.length ts2170 : Int))) (cond_ ((decide ((0 : Int) ≤ n2171)) && (decide (n2171 < (List.length ts2170 : Int)))) (ref02_Putv1 ns2172 (List.getD ts2170 (Int.toNat n2171) (0, (0, (0, (false, (0, ())))))).1 (2 : Int)
  (fun ns2173 => (cond_ ((decide ((0 : Int) ≤ n2171)) && (decide (n2171 < (List.length ts2170 : Int)))) (ref02_Putv1 ns2173 (List.getD ts2170 (Int.toNat n2171) (0, (0, (0, (false, (0, ())))))).2.1 (2 : Int)
  (fun ns2174 => (cond_ ((decide ((0 : Int) ≤ n2171)) && (decide (n2171 < (List.length ts2170 : Int)))) (ref02_Putv1 ns2174 (List.getD ts2170 (Int.toNat n2171) (0, (0, (0, (false, (0, ())))))).2.2.1 (2 : Int)
  (fun ns2175 => (cond_ ((decide ((0 : Int) ≤ n2171)) && (decide (n2171 < (List.length ts2170 : Int)))) (ref02_Putv1 ns2175 (List.getD ts2170 (Int.toNat n2171) (0, (0, (0, (false, (0, ())))))).2.2.2.2.1 (2 : Int)
  (fun ns2176 => (cond_ ((decide ((0 : Int) ≤ n2171)) && (decide (n2171 < (List.length ts2170 : Int)))) (ref13_Flag (List.getD ts2170 (Int.toNat n2171) (0, (0, (0, (false, (0, ())))))).2.2.2.1
  (fun n2178 => (ref02_Putv1 ns2176 n2178 (1 : Int)
  (fun ns2179 => (ref13_Put_L0 ts2170 (IntKind.wrap .i64 (n2171 + (1 : Int))) ns2179 k1))))) none))) none))) none))) none))) none) (k1 ns2172))
noncomputable def ref13_Put_L0 : Nat → T_ref13_Put_L0
  | 0 => fun _ _ _ _ => none
  | n + 1 => ref13_Put_L0.body (ref13_Put_L0 n) ref02_Putv1 ref13_Flag
def ref13_Put_L0.p : LPat := lp 2 57 [0, 1, 5] (ps (pr [1, 0]) (pl (pb 0 101 Ty11) (pl (pd (.int .i64)) pz))) (pl (po [1, 0] 5 1 (ed (.int .u8))) pz)
def ref13_Put_L0.g (F : T_ref13_Put_L0) (v : ref13_Put_L0.p.T) (k : KE) : Option Bool := F v.1.1 v.1.2.1 v.2.1 (fun y0 => k (.exit 0) ⟨fillS 57 [0] [(.ref [1, 0])], [([1, 0], ⟨5, 1, (.data (.int .u8) y0)⟩)], 2⟩)
theorem ref13_Put_L0.step (S : T_ref13_Put_L0) (F0 : T_ref02_Putv1) (F1 : T_ref13_Flag) : ∀ v k, exR 25 Try.f25 0 ref13_Put_L0.p [⟨ref02_Putv1.p, ref02_Putv1.g F0⟩, ⟨ref13_Flag.p, ref13_Flag.g F1⟩] [] [] (ref13_Put_L0.g S) v k = ref13_Put_L0.g (ref13_Put_L0.body S F0 F1) v k := fun v k => by kernel_rfl
theorem ref13_Put_L0.ok : okL 25 Try.f25 1 0 ref13_Put_L0.p (ref13_Put_L0.g (ref13_Put_L0 ROUNDS)) := loop2 (G := fun n => ref13_Put_L0.g (ref13_Put_L0 n)) (fun n => ref13_Put_L0.step (ref13_Put_L0 n) ref02_Putv1 ref13_Flag) (.cons ref02_Putv1.ok (.cons ref13_Flag.ok .nil)) [] (by kernel_rfl) .nil (fun _ _ => rfl)
/-- function 25: sheerleg/sheerlegref13.Put -/
abbrev T_ref13_Put : Type := (List Int) → Tc8 → ((List Int) → Option Bool) → Option Bool
noncomputable def ref13_Put.body (ref02_Putv1 : T_ref02_Putv1) (ref13_Put_L0 : T_ref13_Put_L0) : T_ref13_Put := fun ns2167 ts2168 k1 =>
  (ref02_Putv1 ns2167 (List.length ts2168 : Int) (2 : Int)
  (fun ns2169 => (ref13_Put_L0 ts2168 (0 : Int) ns2169
  (fun ns2180 => (k1 ns2180)))))
noncomputable def ref13_Put : T_ref13_Put := ref13_Put.body ref02_Putv1 (ref13_Put_L0 ROUNDS)
def ref13_Put.p : FPat := fp 25 (pl (pb 1 5 (.int .u8)) (pl (pb 0 101 Ty11) pz)) pz
def ref13_Put.g (F : T_ref13_Put) (v : ref13_Put.p.T) (k : KR) : Option Bool := F v.1.1 v.1.2.1 (fun y0 => k (.ref [1, 0]) [([1, 0], ⟨5, 1, (.data (.int .u8) y0)⟩)])
theorem ref13_Put.eq (F0 : T_ref02_Putv1) (L0 : T_ref13_Put_L0) : ∀ v k, exF Try.f25 ref13_Put.p [⟨ref02_Putv1.p, ref02_Putv1.g F0⟩] [] [⟨0, ref13_Put_L0.p, ref13_Put_L0.g L0⟩] v k = ref13_Put.g (ref13_Put.body F0 L0) v k := fun v k => by kernel_rfl
theorem ref13_Put.ok : okF 2 ref13_Put.p (ref13_Put.g ref13_Put) := fn2 (ref13_Put.eq ref02_Putv1 (ref13_Put_L0 ROUNDS)) Try.func25 (by kernel_rfl) (.cons ref02_Putv1.ok .nil) [0] (by kernel_rfl) (.cons ref13_Put_L0.ok .nil)
/-- function 48: the loop in block 0 -/
abbrev T_ref03_Ofv1_L0 : Type := (List Int) → Int → Int → Int → (Int → Int → Option Bool) → Option Bool
noncomputable def ref03_Ofv1_L0.body (ref03_Ofv1_L0 : T_ref03_Ofv1_L0) : T_ref03_Ofv1_L0 := fun ns2184 n2185 n2186 n2187 k1 =>
  (cond_ (decide (n2187 < (List.length ns2184 : Int))) (cond_ ((decide ((0 : Int) ≤ n2187)) && (decide (n2187 < (List.length ns2184 : Int)))) (ref03_Ofv1_L0 ns2184 (Int.tmod (IntKind.wrap .i64 (n2185 + (IntKind.wrap .i64 (List.getD ns2184 (Int.toNat n2187) (0 : Int))))) (65521 : Int)) (Int.tmod (IntKind.wrap .i64 (n2186 + (Int.tmod (IntKind.wrap .i64 (n2185 + (IntKind.wrap .i64 (List.getD ns2184 (Int.toNat n2187) (0 : Int))))) (65521 : Int)))) (65521 : Int)) (IntKind.wrap .i64 (n2187 + (1 : Int))) k1) none) (k1 n2185 n2186))
noncomputable def ref03_Ofv1_L0 : Nat → T_ref03_Ofv1_L0
  | 0 => fun _ _ _ _ _ => none
  | n + 1 => ref03_Ofv1_L0.body (ref03_Ofv1_L0 n)
def ref03_Ofv1_L0.p : LPat := lp 2 28 [0, 3, 4, 5] (pl (pb 1 5 (.int .u8)) (pl (pd (.int .i64)) (pl (pd (.int .i64)) (pl (pd (.int .i64)) pz)))) pz
def ref03_Ofv1_L0.g (F : T_ref03_Ofv1_L0) (v : ref03_Ofv1_L0.p.T) (k : KE) : Option Bool := F v.1.1 v.1.2.1 v.1.2.2.1 v.1.2.2.2.1 (fun y0 y1 => k (.exit 0) ⟨fillS 28 [3, 4] [(.d ⟨(.int .i64), y0⟩), (.d ⟨(.int .i64), y1⟩)], [], 2⟩)
theorem ref03_Ofv1_L0.step (S : T_ref03_Ofv1_L0) : ∀ v k, exR 48 Try.f48 0 ref03_Ofv1_L0.p [] [] [] (ref03_Ofv1_L0.g S) v k = ref03_Ofv1_L0.g (ref03_Ofv1_L0.body S) v k := fun v k => by kernel_rfl
theorem ref03_Ofv1_L0.ok : okL 48 Try.f48 0 0 ref03_Ofv1_L0.p (ref03_Ofv1_L0.g (ref03_Ofv1_L0 ROUNDS)) := loop2 (G := fun n => ref03_Ofv1_L0.g (ref03_Ofv1_L0 n)) (fun n => ref03_Ofv1_L0.step (ref03_Ofv1_L0 n)) .nil [] (by kernel_rfl) .nil (fun _ _ => rfl)
/-- function 48: sheerleg/sheerlegref03.Of -/
abbrev T_ref03_Ofv1 : Type := (List Int) → (Int → Option Bool) → Option Bool
noncomputable def ref03_Ofv1.body (ref03_Ofv1_L0 : T_ref03_Ofv1_L0) : T_ref03_Ofv1 := fun ns2183 k1 =>
  (ref03_Ofv1_L0 ns2183 (1 : Int) (0 : Int) (0 : Int)
  (fun n2188 n2189 => (k1 (IntKind.wrap .i64 ((IntKind.wrap .i64 (n2189 * (65536 : Int))) + n2188)))))
noncomputable def ref03_Ofv1 : T_ref03_Ofv1 := ref03_Ofv1.body (ref03_Ofv1_L0 ROUNDS)
def ref03_Ofv1.p : FPat := fp 48 (pl (pb 1 5 (.int .u8)) pz) pz
def ref03_Ofv1.g (F : T_ref03_Ofv1) (v : ref03_Ofv1.p.T) (k : KR) : Option Bool := F v.1.1 (fun y0 => k (.d ⟨(.int .i64), y0⟩) [])
theorem ref03_Ofv1.eq (L0 : T_ref03_Ofv1_L0) : ∀ v k, exF Try.f48 ref03_Ofv1.p [] [] [⟨0, ref03_Ofv1_L0.p, ref03_Ofv1_L0.g L0⟩] v k = ref03_Ofv1.g (ref03_Ofv1.body L0) v k := fun v k => by kernel_rfl
theorem ref03_Ofv1.ok : okF 1 ref03_Ofv1.p (ref03_Ofv1.g ref03_Ofv1) := fn2 (ref03_Ofv1.eq (ref03_Ofv1_L0 ROUNDS)) Try.func48 (by kernel_rfl) .nil [0] (by kernel_rfl) (.cons ref03_Ofv1_L0.ok .nil)
/-- function 24: sheerleg/sheerlegref03.Seal -/
abbrev T_ref03_Sealv1 : Type := (List Int) → ((List Int) → Option Bool) → Option Bool
noncomputable def ref03_Sealv1.body (ref03_Ofv1 : T_ref03_Ofv1) (ref02_Putv1 : T_ref02_Putv1) : T_ref03_Sealv1 := fun ns2182 k1 =>
  (ref03_Ofv1 ns2182
  (fun n2190 => (ref02_Putv1 ns2182 n2190 (4 : Int)
  (fun ns2191 => (k1 ns2191)))))
noncomputable def ref03_Sealv1 : T_ref03_Sealv1 := ref03_Sealv1.body ref03_Ofv1 ref02_Putv1
def ref03_Sealv1.p : FPat := fp 24 (pl (pb 1 5 (.int .u8)) pz) pz
def ref03_Sealv1.g (F : T_ref03_Sealv1) (v : ref03_Sealv1.p.T) (k : KR) : Option Bool := F v.1.1 (fun y0 => k (.ref [1, 0]) [([1, 0], ⟨5, 1, (.data (.int .u8) y0)⟩)])
theorem ref03_Sealv1.eq (F0 : T_ref03_Ofv1) (F1 : T_ref02_Putv1) : ∀ v k, exF Try.f24 ref03_Sealv1.p [⟨ref03_Ofv1.p, ref03_Ofv1.g F0⟩, ⟨ref02_Putv1.p, ref02_Putv1.g F1⟩] [] [] v k = ref03_Sealv1.g (ref03_Sealv1.body F0 F1) v k := fun v k => by kernel_rfl
theorem ref03_Sealv1.ok : okF 2 ref03_Sealv1.p (ref03_Sealv1.g ref03_Sealv1) := fn2 (ref03_Sealv1.eq ref03_Ofv1 ref02_Putv1) Try.func24 (by kernel_rfl) (.cons ref03_Ofv1.ok (.cons ref02_Putv1.ok .nil)) [] (by kernel_rfl) .nil
/-- function 9: sheerleg/sheerlegref35.Put -/
abbrev T_ref35_Put : Type := Tc11 → ((List Int) → Option Bool) → Option Bool
noncomputable def ref35_Put.body (ref02_Putv1 : T_ref02_Putv1) (ref13_Put : T_ref13_Put) (ref03_Sealv1 : T_ref03_Sealv1) (ref35_Put_L0 : T_ref35_Put_L0) (ref35_Put_L2 : T_ref35_Put_L2) (ref35_Put_L4 : T_ref35_Put_L4) : T_ref35_Put := fun t2116 k1 =>
  (ref02_Putv1 [(83 : Int), (72 : Int), (73 : Int), (49 : Int)] t2116.2.2.2.2.1 (2 : Int)
  (fun ns2133 => (ref02_Putv1 ns2133 (((List.length t2116.1) : Nat) : Int) (2 : Int)
  (fun ns2134 => (ref35_Put_L0 (0 : Int) t2116 ns2134
  (fun t2146 ns2147 => (ref02_Putv1 ns2147 (((List.length t2146.2.1) : Nat) : Int) (2 : Int)
  (fun ns2148 => (ref35_Put_L2 (0 : Int) t2146 ns2148
  (fun t2153 ns2154 => (ref02_Putv1 ns2154 (((List.length t2153.2.2.1) : Nat) : Int) (2 : Int)
  (fun ns2155 => (ref35_Put_L4 (0 : Int) t2153 ns2155
  (fun t2165 ns2166 => (ref13_Put ns2166 t2165.2.2.2.1
  (fun ns2181 => (ref03_Sealv1 ns2181
  (fun ns2192 => (k1 ns2192)))))))))))))))))))
noncomputable def ref35_Put : T_ref35_Put := ref35_Put.body ref02_Putv1 ref13_Put ref03_Sealv1 (ref35_Put_L0 ROUNDS) (ref35_Put_L2 ROUNDS) (ref35_Put_L4 ROUNDS)
def ref35_Put.p : FPat := fp 9 (pl (pd Ty18) pz) pz
def ref35_Put.g (F : T_ref35_Put) (v : ref35_Put.p.T) (k : KR) : Option Bool := F v.1.1 (fun y0 => k (.ref [1, 0]) [([1, 0], ⟨5, 1, (.data (.int .u8) y0)⟩)])
theorem ref35_Put.eq (F0 : T_ref02_Putv1) (F1 : T_ref13_Put) (F2 : T_ref03_Sealv1) (L0 : T_ref35_Put_L0) (L1 : T_ref35_Put_L2) (L2 : T_ref35_Put_L4) : ∀ v k, exF Try.f9 ref35_Put.p [⟨ref02_Putv1.p, ref02_Putv1.g F0⟩, ⟨ref13_Put.p, ref13_Put.g F1⟩, ⟨ref03_Sealv1.p, ref03_Sealv1.g F2⟩] [] [⟨0, ref35_Put_L0.p, ref35_Put_L0.g L0⟩, ⟨2, ref35_Put_L2.p, ref35_Put_L2.g L1⟩, ⟨4, ref35_Put_L4.p, ref35_Put_L4.g L2⟩] v k = ref35_Put.g (ref35_Put.body F0 F1 F2 L0 L1 L2) v k := fun v k => by kernel_rfl
theorem ref35_Put.ok : okF 3 ref35_Put.p (ref35_Put.g ref35_Put) := fn2 (ref35_Put.eq ref02_Putv1 ref13_Put ref03_Sealv1 (ref35_Put_L0 ROUNDS) (ref35_Put_L2 ROUNDS) (ref35_Put_L4 ROUNDS)) Try.func9 (by kernel_rfl) (.cons ref02_Putv1.ok (.cons ref13_Put.ok (.cons ref03_Sealv1.ok .nil))) [0, 2, 4] (by kernel_rfl) (.cons ref35_Put_L0.ok (.cons ref35_Put_L2.ok (.cons ref35_Put_L4.ok .nil)))
/-- function 26: the loop in block 0 -/
abbrev T_ref32_Samev1_L0 : Type := Tc7 → Tc7 → Int → (Bool → Option Bool) → (Option Bool) → Option Bool
noncomputable def ref32_Samev1_L0.body (ref32_Samev1_L0 : T_ref32_Samev1_L0) : T_ref32_Samev1_L0 := fun ts2198 ts2199 n2200 k1 k2 =>
  (cond_ (decide (n2200 < (List.length ts2198 : Int))) (cond_ ((decide ((0 : Int) ≤ n2200)) && (decide (n2200 < (List.length ts2198 : Int)))) (cond_ ((decide ((0 : Int) ≤ n2200)) && (decide (n2200 < (List.length ts2199 : Int)))) (cond_ (! (((List.getD ts2198 (Int.toNat n2200) (0, (0, (0, (0, (0, ())))))).1 == (List.getD ts2199 (Int.toNat n2200) (0, (0, (0, (0, (0, ())))))).1) && (((List.getD ts2198 (Int.toNat n2200) (0, (0, (0, (0, (0, ())))))).2.1 == (List.getD ts2199 (Int.toNat n2200) (0, (0, (0, (0, (0, ())))))).2.1) && (((List.getD ts2198 (Int.toNat n2200) (0, (0, (0, (0, (0, ())))))).2.2.1 == (List.getD ts2199 (Int.toNat n2200) (0, (0, (0, (0, (0, ())))))).2.2.1) && (((List.getD ts2198 (Int.toNat n2200) (0, (0, (0, (0, (0, ())))))).2.2.2.1 == (List.getD ts2199 (Int.toNat n2200) (0, (0, (0, (0, (0, ())))))).2.2.2.1) && (((List.getD ts2198 (Int.toNat n2200) (0, (0, (0, (0, (0, ())))))).2.2.2.2.1 == (List.getD ts2199 (Int.toNat n2200) (0, (0, (0, (0, (0, ())))))).2.2.2.2.1) && true)))))) (k1 false) (ref32_Samev1_L0 ts2198 ts2199 (IntKind.wrap .i64 (n2200 + (1 : Int))) k1 k2)) none) none) (k2))
noncomputable def ref32_Samev1_L0 : Nat → T_ref32_Samev1_L0
  | 0 => fun _ _ _ _ _ => none
  | n + 1 => ref32_Samev1_L0.body (ref32_Samev1_L0 n)
def ref32_Samev1_L0.p : LPat := lp 2 26 [0, 1, 5] (pl (pb 0 55 Ty12) (pl (pb 0 55 Ty12) (pl (pd (.int .i64)) pz))) pz
def ref32_Samev1_L0.g (F : T_ref32_Samev1_L0) (v : ref32_Samev1_L0.p.T) (k : KE) : Option Bool := F v.1.1 v.1.2.1 v.1.2.2.1 (fun y0 => k .ret ⟨fillS 26 [4] [(.d ⟨.bool, y0⟩)], [], 2⟩) (k (.exit 0) ⟨fillS 26 [] [], [], 2⟩)
theorem ref32_Samev1_L0.step (S : T_ref32_Samev1_L0) : ∀ v k, exR 26 Try.f26 0 ref32_Samev1_L0.p [] [] [] (ref32_Samev1_L0.g S) v k = ref32_Samev1_L0.g (ref32_Samev1_L0.body S) v k := fun v k => by kernel_rfl
theorem ref32_Samev1_L0.ok : okL 26 Try.f26 0 0 ref32_Samev1_L0.p (ref32_Samev1_L0.g (ref32_Samev1_L0 ROUNDS)) := loop2 (G := fun n => ref32_Samev1_L0.g (ref32_Samev1_L0 n)) (fun n => ref32_Samev1_L0.step (ref32_Samev1_L0 n)) .nil [] (by kernel_rfl) .nil (fun _ _ => rfl)
/-- function 26: sheerleg/sheerlegref32.Same -/
abbrev T_ref32_Samev1 : Type := Tc7 → Tc7 → (Bool → Option Bool) → Option Bool
noncomputable def ref32_Samev1.body (ref32_Samev1_L0 : T_ref32_Samev1_L0) : T_ref32_Samev1 := fun ts2196 ts2197 k1 =>
  (cond_ ((List.length ts2196 : Int) != (List.length ts2197 : Int)) (k1 false) (ref32_Samev1_L0 ts2196 ts2197 (0 : Int)
  (fun b2201 => (k1 b2201))
  (k1 true)))
noncomputable def ref32_Samev1 : T_ref32_Samev1 := ref32_Samev1.body (ref32_Samev1_L0 ROUNDS)
def ref32_Samev1.p : FPat := fp 26 (pl (pb 0 55 Ty12) (pl (pb 0 55 Ty12) pz)) pz
def ref32_Samev1.g (F : T_ref32_Samev1) (v : ref32_Samev1.p.T) (k : KR) : Option Bool := F v.1.1 v.1.2.1 (fun y0 => k (.d ⟨.bool, y0⟩) [])
theorem ref32_Samev1.eq (L0 : T_ref32_Samev1_L0) : ∀ v k, exF Try.f26 ref32_Samev1.p [] [] [⟨0, ref32_Samev1_L0.p, ref32_Samev1_L0.g L0⟩] v k = ref32_Samev1.g (ref32_Samev1.body L0) v k := fun v k => by kernel_rfl
theorem ref32_Samev1.ok : okF 1 ref32_Samev1.p (ref32_Samev1.g ref32_Samev1) := fn2 (ref32_Samev1.eq (ref32_Samev1_L0 ROUNDS)) Try.func26 (by kernel_rfl) .nil [0] (by kernel_rfl) (.cons ref32_Samev1_L0.ok .nil)
/-- function 27: the loop in block 0 -/
abbrev T_ref01_Longsv1_L0 : Type := (List Int) → (List Int) → Int → (Bool → Option Bool) → (Option Bool) → Option Bool
noncomputable def ref01_Longsv1_L0.body (ref01_Longsv1_L0 : T_ref01_Longsv1_L0) : T_ref01_Longsv1_L0 := fun ns2205 ns2206 n2207 k1 k2 =>
  (cond_ (decide (n2207 < (List.length ns2205 : Int))) (cond_ ((decide ((0 : Int) ≤ n2207)) && (decide (n2207 < (List.length ns2205 : Int)))) (cond_ ((decide ((0 : Int) ≤ n2207)) && (decide (n2207 < (List.length ns2206 : Int)))) (cond_ ((List.getD ns2205 (Int.toNat n2207) (0 : Int)) != (List.getD ns2206 (Int.toNat n2207) (0 : Int))) (k1 false) (ref01_Longsv1_L0 ns2205 ns2206 (IntKind.wrap .i64 (n2207 + (1 : Int))) k1 k2)) none) none) (k2))
noncomputable def ref01_Longsv1_L0 : Nat → T_ref01_Longsv1_L0
  | 0 => fun _ _ _ _ _ => none
  | n + 1 => ref01_Longsv1_L0.body (ref01_Longsv1_L0 n)
def ref01_Longsv1_L0.p : LPat := lp 2 26 [0, 1, 5] (pl (pb 0 2 (.int .i64)) (pl (pb 0 2 (.int .i64)) (pl (pd (.int .i64)) pz))) pz
def ref01_Longsv1_L0.g (F : T_ref01_Longsv1_L0) (v : ref01_Longsv1_L0.p.T) (k : KE) : Option Bool := F v.1.1 v.1.2.1 v.1.2.2.1 (fun y0 => k .ret ⟨fillS 26 [4] [(.d ⟨.bool, y0⟩)], [], 2⟩) (k (.exit 0) ⟨fillS 26 [] [], [], 2⟩)
theorem ref01_Longsv1_L0.step (S : T_ref01_Longsv1_L0) : ∀ v k, exR 27 Try.f27 0 ref01_Longsv1_L0.p [] [] [] (ref01_Longsv1_L0.g S) v k = ref01_Longsv1_L0.g (ref01_Longsv1_L0.body S) v k := fun v k => by kernel_rfl
theorem ref01_Longsv1_L0.ok : okL 27 Try.f27 0 0 ref01_Longsv1_L0.p (ref01_Longsv1_L0.g (ref01_Longsv1_L0 ROUNDS)) := loop2 (G := fun n => ref01_Longsv1_L0.g (ref01_Longsv1_L0 n)) (fun n => ref01_Longsv1_L0.step (ref01_Longsv1_L0 n)) .nil [] (by kernel_rfl) .nil (fun _ _ => rfl)
/-- function 27: sheerleg/sheerlegref01.Longs -/
abbrev T_ref01_Longsv1 : Type := (List Int) → (List Int) → (Bool → Option Bool) → Option Bool
noncomputable def ref01_Longsv1.body (ref01_Longsv1_L0 : T_ref01_Longsv1_L0) : T_ref01_Longsv1 := fun ns2203 ns2204 k1 =>
  (cond_ ((List.length ns2203 : Int) != (List.length ns2204 : Int)) (k1 false) (ref01_Longsv1_L0 ns2203 ns2204 (0 : Int)
  (fun b2208 => (k1 b2208))
  (k1 true)))
noncomputable def ref01_Longsv1 : T_ref01_Longsv1 := ref01_Longsv1.body (ref01_Longsv1_L0 ROUNDS)
def ref01_Longsv1.p : FPat := fp 27 (pl (pb 0 2 (.int .i64)) (pl (pb 0 2 (.int .i64)) pz)) pz
def ref01_Longsv1.g (F : T_ref01_Longsv1) (v : ref01_Longsv1.p.T) (k : KR) : Option Bool := F v.1.1 v.1.2.1 (fun y0 => k (.d ⟨.bool, y0⟩) [])
theorem ref01_Longsv1.eq (L0 : T_ref01_Longsv1_L0) : ∀ v k, exF Try.f27 ref01_Longsv1.p [] [] [⟨0, ref01_Longsv1_L0.p, ref01_Longsv1_L0.g L0⟩] v k = ref01_Longsv1.g (ref01_Longsv1.body L0) v k := fun v k => by kernel_rfl
theorem ref01_Longsv1.ok : okF 1 ref01_Longsv1.p (ref01_Longsv1.g ref01_Longsv1) := fn2 (ref01_Longsv1.eq (ref01_Longsv1_L0 ROUNDS)) Try.func27 (by kernel_rfl) .nil [0] (by kernel_rfl) (.cons ref01_Longsv1_L0.ok .nil)
/-- function 28: the loop in block 0 -/
abbrev T_ref29_Samev1_L0 : Type := Tc9 → Tc9 → Int → (Bool → Option Bool) → (Option Bool) → Option Bool
noncomputable def ref29_Samev1_L0.body (ref29_Samev1_L0 : T_ref29_Samev1_L0) : T_ref29_Samev1_L0 := fun ts2212 ts2213 n2214 k1 k2 =>
  (cond_ (decide (n2214 < (List.length ts2212 : Int))) (cond_ ((decide ((0 : Int) ≤ n2214)) && (decide (n2214 < (List.length ts2212 : Int)))) (cond_ ((decide ((0 : Int) ≤ n2214)) && (decide (n2214 < (List.length ts2213 : Int)))) (cond_ (! (((List.getD ts2212 (Int.toNat n2214) (0, (0, (0, (0, (0, (0, ()))))))).1 == (List.getD ts2213 (Int.toNat n2214) (0, (0, (0, (0, (0, (0, ()))))))).1) && (((List.getD ts2212 (Int.toNat n2214) (0, (0, (0, (0, (0, (0, ()))))))).2.1 == (List.getD ts2213 (Int.toNat n2214) (0, (0, (0, (0, (0, (0, ()))))))).2.1) && (((List.getD ts2212 (Int.toNat n2214) (0, (0, (0, (0, (0, (0, ()))))))).2.2.1 == (List.getD ts2213 (Int.toNat n2214) (0, (0, (0, (0, (0, (0, ()))))))).2.2.1) && (((List.getD ts2212 (Int.toNat n2214) (0, (0, (0, (0, (0, (0, ()))))))).2.2.2.1 == (List.getD ts2213 (Int.toNat n2214) (0, (0, (0, (0, (0, (0, ()))))))).2.2.2.1) && (((List.getD ts2212 (Int.toNat n2214) (0, (0, (0, (0, (0, (0, ()))))))).2.2.2.2.1 == (List.getD ts2213 (Int.toNat n2214) (0, (0, (0, (0, (0, (0, ()))))))).2.2.2.2.1) && (((List.getD ts2212 (Int.toNat n2214) (0, (0, (0, (0, (0, (0, ()))))))).2.2.2.2.2.1 == (List.getD ts2213 (Int.toNat n2214) (0, (0, (0, (0, (0, (0, ()))))))).2.2.2.2.2.1) && true))))))) (k1 false) (ref29_Samev1_L0 ts2212 ts2213 (IntKind.wrap .i64 (n2214 + (1 : Int))) k1 k2)) none) none) (k2))
noncomputable def ref29_Samev1_L0 : Nat → T_ref29_Samev1_L0
  | 0 => fun _ _ _ _ _ => none
  | n + 1 => ref29_Samev1_L0.body (ref29_Samev1_L0 n)
def ref29_Samev1_L0.p : LPat := lp 2 26 [0, 1, 5] (pl (pb 0 58 Ty15) (pl (pb 0 58 Ty15) (pl (pd (.int .i64)) pz))) pz
def ref29_Samev1_L0.g (F : T_ref29_Samev1_L0) (v : ref29_Samev1_L0.p.T) (k : KE) : Option Bool := F v.1.1 v.1.2.1 v.1.2.2.1 (fun y0 => k .ret ⟨fillS 26 [4] [(.d ⟨.bool, y0⟩)], [], 2⟩) (k (.exit 0) ⟨fillS 26 [] [], [], 2⟩)
theorem ref29_Samev1_L0.step (S : T_ref29_Samev1_L0) : ∀ v k, exR 28 Try.f28 0 ref29_Samev1_L0.p [] [] [] (ref29_Samev1_L0.g S) v k = ref29_Samev1_L0.g (ref29_Samev1_L0.body S) v k := fun v k => by kernel_rfl
theorem ref29_Samev1_L0.ok : okL 28 Try.f28 0 0 ref29_Samev1_L0.p (ref29_Samev1_L0.g (ref29_Samev1_L0 ROUNDS)) := loop2 (G := fun n => ref29_Samev1_L0.g (ref29_Samev1_L0 n)) (fun n => ref29_Samev1_L0.step (ref29_Samev1_L0 n)) .nil [] (by kernel_rfl) .nil (fun _ _ => rfl)
/-- function 28: sheerleg/sheerlegref29.Same -/
abbrev T_ref29_Samev1 : Type := Tc9 → Tc9 → (Bool → Option Bool) → Option Bool
noncomputable def ref29_Samev1.body (ref29_Samev1_L0 : T_ref29_Samev1_L0) : T_ref29_Samev1 := fun ts2210 ts2211 k1 =>
  (cond_ ((List.length ts2210 : Int) != (List.length ts2211 : Int)) (k1 false) (ref29_Samev1_L0 ts2210 ts2211 (0 : Int)
  (fun b2215 => (k1 b2215))
  (k1 true)))
noncomputable def ref29_Samev1 : T_ref29_Samev1 := ref29_Samev1.body (ref29_Samev1_L0 ROUNDS)
def ref29_Samev1.p : FPat := fp 28 (pl (pb 0 58 Ty15) (pl (pb 0 58 Ty15) pz)) pz
def ref29_Samev1.g (F : T_ref29_Samev1) (v : ref29_Samev1.p.T) (k : KR) : Option Bool := F v.1.1 v.1.2.1 (fun y0 => k (.d ⟨.bool, y0⟩) [])
theorem ref29_Samev1.eq (L0 : T_ref29_Samev1_L0) : ∀ v k, exF Try.f28 ref29_Samev1.p [] [] [⟨0, ref29_Samev1_L0.p, ref29_Samev1_L0.g L0⟩] v k = ref29_Samev1.g (ref29_Samev1.body L0) v k := fun v k => by kernel_rfl
theorem ref29_Samev1.ok : okF 1 ref29_Samev1.p (ref29_Samev1.g ref29_Samev1) := fn2 (ref29_Samev1.eq (ref29_Samev1_L0 ROUNDS)) Try.func28 (by kernel_rfl) .nil [0] (by kernel_rfl) (.cons ref29_Samev1_L0.ok .nil)
/-- function 29: the loop in block 0 -/
abbrev T_ref13_Samev1_L0 : Type := Tc8 → Tc8 → Int → (Bool → Option Bool) → (Option Bool) → Option Bool
noncomputable def ref13_Samev1_L0.body (ref13_Samev1_L0 : T_ref13_Samev1_L0) : T_ref13_Samev1_L0 := fun ts2219 ts2220 n2221 k1 k2 =>
  (cond_ (decide (n2221 < (List.length ts2219 : Int))) (cond_ ((decide ((0 : Int) ≤ n2221)) && (decide (n2221 < (List.length ts2219 : Int)))) (cond_ ((decide ((0 : Int) ≤ n2221)) && (decide (n2221 < (List.length ts2220 : Int)))) (cond_ (! (((List.getD ts2219 (Int.toNat n2221) (0, (0, (0, (false, (0, ())))))).1 == (List.getD ts2220 (Int.toNat n2221) (0, (0, (0, (false, (0, ())))))).1) && ((((List.getD ts2219 (Int.toNat n2221) (0, (0, (0, (false, (0, ())))))).2.1 == (List.getD ts2220 (Int.toNat n2221) (0, (0, (0, (false, (0, ())))))).2.1) && (((List.getD ts2219 (Int.toNat n2221) (0, (0, (0, (false, (0, ())))))).2.2.1 == (List.getD ts2220 (Int.toNat n2221) (0, (0, (0, (false, (0, ())))))).2.2.1) && (((List.getD ts2219 (Int.toNat n2221) (0, (0, (0, (false, (0, ())))))).2.2.2.1 == (List.getD ts2220 (Int.toNat n2221) (0, (0, (0, (false, (0, ())))))).2.2.2.1) && (((List.getD ts2219 (Int.toNat n2221) (0, (0, (0, (false, (0, ())))))).2.2.2.2.1 == (List.getD ts2220 (Int.toNat n2221) (0, (0, (0, (false, (0, ())))))).2.2.2.2.1) && true)))) && true))) (k1 false) (ref13_Samev1_L0 ts2219 ts2220 (IntKind.wrap .i64 (n2221 + (1 : Int))) k1 k2)) none) none) (k2))
noncomputable def ref13_Samev1_L0 : Nat → T_ref13_Samev1_L0
  | 0 => fun _ _ _ _ _ => none
  | n + 1 => ref13_Samev1_L0.body (ref13_Samev1_L0 n)
def ref13_Samev1_L0.p : LPat := lp 2 26 [0, 1, 5] (pl (pb 0 101 Ty11) (pl (pb 0 101 Ty11) (pl (pd (.int .i64)) pz))) pz
def ref13_Samev1_L0.g (F : T_ref13_Samev1_L0) (v : ref13_Samev1_L0.p.T) (k : KE) : Option Bool := F v.1.1 v.1.2.1 v.1.2.2.1 (fun y0 => k .ret ⟨fillS 26 [4] [(.d ⟨.bool, y0⟩)], [], 2⟩) (k (.exit 0) ⟨fillS 26 [] [], [], 2⟩)
theorem ref13_Samev1_L0.step (S : T_ref13_Samev1_L0) : ∀ v k, exR 29 Try.f29 0 ref13_Samev1_L0.p [] [] [] (ref13_Samev1_L0.g S) v k = ref13_Samev1_L0.g (ref13_Samev1_L0.body S) v k := fun v k => by kernel_rfl
theorem ref13_Samev1_L0.ok : okL 29 Try.f29 0 0 ref13_Samev1_L0.p (ref13_Samev1_L0.g (ref13_Samev1_L0 ROUNDS)) := loop2 (G := fun n => ref13_Samev1_L0.g (ref13_Samev1_L0 n)) (fun n => ref13_Samev1_L0.step (ref13_Samev1_L0 n)) .nil [] (by kernel_rfl) .nil (fun _ _ => rfl)
/-- function 29: sheerleg/sheerlegref13.Same -/
abbrev T_ref13_Samev1 : Type := Tc8 → Tc8 → (Bool → Option Bool) → Option Bool
noncomputable def ref13_Samev1.body (ref13_Samev1_L0 : T_ref13_Samev1_L0) : T_ref13_Samev1 := fun ts2217 ts2218 k1 =>
  (cond_ ((List.length ts2217 : Int) != (List.length ts2218 : Int)) (k1 false) (ref13_Samev1_L0 ts2217 ts2218 (0 : Int)
  (fun b2222 => (k1 b2222))
  (k1 true)))
noncomputable def ref13_Samev1 : T_ref13_Samev1 := ref13_Samev1.body (ref13_Samev1_L0 ROUNDS)
def ref13_Samev1.p : FPat := fp 29 (pl (pb 0 101 Ty11) (pl (pb 0 101 Ty11) pz)) pz
def ref13_Samev1.g (F : T_ref13_Samev1) (v : ref13_Samev1.p.T) (k : KR) : Option Bool := F v.1.1 v.1.2.1 (fun y0 => k (.d ⟨.bool, y0⟩) [])
theorem ref13_Samev1.eq (L0 : T_ref13_Samev1_L0) : ∀ v k, exF Try.f29 ref13_Samev1.p [] [] [⟨0, ref13_Samev1_L0.p, ref13_Samev1_L0.g L0⟩] v k = ref13_Samev1.g (ref13_Samev1.body L0) v k := fun v k => by kernel_rfl
theorem ref13_Samev1.ok : okF 1 ref13_Samev1.p (ref13_Samev1.g ref13_Samev1) := fn2 (ref13_Samev1.eq (ref13_Samev1_L0 ROUNDS)) Try.func29 (by kernel_rfl) .nil [0] (by kernel_rfl) (.cons ref13_Samev1_L0.ok .nil)
/-- function 10: sheerleg/sheerlegref34.Same -/
abbrev T_ref34_Samev1 : Type := Tc11 → Tc11 → (Bool → Option Bool) → Option Bool
noncomputable def ref34_Samev1.body (ref32_Samev1 : T_ref32_Samev1) (ref01_Longsv1 : T_ref01_Longsv1) (ref29_Samev1 : T_ref29_Samev1) (ref13_Samev1 : T_ref13_Samev1) : T_ref34_Samev1 := fun t2194 t2195 k1 =>
  (ref32_Samev1 t2194.1 t2195.1
  (fun b2202 => (cond_ b2202 (ref01_Longsv1 t2194.2.1 t2195.2.1
  (fun b2209 => (cond_ b2209 (ref29_Samev1 t2194.2.2.1 t2195.2.2.1
  (fun b2216 => (cond_ b2216 (ref13_Samev1 t2194.2.2.2.1 t2195.2.2.2.1
  (fun b2223 => (cond_ b2223 (k1 (t2194.2.2.2.2.1 == t2195.2.2.2.2.1)) (k1 false)))) (k1 false)))) (k1 false)))) (k1 false))))
noncomputable def ref34_Samev1 : T_ref34_Samev1 := ref34_Samev1.body ref32_Samev1 ref01_Longsv1 ref29_Samev1 ref13_Samev1
def ref34_Samev1.p : FPat := fp 10 (pl (pd Ty18) (pl (pd Ty18) pz)) pz
def ref34_Samev1.g (F : T_ref34_Samev1) (v : ref34_Samev1.p.T) (k : KR) : Option Bool := F v.1.1 v.1.2.1 (fun y0 => k (.d ⟨.bool, y0⟩) [])
theorem ref34_Samev1.eq (F0 : T_ref32_Samev1) (F1 : T_ref01_Longsv1) (F2 : T_ref29_Samev1) (F3 : T_ref13_Samev1) : ∀ v k, exF Try.f10 ref34_Samev1.p [⟨ref32_Samev1.p, ref32_Samev1.g F0⟩, ⟨ref01_Longsv1.p, ref01_Longsv1.g F1⟩, ⟨ref29_Samev1.p, ref29_Samev1.g F2⟩, ⟨ref13_Samev1.p, ref13_Samev1.g F3⟩] [] [] v k = ref34_Samev1.g (ref34_Samev1.body F0 F1 F2 F3) v k := fun v k => by kernel_rfl
theorem ref34_Samev1.ok : okF 2 ref34_Samev1.p (ref34_Samev1.g ref34_Samev1) := fn2 (ref34_Samev1.eq ref32_Samev1 ref01_Longsv1 ref29_Samev1 ref13_Samev1) Try.func10 (by kernel_rfl) (.cons ref32_Samev1.ok (.cons ref01_Longsv1.ok (.cons ref29_Samev1.ok (.cons ref13_Samev1.ok .nil)))) [] (by kernel_rfl) .nil
/-- function 3: sheerleg/sheerleglaw35.PackTells -/
abbrev T_law35_PackTells : Type := Tc11 → (List Int) → (Bool → Option Bool) → Option Bool
noncomputable def law35_PackTells.body (ref34_Few : T_ref34_Few) (law35_known : T_law35_known) (pack_Getv2 : T_pack_Getv2) (ref35_Get : T_ref35_Get) (pack_Putv1 : T_pack_Putv1) (ref35_Put : T_ref35_Put) (ref34_Samev1 : T_ref34_Samev1) : T_law35_PackTells := fun t1233 ns1234 k1 =>
  (ref34_Few t1233
  (fun b1235 => (cond_ (! (! b1235)) (cond_ (decide ((List.length ns1234 : Int) > (9000 : Int))) (law35_known
  (fun b1793 => (k1 b1793))) (pack_Getv2 ns1234
  (fun t1826 n1827 => (ref35_Get ns1234
  (fun t2058 n2059 => (pack_Putv1 t1233
  (fun ns2115 => (ref35_Put t1233
  (fun ns2193 => (cond_ ((ByteArray.toList (strOf ns2115)) == (ByteArray.toList (strOf ns2193))) (ref34_Samev1 (t1826.1, (t1826.2.1, (t1826.2.2.1, (t1826.2.2.2.1, (t1826.2.2.2.2.1, ()))))) (t2058.1, (t2058.2.1, (t2058.2.2.1, (t2058.2.2.2.1, (t2058.2.2.2.2.1, ())))))
  (fun b2224 => (cond_ b2224 (cond_ (n1827 == n2059) (law35_known
  (fun b2225 => (k1 b2225))) (k1 false)) (k1 false)))) (k1 false))))))))))) (law35_known
  (fun b2226 => (k1 b2226))))))
noncomputable def law35_PackTells : T_law35_PackTells := law35_PackTells.body ref34_Few law35_known pack_Getv2 ref35_Get pack_Putv1 ref35_Put ref34_Samev1
def law35_PackTells.p : FPat := fp 3 (pl (pd Ty18) (pl (pb 0 5 (.int .u8)) pz)) pz
def law35_PackTells.g (F : T_law35_PackTells) (v : law35_PackTells.p.T) (k : KR) : Option Bool := F v.1.1 v.1.2.1 (fun y0 => k (.d ⟨.bool, y0⟩) [])
theorem law35_PackTells.eq (F0 : T_ref34_Few) (F1 : T_law35_known) (F2 : T_pack_Getv2) (F3 : T_ref35_Get) (F4 : T_pack_Putv1) (F5 : T_ref35_Put) (F6 : T_ref34_Samev1) : ∀ v k, exF Try.f3 law35_PackTells.p [⟨ref34_Few.p, ref34_Few.g F0⟩, ⟨law35_known.p, law35_known.g F1⟩, ⟨pack_Getv2.p, pack_Getv2.g F2⟩, ⟨ref35_Get.p, ref35_Get.g F3⟩, ⟨pack_Putv1.p, pack_Putv1.g F4⟩, ⟨ref35_Put.p, ref35_Put.g F5⟩, ⟨ref34_Samev1.p, ref34_Samev1.g F6⟩] [] [] v k = law35_PackTells.g (law35_PackTells.body F0 F1 F2 F3 F4 F5 F6) v k := fun v k => by kernel_rfl
theorem law35_PackTells.ok : okF 12 law35_PackTells.p (law35_PackTells.g law35_PackTells) := fn2 (law35_PackTells.eq ref34_Few law35_known pack_Getv2 ref35_Get pack_Putv1 ref35_Put ref34_Samev1) Try.func3 (by kernel_rfl) (.cons ref34_Few.ok (.cons law35_known.ok (.cons pack_Getv2.ok (.cons ref35_Get.ok (.cons pack_Putv1.ok (.cons ref35_Put.ok (.cons ref34_Samev1.ok .nil))))))) [] (by kernel_rfl) .nil
-- LAWROW law35_PackTells | 3 | 12 | Ty18 ¦ Ty0
end Go.Proofs.Ythlclmhicgefpaa.k
