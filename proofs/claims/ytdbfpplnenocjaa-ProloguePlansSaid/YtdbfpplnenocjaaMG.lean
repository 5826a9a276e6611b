/- What the functions come to that G reaches, as plain functions; written by a program of this work, each told by Lean. -/
import Derived.Test.YtdbfpplnenocjaaMG1
namespace Go.Proofs.Ytdbfpplnenocjaa.g
open Go.AX
set_option linter.unusedVariables false
set_option maxRecDepth 100000
set_option maxHeartbeats 4000000
/-- function 17: sheerleg/prologue.Full -/
abbrev T_prologue_Full : Type := Tc16 → ((List Bool) → (List Int) → Option Bool) → Option Bool
noncomputable def prologue_Full.body (prologue_Full_L0 : T_prologue_Full_L0) : T_prologue_Full := fun t1353 k1 =>
  (prologue_Full_L0 t1353.1 (((List.length t1353.1) : Nat) : Int) (0 : Int) [] []
  (fun bs1359 ns1360 => (k1 bs1359 ns1360)))
noncomputable def prologue_Full : T_prologue_Full := prologue_Full.body (prologue_Full_L0 ROUNDS)
def prologue_Full.p : FPat := fp 17 (pl (pd Ty22) pz) pz
def prologue_Full.g (F : T_prologue_Full) (v : prologue_Full.p.T) (k : KR) : Option Bool := F v.1.1 (fun y0 y1 => k (.agg [(.ref [1, 0]), (.ref [1, 1])]) [([1, 0], ⟨4, 1, (.data .bool y0)⟩), ([1, 1], ⟨3, 1, (.data (.int .i64) y1)⟩)])
theorem prologue_Full.eq (L0 : T_prologue_Full_L0) : ∀ v k, exF Try.f17 prologue_Full.p [] [] [⟨0, prologue_Full_L0.p, prologue_Full_L0.g L0⟩] v k = prologue_Full.g (prologue_Full.body L0) v k := fun v k => by kernel_rfl
theorem prologue_Full.ok : okF 1 prologue_Full.p (prologue_Full.g prologue_Full) := fn2 (prologue_Full.eq (prologue_Full_L0 ROUNDS)) Try.func17 (by kernel_rfl) .nil [0] (by kernel_rfl) (.cons prologue_Full_L0.ok .nil)
/-- function 18: the loop in block 0 -/
abbrev T_ref28_Full_L0 : Type := Int → Tc16 → (List Bool) → (List Int) → ((List Bool) → (List Int) → Option Bool) → Option Bool
noncomputable def ref28_Full_L0.body (ref28_Full_L0 : T_ref28_Full_L0) : T_ref28_Full_L0 := fun n1380 t1381 bs1382 ns1383 k1 =>
  (cond_ (decide (n1380 < (((List.length t1381.1) : Nat) : Int))) (cond_ (Nat.ble (((List.length bs1382) + (1 : Nat)) * (1 : Nat)) (140737488355328 : Nat)) (cond_ ((decide ((0 : Int) ≤ n1380)) && (decide (n1380 < (((List.length t1381.1) : Nat) : Int)))) (cond_ (List.getD t1381.1 (Int.toNat n1380) (0, (0, ((⟨#[]⟩ : ByteArray), (0, ([], (0, (false, (0, (0, ([], ([], ([], ([], ())))))))))))))).2.2.2.2.2.2.1 (cond_ (Nat.ble (((List.length ns1383) + (1 : Nat)) * (8 : Nat)) (140737488355328 : Nat)) (ref28_Full_L0 (IntKind.wrap .i64 (n1380 + (1 : Int))) t1381 (bs1382 ++ (true :: [])) (ns1383 ++ ((0 : Int) :: [])) k1) none) (cond_ (Nat.ble (((List.length ns1383) + (1 : Nat)) * (8 : Nat)) (140737488355328 : Nat)) (ref28_Full_L0 (IntKind.wrap .i64 (n1380 + (1 : Int))) t1381 (bs1382 ++ (true :: [])) (ns1383 ++ ((3 : Int) :: [])) k1) none)) none) none) (k1 bs1382 ns1383))
noncomputable def ref28_Full_L0 : Nat → T_ref28_Full_L0
  | 0 => fun _ _ _ _ _ => none
  | n + 1 => ref28_Full_L0.body (ref28_Full_L0 n)
def ref28_Full_L0.p : LPat := lp 2 35 [1, 2, 3, 4] (ps (pq [1, 0] 0 0) (ps (pq [1, 1] 0 0) (ps (pq [1, 2] 0 0) (pl (pd (.int .i64)) pz)))) (pl (po [1, 0] 34 3 (es Ty22 (pl eh pz))) (ps (po [1, 1] 29 2 (em (ps (pa (ps (pk 0) (ps (pk 0) pz))) pz))) (ps (po [1, 2] 29 2 (em (ps (pa (ps (pr [1, 3]) (ps (pr [1, 4]) pz))) pz))) (pl (po [1, 3] 4 1 (ed .bool)) (pl (po [1, 4] 3 1 (ed (.int .i64))) pz)))))
def ref28_Full_L0.g (F : T_ref28_Full_L0) (v : ref28_Full_L0.p.T) (k : KE) : Option Bool := F v.1.1 v.2.1.1 v.2.2.1 v.2.2.2.1 (fun y0 y1 => k (.exit 0) ⟨fillS 35 [2, 3] [(.ptr [1, 0] 0 0), (.ptr [1, 1] 0 0)], [([1, 0], ⟨29, 2, (.mix [(.agg [.nils, .nils])])⟩), ([1, 1], ⟨29, 2, (.mix [(.agg [(.ref [1, 2]), (.ref [1, 3])])])⟩), ([1, 2], ⟨4, 1, (.data .bool y0)⟩), ([1, 3], ⟨3, 1, (.data (.int .i64) y1)⟩)], 2⟩)
theorem ref28_Full_L0.step (S : T_ref28_Full_L0) : ∀ v k, exR 18 Try.f18 0 ref28_Full_L0.p [] [] [] (ref28_Full_L0.g S) v k = ref28_Full_L0.g (ref28_Full_L0.body S) v k := fun v k => by kernel_rfl
theorem ref28_Full_L0.ok : okL 18 Try.f18 0 0 ref28_Full_L0.p (ref28_Full_L0.g (ref28_Full_L0 ROUNDS)) := loop2 (G := fun n => ref28_Full_L0.g (ref28_Full_L0 n)) (fun n => ref28_Full_L0.step (ref28_Full_L0 n)) .nil [] (by kernel_rfl) .nil (fun _ _ => rfl)
/-- function 18: sheerleg/sheerlegref28.Full -/
abbrev T_ref28_Full : Type := Tc16 → ((List Bool) → (List Int) → Option Bool) → Option Bool
noncomputable def ref28_Full.body (ref28_Full_L0 : T_ref28_Full_L0) : T_ref28_Full := fun t1379 k1 =>
  (ref28_Full_L0 (0 : Int) t1379 [] []
  (fun bs1384 ns1385 => (k1 bs1384 ns1385)))
noncomputable def ref28_Full : T_ref28_Full := ref28_Full.body (ref28_Full_L0 ROUNDS)
def ref28_Full.p : FPat := fp 18 (pl (pd Ty22) pz) pz
def ref28_Full.g (F : T_ref28_Full) (v : ref28_Full.p.T) (k : KR) : Option Bool := F v.1.1 (fun y0 y1 => k (.agg [(.ref [1, 0]), (.ref [1, 1])]) [([1, 0], ⟨4, 1, (.data .bool y0)⟩), ([1, 1], ⟨3, 1, (.data (.int .i64) y1)⟩)])
theorem ref28_Full.eq (L0 : T_ref28_Full_L0) : ∀ v k, exF Try.f18 ref28_Full.p [] [] [⟨0, ref28_Full_L0.p, ref28_Full_L0.g L0⟩] v k = ref28_Full.g (ref28_Full.body L0) v k := fun v k => by kernel_rfl
theorem ref28_Full.ok : okF 1 ref28_Full.p (ref28_Full.g ref28_Full) := fn2 (ref28_Full.eq (ref28_Full_L0 ROUNDS)) Try.func18 (by kernel_rfl) .nil [0] (by kernel_rfl) (.cons ref28_Full_L0.ok .nil)
/-- function 16: the loop in block 0 -/
abbrev T_ref28_Same_L0 : Type := Int → (List Bool) → (List Int) → (List Bool) → (List Int) → (Bool → Option Bool) → ((List Bool) → (List Int) → (List Bool) → (List Int) → Option Bool) → Option Bool
noncomputable def ref28_Same_L0.body (ref28_Same_L0 : T_ref28_Same_L0) : T_ref28_Same_L0 := fun n1392 bs1393 ns1394 bs1395 ns1396 k1 k2 =>
  (cond_ (decide (n1392 < (List.length bs1393 : Int))) (cond_ ((decide ((0 : Int) ≤ n1392)) && (decide (n1392 < (List.length bs1393 : Int)))) (cond_ ((decide ((0 : Int) ≤ n1392)) && (decide (n1392 < (List.length bs1395 : Int)))) (cond_ (! ((List.getD bs1393 (Int.toNat n1392) false) == (List.getD bs1395 (Int.toNat n1392) false))) (k1 false) (ref28_Same_L0 (IntKind.wrap .i64 (n1392 + (1 : Int))) bs1393 ns1394 bs1395 ns1396 k1 k2)) none) none) (k2 bs1393 ns1394 bs1395 ns1396))
noncomputable def ref28_Same_L0 : Nat → T_ref28_Same_L0
  | 0 => fun _ _ _ _ _ _ _ => none
  | n + 1 => ref28_Same_L0.body (ref28_Same_L0 n)
def ref28_Same_L0.p : LPat := lp 2 59 [2, 3, 5] (ps (pq [1, 0] 0 0) (ps (pq [1, 1] 0 0) (pl (pd (.int .i64)) pz))) (pl (po [1, 0] 29 2 (em (pl (pa (pl (pb 1 4 .bool) (pl (pb 2 3 (.int .i64)) pz))) pz))) (pl (po [1, 1] 29 2 (em (pl (pa (pl (pb 3 4 .bool) (pl (pb 4 3 (.int .i64)) pz))) pz))) pz))
def ref28_Same_L0.g (F : T_ref28_Same_L0) (v : ref28_Same_L0.p.T) (k : KE) : Option Bool := F v.1.1 v.2.1.1.1 v.2.1.1.2.1 v.2.2.1.1.1 v.2.2.1.1.2.1 (fun y0 => k .ret ⟨fillS 59 [4] [(.d ⟨.bool, y0⟩)], [], 2⟩) (fun y0 y1 y2 y3 => k (.exit 0) ⟨fillS 59 [2, 3] [(.ptr [1, 0] 0 0), (.ptr [1, 1] 0 0)], [([1, 0], ⟨29, 2, (.mix [(.agg [(.bv 1 4 .bool y0), (.bv 2 3 (.int .i64) y1)])])⟩), ([1, 1], ⟨29, 2, (.mix [(.agg [(.bv 3 4 .bool y2), (.bv 4 3 (.int .i64) y3)])])⟩)], 2⟩)
theorem ref28_Same_L0.step (S : T_ref28_Same_L0) : ∀ v k, exR 16 Try.f16 0 ref28_Same_L0.p [] [] [] (ref28_Same_L0.g S) v k = ref28_Same_L0.g (ref28_Same_L0.body S) v k := fun v k => by kernel_rfl
theorem ref28_Same_L0.ok : okL 16 Try.f16 0 0 ref28_Same_L0.p (ref28_Same_L0.g (ref28_Same_L0 ROUNDS)) := loop2 (G := fun n => ref28_Same_L0.g (ref28_Same_L0 n)) (fun n => ref28_Same_L0.step (ref28_Same_L0 n)) .nil [] (by kernel_rfl) .nil (fun _ _ => rfl)
/-- function 16: the loop in block 2 -/
abbrev T_ref28_Same_L2 : Type := Int → (List Bool) → (List Int) → (List Bool) → (List Int) → (Bool → Option Bool) → (Option Bool) → Option Bool
noncomputable def ref28_Same_L2.body (ref28_Same_L2 : T_ref28_Same_L2) : T_ref28_Same_L2 := fun n1402 bs1403 ns1404 bs1405 ns1406 k1 k2 =>
  (cond_ (decide (n1402 < (List.length ns1404 : Int))) (cond_ ((decide ((0 : Int) ≤ n1402)) && (decide (n1402 < (List.length ns1404 : Int)))) (cond_ ((decide ((0 : Int) ≤ n1402)) && (decide (n1402 < (List.length ns1406 : Int)))) (cond_ ((List.getD ns1404 (Int.toNat n1402) (0 : Int)) != (List.getD ns1406 (Int.toNat n1402) (0 : Int))) (k1 false) (ref28_Same_L2 (IntKind.wrap .i64 (n1402 + (1 : Int))) bs1403 ns1404 bs1405 ns1406 k1 k2)) none) none) (k2))
noncomputable def ref28_Same_L2 : Nat → T_ref28_Same_L2
  | 0 => fun _ _ _ _ _ _ _ => none
  | n + 1 => ref28_Same_L2.body (ref28_Same_L2 n)
def ref28_Same_L2.p : LPat := lp 2 59 [2, 3, 6] (ps (pq [1, 0] 0 0) (ps (pq [1, 1] 0 0) (pl (pd (.int .i64)) pz))) (pl (po [1, 0] 29 2 (em (pl (pa (pl (pb 1 4 .bool) (pl (pb 2 3 (.int .i64)) pz))) pz))) (pl (po [1, 1] 29 2 (em (pl (pa (pl (pb 3 4 .bool) (pl (pb 4 3 (.int .i64)) pz))) pz))) pz))
def ref28_Same_L2.g (F : T_ref28_Same_L2) (v : ref28_Same_L2.p.T) (k : KE) : Option Bool := F v.1.1 v.2.1.1.1 v.2.1.1.2.1 v.2.2.1.1.1 v.2.2.1.1.2.1 (fun y0 => k .ret ⟨fillS 59 [4] [(.d ⟨.bool, y0⟩)], [], 2⟩) (k (.exit 2) ⟨fillS 59 [] [], [], 2⟩)
theorem ref28_Same_L2.step (S : T_ref28_Same_L2) : ∀ v k, exR 16 Try.f16 2 ref28_Same_L2.p [] [] [] (ref28_Same_L2.g S) v k = ref28_Same_L2.g (ref28_Same_L2.body S) v k := fun v k => by kernel_rfl
theorem ref28_Same_L2.ok : okL 16 Try.f16 0 2 ref28_Same_L2.p (ref28_Same_L2.g (ref28_Same_L2 ROUNDS)) := loop2 (G := fun n => ref28_Same_L2.g (ref28_Same_L2 n)) (fun n => ref28_Same_L2.step (ref28_Same_L2 n)) .nil [] (by kernel_rfl) .nil (fun _ _ => rfl)
/-- function 16: sheerleg/sheerlegref28.Same -/
abbrev T_ref28_Same : Type := (List Bool) → (List Int) → (List Bool) → (List Int) → (Bool → Option Bool) → Option Bool
noncomputable def ref28_Same.body (ref28_Same_L0 : T_ref28_Same_L0) (ref28_Same_L2 : T_ref28_Same_L2) : T_ref28_Same := fun bs1388 ns1389 bs1390 ns1391 k1 =>
  (cond_ (! ((List.length bs1388 : Int) != (List.length bs1390 : Int))) (cond_ ((List.length ns1389 : Int) != (List.length ns1391 : Int)) (k1 false) (ref28_Same_L0 (0 : Int) bs1388 ns1389 bs1390 ns1391
  (fun b1397 => (k1 b1397))
  (fun bs1398 ns1399 bs1400 ns1401 => (ref28_Same_L2 (0 : Int) bs1398 ns1399 bs1400 ns1401
  (fun b1407 => (k1 b1407))
  (k1 true))))) (k1 false))
noncomputable def ref28_Same : T_ref28_Same := ref28_Same.body (ref28_Same_L0 ROUNDS) (ref28_Same_L2 ROUNDS)
def ref28_Same.p : FPat := fp 16 (pl (pa (pl (pb 1 4 .bool) (pl (pb 2 3 (.int .i64)) pz))) (pl (pa (pl (pb 3 4 .bool) (pl (pb 4 3 (.int .i64)) pz))) pz)) pz
def ref28_Same.g (F : T_ref28_Same) (v : ref28_Same.p.T) (k : KR) : Option Bool := F v.1.1.1 v.1.1.2.1 v.1.2.1.1 v.1.2.1.2.1 (fun y0 => k (.d ⟨.bool, y0⟩) [])
theorem ref28_Same.eq (L0 : T_ref28_Same_L0) (L1 : T_ref28_Same_L2) : ∀ v k, exF Try.f16 ref28_Same.p [] [] [⟨0, ref28_Same_L0.p, ref28_Same_L0.g L0⟩, ⟨2, ref28_Same_L2.p, ref28_Same_L2.g L1⟩] v k = ref28_Same.g (ref28_Same.body L0 L1) v k := fun v k => by kernel_rfl
theorem ref28_Same.ok : okF 1 ref28_Same.p (ref28_Same.g ref28_Same) := fn2 (ref28_Same.eq (ref28_Same_L0 ROUNDS) (ref28_Same_L2 ROUNDS)) Try.func16 (by kernel_rfl) .nil [0, 2] (by kernel_rfl) (.cons ref28_Same_L0.ok (.cons ref28_Same_L2.ok .nil))
/-- function 47: sheerleg/num.Near -/
abbrev T_num_Near : Type := Int → Int → Int → (Int → Option Bool) → Option Bool
noncomputable def num_Near.body : T_num_Near := fun n1418 n1419 n1420 k1 =>
  (cond_ (decide (n1418 < n1419)) (k1 n1419) (cond_ (decide (n1418 > n1420)) (k1 n1420) (k1 n1418)))
noncomputable def num_Near : T_num_Near := num_Near.body
def num_Near.p : FPat := fp 47 (pl (pd (.int .i64)) (pl (pd (.int .i64)) (pl (pd (.int .i64)) pz))) pz
def num_Near.g (F : T_num_Near) (v : num_Near.p.T) (k : KR) : Option Bool := F v.1.1 v.1.2.1 v.1.2.2.1 (fun y0 => k (.d ⟨(.int .i64), y0⟩) [])
theorem num_Near.eq : ∀ v k, exF Try.f47 num_Near.p [] [] [] v k = num_Near.g (num_Near.body) v k := fun v k => by kernel_rfl
theorem num_Near.ok : okF 1 num_Near.p (num_Near.g num_Near) := fn2 (num_Near.eq) Try.func47 (by kernel_rfl) .nil [] (by kernel_rfl) .nil
/-- function 30: sheerleg/fun.Frame -/
abbrev T_fun_Frame : Type := Tc10 → (Int → Option Bool) → Option Bool
noncomputable def fun_Frame.body (num_Near : T_num_Near) : T_fun_Frame := fun t1417 k1 =>
  (num_Near t1417.2.2.1 (0 : Int) (1048576 : Int)
  (fun n1421 => (k1 (IntKind.wrap .i64 ((((List.length t1417.2.1) : Nat) : Int) + n1421)))))
noncomputable def fun_Frame : T_fun_Frame := fun_Frame.body num_Near
def fun_Frame.p : FPat := fp 30 (pl (pd Ty17) pz) pz
def fun_Frame.g (F : T_fun_Frame) (v : fun_Frame.p.T) (k : KR) : Option Bool := F v.1.1 (fun y0 => k (.d ⟨(.int .i64), y0⟩) [])
theorem fun_Frame.eq (F0 : T_num_Near) : ∀ v k, exF Try.f30 fun_Frame.p [⟨num_Near.p, num_Near.g F0⟩] [] [] v k = fun_Frame.g (fun_Frame.body F0) v k := fun v k => by kernel_rfl
theorem fun_Frame.ok : okF 2 fun_Frame.p (fun_Frame.g fun_Frame) := fn2 (fun_Frame.eq num_Near) Try.func30 (by kernel_rfl) (.cons num_Near.ok .nil) [] (by kernel_rfl) .nil
/-- function 6: sheerleg/prologue.Least -/
abbrev T_prologue_Least : Type := Int → (Int → Option Bool) → Option Bool
noncomputable def prologue_Least.body : T_prologue_Least := fun n1423 k1 =>
  (cond_ (decide (n1423 ≤ (8 : Int))) (k1 (1 : Int)) (cond_ (decide (n1423 ≤ (64 : Int))) (k1 (2 : Int)) (k1 (3 : Int))))
noncomputable def prologue_Least : T_prologue_Least := prologue_Least.body
def prologue_Least.p : FPat := fp 6 (pl (pd (.int .i64)) pz) pz
def prologue_Least.g (F : T_prologue_Least) (v : prologue_Least.p.T) (k : KR) : Option Bool := F v.1.1 (fun y0 => k (.d ⟨(.int .i64), y0⟩) [])
theorem prologue_Least.eq : ∀ v k, exF Try.f6 prologue_Least.p [] [] [] v k = prologue_Least.g (prologue_Least.body) v k := fun v k => by kernel_rfl
theorem prologue_Least.ok : okF 1 prologue_Least.p (prologue_Least.g prologue_Least) := fn2 (prologue_Least.eq) Try.func6 (by kernel_rfl) .nil [] (by kernel_rfl) .nil
/-- function 31: sheerleg/prologue.has -/
abbrev T_prologue_has : Type := (List Bool) → Int → (Bool → Option Bool) → Option Bool
noncomputable def prologue_has.body : T_prologue_has := fun bs1425 n1426 k1 =>
  (cond_ (decide (n1426 ≥ (0 : Int))) (cond_ (decide (n1426 < (List.length bs1425 : Int))) (cond_ ((decide ((0 : Int) ≤ n1426)) && (decide (n1426 < (List.length bs1425 : Int)))) (k1 (List.getD bs1425 (Int.toNat n1426) false)) none) (k1 false)) (k1 false))
noncomputable def prologue_has : T_prologue_has := prologue_has.body
def prologue_has.p : FPat := fp 31 (pl (pb 0 4 .bool) (pl (pd (.int .i64)) pz)) pz
def prologue_has.g (F : T_prologue_has) (v : prologue_has.p.T) (k : KR) : Option Bool := F v.1.1 v.1.2.1 (fun y0 => k (.d ⟨.bool, y0⟩) [])
theorem prologue_has.eq : ∀ v k, exF Try.f31 prologue_has.p [] [] [] v k = prologue_has.g (prologue_has.body) v k := fun v k => by kernel_rfl
theorem prologue_has.ok : okF 1 prologue_has.p (prologue_has.g prologue_has) := fn2 (prologue_has.eq) Try.func31 (by kernel_rfl) .nil [] (by kernel_rfl) .nil
/-- function 19: the loop in block 0 -/
abbrev T_prologue_Lean_L0 : Type := (List Bool) → (List Bool) → Tc13 → Int → Int → (List Bool) → (List Int) → ((List Bool) → (List Int) → Option Bool) → Option Bool
noncomputable def prologue_Lean_L0.body (prologue_Lean_L0 : T_prologue_Lean_L0) (fun_Frame : T_fun_Frame) (prologue_Least : T_prologue_Least) (prologue_has : T_prologue_has) : T_prologue_Lean_L0 := fun bs1448 bs1449 l1450 n1451 n1452 bs1453 ns1454 k1 =>
  (cond_ (decide (n1452 < n1451)) (cond_ ((decide ((0 : Int) ≤ n1452)) && (decide (n1452 < (List.length l1450 : Int)))) (fun_Frame ((List.getD l1450 (Int.toNat n1452) (0, (0, ((⟨#[]⟩ : ByteArray), (0, ([], (0, (false, (0, (0, ([], ([], ([], ([], ())))))))))))))).2.2.2.1, ((List.getD l1450 (Int.toNat n1452) (0, (0, ((⟨#[]⟩ : ByteArray), (0, ([], (0, (false, (0, (0, ([], ([], ([], ([], ())))))))))))))).2.2.2.2.1, ((List.getD l1450 (Int.toNat n1452) (0, (0, ((⟨#[]⟩ : ByteArray), (0, ([], (0, (false, (0, (0, ([], ([], ([], ([], ())))))))))))))).2.2.2.2.2.1, ((List.getD l1450 (Int.toNat n1452) (0, (0, ((⟨#[]⟩ : ByteArray), (0, ([], (0, (false, (0, (0, ([], ([], ([], ([], ())))))))))))))).2.2.2.2.2.2.1, ((List.getD l1450 (Int.toNat n1452) (0, (0, ((⟨#[]⟩ : ByteArray), (0, ([], (0, (false, (0, (0, ([], ([], ([], ([], ())))))))))))))).2.2.2.2.2.2.2.1, ((List.getD l1450 (Int.toNat n1452) (0, (0, ((⟨#[]⟩ : ByteArray), (0, ([], (0, (false, (0, (0, ([], ([], ([], ([], ())))))))))))))).2.2.2.2.2.2.2.2.1, ((List.getD l1450 (Int.toNat n1452) (0, (0, ((⟨#[]⟩ : ByteArray), (0, ([], (0, (false, (0, (0, ([], ([], ([], ([], ())))))))))))))).2.2.2.2.2.2.2.2.2.1, ((List.getD l1450 (Int.toNat n1452) (0, (0, ((⟨#[]⟩ : ByteArray), (0, ([], (0, (false, (0, (0, ([], ([], ([], ([], ())))))))))))))).2.2.2.2.2.2.2.2.2.2.1, ((List.getD l1450 (Int.toNat n1452) (0, (0, ((⟨#[]⟩ : ByteArray), (0, ([], (0, (false, (0, (0, ([], ([], ([], ([], ())))))))))))))).2.2.2.2.2.2.2.2.2.2.2.1, ())))))))))
  (fun n1455 => (prologue_Least n1455
  (fun n1456 => (prologue_has bs1449 n1452
  (fun b1457 => (cond_ b1457 (prologue_has bs1448 n1452
  (fun b1458 => (cond_ (Nat.ble (((List.length bs1453) + (List.length (b1458 :: []))) * (1 : Nat)) (140737488355328 : Nat)) (cond_ (Nat.ble (((List.length ns1454) + (1 : Nat)) * (8 : Nat)) (140737488355328 : Nat)) (prologue_Lean_L0 bs1448 bs1449 l1450 n1451 (IntKind.wrap .i64 (n1452 + (1 : Int))) (bs1453 ++ (b1458 :: [])) (ns1454 ++ ((0 : Int) :: [])) k1) none) none))) (prologue_has bs1448 n1452
  (fun b1459 => (cond_ (Nat.ble (((List.length bs1453) + (List.length (b1459 :: []))) * (1 : Nat)) (140737488355328 : Nat)) (cond_ (Nat.ble (((List.length ns1454) + (List.length (n1456 :: []))) * (8 : Nat)) (140737488355328 : Nat)) (prologue_Lean_L0 bs1448 bs1449 l1450 n1451 (IntKind.wrap .i64 (n1452 + (1 : Int))) (bs1453 ++ (b1459 :: [])) (ns1454 ++ (n1456 :: [])) k1) none) none)))))))))) none) (k1 bs1453 ns1454))
noncomputable def prologue_Lean_L0 : Nat → T_prologue_Lean_L0
  | 0 => fun _ _ _ _ _ _ _ _ => none
  | n + 1 => prologue_Lean_L0.body (prologue_Lean_L0 n) fun_Frame prologue_Least prologue_has
def prologue_Lean_L0.p : LPat := lp 2 42 [1, 2, 6, 7, 12, 13, 14] (pl (pb 0 4 .bool) (pl (pb 0 4 .bool) (ps (pq [1, 0] 0 0) (ps (pq [1, 1] 0 0) (pl (pd Ty20) (pl (pd (.int .i64)) (pl (pd (.int .i64)) pz))))))) (ps (po [1, 0] 29 2 (em (ps (pa (ps (pk 0) (ps (pk 0) pz))) pz))) (ps (po [1, 1] 29 2 (em (ps (pa (ps (pr [1, 2]) (ps (pr [1, 3]) pz))) pz))) (pl (po [1, 2] 4 1 (ed .bool)) (pl (po [1, 3] 3 1 (ed (.int .i64))) pz))))
def prologue_Lean_L0.g (F : T_prologue_Lean_L0) (v : prologue_Lean_L0.p.T) (k : KE) : Option Bool := F v.1.1 v.1.2.1 v.1.2.2.1 v.1.2.2.2.1 v.1.2.2.2.2.1 v.2.1 v.2.2.1 (fun y0 y1 => k (.exit 0) ⟨fillS 42 [6, 7] [(.ptr [1, 0] 0 0), (.ptr [1, 1] 0 0)], [([1, 0], ⟨29, 2, (.mix [(.agg [.nils, .nils])])⟩), ([1, 1], ⟨29, 2, (.mix [(.agg [(.ref [1, 2]), (.ref [1, 3])])])⟩), ([1, 2], ⟨4, 1, (.data .bool y0)⟩), ([1, 3], ⟨3, 1, (.data (.int .i64) y1)⟩)], 2⟩)
theorem prologue_Lean_L0.step (S : T_prologue_Lean_L0) (F0 : T_fun_Frame) (F1 : T_prologue_Least) (F2 : T_prologue_has) : ∀ v k, exR 19 Try.f19 0 prologue_Lean_L0.p [⟨fun_Frame.p, fun_Frame.g F0⟩, ⟨prologue_Least.p, prologue_Least.g F1⟩, ⟨prologue_has.p, prologue_has.g F2⟩] [] [] (prologue_Lean_L0.g S) v k = prologue_Lean_L0.g (prologue_Lean_L0.body S F0 F1 F2) v k := fun v k => by kernel_rfl
theorem prologue_Lean_L0.ok : okL 19 Try.f19 2 0 prologue_Lean_L0.p (prologue_Lean_L0.g (prologue_Lean_L0 ROUNDS)) := loop2 (G := fun n => prologue_Lean_L0.g (prologue_Lean_L0 n)) (fun n => prologue_Lean_L0.step (prologue_Lean_L0 n) fun_Frame prologue_Least prologue_has) (.cons fun_Frame.ok (.cons prologue_Least.ok (.cons prologue_has.ok .nil))) [] (by kernel_rfl) .nil (fun _ _ => rfl)
/-- function 19: sheerleg/prologue.Lean -/
abbrev T_prologue_Lean : Type := Tc16 → (List Bool) → (List Bool) → ((List Bool) → (List Int) → Option Bool) → Option Bool
noncomputable def prologue_Lean.body (prologue_Lean_L0 : T_prologue_Lean_L0) : T_prologue_Lean := fun t1445 bs1446 bs1447 k1 =>
  (prologue_Lean_L0 bs1446 bs1447 t1445.1 (((List.length t1445.1) : Nat) : Int) (0 : Int) [] []
  (fun bs1460 ns1461 => (k1 bs1460 ns1461)))
noncomputable def prologue_Lean : T_prologue_Lean := prologue_Lean.body (prologue_Lean_L0 ROUNDS)
def prologue_Lean.p : FPat := fp 19 (pl (pd Ty22) (pl (pb 0 4 .bool) (pl (pb 0 4 .bool) pz))) pz
def prologue_Lean.g (F : T_prologue_Lean) (v : prologue_Lean.p.T) (k : KR) : Option Bool := F v.1.1 v.1.2.1 v.1.2.2.1 (fun y0 y1 => k (.agg [(.ref [1, 0]), (.ref [1, 1])]) [([1, 0], ⟨4, 1, (.data .bool y0)⟩), ([1, 1], ⟨3, 1, (.data (.int .i64) y1)⟩)])
theorem prologue_Lean.eq (L0 : T_prologue_Lean_L0) : ∀ v k, exF Try.f19 prologue_Lean.p [] [] [⟨0, prologue_Lean_L0.p, prologue_Lean_L0.g L0⟩] v k = prologue_Lean.g (prologue_Lean.body L0) v k := fun v k => by kernel_rfl
theorem prologue_Lean.ok : okF 3 prologue_Lean.p (prologue_Lean.g prologue_Lean) := fn2 (prologue_Lean.eq (prologue_Lean_L0 ROUNDS)) Try.func19 (by kernel_rfl) .nil [0] (by kernel_rfl) (.cons prologue_Lean_L0.ok .nil)
/-- function 48: sheerleg/sheerlegref01.Near -/
abbrev T_ref01_Near : Type := Int → Int → Int → (Int → Option Bool) → Option Bool
noncomputable def ref01_Near.body : T_ref01_Near := fun n1499 n1500 n1501 k1 =>
  (cond_ (decide (n1499 < n1500)) (k1 n1500) (cond_ (decide (n1499 > n1501)) (k1 n1501) (k1 n1499)))
noncomputable def ref01_Near : T_ref01_Near := ref01_Near.body
def ref01_Near.p : FPat := fp 48 (pl (pd (.int .i64)) (pl (pd (.int .i64)) (pl (pd (.int .i64)) pz))) pz
def ref01_Near.g (F : T_ref01_Near) (v : ref01_Near.p.T) (k : KR) : Option Bool := F v.1.1 v.1.2.1 v.1.2.2.1 (fun y0 => k (.d ⟨(.int .i64), y0⟩) [])
theorem ref01_Near.eq : ∀ v k, exF Try.f48 ref01_Near.p [] [] [] v k = ref01_Near.g (ref01_Near.body) v k := fun v k => by kernel_rfl
theorem ref01_Near.ok : okF 1 ref01_Near.p (ref01_Near.g ref01_Near) := fn2 (ref01_Near.eq) Try.func48 (by kernel_rfl) .nil [] (by kernel_rfl) .nil
/-- function 32: sheerleg/sheerlegref16.Frame -/
abbrev T_ref16_Frame : Type := Tc10 → (Int → Option Bool) → Option Bool
noncomputable def ref16_Frame.body (ref01_Near : T_ref01_Near) : T_ref16_Frame := fun t1498 k1 =>
  (ref01_Near t1498.2.2.1 (0 : Int) (1048576 : Int)
  (fun n1502 => (k1 (IntKind.wrap .i64 ((((List.length t1498.2.1) : Nat) : Int) + n1502)))))
noncomputable def ref16_Frame : T_ref16_Frame := ref16_Frame.body ref01_Near
def ref16_Frame.p : FPat := fp 32 (pl (pd Ty17) pz) pz
def ref16_Frame.g (F : T_ref16_Frame) (v : ref16_Frame.p.T) (k : KR) : Option Bool := F v.1.1 (fun y0 => k (.d ⟨(.int .i64), y0⟩) [])
theorem ref16_Frame.eq (F0 : T_ref01_Near) : ∀ v k, exF Try.f32 ref16_Frame.p [⟨ref01_Near.p, ref01_Near.g F0⟩] [] [] v k = ref16_Frame.g (ref16_Frame.body F0) v k := fun v k => by kernel_rfl
theorem ref16_Frame.ok : okF 2 ref16_Frame.p (ref16_Frame.g ref16_Frame) := fn2 (ref16_Frame.eq ref01_Near) Try.func32 (by kernel_rfl) (.cons ref01_Near.ok .nil) [] (by kernel_rfl) .nil
/-- function 7: sheerleg/sheerlegref28.Least -/
abbrev T_ref28_Least : Type := Int → (Int → Option Bool) → Option Bool
noncomputable def ref28_Least.body : T_ref28_Least := fun n1504 k1 =>
  (cond_ (decide (n1504 ≤ (8 : Int))) (k1 (1 : Int)) (cond_ (decide (n1504 ≤ (64 : Int))) (k1 (2 : Int)) (k1 (3 : Int))))
noncomputable def ref28_Least : T_ref28_Least := ref28_Least.body
def ref28_Least.p : FPat := fp 7 (pl (pd (.int .i64)) pz) pz
def ref28_Least.g (F : T_ref28_Least) (v : ref28_Least.p.T) (k : KR) : Option Bool := F v.1.1 (fun y0 => k (.d ⟨(.int .i64), y0⟩) [])
theorem ref28_Least.eq : ∀ v k, exF Try.f7 ref28_Least.p [] [] [] v k = ref28_Least.g (ref28_Least.body) v k := fun v k => by kernel_rfl
theorem ref28_Least.ok : okF 1 ref28_Least.p (ref28_Least.g ref28_Least) := fn2 (ref28_Least.eq) Try.func7 (by kernel_rfl) .nil [] (by kernel_rfl) .nil
/-- function 20: the loop in block 0 -/
abbrev T_ref28_Lean_L0 : Type := (List Bool) → (List Bool) → Int → Tc16 → (List Bool) → (List Int) → ((List Bool) → (List Int) → Option Bool) → Option Bool
noncomputable def ref28_Lean_L0.body (ref28_Lean_L0 : T_ref28_Lean_L0) (ref16_Frame : T_ref16_Frame) (ref28_Least : T_ref28_Least) : T_ref28_Lean_L0 := fun bs1492 bs1493 n1494 t1495 bs1496 ns1497 k1 =>
  (cond_ (decide (n1494 < (((List.length t1495.1) : Nat) : Int))) (cond_ (decide (n1494 < (List.length bs1492 : Int))) (cond_ ((decide ((0 : Int) ≤ n1494)) && (decide (n1494 < (List.length bs1492 : Int)))) (cond_ (Nat.ble (((List.length bs1496) + (List.length ((List.getD bs1492 (Int.toNat n1494) false) :: []))) * (1 : Nat)) (140737488355328 : Nat)) (cond_ (decide (n1494 < (List.length bs1493 : Int))) (cond_ ((decide ((0 : Int) ≤ n1494)) && (decide (n1494 < (List.length bs1493 : Int)))) (cond_ (List.getD bs1493 (Int.toNat n1494) false) (cond_ (Nat.ble (((List.length ns1497) + (1 : Nat)) * (8 : Nat)) (140737488355328 : Nat)) (ref28_Lean_L0 bs1492 bs1493 (IntKind.wrap .i64 (n1494 + (1 : Int))) t1495 (bs1496 ++ ((List.getD bs1492 (Int.toNat n1494) false) :: [])) (ns1497 ++ ((0 : Int) :: [])) k1) none) (cond_ ((decide ((0 : Int) ≤ n1494)) && (decide (n1494 < (((List.length t1495.1) : Nat) : Int)))) (ref16_Frame ((List.getD t1495.1 (Int.toNat n1494) (0, (0, ((⟨#[]⟩ : ByteArray), (0, ([], (0, (false, (0, (0, ([], ([], ([], ([], ())))))))))))))).2.2.2.1, ((List.getD t1495.1 (Int.toNat n1494) (0, (0, ((⟨#[]⟩ : ByteArray), (0, ([], (0, (false, (0, (0, ([], ([], ([], ([], ())))))))))))))).2.2.2.2.1, ((List.getD t1495.1 (Int.toNat n1494) (0, (0, ((⟨#[]⟩ : ByteArray), (0, ([], (0, (false, (0, (0, ([], ([], ([], ([], ())))))))))))))).2.2.2.2.2.1, ((List.getD t1495.1 (Int.toNat n1494) (0, (0, ((⟨#[]⟩ : ByteArray), (0, ([], (0, (false, (0, (0, ([], ([], ([], ([], ())))))))))))))).2.2.2.2.2.2.1, ((List.getD t1495.1 (Int.toNat n1494) (0, (0, ((⟨#[]⟩ : ByteArray), (0, ([], (0, (false, (0, (0, ([], ([], ([], ([], ())))))))))))))).2.2.2.2.2.2.2.1, ((List.getD t1495.1 (Int.toNat n1494) (0, (0, ((⟨#[]⟩ : ByteArray), (0, ([], (0, (false, (0, (0, ([], ([], ([], ([], ())))))))))))))).2.2.2.2.2.2.2.2.1, ((List.getD t1495.1 (Int.toNat n1494) (0, (0, ((⟨#[]⟩ : ByteArray), (0, ([], (0, (false, (0, (0, ([], ([], ([], ([], ())))))))))))))).2.2.2.2.2.2.2.2.2.1, ((List.getD t1495.1 (Int.toNat n1494) (0, (0, ((⟨#[]⟩ : ByteArray), (0, ([], (0, (false, (0, (0, ([], ([], ([], ([], ())))))))))))))).2.2.2.2.2.2.2.2.2.2.1, ((List.getD t1495.1 (Int.toNat n1494) (0, (0, ((⟨#[]⟩ : ByteArray), (0, ([], (0, (false, (0, (0, ([], ([], ([], ([], ())))))))))))))).2.2.2.2.2.2.2.2.2.2.2.1, ())))))))))
  (fun n1503 => (ref28_Least n1503
  (fun n1505 => (cond_ (Nat.ble (((List.length ns1497) + (List.length (n1505 :: []))) * (8 : Nat)) (140737488355328 : Nat)) (ref28_Lean_L0 bs1492 bs1493 (IntKind.wrap .i64 (n1494 + (1 : Int))) t1495 (bs1496 ++ ((List.getD bs1492 (Int.toNat n1494) false) :: [])) (ns1497 ++ (n1505 :: [])) k1) none))))) none)) none) (cond_ ((decide ((0 : Int) ≤ n1494)) && (decide (n1494 < (((List.length t1495.1) : Nat) : Int)))) (ref16_Frame ((List.getD t1495.1 (Int.toNat n1494) (0, (0, ((⟨#[]⟩ : ByteArray), (0, ([], (0, (false, (0, (0, ([], ([], ([], ([], ())))))))))))))).2.2.2.1, ((List.getD t1495.1 (Int.toNat n1494) (0, (0, ((⟨#[]⟩ : ByteArray), (0, ([], (0, (false, (0, (0, ([], ([], ([], ([], ())))))))))))))).2.2.2.2.1, ((List.getD t1495.1 (Int.toNat n1494) (0, (0, ((⟨#[]⟩ : ByteArray), (0, ([], (0, (false, (0, (0, ([], ([], ([], ([], ())))))))))))))).2.2.2.2.2.1, ((List.getD t1495.1 (Int.toNat n1494) (0, (0, ((⟨#[]⟩ : ByteArray), (0, ([], (0, (false, (0, (0, ([], ([], ([], ([], ())))))))))))))).2.2.2.2.2.2.1, ((List.getD t1495.1 (Int.toNat n1494) (0, (0, ((⟨#[]⟩ : ByteArray), (0, ([], (0, (false, (0, (0, ([], ([], ([], ([], ())))))))))))))).2.2.2.2.2.2.2.1, ((List.getD t1495.1 (Int.toNat n1494) (0, (0, ((⟨#[]⟩ : ByteArray), (0, ([], (0, (false, (0, (0, ([], ([], ([], ([], ())))))))))))))).2.2.2.2.2.2.2.2.1, ((List.getD t1495.1 (Int.toNat n1494) (0, (0, ((⟨#[]⟩ : ByteArray), (0, ([], (0, (false, (0, (0, ([], ([], ([], ([], ())))))))))))))).2.2.2.2.2.2.2.2.2.1, ((List.getD t1495.1 (Int.toNat n1494) (0, (0, ((⟨#[]⟩ : ByteArray), (0, ([], (0, (false, (0, (0, ([], ([], ([], ([], ())))))))))))))).2.2.2.2.2.2.2.2.2.2.1, ((List.getD t1495.1 (Int.toNat n1494) (0, (0, ((⟨#[]⟩ : ByteArray), (0, ([], (0, (false, (0, (0, ([], ([], ([], ([], ())))))))))))))).2.2.2.2.2.2.2.2.2.2.2.1, ())))))))))
  (fun n1506 => (ref28_Least n1506
  (fun n1507 => (cond_ (Nat.ble (((List.length ns1497) + (List.length (n1507 :: []))) * (8 : Nat)) (140737488355328 : Nat)) (ref28_Lean_L0 bs1492 bs1493 (IntKind.wrap .i64 (n1494 + (1 : Int))) t1495 (bs1496 ++ ((List.getD bs1492 (Int.toNat n1494) false) :: [])) (ns1497 ++ (n1507 :: [])) k1) none))))) none)) none) none) (cond_ (Nat.ble (((List.length bs1496) + (1 : Nat)) * (1 : Nat)) (140737488355328 : Nat)) (cond_ (decide (n1494 < (List.length bs1493 : Int))) (cond_ ((decide ((0 : Int) ≤ n1494)) && (decide (n1494 < (List.length bs1493 : Int)))) (cond_ (List.getD bs1493 (Int.toNat n1494) false) (cond_ (Nat.ble (((List.length ns1497) + (1 : Nat)) * (8 : Nat)) (140737488355328 : Nat)) (ref28_Lean_L0 bs1492 bs1493 (IntKind.wrap .i64 (n1494 + (1 : Int))) t1495 (bs1496 ++ (false :: [])) (ns1497 ++ ((0 : Int) :: [])) k1) none) (cond_ ((decide ((0 : Int) ≤ n1494)) && (decide (n1494 < (((List.length t1495.1) : Nat) : Int)))) (ref16_Frame ((List.getD t1495.1 (Int.toNat n1494) (0, (0, ((⟨#[]⟩ : ByteArray), (0, ([], (0, (false, (0, (0, ([], ([], ([], ([], ())))))))))))))).2.2.2.1, ((List.getD t1495.1 (Int.toNat n1494) (0, (0, ((⟨#[]⟩ : ByteArray), (0, ([], (0, (false, (0, (0, ([], ([], ([], ([], ())))))))))))))).2.2.2.2.1, ((List.getD t1495.1 (Int.toNat n1494) (0, (0, ((⟨#[]⟩ : ByteArray), (0, ([], (0, (false, (0, (0, ([], ([], ([], ([], ())))))))))))))).2.2.2.2.2.1, ((List.getD t1495.1 (Int.toNat n1494) (0, (0, ((⟨#[]⟩ : ByteArray), (0, ([], (0, (false, (0, (0, ([], ([], ([], ([], ())))))))))))))).2.2.2.2.2.2.1, ((List.getD t1495.1 (Int.toNat n1494) (0, (0, ((⟨#[]⟩ : ByteArray), (0, ([], (0, (false, (0, (0, ([], ([], ([], ([], ())))))))))))))).2.2.2.2.2.2.2.1, ((List.getD t1495.1 (Int.toNat n1494) (0, (0, ((⟨#[]⟩ : ByteArray), (0, ([], (0, (false, (0, (0, ([], ([], ([], ([], ())))))))))))))).2.2.2.2.2.2.2.2.1, ((List.getD t1495.1 (Int.toNat n1494) (0, (0, ((⟨#[]⟩ : ByteArray), (0, ([], (0, (false, (0, (0, ([], ([], ([], ([], ())))))))))))))).2.2.2.2.2.2.2.2.2.1, ((List.getD t1495.1 (Int.toNat n1494) (0, (0, ((⟨#[]⟩ : ByteArray), (0, ([], (0, (false, (0, (0, ([], ([], ([], ([], ())))))))))))))).2.2.2.2.2.2.2.2.2.2.1, ((List.getD t1495.1 (Int.toNat n1494) (0, (0, ((⟨#[]⟩ : ByteArray), (0, ([], (0, (false, (0, (0, ([], ([], ([], ([], ())))))))))))))).2.2.2.2.2.2.2.2.2.2.2.1, ())))))))))
  (fun n1508 => (ref28_Least n1508
  (fun n1509 => (cond_ (Nat.ble (((List.length ns1497) + (List.length (n1509 :: []))) * (8 : Nat)) (140737488355328 : Nat)) (ref28_Lean_L0 bs1492 bs1493 (IntKind.wrap .i64 (n1494 + (1 : Int))) t1495 (bs1496 ++ (false :: [])) (ns1497 ++ (n1509 :: [])) k1) none))))) none)) none) (cond_ ((decide ((0 : Int) ≤ n1494)) && (decide (n1494 < (((List.length t1495.1) : Nat) : Int)))) (ref16_Frame ((List.getD t1495.1 (Int.toNat n1494) (0, (0, ((⟨#[]⟩ : ByteArray), (0, ([], (0, (false, (0, (0, ([], ([], ([], ([], ())))))))))))))).2.2.2.1, ((List.getD t1495.1 (Int.toNat n1494) (0, (0, ((⟨#[]⟩ : ByteArray), (0, ([], (0, (false, (0, (0, ([], ([], ([], ([], ())))))))))))))).2.2.2.2.1, ((List.getD t1495.1 (Int.toNat n1494) (0, (0, ((⟨#[]⟩ : ByteArray), (0, ([], (0, (false, (0, (0, ([], ([], ([], ([], ())))))))))))))).2.2.2.2.2.1, ((List.getD t1495.1 (Int.toNat n1494) (0, (0, ((⟨#[]⟩ : ByteArray), (0, ([], (0, (false, (0, (0, ([], ([], ([], ([], ())))))))))))))).2.2.2.2.2.2.1, ((List.getD t1495.1 (Int.toNat n1494) (0, (0, ((⟨#[]⟩ : ByteArray), (0, ([], (0, (false, (0, (0, ([], ([], ([], ([], ())))))))))))))).2.2.2.2.2.2.2.1, ((List.getD t1495.1 (Int.toNat n1494) (0, (0, ((⟨#[]⟩ : ByteArray), (0, ([], (0, (false, (0, (0, ([], ([], ([], ([], ())))))))))))))).2.2.2.2.2.2.2.2.1, ((List.getD t1495.1 (Int.toNat n1494) (0, (0, ((⟨#[]⟩ : ByteArray), (0, ([], (0, (false, (0, (0, ([], ([], ([], ([], ())))))))))))))).2.2.2.2.2.2.2.2.2.1, ((List.getD t1495.1 (Int.toNat n1494) (0, (0, ((⟨#[]⟩ : ByteArray), (0, ([], (0, (false, (0, (0, ([], ([], ([], ([], ())))))))))))))).2.2.2.2.2.2.2.2.2.2.1, ((List.getD t1495.1 (Int.toNat n1494) (0, (0, ((⟨#[]⟩ : ByteArray), (0, ([], (0, (false, (0, (0, ([], ([], ([], ([], ())))))))))))))).2.2.2.2.2.2.2.2.2.2.2.1, ())))))))))
  (fun n1510 => (ref28_Least n1510
  (fun n1511 => (cond_ (Nat.ble (((List.length ns1497) + (List.length (n1511 :: []))) * (8 : Nat)) (140737488355328 : Nat)) (ref28_Lean_L0 bs1492 bs1493 (IntKind.wrap .i64 (n1494 + (1 : Int))) t1495 (bs1496 ++ (false :: [])) (ns1497 ++ (n1511 :: [])) k1) none))))) none)) none)) (k1 bs1496 ns1497))
noncomputable def ref28_Lean_L0 : Nat → T_ref28_Lean_L0
  | 0 => fun _ _ _ _ _ _ _ => none
  | n + 1 => ref28_Lean_L0.body (ref28_Lean_L0 n) ref16_Frame ref28_Least
def ref28_Lean_L0.p : LPat := lp 2 60 [1, 2, 3, 6, 7, 8] (pl (pb 0 4 .bool) (pl (pb 0 4 .bool) (ps (pq [1, 0] 0 0) (ps (pq [1, 1] 0 0) (ps (pq [1, 2] 0 0) (pl (pd (.int .i64)) pz)))))) (pl (po [1, 0] 34 3 (es Ty22 (pl eh pz))) (ps (po [1, 1] 29 2 (em (ps (pa (ps (pk 0) (ps (pk 0) pz))) pz))) (ps (po [1, 2] 29 2 (em (ps (pa (ps (pr [1, 3]) (ps (pr [1, 4]) pz))) pz))) (pl (po [1, 3] 4 1 (ed .bool)) (pl (po [1, 4] 3 1 (ed (.int .i64))) pz)))))
def ref28_Lean_L0.g (F : T_ref28_Lean_L0) (v : ref28_Lean_L0.p.T) (k : KE) : Option Bool := F v.1.1 v.1.2.1 v.1.2.2.1 v.2.1.1 v.2.2.1 v.2.2.2.1 (fun y0 y1 => k (.exit 0) ⟨fillS 60 [6, 7] [(.ptr [1, 0] 0 0), (.ptr [1, 1] 0 0)], [([1, 0], ⟨29, 2, (.mix [(.agg [.nils, .nils])])⟩), ([1, 1], ⟨29, 2, (.mix [(.agg [(.ref [1, 2]), (.ref [1, 3])])])⟩), ([1, 2], ⟨4, 1, (.data .bool y0)⟩), ([1, 3], ⟨3, 1, (.data (.int .i64) y1)⟩)], 2⟩)
theorem ref28_Lean_L0.step (S : T_ref28_Lean_L0) (F0 : T_ref16_Frame) (F1 : T_ref28_Least) : ∀ v k, exR 20 Try.f20 0 ref28_Lean_L0.p [⟨ref16_Frame.p, ref16_Frame.g F0⟩, ⟨ref28_Least.p, ref28_Least.g F1⟩] [] [] (ref28_Lean_L0.g S) v k = ref28_Lean_L0.g (ref28_Lean_L0.body S F0 F1) v k := fun v k => by kernel_rfl
theorem ref28_Lean_L0.ok : okL 20 Try.f20 2 0 ref28_Lean_L0.p (ref28_Lean_L0.g (ref28_Lean_L0 ROUNDS)) := loop2 (G := fun n => ref28_Lean_L0.g (ref28_Lean_L0 n)) (fun n => ref28_Lean_L0.step (ref28_Lean_L0 n) ref16_Frame ref28_Least) (.cons ref16_Frame.ok (.cons ref28_Least.ok .nil)) [] (by kernel_rfl) .nil (fun _ _ => rfl)
/-- function 20: sheerleg/sheerlegref28.Lean -/
abbrev T_ref28_Lean : Type := Tc16 → (List Bool) → (List Bool) → ((List Bool) → (List Int) → Option Bool) → Option Bool
noncomputable def ref28_Lean.body (ref28_Lean_L0 : T_ref28_Lean_L0) : T_ref28_Lean := fun t1489 bs1490 bs1491 k1 =>
  (ref28_Lean_L0 bs1490 bs1491 (0 : Int) t1489 [] []
  (fun bs1512 ns1513 => (k1 bs1512 ns1513)))
noncomputable def ref28_Lean : T_ref28_Lean := ref28_Lean.body (ref28_Lean_L0 ROUNDS)
def ref28_Lean.p : FPat := fp 20 (pl (pd Ty22) (pl (pb 0 4 .bool) (pl (pb 0 4 .bool) pz))) pz
def ref28_Lean.g (F : T_ref28_Lean) (v : ref28_Lean.p.T) (k : KR) : Option Bool := F v.1.1 v.1.2.1 v.1.2.2.1 (fun y0 y1 => k (.agg [(.ref [1, 0]), (.ref [1, 1])]) [([1, 0], ⟨4, 1, (.data .bool y0)⟩), ([1, 1], ⟨3, 1, (.data (.int .i64) y1)⟩)])
theorem ref28_Lean.eq (L0 : T_ref28_Lean_L0) : ∀ v k, exF Try.f20 ref28_Lean.p [] [] [⟨0, ref28_Lean_L0.p, ref28_Lean_L0.g L0⟩] v k = ref28_Lean.g (ref28_Lean.body L0) v k := fun v k => by kernel_rfl
theorem ref28_Lean.ok : okF 3 ref28_Lean.p (ref28_Lean.g ref28_Lean) := fn2 (ref28_Lean.eq (ref28_Lean_L0 ROUNDS)) Try.func20 (by kernel_rfl) .nil [0] (by kernel_rfl) (.cons ref28_Lean_L0.ok .nil)
/-- function 21: sheerleg/prologue.Size -/
abbrev T_prologue_Size : Type := Tc16 → Tc1 → Int → (Int → Option Bool) → Option Bool
noncomputable def prologue_Size.body (prologue_has : T_prologue_has) : T_prologue_Size := fun t1517 t1518 n1519 k1 =>
  (cond_ (! (decide (n1519 ≥ (((List.length t1517.1) : Nat) : Int)))) (prologue_has t1518.1 n1519
  (fun b1520 => (cond_ (! b1520) (k1 (0 : Int)) (cond_ ((decide ((0 : Int) ≤ n1519)) && (decide (n1519 < (((List.length t1517.1) : Nat) : Int)))) (cond_ (decide (n1519 < (((List.length t1518.2.1) : Nat) : Int))) (cond_ ((decide ((0 : Int) ≤ n1519)) && (decide (n1519 < (((List.length t1518.2.1) : Nat) : Int)))) (cond_ ((List.getD t1518.2.1 (Int.toNat n1519) (0 : Int)) != (0 : Int)) (k1 (IntKind.wrap .i64 ((IntKind.wrap .i64 ((1 : Int) + (((List.length (List.getD t1517.1 (Int.toNat n1519) (0, (0, ((⟨#[]⟩ : ByteArray), (0, ([], (0, (false, (0, (0, ([], ([], ([], ([], ())))))))))))))).2.2.2.2.2.2.2.2.2.2.1) : Nat) : Int))) + (1 : Int)))) (k1 (IntKind.wrap .i64 ((1 : Int) + (((List.length (List.getD t1517.1 (Int.toNat n1519) (0, (0, ((⟨#[]⟩ : ByteArray), (0, ([], (0, (false, (0, (0, ([], ([], ([], ([], ())))))))))))))).2.2.2.2.2.2.2.2.2.2.1) : Nat) : Int))))) none) (k1 (IntKind.wrap .i64 ((1 : Int) + (((List.length (List.getD t1517.1 (Int.toNat n1519) (0, (0, ((⟨#[]⟩ : ByteArray), (0, ([], (0, (false, (0, (0, ([], ([], ([], ([], ())))))))))))))).2.2.2.2.2.2.2.2.2.2.1) : Nat) : Int))))) none)))) (k1 (0 : Int)))
noncomputable def prologue_Size : T_prologue_Size := prologue_Size.body prologue_has
def prologue_Size.p : FPat := fp 21 (pl (pd Ty22) (pl (pd Ty6) (pl (pd (.int .i64)) pz))) pz
def prologue_Size.g (F : T_prologue_Size) (v : prologue_Size.p.T) (k : KR) : Option Bool := F v.1.1 v.1.2.1 v.1.2.2.1 (fun y0 => k (.d ⟨(.int .i64), y0⟩) [])
theorem prologue_Size.eq (F0 : T_prologue_has) : ∀ v k, exF Try.f21 prologue_Size.p [⟨prologue_has.p, prologue_has.g F0⟩] [] [] v k = prologue_Size.g (prologue_Size.body F0) v k := fun v k => by kernel_rfl
theorem prologue_Size.ok : okF 2 prologue_Size.p (prologue_Size.g prologue_Size) := fn2 (prologue_Size.eq prologue_has) Try.func21 (by kernel_rfl) (.cons prologue_has.ok .nil) [] (by kernel_rfl) .nil
/-- function 33: sheerleg/sheerlegref28.Kept -/
abbrev T_ref28_Kept : Type := Tc16 → Tc1 → Int → (Bool → Option Bool) → Option Bool
noncomputable def ref28_Kept.body : T_ref28_Kept := fun t1525 t1526 n1527 k1 =>
  (cond_ (decide (n1527 ≥ (0 : Int))) (cond_ (decide (n1527 < (((List.length t1525.1) : Nat) : Int))) (cond_ (decide (n1527 < (((List.length t1526.1) : Nat) : Int))) (cond_ ((decide ((0 : Int) ≤ n1527)) && (decide (n1527 < (((List.length t1526.1) : Nat) : Int)))) (k1 (List.getD t1526.1 (Int.toNat n1527) false)) none) (k1 false)) (k1 false)) (k1 false))
noncomputable def ref28_Kept : T_ref28_Kept := ref28_Kept.body
def ref28_Kept.p : FPat := fp 33 (pl (pd Ty22) (pl (pd Ty6) (pl (pd (.int .i64)) pz))) pz
def ref28_Kept.g (F : T_ref28_Kept) (v : ref28_Kept.p.T) (k : KR) : Option Bool := F v.1.1 v.1.2.1 v.1.2.2.1 (fun y0 => k (.d ⟨.bool, y0⟩) [])
theorem ref28_Kept.eq : ∀ v k, exF Try.f33 ref28_Kept.p [] [] [] v k = ref28_Kept.g (ref28_Kept.body) v k := fun v k => by kernel_rfl
theorem ref28_Kept.ok : okF 1 ref28_Kept.p (ref28_Kept.g ref28_Kept) := fn2 (ref28_Kept.eq) Try.func33 (by kernel_rfl) .nil [] (by kernel_rfl) .nil
/-- function 34: sheerleg/sheerlegref28.Check -/
abbrev T_ref28_Check : Type := Tc1 → Int → (Int → Option Bool) → Option Bool
noncomputable def ref28_Check.body : T_ref28_Check := fun t1529 n1530 k1 =>
  (cond_ (! (decide (n1530 < (0 : Int)))) (cond_ (decide (n1530 ≥ (((List.length t1529.2.1) : Nat) : Int))) (k1 (0 : Int)) (cond_ ((decide ((0 : Int) ≤ n1530)) && (decide (n1530 < (((List.length t1529.2.1) : Nat) : Int)))) (k1 (List.getD t1529.2.1 (Int.toNat n1530) (0 : Int))) none)) (k1 (0 : Int)))
noncomputable def ref28_Check : T_ref28_Check := ref28_Check.body
def ref28_Check.p : FPat := fp 34 (pl (pd Ty6) (pl (pd (.int .i64)) pz)) pz
def ref28_Check.g (F : T_ref28_Check) (v : ref28_Check.p.T) (k : KR) : Option Bool := F v.1.1 v.1.2.1 (fun y0 => k (.d ⟨(.int .i64), y0⟩) [])
theorem ref28_Check.eq : ∀ v k, exF Try.f34 ref28_Check.p [] [] [] v k = ref28_Check.g (ref28_Check.body) v k := fun v k => by kernel_rfl
theorem ref28_Check.ok : okF 1 ref28_Check.p (ref28_Check.g ref28_Check) := fn2 (ref28_Check.eq) Try.func34 (by kernel_rfl) .nil [] (by kernel_rfl) .nil
/-- function 22: sheerleg/sheerlegref28.Size -/
abbrev T_ref28_Size : Type := Tc16 → Tc1 → Int → (Int → Option Bool) → Option Bool
noncomputable def ref28_Size.body (ref28_Kept : T_ref28_Kept) (ref28_Check : T_ref28_Check) : T_ref28_Size := fun t1522 t1523 n1524 k1 =>
  (ref28_Kept t1522 t1523 n1524
  (fun b1528 => (cond_ (! b1528) (k1 (0 : Int)) (cond_ ((decide ((0 : Int) ≤ n1524)) && (decide (n1524 < (((List.length t1522.1) : Nat) : Int)))) (ref28_Check t1523 n1524
  (fun n1531 => (cond_ (n1531 != (0 : Int)) (k1 (IntKind.wrap .i64 ((IntKind.wrap .i64 ((1 : Int) + (((List.length (List.getD t1522.1 (Int.toNat n1524) (0, (0, ((⟨#[]⟩ : ByteArray), (0, ([], (0, (false, (0, (0, ([], ([], ([], ([], ())))))))))))))).2.2.2.2.2.2.2.2.2.2.1) : Nat) : Int))) + (1 : Int)))) (k1 (IntKind.wrap .i64 ((1 : Int) + (((List.length (List.getD t1522.1 (Int.toNat n1524) (0, (0, ((⟨#[]⟩ : ByteArray), (0, ([], (0, (false, (0, (0, ([], ([], ([], ([], ())))))))))))))).2.2.2.2.2.2.2.2.2.2.1) : Nat) : Int))))))) none))))
noncomputable def ref28_Size : T_ref28_Size := ref28_Size.body ref28_Kept ref28_Check
def ref28_Size.p : FPat := fp 22 (pl (pd Ty22) (pl (pd Ty6) (pl (pd (.int .i64)) pz))) pz
def ref28_Size.g (F : T_ref28_Size) (v : ref28_Size.p.T) (k : KR) : Option Bool := F v.1.1 v.1.2.1 v.1.2.2.1 (fun y0 => k (.d ⟨(.int .i64), y0⟩) [])
theorem ref28_Size.eq (F0 : T_ref28_Kept) (F1 : T_ref28_Check) : ∀ v k, exF Try.f22 ref28_Size.p [⟨ref28_Kept.p, ref28_Kept.g F0⟩, ⟨ref28_Check.p, ref28_Check.g F1⟩] [] [] v k = ref28_Size.g (ref28_Size.body F0 F1) v k := fun v k => by kernel_rfl
theorem ref28_Size.ok : okF 2 ref28_Size.p (ref28_Size.g ref28_Size) := fn2 (ref28_Size.eq ref28_Kept ref28_Check) Try.func22 (by kernel_rfl) (.cons ref28_Kept.ok (.cons ref28_Check.ok .nil)) [] (by kernel_rfl) .nil
/-- function 4: sheerleg/sheerleglaw28.ProloguePlans -/
abbrev T_law28_ProloguePlans : Type := Tc15 → (List Bool) → (List Bool) → Tc1 → Int → (Bool → Option Bool) → Option Bool
noncomputable def law28_ProloguePlans.body (ref24_Few : T_ref24_Few) (law28_known : T_law28_known) (ref24_Bind : T_ref24_Bind) (ref25_Few : T_ref25_Few) (prologue_Full : T_prologue_Full) (ref28_Full : T_ref28_Full) (ref28_Same : T_ref28_Same) (prologue_Lean : T_prologue_Lean) (ref28_Lean : T_ref28_Lean) (prologue_Size : T_prologue_Size) (ref28_Size : T_ref28_Size) : T_law28_ProloguePlans := fun ts1471 bs1472 bs1473 t1474 n1475 k1 =>
  (ref24_Few ts1471
  (fun b1476 => (cond_ (! (! b1476)) (cond_ (! (decide ((List.length bs1472 : Int) > (60 : Int)))) (cond_ (! (decide ((List.length bs1473 : Int) > (60 : Int)))) (cond_ (! (decide ((((List.length t1474.1) : Nat) : Int) > (60 : Int)))) (cond_ (decide ((((List.length t1474.2.1) : Nat) : Int) > (60 : Int))) (law28_known
  (fun b1477 => (k1 b1477))) (ref24_Bind ts1471 (⟨#[109, 97, 105, 110]⟩ : ByteArray)
  (fun t1478 t1479 => (ref25_Few (t1478.1, (t1478.2.1, (t1478.2.2.1, ())))
  (fun b1480 => (cond_ (! b1480) (law28_known
  (fun b1481 => (k1 b1481))) (prologue_Full (t1478.1, (t1478.2.1, (t1478.2.2.1, ())))
  (fun bs1482 ns1483 => (ref28_Full (t1478.1, (t1478.2.1, (t1478.2.2.1, ())))
  (fun bs1484 ns1485 => (ref28_Same bs1482 ns1483 bs1484 ns1485
  (fun b1486 => (cond_ b1486 (prologue_Lean (t1478.1, (t1478.2.1, (t1478.2.2.1, ()))) bs1472 bs1473
  (fun bs1487 ns1488 => (ref28_Lean (t1478.1, (t1478.2.1, (t1478.2.2.1, ()))) bs1472 bs1473
  (fun bs1514 ns1515 => (ref28_Same bs1487 ns1488 bs1514 ns1515
  (fun b1516 => (cond_ b1516 (prologue_Size (t1478.1, (t1478.2.1, (t1478.2.2.1, ()))) t1474 n1475
  (fun n1521 => (ref28_Size (t1478.1, (t1478.2.1, (t1478.2.2.1, ()))) t1474 n1475
  (fun n1532 => (cond_ (n1521 == n1532) (law28_known
  (fun b1533 => (k1 b1533))) (k1 false)))))) (k1 false)))))))) (k1 false)))))))))))))) (law28_known
  (fun b1534 => (k1 b1534)))) (law28_known
  (fun b1535 => (k1 b1535)))) (law28_known
  (fun b1536 => (k1 b1536)))) (law28_known
  (fun b1537 => (k1 b1537))))))
noncomputable def law28_ProloguePlans : T_law28_ProloguePlans := law28_ProloguePlans.body ref24_Few law28_known ref24_Bind ref25_Few prologue_Full ref28_Full ref28_Same prologue_Lean ref28_Lean prologue_Size ref28_Size
def law28_ProloguePlans.p : FPat := fp 4 (pl (pb 0 56 Ty21) (pl (pb 0 4 .bool) (pl (pb 0 4 .bool) (pl (pd Ty6) (pl (pd (.int .i64)) pz))))) pz
def law28_ProloguePlans.g (F : T_law28_ProloguePlans) (v : law28_ProloguePlans.p.T) (k : KR) : Option Bool := F v.1.1 v.1.2.1 v.1.2.2.1 v.1.2.2.2.1 v.1.2.2.2.2.1 (fun y0 => k (.d ⟨.bool, y0⟩) [])
theorem law28_ProloguePlans.eq (F0 : T_ref24_Few) (F1 : T_law28_known) (F2 : T_ref24_Bind) (F3 : T_ref25_Few) (F4 : T_prologue_Full) (F5 : T_ref28_Full) (F6 : T_ref28_Same) (F7 : T_prologue_Lean) (F8 : T_ref28_Lean) (F9 : T_prologue_Size) (F10 : T_ref28_Size) : ∀ v k, exF Try.f4 law28_ProloguePlans.p [⟨ref24_Few.p, ref24_Few.g F0⟩, ⟨law28_known.p, law28_known.g F1⟩, ⟨ref24_Bind.p, ref24_Bind.g F2⟩, ⟨ref25_Few.p, ref25_Few.g F3⟩, ⟨prologue_Full.p, prologue_Full.g F4⟩, ⟨ref28_Full.p, ref28_Full.g F5⟩, ⟨ref28_Same.p, ref28_Same.g F6⟩, ⟨prologue_Lean.p, prologue_Lean.g F7⟩, ⟨ref28_Lean.p, ref28_Lean.g F8⟩, ⟨prologue_Size.p, prologue_Size.g F9⟩, ⟨ref28_Size.p, ref28_Size.g F10⟩] [] [] v k = law28_ProloguePlans.g (law28_ProloguePlans.body F0 F1 F2 F3 F4 F5 F6 F7 F8 F9 F10) v k := fun v k => by kernel_rfl
theorem law28_ProloguePlans.ok : okF 61 law28_ProloguePlans.p (law28_ProloguePlans.g law28_ProloguePlans) := fn2 (law28_ProloguePlans.eq ref24_Few law28_known ref24_Bind ref25_Few prologue_Full ref28_Full ref28_Same prologue_Lean ref28_Lean prologue_Size ref28_Size) Try.func4 (by kernel_rfl) (.cons ref24_Few.ok (.cons law28_known.ok (.cons ref24_Bind.ok (.cons ref25_Few.ok (.cons prologue_Full.ok (.cons ref28_Full.ok (.cons ref28_Same.ok (.cons prologue_Lean.ok (.cons ref28_Lean.ok (.cons prologue_Size.ok (.cons ref28_Size.ok .nil))))))))))) [] (by kernel_rfl) .nil
-- LAWROW law28_ProloguePlans | 4 | 61 | (.sl 56 Ty21) ¦ Ty0 ¦ Ty0 ¦ Ty6 ¦ (.int .i64)
end Go.Proofs.Ytdbfpplnenocjaa.g
