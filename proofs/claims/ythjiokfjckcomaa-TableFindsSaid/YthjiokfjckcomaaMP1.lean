/- What the functions come to that P reaches, as plain functions; written by a program of this work, each told by Lean. -/
import Derived.Test.YthjiokfjckcomaaA3
import Derived.Test.YthjiokfjckcomaaChecked
namespace Go.Proofs.Ythjiokfjckcomaa.p
open Go.AX
set_option linter.unusedVariables false
set_option maxRecDepth 100000
set_option maxHeartbeats 4000000
def ht : Hints := hintsOf [(4, [(0, ⟨[3, 5, 7, 8, 9], []⟩), (2000000, ⟨[4], []⟩), (1000000, ⟨[], []⟩)]),
  (18, [(0, ⟨[1, 2, 3, 7], []⟩), (2000000, ⟨[6], []⟩), (1000000, ⟨[], []⟩)]),
  (26, [(0, ⟨[0, 1, 7, 8], []⟩), (2000000, ⟨[4], []⟩), (1000000, ⟨[], []⟩)]),
  (17, [(0, ⟨[0, 1, 4, 6, 7, 8], []⟩), (2000000, ⟨[4, 5], []⟩), (1000000, ⟨[4, 6, 7], []⟩)]),
  (15, [(0, ⟨[2, 3, 5, 6], [(.virt 5 52 6)]⟩), (2000000, ⟨[4], []⟩), (1000000, ⟨[5], []⟩)]),
  (33, [(0, ⟨[2, 3, 4, 7, 8], []⟩), (2000000, ⟨[6], []⟩), (1000000, ⟨[7], []⟩)]),
  (12, [(0, ⟨[0, 1, 5], []⟩), (2000000, ⟨[4], []⟩), (1000000, ⟨[], []⟩)]),
  (32, [(0, ⟨[0, 3, 4], [(.virt 3 73 5)]⟩), (2000000, ⟨[2], []⟩), (1000000, ⟨[3], []⟩)]),
  (31, [(0, ⟨[3, 7, 8, 9], [(.virt 3 73 5)]⟩), (2000000, ⟨[2], []⟩), (1000000, ⟨[3], []⟩)]),
  (9, [(0, ⟨[0, 1, 5], []⟩), (2000000, ⟨[4], []⟩), (1000000, ⟨[], []⟩)]),
  (11, [(0, ⟨[2, 3, 5, 6, 7], []⟩), (2, ⟨[2, 3, 5, 6, 7, 8, 9], []⟩), (4, ⟨[2, 3, 5, 6, 7, 8, 10], []⟩), (2000000, ⟨[4], []⟩), (1000002, ⟨[2, 3, 5, 6, 7, 8], []⟩), (1000004, ⟨[2, 3, 5, 6, 7], []⟩), (1000001, ⟨[2, 3, 5, 6, 7], []⟩), (1000000, ⟨[5], []⟩)]),
  (21, [(0, ⟨[1, 2, 5, 6], []⟩), (2000000, ⟨[4], []⟩), (1000000, ⟨[5], []⟩)]),
  (10, [(2000000, ⟨[4], []⟩), (1000000, ⟨[5], []⟩)]),
  (41, [(0, ⟨[0, 1, 2, 4, 21, 22, 23], []⟩), (2, ⟨[0, 1, 2, 4, 6, 21, 22, 23, 41, 42], []⟩), (4, ⟨[0, 1, 2, 4, 6, 8, 21, 22, 23, 56, 57], []⟩), (2000000, ⟨[], []⟩), (1000002, ⟨[0, 1, 2, 4, 6, 21, 22, 23], []⟩), (1000004, ⟨[0, 1, 2, 4, 21, 22, 23], []⟩), (1000001, ⟨[0, 1, 2, 4, 21, 22, 23], []⟩), (1000000, ⟨[], []⟩)]),
  (45, [(0, ⟨[1, 5, 9, 10, 11], []⟩), (2000000, ⟨[4], []⟩), (1000000, ⟨[5], []⟩)]),
  (8, [(0, ⟨[0, 1, 7], []⟩), (2000000, ⟨[4, 5, 6], []⟩), (1000000, ⟨[], []⟩)]),
  (5, [(2000000, ⟨[4, 5], [(.giveP 4)]⟩)]),
  (24, [(0, ⟨[1, 3], []⟩), (2, ⟨[1, 4], []⟩), (2000000, ⟨[2], []⟩), (1000000, ⟨[1], []⟩), (1000002, ⟨[1], []⟩)]),
  (23, [(0, ⟨[0, 1, 4, 5, 6], []⟩), (2000000, ⟨[4, 5], [(.giveP 4)]⟩), (1000000, ⟨[0, 1, 4, 5], []⟩)]),
  (39, [(0, ⟨[0, 2, 3, 4], [(.virtP 3 0 59 13), (.virtP 3 1 103 7)]⟩), (2, ⟨[0, 2, 3, 4, 5, 6], [(.virtP 3 0 59 13)]⟩), (4, ⟨[0, 2, 3, 4, 5, 6, 7, 8], [(.virt 7 3 1)]⟩), (6, ⟨[0, 2, 3, 4, 5, 9], [(.virtP 3 1 103 7)]⟩), (2000000, ⟨[2], []⟩), (1000004, ⟨[0, 2, 3, 4, 5, 6, 7], []⟩), (1000003, ⟨[0, 2, 3, 4, 5, 6], []⟩), (1000002, ⟨[0, 2, 3, 4, 5], []⟩), (1000006, ⟨[0, 2, 3, 4], []⟩), (1000001, ⟨[0, 2, 3, 4], []⟩), (1000000, ⟨[2, 3], []⟩)]),
  (58, [(0, ⟨[1, 3, 4], []⟩), (2000000, ⟨[2], []⟩), (1000000, ⟨[3], []⟩)]),
  (68, [(0, ⟨[0, 1, 5, 6], [(.virt 5 3 1)]⟩), (2, ⟨[0, 1, 5, 6, 7, 8], []⟩), (2000000, ⟨[4], []⟩), (1000002, ⟨[0, 1, 5, 6, 7], []⟩), (1000001, ⟨[0, 1, 5, 6], []⟩), (1000000, ⟨[5], []⟩)]),
  (57, [(0, ⟨[0, 1, 2, 7, 8], [(.virt 7 3 1)]⟩), (2000000, ⟨[6], []⟩), (1000000, ⟨[7], []⟩)]),
  (40, [(0, ⟨[0, 7, 10, 11, 12], []⟩), (2000000, ⟨[6], []⟩), (1000000, ⟨[11], []⟩)]),
  (37, [(0, ⟨[0, 2, 5], []⟩), (2, ⟨[0, 2, 5, 6], []⟩), (2000000, ⟨[2], []⟩), (1000002, ⟨[0, 2, 5], []⟩), (1000001, ⟨[0, 2, 5], []⟩), (1000000, ⟨[2], []⟩)]),
  (52, [(0, ⟨[0, 2, 4], []⟩), (2, ⟨[0, 2, 4, 5], []⟩), (2000000, ⟨[2, 3], []⟩), (1000002, ⟨[0, 2, 4], []⟩), (1000001, ⟨[0, 2, 4], []⟩), (1000000, ⟨[2], []⟩)]),
  (38, [(0, ⟨[0, 1, 7], []⟩), (2, ⟨[0, 1, 7, 8], []⟩), (2000000, ⟨[4, 5, 6], []⟩), (1000002, ⟨[0, 1, 7], []⟩), (1000001, ⟨[0, 1, 7], []⟩), (1000000, ⟨[], []⟩)]),
  (36, [(0, ⟨[1, 4], []⟩), (2, ⟨[1, 6], []⟩), (2000000, ⟨[2, 3], []⟩), (1000000, ⟨[1], []⟩), (1000002, ⟨[], []⟩)]),
  (67, [(0, ⟨[1, 3, 4], []⟩), (2000000, ⟨[2], []⟩), (1000000, ⟨[], []⟩)]),
  (75, [(0, ⟨[0, 1, 5, 6], [(.virt 5 3 1)]⟩), (2000000, ⟨[4], []⟩), (1000000, ⟨[0, 5], []⟩)]),
  (86, [(0, ⟨[0, 1, 5, 6], []⟩), (2, ⟨[0, 5, 7], []⟩), (4, ⟨[0, 5, 7, 8], []⟩), (6, ⟨[0, 5, 7, 8, 9], []⟩), (2000000, ⟨[4], []⟩), (1000000, ⟨[0, 5], []⟩), (1000006, ⟨[0, 5, 7, 8], []⟩), (1000005, ⟨[0, 5, 7, 8], []⟩), (1000004, ⟨[0, 5, 7], []⟩), (1000003, ⟨[0, 5, 7], []⟩), (1000002, ⟨[5], []⟩)]),
  (87, [(0, ⟨[0, 3, 4], [(.virt 3 24 1)]⟩), (2000000, ⟨[2], []⟩), (1000000, ⟨[3], []⟩)]),
  (76, [(0, ⟨[0, 3, 4], [(.virt 3 3 1)]⟩), (2000000, ⟨[2], []⟩), (1000000, ⟨[3], []⟩)]),
  (66, [(0, ⟨[1, 2, 7], []⟩), (2000000, ⟨[4, 5], []⟩), (1000000, ⟨[], []⟩)]),
  (74, [(0, ⟨[3, 7, 8, 10, 11], []⟩), (2000000, ⟨[6], []⟩), (1000000, ⟨[], []⟩)]),
  (97, [(0, ⟨[1, 3, 7, 8], []⟩), (2000000, ⟨[6], []⟩), (1000000, ⟨[], []⟩)]),
  (55, [(0, ⟨[1, 2, 5], []⟩), (2000000, ⟨[4], []⟩), (1000000, ⟨[], []⟩)]),
  (93, [(0, ⟨[1, 2, 5], []⟩), (2000000, ⟨[4], []⟩), (1000000, ⟨[], []⟩)]),
  (73, [(0, ⟨[1, 6], []⟩), (2000000, ⟨[2], []⟩), (1000000, ⟨[], []⟩)]),
  (79, [(0, ⟨[1, 3], []⟩), (2000000, ⟨[2], []⟩), (1000000, ⟨[], []⟩)]),
  (78, [(0, ⟨[1, 4], []⟩), (2000000, ⟨[2], []⟩), (1000000, ⟨[], []⟩)]),
  (90, [(0, ⟨[1, 3], []⟩), (2, ⟨[1, 4, 5], []⟩), (2000000, ⟨[2], []⟩), (1000000, ⟨[1], []⟩), (1000002, ⟨[], []⟩)]),
  (89, [(0, ⟨[0, 3], []⟩), (2, ⟨[0, 3, 4, 5], []⟩), (2000000, ⟨[2], []⟩), (1000002, ⟨[0, 3], []⟩), (1000001, ⟨[0, 3], []⟩), (1000000, ⟨[], []⟩)]),
  (77, [(0, ⟨[1, 3], []⟩), (2000000, ⟨[2], []⟩), (1000000, ⟨[], []⟩)]),
  (65, [(0, ⟨[1, 2, 5], []⟩), (2, ⟨[1, 2, 6], []⟩), (2000000, ⟨[4], []⟩), (1000000, ⟨[1, 2], []⟩), (1000002, ⟨[], []⟩)]),
  (64, [(0, ⟨[1, 2, 5], []⟩), (2000000, ⟨[4], []⟩), (1000000, ⟨[], []⟩)]),
  (49, [(0, ⟨[1, 2, 5, 7], []⟩), (2, ⟨[1, 2, 5, 8, 9, 10], []⟩), (2000000, ⟨[4], []⟩), (1000000, ⟨[1, 2, 5], []⟩), (1000002, ⟨[5, 8, 9], []⟩)]),
  (71, [(0, ⟨[0, 3, 4], []⟩), (2000000, ⟨[2], []⟩), (1000000, ⟨[0, 3], []⟩)]),
  (61, [(0, ⟨[0, 3], []⟩), (2000000, ⟨[2], []⟩), (1000000, ⟨[], []⟩)]),
  (22, [(0, ⟨[0, 3], []⟩), (2000000, ⟨[2], []⟩), (1000000, ⟨[0], []⟩)]),
  (35, [(0, ⟨[1, 3], []⟩), (2, ⟨[1, 4], []⟩), (4, ⟨[1, 5], []⟩), (2000000, ⟨[2], []⟩), (1000000, ⟨[1], []⟩), (1000002, ⟨[1], []⟩), (1000004, ⟨[1], []⟩)])]
abbrev okF := FnOk Try.prog ht
abbrev okL := LoopOk Try.prog ht
noncomputable abbrev exF := execF Try.prog ht
noncomputable abbrev exR := execR Try.prog ht
noncomputable abbrev exB := execB Try.prog ht
abbrev Tc0 : Type := Int × Int × Bool × Int × Unit
abbrev Tc1 : Type := List (Int × Int × Bool × Unit)
abbrev Tc2 : Type := (List Bool) × (List Int) × Unit
abbrev Tc3 : Type := Int × Int × Int × Int × Int × Unit
abbrev Tc4 : Type := Int × Int × Int × Bool × Int × Unit
abbrev Tc5 : Type := List Tc0
abbrev Tc6 : Type := Int × Int × Int × Int × Int × Int × Unit
abbrev Tc7 : Type := ByteArray × Bool × Int × Int × Int × Unit
abbrev Tc8 : Type := List Tc3
abbrev Tc9 : Type := List Tc4
abbrev Tc10 : Type := List Tc6
abbrev Tc11 : Type := List Tc7
abbrev Tc12 : Type := Int × (List Int) × Tc1 × Unit
abbrev Tc13 : Type := List Tc12
abbrev Tc14 : Type := Int × Int × ByteArray × Int × (List Int) × Tc1 × (List Int) × Unit
abbrev Tc15 : Type := List Tc14
abbrev Tc16 : Type := Int × (List Int) × Int × Bool × Int × Int × (List (Int × Int × Unit)) × Tc8 × Tc1 × Unit
abbrev Tc17 : Type := List Tc16
abbrev Tc18 : Type := Int × Int × ByteArray × Int × (List Int) × Int × Bool × Int × Int × (List (Int × Int × Unit)) × Tc8 × Tc1 × (List Int) × Unit
abbrev Tc19 : Type := List Tc18
abbrev Tc20 : Type := Tc11 × Tc17 × Tc13 × Unit
abbrev Tc21 : Type := List Tc20
abbrev Tc22 : Type := Tc19 × Tc15 × Int × Unit
abbrev Ty0 : Ty := (.sl 4 .bool)
abbrev Ty1 : Ty := (.sl 3 (.int .i64))
abbrev Ty2 : Ty := (.sl 2 (.int .i64))
abbrev Ty3 : Ty := (.st [(.int .i64), (.int .i64)])
abbrev Ty4 : Ty := (.st [(.int .i64), (.int .i64), .bool])
abbrev Ty5 : Ty := (.sl 84 Ty3)
abbrev Ty6 : Ty := (.st [Ty0, Ty1])
abbrev Ty7 : Ty := (.st [(.int .i64), (.int .i64), (.int .i64)])
abbrev Ty8 : Ty := (.sl 107 Ty4)
abbrev Ty9 : Ty := (.st [(.int .i64), (.int .i64), .bool, (.int .i64)])
abbrev Ty10 : Ty := (.st [.str, .bool, (.int .i64), (.int .i64), (.int .i64)])
abbrev Ty11 : Ty := (.st [(.int .i64), (.int .i64), (.int .i64), .bool, (.int .i64)])
abbrev Ty12 : Ty := (.sl 96 Ty10)
abbrev Ty13 : Ty := (.st [(.int .i64), (.int .i64), (.int .i64), (.int .i64), (.int .i64)])
abbrev Ty14 : Ty := (.sl 105 Ty13)
abbrev Ty15 : Ty := (.st [(.int .i64), (.int .i64), (.int .i64), (.int .i64), (.int .i64), (.int .i64)])
abbrev Ty16 : Ty := (.st [(.int .i64), Ty2, Ty8])
abbrev Ty17 : Ty := (.sl 101 Ty16)
abbrev Ty18 : Ty := (.st [(.int .i64), (.int .i64), .str, (.int .i64), Ty2, Ty8, Ty1])
abbrev Ty19 : Ty := (.sl 103 Ty18)
abbrev Ty20 : Ty := (.st [(.int .i64), Ty1, (.int .i64), .bool, (.int .i64), (.int .i64), Ty5, Ty14, Ty8])
abbrev Ty21 : Ty := (.sl 57 Ty20)
abbrev Ty22 : Ty := (.st [(.int .i64), (.int .i64), .str, (.int .i64), Ty1, (.int .i64), .bool, (.int .i64), (.int .i64), Ty5, Ty14, Ty8, Ty1])
abbrev Ty23 : Ty := (.sl 59 Ty22)
abbrev Ty24 : Ty := (.st [Ty12, Ty21, Ty17])
abbrev Ty25 : Ty := (.sl 90 Ty24)
abbrev Ty26 : Ty := (.st [Ty23, Ty19, (.int .i64)])
/-- function 35: the loop in block 0 -/
abbrev T_ref19_Few_L0 : Type := Int → Tc20 → (Bool → Option Bool) → (Tc20 → Option Bool) → Option Bool
noncomputable def ref19_Few_L0.body (ref19_Few_L0 : T_ref19_Few_L0) : T_ref19_Few_L0 := fun n10 t11 k1 k2 =>
  (cond_ (decide (n10 < (((List.length t11.1) : Nat) : Int))) (cond_ ((decide ((0 : Int) ≤ n10)) && (decide (n10 < (((List.length t11.1) : Nat) : Int)))) (cond_ (decide ((((ByteArray.size (List.getD t11.1 (Int.toNat n10) ((⟨#[]⟩ : ByteArray), (false, (0, (0, (0, ())))))).1) : Nat) : Int) > (300 : Int))) (k1 false) (ref19_Few_L0 (IntKind.wrap .i64 (n10 + (1 : Int))) t11 k1 k2)) none) (k2 t11))
noncomputable def ref19_Few_L0 : Nat → T_ref19_Few_L0
  | 0 => fun _ _ _ _ => none
  | n + 1 => ref19_Few_L0.body (ref19_Few_L0 n)
def ref19_Few_L0.p : LPat := lp 2 61 [1, 3] (ps (pq [1, 0] 0 0) (pl (pd (.int .i64)) pz)) (pl (po [1, 0] 90 3 (es Ty24 (pl eh pz))) pz)
def ref19_Few_L0.g (F : T_ref19_Few_L0) (v : ref19_Few_L0.p.T) (k : KE) : Option Bool := F v.1.1 v.2.1.1 (fun y0 => k .ret ⟨fillS 61 [2] [(.d ⟨.bool, y0⟩)], [], 2⟩) (fun y0 => k (.exit 0) ⟨fillS 61 [1] [(.ptr [1, 0] 0 0)], [([1, 0], ⟨90, 3, (.data Ty24 [y0])⟩)], 2⟩)
theorem ref19_Few_L0.step (S : T_ref19_Few_L0) : ∀ v k, exR 35 Try.f35 0 ref19_Few_L0.p [] [] [] (ref19_Few_L0.g S) v k = ref19_Few_L0.g (ref19_Few_L0.body S) v k := fun v k => by kernel_rfl
theorem ref19_Few_L0.ok : okL 35 Try.f35 0 0 ref19_Few_L0.p (ref19_Few_L0.g (ref19_Few_L0 ROUNDS)) := loop2 (G := fun n => ref19_Few_L0.g (ref19_Few_L0 n)) (fun n => ref19_Few_L0.step (ref19_Few_L0 n)) .nil [] (by kernel_rfl) .nil (fun _ _ => rfl)
/-- function 47: sheerleg/sheerlegref16.Few -/
abbrev T_ref16_Few : Type := Tc16 → (Bool → Option Bool) → Option Bool
noncomputable def ref16_Few.body : T_ref16_Few := fun t16 k1 =>
  (cond_ (decide ((((List.length t16.2.1) : Nat) : Int) ≤ (100 : Int))) (cond_ (decide ((((List.length t16.2.2.2.2.2.2.1) : Nat) : Int) ≤ (100 : Int))) (cond_ (decide ((((List.length t16.2.2.2.2.2.2.2.1) : Nat) : Int) ≤ (100 : Int))) (k1 (decide ((((List.length t16.2.2.2.2.2.2.2.2.1) : Nat) : Int) ≤ (100 : Int)))) (k1 false)) (k1 false)) (k1 false))
noncomputable def ref16_Few : T_ref16_Few := ref16_Few.body
def ref16_Few.p : FPat := fp 47 (pl (pd Ty20) pz) pz
def ref16_Few.g (F : T_ref16_Few) (v : ref16_Few.p.T) (k : KR) : Option Bool := F v.1.1 (fun y0 => k (.d ⟨.bool, y0⟩) [])
theorem ref16_Few.eq : ∀ v k, exF Try.f47 ref16_Few.p [] [] [] v k = ref16_Few.g (ref16_Few.body) v k := fun v k => by kernel_rfl
theorem ref16_Few.ok : okF 1 ref16_Few.p (ref16_Few.g ref16_Few) := fn2 (ref16_Few.eq) Try.func47 (by kernel_rfl) .nil [] (by kernel_rfl) .nil
/-- function 35: the loop in block 2 -/
abbrev T_ref19_Few_L2 : Type := Int → Tc20 → (Bool → Option Bool) → (Tc20 → Option Bool) → Option Bool
noncomputable def ref19_Few_L2.body (ref19_Few_L2 : T_ref19_Few_L2) (ref16_Few : T_ref16_Few) : T_ref19_Few_L2 := fun n14 t15 k1 k2 =>
  (cond_ (decide (n14 < (((List.length t15.2.1) : Nat) : Int))) (cond_ (! (decide (n14 ≥ (20 : Int)))) (cond_ ((decide ((0 : Int) ≤ n14)) && (decide (n14 < (((List.length t15.2.1) : Nat) : Int)))) (ref16_Few (List.getD t15.2.1 (Int.toNat n14) (0, ([], (0, (false, (0, (0, ([], ([], ([], ()))))))))))
  (fun b17 => (cond_ (! b17) (k1 false) (ref19_Few_L2 (IntKind.wrap .i64 (n14 + (1 : Int))) t15 k1 k2)))) none) (k1 false)) (k2 t15))
noncomputable def ref19_Few_L2 : Nat → T_ref19_Few_L2
  | 0 => fun _ _ _ _ => none
  | n + 1 => ref19_Few_L2.body (ref19_Few_L2 n) ref16_Few
def ref19_Few_L2.p : LPat := lp 2 61 [1, 4] (ps (pq [1, 0] 0 0) (pl (pd (.int .i64)) pz)) (pl (po [1, 0] 90 3 (es Ty24 (pl eh pz))) pz)
def ref19_Few_L2.g (F : T_ref19_Few_L2) (v : ref19_Few_L2.p.T) (k : KE) : Option Bool := F v.1.1 v.2.1.1 (fun y0 => k .ret ⟨fillS 61 [2] [(.d ⟨.bool, y0⟩)], [], 2⟩) (fun y0 => k (.exit 2) ⟨fillS 61 [1] [(.ptr [1, 0] 0 0)], [([1, 0], ⟨90, 3, (.data Ty24 [y0])⟩)], 2⟩)
theorem ref19_Few_L2.step (S : T_ref19_Few_L2) (F0 : T_ref16_Few) : ∀ v k, exR 35 Try.f35 2 ref19_Few_L2.p [⟨ref16_Few.p, ref16_Few.g F0⟩] [] [] (ref19_Few_L2.g S) v k = ref19_Few_L2.g (ref19_Few_L2.body S F0) v k := fun v k => by kernel_rfl
theorem ref19_Few_L2.ok : okL 35 Try.f35 1 2 ref19_Few_L2.p (ref19_Few_L2.g (ref19_Few_L2 ROUNDS)) := loop2 (G := fun n => ref19_Few_L2.g (ref19_Few_L2 n)) (fun n => ref19_Few_L2.step (ref19_Few_L2 n) ref16_Few) (.cons ref16_Few.ok .nil) [] (by kernel_rfl) .nil (fun _ _ => rfl)
/-- function 48: sheerleg/sheerlegref15.Few -/
abbrev T_ref15_Few : Type := Tc12 → (Bool → Option Bool) → Option Bool
noncomputable def ref15_Few.body : T_ref15_Few := fun t22 k1 =>
  (cond_ (decide ((((List.length t22.2.1) : Nat) : Int) ≤ (100 : Int))) (k1 (decide ((((List.length t22.2.2.1) : Nat) : Int) ≤ (100 : Int)))) (k1 false))
noncomputable def ref15_Few : T_ref15_Few := ref15_Few.body
def ref15_Few.p : FPat := fp 48 (pl (pd Ty16) pz) pz
def ref15_Few.g (F : T_ref15_Few) (v : ref15_Few.p.T) (k : KR) : Option Bool := F v.1.1 (fun y0 => k (.d ⟨.bool, y0⟩) [])
theorem ref15_Few.eq : ∀ v k, exF Try.f48 ref15_Few.p [] [] [] v k = ref15_Few.g (ref15_Few.body) v k := fun v k => by kernel_rfl
theorem ref15_Few.ok : okF 1 ref15_Few.p (ref15_Few.g ref15_Few) := fn2 (ref15_Few.eq) Try.func48 (by kernel_rfl) .nil [] (by kernel_rfl) .nil
/-- function 35: the loop in block 4 -/
abbrev T_ref19_Few_L4 : Type := Int → Tc20 → (Bool → Option Bool) → (Tc20 → Option Bool) → Option Bool
noncomputable def ref19_Few_L4.body (ref19_Few_L4 : T_ref19_Few_L4) (ref15_Few : T_ref15_Few) : T_ref19_Few_L4 := fun n20 t21 k1 k2 =>
  (cond_ (decide (n20 < (((List.length t21.2.2.1) : Nat) : Int))) (cond_ (! (decide (n20 ≥ (20 : Int)))) (cond_ ((decide ((0 : Int) ≤ n20)) && (decide (n20 < (((List.length t21.2.2.1) : Nat) : Int)))) (ref15_Few (List.getD t21.2.2.1 (Int.toNat n20) (0, ([], ([], ()))))
  (fun b23 => (cond_ (! b23) (k1 false) (ref19_Few_L4 (IntKind.wrap .i64 (n20 + (1 : Int))) t21 k1 k2)))) none) (k1 false)) (k2 t21))
noncomputable def ref19_Few_L4 : Nat → T_ref19_Few_L4
  | 0 => fun _ _ _ _ => none
  | n + 1 => ref19_Few_L4.body (ref19_Few_L4 n) ref15_Few
def ref19_Few_L4.p : LPat := lp 2 61 [1, 5] (ps (pq [1, 0] 0 0) (pl (pd (.int .i64)) pz)) (pl (po [1, 0] 90 3 (es Ty24 (pl eh pz))) pz)
def ref19_Few_L4.g (F : T_ref19_Few_L4) (v : ref19_Few_L4.p.T) (k : KE) : Option Bool := F v.1.1 v.2.1.1 (fun y0 => k .ret ⟨fillS 61 [2] [(.d ⟨.bool, y0⟩)], [], 2⟩) (fun y0 => k (.exit 4) ⟨fillS 61 [1] [(.ptr [1, 0] 0 0)], [([1, 0], ⟨90, 3, (.data Ty24 [y0])⟩)], 2⟩)
theorem ref19_Few_L4.step (S : T_ref19_Few_L4) (F0 : T_ref15_Few) : ∀ v k, exR 35 Try.f35 4 ref19_Few_L4.p [⟨ref15_Few.p, ref15_Few.g F0⟩] [] [] (ref19_Few_L4.g S) v k = ref19_Few_L4.g (ref19_Few_L4.body S F0) v k := fun v k => by kernel_rfl
theorem ref19_Few_L4.ok : okL 35 Try.f35 1 4 ref19_Few_L4.p (ref19_Few_L4.g (ref19_Few_L4 ROUNDS)) := loop2 (G := fun n => ref19_Few_L4.g (ref19_Few_L4 n)) (fun n => ref19_Few_L4.step (ref19_Few_L4 n) ref15_Few) (.cons ref15_Few.ok .nil) [] (by kernel_rfl) .nil (fun _ _ => rfl)
/-- function 35: sheerleg/sheerlegref19.Few -/
abbrev T_ref19_Few : Type := Tc20 → (Bool → Option Bool) → Option Bool
noncomputable def ref19_Few.body (ref19_Few_L0 : T_ref19_Few_L0) (ref19_Few_L2 : T_ref19_Few_L2) (ref19_Few_L4 : T_ref19_Few_L4) : T_ref19_Few := fun t9 k1 =>
  (ref19_Few_L0 (0 : Int) t9
  (fun b12 => (k1 b12))
  (fun t13 => (ref19_Few_L2 (0 : Int) t13
  (fun b18 => (k1 b18))
  (fun t19 => (ref19_Few_L4 (0 : Int) t19
  (fun b24 => (k1 b24))
  (fun t25 => (k1 (decide ((((List.length t25.1) : Nat) : Int) ≤ (60 : Int))))))))))
noncomputable def ref19_Few : T_ref19_Few := ref19_Few.body (ref19_Few_L0 ROUNDS) (ref19_Few_L2 ROUNDS) (ref19_Few_L4 ROUNDS)
def ref19_Few.p : FPat := fp 35 (pl (pd Ty24) pz) pz
def ref19_Few.g (F : T_ref19_Few) (v : ref19_Few.p.T) (k : KR) : Option Bool := F v.1.1 (fun y0 => k (.d ⟨.bool, y0⟩) [])
theorem ref19_Few.eq (L0 : T_ref19_Few_L0) (L1 : T_ref19_Few_L2) (L2 : T_ref19_Few_L4) : ∀ v k, exF Try.f35 ref19_Few.p [] [] [⟨0, ref19_Few_L0.p, ref19_Few_L0.g L0⟩, ⟨2, ref19_Few_L2.p, ref19_Few_L2.g L1⟩, ⟨4, ref19_Few_L4.p, ref19_Few_L4.g L2⟩] v k = ref19_Few.g (ref19_Few.body L0 L1 L2) v k := fun v k => by kernel_rfl
theorem ref19_Few.ok : okF 2 ref19_Few.p (ref19_Few.g ref19_Few) := fn2 (ref19_Few.eq (ref19_Few_L0 ROUNDS) (ref19_Few_L2 ROUNDS) (ref19_Few_L4 ROUNDS)) Try.func35 (by kernel_rfl) .nil [0, 2, 4] (by kernel_rfl) (.cons ref19_Few_L0.ok (.cons ref19_Few_L2.ok (.cons ref19_Few_L4.ok .nil)))
/-- function 22: the loop in block 0 -/
abbrev T_ref24_Few_L0 : Type := Tc21 → Int → (Bool → Option Bool) → (Tc21 → Option Bool) → Option Bool
noncomputable def ref24_Few_L0.body (ref24_Few_L0 : T_ref24_Few_L0) (ref19_Few : T_ref19_Few) : T_ref24_Few_L0 := fun ts7 n8 k1 k2 =>
  (cond_ (decide (n8 < (List.length ts7 : Int))) (cond_ ((decide ((0 : Int) ≤ n8)) && (decide (n8 < (List.length ts7 : Int)))) (ref19_Few (List.getD ts7 (Int.toNat n8) ([], ([], ([], ()))))
  (fun b26 => (cond_ (! b26) (k1 false) (ref24_Few_L0 ts7 (IntKind.wrap .i64 (n8 + (1 : Int))) k1 k2)))) none) (k2 ts7))
noncomputable def ref24_Few_L0 : Nat → T_ref24_Few_L0
  | 0 => fun _ _ _ _ => none
  | n + 1 => ref24_Few_L0.body (ref24_Few_L0 n) ref19_Few
def ref24_Few_L0.p : LPat := lp 2 19 [0, 3] (pl (pb 0 90 Ty24) (pl (pd (.int .i64)) pz)) pz
def ref24_Few_L0.g (F : T_ref24_Few_L0) (v : ref24_Few_L0.p.T) (k : KE) : Option Bool := F v.1.1 v.1.2.1 (fun y0 => k .ret ⟨fillS 19 [2] [(.d ⟨.bool, y0⟩)], [], 2⟩) (fun y0 => k (.exit 0) ⟨fillS 19 [0] [(.bv 0 90 Ty24 y0)], [], 2⟩)
theorem ref24_Few_L0.step (S : T_ref24_Few_L0) (F0 : T_ref19_Few) : ∀ v k, exR 22 Try.f22 0 ref24_Few_L0.p [⟨ref19_Few.p, ref19_Few.g F0⟩] [] [] (ref24_Few_L0.g S) v k = ref24_Few_L0.g (ref24_Few_L0.body S F0) v k := fun v k => by kernel_rfl
theorem ref24_Few_L0.ok : okL 22 Try.f22 2 0 ref24_Few_L0.p (ref24_Few_L0.g (ref24_Few_L0 ROUNDS)) := loop2 (G := fun n => ref24_Few_L0.g (ref24_Few_L0 n)) (fun n => ref24_Few_L0.step (ref24_Few_L0 n) ref19_Few) (.cons ref19_Few.ok .nil) [] (by kernel_rfl) .nil (fun _ _ => rfl)
/-- function 22: sheerleg/sheerlegref24.Few -/
abbrev T_ref24_Few : Type := Tc21 → (Bool → Option Bool) → Option Bool
noncomputable def ref24_Few.body (ref24_Few_L0 : T_ref24_Few_L0) : T_ref24_Few := fun ts6 k1 =>
  (ref24_Few_L0 ts6 (0 : Int)
  (fun b27 => (k1 b27))
  (fun ts28 => (k1 (decide ((List.length ts28 : Int) ≤ (9 : Int))))))
noncomputable def ref24_Few : T_ref24_Few := ref24_Few.body (ref24_Few_L0 ROUNDS)
def ref24_Few.p : FPat := fp 22 (pl (pb 0 90 Ty24) pz) pz
def ref24_Few.g (F : T_ref24_Few) (v : ref24_Few.p.T) (k : KR) : Option Bool := F v.1.1 (fun y0 => k (.d ⟨.bool, y0⟩) [])
theorem ref24_Few.eq (L0 : T_ref24_Few_L0) : ∀ v k, exF Try.f22 ref24_Few.p [] [] [⟨0, ref24_Few_L0.p, ref24_Few_L0.g L0⟩] v k = ref24_Few.g (ref24_Few.body L0) v k := fun v k => by kernel_rfl
theorem ref24_Few.ok : okF 3 ref24_Few.p (ref24_Few.g ref24_Few) := fn2 (ref24_Few.eq (ref24_Few_L0 ROUNDS)) Try.func22 (by kernel_rfl) .nil [0] (by kernel_rfl) (.cons ref24_Few_L0.ok .nil)
/-- function 69: sheerleg/sheerlegref04.may -/
abbrev T_ref04_may : Type := Int → Bool → (Bool → Option Bool) → Option Bool
noncomputable def ref04_may.body : T_ref04_may := fun n45 b46 k1 =>
  (cond_ (decide (n45 ≥ (97 : Int))) (cond_ (! (decide (n45 ≤ (122 : Int)))) (cond_ (! (n45 == (95 : Int))) (cond_ (! (n45 == (46 : Int))) (cond_ (decide (n45 ≥ (48 : Int))) (cond_ (decide (n45 ≤ (57 : Int))) (k1 (! b46)) (k1 false)) (k1 false)) (k1 true)) (k1 true)) (k1 true)) (cond_ (! (n45 == (95 : Int))) (cond_ (! (n45 == (46 : Int))) (cond_ (decide (n45 ≥ (48 : Int))) (cond_ (decide (n45 ≤ (57 : Int))) (k1 (! b46)) (k1 false)) (k1 false)) (k1 true)) (k1 true)))
noncomputable def ref04_may : T_ref04_may := ref04_may.body
def ref04_may.p : FPat := fp 69 (pl (pd (.int .u8)) (pl (pd .bool) pz)) pz
def ref04_may.g (F : T_ref04_may) (v : ref04_may.p.T) (k : KR) : Option Bool := F v.1.1 v.1.2.1 (fun y0 => k (.d ⟨.bool, y0⟩) [])
theorem ref04_may.eq : ∀ v k, exF Try.f69 ref04_may.p [] [] [] v k = ref04_may.g (ref04_may.body) v k := fun v k => by kernel_rfl
theorem ref04_may.ok : okF 1 ref04_may.p (ref04_may.g ref04_may) := fn2 (ref04_may.eq) Try.func69 (by kernel_rfl) .nil [] (by kernel_rfl) .nil
/-- function 61: the loop in block 0 -/
abbrev T_ref04_Check_L0 : Type := ByteArray → Int → (Int → Option Bool) → (Option Bool) → Option Bool
noncomputable def ref04_Check_L0.body (ref04_Check_L0 : T_ref04_Check_L0) (ref04_may : T_ref04_may) : T_ref04_Check_L0 := fun s43 n44 k1 k2 =>
  (cond_ (decide (n44 < (((ByteArray.size s43) : Nat) : Int))) (cond_ ((decide ((0 : Int) ≤ n44)) && (decide (n44 < (((ByteArray.size s43) : Nat) : Int)))) (ref04_may (((UInt8.toNat (List.getD (Array.toList (ByteArray.data s43)) (Int.toNat n44) (0 : UInt8))) : Nat) : Int) (n44 == (0 : Int))
  (fun b47 => (cond_ (! b47) (k1 (7 : Int)) (ref04_Check_L0 s43 (IntKind.wrap .i64 (n44 + (1 : Int))) k1 k2)))) none) (k2))
noncomputable def ref04_Check_L0 : Nat → T_ref04_Check_L0
  | 0 => fun _ _ _ _ => none
  | n + 1 => ref04_Check_L0.body (ref04_Check_L0 n) ref04_may
def ref04_Check_L0.p : LPat := lp 2 22 [0, 3] (pl (pd .str) (pl (pd (.int .i64)) pz)) pz
def ref04_Check_L0.g (F : T_ref04_Check_L0) (v : ref04_Check_L0.p.T) (k : KE) : Option Bool := F v.1.1 v.1.2.1 (fun y0 => k .ret ⟨fillS 22 [2] [(.d ⟨(.int .i64), y0⟩)], [], 2⟩) (k (.exit 0) ⟨fillS 22 [] [], [], 2⟩)
theorem ref04_Check_L0.step (S : T_ref04_Check_L0) (F0 : T_ref04_may) : ∀ v k, exR 61 Try.f61 0 ref04_Check_L0.p [⟨ref04_may.p, ref04_may.g F0⟩] [] [] (ref04_Check_L0.g S) v k = ref04_Check_L0.g (ref04_Check_L0.body S F0) v k := fun v k => by kernel_rfl
theorem ref04_Check_L0.ok : okL 61 Try.f61 1 0 ref04_Check_L0.p (ref04_Check_L0.g (ref04_Check_L0 ROUNDS)) := loop2 (G := fun n => ref04_Check_L0.g (ref04_Check_L0 n)) (fun n => ref04_Check_L0.step (ref04_Check_L0 n) ref04_may) (.cons ref04_may.ok .nil) [] (by kernel_rfl) .nil (fun _ _ => rfl)
/-- function 61: sheerleg/sheerlegref04.Check -/
abbrev T_ref04_Check : Type := ByteArray → (Int → Option Bool) → Option Bool
noncomputable def ref04_Check.body (ref04_Check_L0 : T_ref04_Check_L0) : T_ref04_Check := fun s42 k1 =>
  (cond_ (decide ((((ByteArray.size s42) : Nat) : Int) > (24 : Int))) (k1 (6 : Int)) (cond_ ((ByteArray.toList s42) == (ByteArray.toList (⟨#[]⟩ : ByteArray))) (k1 (7 : Int)) (ref04_Check_L0 s42 (0 : Int)
  (fun n48 => (k1 n48))
  (k1 (0 : Int)))))
noncomputable def ref04_Check : T_ref04_Check := ref04_Check.body (ref04_Check_L0 ROUNDS)
def ref04_Check.p : FPat := fp 61 (pl (pd .str) pz) pz
def ref04_Check.g (F : T_ref04_Check) (v : ref04_Check.p.T) (k : KR) : Option Bool := F v.1.1 (fun y0 => k (.d ⟨(.int .i64), y0⟩) [])
theorem ref04_Check.eq (L0 : T_ref04_Check_L0) : ∀ v k, exF Try.f61 ref04_Check.p [] [] [⟨0, ref04_Check_L0.p, ref04_Check_L0.g L0⟩] v k = ref04_Check.g (ref04_Check.body L0) v k := fun v k => by kernel_rfl
theorem ref04_Check.ok : okF 2 ref04_Check.p (ref04_Check.g ref04_Check) := fn2 (ref04_Check.eq (ref04_Check_L0 ROUNDS)) Try.func61 (by kernel_rfl) .nil [0] (by kernel_rfl) (.cons ref04_Check_L0.ok .nil)
/-- function 62: sheerleg/sheerlegref05.Is -/
abbrev T_ref05_Is : Type := Int → (Bool → Option Bool) → Option Bool
noncomputable def ref05_Is.body : T_ref05_Is := fun n50 k1 =>
  (cond_ (decide (n50 ≥ (0 : Int))) (k1 (decide (n50 ≤ (7 : Int)))) (k1 false))
noncomputable def ref05_Is : T_ref05_Is := ref05_Is.body
def ref05_Is.p : FPat := fp 62 (pl (pd (.int .i64)) pz) pz
def ref05_Is.g (F : T_ref05_Is) (v : ref05_Is.p.T) (k : KR) : Option Bool := F v.1.1 (fun y0 => k (.d ⟨.bool, y0⟩) [])
theorem ref05_Is.eq : ∀ v k, exF Try.f62 ref05_Is.p [] [] [] v k = ref05_Is.g (ref05_Is.body) v k := fun v k => by kernel_rfl
theorem ref05_Is.ok : okF 1 ref05_Is.p (ref05_Is.g ref05_Is) := fn2 (ref05_Is.eq) Try.func62 (by kernel_rfl) .nil [] (by kernel_rfl) .nil
/-- function 70: sheerleg/sheerlegref05.Class -/
abbrev T_ref05_Class : Type := Int → (Int → Bool → Option Bool) → Option Bool
noncomputable def ref05_Class.body (ref05_Is : T_ref05_Is) : T_ref05_Class := fun n53 k1 =>
  (ref05_Is (IntKind.wrap .i64 (n53 - (1 : Int)))
  (fun b54 => (cond_ (! b54) (k1 (0 : Int) false) (k1 (IntKind.wrap .i64 (n53 - (1 : Int))) true))))
noncomputable def ref05_Class : T_ref05_Class := ref05_Class.body ref05_Is
def ref05_Class.p : FPat := fp 70 (pl (pd (.int .i64)) pz) pz
def ref05_Class.g (F : T_ref05_Class) (v : ref05_Class.p.T) (k : KR) : Option Bool := F v.1.1 (fun y0 y1 => k (.tup [(.d ⟨(.int .i64), y0⟩), (.d ⟨.bool, y1⟩)]) [])
theorem ref05_Class.eq (F0 : T_ref05_Is) : ∀ v k, exF Try.f70 ref05_Class.p [⟨ref05_Is.p, ref05_Is.g F0⟩] [] [] v k = ref05_Class.g (ref05_Class.body F0) v k := fun v k => by kernel_rfl
theorem ref05_Class.ok : okF 2 ref05_Class.p (ref05_Class.g ref05_Class) := fn2 (ref05_Class.eq ref05_Is) Try.func70 (by kernel_rfl) (.cons ref05_Is.ok .nil) [] (by kernel_rfl) .nil
/-- function 71: the loop in block 0 -/
abbrev T_ref01_Digits_L0 : Type := Int → ByteArray → Int → (Int → ByteArray → Option Bool) → Option Bool
noncomputable def ref01_Digits_L0.body (ref01_Digits_L0 : T_ref01_Digits_L0) : T_ref01_Digits_L0 := fun n58 s59 n60 k1 =>
  (cond_ (n60 != (0 : Int)) (cond_ (decide ((Int.tmod n60 (10 : Int)) < (0 : Int))) (cond_ (Nat.ble ((ByteArray.size (strOf ((IntKind.wrap .u8 (IntKind.wrap .i64 ((48 : Int) + (IntKind.wrap .i64 ((0 : Int) - (Int.tmod n60 (10 : Int))))))) :: []))) + (ByteArray.size s59)) (9223372036854775807 : Nat)) (ref01_Digits_L0 n58 ((strOf ((IntKind.wrap .u8 (IntKind.wrap .i64 ((48 : Int) + (IntKind.wrap .i64 ((0 : Int) - (Int.tmod n60 (10 : Int))))))) :: [])) ++ s59) (IntKind.wrap .i64 (Int.tdiv n60 (10 : Int))) k1) none) (cond_ (Nat.ble ((ByteArray.size (strOf ((IntKind.wrap .u8 (IntKind.wrap .i64 ((48 : Int) + (Int.tmod n60 (10 : Int))))) :: []))) + (ByteArray.size s59)) (9223372036854775807 : Nat)) (ref01_Digits_L0 n58 ((strOf ((IntKind.wrap .u8 (IntKind.wrap .i64 ((48 : Int) + (Int.tmod n60 (10 : Int))))) :: [])) ++ s59) (IntKind.wrap .i64 (Int.tdiv n60 (10 : Int))) k1) none)) (k1 n58 s59))
noncomputable def ref01_Digits_L0 : Nat → T_ref01_Digits_L0
  | 0 => fun _ _ _ _ => none
  | n + 1 => ref01_Digits_L0.body (ref01_Digits_L0 n)
def ref01_Digits_L0.p : LPat := lp 2 31 [0, 3, 4] (pl (pd (.int .i64)) (pl (pd .str) (pl (pd (.int .i64)) pz))) pz
def ref01_Digits_L0.g (F : T_ref01_Digits_L0) (v : ref01_Digits_L0.p.T) (k : KE) : Option Bool := F v.1.1 v.1.2.1 v.1.2.2.1 (fun y0 y1 => k (.exit 0) ⟨fillS 31 [0, 3] [(.d ⟨(.int .i64), y0⟩), (.d ⟨.str, y1⟩)], [], 2⟩)
theorem ref01_Digits_L0.step (S : T_ref01_Digits_L0) : ∀ v k, exR 71 Try.f71 0 ref01_Digits_L0.p [] [] [] (ref01_Digits_L0.g S) v k = ref01_Digits_L0.g (ref01_Digits_L0.body S) v k := fun v k => by kernel_rfl
theorem ref01_Digits_L0.ok : okL 71 Try.f71 0 0 ref01_Digits_L0.p (ref01_Digits_L0.g (ref01_Digits_L0 ROUNDS)) := loop2 (G := fun n => ref01_Digits_L0.g (ref01_Digits_L0 n)) (fun n => ref01_Digits_L0.step (ref01_Digits_L0 n)) .nil [] (by kernel_rfl) .nil (fun _ _ => rfl)
/-- function 71: sheerleg/sheerlegref01.Digits -/
abbrev T_ref01_Digits : Type := Int → (ByteArray → Option Bool) → Option Bool
noncomputable def ref01_Digits.body (ref01_Digits_L0 : T_ref01_Digits_L0) : T_ref01_Digits := fun n57 k1 =>
  (cond_ (n57 == (0 : Int)) (k1 (⟨#[48]⟩ : ByteArray)) (ref01_Digits_L0 n57 (⟨#[]⟩ : ByteArray) n57
  (fun n61 s62 => (cond_ (decide (n61 < (0 : Int))) (cond_ (Nat.ble ((1 : Nat) + (ByteArray.size s62)) (9223372036854775807 : Nat)) (k1 ((⟨#[45]⟩ : ByteArray) ++ s62)) none) (k1 s62)))))
noncomputable def ref01_Digits : T_ref01_Digits := ref01_Digits.body (ref01_Digits_L0 ROUNDS)
def ref01_Digits.p : FPat := fp 71 (pl (pd (.int .i64)) pz) pz
def ref01_Digits.g (F : T_ref01_Digits) (v : ref01_Digits.p.T) (k : KR) : Option Bool := F v.1.1 (fun y0 => k (.d ⟨.str, y0⟩) [])
theorem ref01_Digits.eq (L0 : T_ref01_Digits_L0) : ∀ v k, exF Try.f71 ref01_Digits.p [] [] [⟨0, ref01_Digits_L0.p, ref01_Digits_L0.g L0⟩] v k = ref01_Digits.g (ref01_Digits.body L0) v k := fun v k => by kernel_rfl
theorem ref01_Digits.ok : okF 1 ref01_Digits.p (ref01_Digits.g ref01_Digits) := fn2 (ref01_Digits.eq (ref01_Digits_L0 ROUNDS)) Try.func71 (by kernel_rfl) .nil [0] (by kernel_rfl) (.cons ref01_Digits_L0.ok .nil)
/-- function 63: sheerleg/sheerlegref05.Text -/
abbrev T_ref05_Text : Type := Int → (ByteArray → Option Bool) → Option Bool
noncomputable def ref05_Text.body (ref05_Class : T_ref05_Class) (ref01_Digits : T_ref01_Digits) : T_ref05_Text := fun n52 k1 =>
  (cond_ (n52 == (0 : Int)) (k1 (⟨#[110]⟩ : ByteArray)) (ref05_Class n52
  (fun n55 b56 => (cond_ (! b56) (k1 (⟨#[]⟩ : ByteArray)) (ref01_Digits (IntKind.wrap .i64 (Int.tdiv n55 (2 : Int)))
  (fun s63 => (cond_ (Nat.ble ((1 : Nat) + (ByteArray.size s63)) (9223372036854775807 : Nat)) (cond_ ((Int.tmod n55 (2 : Int)) == (1 : Int)) (cond_ (Nat.ble ((ByteArray.size ((⟨#[102]⟩ : ByteArray) ++ s63)) + (1 : Nat)) (9223372036854775807 : Nat)) (k1 (((⟨#[102]⟩ : ByteArray) ++ s63) ++ (⟨#[114]⟩ : ByteArray))) none) (k1 ((⟨#[102]⟩ : ByteArray) ++ s63))) none)))))))
noncomputable def ref05_Text : T_ref05_Text := ref05_Text.body ref05_Class ref01_Digits
def ref05_Text.p : FPat := fp 63 (pl (pd (.int .i64)) pz) pz
def ref05_Text.g (F : T_ref05_Text) (v : ref05_Text.p.T) (k : KR) : Option Bool := F v.1.1 (fun y0 => k (.d ⟨.str, y0⟩) [])
theorem ref05_Text.eq (F0 : T_ref05_Class) (F1 : T_ref01_Digits) : ∀ v k, exF Try.f63 ref05_Text.p [⟨ref05_Class.p, ref05_Class.g F0⟩, ⟨ref01_Digits.p, ref01_Digits.g F1⟩] [] [] v k = ref05_Text.g (ref05_Text.body F0 F1) v k := fun v k => by kernel_rfl
theorem ref05_Text.ok : okF 3 ref05_Text.p (ref05_Text.g ref05_Text) := fn2 (ref05_Text.eq ref05_Class ref01_Digits) Try.func63 (by kernel_rfl) (.cons ref05_Class.ok (.cons ref01_Digits.ok .nil)) [] (by kernel_rfl) .nil
/-- function 49: the loop in block 0 -/
abbrev T_ref19_symbol_L0 : Type := Int → Int → Tc20 → Tc7 → (Int → Option Bool) → (Int → Tc20 → Tc7 → Option Bool) → Option Bool
noncomputable def ref19_symbol_L0.body (ref19_symbol_L0 : T_ref19_symbol_L0) : T_ref19_symbol_L0 := fun n65 n66 t67 t68 k1 k2 =>
  (cond_ (decide (n66 < n65)) (cond_ ((decide ((0 : Int) ≤ n66)) && (decide (n66 < (((List.length t67.1) : Nat) : Int)))) (cond_ ((ByteArray.toList (List.getD t67.1 (Int.toNat n66) ((⟨#[]⟩ : ByteArray), (false, (0, (0, (0, ())))))).1) == (ByteArray.toList t68.1)) (k1 (12 : Int)) (ref19_symbol_L0 n65 (IntKind.wrap .i64 (n66 + (1 : Int))) t67 t68 k1 k2)) none) (k2 n65 t67 t68))
noncomputable def ref19_symbol_L0 : Nat → T_ref19_symbol_L0
  | 0 => fun _ _ _ _ _ _ => none
  | n + 1 => ref19_symbol_L0.body (ref19_symbol_L0 n)
def ref19_symbol_L0.p : LPat := lp 2 122 [1, 2, 5, 7] (pl (pd (.int .i64)) (ps (pq [1, 0] 0 0) (ps (pq [1, 1] 0 0) (pl (pd (.int .i64)) pz)))) (pl (po [1, 0] 90 3 (es Ty24 (pl eh pz))) (pl (po [1, 1] 96 5 (es Ty10 (pl eh pz))) pz))
def ref19_symbol_L0.g (F : T_ref19_symbol_L0) (v : ref19_symbol_L0.p.T) (k : KE) : Option Bool := F v.1.1 v.1.2.1 v.2.1.1 v.2.2.1.1 (fun y0 => k .ret ⟨fillS 122 [4] [(.d ⟨(.int .i64), y0⟩)], [], 2⟩) (fun y0 y1 y2 => k (.exit 0) ⟨fillS 122 [1, 2, 5] [(.d ⟨(.int .i64), y0⟩), (.ptr [1, 0] 0 0), (.ptr [1, 1] 0 0)], [([1, 0], ⟨90, 3, (.data Ty24 [y1])⟩), ([1, 1], ⟨96, 5, (.data Ty10 [y2])⟩)], 2⟩)
theorem ref19_symbol_L0.step (S : T_ref19_symbol_L0) : ∀ v k, exR 49 Try.f49 0 ref19_symbol_L0.p [] [] [] (ref19_symbol_L0.g S) v k = ref19_symbol_L0.g (ref19_symbol_L0.body S) v k := fun v k => by kernel_rfl
theorem ref19_symbol_L0.ok : okL 49 Try.f49 0 0 ref19_symbol_L0.p (ref19_symbol_L0.g (ref19_symbol_L0 ROUNDS)) := loop2 (G := fun n => ref19_symbol_L0.g (ref19_symbol_L0 n)) (fun n => ref19_symbol_L0.step (ref19_symbol_L0 n)) .nil [] (by kernel_rfl) .nil (fun _ _ => rfl)
/-- function 49: the loop in block 2 -/
abbrev T_ref19_symbol_L2 : Type := Int → Int → Int → Int → Tc20 → Tc7 → (Int → Int → Tc7 → Option Bool) → Option Bool
noncomputable def ref19_symbol_L2.body (ref19_symbol_L2 : T_ref19_symbol_L2) : T_ref19_symbol_L2 := fun n73 n74 n75 n76 t77 t78 k1 =>
  (cond_ (decide (n76 < n73)) (cond_ ((decide ((0 : Int) ≤ n76)) && (decide (n76 < (((List.length t77.1) : Nat) : Int)))) (cond_ ((List.getD t77.1 (Int.toNat n76) ((⟨#[]⟩ : ByteArray), (false, (0, (0, (0, ())))))).2.2.1 == t78.2.2.1) (cond_ ((decide ((0 : Int) ≤ n76)) && (decide (n76 < (((List.length t77.1) : Nat) : Int)))) (cond_ ((List.getD t77.1 (Int.toNat n76) ((⟨#[]⟩ : ByteArray), (false, (0, (0, (0, ())))))).2.2.2.2.1 != (-1 : Int)) (ref19_symbol_L2 n73 n74 (IntKind.wrap .i64 (n75 + (1 : Int))) (IntKind.wrap .i64 (n76 + (1 : Int))) t77 t78 k1) (ref19_symbol_L2 n73 n74 n75 (IntKind.wrap .i64 (n76 + (1 : Int))) t77 t78 k1)) none) (ref19_symbol_L2 n73 n74 n75 (IntKind.wrap .i64 (n76 + (1 : Int))) t77 t78 k1)) none) (k1 n74 n75 t78))
noncomputable def ref19_symbol_L2 : Nat → T_ref19_symbol_L2
  | 0 => fun _ _ _ _ _ _ _ => none
  | n + 1 => ref19_symbol_L2.body (ref19_symbol_L2 n)
def ref19_symbol_L2.p : LPat := lp 2 122 [1, 2, 5, 8, 9, 10] (pl (pd (.int .i64)) (ps (pq [1, 0] 0 0) (ps (pq [1, 1] 0 0) (pl (pd (.int .i64)) (pl (pd (.int .i64)) (pl (pd (.int .i64)) pz)))))) (pl (po [1, 0] 90 3 (es Ty24 (pl eh pz))) (pl (po [1, 1] 96 5 (es Ty10 (pl eh pz))) pz))
def ref19_symbol_L2.g (F : T_ref19_symbol_L2) (v : ref19_symbol_L2.p.T) (k : KE) : Option Bool := F v.1.1 v.1.2.1 v.1.2.2.1 v.1.2.2.2.1 v.2.1.1 v.2.2.1.1 (fun y0 y1 y2 => k (.exit 2) ⟨fillS 122 [5, 8, 9] [(.ptr [1, 0] 0 0), (.d ⟨(.int .i64), y0⟩), (.d ⟨(.int .i64), y1⟩)], [([1, 0], ⟨96, 5, (.data Ty10 [y2])⟩)], 2⟩)
theorem ref19_symbol_L2.step (S : T_ref19_symbol_L2) : ∀ v k, exR 49 Try.f49 2 ref19_symbol_L2.p [] [] [] (ref19_symbol_L2.g S) v k = ref19_symbol_L2.g (ref19_symbol_L2.body S) v k := fun v k => by kernel_rfl
theorem ref19_symbol_L2.ok : okL 49 Try.f49 0 2 ref19_symbol_L2.p (ref19_symbol_L2.g (ref19_symbol_L2 ROUNDS)) := loop2 (G := fun n => ref19_symbol_L2.g (ref19_symbol_L2 n)) (fun n => ref19_symbol_L2.step (ref19_symbol_L2 n)) .nil [] (by kernel_rfl) .nil (fun _ _ => rfl)
/-- function 49: sheerleg/sheerlegref19.symbol -/
abbrev T_ref19_symbol : Type := Tc20 → Int → (Int → Option Bool) → Option Bool
noncomputable def ref19_symbol.body (ref04_Check : T_ref04_Check) (ref05_Is : T_ref05_Is) (ref05_Text : T_ref05_Text) (ref19_symbol_L0 : T_ref19_symbol_L0) (ref19_symbol_L2 : T_ref19_symbol_L2) : T_ref19_symbol := fun t40 n41 k1 =>
  (cond_ ((decide ((0 : Int) ≤ n41)) && (decide (n41 < (((List.length t40.1) : Nat) : Int)))) (ref04_Check (List.getD t40.1 (Int.toNat n41) ((⟨#[]⟩ : ByteArray), (false, (0, (0, (0, ())))))).1
  (fun n49 => (cond_ (n49 != (0 : Int)) (k1 n49) (cond_ ((List.getD t40.1 (Int.toNat n41) ((⟨#[]⟩ : ByteArray), (false, (0, (0, (0, ())))))).2.2.1 != (1 : Int)) (cond_ (! ((List.getD t40.1 (Int.toNat n41) ((⟨#[]⟩ : ByteArray), (false, (0, (0, (0, ())))))).2.2.1 != (2 : Int))) (cond_ ((List.getD t40.1 (Int.toNat n41) ((⟨#[]⟩ : ByteArray), (false, (0, (0, (0, ())))))).2.2.1 == (1 : Int)) (ref05_Is (List.getD t40.1 (Int.toNat n41) ((⟨#[]⟩ : ByteArray), (false, (0, (0, (0, ())))))).2.2.2.1
  (fun b51 => (cond_ (! (! b51)) (cond_ ((List.getD t40.1 (Int.toNat n41) ((⟨#[]⟩ : ByteArray), (false, (0, (0, (0, ())))))).2.2.1 == (2 : Int)) (ref05_Text (List.getD t40.1 (Int.toNat n41) ((⟨#[]⟩ : ByteArray), (false, (0, (0, (0, ())))))).2.2.2.1
  (fun s64 => (cond_ ((ByteArray.toList s64) == (ByteArray.toList (⟨#[]⟩ : ByteArray))) (k1 (8 : Int)) (ref19_symbol_L0 n41 (0 : Int) t40 (List.getD t40.1 (Int.toNat n41) ((⟨#[]⟩ : ByteArray), (false, (0, (0, (0, ()))))))
  (fun n69 => (k1 n69))
  (fun n70 t71 t72 => (cond_ (t72.2.2.1 == (2 : Int)) (ref19_symbol_L2 n70 (((List.length t71.2.2.1) : Nat) : Int) (0 : Int) (0 : Int) t71 t72
  (fun n79 n80 t81 => (cond_ (t81.2.2.2.2.1 != (-1 : Int)) (cond_ (! (t81.2.2.2.2.1 != n80)) (cond_ (decide (t81.2.2.2.2.1 ≥ n79)) (k1 (9 : Int)) (cond_ t81.2.1 (cond_ (t81.2.2.2.2.1 == (-1 : Int)) (k1 (13 : Int)) (k1 (0 : Int))) (k1 (0 : Int)))) (k1 (9 : Int))) (cond_ t81.2.1 (cond_ (t81.2.2.2.2.1 == (-1 : Int)) (k1 (13 : Int)) (k1 (0 : Int))) (k1 (0 : Int)))))) (ref19_symbol_L2 n70 (((List.length t71.2.1) : Nat) : Int) (0 : Int) (0 : Int) t71 t72
  (fun n82 n83 t84 => (cond_ (t84.2.2.2.2.1 != (-1 : Int)) (cond_ (! (t84.2.2.2.2.1 != n83)) (cond_ (decide (t84.2.2.2.2.1 ≥ n82)) (k1 (9 : Int)) (cond_ t84.2.1 (cond_ (t84.2.2.2.2.1 == (-1 : Int)) (k1 (13 : Int)) (k1 (0 : Int))) (k1 (0 : Int)))) (k1 (9 : Int))) (cond_ t84.2.1 (cond_ (t84.2.2.2.2.1 == (-1 : Int)) (k1 (13 : Int)) (k1 (0 : Int))) (k1 (0 : Int)))))))))))) (ref19_symbol_L0 n41 (0 : Int) t40 (List.getD t40.1 (Int.toNat n41) ((⟨#[]⟩ : ByteArray), (false, (0, (0, (0, ()))))))
  (fun n85 => (k1 n85))
  (fun n86 t87 t88 => (cond_ (t88.2.2.1 == (2 : Int)) (ref19_symbol_L2 n86 (((List.length t87.2.2.1) : Nat) : Int) (0 : Int) (0 : Int) t87 t88
  (fun n89 n90 t91 => (cond_ (t91.2.2.2.2.1 != (-1 : Int)) (cond_ (! (t91.2.2.2.2.1 != n90)) (cond_ (decide (t91.2.2.2.2.1 ≥ n89)) (k1 (9 : Int)) (cond_ t91.2.1 (cond_ (t91.2.2.2.2.1 == (-1 : Int)) (k1 (13 : Int)) (k1 (0 : Int))) (k1 (0 : Int)))) (k1 (9 : Int))) (cond_ t91.2.1 (cond_ (t91.2.2.2.2.1 == (-1 : Int)) (k1 (13 : Int)) (k1 (0 : Int))) (k1 (0 : Int)))))) (ref19_symbol_L2 n86 (((List.length t87.2.1) : Nat) : Int) (0 : Int) (0 : Int) t87 t88
  (fun n92 n93 t94 => (cond_ (t94.2.2.2.2.1 != (-1 : Int)) (cond_ (! (t94.2.2.2.2.1 != n93)) (cond_ (decide (t94.2.2.2.2.1 ≥ n92)) (k1 (9 : Int)) (cond_ t94.2.1 (cond_ (t94.2.2.2.2.1 == (-1 : Int)) (k1 (13 : Int)) (k1 (0 : Int))) (k1 (0 : Int)))) (k1 (9 : Int))) (cond_ t94.2.1 (cond_ (t94.2.2.2.2.1 == (-1 : Int)) (k1 (13 : Int)) (k1 (0 : Int))) (k1 (0 : Int)))))))))) (k1 (8 : Int))))) (cond_ ((List.getD t40.1 (Int.toNat n41) ((⟨#[]⟩ : ByteArray), (false, (0, (0, (0, ())))))).2.2.1 == (2 : Int)) (ref05_Text (List.getD t40.1 (Int.toNat n41) ((⟨#[]⟩ : ByteArray), (false, (0, (0, (0, ())))))).2.2.2.1
  (fun s95 => (cond_ ((ByteArray.toList s95) == (ByteArray.toList (⟨#[]⟩ : ByteArray))) (k1 (8 : Int)) (ref19_symbol_L0 n41 (0 : Int) t40 (List.getD t40.1 (Int.toNat n41) ((⟨#[]⟩ : ByteArray), (false, (0, (0, (0, ()))))))
  (fun n96 => (k1 n96))
  (fun n97 t98 t99 => (cond_ (t99.2.2.1 == (2 : Int)) (ref19_symbol_L2 n97 (((List.length t98.2.2.1) : Nat) : Int) (0 : Int) (0 : Int) t98 t99
  (fun n100 n101 t102 => (cond_ (t102.2.2.2.2.1 != (-1 : Int)) (cond_ (! (t102.2.2.2.2.1 != n101)) (cond_ (decide (t102.2.2.2.2.1 ≥ n100)) (k1 (9 : Int)) (cond_ t102.2.1 (cond_ (t102.2.2.2.2.1 == (-1 : Int)) (k1 (13 : Int)) (k1 (0 : Int))) (k1 (0 : Int)))) (k1 (9 : Int))) (cond_ t102.2.1 (cond_ (t102.2.2.2.2.1 == (-1 : Int)) (k1 (13 : Int)) (k1 (0 : Int))) (k1 (0 : Int)))))) (ref19_symbol_L2 n97 (((List.length t98.2.1) : Nat) : Int) (0 : Int) (0 : Int) t98 t99
  (fun n103 n104 t105 => (cond_ (t105.2.2.2.2.1 != (-1 : Int)) (cond_ (! (t105.2.2.2.2.1 != n104)) (cond_ (decide (t105.2.2.2.2.1 ≥ n103)) (k1 (9 : Int)) (cond_ t105.2.1 (cond_ (t105.2.2.2.2.1 == (-1 : Int)) (k1 (13 : Int)) (k1 (0 : Int))) (k1 (0 : Int)))) (k1 (9 : Int))) (cond_ t105.2.1 (cond_ (t105.2.2.2.2.1 == (-1 : Int)) (k1 (13 : Int)) (k1 (0 : Int))) (k1 (0 : Int)))))))))))) (ref19_symbol_L0 n41 (0 : Int) t40 (List.getD t40.1 (Int.toNat n41) ((⟨#[]⟩ : ByteArray), (false, (0, (0, (0, ()))))))
  (fun n106 => (k1 n106))
  (fun n107 t108 t109 => (cond_ (t109.2.2.1 == (2 : Int)) (ref19_symbol_L2 n107 (((List.length t108.2.2.1) : Nat) : Int) (0 : Int) (0 : Int) t108 t109
  (fun n110 n111 t112 => (cond_ (t112.2.2.2.2.1 != (-1 : Int)) (cond_ (! (t112.2.2.2.2.1 != n111)) (cond_ (decide (t112.2.2.2.2.1 ≥ n110)) (k1 (9 : Int)) (cond_ t112.2.1 (cond_ (t112.2.2.2.2.1 == (-1 : Int)) (k1 (13 : Int)) (k1 (0 : Int))) (k1 (0 : Int)))) (k1 (9 : Int))) (cond_ t112.2.1 (cond_ (t112.2.2.2.2.1 == (-1 : Int)) (k1 (13 : Int)) (k1 (0 : Int))) (k1 (0 : Int)))))) (ref19_symbol_L2 n107 (((List.length t108.2.1) : Nat) : Int) (0 : Int) (0 : Int) t108 t109
  (fun n113 n114 t115 => (cond_ (t115.2.2.2.2.1 != (-1 : Int)) (cond_ (! (t115.2.2.2.2.1 != n114)) (cond_ (decide (t115.2.2.2.2.1 ≥ n113)) (k1 (9 : Int)) (cond_ t115.2.1 (cond_ (t115.2.2.2.2.1 == (-1 : Int)) (k1 (13 : Int)) (k1 (0 : Int))) (k1 (0 : Int)))) (k1 (9 : Int))) (cond_ t115.2.1 (cond_ (t115.2.2.2.2.1 == (-1 : Int)) (k1 (13 : Int)) (k1 (0 : Int))) (k1 (0 : Int))))))))))) (k1 (8 : Int))) (cond_ ((List.getD t40.1 (Int.toNat n41) ((⟨#[]⟩ : ByteArray), (false, (0, (0, (0, ())))))).2.2.1 == (1 : Int)) (ref05_Is (List.getD t40.1 (Int.toNat n41) ((⟨#[]⟩ : ByteArray), (false, (0, (0, (0, ())))))).2.2.2.1
  (fun b116 => (cond_ (! (! b116)) (cond_ ((List.getD t40.1 (Int.toNat n41) ((⟨#[]⟩ : ByteArray), (false, (0, (0, (0, ())))))).2.2.1 == (2 : Int)) (ref05_Text (List.getD t40.1 (Int.toNat n41) ((⟨#[]⟩ : ByteArray), (false, (0, (0, (0, ())))))).2.2.2.1
  (fun s117 => (cond_ ((ByteArray.toList s117) == (ByteArray.toList (⟨#[]⟩ : ByteArray))) (k1 (8 : Int)) (ref19_symbol_L0 n41 (0 : Int) t40 (List.getD t40.1 (Int.toNat n41) ((⟨#[]⟩ : ByteArray), (false, (0, (0, (0, ()))))))
  (fun n118 => (k1 n118))
  (fun n119 t120 t121 => (cond_ (t121.2.2.1 == (2 : Int)) (ref19_symbol_L2 n119 (((List.length t120.2.2.1) : Nat) : Int) (0 : Int) (0 : Int) t120 t121
  (fun n122 n123 t124 => (cond_ (t124.2.2.2.2.1 != (-1 : Int)) (cond_ (! (t124.2.2.2.2.1 != n123)) (cond_ (decide (t124.2.2.2.2.1 ≥ n122)) (k1 (9 : Int)) (cond_ t124.2.1 (cond_ (t124.2.2.2.2.1 == (-1 : Int)) (k1 (13 : Int)) (k1 (0 : Int))) (k1 (0 : Int)))) (k1 (9 : Int))) (cond_ t124.2.1 (cond_ (t124.2.2.2.2.1 == (-1 : Int)) (k1 (13 : Int)) (k1 (0 : Int))) (k1 (0 : Int)))))) (ref19_symbol_L2 n119 (((List.length t120.2.1) : Nat) : Int) (0 : Int) (0 : Int) t120 t121
  (fun n125 n126 t127 => (cond_ (t127.2.2.2.2.1 != (-1 : Int)) (cond_ (! (t127.2.2.2.2.1 != n126)) (cond_ (decide (t127.2.2.2.2.1 ≥ n125)) (k1 (9 : Int)) (cond_ t127.2.1 (cond_ (t127.2.2.2.2.1 == (-1 : Int)) (k1 (13 : Int)) (k1 (0 : Int))) (k1 (0 : Int)))) (k1 (9 : Int))) (cond_ t127.2.1 (cond_ (t127.2.2.2.2.1 == (-1 : Int)) (k1 (13 : Int)) (k1 (0 : Int))) (k1 (0 : Int)))))))))))) (ref19_symbol_L0 n41 (0 : Int) t40 (List.getD t40.1 (Int.toNat n41) ((⟨#[]⟩ : ByteArray), (false, (0, (0, (0, ()))))))
  (fun n128 => (k1 n128))
  (fun n129 t130 t131 => (cond_ (t131.2.2.1 == (2 : Int)) (ref19_symbol_L2 n129 (((List.length t130.2.2.1) : Nat) : Int) (0 : Int) (0 : Int) t130 t131
  (fun n132 n133 t134 => (cond_ (t134.2.2.2.2.1 != (-1 : Int)) (cond_ (! (t134.2.2.2.2.1 != n133)) (cond_ (decide (t134.2.2.2.2.1 ≥ n132)) (k1 (9 : Int)) (cond_ t134.2.1 (cond_ (t134.2.2.2.2.1 == (-1 : Int)) (k1 (13 : Int)) (k1 (0 : Int))) (k1 (0 : Int)))) (k1 (9 : Int))) (cond_ t134.2.1 (cond_ (t134.2.2.2.2.1 == (-1 : Int)) (k1 (13 : Int)) (k1 (0 : Int))) (k1 (0 : Int)))))) (ref19_symbol_L2 n129 (((List.length t130.2.1) : Nat) : Int) (0 : Int) (0 : Int) t130 t131
  (fun n135 n136 t137 => (cond_ (t137.2.2.2.2.1 != (-1 : Int)) (cond_ (! (t137.2.2.2.2.1 != n136)) (cond_ (decide (t137.2.2.2.2.1 ≥ n135)) (k1 (9 : Int)) (cond_ t137.2.1 (cond_ (t137.2.2.2.2.1 == (-1 : Int)) (k1 (13 : Int)) (k1 (0 : Int))) (k1 (0 : Int)))) (k1 (9 : Int))) (cond_ t137.2.1 (cond_ (t137.2.2.2.2.1 == (-1 : Int)) (k1 (13 : Int)) (k1 (0 : Int))) (k1 (0 : Int)))))))))) (k1 (8 : Int))))) (cond_ ((List.getD t40.1 (Int.toNat n41) ((⟨#[]⟩ : ByteArray), (false, (0, (0, (0, ())))))).2.2.1 == (2 : Int)) (ref05_Text (List.getD t40.1 (Int.toNat n41) ((⟨#[]⟩ : ByteArray), (false, (0, (0, (0, ())))))).2.2.2.1
  (fun s138 => (cond_ ((ByteArray.toList s138) == (ByteArray.toList (⟨#[]⟩ : ByteArray))) (k1 (8 : Int)) (ref19_symbol_L0 n41 (0 : Int) t40 (List.getD t40.1 (Int.toNat n41) ((⟨#[]⟩ : ByteArray), (false, (0, (0, (0, ()))))))
  (fun n139 => (k1 n139))
  (fun n140 t141 t142 => (cond_ (t142.2.2.1 == (2 : Int)) (ref19_symbol_L2 n140 (((List.length t141.2.2.1) : Nat) : Int) (0 : Int) (0 : Int) t141 t142
  (fun n143 n144 t145 => (cond_ (t145.2.2.2.2.1 != (-1 : Int)) (cond_ (! (t145.2.2.2.2.1 != n144)) (cond_ (decide (t145.2.2.2.2.1 ≥ n143)) (k1 (9 : Int)) (cond_ t145.2.1 (cond_ (t145.2.2.2.2.1 == (-1 : Int)) (k1 (13 : Int)) (k1 (0 : Int))) (k1 (0 : Int)))) (k1 (9 : Int))) (cond_ t145.2.1 (cond_ (t145.2.2.2.2.1 == (-1 : Int)) (k1 (13 : Int)) (k1 (0 : Int))) (k1 (0 : Int)))))) (ref19_symbol_L2 n140 (((List.length t141.2.1) : Nat) : Int) (0 : Int) (0 : Int) t141 t142
  (fun n146 n147 t148 => (cond_ (t148.2.2.2.2.1 != (-1 : Int)) (cond_ (! (t148.2.2.2.2.1 != n147)) (cond_ (decide (t148.2.2.2.2.1 ≥ n146)) (k1 (9 : Int)) (cond_ t148.2.1 (cond_ (t148.2.2.2.2.1 == (-1 : Int)) (k1 (13 : Int)) (k1 (0 : Int))) (k1 (0 : Int)))) (k1 (9 : Int))) (cond_ t148.2.1 (cond_ (t148.2.2.2.2.1 == (-1 : Int)) (k1 (13 : Int)) (k1 (0 : Int))) (k1 (0 : Int)))))))))))) (ref19_symbol_L0 n41 (0 : Int) t40 (List.getD t40.1 (Int.toNat n41) ((⟨#[]⟩ : ByteArray), (false, (0, (0, (0, ()))))))
  (fun n149 => (k1 n149))
  (fun n150 t151 t152 => (cond_ (t152.2.2.1 == (2 : Int)) (ref19_symbol_L2 n150 (((List.length t151.2.2.1) : Nat) : Int) (0 : Int) (0 : Int) t151 t152
  (fun n153 n154 t155 => (cond_ (t155.2.2.2.2.1 != (-1 : Int)) (cond_ (! (t155.2.2.2.2.1 != n154)) (cond_ (decide (t155.2.2.2.2.1 ≥ n153)) (k1 (9 : Int)) (cond_ t155.2.1 (cond_ (t155.2.2.2.2.1 == (-1 : Int)) (k1 (13 : Int)) (k1 (0 : Int))) (k1 (0 : Int)))) (k1 (9 : Int))) (cond_ t155.2.1 (cond_ (t155.2.2.2.2.1 == (-1 : Int)) (k1 (13 : Int)) (k1 (0 : Int))) (k1 (0 : Int)))))) (ref19_symbol_L2 n150 (((List.length t151.2.1) : Nat) : Int) (0 : Int) (0 : Int) t151 t152
  (fun n156 n157 t158 => (cond_ (t158.2.2.2.2.1 != (-1 : Int)) (cond_ (! (t158.2.2.2.2.1 != n157)) (cond_ (decide (t158.2.2.2.2.1 ≥ n156)) (k1 (9 : Int)) (cond_ t158.2.1 (cond_ (t158.2.2.2.2.1 == (-1 : Int)) (k1 (13 : Int)) (k1 (0 : Int))) (k1 (0 : Int)))) (k1 (9 : Int))) (cond_ t158.2.1 (cond_ (t158.2.2.2.2.1 == (-1 : Int)) (k1 (13 : Int)) (k1 (0 : Int))) (k1 (0 : Int))))))))))))))) none)
noncomputable def ref19_symbol : T_ref19_symbol := ref19_symbol.body ref04_Check ref05_Is ref05_Text (ref19_symbol_L0 ROUNDS) (ref19_symbol_L2 ROUNDS)
def ref19_symbol.p : FPat := fp 49 (pl (pd Ty24) (pl (pd (.int .i64)) pz)) pz
def ref19_symbol.g (F : T_ref19_symbol) (v : ref19_symbol.p.T) (k : KR) : Option Bool := F v.1.1 v.1.2.1 (fun y0 => k (.d ⟨(.int .i64), y0⟩) [])
theorem ref19_symbol.eq (F0 : T_ref04_Check) (F1 : T_ref05_Is) (F2 : T_ref05_Text) (L0 : T_ref19_symbol_L0) (L1 : T_ref19_symbol_L2) : ∀ v k, exF Try.f49 ref19_symbol.p [⟨ref04_Check.p, ref04_Check.g F0⟩, ⟨ref05_Is.p, ref05_Is.g F1⟩, ⟨ref05_Text.p, ref05_Text.g F2⟩] [] [⟨0, ref19_symbol_L0.p, ref19_symbol_L0.g L0⟩, ⟨2, ref19_symbol_L2.p, ref19_symbol_L2.g L1⟩] v k = ref19_symbol.g (ref19_symbol.body F0 F1 F2 L0 L1) v k := fun v k => by kernel_rfl
theorem ref19_symbol.ok : okF 4 ref19_symbol.p (ref19_symbol.g ref19_symbol) := fn2 (ref19_symbol.eq ref04_Check ref05_Is ref05_Text (ref19_symbol_L0 ROUNDS) (ref19_symbol_L2 ROUNDS)) Try.func49 (by kernel_rfl) (.cons ref04_Check.ok (.cons ref05_Is.ok (.cons ref05_Text.ok .nil))) [0, 2] (by kernel_rfl) (.cons ref19_symbol_L0.ok (.cons ref19_symbol_L2.ok .nil))
/-- function 36: the loop in block 0 -/
abbrev T_ref19_Check_L0 : Type := Int → Tc20 → (Int → Int → Option Bool) → (Tc20 → Option Bool) → Option Bool
noncomputable def ref19_Check_L0.body (ref19_Check_L0 : T_ref19_Check_L0) (ref19_symbol : T_ref19_symbol) : T_ref19_Check_L0 := fun n38 t39 k1 k2 =>
  (cond_ (decide (n38 < (((List.length t39.1) : Nat) : Int))) (ref19_symbol t39 n38
  (fun n159 => (cond_ (n159 != (0 : Int)) (k1 n159 n38) (ref19_Check_L0 (IntKind.wrap .i64 (n38 + (1 : Int))) t39 k1 k2)))) (k2 t39))
noncomputable def ref19_Check_L0 : Nat → T_ref19_Check_L0
  | 0 => fun _ _ _ _ => none
  | n + 1 => ref19_Check_L0.body (ref19_Check_L0 n) ref19_symbol
def ref19_Check_L0.p : LPat := lp 2 51 [1, 4] (ps (pq [1, 0] 0 0) (pl (pd (.int .i64)) pz)) (pl (po [1, 0] 90 3 (es Ty24 (pl eh pz))) pz)
def ref19_Check_L0.g (F : T_ref19_Check_L0) (v : ref19_Check_L0.p.T) (k : KE) : Option Bool := F v.1.1 v.2.1.1 (fun y0 y1 => k .ret ⟨fillS 51 [2, 3] [(.d ⟨(.int .i64), y0⟩), (.d ⟨(.int .i64), y1⟩)], [], 2⟩) (fun y0 => k (.exit 0) ⟨fillS 51 [1] [(.ptr [1, 0] 0 0)], [([1, 0], ⟨90, 3, (.data Ty24 [y0])⟩)], 2⟩)
theorem ref19_Check_L0.step (S : T_ref19_Check_L0) (F0 : T_ref19_symbol) : ∀ v k, exR 36 Try.f36 0 ref19_Check_L0.p [⟨ref19_symbol.p, ref19_symbol.g F0⟩] [] [] (ref19_Check_L0.g S) v k = ref19_Check_L0.g (ref19_Check_L0.body S F0) v k := fun v k => by kernel_rfl
theorem ref19_Check_L0.ok : okL 36 Try.f36 4 0 ref19_Check_L0.p (ref19_Check_L0.g (ref19_Check_L0 ROUNDS)) := loop2 (G := fun n => ref19_Check_L0.g (ref19_Check_L0 n)) (fun n => ref19_Check_L0.step (ref19_Check_L0 n) ref19_symbol) (.cons ref19_symbol.ok .nil) [] (by kernel_rfl) .nil (fun _ _ => rfl)
/-- function 50: sheerleg/sheerlegref19.Items -/
abbrev T_ref19_Items : Type := Tc20 → (Int → Option Bool) → Option Bool
noncomputable def ref19_Items.body : T_ref19_Items := fun t165 k1 =>
  (k1 (IntKind.wrap .i64 ((((List.length t165.2.1) : Nat) : Int) + (((List.length t165.2.2.1) : Nat) : Int))))
noncomputable def ref19_Items : T_ref19_Items := ref19_Items.body
def ref19_Items.p : FPat := fp 50 (pl (pd Ty24) pz) pz
def ref19_Items.g (F : T_ref19_Items) (v : ref19_Items.p.T) (k : KR) : Option Bool := F v.1.1 (fun y0 => k (.d ⟨(.int .i64), y0⟩) [])
theorem ref19_Items.eq : ∀ v k, exF Try.f50 ref19_Items.p [] [] [] v k = ref19_Items.g (ref19_Items.body) v k := fun v k => by kernel_rfl
theorem ref19_Items.ok : okF 1 ref19_Items.p (ref19_Items.g ref19_Items) := fn2 (ref19_Items.eq) Try.func50 (by kernel_rfl) .nil [] (by kernel_rfl) .nil
/-- function 72: sheerleg/sheerlegref19.defines -/
abbrev T_ref19_defines : Type := Tc20 → Tc7 → Int → (Bool → Option Bool) → Option Bool
noncomputable def ref19_defines.body (ref19_Items : T_ref19_Items) : T_ref19_defines := fun t174 t175 n176 k1 =>
  (cond_ (! (decide (n176 < (0 : Int)))) (ref19_Items t174
  (fun n177 => (cond_ (decide (n176 ≥ n177)) (k1 false) (cond_ (decide (n176 < (((List.length t174.2.1) : Nat) : Int))) (cond_ (t175.2.2.1 == (1 : Int)) (k1 (t175.2.2.2.2.1 == n176)) (k1 false)) (cond_ (t175.2.2.1 == (2 : Int)) (k1 (t175.2.2.2.2.1 == (IntKind.wrap .i64 (n176 - (((List.length t174.2.1) : Nat) : Int))))) (k1 false)))))) (k1 false))
noncomputable def ref19_defines : T_ref19_defines := ref19_defines.body ref19_Items
def ref19_defines.p : FPat := fp 72 (pl (pd Ty24) (pl (pd Ty10) (pl (pd (.int .i64)) pz))) pz
def ref19_defines.g (F : T_ref19_defines) (v : ref19_defines.p.T) (k : KR) : Option Bool := F v.1.1 v.1.2.1 v.1.2.2.1 (fun y0 => k (.d ⟨.bool, y0⟩) [])
theorem ref19_defines.eq (F0 : T_ref19_Items) : ∀ v k, exF Try.f72 ref19_defines.p [⟨ref19_Items.p, ref19_Items.g F0⟩] [] [] v k = ref19_defines.g (ref19_defines.body F0) v k := fun v k => by kernel_rfl
theorem ref19_defines.ok : okF 2 ref19_defines.p (ref19_defines.g ref19_defines) := fn2 (ref19_defines.eq ref19_Items) Try.func72 (by kernel_rfl) (.cons ref19_Items.ok .nil) [] (by kernel_rfl) .nil
/-- function 64: the loop in block 0 -/
abbrev T_ref19_Definer_L0 : Type := Int → Int → Tc20 → (Int → Option Bool) → (Option Bool) → Option Bool
noncomputable def ref19_Definer_L0.body (ref19_Definer_L0 : T_ref19_Definer_L0) (ref19_defines : T_ref19_defines) : T_ref19_Definer_L0 := fun n171 n172 t173 k1 k2 =>
  (cond_ (decide (n172 < (((List.length t173.1) : Nat) : Int))) (cond_ ((decide ((0 : Int) ≤ n172)) && (decide (n172 < (((List.length t173.1) : Nat) : Int)))) (ref19_defines t173 (List.getD t173.1 (Int.toNat n172) ((⟨#[]⟩ : ByteArray), (false, (0, (0, (0, ())))))) n171
  (fun b178 => (cond_ b178 (k1 n172) (ref19_Definer_L0 n171 (IntKind.wrap .i64 (n172 + (1 : Int))) t173 k1 k2)))) none) (k2))
noncomputable def ref19_Definer_L0 : Nat → T_ref19_Definer_L0
  | 0 => fun _ _ _ _ _ => none
  | n + 1 => ref19_Definer_L0.body (ref19_Definer_L0 n) ref19_defines
def ref19_Definer_L0.p : LPat := lp 2 22 [1, 2, 5] (pl (pd (.int .i64)) (ps (pq [1, 0] 0 0) (pl (pd (.int .i64)) pz))) (pl (po [1, 0] 90 3 (es Ty24 (pl eh pz))) pz)
def ref19_Definer_L0.g (F : T_ref19_Definer_L0) (v : ref19_Definer_L0.p.T) (k : KE) : Option Bool := F v.1.1 v.1.2.1 v.2.1.1 (fun y0 => k .ret ⟨fillS 22 [4] [(.d ⟨(.int .i64), y0⟩)], [], 2⟩) (k (.exit 0) ⟨fillS 22 [] [], [], 2⟩)
theorem ref19_Definer_L0.step (S : T_ref19_Definer_L0) (F0 : T_ref19_defines) : ∀ v k, exR 64 Try.f64 0 ref19_Definer_L0.p [⟨ref19_defines.p, ref19_defines.g F0⟩] [] [] (ref19_Definer_L0.g S) v k = ref19_Definer_L0.g (ref19_Definer_L0.body S F0) v k := fun v k => by kernel_rfl
theorem ref19_Definer_L0.ok : okL 64 Try.f64 2 0 ref19_Definer_L0.p (ref19_Definer_L0.g (ref19_Definer_L0 ROUNDS)) := loop2 (G := fun n => ref19_Definer_L0.g (ref19_Definer_L0 n)) (fun n => ref19_Definer_L0.step (ref19_Definer_L0 n) ref19_defines) (.cons ref19_defines.ok .nil) [] (by kernel_rfl) .nil (fun _ _ => rfl)
/-- function 64: sheerleg/sheerlegref19.Definer -/
abbrev T_ref19_Definer : Type := Tc20 → Int → (Int → Option Bool) → Option Bool
noncomputable def ref19_Definer.body (ref19_Definer_L0 : T_ref19_Definer_L0) : T_ref19_Definer := fun t169 n170 k1 =>
  (ref19_Definer_L0 n170 (0 : Int) t169
  (fun n179 => (k1 n179))
  (k1 (-1 : Int)))
noncomputable def ref19_Definer : T_ref19_Definer := ref19_Definer.body (ref19_Definer_L0 ROUNDS)
def ref19_Definer.p : FPat := fp 64 (pl (pd Ty24) (pl (pd (.int .i64)) pz)) pz
def ref19_Definer.g (F : T_ref19_Definer) (v : ref19_Definer.p.T) (k : KR) : Option Bool := F v.1.1 v.1.2.1 (fun y0 => k (.d ⟨(.int .i64), y0⟩) [])
theorem ref19_Definer.eq (L0 : T_ref19_Definer_L0) : ∀ v k, exF Try.f64 ref19_Definer.p [] [] [⟨0, ref19_Definer_L0.p, ref19_Definer_L0.g L0⟩] v k = ref19_Definer.g (ref19_Definer.body L0) v k := fun v k => by kernel_rfl
theorem ref19_Definer.ok : okF 3 ref19_Definer.p (ref19_Definer.g ref19_Definer) := fn2 (ref19_Definer.eq (ref19_Definer_L0 ROUNDS)) Try.func64 (by kernel_rfl) .nil [0] (by kernel_rfl) (.cons ref19_Definer_L0.ok .nil)
/-- function 65: the loop in block 0 -/
abbrev T_ref15_Check_L0 : Type := Tc11 → Int → Tc12 → (Int → Option Bool) → (Tc11 → Tc12 → Option Bool) → Option Bool
noncomputable def ref15_Check_L0.body (ref15_Check_L0 : T_ref15_Check_L0) : T_ref15_Check_L0 := fun ts184 n185 t186 k1 k2 =>
  (cond_ (decide (n185 < (((List.length t186.2.1) : Nat) : Int))) (cond_ (t186.1 != (0 : Int)) (cond_ ((decide ((0 : Int) ≤ n185)) && (decide (n185 < (((List.length t186.2.1) : Nat) : Int)))) (cond_ ((List.getD t186.2.1 (Int.toNat n185) (0 : Int)) != (0 : Int)) (k1 (2 : Int)) (ref15_Check_L0 ts184 (IntKind.wrap .i64 (n185 + (1 : Int))) t186 k1 k2)) none) (ref15_Check_L0 ts184 (IntKind.wrap .i64 (n185 + (1 : Int))) t186 k1 k2)) (k2 ts184 t186))
noncomputable def ref15_Check_L0 : Nat → T_ref15_Check_L0
  | 0 => fun _ _ _ _ _ => none
  | n + 1 => ref15_Check_L0.body (ref15_Check_L0 n)
def ref15_Check_L0.p : LPat := lp 2 109 [1, 2, 5] (pl (pb 0 96 Ty10) (ps (pq [1, 0] 0 0) (pl (pd (.int .i64)) pz))) (pl (po [1, 0] 101 3 (es Ty16 (pl eh pz))) pz)
def ref15_Check_L0.g (F : T_ref15_Check_L0) (v : ref15_Check_L0.p.T) (k : KE) : Option Bool := F v.1.1 v.1.2.1 v.2.1.1 (fun y0 => k .ret ⟨fillS 109 [4] [(.d ⟨(.int .i64), y0⟩)], [], 2⟩) (fun y0 y1 => k (.exit 0) ⟨fillS 109 [1, 2] [(.bv 0 96 Ty10 y0), (.ptr [1, 0] 0 0)], [([1, 0], ⟨101, 3, (.data Ty16 [y1])⟩)], 2⟩)
theorem ref15_Check_L0.step (S : T_ref15_Check_L0) : ∀ v k, exR 65 Try.f65 0 ref15_Check_L0.p [] [] [] (ref15_Check_L0.g S) v k = ref15_Check_L0.g (ref15_Check_L0.body S) v k := fun v k => by kernel_rfl
theorem ref15_Check_L0.ok : okL 65 Try.f65 0 0 ref15_Check_L0.p (ref15_Check_L0.g (ref15_Check_L0 ROUNDS)) := loop2 (G := fun n => ref15_Check_L0.g (ref15_Check_L0 n)) (fun n => ref15_Check_L0.step (ref15_Check_L0 n)) .nil [] (by kernel_rfl) .nil (fun _ _ => rfl)
/-- function 65: the loop in block 2 -/
abbrev T_ref15_Check_L2 : Type := Tc11 → Int → Tc12 → (Int → Option Bool) → (Option Bool) → Option Bool
noncomputable def ref15_Check_L2.body (ref15_Check_L2 : T_ref15_Check_L2) : T_ref15_Check_L2 := fun ts190 n191 t192 k1 k2 =>
  (cond_ (decide (n191 < (((List.length t192.2.2.1) : Nat) : Int))) (cond_ ((decide ((0 : Int) ≤ n191)) && (decide (n191 < (((List.length t192.2.2.1) : Nat) : Int)))) (cond_ (! (t192.1 == (0 : Int))) (cond_ (! (decide ((List.getD t192.2.2.1 (Int.toNat n191) (0, (0, (false, ())))).1 < (0 : Int)))) (cond_ (! (decide ((List.getD t192.2.2.1 (Int.toNat n191) (0, (0, (false, ())))).1 ≥ (((List.length t192.2.1) : Nat) : Int)))) (cond_ (decide (n191 > (0 : Int))) (cond_ ((decide ((0 : Int) ≤ (IntKind.wrap .i64 (n191 - (1 : Int))))) && (decide ((IntKind.wrap .i64 (n191 - (1 : Int))) < (((List.length t192.2.2.1) : Nat) : Int)))) (cond_ (! (decide ((List.getD t192.2.2.1 (Int.toNat n191) (0, (0, (false, ())))).1 ≤ (List.getD t192.2.2.1 (Int.toNat (IntKind.wrap .i64 (n191 - (1 : Int)))) (0, (0, (false, ())))).1))) (cond_ (! (decide ((List.getD t192.2.2.1 (Int.toNat n191) (0, (0, (false, ())))).2.1 < (0 : Int)))) (cond_ (decide ((List.getD t192.2.2.1 (Int.toNat n191) (0, (0, (false, ())))).2.1 ≥ (List.length ts190 : Int))) (k1 (11 : Int)) (cond_ ((decide ((0 : Int) ≤ (List.getD t192.2.2.1 (Int.toNat n191) (0, (0, (false, ())))).2.1)) && (decide ((List.getD t192.2.2.1 (Int.toNat n191) (0, (0, (false, ())))).2.1 < (List.length ts190 : Int)))) (cond_ (! ((List.getD ts190 (Int.toNat (List.getD t192.2.2.1 (Int.toNat n191) (0, (0, (false, ())))).2.1) ((⟨#[]⟩ : ByteArray), (false, (0, (0, (0, ())))))).2.2.1 != (1 : Int))) (cond_ ((decide ((0 : Int) ≤ (List.getD t192.2.2.1 (Int.toNat n191) (0, (0, (false, ())))).2.1)) && (decide ((List.getD t192.2.2.1 (Int.toNat n191) (0, (0, (false, ())))).2.1 < (List.length ts190 : Int)))) (cond_ ((List.getD ts190 (Int.toNat (List.getD t192.2.2.1 (Int.toNat n191) (0, (0, (false, ())))).2.1) ((⟨#[]⟩ : ByteArray), (false, (0, (0, (0, ())))))).2.2.2.1 != (IntKind.wrap .i64 (t192.1 - (1 : Int)))) (k1 (8 : Int)) (ref15_Check_L2 ts190 (IntKind.wrap .i64 (n191 + (1 : Int))) t192 k1 k2)) none) (k1 (8 : Int))) none)) (k1 (11 : Int))) (k1 (11 : Int))) none) (cond_ (! (decide ((List.getD t192.2.2.1 (Int.toNat n191) (0, (0, (false, ())))).2.1 < (0 : Int)))) (cond_ (decide ((List.getD t192.2.2.1 (Int.toNat n191) (0, (0, (false, ())))).2.1 ≥ (List.length ts190 : Int))) (k1 (11 : Int)) (cond_ ((decide ((0 : Int) ≤ (List.getD t192.2.2.1 (Int.toNat n191) (0, (0, (false, ())))).2.1)) && (decide ((List.getD t192.2.2.1 (Int.toNat n191) (0, (0, (false, ())))).2.1 < (List.length ts190 : Int)))) (cond_ (! ((List.getD ts190 (Int.toNat (List.getD t192.2.2.1 (Int.toNat n191) (0, (0, (false, ())))).2.1) ((⟨#[]⟩ : ByteArray), (false, (0, (0, (0, ())))))).2.2.1 != (1 : Int))) (cond_ ((decide ((0 : Int) ≤ (List.getD t192.2.2.1 (Int.toNat n191) (0, (0, (false, ())))).2.1)) && (decide ((List.getD t192.2.2.1 (Int.toNat n191) (0, (0, (false, ())))).2.1 < (List.length ts190 : Int)))) (cond_ ((List.getD ts190 (Int.toNat (List.getD t192.2.2.1 (Int.toNat n191) (0, (0, (false, ())))).2.1) ((⟨#[]⟩ : ByteArray), (false, (0, (0, (0, ())))))).2.2.2.1 != (IntKind.wrap .i64 (t192.1 - (1 : Int)))) (k1 (8 : Int)) (ref15_Check_L2 ts190 (IntKind.wrap .i64 (n191 + (1 : Int))) t192 k1 k2)) none) (k1 (8 : Int))) none)) (k1 (11 : Int)))) (k1 (11 : Int))) (k1 (11 : Int))) (k1 (11 : Int))) none) (k2))
noncomputable def ref15_Check_L2 : Nat → T_ref15_Check_L2
  | 0 => fun _ _ _ _ _ => none
  | n + 1 => ref15_Check_L2.body (ref15_Check_L2 n)
def ref15_Check_L2.p : LPat := lp 2 109 [1, 2, 6] (pl (pb 0 96 Ty10) (ps (pq [1, 0] 0 0) (pl (pd (.int .i64)) pz))) (pl (po [1, 0] 101 3 (es Ty16 (pl eh pz))) pz)
def ref15_Check_L2.g (F : T_ref15_Check_L2) (v : ref15_Check_L2.p.T) (k : KE) : Option Bool := F v.1.1 v.1.2.1 v.2.1.1 (fun y0 => k .ret ⟨fillS 109 [4] [(.d ⟨(.int .i64), y0⟩)], [], 2⟩) (k (.exit 2) ⟨fillS 109 [] [], [], 2⟩)
theorem ref15_Check_L2.step (S : T_ref15_Check_L2) : ∀ v k, exR 65 Try.f65 2 ref15_Check_L2.p [] [] [] (ref15_Check_L2.g S) v k = ref15_Check_L2.g (ref15_Check_L2.body S) v k := fun v k => by kernel_rfl
theorem ref15_Check_L2.ok : okL 65 Try.f65 0 2 ref15_Check_L2.p (ref15_Check_L2.g (ref15_Check_L2 ROUNDS)) := loop2 (G := fun n => ref15_Check_L2.g (ref15_Check_L2 n)) (fun n => ref15_Check_L2.step (ref15_Check_L2 n)) .nil [] (by kernel_rfl) .nil (fun _ _ => rfl)
/-- function 65: sheerleg/sheerlegref15.Check -/
abbrev T_ref15_Check : Type := Tc12 → Tc11 → (Int → Option Bool) → Option Bool
noncomputable def ref15_Check.body (ref05_Text : T_ref05_Text) (ref15_Check_L0 : T_ref15_Check_L0) (ref15_Check_L2 : T_ref15_Check_L2) : T_ref15_Check := fun t181 ts182 k1 =>
  (ref05_Text t181.1
  (fun s183 => (cond_ ((ByteArray.toList s183) == (ByteArray.toList (⟨#[]⟩ : ByteArray))) (k1 (8 : Int)) (cond_ (decide ((((List.length t181.2.1) : Nat) : Int) > (32 : Int))) (k1 (6 : Int)) (ref15_Check_L0 ts182 (0 : Int) t181
  (fun n187 => (k1 n187))
  (fun ts188 t189 => (ref15_Check_L2 ts188 (0 : Int) t189
  (fun n193 => (k1 n193))
  (k1 (0 : Int)))))))))
noncomputable def ref15_Check : T_ref15_Check := ref15_Check.body ref05_Text (ref15_Check_L0 ROUNDS) (ref15_Check_L2 ROUNDS)
def ref15_Check.p : FPat := fp 65 (pl (pd Ty16) (pl (pb 0 96 Ty10) pz)) pz
def ref15_Check.g (F : T_ref15_Check) (v : ref15_Check.p.T) (k : KR) : Option Bool := F v.1.1 v.1.2.1 (fun y0 => k (.d ⟨(.int .i64), y0⟩) [])
theorem ref15_Check.eq (F0 : T_ref05_Text) (L0 : T_ref15_Check_L0) (L1 : T_ref15_Check_L2) : ∀ v k, exF Try.f65 ref15_Check.p [⟨ref05_Text.p, ref05_Text.g F0⟩] [] [⟨0, ref15_Check_L0.p, ref15_Check_L0.g L0⟩, ⟨2, ref15_Check_L2.p, ref15_Check_L2.g L1⟩] v k = ref15_Check.g (ref15_Check.body F0 L0 L1) v k := fun v k => by kernel_rfl
theorem ref15_Check.ok : okF 4 ref15_Check.p (ref15_Check.g ref15_Check) := fn2 (ref15_Check.eq ref05_Text (ref15_Check_L0 ROUNDS) (ref15_Check_L2 ROUNDS)) Try.func65 (by kernel_rfl) (.cons ref05_Text.ok .nil) [0, 2] (by kernel_rfl) (.cons ref15_Check_L0.ok (.cons ref15_Check_L2.ok .nil))
/-- function 88: sheerleg/sheerlegref05.Params -/
abbrev T_ref05_Params : Type := Int → (Int → Option Bool) → Option Bool
noncomputable def ref05_Params.body (ref05_Is : T_ref05_Is) : T_ref05_Params := fun n200 k1 =>
  (ref05_Is n200
  (fun b201 => (cond_ (! b201) (k1 (0 : Int)) (k1 (IntKind.wrap .i64 (Int.tdiv n200 (2 : Int)))))))
noncomputable def ref05_Params : T_ref05_Params := ref05_Params.body ref05_Is
def ref05_Params.p : FPat := fp 88 (pl (pd (.int .i64)) pz) pz
def ref05_Params.g (F : T_ref05_Params) (v : ref05_Params.p.T) (k : KR) : Option Bool := F v.1.1 (fun y0 => k (.d ⟨(.int .i64), y0⟩) [])
theorem ref05_Params.eq (F0 : T_ref05_Is) : ∀ v k, exF Try.f88 ref05_Params.p [⟨ref05_Is.p, ref05_Is.g F0⟩] [] [] v k = ref05_Params.g (ref05_Params.body F0) v k := fun v k => by kernel_rfl
theorem ref05_Params.ok : okF 2 ref05_Params.p (ref05_Params.g ref05_Params) := fn2 (ref05_Params.eq ref05_Is) Try.func88 (by kernel_rfl) (.cons ref05_Is.ok .nil) [] (by kernel_rfl) .nil
/-- function 77: the loop in block 0 -/
abbrev T_ref16_slots_L0 : Type := Int → Tc16 → (Int → Option Bool) → (Option Bool) → Option Bool
noncomputable def ref16_slots_L0.body (ref16_slots_L0 : T_ref16_slots_L0) (ref05_Text : T_ref05_Text) (ref05_Params : T_ref05_Params) : T_ref16_slots_L0 := fun n203 t204 k1 k2 =>
  (cond_ (decide (n203 < (((List.length t204.2.1) : Nat) : Int))) (cond_ ((decide ((0 : Int) ≤ n203)) && (decide (n203 < (((List.length t204.2.1) : Nat) : Int)))) (ref05_Text (List.getD t204.2.1 (Int.toNat n203) (0 : Int))
  (fun s205 => (cond_ (! ((ByteArray.toList s205) == (ByteArray.toList (⟨#[]⟩ : ByteArray)))) (ref05_Params t204.1
  (fun n206 => (cond_ (decide (n203 < n206)) (cond_ ((decide ((0 : Int) ≤ n203)) && (decide (n203 < (((List.length t204.2.1) : Nat) : Int)))) (cond_ ((List.getD t204.2.1 (Int.toNat n203) (0 : Int)) != (0 : Int)) (k1 (8 : Int)) (ref16_slots_L0 (IntKind.wrap .i64 (n203 + (1 : Int))) t204 k1 k2)) none) (ref16_slots_L0 (IntKind.wrap .i64 (n203 + (1 : Int))) t204 k1 k2)))) (k1 (8 : Int))))) none) (k2))
noncomputable def ref16_slots_L0 : Nat → T_ref16_slots_L0
  | 0 => fun _ _ _ _ => none
  | n + 1 => ref16_slots_L0.body (ref16_slots_L0 n) ref05_Text ref05_Params
def ref16_slots_L0.p : LPat := lp 2 48 [1, 3] (ps (pq [1, 0] 0 0) (pl (pd (.int .i64)) pz)) (pl (po [1, 0] 57 9 (es Ty20 (pl eh pz))) pz)
def ref16_slots_L0.g (F : T_ref16_slots_L0) (v : ref16_slots_L0.p.T) (k : KE) : Option Bool := F v.1.1 v.2.1.1 (fun y0 => k .ret ⟨fillS 48 [2] [(.d ⟨(.int .i64), y0⟩)], [], 2⟩) (k (.exit 0) ⟨fillS 48 [] [], [], 2⟩)
theorem ref16_slots_L0.step (S : T_ref16_slots_L0) (F0 : T_ref05_Text) (F1 : T_ref05_Params) : ∀ v k, exR 77 Try.f77 0 ref16_slots_L0.p [⟨ref05_Text.p, ref05_Text.g F0⟩, ⟨ref05_Params.p, ref05_Params.g F1⟩] [] [] (ref16_slots_L0.g S) v k = ref16_slots_L0.g (ref16_slots_L0.body S F0 F1) v k := fun v k => by kernel_rfl
theorem ref16_slots_L0.ok : okL 77 Try.f77 3 0 ref16_slots_L0.p (ref16_slots_L0.g (ref16_slots_L0 ROUNDS)) := loop2 (G := fun n => ref16_slots_L0.g (ref16_slots_L0 n)) (fun n => ref16_slots_L0.step (ref16_slots_L0 n) ref05_Text ref05_Params) (.cons ref05_Text.ok (.cons ref05_Params.ok .nil)) [] (by kernel_rfl) .nil (fun _ _ => rfl)
/-- function 77: sheerleg/sheerlegref16.slots -/
abbrev T_ref16_slots : Type := Tc16 → (Int → Option Bool) → Option Bool
noncomputable def ref16_slots.body (ref05_Is : T_ref05_Is) (ref05_Params : T_ref05_Params) (ref16_slots_L0 : T_ref16_slots_L0) : T_ref16_slots := fun t198 k1 =>
  (ref05_Is t198.1
  (fun b199 => (cond_ (! b199) (k1 (14 : Int)) (cond_ (decide ((((List.length t198.2.1) : Nat) : Int) > (16 : Int))) (k1 (6 : Int)) (ref05_Params t198.1
  (fun n202 => (cond_ (decide ((((List.length t198.2.1) : Nat) : Int) < n202)) (k1 (2 : Int)) (ref16_slots_L0 (0 : Int) t198
  (fun n207 => (k1 n207))
  (k1 (0 : Int))))))))))
noncomputable def ref16_slots : T_ref16_slots := ref16_slots.body ref05_Is ref05_Params (ref16_slots_L0 ROUNDS)
def ref16_slots.p : FPat := fp 77 (pl (pd Ty20) pz) pz
def ref16_slots.g (F : T_ref16_slots) (v : ref16_slots.p.T) (k : KR) : Option Bool := F v.1.1 (fun y0 => k (.d ⟨(.int .i64), y0⟩) [])
theorem ref16_slots.eq (F0 : T_ref05_Is) (F1 : T_ref05_Params) (L0 : T_ref16_slots_L0) : ∀ v k, exF Try.f77 ref16_slots.p [⟨ref05_Is.p, ref05_Is.g F0⟩, ⟨ref05_Params.p, ref05_Params.g F1⟩] [] [⟨0, ref16_slots_L0.p, ref16_slots_L0.g L0⟩] v k = ref16_slots.g (ref16_slots.body F0 F1 L0) v k := fun v k => by kernel_rfl
theorem ref16_slots.ok : okF 4 ref16_slots.p (ref16_slots.g ref16_slots) := fn2 (ref16_slots.eq ref05_Is ref05_Params (ref16_slots_L0 ROUNDS)) Try.func77 (by kernel_rfl) (.cons ref05_Is.ok (.cons ref05_Params.ok .nil)) [0] (by kernel_rfl) (.cons ref16_slots_L0.ok .nil)
/-- function 101: sheerleg/sheerlegref07.names -/
abbrev T_ref07_names : Type := ((List ByteArray) → Option Bool) → Option Bool
noncomputable def ref07_names.body : T_ref07_names := fun k1 =>
  (k1 [(⟨#[110, 111, 112]⟩ : ByteArray), (⟨#[115, 101, 116]⟩ : ByteArray), (⟨#[109, 111, 118, 101]⟩ : ByteArray), (⟨#[97, 100, 100]⟩ : ByteArray), (⟨#[115, 117, 98]⟩ : ByteArray), (⟨#[109, 117, 108]⟩ : ByteArray), (⟨#[100, 105, 118]⟩ : ByteArray), (⟨#[109, 111, 100]⟩ : ByteArray), (⟨#[108, 101, 115, 115]⟩ : ByteArray), (⟨#[115, 97, 109, 101]⟩ : ByteArray), (⟨#[106, 117, 109, 112]⟩ : ByteArray), (⟨#[122, 101, 114, 111]⟩ : ByteArray), (⟨#[105, 110]⟩ : ByteArray), (⟨#[111, 117, 116]⟩ : ByteArray), (⟨#[108, 111, 97, 100]⟩ : ByteArray), (⟨#[115, 116, 111, 114, 101]⟩ : ByteArray), (⟨#[102, 117, 110, 99]⟩ : ByteArray), (⟨#[112, 105, 99, 107]⟩ : ByteArray), (⟨#[99, 97, 108, 108]⟩ : ByteArray), (⟨#[118, 105, 97]⟩ : ByteArray), (⟨#[100, 101, 102, 101, 114]⟩ : ByteArray), (⟨#[112, 97, 110, 105, 99]⟩ : ByteArray), (⟨#[114, 101, 99, 111, 118, 101, 114]⟩ : ByteArray), (⟨#[114, 101, 116, 117, 114, 110]⟩ : ByteArray), (⟨#[99, 104, 101, 99, 107]⟩ : ByteArray), (⟨#[101, 110, 116, 101, 114]⟩ : ByteArray), (⟨#[98, 111, 116, 116, 111, 109]⟩ : ByteArray), (⟨#[100, 114, 105, 118, 101, 114]⟩ : ByteArray)])
noncomputable def ref07_names : T_ref07_names := ref07_names.body
def ref07_names.p : FPat := fp 101 pz pz
def ref07_names.g (F : T_ref07_names) (v : ref07_names.p.T) (k : KR) : Option Bool := F (fun y0 => k (.ref [1, 0]) [([1, 0], ⟨9, 1, (.data .str y0)⟩)])
theorem ref07_names.eq : ∀ v k, exF Try.f101 ref07_names.p [] [] [] v k = ref07_names.g (ref07_names.body) v k := fun v k => by kernel_rfl
theorem ref07_names.ok : okF 1 ref07_names.p (ref07_names.g ref07_names) := fn2 (ref07_names.eq) Try.func101 (by kernel_rfl) .nil [] (by kernel_rfl) .nil
/-- function 95: sheerleg/sheerlegref07.Name -/
abbrev T_ref07_Name : Type := Int → (ByteArray → Option Bool) → Option Bool
noncomputable def ref07_Name.body (ref07_names : T_ref07_names) : T_ref07_Name := fun n216 k1 =>
  (ref07_names
  (fun ss217 => (cond_ (! (decide (n216 < (1 : Int)))) (cond_ (decide (n216 > (List.length ss217 : Int))) (k1 (⟨#[]⟩ : ByteArray)) (cond_ ((decide ((0 : Int) ≤ (IntKind.wrap .i64 (n216 - (1 : Int))))) && (decide ((IntKind.wrap .i64 (n216 - (1 : Int))) < (List.length ss217 : Int)))) (k1 (List.getD ss217 (Int.toNat (IntKind.wrap .i64 (n216 - (1 : Int)))) (⟨#[]⟩ : ByteArray))) none)) (k1 (⟨#[]⟩ : ByteArray)))))
noncomputable def ref07_Name : T_ref07_Name := ref07_Name.body ref07_names
def ref07_Name.p : FPat := fp 95 (pl (pd (.int .i64)) pz) pz
def ref07_Name.g (F : T_ref07_Name) (v : ref07_Name.p.T) (k : KR) : Option Bool := F v.1.1 (fun y0 => k (.d ⟨.str, y0⟩) [])
theorem ref07_Name.eq (F0 : T_ref07_names) : ∀ v k, exF Try.f95 ref07_Name.p [⟨ref07_names.p, ref07_names.g F0⟩] [] [] v k = ref07_Name.g (ref07_Name.body F0) v k := fun v k => by kernel_rfl
theorem ref07_Name.ok : okF 2 ref07_Name.p (ref07_Name.g ref07_Name) := fn2 (ref07_Name.eq ref07_names) Try.func95 (by kernel_rfl) (.cons ref07_names.ok .nil) [] (by kernel_rfl) .nil
/-- function 100: sheerleg/sheerlegref07.Ends -/
abbrev T_ref07_Ends : Type := Int → (Bool → Option Bool) → Option Bool
noncomputable def ref07_Ends.body (ref07_Name : T_ref07_Name) : T_ref07_Ends := fun n215 k1 =>
  (ref07_Name n215
  (fun s218 => (cond_ (! ((ByteArray.toList s218) == (ByteArray.toList (⟨#[106, 117, 109, 112]⟩ : ByteArray)))) (ref07_Name n215
  (fun s219 => (cond_ (! ((ByteArray.toList s219) == (ByteArray.toList (⟨#[112, 97, 110, 105, 99]⟩ : ByteArray)))) (ref07_Name n215
  (fun s220 => (k1 ((ByteArray.toList s220) == (ByteArray.toList (⟨#[114, 101, 116, 117, 114, 110]⟩ : ByteArray)))))) (k1 true)))) (k1 true))))
noncomputable def ref07_Ends : T_ref07_Ends := ref07_Ends.body ref07_Name
def ref07_Ends.p : FPat := fp 100 (pl (pd (.int .i64)) pz) pz
def ref07_Ends.g (F : T_ref07_Ends) (v : ref07_Ends.p.T) (k : KR) : Option Bool := F v.1.1 (fun y0 => k (.d ⟨.bool, y0⟩) [])
theorem ref07_Ends.eq (F0 : T_ref07_Name) : ∀ v k, exF Try.f100 ref07_Ends.p [⟨ref07_Name.p, ref07_Name.g F0⟩] [] [] v k = ref07_Ends.g (ref07_Ends.body F0) v k := fun v k => by kernel_rfl
theorem ref07_Ends.ok : okF 3 ref07_Ends.p (ref07_Ends.g ref07_Ends) := fn2 (ref07_Ends.eq ref07_Name) Try.func100 (by kernel_rfl) (.cons ref07_Name.ok .nil) [] (by kernel_rfl) .nil
/-- function 85: sheerleg/sheerlegref14.Next -/
abbrev T_ref14_Next : Type := Tc8 → Int → ((List Int) → Option Bool) → Option Bool
noncomputable def ref14_Next.body (ref07_Ends : T_ref07_Ends) : T_ref14_Next := fun ts213 n214 k1 =>
  (cond_ (! (decide (n214 < (0 : Int)))) (cond_ (decide (n214 ≥ (List.length ts213 : Int))) (k1 []) (cond_ ((decide ((0 : Int) ≤ n214)) && (decide (n214 < (List.length ts213 : Int)))) (cond_ ((List.getD ts213 (Int.toNat n214) (0, (0, (0, (0, (0, ())))))).1 == (11 : Int)) (k1 [(List.getD ts213 (Int.toNat n214) (0, (0, (0, (0, (0, ())))))).2.2.2.2.1]) (ref07_Ends (List.getD ts213 (Int.toNat n214) (0, (0, (0, (0, (0, ())))))).1
  (fun b221 => (cond_ b221 (k1 []) (cond_ (! ((List.getD ts213 (Int.toNat n214) (0, (0, (0, (0, (0, ())))))).1 != (12 : Int))) (cond_ ((List.getD ts213 (Int.toNat n214) (0, (0, (0, (0, (0, ())))))).2.2.2.2.1 == (IntKind.wrap .i64 (n214 + (1 : Int)))) (k1 [(IntKind.wrap .i64 (n214 + (1 : Int)))]) (cond_ (decide ((List.getD ts213 (Int.toNat n214) (0, (0, (0, (0, (0, ())))))).2.2.2.2.1 < (IntKind.wrap .i64 (n214 + (1 : Int))))) (k1 [(List.getD ts213 (Int.toNat n214) (0, (0, (0, (0, (0, ())))))).2.2.2.2.1, (IntKind.wrap .i64 (n214 + (1 : Int)))]) (k1 [(IntKind.wrap .i64 (n214 + (1 : Int))), (List.getD ts213 (Int.toNat n214) (0, (0, (0, (0, (0, ())))))).2.2.2.2.1]))) (k1 [(IntKind.wrap .i64 (n214 + (1 : Int)))])))))) none)) (k1 []))
noncomputable def ref14_Next : T_ref14_Next := ref14_Next.body ref07_Ends
def ref14_Next.p : FPat := fp 85 (pl (pb 0 105 Ty13) (pl (pd (.int .i64)) pz)) pz
def ref14_Next.g (F : T_ref14_Next) (v : ref14_Next.p.T) (k : KR) : Option Bool := F v.1.1 v.1.2.1 (fun y0 => k (.ref [1, 0]) [([1, 0], ⟨3, 1, (.data (.int .i64) y0)⟩)])
theorem ref14_Next.eq (F0 : T_ref07_Ends) : ∀ v k, exF Try.f85 ref14_Next.p [⟨ref07_Ends.p, ref07_Ends.g F0⟩] [] [] v k = ref14_Next.g (ref14_Next.body F0) v k := fun v k => by kernel_rfl
theorem ref14_Next.ok : okF 4 ref14_Next.p (ref14_Next.g ref14_Next) := fn2 (ref14_Next.eq ref07_Ends) Try.func85 (by kernel_rfl) (.cons ref07_Ends.ok .nil) [] (by kernel_rfl) .nil
/-- function 89: the loop in block 2 -/
abbrev T_ref14_Check_L0_L2 : Type := Tc8 → Int → Int → (List Int) → (Int → Option Bool) → (Tc8 → Int → Option Bool) → Option Bool
noncomputable def ref14_Check_L0_L2.body (ref14_Check_L0_L2 : T_ref14_Check_L0_L2) : T_ref14_Check_L0_L2 := fun ts223 n224 n225 ns226 k1 k2 =>
  (cond_ (decide (n225 < (List.length ns226 : Int))) (cond_ ((decide ((0 : Int) ≤ n225)) && (decide (n225 < (List.length ns226 : Int)))) (cond_ (! (decide ((List.getD ns226 (Int.toNat n225) (0 : Int)) < (0 : Int)))) (cond_ ((decide ((0 : Int) ≤ n225)) && (decide (n225 < (List.length ns226 : Int)))) (cond_ (decide ((List.getD ns226 (Int.toNat n225) (0 : Int)) ≥ (List.length ts223 : Int))) (k1 (10 : Int)) (ref14_Check_L0_L2 ts223 n224 (IntKind.wrap .i64 (n225 + (1 : Int))) ns226 k1 k2)) none) (k1 (10 : Int))) none) (k2 ts223 n224))
noncomputable def ref14_Check_L0_L2 : Nat → T_ref14_Check_L0_L2
  | 0 => fun _ _ _ _ _ _ => none
  | n + 1 => ref14_Check_L0_L2.body (ref14_Check_L0_L2 n)
def ref14_Check_L0_L2.p : LPat := lp 2 41 [0, 3, 4, 5] (pl (pb 0 105 Ty13) (pl (pd (.int .i64)) (ps (pr [1, 0]) (pl (pd (.int .i64)) pz)))) (pl (po [1, 0] 3 1 (ed (.int .i64))) pz)
def ref14_Check_L0_L2.g (F : T_ref14_Check_L0_L2) (v : ref14_Check_L0_L2.p.T) (k : KE) : Option Bool := F v.1.1 v.1.2.1 v.1.2.2.1 v.2.1 (fun y0 => k .ret ⟨fillS 41 [2] [(.d ⟨(.int .i64), y0⟩)], [], 2⟩) (fun y0 y1 => k (.exit 2) ⟨fillS 41 [0, 3] [(.bv 0 105 Ty13 y0), (.d ⟨(.int .i64), y1⟩)], [], 2⟩)
theorem ref14_Check_L0_L2.step (S : T_ref14_Check_L0_L2) : ∀ v k, exR 89 Try.f89 2 ref14_Check_L0_L2.p [] [] [] (ref14_Check_L0_L2.g S) v k = ref14_Check_L0_L2.g (ref14_Check_L0_L2.body S) v k := fun v k => by kernel_rfl
theorem ref14_Check_L0_L2.ok : okL 89 Try.f89 0 2 ref14_Check_L0_L2.p (ref14_Check_L0_L2.g (ref14_Check_L0_L2 ROUNDS)) := loop2 (G := fun n => ref14_Check_L0_L2.g (ref14_Check_L0_L2 n)) (fun n => ref14_Check_L0_L2.step (ref14_Check_L0_L2 n)) .nil [] (by kernel_rfl) .nil (fun _ _ => rfl)
/-- function 89: the loop in block 0 -/
abbrev T_ref14_Check_L0 : Type := Tc8 → Int → (Int → Option Bool) → (Option Bool) → Option Bool
noncomputable def ref14_Check_L0.body (ref14_Check_L0 : T_ref14_Check_L0) (ref14_Next : T_ref14_Next) (ref14_Check_L0_L2 : T_ref14_Check_L0_L2) : T_ref14_Check_L0 := fun ts211 n212 k1 k2 =>
  (cond_ (decide (n212 < (List.length ts211 : Int))) (ref14_Next ts211 n212
  (fun ns222 => (ref14_Check_L0_L2 ts211 n212 (0 : Int) ns222
  (fun n227 => (k1 n227))
  (fun ts228 n229 => (ref14_Check_L0 ts228 (IntKind.wrap .i64 (n229 + (1 : Int))) k1 k2))))) (k2))
noncomputable def ref14_Check_L0 : Nat → T_ref14_Check_L0
  | 0 => fun _ _ _ _ => none
  | n + 1 => ref14_Check_L0.body (ref14_Check_L0 n) ref14_Next (ref14_Check_L0_L2 ROUNDS)
def ref14_Check_L0.p : LPat := lp 2 41 [0, 3] (pl (pb 0 105 Ty13) (pl (pd (.int .i64)) pz)) pz
def ref14_Check_L0.g (F : T_ref14_Check_L0) (v : ref14_Check_L0.p.T) (k : KE) : Option Bool := F v.1.1 v.1.2.1 (fun y0 => k .ret ⟨fillS 41 [2] [(.d ⟨(.int .i64), y0⟩)], [], 2⟩) (k (.exit 0) ⟨fillS 41 [] [], [], 2⟩)
theorem ref14_Check_L0.step (S : T_ref14_Check_L0) (F0 : T_ref14_Next) (L0 : T_ref14_Check_L0_L2) : ∀ v k, exR 89 Try.f89 0 ref14_Check_L0.p [⟨ref14_Next.p, ref14_Next.g F0⟩] [] [⟨2, ref14_Check_L0_L2.p, ref14_Check_L0_L2.g L0⟩] (ref14_Check_L0.g S) v k = ref14_Check_L0.g (ref14_Check_L0.body S F0 L0) v k := fun v k => by kernel_rfl
theorem ref14_Check_L0.ok : okL 89 Try.f89 4 0 ref14_Check_L0.p (ref14_Check_L0.g (ref14_Check_L0 ROUNDS)) := loop2 (G := fun n => ref14_Check_L0.g (ref14_Check_L0 n)) (fun n => ref14_Check_L0.step (ref14_Check_L0 n) ref14_Next (ref14_Check_L0_L2 ROUNDS)) (.cons ref14_Next.ok .nil) [2] (by kernel_rfl) (.cons ref14_Check_L0_L2.ok .nil) (fun _ _ => rfl)
/-- function 89: sheerleg/sheerlegref14.Check -/
abbrev T_ref14_Check : Type := Tc8 → (Int → Option Bool) → Option Bool
noncomputable def ref14_Check.body (ref14_Check_L0 : T_ref14_Check_L0) : T_ref14_Check := fun ts210 k1 =>
  (cond_ ((List.length ts210 : Int) == (0 : Int)) (k1 (3 : Int)) (cond_ (decide ((List.length ts210 : Int) > (64 : Int))) (k1 (6 : Int)) (ref14_Check_L0 ts210 (0 : Int)
  (fun n230 => (k1 n230))
  (k1 (0 : Int)))))
noncomputable def ref14_Check : T_ref14_Check := ref14_Check.body (ref14_Check_L0 ROUNDS)
def ref14_Check.p : FPat := fp 89 (pl (pb 0 105 Ty13) pz) pz
def ref14_Check.g (F : T_ref14_Check) (v : ref14_Check.p.T) (k : KR) : Option Bool := F v.1.1 (fun y0 => k (.d ⟨(.int .i64), y0⟩) [])
theorem ref14_Check.eq (L0 : T_ref14_Check_L0) : ∀ v k, exF Try.f89 ref14_Check.p [] [] [⟨0, ref14_Check_L0.p, ref14_Check_L0.g L0⟩] v k = ref14_Check.g (ref14_Check.body L0) v k := fun v k => by kernel_rfl
theorem ref14_Check.ok : okF 5 ref14_Check.p (ref14_Check.g ref14_Check) := fn2 (ref14_Check.eq (ref14_Check_L0 ROUNDS)) Try.func89 (by kernel_rfl) .nil [0] (by kernel_rfl) (.cons ref14_Check_L0.ok .nil)
/-- function 84: sheerleg/sheerlegref08.Operand -/
abbrev T_ref08_Operand : Type := Tc3 → Int → (Int → Option Bool) → Option Bool
noncomputable def ref08_Operand.body : T_ref08_Operand := fun t238 n239 k1 =>
  (cond_ (n239 == (0 : Int)) (k1 t238.2.1) (cond_ (n239 == (1 : Int)) (k1 t238.2.2.1) (cond_ (n239 == (2 : Int)) (k1 t238.2.2.2.1) (cond_ (n239 == (3 : Int)) (k1 t238.2.2.2.2.1) (k1 (0 : Int))))))
noncomputable def ref08_Operand : T_ref08_Operand := ref08_Operand.body
def ref08_Operand.p : FPat := fp 84 (pl (pd Ty13) (pl (pd (.int .i64)) pz)) pz
def ref08_Operand.g (F : T_ref08_Operand) (v : ref08_Operand.p.T) (k : KR) : Option Bool := F v.1.1 v.1.2.1 (fun y0 => k (.d ⟨(.int .i64), y0⟩) [])
theorem ref08_Operand.eq : ∀ v k, exF Try.f84 ref08_Operand.p [] [] [] v k = ref08_Operand.g (ref08_Operand.body) v k := fun v k => by kernel_rfl
theorem ref08_Operand.ok : okF 1 ref08_Operand.p (ref08_Operand.g ref08_Operand) := fn2 (ref08_Operand.eq) Try.func84 (by kernel_rfl) .nil [] (by kernel_rfl) .nil
/-- function 90: the loop in block 0 -/
abbrev T_ref08_Check_L0 : Type := Int → Tc3 → (Int → Option Bool) → (Tc3 → Option Bool) → Option Bool
noncomputable def ref08_Check_L0.body (ref08_Check_L0 : T_ref08_Check_L0) (ref08_Operand : T_ref08_Operand) : T_ref08_Check_L0 := fun n236 t237 k1 k2 =>
  (cond_ (decide (n236 < (3 : Int))) (ref08_Operand t237 n236
  (fun n240 => (cond_ (! (decide (n240 < (0 : Int)))) (ref08_Operand t237 n236
  (fun n241 => (cond_ (decide (n241 > (255 : Int))) (k1 (9 : Int)) (ref08_Check_L0 (IntKind.wrap .i64 (n236 + (1 : Int))) t237 k1 k2)))) (k1 (9 : Int))))) (k2 t237))
noncomputable def ref08_Check_L0 : Nat → T_ref08_Check_L0
  | 0 => fun _ _ _ _ => none
  | n + 1 => ref08_Check_L0.body (ref08_Check_L0 n) ref08_Operand
def ref08_Check_L0.p : LPat := lp 2 51 [1, 3] (ps (pq [1, 0] 0 0) (pl (pd (.int .i64)) pz)) (pl (po [1, 0] 105 5 (es Ty13 (pl eh pz))) pz)
def ref08_Check_L0.g (F : T_ref08_Check_L0) (v : ref08_Check_L0.p.T) (k : KE) : Option Bool := F v.1.1 v.2.1.1 (fun y0 => k .ret ⟨fillS 51 [2] [(.d ⟨(.int .i64), y0⟩)], [], 2⟩) (fun y0 => k (.exit 0) ⟨fillS 51 [1] [(.ptr [1, 0] 0 0)], [([1, 0], ⟨105, 5, (.data Ty13 [y0])⟩)], 2⟩)
theorem ref08_Check_L0.step (S : T_ref08_Check_L0) (F0 : T_ref08_Operand) : ∀ v k, exR 90 Try.f90 0 ref08_Check_L0.p [⟨ref08_Operand.p, ref08_Operand.g F0⟩] [] [] (ref08_Check_L0.g S) v k = ref08_Check_L0.g (ref08_Check_L0.body S F0) v k := fun v k => by kernel_rfl
theorem ref08_Check_L0.ok : okL 90 Try.f90 1 0 ref08_Check_L0.p (ref08_Check_L0.g (ref08_Check_L0 ROUNDS)) := loop2 (G := fun n => ref08_Check_L0.g (ref08_Check_L0 n)) (fun n => ref08_Check_L0.step (ref08_Check_L0 n) ref08_Operand) (.cons ref08_Operand.ok .nil) [] (by kernel_rfl) .nil (fun _ _ => rfl)
/-- function 82: sheerleg/sheerlegref07.Shape -/
abbrev T_ref07_Shape : Type := Int → (ByteArray → Option Bool) → Option Bool
noncomputable def ref07_Shape.body (ref07_Name : T_ref07_Name) : T_ref07_Shape := fun n244 k1 =>
  (cond_ (decide (n244 ≥ (4 : Int))) (cond_ (decide (n244 ≤ (10 : Int))) (k1 (⟨#[119, 114, 114, 45]⟩ : ByteArray)) (ref07_Name n244
  (fun s245 => (cond_ ((ByteArray.toList s245) == (ByteArray.toList (⟨#[110, 111, 112]⟩ : ByteArray))) (k1 (⟨#[45, 45, 45, 45]⟩ : ByteArray)) (cond_ ((ByteArray.toList s245) == (ByteArray.toList (⟨#[115, 101, 116]⟩ : ByteArray))) (k1 (⟨#[119, 45, 45, 110]⟩ : ByteArray)) (cond_ ((ByteArray.toList s245) == (ByteArray.toList (⟨#[109, 111, 118, 101]⟩ : ByteArray))) (cond_ ((ByteArray.toList s245) == (ByteArray.toList (⟨#[109, 111, 118, 101]⟩ : ByteArray))) (k1 (⟨#[119, 114, 45, 45]⟩ : ByteArray)) (cond_ ((ByteArray.toList s245) == (ByteArray.toList (⟨#[106, 117, 109, 112]⟩ : ByteArray))) (k1 (⟨#[45, 45, 45, 116]⟩ : ByteArray)) (cond_ ((ByteArray.toList s245) == (ByteArray.toList (⟨#[122, 101, 114, 111]⟩ : ByteArray))) (k1 (⟨#[114, 45, 45, 116]⟩ : ByteArray)) (cond_ ((ByteArray.toList s245) == (ByteArray.toList (⟨#[105, 110]⟩ : ByteArray))) (k1 (⟨#[119, 45, 45, 45]⟩ : ByteArray)) (cond_ ((ByteArray.toList s245) == (ByteArray.toList (⟨#[111, 117, 116]⟩ : ByteArray))) (cond_ ((ByteArray.toList s245) == (ByteArray.toList (⟨#[111, 117, 116]⟩ : ByteArray))) (k1 (⟨#[114, 45, 45, 45]⟩ : ByteArray)) (cond_ ((ByteArray.toList s245) == (ByteArray.toList (⟨#[115, 116, 111, 114, 101]⟩ : ByteArray))) (k1 (⟨#[114, 114, 45, 45]⟩ : ByteArray)) (cond_ ((ByteArray.toList s245) == (ByteArray.toList (⟨#[102, 117, 110, 99]⟩ : ByteArray))) (k1 (⟨#[103, 45, 45, 45]⟩ : ByteArray)) (cond_ ((ByteArray.toList s245) == (ByteArray.toList (⟨#[112, 105, 99, 107]⟩ : ByteArray))) (k1 (⟨#[103, 114, 45, 45]⟩ : ByteArray)) (cond_ ((ByteArray.toList s245) == (ByteArray.toList (⟨#[99, 97, 108, 108]⟩ : ByteArray))) (k1 (⟨#[99, 45, 45, 45]⟩ : ByteArray)) (cond_ ((ByteArray.toList s245) == (ByteArray.toList (⟨#[118, 105, 97]⟩ : ByteArray))) (k1 (⟨#[99, 102, 107, 45]⟩ : ByteArray)) (cond_ ((ByteArray.toList s245) == (ByteArray.toList (⟨#[100, 101, 102, 101, 114]⟩ : ByteArray))) (k1 (⟨#[100, 45, 45, 45]⟩ : ByteArray)) (cond_ ((ByteArray.toList s245) == (ByteArray.toList (⟨#[114, 101, 99, 111, 118, 101, 114]⟩ : ByteArray))) (k1 (⟨#[119, 119, 45, 45]⟩ : ByteArray)) (cond_ ((ByteArray.toList s245) == (ByteArray.toList (⟨#[114, 101, 116, 117, 114, 110]⟩ : ByteArray))) (k1 (⟨#[118, 45, 45, 45]⟩ : ByteArray)) (k1 (⟨#[]⟩ : ByteArray))))))))))) (cond_ ((ByteArray.toList s245) == (ByteArray.toList (⟨#[112, 97, 110, 105, 99]⟩ : ByteArray))) (k1 (⟨#[114, 45, 45, 45]⟩ : ByteArray)) (cond_ ((ByteArray.toList s245) == (ByteArray.toList (⟨#[115, 116, 111, 114, 101]⟩ : ByteArray))) (k1 (⟨#[114, 114, 45, 45]⟩ : ByteArray)) (cond_ ((ByteArray.toList s245) == (ByteArray.toList (⟨#[102, 117, 110, 99]⟩ : ByteArray))) (k1 (⟨#[103, 45, 45, 45]⟩ : ByteArray)) (cond_ ((ByteArray.toList s245) == (ByteArray.toList (⟨#[112, 105, 99, 107]⟩ : ByteArray))) (k1 (⟨#[103, 114, 45, 45]⟩ : ByteArray)) (cond_ ((ByteArray.toList s245) == (ByteArray.toList (⟨#[99, 97, 108, 108]⟩ : ByteArray))) (k1 (⟨#[99, 45, 45, 45]⟩ : ByteArray)) (cond_ ((ByteArray.toList s245) == (ByteArray.toList (⟨#[118, 105, 97]⟩ : ByteArray))) (k1 (⟨#[99, 102, 107, 45]⟩ : ByteArray)) (cond_ ((ByteArray.toList s245) == (ByteArray.toList (⟨#[100, 101, 102, 101, 114]⟩ : ByteArray))) (k1 (⟨#[100, 45, 45, 45]⟩ : ByteArray)) (cond_ ((ByteArray.toList s245) == (ByteArray.toList (⟨#[114, 101, 99, 111, 118, 101, 114]⟩ : ByteArray))) (k1 (⟨#[119, 119, 45, 45]⟩ : ByteArray)) (cond_ ((ByteArray.toList s245) == (ByteArray.toList (⟨#[114, 101, 116, 117, 114, 110]⟩ : ByteArray))) (k1 (⟨#[118, 45, 45, 45]⟩ : ByteArray)) (k1 (⟨#[]⟩ : ByteArray)))))))))))))))) (cond_ ((ByteArray.toList s245) == (ByteArray.toList (⟨#[108, 111, 97, 100]⟩ : ByteArray))) (k1 (⟨#[119, 114, 45, 45]⟩ : ByteArray)) (cond_ ((ByteArray.toList s245) == (ByteArray.toList (⟨#[106, 117, 109, 112]⟩ : ByteArray))) (k1 (⟨#[45, 45, 45, 116]⟩ : ByteArray)) (cond_ ((ByteArray.toList s245) == (ByteArray.toList (⟨#[122, 101, 114, 111]⟩ : ByteArray))) (k1 (⟨#[114, 45, 45, 116]⟩ : ByteArray)) (cond_ ((ByteArray.toList s245) == (ByteArray.toList (⟨#[105, 110]⟩ : ByteArray))) (k1 (⟨#[119, 45, 45, 45]⟩ : ByteArray)) (cond_ ((ByteArray.toList s245) == (ByteArray.toList (⟨#[111, 117, 116]⟩ : ByteArray))) (cond_ ((ByteArray.toList s245) == (ByteArray.toList (⟨#[111, 117, 116]⟩ : ByteArray))) (k1 (⟨#[114, 45, 45, 45]⟩ : ByteArray)) (cond_ ((ByteArray.toList s245) == (ByteArray.toList (⟨#[115, 116, 111, 114, 101]⟩ : ByteArray))) (k1 (⟨#[114, 114, 45, 45]⟩ : ByteArray)) (cond_ ((ByteArray.toList s245) == (ByteArray.toList (⟨#[102, 117, 110, 99]⟩ : ByteArray))) (k1 (⟨#[103, 45, 45, 45]⟩ : ByteArray)) (cond_ ((ByteArray.toList s245) == (ByteArray.toList (⟨#[112, 105, 99, 107]⟩ : ByteArray))) (k1 (⟨#[103, 114, 45, 45]⟩ : ByteArray)) (cond_ ((ByteArray.toList s245) == (ByteArray.toList (⟨#[99, 97, 108, 108]⟩ : ByteArray))) (k1 (⟨#[99, 45, 45, 45]⟩ : ByteArray)) (cond_ ((ByteArray.toList s245) == (ByteArray.toList (⟨#[118, 105, 97]⟩ : ByteArray))) (k1 (⟨#[99, 102, 107, 45]⟩ : ByteArray)) (cond_ ((ByteArray.toList s245) == (ByteArray.toList (⟨#[100, 101, 102, 101, 114]⟩ : ByteArray))) (k1 (⟨#[100, 45, 45, 45]⟩ : ByteArray)) (cond_ ((ByteArray.toList s245) == (ByteArray.toList (⟨#[114, 101, 99, 111, 118, 101, 114]⟩ : ByteArray))) (k1 (⟨#[119, 119, 45, 45]⟩ : ByteArray)) (cond_ ((ByteArray.toList s245) == (ByteArray.toList (⟨#[114, 101, 116, 117, 114, 110]⟩ : ByteArray))) (k1 (⟨#[118, 45, 45, 45]⟩ : ByteArray)) (k1 (⟨#[]⟩ : ByteArray))))))))))) (cond_ ((ByteArray.toList s245) == (ByteArray.toList (⟨#[112, 97, 110, 105, 99]⟩ : ByteArray))) (k1 (⟨#[114, 45, 45, 45]⟩ : ByteArray)) (cond_ ((ByteArray.toList s245) == (ByteArray.toList (⟨#[115, 116, 111, 114, 101]⟩ : ByteArray))) (k1 (⟨#[114, 114, 45, 45]⟩ : ByteArray)) (cond_ ((ByteArray.toList s245) == (ByteArray.toList (⟨#[102, 117, 110, 99]⟩ : ByteArray))) (k1 (⟨#[103, 45, 45, 45]⟩ : ByteArray)) (cond_ ((ByteArray.toList s245) == (ByteArray.toList (⟨#[112, 105, 99, 107]⟩ : ByteArray))) (k1 (⟨#[103, 114, 45, 45]⟩ : ByteArray)) (cond_ ((ByteArray.toList s245) == (ByteArray.toList (⟨#[99, 97, 108, 108]⟩ : ByteArray))) (k1 (⟨#[99, 45, 45, 45]⟩ : ByteArray)) (cond_ ((ByteArray.toList s245) == (ByteArray.toList (⟨#[118, 105, 97]⟩ : ByteArray))) (k1 (⟨#[99, 102, 107, 45]⟩ : ByteArray)) (cond_ ((ByteArray.toList s245) == (ByteArray.toList (⟨#[100, 101, 102, 101, 114]⟩ : ByteArray))) (k1 (⟨#[100, 45, 45, 45]⟩ : ByteArray)) (cond_ ((ByteArray.toList s245) == (ByteArray.toList (⟨#[114, 101, 99, 111, 118, 101, 114]⟩ : ByteArray))) (k1 (⟨#[119, 119, 45, 45]⟩ : ByteArray)) (cond_ ((ByteArray.toList s245) == (ByteArray.toList (⟨#[114, 101, 116, 117, 114, 110]⟩ : ByteArray))) (k1 (⟨#[118, 45, 45, 45]⟩ : ByteArray)) (k1 (⟨#[]⟩ : ByteArray)))))))))))))))))))))) (ref07_Name n244
  (fun s246 => (cond_ ((ByteArray.toList s246) == (ByteArray.toList (⟨#[110, 111, 112]⟩ : ByteArray))) (k1 (⟨#[45, 45, 45, 45]⟩ : ByteArray)) (cond_ ((ByteArray.toList s246) == (ByteArray.toList (⟨#[115, 101, 116]⟩ : ByteArray))) (k1 (⟨#[119, 45, 45, 110]⟩ : ByteArray)) (cond_ ((ByteArray.toList s246) == (ByteArray.toList (⟨#[109, 111, 118, 101]⟩ : ByteArray))) (cond_ ((ByteArray.toList s246) == (ByteArray.toList (⟨#[109, 111, 118, 101]⟩ : ByteArray))) (k1 (⟨#[119, 114, 45, 45]⟩ : ByteArray)) (cond_ ((ByteArray.toList s246) == (ByteArray.toList (⟨#[106, 117, 109, 112]⟩ : ByteArray))) (k1 (⟨#[45, 45, 45, 116]⟩ : ByteArray)) (cond_ ((ByteArray.toList s246) == (ByteArray.toList (⟨#[122, 101, 114, 111]⟩ : ByteArray))) (k1 (⟨#[114, 45, 45, 116]⟩ : ByteArray)) (cond_ ((ByteArray.toList s246) == (ByteArray.toList (⟨#[105, 110]⟩ : ByteArray))) (k1 (⟨#[119, 45, 45, 45]⟩ : ByteArray)) (cond_ ((ByteArray.toList s246) == (ByteArray.toList (⟨#[111, 117, 116]⟩ : ByteArray))) (cond_ ((ByteArray.toList s246) == (ByteArray.toList (⟨#[111, 117, 116]⟩ : ByteArray))) (k1 (⟨#[114, 45, 45, 45]⟩ : ByteArray)) (cond_ ((ByteArray.toList s246) == (ByteArray.toList (⟨#[115, 116, 111, 114, 101]⟩ : ByteArray))) (k1 (⟨#[114, 114, 45, 45]⟩ : ByteArray)) (cond_ ((ByteArray.toList s246) == (ByteArray.toList (⟨#[102, 117, 110, 99]⟩ : ByteArray))) (k1 (⟨#[103, 45, 45, 45]⟩ : ByteArray)) (cond_ ((ByteArray.toList s246) == (ByteArray.toList (⟨#[112, 105, 99, 107]⟩ : ByteArray))) (k1 (⟨#[103, 114, 45, 45]⟩ : ByteArray)) (cond_ ((ByteArray.toList s246) == (ByteArray.toList (⟨#[99, 97, 108, 108]⟩ : ByteArray))) (k1 (⟨#[99, 45, 45, 45]⟩ : ByteArray)) (cond_ ((ByteArray.toList s246) == (ByteArray.toList (⟨#[118, 105, 97]⟩ : ByteArray))) (k1 (⟨#[99, 102, 107, 45]⟩ : ByteArray)) (cond_ ((ByteArray.toList s246) == (ByteArray.toList (⟨#[100, 101, 102, 101, 114]⟩ : ByteArray))) (k1 (⟨#[100, 45, 45, 45]⟩ : ByteArray)) (cond_ ((ByteArray.toList s246) == (ByteArray.toList (⟨#[114, 101, 99, 111, 118, 101, 114]⟩ : ByteArray))) (k1 (⟨#[119, 119, 45, 45]⟩ : ByteArray)) (cond_ ((ByteArray.toList s246) == (ByteArray.toList (⟨#[114, 101, 116, 117, 114, 110]⟩ : ByteArray))) (k1 (⟨#[118, 45, 45, 45]⟩ : ByteArray)) (k1 (⟨#[]⟩ : ByteArray))))))))))) (cond_ ((ByteArray.toList s246) == (ByteArray.toList (⟨#[112, 97, 110, 105, 99]⟩ : ByteArray))) (k1 (⟨#[114, 45, 45, 45]⟩ : ByteArray)) (cond_ ((ByteArray.toList s246) == (ByteArray.toList (⟨#[115, 116, 111, 114, 101]⟩ : ByteArray))) (k1 (⟨#[114, 114, 45, 45]⟩ : ByteArray)) (cond_ ((ByteArray.toList s246) == (ByteArray.toList (⟨#[102, 117, 110, 99]⟩ : ByteArray))) (k1 (⟨#[103, 45, 45, 45]⟩ : ByteArray)) (cond_ ((ByteArray.toList s246) == (ByteArray.toList (⟨#[112, 105, 99, 107]⟩ : ByteArray))) (k1 (⟨#[103, 114, 45, 45]⟩ : ByteArray)) (cond_ ((ByteArray.toList s246) == (ByteArray.toList (⟨#[99, 97, 108, 108]⟩ : ByteArray))) (k1 (⟨#[99, 45, 45, 45]⟩ : ByteArray)) (cond_ ((ByteArray.toList s246) == (ByteArray.toList (⟨#[118, 105, 97]⟩ : ByteArray))) (k1 (⟨#[99, 102, 107, 45]⟩ : ByteArray)) (cond_ ((ByteArray.toList s246) == (ByteArray.toList (⟨#[100, 101, 102, 101, 114]⟩ : ByteArray))) (k1 (⟨#[100, 45, 45, 45]⟩ : ByteArray)) (cond_ ((ByteArray.toList s246) == (ByteArray.toList (⟨#[114, 101, 99, 111, 118, 101, 114]⟩ : ByteArray))) (k1 (⟨#[119, 119, 45, 45]⟩ : ByteArray)) (cond_ ((ByteArray.toList s246) == (ByteArray.toList (⟨#[114, 101, 116, 117, 114, 110]⟩ : ByteArray))) (k1 (⟨#[118, 45, 45, 45]⟩ : ByteArray)) (k1 (⟨#[]⟩ : ByteArray)))))))))))))))) (cond_ ((ByteArray.toList s246) == (ByteArray.toList (⟨#[108, 111, 97, 100]⟩ : ByteArray))) (k1 (⟨#[119, 114, 45, 45]⟩ : ByteArray)) (cond_ ((ByteArray.toList s246) == (ByteArray.toList (⟨#[106, 117, 109, 112]⟩ : ByteArray))) (k1 (⟨#[45, 45, 45, 116]⟩ : ByteArray)) (cond_ ((ByteArray.toList s246) == (ByteArray.toList (⟨#[122, 101, 114, 111]⟩ : ByteArray))) (k1 (⟨#[114, 45, 45, 116]⟩ : ByteArray)) (cond_ ((ByteArray.toList s246) == (ByteArray.toList (⟨#[105, 110]⟩ : ByteArray))) (k1 (⟨#[119, 45, 45, 45]⟩ : ByteArray)) (cond_ ((ByteArray.toList s246) == (ByteArray.toList (⟨#[111, 117, 116]⟩ : ByteArray))) (cond_ ((ByteArray.toList s246) == (ByteArray.toList (⟨#[111, 117, 116]⟩ : ByteArray))) (k1 (⟨#[114, 45, 45, 45]⟩ : ByteArray)) (cond_ ((ByteArray.toList s246) == (ByteArray.toList (⟨#[115, 116, 111, 114, 101]⟩ : ByteArray))) (k1 (⟨#[114, 114, 45, 45]⟩ : ByteArray)) (cond_ ((ByteArray.toList s246) == (ByteArray.toList (⟨#[102, 117, 110, 99]⟩ : ByteArray))) (k1 (⟨#[103, 45, 45, 45]⟩ : ByteArray)) (cond_ ((ByteArray.toList s246) == (ByteArray.toList (⟨#[112, 105, 99, 107]⟩ : ByteArray))) (k1 (⟨#[103, 114, 45, 45]⟩ : ByteArray)) (cond_ ((ByteArray.toList s246) == (ByteArray.toList (⟨#[99, 97, 108, 108]⟩ : ByteArray))) (k1 (⟨#[99, 45, 45, 45]⟩ : ByteArray)) (cond_ ((ByteArray.toList s246) == (ByteArray.toList (⟨#[118, 105, 97]⟩ : ByteArray))) (k1 (⟨#[99, 102, 107, 45]⟩ : ByteArray)) (cond_ ((ByteArray.toList s246) == (ByteArray.toList (⟨#[100, 101, 102, 101, 114]⟩ : ByteArray))) (k1 (⟨#[100, 45, 45, 45]⟩ : ByteArray)) (cond_ ((ByteArray.toList s246) == (ByteArray.toList (⟨#[114, 101, 99, 111, 118, 101, 114]⟩ : ByteArray))) (k1 (⟨#[119, 119, 45, 45]⟩ : ByteArray)) (cond_ ((ByteArray.toList s246) == (ByteArray.toList (⟨#[114, 101, 116, 117, 114, 110]⟩ : ByteArray))) (k1 (⟨#[118, 45, 45, 45]⟩ : ByteArray)) (k1 (⟨#[]⟩ : ByteArray))))))))))) (cond_ ((ByteArray.toList s246) == (ByteArray.toList (⟨#[112, 97, 110, 105, 99]⟩ : ByteArray))) (k1 (⟨#[114, 45, 45, 45]⟩ : ByteArray)) (cond_ ((ByteArray.toList s246) == (ByteArray.toList (⟨#[115, 116, 111, 114, 101]⟩ : ByteArray))) (k1 (⟨#[114, 114, 45, 45]⟩ : ByteArray)) (cond_ ((ByteArray.toList s246) == (ByteArray.toList (⟨#[102, 117, 110, 99]⟩ : ByteArray))) (k1 (⟨#[103, 45, 45, 45]⟩ : ByteArray)) (cond_ ((ByteArray.toList s246) == (ByteArray.toList (⟨#[112, 105, 99, 107]⟩ : ByteArray))) (k1 (⟨#[103, 114, 45, 45]⟩ : ByteArray)) (cond_ ((ByteArray.toList s246) == (ByteArray.toList (⟨#[99, 97, 108, 108]⟩ : ByteArray))) (k1 (⟨#[99, 45, 45, 45]⟩ : ByteArray)) (cond_ ((ByteArray.toList s246) == (ByteArray.toList (⟨#[118, 105, 97]⟩ : ByteArray))) (k1 (⟨#[99, 102, 107, 45]⟩ : ByteArray)) (cond_ ((ByteArray.toList s246) == (ByteArray.toList (⟨#[100, 101, 102, 101, 114]⟩ : ByteArray))) (k1 (⟨#[100, 45, 45, 45]⟩ : ByteArray)) (cond_ ((ByteArray.toList s246) == (ByteArray.toList (⟨#[114, 101, 99, 111, 118, 101, 114]⟩ : ByteArray))) (k1 (⟨#[119, 119, 45, 45]⟩ : ByteArray)) (cond_ ((ByteArray.toList s246) == (ByteArray.toList (⟨#[114, 101, 116, 117, 114, 110]⟩ : ByteArray))) (k1 (⟨#[118, 45, 45, 45]⟩ : ByteArray)) (k1 (⟨#[]⟩ : ByteArray))))))))))))))))))))))
noncomputable def ref07_Shape : T_ref07_Shape := ref07_Shape.body ref07_Name
def ref07_Shape.p : FPat := fp 82 (pl (pd (.int .i64)) pz) pz
def ref07_Shape.g (F : T_ref07_Shape) (v : ref07_Shape.p.T) (k : KR) : Option Bool := F v.1.1 (fun y0 => k (.d ⟨.str, y0⟩) [])
theorem ref07_Shape.eq (F0 : T_ref07_Name) : ∀ v k, exF Try.f82 ref07_Shape.p [⟨ref07_Name.p, ref07_Name.g F0⟩] [] [] v k = ref07_Shape.g (ref07_Shape.body F0) v k := fun v k => by kernel_rfl
theorem ref07_Shape.ok : okF 3 ref07_Shape.p (ref07_Shape.g ref07_Shape) := fn2 (ref07_Shape.eq ref07_Name) Try.func82 (by kernel_rfl) (.cons ref07_Name.ok .nil) [] (by kernel_rfl) .nil
/-- function 90: the loop in block 2 -/
abbrev T_ref08_Check_L2 : Type := ByteArray → Int → Tc3 → (Int → Option Bool) → (Option Bool) → Option Bool
noncomputable def ref08_Check_L2.body (ref08_Check_L2 : T_ref08_Check_L2) (ref08_Operand : T_ref08_Operand) : T_ref08_Check_L2 := fun s248 n249 t250 k1 k2 =>
  (cond_ (decide (n249 < (((ByteArray.size s248) : Nat) : Int))) (cond_ ((decide ((0 : Int) ≤ n249)) && (decide (n249 < (((ByteArray.size s248) : Nat) : Int)))) (cond_ ((((UInt8.toNat (List.getD (Array.toList (ByteArray.data s248)) (Int.toNat n249) (0 : UInt8))) : Nat) : Int) == (45 : Int)) (ref08_Operand t250 n249
  (fun n251 => (cond_ (n251 != (0 : Int)) (k1 (2 : Int)) (ref08_Check_L2 s248 (IntKind.wrap .i64 (n249 + (1 : Int))) t250 k1 k2)))) (ref08_Check_L2 s248 (IntKind.wrap .i64 (n249 + (1 : Int))) t250 k1 k2)) none) (k2))
noncomputable def ref08_Check_L2 : Nat → T_ref08_Check_L2
  | 0 => fun _ _ _ _ _ => none
  | n + 1 => ref08_Check_L2.body (ref08_Check_L2 n) ref08_Operand
def ref08_Check_L2.p : LPat := lp 2 51 [1, 4, 5] (ps (pq [1, 0] 0 0) (pl (pd .str) (pl (pd (.int .i64)) pz))) (pl (po [1, 0] 105 5 (es Ty13 (pl eh pz))) pz)
def ref08_Check_L2.g (F : T_ref08_Check_L2) (v : ref08_Check_L2.p.T) (k : KE) : Option Bool := F v.1.1 v.1.2.1 v.2.1.1 (fun y0 => k .ret ⟨fillS 51 [2] [(.d ⟨(.int .i64), y0⟩)], [], 2⟩) (k (.exit 2) ⟨fillS 51 [] [], [], 2⟩)
theorem ref08_Check_L2.step (S : T_ref08_Check_L2) (F0 : T_ref08_Operand) : ∀ v k, exR 90 Try.f90 2 ref08_Check_L2.p [⟨ref08_Operand.p, ref08_Operand.g F0⟩] [] [] (ref08_Check_L2.g S) v k = ref08_Check_L2.g (ref08_Check_L2.body S F0) v k := fun v k => by kernel_rfl
theorem ref08_Check_L2.ok : okL 90 Try.f90 1 2 ref08_Check_L2.p (ref08_Check_L2.g (ref08_Check_L2 ROUNDS)) := loop2 (G := fun n => ref08_Check_L2.g (ref08_Check_L2 n)) (fun n => ref08_Check_L2.step (ref08_Check_L2 n) ref08_Operand) (.cons ref08_Operand.ok .nil) [] (by kernel_rfl) .nil (fun _ _ => rfl)
/-- function 90: sheerleg/sheerlegref08.Check -/
abbrev T_ref08_Check : Type := Tc3 → (Int → Option Bool) → Option Bool
noncomputable def ref08_Check.body (ref07_Name : T_ref07_Name) (ref07_Shape : T_ref07_Shape) (ref08_Check_L0 : T_ref08_Check_L0) (ref08_Check_L2 : T_ref08_Check_L2) : T_ref08_Check := fun t234 k1 =>
  (ref07_Name t234.1
  (fun s235 => (cond_ ((ByteArray.toList s235) == (ByteArray.toList (⟨#[]⟩ : ByteArray))) (k1 (8 : Int)) (ref08_Check_L0 (0 : Int) t234
  (fun n242 => (k1 n242))
  (fun t243 => (cond_ (! (decide (t243.2.2.2.2.1 < (-2147483648 : Int)))) (cond_ (decide (t243.2.2.2.2.1 > (2147483647 : Int))) (k1 (9 : Int)) (ref07_Shape t243.1
  (fun s247 => (ref08_Check_L2 s247 (0 : Int) t243
  (fun n252 => (k1 n252))
  (k1 (0 : Int)))))) (k1 (9 : Int))))))))
noncomputable def ref08_Check : T_ref08_Check := ref08_Check.body ref07_Name ref07_Shape (ref08_Check_L0 ROUNDS) (ref08_Check_L2 ROUNDS)
def ref08_Check.p : FPat := fp 90 (pl (pd Ty13) pz) pz
def ref08_Check.g (F : T_ref08_Check) (v : ref08_Check.p.T) (k : KR) : Option Bool := F v.1.1 (fun y0 => k (.d ⟨(.int .i64), y0⟩) [])
theorem ref08_Check.eq (F0 : T_ref07_Name) (F1 : T_ref07_Shape) (L0 : T_ref08_Check_L0) (L1 : T_ref08_Check_L2) : ∀ v k, exF Try.f90 ref08_Check.p [⟨ref07_Name.p, ref07_Name.g F0⟩, ⟨ref07_Shape.p, ref07_Shape.g F1⟩] [] [⟨0, ref08_Check_L0.p, ref08_Check_L0.g L0⟩, ⟨2, ref08_Check_L2.p, ref08_Check_L2.g L1⟩] v k = ref08_Check.g (ref08_Check.body F0 F1 L0 L1) v k := fun v k => by kernel_rfl
theorem ref08_Check.ok : okF 4 ref08_Check.p (ref08_Check.g ref08_Check) := fn2 (ref08_Check.eq ref07_Name ref07_Shape (ref08_Check_L0 ROUNDS) (ref08_Check_L2 ROUNDS)) Try.func90 (by kernel_rfl) (.cons ref07_Name.ok (.cons ref07_Shape.ok .nil)) [0, 2] (by kernel_rfl) (.cons ref08_Check_L0.ok (.cons ref08_Check_L2.ok .nil))
/-- function 91: sheerleg/sheerlegref07.Own -/
abbrev T_ref07_Own : Type := Int → (Bool → Option Bool) → Option Bool
noncomputable def ref07_Own.body : T_ref07_Own := fun n254 k1 =>
  (cond_ (decide (n254 ≥ (1 : Int))) (k1 (decide (n254 ≤ (24 : Int)))) (k1 false))
noncomputable def ref07_Own : T_ref07_Own := ref07_Own.body
def ref07_Own.p : FPat := fp 91 (pl (pd (.int .i64)) pz) pz
def ref07_Own.g (F : T_ref07_Own) (v : ref07_Own.p.T) (k : KR) : Option Bool := F v.1.1 (fun y0 => k (.d ⟨.bool, y0⟩) [])
theorem ref07_Own.eq : ∀ v k, exF Try.f91 ref07_Own.p [] [] [] v k = ref07_Own.g (ref07_Own.body) v k := fun v k => by kernel_rfl
theorem ref07_Own.ok : okF 1 ref07_Own.p (ref07_Own.g ref07_Own) := fn2 (ref07_Own.eq) Try.func91 (by kernel_rfl) .nil [] (by kernel_rfl) .nil
/-- function 78: the loop in block 0 -/
abbrev T_ref16_code_L0 : Type := Int → Tc16 → (Int → Option Bool) → (Option Bool) → Option Bool
noncomputable def ref16_code_L0.body (ref16_code_L0 : T_ref16_code_L0) (ref08_Check : T_ref08_Check) (ref07_Own : T_ref07_Own) : T_ref16_code_L0 := fun n232 t233 k1 k2 =>
  (cond_ (decide (n232 < (((List.length t233.2.2.2.2.2.2.2.1) : Nat) : Int))) (cond_ ((decide ((0 : Int) ≤ n232)) && (decide (n232 < (((List.length t233.2.2.2.2.2.2.2.1) : Nat) : Int)))) (ref08_Check (List.getD t233.2.2.2.2.2.2.2.1 (Int.toNat n232) (0, (0, (0, (0, (0, ()))))))
  (fun n253 => (cond_ (n253 != (0 : Int)) (k1 n253) (cond_ ((decide ((0 : Int) ≤ n232)) && (decide (n232 < (((List.length t233.2.2.2.2.2.2.2.1) : Nat) : Int)))) (ref07_Own (List.getD t233.2.2.2.2.2.2.2.1 (Int.toNat n232) (0, (0, (0, (0, (0, ())))))).1
  (fun b255 => (cond_ (! b255) (k1 (8 : Int)) (ref16_code_L0 (IntKind.wrap .i64 (n232 + (1 : Int))) t233 k1 k2)))) none)))) none) (k2))
noncomputable def ref16_code_L0 : Nat → T_ref16_code_L0
  | 0 => fun _ _ _ _ => none
  | n + 1 => ref16_code_L0.body (ref16_code_L0 n) ref08_Check ref07_Own
def ref16_code_L0.p : LPat := lp 2 36 [1, 4] (ps (pq [1, 0] 0 0) (pl (pd (.int .i64)) pz)) (pl (po [1, 0] 57 9 (es Ty20 (pl eh pz))) pz)
def ref16_code_L0.g (F : T_ref16_code_L0) (v : ref16_code_L0.p.T) (k : KE) : Option Bool := F v.1.1 v.2.1.1 (fun y0 => k .ret ⟨fillS 36 [2] [(.d ⟨(.int .i64), y0⟩)], [], 2⟩) (k (.exit 0) ⟨fillS 36 [] [], [], 2⟩)
theorem ref16_code_L0.step (S : T_ref16_code_L0) (F0 : T_ref08_Check) (F1 : T_ref07_Own) : ∀ v k, exR 78 Try.f78 0 ref16_code_L0.p [⟨ref08_Check.p, ref08_Check.g F0⟩, ⟨ref07_Own.p, ref07_Own.g F1⟩] [] [] (ref16_code_L0.g S) v k = ref16_code_L0.g (ref16_code_L0.body S F0 F1) v k := fun v k => by kernel_rfl
theorem ref16_code_L0.ok : okL 78 Try.f78 4 0 ref16_code_L0.p (ref16_code_L0.g (ref16_code_L0 ROUNDS)) := loop2 (G := fun n => ref16_code_L0.g (ref16_code_L0 n)) (fun n => ref16_code_L0.step (ref16_code_L0 n) ref08_Check ref07_Own) (.cons ref08_Check.ok (.cons ref07_Own.ok .nil)) [] (by kernel_rfl) .nil (fun _ _ => rfl)
/-- function 78: sheerleg/sheerlegref16.code -/
abbrev T_ref16_code : Type := Tc16 → (Int → Option Bool) → Option Bool
noncomputable def ref16_code.body (ref14_Check : T_ref14_Check) (ref16_code_L0 : T_ref16_code_L0) : T_ref16_code := fun t209 k1 =>
  (ref14_Check t209.2.2.2.2.2.2.2.1
  (fun n231 => (cond_ (n231 != (0 : Int)) (k1 n231) (ref16_code_L0 (0 : Int) t209
  (fun n256 => (k1 n256))
  (k1 (0 : Int))))))
noncomputable def ref16_code : T_ref16_code := ref16_code.body ref14_Check (ref16_code_L0 ROUNDS)
def ref16_code.p : FPat := fp 78 (pl (pd Ty20) pz) pz
def ref16_code.g (F : T_ref16_code) (v : ref16_code.p.T) (k : KR) : Option Bool := F v.1.1 (fun y0 => k (.d ⟨(.int .i64), y0⟩) [])
theorem ref16_code.eq (F0 : T_ref14_Check) (L0 : T_ref16_code_L0) : ∀ v k, exF Try.f78 ref16_code.p [⟨ref14_Check.p, ref14_Check.g F0⟩] [] [⟨0, ref16_code_L0.p, ref16_code_L0.g L0⟩] v k = ref16_code.g (ref16_code.body F0 L0) v k := fun v k => by kernel_rfl
theorem ref16_code.ok : okF 6 ref16_code.p (ref16_code.g ref16_code) := fn2 (ref16_code.eq ref14_Check (ref16_code_L0 ROUNDS)) Try.func78 (by kernel_rfl) (.cons ref14_Check.ok .nil) [0] (by kernel_rfl) (.cons ref16_code_L0.ok .nil)
/-- function 79: the loop in block 0 -/
abbrev T_ref16_lines_L0 : Type := Int → Tc16 → (Int → Option Bool) → (Option Bool) → Option Bool
noncomputable def ref16_lines_L0.body (ref16_lines_L0 : T_ref16_lines_L0) : T_ref16_lines_L0 := fun n259 t260 k1 k2 =>
  (cond_ (decide (n259 < (((List.length t260.2.2.2.2.2.2.1) : Nat) : Int))) (cond_ ((decide ((0 : Int) ≤ n259)) && (decide (n259 < (((List.length t260.2.2.2.2.2.2.1) : Nat) : Int)))) (cond_ (n259 == (0 : Int)) (cond_ (! ((List.getD t260.2.2.2.2.2.2.1 (Int.toNat n259) (0, (0, ()))).1 != (0 : Int))) (cond_ (! (decide ((List.getD t260.2.2.2.2.2.2.1 (Int.toNat n259) (0, (0, ()))).1 < (0 : Int)))) (cond_ (! (decide ((List.getD t260.2.2.2.2.2.2.1 (Int.toNat n259) (0, (0, ()))).1 ≥ (((List.length t260.2.2.2.2.2.2.2.1) : Nat) : Int)))) (cond_ (decide (n259 > (0 : Int))) (cond_ ((decide ((0 : Int) ≤ (IntKind.wrap .i64 (n259 - (1 : Int))))) && (decide ((IntKind.wrap .i64 (n259 - (1 : Int))) < (((List.length t260.2.2.2.2.2.2.1) : Nat) : Int)))) (cond_ (! (decide ((List.getD t260.2.2.2.2.2.2.1 (Int.toNat n259) (0, (0, ()))).1 ≤ (List.getD t260.2.2.2.2.2.2.1 (Int.toNat (IntKind.wrap .i64 (n259 - (1 : Int)))) (0, (0, ()))).1))) (cond_ (! (decide ((List.getD t260.2.2.2.2.2.2.1 (Int.toNat n259) (0, (0, ()))).2.1 < (0 : Int)))) (cond_ (decide ((List.getD t260.2.2.2.2.2.2.1 (Int.toNat n259) (0, (0, ()))).2.1 > (65535 : Int))) (k1 (9 : Int)) (ref16_lines_L0 (IntKind.wrap .i64 (n259 + (1 : Int))) t260 k1 k2)) (k1 (9 : Int))) (k1 (9 : Int))) none) (cond_ (! (decide ((List.getD t260.2.2.2.2.2.2.1 (Int.toNat n259) (0, (0, ()))).2.1 < (0 : Int)))) (cond_ (decide ((List.getD t260.2.2.2.2.2.2.1 (Int.toNat n259) (0, (0, ()))).2.1 > (65535 : Int))) (k1 (9 : Int)) (ref16_lines_L0 (IntKind.wrap .i64 (n259 + (1 : Int))) t260 k1 k2)) (k1 (9 : Int)))) (k1 (9 : Int))) (k1 (9 : Int))) (k1 (9 : Int))) (cond_ (! (decide ((List.getD t260.2.2.2.2.2.2.1 (Int.toNat n259) (0, (0, ()))).1 < (0 : Int)))) (cond_ (! (decide ((List.getD t260.2.2.2.2.2.2.1 (Int.toNat n259) (0, (0, ()))).1 ≥ (((List.length t260.2.2.2.2.2.2.2.1) : Nat) : Int)))) (cond_ (decide (n259 > (0 : Int))) (cond_ ((decide ((0 : Int) ≤ (IntKind.wrap .i64 (n259 - (1 : Int))))) && (decide ((IntKind.wrap .i64 (n259 - (1 : Int))) < (((List.length t260.2.2.2.2.2.2.1) : Nat) : Int)))) (cond_ (! (decide ((List.getD t260.2.2.2.2.2.2.1 (Int.toNat n259) (0, (0, ()))).1 ≤ (List.getD t260.2.2.2.2.2.2.1 (Int.toNat (IntKind.wrap .i64 (n259 - (1 : Int)))) (0, (0, ()))).1))) (cond_ (! (decide ((List.getD t260.2.2.2.2.2.2.1 (Int.toNat n259) (0, (0, ()))).2.1 < (0 : Int)))) (cond_ (decide ((List.getD t260.2.2.2.2.2.2.1 (Int.toNat n259) (0, (0, ()))).2.1 > (65535 : Int))) (k1 (9 : Int)) (ref16_lines_L0 (IntKind.wrap .i64 (n259 + (1 : Int))) t260 k1 k2)) (k1 (9 : Int))) (k1 (9 : Int))) none) (cond_ (! (decide ((List.getD t260.2.2.2.2.2.2.1 (Int.toNat n259) (0, (0, ()))).2.1 < (0 : Int)))) (cond_ (decide ((List.getD t260.2.2.2.2.2.2.1 (Int.toNat n259) (0, (0, ()))).2.1 > (65535 : Int))) (k1 (9 : Int)) (ref16_lines_L0 (IntKind.wrap .i64 (n259 + (1 : Int))) t260 k1 k2)) (k1 (9 : Int)))) (k1 (9 : Int))) (k1 (9 : Int)))) none) (k2))
noncomputable def ref16_lines_L0 : Nat → T_ref16_lines_L0
  | 0 => fun _ _ _ _ => none
  | n + 1 => ref16_lines_L0.body (ref16_lines_L0 n)
def ref16_lines_L0.p : LPat := lp 2 67 [1, 3] (ps (pq [1, 0] 0 0) (pl (pd (.int .i64)) pz)) (pl (po [1, 0] 57 9 (es Ty20 (pl eh pz))) pz)
def ref16_lines_L0.g (F : T_ref16_lines_L0) (v : ref16_lines_L0.p.T) (k : KE) : Option Bool := F v.1.1 v.2.1.1 (fun y0 => k .ret ⟨fillS 67 [2] [(.d ⟨(.int .i64), y0⟩)], [], 2⟩) (k (.exit 0) ⟨fillS 67 [] [], [], 2⟩)
theorem ref16_lines_L0.step (S : T_ref16_lines_L0) : ∀ v k, exR 79 Try.f79 0 ref16_lines_L0.p [] [] [] (ref16_lines_L0.g S) v k = ref16_lines_L0.g (ref16_lines_L0.body S) v k := fun v k => by kernel_rfl
theorem ref16_lines_L0.ok : okL 79 Try.f79 0 0 ref16_lines_L0.p (ref16_lines_L0.g (ref16_lines_L0 ROUNDS)) := loop2 (G := fun n => ref16_lines_L0.g (ref16_lines_L0 n)) (fun n => ref16_lines_L0.step (ref16_lines_L0 n)) .nil [] (by kernel_rfl) .nil (fun _ _ => rfl)
/-- function 79: sheerleg/sheerlegref16.lines -/
abbrev T_ref16_lines : Type := Tc16 → (Int → Option Bool) → Option Bool
noncomputable def ref16_lines.body (ref16_lines_L0 : T_ref16_lines_L0) : T_ref16_lines := fun t258 k1 =>
  (cond_ (decide ((((List.length t258.2.2.2.2.2.2.1) : Nat) : Int) > (16 : Int))) (k1 (6 : Int)) (ref16_lines_L0 (0 : Int) t258
  (fun n261 => (k1 n261))
  (k1 (0 : Int))))
noncomputable def ref16_lines : T_ref16_lines := ref16_lines.body (ref16_lines_L0 ROUNDS)
def ref16_lines.p : FPat := fp 79 (pl (pd Ty20) pz) pz
def ref16_lines.g (F : T_ref16_lines) (v : ref16_lines.p.T) (k : KR) : Option Bool := F v.1.1 (fun y0 => k (.d ⟨(.int .i64), y0⟩) [])
theorem ref16_lines.eq (L0 : T_ref16_lines_L0) : ∀ v k, exF Try.f79 ref16_lines.p [] [] [⟨0, ref16_lines_L0.p, ref16_lines_L0.g L0⟩] v k = ref16_lines.g (ref16_lines.body L0) v k := fun v k => by kernel_rfl
theorem ref16_lines.ok : okF 1 ref16_lines.p (ref16_lines.g ref16_lines) := fn2 (ref16_lines.eq (ref16_lines_L0 ROUNDS)) Try.func79 (by kernel_rfl) .nil [0] (by kernel_rfl) (.cons ref16_lines_L0.ok .nil)
/-- function 73: the loop in block 0 -/
abbrev T_ref16_Check_L0 : Type := Int → Tc16 → (Int → Option Bool) → (Option Bool) → Option Bool
noncomputable def ref16_Check_L0.body (ref16_Check_L0 : T_ref16_Check_L0) : T_ref16_Check_L0 := fun n263 t264 k1 k2 =>
  (cond_ (decide (n263 < (((List.length t264.2.2.2.2.2.2.2.2.1) : Nat) : Int))) (cond_ ((decide ((0 : Int) ≤ n263)) && (decide (n263 < (((List.length t264.2.2.2.2.2.2.2.2.1) : Nat) : Int)))) (cond_ (! (decide ((List.getD t264.2.2.2.2.2.2.2.2.1 (Int.toNat n263) (0, (0, (false, ())))).1 < (0 : Int)))) (cond_ (! (decide ((List.getD t264.2.2.2.2.2.2.2.2.1 (Int.toNat n263) (0, (0, (false, ())))).1 ≥ (((List.length t264.2.2.2.2.2.2.2.1) : Nat) : Int)))) (cond_ (decide (n263 > (0 : Int))) (cond_ ((decide ((0 : Int) ≤ (IntKind.wrap .i64 (n263 - (1 : Int))))) && (decide ((IntKind.wrap .i64 (n263 - (1 : Int))) < (((List.length t264.2.2.2.2.2.2.2.2.1) : Nat) : Int)))) (cond_ (! (decide ((List.getD t264.2.2.2.2.2.2.2.2.1 (Int.toNat n263) (0, (0, (false, ())))).1 ≤ (List.getD t264.2.2.2.2.2.2.2.2.1 (Int.toNat (IntKind.wrap .i64 (n263 - (1 : Int)))) (0, (0, (false, ())))).1))) (cond_ ((decide ((0 : Int) ≤ n263)) && (decide (n263 < (((List.length t264.2.2.2.2.2.2.2.2.1) : Nat) : Int)))) (cond_ (! (decide ((List.getD t264.2.2.2.2.2.2.2.2.1 (Int.toNat n263) (0, (0, (false, ())))).2.1 < (0 : Int)))) (cond_ ((decide ((0 : Int) ≤ n263)) && (decide (n263 < (((List.length t264.2.2.2.2.2.2.2.2.1) : Nat) : Int)))) (cond_ (decide ((List.getD t264.2.2.2.2.2.2.2.2.1 (Int.toNat n263) (0, (0, (false, ())))).2.1 ≥ (32 : Int))) (k1 (11 : Int)) (ref16_Check_L0 (IntKind.wrap .i64 (n263 + (1 : Int))) t264 k1 k2)) none) (k1 (11 : Int))) none) (k1 (11 : Int))) none) (cond_ ((decide ((0 : Int) ≤ n263)) && (decide (n263 < (((List.length t264.2.2.2.2.2.2.2.2.1) : Nat) : Int)))) (cond_ (! (decide ((List.getD t264.2.2.2.2.2.2.2.2.1 (Int.toNat n263) (0, (0, (false, ())))).2.1 < (0 : Int)))) (cond_ ((decide ((0 : Int) ≤ n263)) && (decide (n263 < (((List.length t264.2.2.2.2.2.2.2.2.1) : Nat) : Int)))) (cond_ (decide ((List.getD t264.2.2.2.2.2.2.2.2.1 (Int.toNat n263) (0, (0, (false, ())))).2.1 ≥ (32 : Int))) (k1 (11 : Int)) (ref16_Check_L0 (IntKind.wrap .i64 (n263 + (1 : Int))) t264 k1 k2)) none) (k1 (11 : Int))) none)) (k1 (11 : Int))) (k1 (11 : Int))) none) (k2))
noncomputable def ref16_Check_L0 : Nat → T_ref16_Check_L0
  | 0 => fun _ _ _ _ => none
  | n + 1 => ref16_Check_L0.body (ref16_Check_L0 n)
def ref16_Check_L0.p : LPat := lp 2 104 [1, 6] (ps (pq [1, 0] 0 0) (pl (pd (.int .i64)) pz)) (pl (po [1, 0] 57 9 (es Ty20 (pl eh pz))) pz)
def ref16_Check_L0.g (F : T_ref16_Check_L0) (v : ref16_Check_L0.p.T) (k : KE) : Option Bool := F v.1.1 v.2.1.1 (fun y0 => k .ret ⟨fillS 104 [2] [(.d ⟨(.int .i64), y0⟩)], [], 2⟩) (k (.exit 0) ⟨fillS 104 [] [], [], 2⟩)
theorem ref16_Check_L0.step (S : T_ref16_Check_L0) : ∀ v k, exR 73 Try.f73 0 ref16_Check_L0.p [] [] [] (ref16_Check_L0.g S) v k = ref16_Check_L0.g (ref16_Check_L0.body S) v k := fun v k => by kernel_rfl
theorem ref16_Check_L0.ok : okL 73 Try.f73 0 0 ref16_Check_L0.p (ref16_Check_L0.g (ref16_Check_L0 ROUNDS)) := loop2 (G := fun n => ref16_Check_L0.g (ref16_Check_L0 n)) (fun n => ref16_Check_L0.step (ref16_Check_L0 n)) .nil [] (by kernel_rfl) .nil (fun _ _ => rfl)
/-- function 73: sheerleg/sheerlegref16.Check -/
abbrev T_ref16_Check : Type := Tc16 → (Int → Option Bool) → Option Bool
noncomputable def ref16_Check.body (ref16_slots : T_ref16_slots) (ref16_code : T_ref16_code) (ref16_lines : T_ref16_lines) (ref16_Check_L0 : T_ref16_Check_L0) : T_ref16_Check := fun t197 k1 =>
  (ref16_slots t197
  (fun n208 => (cond_ (n208 != (0 : Int)) (k1 n208) (cond_ (! (decide (t197.2.2.1 < (0 : Int)))) (cond_ (decide (t197.2.2.1 > (4096 : Int))) (k1 (9 : Int)) (ref16_code t197
  (fun n257 => (cond_ (n257 != (0 : Int)) (k1 n257) (cond_ (! (decide (t197.2.2.2.2.1 < (0 : Int)))) (cond_ (! (decide (t197.2.2.2.2.2.1 < t197.2.2.2.2.1))) (cond_ (decide (t197.2.2.2.2.2.1 > (((List.length t197.2.2.2.2.2.2.2.1) : Nat) : Int))) (k1 (9 : Int)) (ref16_lines t197
  (fun n262 => (cond_ (n262 != (0 : Int)) (k1 n262) (ref16_Check_L0 (0 : Int) t197
  (fun n265 => (k1 n265))
  (k1 (0 : Int))))))) (k1 (9 : Int))) (k1 (9 : Int))))))) (k1 (9 : Int))))))
noncomputable def ref16_Check : T_ref16_Check := ref16_Check.body ref16_slots ref16_code ref16_lines (ref16_Check_L0 ROUNDS)
def ref16_Check.p : FPat := fp 73 (pl (pd Ty20) pz) pz
def ref16_Check.g (F : T_ref16_Check) (v : ref16_Check.p.T) (k : KR) : Option Bool := F v.1.1 (fun y0 => k (.d ⟨(.int .i64), y0⟩) [])
theorem ref16_Check.eq (F0 : T_ref16_slots) (F1 : T_ref16_code) (F2 : T_ref16_lines) (L0 : T_ref16_Check_L0) : ∀ v k, exF Try.f73 ref16_Check.p [⟨ref16_slots.p, ref16_slots.g F0⟩, ⟨ref16_code.p, ref16_code.g F1⟩, ⟨ref16_lines.p, ref16_lines.g F2⟩] [] [⟨0, ref16_Check_L0.p, ref16_Check_L0.g L0⟩] v k = ref16_Check.g (ref16_Check.body F0 F1 F2 L0) v k := fun v k => by kernel_rfl
theorem ref16_Check.ok : okF 7 ref16_Check.p (ref16_Check.g ref16_Check) := fn2 (ref16_Check.eq ref16_slots ref16_code ref16_lines (ref16_Check_L0 ROUNDS)) Try.func73 (by kernel_rfl) (.cons ref16_slots.ok (.cons ref16_code.ok (.cons ref16_lines.ok .nil))) [0] (by kernel_rfl) (.cons ref16_Check_L0.ok .nil)
/-- function 92: sheerleg/sheerlegref07.Need -/
abbrev T_ref07_Need : Type := Int → (Int → Option Bool) → Option Bool
noncomputable def ref07_Need.body (ref07_Name : T_ref07_Name) : T_ref07_Need := fun n276 k1 =>
  (ref07_Name n276
  (fun s277 => (cond_ ((ByteArray.toList s277) == (ByteArray.toList (⟨#[99, 97, 108, 108]⟩ : ByteArray))) (k1 (1 : Int)) (cond_ ((ByteArray.toList s277) == (ByteArray.toList (⟨#[102, 117, 110, 99]⟩ : ByteArray))) (k1 (2 : Int)) (cond_ ((ByteArray.toList s277) == (ByteArray.toList (⟨#[108, 111, 97, 100]⟩ : ByteArray))) (cond_ ((ByteArray.toList s277) == (ByteArray.toList (⟨#[108, 111, 97, 100]⟩ : ByteArray))) (k1 (3 : Int)) (cond_ ((ByteArray.toList s277) == (ByteArray.toList (⟨#[112, 105, 99, 107]⟩ : ByteArray))) (k1 (4 : Int)) (cond_ ((ByteArray.toList s277) == (ByteArray.toList (⟨#[100, 101, 102, 101, 114]⟩ : ByteArray))) (k1 (5 : Int)) (k1 (0 : Int))))) (cond_ ((ByteArray.toList s277) == (ByteArray.toList (⟨#[115, 116, 111, 114, 101]⟩ : ByteArray))) (k1 (3 : Int)) (cond_ ((ByteArray.toList s277) == (ByteArray.toList (⟨#[112, 105, 99, 107]⟩ : ByteArray))) (k1 (4 : Int)) (cond_ ((ByteArray.toList s277) == (ByteArray.toList (⟨#[100, 101, 102, 101, 114]⟩ : ByteArray))) (k1 (5 : Int)) (k1 (0 : Int))))))))))
noncomputable def ref07_Need : T_ref07_Need := ref07_Need.body ref07_Name
def ref07_Need.p : FPat := fp 92 (pl (pd (.int .i64)) pz) pz
def ref07_Need.g (F : T_ref07_Need) (v : ref07_Need.p.T) (k : KR) : Option Bool := F v.1.1 (fun y0 => k (.d ⟨(.int .i64), y0⟩) [])
theorem ref07_Need.eq (F0 : T_ref07_Name) : ∀ v k, exF Try.f92 ref07_Need.p [⟨ref07_Name.p, ref07_Name.g F0⟩] [] [] v k = ref07_Need.g (ref07_Need.body F0) v k := fun v k => by kernel_rfl
theorem ref07_Need.ok : okF 3 ref07_Need.p (ref07_Need.g ref07_Need) := fn2 (ref07_Need.eq ref07_Name) Try.func92 (by kernel_rfl) (.cons ref07_Name.ok .nil) [] (by kernel_rfl) .nil
/-- function 93: the loop in block 0 -/
abbrev T_ref17_has_L0 : Type := Int → Int → Tc16 → (Bool → Option Bool) → (Option Bool) → Option Bool
noncomputable def ref17_has_L0.body (ref17_has_L0 : T_ref17_has_L0) : T_ref17_has_L0 := fun n281 n282 t283 k1 k2 =>
  (cond_ (decide (n282 < (((List.length t283.2.2.2.2.2.2.2.2.1) : Nat) : Int))) (cond_ ((decide ((0 : Int) ≤ n282)) && (decide (n282 < (((List.length t283.2.2.2.2.2.2.2.2.1) : Nat) : Int)))) (cond_ ((List.getD t283.2.2.2.2.2.2.2.2.1 (Int.toNat n282) (0, (0, (false, ())))).1 == n281) (k1 true) (ref17_has_L0 n281 (IntKind.wrap .i64 (n282 + (1 : Int))) t283 k1 k2)) none) (k2))
noncomputable def ref17_has_L0 : Nat → T_ref17_has_L0
  | 0 => fun _ _ _ _ _ => none
  | n + 1 => ref17_has_L0.body (ref17_has_L0 n)
def ref17_has_L0.p : LPat := lp 2 21 [1, 2, 5] (pl (pd (.int .i64)) (ps (pq [1, 0] 0 0) (pl (pd (.int .i64)) pz))) (pl (po [1, 0] 57 9 (es Ty20 (pl eh pz))) pz)
def ref17_has_L0.g (F : T_ref17_has_L0) (v : ref17_has_L0.p.T) (k : KE) : Option Bool := F v.1.1 v.1.2.1 v.2.1.1 (fun y0 => k .ret ⟨fillS 21 [4] [(.d ⟨.bool, y0⟩)], [], 2⟩) (k (.exit 0) ⟨fillS 21 [] [], [], 2⟩)
theorem ref17_has_L0.step (S : T_ref17_has_L0) : ∀ v k, exR 93 Try.f93 0 ref17_has_L0.p [] [] [] (ref17_has_L0.g S) v k = ref17_has_L0.g (ref17_has_L0.body S) v k := fun v k => by kernel_rfl
theorem ref17_has_L0.ok : okL 93 Try.f93 0 0 ref17_has_L0.p (ref17_has_L0.g (ref17_has_L0 ROUNDS)) := loop2 (G := fun n => ref17_has_L0.g (ref17_has_L0 n)) (fun n => ref17_has_L0.step (ref17_has_L0 n)) .nil [] (by kernel_rfl) .nil (fun _ _ => rfl)
/-- function 93: sheerleg/sheerlegref17.has -/
abbrev T_ref17_has : Type := Tc16 → Int → (Bool → Option Bool) → Option Bool
noncomputable def ref17_has.body (ref17_has_L0 : T_ref17_has_L0) : T_ref17_has := fun t279 n280 k1 =>
  (ref17_has_L0 n280 (0 : Int) t279
  (fun b284 => (k1 b284))
  (k1 false))
noncomputable def ref17_has : T_ref17_has := ref17_has.body (ref17_has_L0 ROUNDS)
def ref17_has.p : FPat := fp 93 (pl (pd Ty20) (pl (pd (.int .i64)) pz)) pz
def ref17_has.g (F : T_ref17_has) (v : ref17_has.p.T) (k : KR) : Option Bool := F v.1.1 v.1.2.1 (fun y0 => k (.d ⟨.bool, y0⟩) [])
theorem ref17_has.eq (L0 : T_ref17_has_L0) : ∀ v k, exF Try.f93 ref17_has.p [] [] [⟨0, ref17_has_L0.p, ref17_has_L0.g L0⟩] v k = ref17_has.g (ref17_has.body L0) v k := fun v k => by kernel_rfl
theorem ref17_has.ok : okF 1 ref17_has.p (ref17_has.g ref17_has) := fn2 (ref17_has.eq (ref17_has_L0 ROUNDS)) Try.func93 (by kernel_rfl) .nil [0] (by kernel_rfl) (.cons ref17_has_L0.ok .nil)
/-- function 55: the loop in block 0 -/
abbrev T_ref17_Sym_L0 : Type := Int → Int → Tc16 → (Int → Option Bool) → (Option Bool) → Option Bool
noncomputable def ref17_Sym_L0.body (ref17_Sym_L0 : T_ref17_Sym_L0) : T_ref17_Sym_L0 := fun n288 n289 t290 k1 k2 =>
  (cond_ (decide (n289 < (((List.length t290.2.2.2.2.2.2.2.2.1) : Nat) : Int))) (cond_ ((decide ((0 : Int) ≤ n289)) && (decide (n289 < (((List.length t290.2.2.2.2.2.2.2.2.1) : Nat) : Int)))) (cond_ ((List.getD t290.2.2.2.2.2.2.2.2.1 (Int.toNat n289) (0, (0, (false, ())))).1 == n288) (cond_ ((decide ((0 : Int) ≤ n289)) && (decide (n289 < (((List.length t290.2.2.2.2.2.2.2.2.1) : Nat) : Int)))) (k1 (List.getD t290.2.2.2.2.2.2.2.2.1 (Int.toNat n289) (0, (0, (false, ())))).2.1) none) (ref17_Sym_L0 n288 (IntKind.wrap .i64 (n289 + (1 : Int))) t290 k1 k2)) none) (k2))
noncomputable def ref17_Sym_L0 : Nat → T_ref17_Sym_L0
  | 0 => fun _ _ _ _ _ => none
  | n + 1 => ref17_Sym_L0.body (ref17_Sym_L0 n)
def ref17_Sym_L0.p : LPat := lp 2 27 [1, 2, 5] (pl (pd (.int .i64)) (ps (pq [1, 0] 0 0) (pl (pd (.int .i64)) pz))) (pl (po [1, 0] 57 9 (es Ty20 (pl eh pz))) pz)
def ref17_Sym_L0.g (F : T_ref17_Sym_L0) (v : ref17_Sym_L0.p.T) (k : KE) : Option Bool := F v.1.1 v.1.2.1 v.2.1.1 (fun y0 => k .ret ⟨fillS 27 [4] [(.d ⟨(.int .i64), y0⟩)], [], 2⟩) (k (.exit 0) ⟨fillS 27 [] [], [], 2⟩)
theorem ref17_Sym_L0.step (S : T_ref17_Sym_L0) : ∀ v k, exR 55 Try.f55 0 ref17_Sym_L0.p [] [] [] (ref17_Sym_L0.g S) v k = ref17_Sym_L0.g (ref17_Sym_L0.body S) v k := fun v k => by kernel_rfl
theorem ref17_Sym_L0.ok : okL 55 Try.f55 0 0 ref17_Sym_L0.p (ref17_Sym_L0.g (ref17_Sym_L0 ROUNDS)) := loop2 (G := fun n => ref17_Sym_L0.g (ref17_Sym_L0 n)) (fun n => ref17_Sym_L0.step (ref17_Sym_L0 n)) .nil [] (by kernel_rfl) .nil (fun _ _ => rfl)
/-- function 55: sheerleg/sheerlegref17.Sym -/
abbrev T_ref17_Sym : Type := Tc16 → Int → (Int → Option Bool) → Option Bool
noncomputable def ref17_Sym.body (ref17_Sym_L0 : T_ref17_Sym_L0) : T_ref17_Sym := fun t286 n287 k1 =>
  (ref17_Sym_L0 n287 (0 : Int) t286
  (fun n291 => (k1 n291))
  (k1 (-1 : Int)))
noncomputable def ref17_Sym : T_ref17_Sym := ref17_Sym.body (ref17_Sym_L0 ROUNDS)
def ref17_Sym.p : FPat := fp 55 (pl (pd Ty20) (pl (pd (.int .i64)) pz)) pz
def ref17_Sym.g (F : T_ref17_Sym) (v : ref17_Sym.p.T) (k : KR) : Option Bool := F v.1.1 v.1.2.1 (fun y0 => k (.d ⟨(.int .i64), y0⟩) [])
theorem ref17_Sym.eq (L0 : T_ref17_Sym_L0) : ∀ v k, exF Try.f55 ref17_Sym.p [] [] [⟨0, ref17_Sym_L0.p, ref17_Sym_L0.g L0⟩] v k = ref17_Sym.g (ref17_Sym.body L0) v k := fun v k => by kernel_rfl
theorem ref17_Sym.ok : okF 1 ref17_Sym.p (ref17_Sym.g ref17_Sym) := fn2 (ref17_Sym.eq (ref17_Sym_L0 ROUNDS)) Try.func55 (by kernel_rfl) .nil [0] (by kernel_rfl) (.cons ref17_Sym_L0.ok .nil)
/-- function 94: sheerleg/sheerlegref17.fits -/
abbrev T_ref17_fits : Type := Int → Tc7 → (Bool → Option Bool) → Option Bool
noncomputable def ref17_fits.body (ref05_Is : T_ref05_Is) : T_ref17_fits := fun n293 t294 k1 =>
  (cond_ (n293 == (1 : Int)) (cond_ (n293 == (1 : Int)) (k1 (t294.2.2.1 == (1 : Int))) (cond_ (n293 == (3 : Int)) (cond_ (t294.2.2.1 == (2 : Int)) (k1 (t294.2.2.2.1 == (0 : Int))) (k1 false)) (cond_ (t294.2.2.1 == (2 : Int)) (ref05_Is (IntKind.wrap .i64 (t294.2.2.2.1 - (1 : Int)))
  (fun b295 => (k1 b295))) (k1 false)))) (cond_ (n293 == (2 : Int)) (cond_ (n293 == (2 : Int)) (k1 (t294.2.2.1 == (1 : Int))) (cond_ (n293 == (3 : Int)) (cond_ (t294.2.2.1 == (2 : Int)) (k1 (t294.2.2.2.1 == (0 : Int))) (k1 false)) (cond_ (t294.2.2.1 == (2 : Int)) (ref05_Is (IntKind.wrap .i64 (t294.2.2.2.1 - (1 : Int)))
  (fun b296 => (k1 b296))) (k1 false)))) (cond_ (n293 == (5 : Int)) (k1 (t294.2.2.1 == (1 : Int))) (cond_ (n293 == (3 : Int)) (cond_ (t294.2.2.1 == (2 : Int)) (k1 (t294.2.2.2.1 == (0 : Int))) (k1 false)) (cond_ (t294.2.2.1 == (2 : Int)) (ref05_Is (IntKind.wrap .i64 (t294.2.2.2.1 - (1 : Int)))
  (fun b297 => (k1 b297))) (k1 false))))))
noncomputable def ref17_fits : T_ref17_fits := ref17_fits.body ref05_Is
def ref17_fits.p : FPat := fp 94 (pl (pd (.int .i64)) (pl (pd Ty10) pz)) pz
def ref17_fits.g (F : T_ref17_fits) (v : ref17_fits.p.T) (k : KR) : Option Bool := F v.1.1 v.1.2.1 (fun y0 => k (.d ⟨.bool, y0⟩) [])
theorem ref17_fits.eq (F0 : T_ref05_Is) : ∀ v k, exF Try.f94 ref17_fits.p [⟨ref05_Is.p, ref05_Is.g F0⟩] [] [] v k = ref17_fits.g (ref17_fits.body F0) v k := fun v k => by kernel_rfl
theorem ref17_fits.ok : okF 2 ref17_fits.p (ref17_fits.g ref17_fits) := fn2 (ref17_fits.eq ref05_Is) Try.func94 (by kernel_rfl) (.cons ref05_Is.ok .nil) [] (by kernel_rfl) .nil
/-- function 80: sheerleg/sheerlegref17.refers -/
abbrev T_ref17_refers : Type := Tc16 → Tc11 → Int → (Tc7 → Int → Option Bool) → Option Bool
noncomputable def ref17_refers.body (ref07_Need : T_ref07_Need) (ref17_has : T_ref17_has) (ref17_Sym : T_ref17_Sym) (ref17_fits : T_ref17_fits) : T_ref17_refers := fun t273 ts274 n275 k1 =>
  (cond_ ((decide ((0 : Int) ≤ n275)) && (decide (n275 < (((List.length t273.2.2.2.2.2.2.2.1) : Nat) : Int)))) (ref07_Need (List.getD t273.2.2.2.2.2.2.2.1 (Int.toNat n275) (0, (0, (0, (0, (0, ())))))).1
  (fun n278 => (ref17_has t273 n275
  (fun b285 => (cond_ (! ((decide (n278 > (0 : Int))) == b285)) (k1 ((⟨#[]⟩ : ByteArray), (false, (0, (0, (0, ()))))) (11 : Int)) (cond_ (n278 == (0 : Int)) (k1 ((⟨#[]⟩ : ByteArray), (false, (0, (0, (0, ()))))) (0 : Int)) (ref17_Sym t273 n275
  (fun n292 => (cond_ (! (decide (n292 < (0 : Int)))) (cond_ (decide (n292 ≥ (List.length ts274 : Int))) (k1 ((⟨#[]⟩ : ByteArray), (false, (0, (0, (0, ()))))) (11 : Int)) (cond_ ((decide ((0 : Int) ≤ n292)) && (decide (n292 < (List.length ts274 : Int)))) (ref17_fits n278 (List.getD ts274 (Int.toNat n292) ((⟨#[]⟩ : ByteArray), (false, (0, (0, (0, ()))))))
  (fun b298 => (cond_ (! b298) (k1 ((⟨#[]⟩ : ByteArray), (false, (0, (0, (0, ()))))) (8 : Int)) (cond_ ((decide ((0 : Int) ≤ n292)) && (decide (n292 < (List.length ts274 : Int)))) (k1 (List.getD ts274 (Int.toNat n292) ((⟨#[]⟩ : ByteArray), (false, (0, (0, (0, ())))))) (0 : Int)) none)))) none)) (k1 ((⟨#[]⟩ : ByteArray), (false, (0, (0, (0, ()))))) (11 : Int))))))))))) none)
noncomputable def ref17_refers : T_ref17_refers := ref17_refers.body ref07_Need ref17_has ref17_Sym ref17_fits
def ref17_refers.p : FPat := fp 80 (pl (pd Ty20) (pl (pb 0 96 Ty10) (pl (pd (.int .i64)) pz))) pz
def ref17_refers.g (F : T_ref17_refers) (v : ref17_refers.p.T) (k : KR) : Option Bool := F v.1.1 v.1.2.1 v.1.2.2.1 (fun y0 y1 => k (.tup [(.d ⟨Ty10, y0⟩), (.d ⟨(.int .i64), y1⟩)]) [])
theorem ref17_refers.eq (F0 : T_ref07_Need) (F1 : T_ref17_has) (F2 : T_ref17_Sym) (F3 : T_ref17_fits) : ∀ v k, exF Try.f80 ref17_refers.p [⟨ref07_Need.p, ref07_Need.g F0⟩, ⟨ref17_has.p, ref17_has.g F1⟩, ⟨ref17_Sym.p, ref17_Sym.g F2⟩, ⟨ref17_fits.p, ref17_fits.g F3⟩] [] [] v k = ref17_refers.g (ref17_refers.body F0 F1 F2 F3) v k := fun v k => by kernel_rfl
theorem ref17_refers.ok : okF 4 ref17_refers.p (ref17_refers.g ref17_refers) := fn2 (ref17_refers.eq ref07_Need ref17_has ref17_Sym ref17_fits) Try.func80 (by kernel_rfl) (.cons ref07_Need.ok (.cons ref17_has.ok (.cons ref17_Sym.ok (.cons ref17_fits.ok .nil)))) [] (by kernel_rfl) .nil
/-- function 81: sheerleg/sheerlegref05.Later -/
abbrev T_ref05_Later : Type := Int → (Bool → Option Bool) → Option Bool
noncomputable def ref05_Later.body : T_ref05_Later := fun n302 k1 =>
  (cond_ (! (n302 == (0 : Int))) (k1 (n302 == (2 : Int))) (k1 true))
noncomputable def ref05_Later : T_ref05_Later := ref05_Later.body
def ref05_Later.p : FPat := fp 81 (pl (pd (.int .i64)) pz) pz
def ref05_Later.g (F : T_ref05_Later) (v : ref05_Later.p.T) (k : KR) : Option Bool := F v.1.1 (fun y0 => k (.d ⟨.bool, y0⟩) [])
theorem ref05_Later.eq : ∀ v k, exF Try.f81 ref05_Later.p [] [] [] v k = ref05_Later.g (ref05_Later.body) v k := fun v k => by kernel_rfl
theorem ref05_Later.ok : okF 1 ref05_Later.p (ref05_Later.g ref05_Later) := fn2 (ref05_Later.eq) Try.func81 (by kernel_rfl) .nil [] (by kernel_rfl) .nil
/-- function 96: sheerleg/sheerlegref17.slot -/
abbrev T_ref17_slot : Type := Tc16 → Int → Int → (Int → Option Bool) → Option Bool
noncomputable def ref17_slot.body : T_ref17_slot := fun t316 n317 n318 k1 =>
  (cond_ (! (decide (n317 < (0 : Int)))) (cond_ (decide (n317 ≥ (((List.length t316.2.1) : Nat) : Int))) (k1 (9 : Int)) (cond_ ((decide ((0 : Int) ≤ n317)) && (decide (n317 < (((List.length t316.2.1) : Nat) : Int)))) (cond_ ((List.getD t316.2.1 (Int.toNat n317) (0 : Int)) != n318) (k1 (8 : Int)) (k1 (0 : Int))) none)) (k1 (9 : Int)))
noncomputable def ref17_slot : T_ref17_slot := ref17_slot.body
def ref17_slot.p : FPat := fp 96 (pl (pd Ty20) (pl (pd (.int .i64)) (pl (pd (.int .i64)) pz))) pz
def ref17_slot.g (F : T_ref17_slot) (v : ref17_slot.p.T) (k : KR) : Option Bool := F v.1.1 v.1.2.1 v.1.2.2.1 (fun y0 => k (.d ⟨(.int .i64), y0⟩) [])
theorem ref17_slot.eq : ∀ v k, exF Try.f96 ref17_slot.p [] [] [] v k = ref17_slot.g (ref17_slot.body) v k := fun v k => by kernel_rfl
theorem ref17_slot.ok : okF 1 ref17_slot.p (ref17_slot.g ref17_slot) := fn2 (ref17_slot.eq) Try.func96 (by kernel_rfl) .nil [] (by kernel_rfl) .nil
/-- function 99: sheerleg/sheerlegref05.Answers -/
abbrev T_ref05_Answers : Type := Int → (Bool → Option Bool) → Option Bool
noncomputable def ref05_Answers.body (ref05_Is : T_ref05_Is) : T_ref05_Answers := fun n325 k1 =>
  (ref05_Is n325
  (fun b326 => (cond_ b326 (k1 ((Int.tmod n325 (2 : Int)) == (1 : Int))) (k1 false))))
noncomputable def ref05_Answers : T_ref05_Answers := ref05_Answers.body ref05_Is
def ref05_Answers.p : FPat := fp 99 (pl (pd (.int .i64)) pz) pz
def ref05_Answers.g (F : T_ref05_Answers) (v : ref05_Answers.p.T) (k : KR) : Option Bool := F v.1.1 (fun y0 => k (.d ⟨.bool, y0⟩) [])
theorem ref05_Answers.eq (F0 : T_ref05_Is) : ∀ v k, exF Try.f99 ref05_Answers.p [⟨ref05_Is.p, ref05_Is.g F0⟩] [] [] v k = ref05_Answers.g (ref05_Answers.body F0) v k := fun v k => by kernel_rfl
theorem ref05_Answers.ok : okF 2 ref05_Answers.p (ref05_Answers.g ref05_Answers) := fn2 (ref05_Answers.eq ref05_Is) Try.func99 (by kernel_rfl) (.cons ref05_Is.ok .nil) [] (by kernel_rfl) .nil
/-- function 97: the loop in block 0 -/
abbrev T_ref17_called_L0 : Type := Int → Int → Int → Tc16 → (Int → Option Bool) → (Option Bool) → Option Bool
noncomputable def ref17_called_L0.body (ref17_called_L0 : T_ref17_called_L0) (ref17_slot : T_ref17_slot) : T_ref17_called_L0 := fun n328 n329 n330 t331 k1 k2 =>
  (cond_ (decide (n330 < (if (n329 < (1 : Int)) then (1 : Int) else n329))) (ref17_slot t331 (IntKind.wrap .i64 (n328 + n330)) (0 : Int)
  (fun n332 => (cond_ (n332 != (0 : Int)) (k1 n332) (ref17_called_L0 n328 n329 (IntKind.wrap .i64 (n330 + (1 : Int))) t331 k1 k2)))) (k2))
noncomputable def ref17_called_L0 : Nat → T_ref17_called_L0
  | 0 => fun _ _ _ _ _ _ => none
  | n + 1 => ref17_called_L0.body (ref17_called_L0 n) ref17_slot
def ref17_called_L0.p : LPat := lp 2 35 [1, 3, 7, 8] (pl (pd (.int .i64)) (ps (pq [1, 0] 0 0) (pl (pd (.int .i64)) (pl (pd (.int .i64)) pz)))) (pl (po [1, 0] 57 9 (es Ty20 (pl eh pz))) pz)
def ref17_called_L0.g (F : T_ref17_called_L0) (v : ref17_called_L0.p.T) (k : KE) : Option Bool := F v.1.1 v.1.2.1 v.1.2.2.1 v.2.1.1 (fun y0 => k .ret ⟨fillS 35 [6] [(.d ⟨(.int .i64), y0⟩)], [], 2⟩) (k (.exit 0) ⟨fillS 35 [] [], [], 2⟩)
theorem ref17_called_L0.step (S : T_ref17_called_L0) (F0 : T_ref17_slot) : ∀ v k, exR 97 Try.f97 0 ref17_called_L0.p [⟨ref17_slot.p, ref17_slot.g F0⟩] [] [] (ref17_called_L0.g S) v k = ref17_called_L0.g (ref17_called_L0.body S F0) v k := fun v k => by kernel_rfl
theorem ref17_called_L0.ok : okL 97 Try.f97 1 0 ref17_called_L0.p (ref17_called_L0.g (ref17_called_L0 ROUNDS)) := loop2 (G := fun n => ref17_called_L0.g (ref17_called_L0 n)) (fun n => ref17_called_L0.step (ref17_called_L0 n) ref17_slot) (.cons ref17_slot.ok .nil) [] (by kernel_rfl) .nil (fun _ _ => rfl)
/-- function 97: sheerleg/sheerlegref17.called -/
abbrev T_ref17_called : Type := Tc16 → Int → Int → (Int → Option Bool) → Option Bool
noncomputable def ref17_called.body (ref05_Params : T_ref05_Params) (ref05_Answers : T_ref05_Answers) (ref17_called_L0 : T_ref17_called_L0) : T_ref17_called := fun t321 n322 n323 k1 =>
  (ref05_Params n323
  (fun n324 => (cond_ (n324 == (0 : Int)) (ref05_Answers n323
  (fun b327 => (cond_ (! b327) (cond_ (n322 != (0 : Int)) (k1 (2 : Int)) (k1 (0 : Int))) (ref17_called_L0 n322 n324 (0 : Int) t321
  (fun n333 => (k1 n333))
  (k1 (0 : Int)))))) (ref17_called_L0 n322 n324 (0 : Int) t321
  (fun n334 => (k1 n334))
  (k1 (0 : Int))))))
noncomputable def ref17_called : T_ref17_called := ref17_called.body ref05_Params ref05_Answers (ref17_called_L0 ROUNDS)
def ref17_called.p : FPat := fp 97 (pl (pd Ty20) (pl (pd (.int .i64)) (pl (pd (.int .i64)) pz))) pz
def ref17_called.g (F : T_ref17_called) (v : ref17_called.p.T) (k : KR) : Option Bool := F v.1.1 v.1.2.1 v.1.2.2.1 (fun y0 => k (.d ⟨(.int .i64), y0⟩) [])
theorem ref17_called.eq (F0 : T_ref05_Params) (F1 : T_ref05_Answers) (L0 : T_ref17_called_L0) : ∀ v k, exF Try.f97 ref17_called.p [⟨ref05_Params.p, ref05_Params.g F0⟩, ⟨ref05_Answers.p, ref05_Answers.g F1⟩] [] [⟨0, ref17_called_L0.p, ref17_called_L0.g L0⟩] v k = ref17_called.g (ref17_called.body F0 F1 L0) v k := fun v k => by kernel_rfl
theorem ref17_called.ok : okF 3 ref17_called.p (ref17_called.g ref17_called) := fn2 (ref17_called.eq ref05_Params ref05_Answers (ref17_called_L0 ROUNDS)) Try.func97 (by kernel_rfl) (.cons ref05_Params.ok (.cons ref05_Answers.ok .nil)) [0] (by kernel_rfl) (.cons ref17_called_L0.ok .nil)
/-- function 98: sheerleg/sheerlegref17.perhaps -/
abbrev T_ref17_perhaps : Type := Tc16 → Int → Bool → (Int → Option Bool) → Option Bool
noncomputable def ref17_perhaps.body (ref17_slot : T_ref17_slot) : T_ref17_perhaps := fun t337 n338 b339 k1 =>
  (cond_ b339 (ref17_slot t337 n338 (0 : Int)
  (fun n340 => (k1 n340))) (cond_ (n338 != (0 : Int)) (k1 (2 : Int)) (k1 (0 : Int))))
noncomputable def ref17_perhaps : T_ref17_perhaps := ref17_perhaps.body ref17_slot
def ref17_perhaps.p : FPat := fp 98 (pl (pd Ty20) (pl (pd (.int .i64)) (pl (pd .bool) pz))) pz
def ref17_perhaps.g (F : T_ref17_perhaps) (v : ref17_perhaps.p.T) (k : KR) : Option Bool := F v.1.1 v.1.2.1 v.1.2.2.1 (fun y0 => k (.d ⟨(.int .i64), y0⟩) [])
theorem ref17_perhaps.eq (F0 : T_ref17_slot) : ∀ v k, exF Try.f98 ref17_perhaps.p [⟨ref17_slot.p, ref17_slot.g F0⟩] [] [] v k = ref17_perhaps.g (ref17_perhaps.body F0) v k := fun v k => by kernel_rfl
theorem ref17_perhaps.ok : okF 2 ref17_perhaps.p (ref17_perhaps.g ref17_perhaps) := fn2 (ref17_perhaps.eq ref17_slot) Try.func98 (by kernel_rfl) (.cons ref17_slot.ok .nil) [] (by kernel_rfl) .nil
/-- function 83: sheerleg/sheerlegref17.operand -/
abbrev T_ref17_operand : Type := Tc16 → Tc3 → Tc7 → Int → Int → (Int → Option Bool) → Option Bool
noncomputable def ref17_operand.body (ref17_slot : T_ref17_slot) (ref17_called : T_ref17_called) (ref05_Params : T_ref05_Params) (ref17_perhaps : T_ref17_perhaps) (ref05_Answers : T_ref05_Answers) : T_ref17_operand := fun t311 t312 t313 n314 n315 k1 =>
  (cond_ (! (t312.1 == (19 : Int))) (cond_ (! (t312.1 == (17 : Int))) (cond_ (t312.1 == (21 : Int)) (cond_ (t312.1 == (18 : Int)) (cond_ (n314 == (119 : Int)) (cond_ (n314 == (119 : Int)) (ref17_slot t311 n315 (0 : Int)
  (fun n319 => (k1 n319))) (cond_ (n314 == (103 : Int)) (cond_ (n314 == (103 : Int)) (ref17_slot t311 n315 (IntKind.wrap .i64 ((1 : Int) + (IntKind.wrap .i64 (t313.2.2.2.1 - (1 : Int)))))
  (fun n320 => (k1 n320))) (cond_ (n314 == (99 : Int)) (ref17_called t311 n315 (IntKind.wrap .i64 (t313.2.2.2.1 - (1 : Int)))
  (fun n335 => (k1 n335))) (cond_ (n314 == (100 : Int)) (ref05_Params (IntKind.wrap .i64 (t313.2.2.2.1 - (1 : Int)))
  (fun n336 => (ref17_perhaps t311 n315 (decide (n336 > (0 : Int)))
  (fun n341 => (k1 n341))))) (cond_ (n314 == (118 : Int)) (ref05_Answers t311.1
  (fun b342 => (ref17_perhaps t311 n315 b342
  (fun n343 => (k1 n343))))) (k1 (0 : Int)))))) (cond_ (n314 == (102 : Int)) (ref17_slot t311 n315 (IntKind.wrap .i64 ((1 : Int) + (IntKind.wrap .i64 (t313.2.2.2.1 - (1 : Int)))))
  (fun n344 => (k1 n344))) (cond_ (n314 == (99 : Int)) (ref17_called t311 n315 (IntKind.wrap .i64 (t313.2.2.2.1 - (1 : Int)))
  (fun n345 => (k1 n345))) (cond_ (n314 == (100 : Int)) (ref05_Params (IntKind.wrap .i64 (t313.2.2.2.1 - (1 : Int)))
  (fun n346 => (ref17_perhaps t311 n315 (decide (n346 > (0 : Int)))
  (fun n347 => (k1 n347))))) (cond_ (n314 == (118 : Int)) (ref05_Answers t311.1
  (fun b348 => (ref17_perhaps t311 n315 b348
  (fun n349 => (k1 n349))))) (k1 (0 : Int)))))))) (cond_ (n314 == (114 : Int)) (ref17_slot t311 n315 (0 : Int)
  (fun n350 => (k1 n350))) (cond_ (n314 == (103 : Int)) (cond_ (n314 == (103 : Int)) (ref17_slot t311 n315 (IntKind.wrap .i64 ((1 : Int) + (IntKind.wrap .i64 (t313.2.2.2.1 - (1 : Int)))))
  (fun n351 => (k1 n351))) (cond_ (n314 == (99 : Int)) (ref17_called t311 n315 (IntKind.wrap .i64 (t313.2.2.2.1 - (1 : Int)))
  (fun n352 => (k1 n352))) (cond_ (n314 == (100 : Int)) (ref05_Params (IntKind.wrap .i64 (t313.2.2.2.1 - (1 : Int)))
  (fun n353 => (ref17_perhaps t311 n315 (decide (n353 > (0 : Int)))
  (fun n354 => (k1 n354))))) (cond_ (n314 == (118 : Int)) (ref05_Answers t311.1
  (fun b355 => (ref17_perhaps t311 n315 b355
  (fun n356 => (k1 n356))))) (k1 (0 : Int)))))) (cond_ (n314 == (102 : Int)) (ref17_slot t311 n315 (IntKind.wrap .i64 ((1 : Int) + (IntKind.wrap .i64 (t313.2.2.2.1 - (1 : Int)))))
  (fun n357 => (k1 n357))) (cond_ (n314 == (99 : Int)) (ref17_called t311 n315 (IntKind.wrap .i64 (t313.2.2.2.1 - (1 : Int)))
  (fun n358 => (k1 n358))) (cond_ (n314 == (100 : Int)) (ref05_Params (IntKind.wrap .i64 (t313.2.2.2.1 - (1 : Int)))
  (fun n359 => (ref17_perhaps t311 n315 (decide (n359 > (0 : Int)))
  (fun n360 => (k1 n360))))) (cond_ (n314 == (118 : Int)) (ref05_Answers t311.1
  (fun b361 => (ref17_perhaps t311 n315 b361
  (fun n362 => (k1 n362))))) (k1 (0 : Int))))))))) (cond_ (n314 == (119 : Int)) (cond_ (n314 == (119 : Int)) (ref17_slot t311 n315 (0 : Int)
  (fun n363 => (k1 n363))) (cond_ (n314 == (103 : Int)) (cond_ (n314 == (103 : Int)) (ref17_slot t311 n315 (IntKind.wrap .i64 ((1 : Int) + t313.2.2.2.1))
  (fun n364 => (k1 n364))) (cond_ (n314 == (99 : Int)) (ref17_called t311 n315 t313.2.2.2.1
  (fun n365 => (k1 n365))) (cond_ (n314 == (100 : Int)) (ref05_Params t313.2.2.2.1
  (fun n366 => (ref17_perhaps t311 n315 (decide (n366 > (0 : Int)))
  (fun n367 => (k1 n367))))) (cond_ (n314 == (118 : Int)) (ref05_Answers t311.1
  (fun b368 => (ref17_perhaps t311 n315 b368
  (fun n369 => (k1 n369))))) (k1 (0 : Int)))))) (cond_ (n314 == (102 : Int)) (ref17_slot t311 n315 (IntKind.wrap .i64 ((1 : Int) + t313.2.2.2.1))
  (fun n370 => (k1 n370))) (cond_ (n314 == (99 : Int)) (ref17_called t311 n315 t313.2.2.2.1
  (fun n371 => (k1 n371))) (cond_ (n314 == (100 : Int)) (ref05_Params t313.2.2.2.1
  (fun n372 => (ref17_perhaps t311 n315 (decide (n372 > (0 : Int)))
  (fun n373 => (k1 n373))))) (cond_ (n314 == (118 : Int)) (ref05_Answers t311.1
  (fun b374 => (ref17_perhaps t311 n315 b374
  (fun n375 => (k1 n375))))) (k1 (0 : Int)))))))) (cond_ (n314 == (114 : Int)) (ref17_slot t311 n315 (0 : Int)
  (fun n376 => (k1 n376))) (cond_ (n314 == (103 : Int)) (cond_ (n314 == (103 : Int)) (ref17_slot t311 n315 (IntKind.wrap .i64 ((1 : Int) + t313.2.2.2.1))
  (fun n377 => (k1 n377))) (cond_ (n314 == (99 : Int)) (ref17_called t311 n315 t313.2.2.2.1
  (fun n378 => (k1 n378))) (cond_ (n314 == (100 : Int)) (ref05_Params t313.2.2.2.1
  (fun n379 => (ref17_perhaps t311 n315 (decide (n379 > (0 : Int)))
  (fun n380 => (k1 n380))))) (cond_ (n314 == (118 : Int)) (ref05_Answers t311.1
  (fun b381 => (ref17_perhaps t311 n315 b381
  (fun n382 => (k1 n382))))) (k1 (0 : Int)))))) (cond_ (n314 == (102 : Int)) (ref17_slot t311 n315 (IntKind.wrap .i64 ((1 : Int) + t313.2.2.2.1))
  (fun n383 => (k1 n383))) (cond_ (n314 == (99 : Int)) (ref17_called t311 n315 t313.2.2.2.1
  (fun n384 => (k1 n384))) (cond_ (n314 == (100 : Int)) (ref05_Params t313.2.2.2.1
  (fun n385 => (ref17_perhaps t311 n315 (decide (n385 > (0 : Int)))
  (fun n386 => (k1 n386))))) (cond_ (n314 == (118 : Int)) (ref05_Answers t311.1
  (fun b387 => (ref17_perhaps t311 n315 b387
  (fun n388 => (k1 n388))))) (k1 (0 : Int)))))))))) (cond_ (t312.1 == (18 : Int)) (cond_ (n314 == (119 : Int)) (cond_ (n314 == (119 : Int)) (ref17_slot t311 n315 (0 : Int)
  (fun n389 => (k1 n389))) (cond_ (n314 == (103 : Int)) (cond_ (n314 == (103 : Int)) (ref17_slot t311 n315 (IntKind.wrap .i64 ((1 : Int) + (IntKind.wrap .i64 (t313.2.2.2.1 - (1 : Int)))))
  (fun n390 => (k1 n390))) (cond_ (n314 == (99 : Int)) (ref17_called t311 n315 (IntKind.wrap .i64 (t313.2.2.2.1 - (1 : Int)))
  (fun n391 => (k1 n391))) (cond_ (n314 == (100 : Int)) (ref05_Params (IntKind.wrap .i64 (t313.2.2.2.1 - (1 : Int)))
  (fun n392 => (ref17_perhaps t311 n315 (decide (n392 > (0 : Int)))
  (fun n393 => (k1 n393))))) (cond_ (n314 == (118 : Int)) (ref05_Answers t311.1
  (fun b394 => (ref17_perhaps t311 n315 b394
  (fun n395 => (k1 n395))))) (k1 (0 : Int)))))) (cond_ (n314 == (102 : Int)) (ref17_slot t311 n315 (IntKind.wrap .i64 ((1 : Int) + (IntKind.wrap .i64 (t313.2.2.2.1 - (1 : Int)))))
  (fun n396 => (k1 n396))) (cond_ (n314 == (99 : Int)) (ref17_called t311 n315 (IntKind.wrap .i64 (t313.2.2.2.1 - (1 : Int)))
  (fun n397 => (k1 n397))) (cond_ (n314 == (100 : Int)) (ref05_Params (IntKind.wrap .i64 (t313.2.2.2.1 - (1 : Int)))
  (fun n398 => (ref17_perhaps t311 n315 (decide (n398 > (0 : Int)))
  (fun n399 => (k1 n399))))) (cond_ (n314 == (118 : Int)) (ref05_Answers t311.1
  (fun b400 => (ref17_perhaps t311 n315 b400
  (fun n401 => (k1 n401))))) (k1 (0 : Int)))))))) (cond_ (n314 == (114 : Int)) (ref17_slot t311 n315 (0 : Int)
  (fun n402 => (k1 n402))) (cond_ (n314 == (103 : Int)) (cond_ (n314 == (103 : Int)) (ref17_slot t311 n315 (IntKind.wrap .i64 ((1 : Int) + (IntKind.wrap .i64 (t313.2.2.2.1 - (1 : Int)))))
  (fun n403 => (k1 n403))) (cond_ (n314 == (99 : Int)) (ref17_called t311 n315 (IntKind.wrap .i64 (t313.2.2.2.1 - (1 : Int)))
  (fun n404 => (k1 n404))) (cond_ (n314 == (100 : Int)) (ref05_Params (IntKind.wrap .i64 (t313.2.2.2.1 - (1 : Int)))
  (fun n405 => (ref17_perhaps t311 n315 (decide (n405 > (0 : Int)))
  (fun n406 => (k1 n406))))) (cond_ (n314 == (118 : Int)) (ref05_Answers t311.1
  (fun b407 => (ref17_perhaps t311 n315 b407
  (fun n408 => (k1 n408))))) (k1 (0 : Int)))))) (cond_ (n314 == (102 : Int)) (ref17_slot t311 n315 (IntKind.wrap .i64 ((1 : Int) + (IntKind.wrap .i64 (t313.2.2.2.1 - (1 : Int)))))
  (fun n409 => (k1 n409))) (cond_ (n314 == (99 : Int)) (ref17_called t311 n315 (IntKind.wrap .i64 (t313.2.2.2.1 - (1 : Int)))
  (fun n410 => (k1 n410))) (cond_ (n314 == (100 : Int)) (ref05_Params (IntKind.wrap .i64 (t313.2.2.2.1 - (1 : Int)))
  (fun n411 => (ref17_perhaps t311 n315 (decide (n411 > (0 : Int)))
  (fun n412 => (k1 n412))))) (cond_ (n314 == (118 : Int)) (ref05_Answers t311.1
  (fun b413 => (ref17_perhaps t311 n315 b413
  (fun n414 => (k1 n414))))) (k1 (0 : Int))))))))) (cond_ (n314 == (119 : Int)) (cond_ (n314 == (119 : Int)) (ref17_slot t311 n315 (0 : Int)
  (fun n415 => (k1 n415))) (cond_ (n314 == (103 : Int)) (cond_ (n314 == (103 : Int)) (ref17_slot t311 n315 (IntKind.wrap .i64 ((1 : Int) + t312.2.2.2.1))
  (fun n416 => (k1 n416))) (cond_ (n314 == (99 : Int)) (ref17_called t311 n315 t312.2.2.2.1
  (fun n417 => (k1 n417))) (cond_ (n314 == (100 : Int)) (ref05_Params t312.2.2.2.1
  (fun n418 => (ref17_perhaps t311 n315 (decide (n418 > (0 : Int)))
  (fun n419 => (k1 n419))))) (cond_ (n314 == (118 : Int)) (ref05_Answers t311.1
  (fun b420 => (ref17_perhaps t311 n315 b420
  (fun n421 => (k1 n421))))) (k1 (0 : Int)))))) (cond_ (n314 == (102 : Int)) (ref17_slot t311 n315 (IntKind.wrap .i64 ((1 : Int) + t312.2.2.2.1))
  (fun n422 => (k1 n422))) (cond_ (n314 == (99 : Int)) (ref17_called t311 n315 t312.2.2.2.1
  (fun n423 => (k1 n423))) (cond_ (n314 == (100 : Int)) (ref05_Params t312.2.2.2.1
  (fun n424 => (ref17_perhaps t311 n315 (decide (n424 > (0 : Int)))
  (fun n425 => (k1 n425))))) (cond_ (n314 == (118 : Int)) (ref05_Answers t311.1
  (fun b426 => (ref17_perhaps t311 n315 b426
  (fun n427 => (k1 n427))))) (k1 (0 : Int)))))))) (cond_ (n314 == (114 : Int)) (ref17_slot t311 n315 (0 : Int)
  (fun n428 => (k1 n428))) (cond_ (n314 == (103 : Int)) (cond_ (n314 == (103 : Int)) (ref17_slot t311 n315 (IntKind.wrap .i64 ((1 : Int) + t312.2.2.2.1))
  (fun n429 => (k1 n429))) (cond_ (n314 == (99 : Int)) (ref17_called t311 n315 t312.2.2.2.1
  (fun n430 => (k1 n430))) (cond_ (n314 == (100 : Int)) (ref05_Params t312.2.2.2.1
  (fun n431 => (ref17_perhaps t311 n315 (decide (n431 > (0 : Int)))
  (fun n432 => (k1 n432))))) (cond_ (n314 == (118 : Int)) (ref05_Answers t311.1
  (fun b433 => (ref17_perhaps t311 n315 b433
  (fun n434 => (k1 n434))))) (k1 (0 : Int)))))) (cond_ (n314 == (102 : Int)) (ref17_slot t311 n315 (IntKind.wrap .i64 ((1 : Int) + t312.2.2.2.1))
  (fun n435 => (k1 n435))) (cond_ (n314 == (99 : Int)) (ref17_called t311 n315 t312.2.2.2.1
  (fun n436 => (k1 n436))) (cond_ (n314 == (100 : Int)) (ref05_Params t312.2.2.2.1
  (fun n437 => (ref17_perhaps t311 n315 (decide (n437 > (0 : Int)))
  (fun n438 => (k1 n438))))) (cond_ (n314 == (118 : Int)) (ref05_Answers t311.1
  (fun b439 => (ref17_perhaps t311 n315 b439
  (fun n440 => (k1 n440))))) (k1 (0 : Int))))))))))) (cond_ (t312.1 == (18 : Int)) (cond_ (n314 == (119 : Int)) (cond_ (n314 == (119 : Int)) (ref17_slot t311 n315 (0 : Int)
  (fun n441 => (k1 n441))) (cond_ (n314 == (103 : Int)) (cond_ (n314 == (103 : Int)) (ref17_slot t311 n315 (IntKind.wrap .i64 ((1 : Int) + (IntKind.wrap .i64 (t313.2.2.2.1 - (1 : Int)))))
  (fun n442 => (k1 n442))) (cond_ (n314 == (99 : Int)) (ref17_called t311 n315 (IntKind.wrap .i64 (t313.2.2.2.1 - (1 : Int)))
  (fun n443 => (k1 n443))) (cond_ (n314 == (100 : Int)) (ref05_Params (IntKind.wrap .i64 (t313.2.2.2.1 - (1 : Int)))
  (fun n444 => (ref17_perhaps t311 n315 (decide (n444 > (0 : Int)))
  (fun n445 => (k1 n445))))) (cond_ (n314 == (118 : Int)) (ref05_Answers t311.1
  (fun b446 => (ref17_perhaps t311 n315 b446
  (fun n447 => (k1 n447))))) (k1 (0 : Int)))))) (cond_ (n314 == (102 : Int)) (ref17_slot t311 n315 (IntKind.wrap .i64 ((1 : Int) + (IntKind.wrap .i64 (t313.2.2.2.1 - (1 : Int)))))
  (fun n448 => (k1 n448))) (cond_ (n314 == (99 : Int)) (ref17_called t311 n315 (IntKind.wrap .i64 (t313.2.2.2.1 - (1 : Int)))
  (fun n449 => (k1 n449))) (cond_ (n314 == (100 : Int)) (ref05_Params (IntKind.wrap .i64 (t313.2.2.2.1 - (1 : Int)))
  (fun n450 => (ref17_perhaps t311 n315 (decide (n450 > (0 : Int)))
  (fun n451 => (k1 n451))))) (cond_ (n314 == (118 : Int)) (ref05_Answers t311.1
  (fun b452 => (ref17_perhaps t311 n315 b452
  (fun n453 => (k1 n453))))) (k1 (0 : Int)))))))) (cond_ (n314 == (114 : Int)) (ref17_slot t311 n315 (0 : Int)
  (fun n454 => (k1 n454))) (cond_ (n314 == (103 : Int)) (cond_ (n314 == (103 : Int)) (ref17_slot t311 n315 (IntKind.wrap .i64 ((1 : Int) + (IntKind.wrap .i64 (t313.2.2.2.1 - (1 : Int)))))
  (fun n455 => (k1 n455))) (cond_ (n314 == (99 : Int)) (ref17_called t311 n315 (IntKind.wrap .i64 (t313.2.2.2.1 - (1 : Int)))
  (fun n456 => (k1 n456))) (cond_ (n314 == (100 : Int)) (ref05_Params (IntKind.wrap .i64 (t313.2.2.2.1 - (1 : Int)))
  (fun n457 => (ref17_perhaps t311 n315 (decide (n457 > (0 : Int)))
  (fun n458 => (k1 n458))))) (cond_ (n314 == (118 : Int)) (ref05_Answers t311.1
  (fun b459 => (ref17_perhaps t311 n315 b459
  (fun n460 => (k1 n460))))) (k1 (0 : Int)))))) (cond_ (n314 == (102 : Int)) (ref17_slot t311 n315 (IntKind.wrap .i64 ((1 : Int) + (IntKind.wrap .i64 (t313.2.2.2.1 - (1 : Int)))))
  (fun n461 => (k1 n461))) (cond_ (n314 == (99 : Int)) (ref17_called t311 n315 (IntKind.wrap .i64 (t313.2.2.2.1 - (1 : Int)))
  (fun n462 => (k1 n462))) (cond_ (n314 == (100 : Int)) (ref05_Params (IntKind.wrap .i64 (t313.2.2.2.1 - (1 : Int)))
  (fun n463 => (ref17_perhaps t311 n315 (decide (n463 > (0 : Int)))
  (fun n464 => (k1 n464))))) (cond_ (n314 == (118 : Int)) (ref05_Answers t311.1
  (fun b465 => (ref17_perhaps t311 n315 b465
  (fun n466 => (k1 n466))))) (k1 (0 : Int))))))))) (cond_ (n314 == (119 : Int)) (cond_ (n314 == (119 : Int)) (ref17_slot t311 n315 (0 : Int)
  (fun n467 => (k1 n467))) (cond_ (n314 == (103 : Int)) (cond_ (n314 == (103 : Int)) (ref17_slot t311 n315 (IntKind.wrap .i64 ((1 : Int) + t313.2.2.2.1))
  (fun n468 => (k1 n468))) (cond_ (n314 == (99 : Int)) (ref17_called t311 n315 t313.2.2.2.1
  (fun n469 => (k1 n469))) (cond_ (n314 == (100 : Int)) (ref05_Params t313.2.2.2.1
  (fun n470 => (ref17_perhaps t311 n315 (decide (n470 > (0 : Int)))
  (fun n471 => (k1 n471))))) (cond_ (n314 == (118 : Int)) (ref05_Answers t311.1
  (fun b472 => (ref17_perhaps t311 n315 b472
  (fun n473 => (k1 n473))))) (k1 (0 : Int)))))) (cond_ (n314 == (102 : Int)) (ref17_slot t311 n315 (IntKind.wrap .i64 ((1 : Int) + t313.2.2.2.1))
  (fun n474 => (k1 n474))) (cond_ (n314 == (99 : Int)) (ref17_called t311 n315 t313.2.2.2.1
  (fun n475 => (k1 n475))) (cond_ (n314 == (100 : Int)) (ref05_Params t313.2.2.2.1
  (fun n476 => (ref17_perhaps t311 n315 (decide (n476 > (0 : Int)))
  (fun n477 => (k1 n477))))) (cond_ (n314 == (118 : Int)) (ref05_Answers t311.1
  (fun b478 => (ref17_perhaps t311 n315 b478
  (fun n479 => (k1 n479))))) (k1 (0 : Int)))))))) (cond_ (n314 == (114 : Int)) (ref17_slot t311 n315 (0 : Int)
  (fun n480 => (k1 n480))) (cond_ (n314 == (103 : Int)) (cond_ (n314 == (103 : Int)) (ref17_slot t311 n315 (IntKind.wrap .i64 ((1 : Int) + t313.2.2.2.1))
  (fun n481 => (k1 n481))) (cond_ (n314 == (99 : Int)) (ref17_called t311 n315 t313.2.2.2.1
  (fun n482 => (k1 n482))) (cond_ (n314 == (100 : Int)) (ref05_Params t313.2.2.2.1
  (fun n483 => (ref17_perhaps t311 n315 (decide (n483 > (0 : Int)))
  (fun n484 => (k1 n484))))) (cond_ (n314 == (118 : Int)) (ref05_Answers t311.1
  (fun b485 => (ref17_perhaps t311 n315 b485
  (fun n486 => (k1 n486))))) (k1 (0 : Int)))))) (cond_ (n314 == (102 : Int)) (ref17_slot t311 n315 (IntKind.wrap .i64 ((1 : Int) + t313.2.2.2.1))
  (fun n487 => (k1 n487))) (cond_ (n314 == (99 : Int)) (ref17_called t311 n315 t313.2.2.2.1
  (fun n488 => (k1 n488))) (cond_ (n314 == (100 : Int)) (ref05_Params t313.2.2.2.1
  (fun n489 => (ref17_perhaps t311 n315 (decide (n489 > (0 : Int)))
  (fun n490 => (k1 n490))))) (cond_ (n314 == (118 : Int)) (ref05_Answers t311.1
  (fun b491 => (ref17_perhaps t311 n315 b491
  (fun n492 => (k1 n492))))) (k1 (0 : Int))))))))))) (cond_ (t312.1 == (18 : Int)) (cond_ (n314 == (119 : Int)) (cond_ (n314 == (119 : Int)) (ref17_slot t311 n315 (0 : Int)
  (fun n493 => (k1 n493))) (cond_ (n314 == (103 : Int)) (cond_ (n314 == (103 : Int)) (ref17_slot t311 n315 (IntKind.wrap .i64 ((1 : Int) + (IntKind.wrap .i64 (t313.2.2.2.1 - (1 : Int)))))
  (fun n494 => (k1 n494))) (cond_ (n314 == (99 : Int)) (ref17_called t311 n315 (IntKind.wrap .i64 (t313.2.2.2.1 - (1 : Int)))
  (fun n495 => (k1 n495))) (cond_ (n314 == (100 : Int)) (ref05_Params (IntKind.wrap .i64 (t313.2.2.2.1 - (1 : Int)))
  (fun n496 => (ref17_perhaps t311 n315 (decide (n496 > (0 : Int)))
  (fun n497 => (k1 n497))))) (cond_ (n314 == (118 : Int)) (ref05_Answers t311.1
  (fun b498 => (ref17_perhaps t311 n315 b498
  (fun n499 => (k1 n499))))) (k1 (0 : Int)))))) (cond_ (n314 == (102 : Int)) (ref17_slot t311 n315 (IntKind.wrap .i64 ((1 : Int) + (IntKind.wrap .i64 (t313.2.2.2.1 - (1 : Int)))))
  (fun n500 => (k1 n500))) (cond_ (n314 == (99 : Int)) (ref17_called t311 n315 (IntKind.wrap .i64 (t313.2.2.2.1 - (1 : Int)))
  (fun n501 => (k1 n501))) (cond_ (n314 == (100 : Int)) (ref05_Params (IntKind.wrap .i64 (t313.2.2.2.1 - (1 : Int)))
  (fun n502 => (ref17_perhaps t311 n315 (decide (n502 > (0 : Int)))
  (fun n503 => (k1 n503))))) (cond_ (n314 == (118 : Int)) (ref05_Answers t311.1
  (fun b504 => (ref17_perhaps t311 n315 b504
  (fun n505 => (k1 n505))))) (k1 (0 : Int)))))))) (cond_ (n314 == (114 : Int)) (ref17_slot t311 n315 (0 : Int)
  (fun n506 => (k1 n506))) (cond_ (n314 == (103 : Int)) (cond_ (n314 == (103 : Int)) (ref17_slot t311 n315 (IntKind.wrap .i64 ((1 : Int) + (IntKind.wrap .i64 (t313.2.2.2.1 - (1 : Int)))))
  (fun n507 => (k1 n507))) (cond_ (n314 == (99 : Int)) (ref17_called t311 n315 (IntKind.wrap .i64 (t313.2.2.2.1 - (1 : Int)))
  (fun n508 => (k1 n508))) (cond_ (n314 == (100 : Int)) (ref05_Params (IntKind.wrap .i64 (t313.2.2.2.1 - (1 : Int)))
  (fun n509 => (ref17_perhaps t311 n315 (decide (n509 > (0 : Int)))
  (fun n510 => (k1 n510))))) (cond_ (n314 == (118 : Int)) (ref05_Answers t311.1
  (fun b511 => (ref17_perhaps t311 n315 b511
  (fun n512 => (k1 n512))))) (k1 (0 : Int)))))) (cond_ (n314 == (102 : Int)) (ref17_slot t311 n315 (IntKind.wrap .i64 ((1 : Int) + (IntKind.wrap .i64 (t313.2.2.2.1 - (1 : Int)))))
  (fun n513 => (k1 n513))) (cond_ (n314 == (99 : Int)) (ref17_called t311 n315 (IntKind.wrap .i64 (t313.2.2.2.1 - (1 : Int)))
  (fun n514 => (k1 n514))) (cond_ (n314 == (100 : Int)) (ref05_Params (IntKind.wrap .i64 (t313.2.2.2.1 - (1 : Int)))
  (fun n515 => (ref17_perhaps t311 n315 (decide (n515 > (0 : Int)))
  (fun n516 => (k1 n516))))) (cond_ (n314 == (118 : Int)) (ref05_Answers t311.1
  (fun b517 => (ref17_perhaps t311 n315 b517
  (fun n518 => (k1 n518))))) (k1 (0 : Int))))))))) (cond_ (n314 == (119 : Int)) (cond_ (n314 == (119 : Int)) (ref17_slot t311 n315 (0 : Int)
  (fun n519 => (k1 n519))) (cond_ (n314 == (103 : Int)) (cond_ (n314 == (103 : Int)) (ref17_slot t311 n315 (IntKind.wrap .i64 ((1 : Int) + t313.2.2.2.1))
  (fun n520 => (k1 n520))) (cond_ (n314 == (99 : Int)) (ref17_called t311 n315 t313.2.2.2.1
  (fun n521 => (k1 n521))) (cond_ (n314 == (100 : Int)) (ref05_Params t313.2.2.2.1
  (fun n522 => (ref17_perhaps t311 n315 (decide (n522 > (0 : Int)))
  (fun n523 => (k1 n523))))) (cond_ (n314 == (118 : Int)) (ref05_Answers t311.1
  (fun b524 => (ref17_perhaps t311 n315 b524
  (fun n525 => (k1 n525))))) (k1 (0 : Int)))))) (cond_ (n314 == (102 : Int)) (ref17_slot t311 n315 (IntKind.wrap .i64 ((1 : Int) + t313.2.2.2.1))
  (fun n526 => (k1 n526))) (cond_ (n314 == (99 : Int)) (ref17_called t311 n315 t313.2.2.2.1
  (fun n527 => (k1 n527))) (cond_ (n314 == (100 : Int)) (ref05_Params t313.2.2.2.1
  (fun n528 => (ref17_perhaps t311 n315 (decide (n528 > (0 : Int)))
  (fun n529 => (k1 n529))))) (cond_ (n314 == (118 : Int)) (ref05_Answers t311.1
  (fun b530 => (ref17_perhaps t311 n315 b530
  (fun n531 => (k1 n531))))) (k1 (0 : Int)))))))) (cond_ (n314 == (114 : Int)) (ref17_slot t311 n315 (0 : Int)
  (fun n532 => (k1 n532))) (cond_ (n314 == (103 : Int)) (cond_ (n314 == (103 : Int)) (ref17_slot t311 n315 (IntKind.wrap .i64 ((1 : Int) + t313.2.2.2.1))
  (fun n533 => (k1 n533))) (cond_ (n314 == (99 : Int)) (ref17_called t311 n315 t313.2.2.2.1
  (fun n534 => (k1 n534))) (cond_ (n314 == (100 : Int)) (ref05_Params t313.2.2.2.1
  (fun n535 => (ref17_perhaps t311 n315 (decide (n535 > (0 : Int)))
  (fun n536 => (k1 n536))))) (cond_ (n314 == (118 : Int)) (ref05_Answers t311.1
  (fun b537 => (ref17_perhaps t311 n315 b537
  (fun n538 => (k1 n538))))) (k1 (0 : Int)))))) (cond_ (n314 == (102 : Int)) (ref17_slot t311 n315 (IntKind.wrap .i64 ((1 : Int) + t313.2.2.2.1))
  (fun n539 => (k1 n539))) (cond_ (n314 == (99 : Int)) (ref17_called t311 n315 t313.2.2.2.1
  (fun n540 => (k1 n540))) (cond_ (n314 == (100 : Int)) (ref05_Params t313.2.2.2.1
  (fun n541 => (ref17_perhaps t311 n315 (decide (n541 > (0 : Int)))
  (fun n542 => (k1 n542))))) (cond_ (n314 == (118 : Int)) (ref05_Answers t311.1
  (fun b543 => (ref17_perhaps t311 n315 b543
  (fun n544 => (k1 n544))))) (k1 (0 : Int)))))))))))
noncomputable def ref17_operand : T_ref17_operand := ref17_operand.body ref17_slot ref17_called ref05_Params ref17_perhaps ref05_Answers
def ref17_operand.p : FPat := fp 83 (pl (pd Ty20) (pl (pd Ty13) (pl (pd Ty10) (pl (pd (.int .u8)) (pl (pd (.int .i64)) pz))))) pz
def ref17_operand.g (F : T_ref17_operand) (v : ref17_operand.p.T) (k : KR) : Option Bool := F v.1.1 v.1.2.1 v.1.2.2.1 v.1.2.2.2.1 v.1.2.2.2.2.1 (fun y0 => k (.d ⟨(.int .i64), y0⟩) [])
theorem ref17_operand.eq (F0 : T_ref17_slot) (F1 : T_ref17_called) (F2 : T_ref05_Params) (F3 : T_ref17_perhaps) (F4 : T_ref05_Answers) : ∀ v k, exF Try.f83 ref17_operand.p [⟨ref17_slot.p, ref17_slot.g F0⟩, ⟨ref17_called.p, ref17_called.g F1⟩, ⟨ref05_Params.p, ref05_Params.g F2⟩, ⟨ref17_perhaps.p, ref17_perhaps.g F3⟩, ⟨ref05_Answers.p, ref05_Answers.g F4⟩] [] [] v k = ref17_operand.g (ref17_operand.body F0 F1 F2 F3 F4) v k := fun v k => by kernel_rfl
theorem ref17_operand.ok : okF 4 ref17_operand.p (ref17_operand.g ref17_operand) := fn2 (ref17_operand.eq ref17_slot ref17_called ref05_Params ref17_perhaps ref05_Answers) Try.func83 (by kernel_rfl) (.cons ref17_slot.ok (.cons ref17_called.ok (.cons ref05_Params.ok (.cons ref17_perhaps.ok (.cons ref05_Answers.ok .nil))))) [] (by kernel_rfl) .nil
/-- function 74: the loop in block 0 -/
abbrev T_ref17_Instr_L0 : Type := ByteArray → Int → Tc16 → Tc3 → Tc7 → (Int → Option Bool) → (Option Bool) → Option Bool
noncomputable def ref17_Instr_L0.body (ref17_Instr_L0 : T_ref17_Instr_L0) (ref08_Operand : T_ref08_Operand) (ref17_operand : T_ref17_operand) : T_ref17_Instr_L0 := fun s305 n306 t307 t308 t309 k1 k2 =>
  (cond_ (decide (n306 < (((ByteArray.size s305) : Nat) : Int))) (cond_ ((decide ((0 : Int) ≤ n306)) && (decide (n306 < (((ByteArray.size s305) : Nat) : Int)))) (ref08_Operand t308 n306
  (fun n310 => (ref17_operand t307 t308 t309 (((UInt8.toNat (List.getD (Array.toList (ByteArray.data s305)) (Int.toNat n306) (0 : UInt8))) : Nat) : Int) n310
  (fun n545 => (cond_ (n545 != (0 : Int)) (k1 n545) (ref17_Instr_L0 s305 (IntKind.wrap .i64 (n306 + (1 : Int))) t307 t308 t309 k1 k2)))))) none) (k2))
noncomputable def ref17_Instr_L0 : Nat → T_ref17_Instr_L0
  | 0 => fun _ _ _ _ _ _ _ => none
  | n + 1 => ref17_Instr_L0.body (ref17_Instr_L0 n) ref08_Operand ref17_operand
def ref17_Instr_L0.p : LPat := lp 2 79 [3, 7, 8, 10, 11] (ps (pq [1, 0] 0 0) (ps (pq [1, 1] 0 0) (ps (pq [1, 2] 0 0) (pl (pd .str) (pl (pd (.int .i64)) pz))))) (pl (po [1, 0] 57 9 (es Ty20 (pl eh pz))) (pl (po [1, 1] 105 5 (es Ty13 (pl eh pz))) (pl (po [1, 2] 96 5 (es Ty10 (pl eh pz))) pz)))
def ref17_Instr_L0.g (F : T_ref17_Instr_L0) (v : ref17_Instr_L0.p.T) (k : KE) : Option Bool := F v.1.1 v.1.2.1 v.2.1.1 v.2.2.1.1 v.2.2.2.1.1 (fun y0 => k .ret ⟨fillS 79 [6] [(.d ⟨(.int .i64), y0⟩)], [], 2⟩) (k (.exit 0) ⟨fillS 79 [] [], [], 2⟩)
theorem ref17_Instr_L0.step (S : T_ref17_Instr_L0) (F0 : T_ref08_Operand) (F1 : T_ref17_operand) : ∀ v k, exR 74 Try.f74 0 ref17_Instr_L0.p [⟨ref08_Operand.p, ref08_Operand.g F0⟩, ⟨ref17_operand.p, ref17_operand.g F1⟩] [] [] (ref17_Instr_L0.g S) v k = ref17_Instr_L0.g (ref17_Instr_L0.body S F0 F1) v k := fun v k => by kernel_rfl
theorem ref17_Instr_L0.ok : okL 74 Try.f74 4 0 ref17_Instr_L0.p (ref17_Instr_L0.g (ref17_Instr_L0 ROUNDS)) := loop2 (G := fun n => ref17_Instr_L0.g (ref17_Instr_L0 n)) (fun n => ref17_Instr_L0.step (ref17_Instr_L0 n) ref08_Operand ref17_operand) (.cons ref08_Operand.ok (.cons ref17_operand.ok .nil)) [] (by kernel_rfl) .nil (fun _ _ => rfl)
/-- function 74: sheerleg/sheerlegref17.Instr -/
abbrev T_ref17_Instr : Type := Tc16 → Tc11 → Int → (Int → Option Bool) → Option Bool
noncomputable def ref17_Instr.body (ref17_refers : T_ref17_refers) (ref05_Is : T_ref05_Is) (ref05_Later : T_ref05_Later) (ref07_Shape : T_ref07_Shape) (ref17_Instr_L0 : T_ref17_Instr_L0) : T_ref17_Instr := fun t270 ts271 n272 k1 =>
  (cond_ (! (decide (n272 < (0 : Int)))) (cond_ (decide (n272 ≥ (((List.length t270.2.2.2.2.2.2.2.1) : Nat) : Int))) (k1 (2 : Int)) (cond_ ((decide ((0 : Int) ≤ n272)) && (decide (n272 < (((List.length t270.2.2.2.2.2.2.2.1) : Nat) : Int)))) (ref17_refers t270 ts271 n272
  (fun t299 n300 => (cond_ (n300 != (0 : Int)) (k1 n300) (cond_ ((List.getD t270.2.2.2.2.2.2.2.1 (Int.toNat n272) (0, (0, (0, (0, (0, ())))))).1 == (20 : Int)) (ref05_Is (List.getD t270.2.2.2.2.2.2.2.1 (Int.toNat n272) (0, (0, (0, (0, (0, ())))))).2.2.2.1
  (fun b301 => (cond_ (! (! b301)) (cond_ ((List.getD t270.2.2.2.2.2.2.2.1 (Int.toNat n272) (0, (0, (0, (0, (0, ())))))).1 == (21 : Int)) (ref05_Later t299.2.2.2.1
  (fun b303 => (cond_ (! b303) (k1 (14 : Int)) (ref07_Shape (List.getD t270.2.2.2.2.2.2.2.1 (Int.toNat n272) (0, (0, (0, (0, (0, ())))))).1
  (fun s304 => (ref17_Instr_L0 s304 (0 : Int) t270 (List.getD t270.2.2.2.2.2.2.2.1 (Int.toNat n272) (0, (0, (0, (0, (0, ())))))) t299
  (fun n546 => (k1 n546))
  (k1 (0 : Int)))))))) (ref07_Shape (List.getD t270.2.2.2.2.2.2.2.1 (Int.toNat n272) (0, (0, (0, (0, (0, ())))))).1
  (fun s547 => (ref17_Instr_L0 s547 (0 : Int) t270 (List.getD t270.2.2.2.2.2.2.2.1 (Int.toNat n272) (0, (0, (0, (0, (0, ())))))) t299
  (fun n548 => (k1 n548))
  (k1 (0 : Int)))))) (k1 (14 : Int))))) (cond_ ((List.getD t270.2.2.2.2.2.2.2.1 (Int.toNat n272) (0, (0, (0, (0, (0, ())))))).1 == (21 : Int)) (ref05_Later t299.2.2.2.1
  (fun b549 => (cond_ (! b549) (k1 (14 : Int)) (ref07_Shape (List.getD t270.2.2.2.2.2.2.2.1 (Int.toNat n272) (0, (0, (0, (0, (0, ())))))).1
  (fun s550 => (ref17_Instr_L0 s550 (0 : Int) t270 (List.getD t270.2.2.2.2.2.2.2.1 (Int.toNat n272) (0, (0, (0, (0, (0, ())))))) t299
  (fun n551 => (k1 n551))
  (k1 (0 : Int)))))))) (ref07_Shape (List.getD t270.2.2.2.2.2.2.2.1 (Int.toNat n272) (0, (0, (0, (0, (0, ())))))).1
  (fun s552 => (ref17_Instr_L0 s552 (0 : Int) t270 (List.getD t270.2.2.2.2.2.2.2.1 (Int.toNat n272) (0, (0, (0, (0, (0, ())))))) t299
  (fun n553 => (k1 n553))
  (k1 (0 : Int)))))))))) none)) (k1 (2 : Int)))
noncomputable def ref17_Instr : T_ref17_Instr := ref17_Instr.body ref17_refers ref05_Is ref05_Later ref07_Shape (ref17_Instr_L0 ROUNDS)
def ref17_Instr.p : FPat := fp 74 (pl (pd Ty20) (pl (pb 0 96 Ty10) (pl (pd (.int .i64)) pz))) pz
def ref17_Instr.g (F : T_ref17_Instr) (v : ref17_Instr.p.T) (k : KR) : Option Bool := F v.1.1 v.1.2.1 v.1.2.2.1 (fun y0 => k (.d ⟨(.int .i64), y0⟩) [])
theorem ref17_Instr.eq (F0 : T_ref17_refers) (F1 : T_ref05_Is) (F2 : T_ref05_Later) (F3 : T_ref07_Shape) (L0 : T_ref17_Instr_L0) : ∀ v k, exF Try.f74 ref17_Instr.p [⟨ref17_refers.p, ref17_refers.g F0⟩, ⟨ref05_Is.p, ref05_Is.g F1⟩, ⟨ref05_Later.p, ref05_Later.g F2⟩, ⟨ref07_Shape.p, ref07_Shape.g F3⟩] [] [⟨0, ref17_Instr_L0.p, ref17_Instr_L0.g L0⟩] v k = ref17_Instr.g (ref17_Instr.body F0 F1 F2 F3 L0) v k := fun v k => by kernel_rfl
theorem ref17_Instr.ok : okF 5 ref17_Instr.p (ref17_Instr.g ref17_Instr) := fn2 (ref17_Instr.eq ref17_refers ref05_Is ref05_Later ref07_Shape (ref17_Instr_L0 ROUNDS)) Try.func74 (by kernel_rfl) (.cons ref17_refers.ok (.cons ref05_Is.ok (.cons ref05_Later.ok (.cons ref07_Shape.ok .nil)))) [0] (by kernel_rfl) (.cons ref17_Instr_L0.ok .nil)
/-- function 66: the loop in block 0 -/
abbrev T_ref17_Check_L0 : Type := Tc11 → Int → Tc16 → (Int → Int → Option Bool) → (Option Bool) → Option Bool
noncomputable def ref17_Check_L0.body (ref17_Check_L0 : T_ref17_Check_L0) (ref17_Instr : T_ref17_Instr) : T_ref17_Check_L0 := fun ts267 n268 t269 k1 k2 =>
  (cond_ (decide (n268 < (((List.length t269.2.2.2.2.2.2.2.1) : Nat) : Int))) (ref17_Instr t269 ts267 n268
  (fun n554 => (cond_ (n554 != (0 : Int)) (k1 n554 n268) (ref17_Check_L0 ts267 (IntKind.wrap .i64 (n268 + (1 : Int))) t269 k1 k2)))) (k2))
noncomputable def ref17_Check_L0 : Nat → T_ref17_Check_L0
  | 0 => fun _ _ _ _ _ => none
  | n + 1 => ref17_Check_L0.body (ref17_Check_L0 n) ref17_Instr
def ref17_Check_L0.p : LPat := lp 2 29 [1, 2, 7] (pl (pb 0 96 Ty10) (ps (pq [1, 0] 0 0) (pl (pd (.int .i64)) pz))) (pl (po [1, 0] 57 9 (es Ty20 (pl eh pz))) pz)
def ref17_Check_L0.g (F : T_ref17_Check_L0) (v : ref17_Check_L0.p.T) (k : KE) : Option Bool := F v.1.1 v.1.2.1 v.2.1.1 (fun y0 y1 => k .ret ⟨fillS 29 [4, 5] [(.d ⟨(.int .i64), y0⟩), (.d ⟨(.int .i64), y1⟩)], [], 2⟩) (k (.exit 0) ⟨fillS 29 [] [], [], 2⟩)
theorem ref17_Check_L0.step (S : T_ref17_Check_L0) (F0 : T_ref17_Instr) : ∀ v k, exR 66 Try.f66 0 ref17_Check_L0.p [⟨ref17_Instr.p, ref17_Instr.g F0⟩] [] [] (ref17_Check_L0.g S) v k = ref17_Check_L0.g (ref17_Check_L0.body S F0) v k := fun v k => by kernel_rfl
theorem ref17_Check_L0.ok : okL 66 Try.f66 5 0 ref17_Check_L0.p (ref17_Check_L0.g (ref17_Check_L0 ROUNDS)) := loop2 (G := fun n => ref17_Check_L0.g (ref17_Check_L0 n)) (fun n => ref17_Check_L0.step (ref17_Check_L0 n) ref17_Instr) (.cons ref17_Instr.ok .nil) [] (by kernel_rfl) .nil (fun _ _ => rfl)
/-- function 66: sheerleg/sheerlegref17.Check -/
abbrev T_ref17_Check : Type := Tc16 → Tc11 → (Int → Int → Option Bool) → Option Bool
noncomputable def ref17_Check.body (ref16_Check : T_ref16_Check) (ref17_Check_L0 : T_ref17_Check_L0) : T_ref17_Check := fun t195 ts196 k1 =>
  (ref16_Check t195
  (fun n266 => (cond_ (n266 != (0 : Int)) (k1 n266 (-1 : Int)) (ref17_Check_L0 ts196 (0 : Int) t195
  (fun n555 n556 => (k1 n555 n556))
  (k1 (0 : Int) (-1 : Int))))))
noncomputable def ref17_Check : T_ref17_Check := ref17_Check.body ref16_Check (ref17_Check_L0 ROUNDS)
def ref17_Check.p : FPat := fp 66 (pl (pd Ty20) (pl (pb 0 96 Ty10) pz)) pz
def ref17_Check.g (F : T_ref17_Check) (v : ref17_Check.p.T) (k : KR) : Option Bool := F v.1.1 v.1.2.1 (fun y0 y1 => k (.tup [(.d ⟨(.int .i64), y0⟩), (.d ⟨(.int .i64), y1⟩)]) [])
theorem ref17_Check.eq (F0 : T_ref16_Check) (L0 : T_ref17_Check_L0) : ∀ v k, exF Try.f66 ref17_Check.p [⟨ref16_Check.p, ref16_Check.g F0⟩] [] [⟨0, ref17_Check_L0.p, ref17_Check_L0.g L0⟩] v k = ref17_Check.g (ref17_Check.body F0 L0) v k := fun v k => by kernel_rfl
theorem ref17_Check.ok : okF 8 ref17_Check.p (ref17_Check.g ref17_Check) := fn2 (ref17_Check.eq ref16_Check (ref17_Check_L0 ROUNDS)) Try.func66 (by kernel_rfl) (.cons ref16_Check.ok .nil) [0] (by kernel_rfl) (.cons ref17_Check_L0.ok .nil)
/-- function 76: the loop in block 0 -/
abbrev T_ref18_Marks_L0 : Type := Tc8 → Int → (List Int) → ((List Int) → Option Bool) → Option Bool
noncomputable def ref18_Marks_L0.body (ref18_Marks_L0 : T_ref18_Marks_L0) : T_ref18_Marks_L0 := fun ts561 n562 ns563 k1 =>
  (cond_ (decide (n562 < (List.length ts561 : Int))) (cond_ ((decide ((0 : Int) ≤ n562)) && (decide (n562 < (List.length ts561 : Int)))) (cond_ ((List.getD ts561 (Int.toNat n562) (0, (0, (0, (0, (0, ())))))).1 == (21 : Int)) (cond_ (Nat.ble (((List.length ns563) + (List.length (n562 :: []))) * (8 : Nat)) (140737488355328 : Nat)) (ref18_Marks_L0 ts561 (IntKind.wrap .i64 (n562 + (1 : Int))) (ns563 ++ (n562 :: [])) k1) none) (ref18_Marks_L0 ts561 (IntKind.wrap .i64 (n562 + (1 : Int))) ns563 k1)) none) (k1 ns563))
noncomputable def ref18_Marks_L0 : Nat → T_ref18_Marks_L0
  | 0 => fun _ _ _ _ => none
  | n + 1 => ref18_Marks_L0.body (ref18_Marks_L0 n)
def ref18_Marks_L0.p : LPat := lp 2 22 [0, 3, 4] (pl (pb 0 105 Ty13) (ps (pr [1, 0]) (pl (pd (.int .i64)) pz))) (pl (po [1, 0] 3 1 (ed (.int .i64))) pz)
def ref18_Marks_L0.g (F : T_ref18_Marks_L0) (v : ref18_Marks_L0.p.T) (k : KE) : Option Bool := F v.1.1 v.1.2.1 v.2.1 (fun y0 => k (.exit 0) ⟨fillS 22 [3] [(.ref [1, 0])], [([1, 0], ⟨3, 1, (.data (.int .i64) y0)⟩)], 2⟩)
theorem ref18_Marks_L0.step (S : T_ref18_Marks_L0) : ∀ v k, exR 76 Try.f76 0 ref18_Marks_L0.p [] [] [] (ref18_Marks_L0.g S) v k = ref18_Marks_L0.g (ref18_Marks_L0.body S) v k := fun v k => by kernel_rfl
theorem ref18_Marks_L0.ok : okL 76 Try.f76 0 0 ref18_Marks_L0.p (ref18_Marks_L0.g (ref18_Marks_L0 ROUNDS)) := loop2 (G := fun n => ref18_Marks_L0.g (ref18_Marks_L0 n)) (fun n => ref18_Marks_L0.step (ref18_Marks_L0 n)) .nil [] (by kernel_rfl) .nil (fun _ _ => rfl)
/-- function 76: sheerleg/sheerlegref18.Marks -/
abbrev T_ref18_Marks : Type := Tc8 → ((List Int) → Option Bool) → Option Bool
noncomputable def ref18_Marks.body (ref18_Marks_L0 : T_ref18_Marks_L0) : T_ref18_Marks := fun ts560 k1 =>
  (ref18_Marks_L0 ts560 (0 : Int) []
  (fun ns564 => (k1 ns564)))
noncomputable def ref18_Marks : T_ref18_Marks := ref18_Marks.body (ref18_Marks_L0 ROUNDS)
def ref18_Marks.p : FPat := fp 76 (pl (pb 0 105 Ty13) pz) pz
def ref18_Marks.g (F : T_ref18_Marks) (v : ref18_Marks.p.T) (k : KR) : Option Bool := F v.1.1 (fun y0 => k (.ref [1, 0]) [([1, 0], ⟨3, 1, (.data (.int .i64) y0)⟩)])
theorem ref18_Marks.eq (L0 : T_ref18_Marks_L0) : ∀ v k, exF Try.f76 ref18_Marks.p [] [] [⟨0, ref18_Marks_L0.p, ref18_Marks_L0.g L0⟩] v k = ref18_Marks.g (ref18_Marks.body L0) v k := fun v k => by kernel_rfl
theorem ref18_Marks.ok : okF 1 ref18_Marks.p (ref18_Marks.g ref18_Marks) := fn2 (ref18_Marks.eq (ref18_Marks_L0 ROUNDS)) Try.func76 (by kernel_rfl) .nil [0] (by kernel_rfl) (.cons ref18_Marks_L0.ok .nil)
/-- function 75: the loop in block 0 -/
abbrev T_ref14_After_L0 : Type := Tc8 → (List Int) → Int → (List Int) → (Tc8 → (List Int) → Option Bool) → Option Bool
noncomputable def ref14_After_L0.body (ref14_After_L0 : T_ref14_After_L0) (ref14_Next : T_ref14_Next) : T_ref14_After_L0 := fun ts568 ns569 n570 ns571 k1 =>
  (cond_ (decide (n570 < (List.length ns569 : Int))) (cond_ ((decide ((0 : Int) ≤ n570)) && (decide (n570 < (List.length ns569 : Int)))) (ref14_Next ts568 (List.getD ns569 (Int.toNat n570) (0 : Int))
  (fun ns572 => (cond_ (Nat.ble (((List.length ns571) + (List.length ns572)) * (8 : Nat)) (140737488355328 : Nat)) (ref14_After_L0 ts568 ns569 (IntKind.wrap .i64 (n570 + (1 : Int))) (ns571 ++ ns572) k1) none))) none) (k1 ts568 ns571))
noncomputable def ref14_After_L0 : Nat → T_ref14_After_L0
  | 0 => fun _ _ _ _ _ => none
  | n + 1 => ref14_After_L0.body (ref14_After_L0 n) ref14_Next
def ref14_After_L0.p : LPat := lp 2 25 [0, 1, 5, 6] (pl (pb 0 105 Ty13) (pl (pb 1 3 (.int .i64)) (ps (pr [1, 0]) (pl (pd (.int .i64)) pz)))) (pl (po [1, 0] 3 1 (ed (.int .i64))) pz)
def ref14_After_L0.g (F : T_ref14_After_L0) (v : ref14_After_L0.p.T) (k : KE) : Option Bool := F v.1.1 v.1.2.1 v.1.2.2.1 v.2.1 (fun y0 y1 => k (.exit 0) ⟨fillS 25 [0, 5] [(.bv 0 105 Ty13 y0), (.ref [1, 0])], [([1, 0], ⟨3, 1, (.data (.int .i64) y1)⟩)], 2⟩)
theorem ref14_After_L0.step (S : T_ref14_After_L0) (F0 : T_ref14_Next) : ∀ v k, exR 75 Try.f75 0 ref14_After_L0.p [⟨ref14_Next.p, ref14_Next.g F0⟩] [] [] (ref14_After_L0.g S) v k = ref14_After_L0.g (ref14_After_L0.body S F0) v k := fun v k => by kernel_rfl
theorem ref14_After_L0.ok : okL 75 Try.f75 4 0 ref14_After_L0.p (ref14_After_L0.g (ref14_After_L0 ROUNDS)) := loop2 (G := fun n => ref14_After_L0.g (ref14_After_L0 n)) (fun n => ref14_After_L0.step (ref14_After_L0 n) ref14_Next) (.cons ref14_Next.ok .nil) [] (by kernel_rfl) .nil (fun _ _ => rfl)
/-- function 87: the loop in block 0 -/
abbrev T_ref14_Graph_L0 : Type := Tc8 → Int → (List (List Int)) → ((List (List Int)) → Option Bool) → Option Bool
noncomputable def ref14_Graph_L0.body (ref14_Graph_L0 : T_ref14_Graph_L0) (ref14_Next : T_ref14_Next) : T_ref14_Graph_L0 := fun ts576 n577 ls578 k1 =>
  (cond_ (decide (n577 < (List.length ts576 : Int))) (ref14_Next ts576 n577
  (fun ns579 => (cond_ (Nat.ble (((List.length ls578) + (List.length (ns579 :: []))) * (24 : Nat)) (140737488355328 : Nat)) (ref14_Graph_L0 ts576 (IntKind.wrap .i64 (n577 + (1 : Int))) (ls578 ++ (ns579 :: [])) k1) none))) (k1 ls578))
noncomputable def ref14_Graph_L0 : Nat → T_ref14_Graph_L0
  | 0 => fun _ _ _ _ => none
  | n + 1 => ref14_Graph_L0.body (ref14_Graph_L0 n) ref14_Next
def ref14_Graph_L0.p : LPat := lp 2 18 [0, 3, 4] (pl (pb 0 105 Ty13) (ps (pr [1, 0]) (pl (pd (.int .i64)) pz))) (pl (po [1, 0] 24 1 (ed Ty1)) pz)
def ref14_Graph_L0.g (F : T_ref14_Graph_L0) (v : ref14_Graph_L0.p.T) (k : KE) : Option Bool := F v.1.1 v.1.2.1 v.2.1 (fun y0 => k (.exit 0) ⟨fillS 18 [3] [(.ref [1, 0])], [([1, 0], ⟨24, 1, (.data Ty1 y0)⟩)], 2⟩)
theorem ref14_Graph_L0.step (S : T_ref14_Graph_L0) (F0 : T_ref14_Next) : ∀ v k, exR 87 Try.f87 0 ref14_Graph_L0.p [⟨ref14_Next.p, ref14_Next.g F0⟩] [] [] (ref14_Graph_L0.g S) v k = ref14_Graph_L0.g (ref14_Graph_L0.body S F0) v k := fun v k => by kernel_rfl
theorem ref14_Graph_L0.ok : okL 87 Try.f87 4 0 ref14_Graph_L0.p (ref14_Graph_L0.g (ref14_Graph_L0 ROUNDS)) := loop2 (G := fun n => ref14_Graph_L0.g (ref14_Graph_L0 n)) (fun n => ref14_Graph_L0.step (ref14_Graph_L0 n) ref14_Next) (.cons ref14_Next.ok .nil) [] (by kernel_rfl) .nil (fun _ _ => rfl)
/-- function 87: sheerleg/sheerlegref14.Graph -/
abbrev T_ref14_Graph : Type := Tc8 → ((List (List Int)) → Option Bool) → Option Bool
noncomputable def ref14_Graph.body (ref14_Graph_L0 : T_ref14_Graph_L0) : T_ref14_Graph := fun ts575 k1 =>
  (ref14_Graph_L0 ts575 (0 : Int) []
  (fun ls580 => (k1 ls580)))
noncomputable def ref14_Graph : T_ref14_Graph := ref14_Graph.body (ref14_Graph_L0 ROUNDS)
def ref14_Graph.p : FPat := fp 87 (pl (pb 0 105 Ty13) pz) pz
def ref14_Graph.g (F : T_ref14_Graph) (v : ref14_Graph.p.T) (k : KR) : Option Bool := F v.1.1 (fun y0 => k (.ref [1, 0]) [([1, 0], ⟨24, 1, (.data Ty1 y0)⟩)])
theorem ref14_Graph.eq (L0 : T_ref14_Graph_L0) : ∀ v k, exF Try.f87 ref14_Graph.p [] [] [⟨0, ref14_Graph_L0.p, ref14_Graph_L0.g L0⟩] v k = ref14_Graph.g (ref14_Graph.body L0) v k := fun v k => by kernel_rfl
theorem ref14_Graph.ok : okF 5 ref14_Graph.p (ref14_Graph.g ref14_Graph) := fn2 (ref14_Graph.eq (ref14_Graph_L0 ROUNDS)) Try.func87 (by kernel_rfl) .nil [0] (by kernel_rfl) (.cons ref14_Graph_L0.ok .nil)
/-- function 86: the loop in block 0 -/
abbrev T_ref10_Reach_L0 : Type := (List (List Int)) → (List Int) → Int → (List Bool) → ((List (List Int)) → (List Bool) → Option Bool) → Option Bool
noncomputable def ref10_Reach_L0.body (ref10_Reach_L0 : T_ref10_Reach_L0) : T_ref10_Reach_L0 := fun ls584 ns585 n586 bs587 k1 =>
  (cond_ (decide (n586 < (List.length ns585 : Int))) (cond_ ((decide ((0 : Int) ≤ n586)) && (decide (n586 < (List.length ns585 : Int)))) (cond_ (decide ((List.getD ns585 (Int.toNat n586) (0 : Int)) ≥ (0 : Int))) (cond_ ((decide ((0 : Int) ≤ n586)) && (decide (n586 < (List.length ns585 : Int)))) (cond_ (decide ((List.getD ns585 (Int.toNat n586) (0 : Int)) < (List.length ls584 : Int))) (cond_ ((decide ((0 : Int) ≤ n586)) && (decide (n586 < (List.length ns585 : Int)))) (cond_ ((decide ((0 : Int) ≤ (List.getD ns585 (Int.toNat n586) (0 : Int)))) && (decide ((List.getD ns585 (Int.toNat n586) (0 : Int)) < (List.length bs587 : Int)))) (ref10_Reach_L0 ls584 ns585 (IntKind.wrap .i64 (n586 + (1 : Int))) (List.set bs587 (Int.toNat (List.getD ns585 (Int.toNat n586) (0 : Int))) true) k1) none) none) (ref10_Reach_L0 ls584 ns585 (IntKind.wrap .i64 (n586 + (1 : Int))) bs587 k1)) none) (ref10_Reach_L0 ls584 ns585 (IntKind.wrap .i64 (n586 + (1 : Int))) bs587 k1)) none) (k1 ls584 bs587))
noncomputable def ref10_Reach_L0 : Nat → T_ref10_Reach_L0
  | 0 => fun _ _ _ _ _ => none
  | n + 1 => ref10_Reach_L0.body (ref10_Reach_L0 n)
def ref10_Reach_L0.p : LPat := lp 2 96 [0, 1, 5, 6] (pl (pb 1 24 Ty1) (pl (pb 2 3 (.int .i64)) (ps (pr [1, 0]) (pl (pd (.int .i64)) pz)))) (pl (po [1, 0] 4 1 (ed .bool)) pz)
def ref10_Reach_L0.g (F : T_ref10_Reach_L0) (v : ref10_Reach_L0.p.T) (k : KE) : Option Bool := F v.1.1 v.1.2.1 v.1.2.2.1 v.2.1 (fun y0 y1 => k (.exit 0) ⟨fillS 96 [0, 5] [(.bv 1 24 Ty1 y0), (.ref [1, 0])], [([1, 0], ⟨4, 1, (.data .bool y1)⟩)], 2⟩)
theorem ref10_Reach_L0.step (S : T_ref10_Reach_L0) : ∀ v k, exR 86 Try.f86 0 ref10_Reach_L0.p [] [] [] (ref10_Reach_L0.g S) v k = ref10_Reach_L0.g (ref10_Reach_L0.body S) v k := fun v k => by kernel_rfl
theorem ref10_Reach_L0.ok : okL 86 Try.f86 0 0 ref10_Reach_L0.p (ref10_Reach_L0.g (ref10_Reach_L0 ROUNDS)) := loop2 (G := fun n => ref10_Reach_L0.g (ref10_Reach_L0 n)) (fun n => ref10_Reach_L0.step (ref10_Reach_L0 n)) .nil [] (by kernel_rfl) .nil (fun _ _ => rfl)
/-- function 86: the loop in block 6 -/
abbrev T_ref10_Reach_L2_L4_L6 : Type := (List (List Int)) → Int → Int → Int → (List Bool) → ((List (List Int)) → Int → Int → (List Bool) → Option Bool) → Option Bool
noncomputable def ref10_Reach_L2_L4_L6.body (ref10_Reach_L2_L4_L6 : T_ref10_Reach_L2_L4_L6) : T_ref10_Reach_L2_L4_L6 := fun ls597 n598 n599 n600 bs601 k1 =>
  (cond_ ((decide ((0 : Int) ≤ n599)) && (decide (n599 < (List.length bs601 : Int)))) (cond_ (List.getD bs601 (Int.toNat n599) false) (cond_ ((decide ((0 : Int) ≤ n599)) && (decide (n599 < (List.length ls597 : Int)))) (cond_ (decide (n600 < (((List.length (List.getD ls597 (Int.toNat n599) [])) : Nat) : Int))) (cond_ ((decide ((0 : Int) ≤ n599)) && (decide (n599 < (List.length ls597 : Int)))) (cond_ ((decide ((0 : Int) ≤ n600)) && (decide (n600 < (((List.length (List.getD ls597 (Int.toNat n599) [])) : Nat) : Int)))) (cond_ (decide ((List.getD (List.getD ls597 (Int.toNat n599) []) (Int.toNat n600) (0 : Int)) ≥ (0 : Int))) (cond_ ((decide ((0 : Int) ≤ n599)) && (decide (n599 < (List.length ls597 : Int)))) (cond_ ((decide ((0 : Int) ≤ n600)) && (decide (n600 < (((List.length (List.getD ls597 (Int.toNat n599) [])) : Nat) : Int)))) (cond_ (decide ((List.getD (List.getD ls597 (Int.toNat n599) []) (Int.toNat n600) (0 : Int)) < (List.length ls597 : Int))) (cond_ ((decide ((0 : Int) ≤ n599)) && (decide (n599 < (List.length ls597 : Int)))) (cond_ ((decide ((0 : Int) ≤ n600)) && (decide (n600 < (((List.length (List.getD ls597 (Int.toNat n599) [])) : Nat) : Int)))) (cond_ ((decide ((0 : Int) ≤ (List.getD (List.getD ls597 (Int.toNat n599) []) (Int.toNat n600) (0 : Int)))) && (decide ((List.getD (List.getD ls597 (Int.toNat n599) []) (Int.toNat n600) (0 : Int)) < (List.length bs601 : Int)))) (ref10_Reach_L2_L4_L6 ls597 n598 n599 (IntKind.wrap .i64 (n600 + (1 : Int))) (List.set bs601 (Int.toNat (List.getD (List.getD ls597 (Int.toNat n599) []) (Int.toNat n600) (0 : Int))) true) k1) none) none) none) (ref10_Reach_L2_L4_L6 ls597 n598 n599 (IntKind.wrap .i64 (n600 + (1 : Int))) bs601 k1)) none) none) (ref10_Reach_L2_L4_L6 ls597 n598 n599 (IntKind.wrap .i64 (n600 + (1 : Int))) bs601 k1)) none) none) (k1 ls597 n598 n599 bs601)) none) (k1 ls597 n598 n599 bs601)) none)
noncomputable def ref10_Reach_L2_L4_L6 : Nat → T_ref10_Reach_L2_L4_L6
  | 0 => fun _ _ _ _ _ _ => none
  | n + 1 => ref10_Reach_L2_L4_L6.body (ref10_Reach_L2_L4_L6 n)
def ref10_Reach_L2_L4_L6.p : LPat := lp 2 96 [0, 5, 7, 8, 9] (pl (pb 1 24 Ty1) (ps (pr [1, 0]) (pl (pd (.int .i64)) (pl (pd (.int .i64)) (pl (pd (.int .i64)) pz))))) (pl (po [1, 0] 4 1 (ed .bool)) pz)
def ref10_Reach_L2_L4_L6.g (F : T_ref10_Reach_L2_L4_L6) (v : ref10_Reach_L2_L4_L6.p.T) (k : KE) : Option Bool := F v.1.1 v.1.2.1 v.1.2.2.1 v.1.2.2.2.1 v.2.1 (fun y0 y1 y2 y3 => k (.exit 6) ⟨fillS 96 [0, 5, 7, 8] [(.bv 1 24 Ty1 y0), (.ref [1, 0]), (.d ⟨(.int .i64), y1⟩), (.d ⟨(.int .i64), y2⟩)], [([1, 0], ⟨4, 1, (.data .bool y3)⟩)], 2⟩)
theorem ref10_Reach_L2_L4_L6.step (S : T_ref10_Reach_L2_L4_L6) : ∀ v k, exR 86 Try.f86 6 ref10_Reach_L2_L4_L6.p [] [] [] (ref10_Reach_L2_L4_L6.g S) v k = ref10_Reach_L2_L4_L6.g (ref10_Reach_L2_L4_L6.body S) v k := fun v k => by kernel_rfl
theorem ref10_Reach_L2_L4_L6.ok : okL 86 Try.f86 0 6 ref10_Reach_L2_L4_L6.p (ref10_Reach_L2_L4_L6.g (ref10_Reach_L2_L4_L6 ROUNDS)) := loop2 (G := fun n => ref10_Reach_L2_L4_L6.g (ref10_Reach_L2_L4_L6 n)) (fun n => ref10_Reach_L2_L4_L6.step (ref10_Reach_L2_L4_L6 n)) .nil [] (by kernel_rfl) .nil (fun _ _ => rfl)
/-- function 86: the loop in block 4 -/
abbrev T_ref10_Reach_L2_L4 : Type := (List (List Int)) → Int → Int → (List Bool) → ((List (List Int)) → Int → (List Bool) → Option Bool) → Option Bool
noncomputable def ref10_Reach_L2_L4.body (ref10_Reach_L2_L4 : T_ref10_Reach_L2_L4) (ref10_Reach_L2_L4_L6 : T_ref10_Reach_L2_L4_L6) : T_ref10_Reach_L2_L4 := fun ls593 n594 n595 bs596 k1 =>
  (cond_ (decide (n595 < (List.length ls593 : Int))) (ref10_Reach_L2_L4_L6 ls593 n594 n595 (0 : Int) bs596
  (fun ls602 n603 n604 bs605 => (ref10_Reach_L2_L4 ls602 n603 (IntKind.wrap .i64 (n604 + (1 : Int))) bs605 k1))) (k1 ls593 n594 bs596))
noncomputable def ref10_Reach_L2_L4 : Nat → T_ref10_Reach_L2_L4
  | 0 => fun _ _ _ _ _ => none
  | n + 1 => ref10_Reach_L2_L4.body (ref10_Reach_L2_L4 n) (ref10_Reach_L2_L4_L6 ROUNDS)
def ref10_Reach_L2_L4.p : LPat := lp 2 96 [0, 5, 7, 8] (pl (pb 1 24 Ty1) (ps (pr [1, 0]) (pl (pd (.int .i64)) (pl (pd (.int .i64)) pz)))) (pl (po [1, 0] 4 1 (ed .bool)) pz)
def ref10_Reach_L2_L4.g (F : T_ref10_Reach_L2_L4) (v : ref10_Reach_L2_L4.p.T) (k : KE) : Option Bool := F v.1.1 v.1.2.1 v.1.2.2.1 v.2.1 (fun y0 y1 y2 => k (.exit 4) ⟨fillS 96 [0, 5, 7] [(.bv 1 24 Ty1 y0), (.ref [1, 0]), (.d ⟨(.int .i64), y1⟩)], [([1, 0], ⟨4, 1, (.data .bool y2)⟩)], 2⟩)
theorem ref10_Reach_L2_L4.step (S : T_ref10_Reach_L2_L4) (L0 : T_ref10_Reach_L2_L4_L6) : ∀ v k, exR 86 Try.f86 4 ref10_Reach_L2_L4.p [] [] [⟨6, ref10_Reach_L2_L4_L6.p, ref10_Reach_L2_L4_L6.g L0⟩] (ref10_Reach_L2_L4.g S) v k = ref10_Reach_L2_L4.g (ref10_Reach_L2_L4.body S L0) v k := fun v k => by kernel_rfl
theorem ref10_Reach_L2_L4.ok : okL 86 Try.f86 0 4 ref10_Reach_L2_L4.p (ref10_Reach_L2_L4.g (ref10_Reach_L2_L4 ROUNDS)) := loop2 (G := fun n => ref10_Reach_L2_L4.g (ref10_Reach_L2_L4 n)) (fun n => ref10_Reach_L2_L4.step (ref10_Reach_L2_L4 n) (ref10_Reach_L2_L4_L6 ROUNDS)) .nil [6] (by kernel_rfl) (.cons ref10_Reach_L2_L4_L6.ok .nil) (fun _ _ => rfl)
/-- function 86: the loop in block 2 -/
abbrev T_ref10_Reach_L2 : Type := (List (List Int)) → Int → (List Bool) → ((List Bool) → Option Bool) → Option Bool
noncomputable def ref10_Reach_L2.body (ref10_Reach_L2 : T_ref10_Reach_L2) (ref10_Reach_L2_L4 : T_ref10_Reach_L2_L4) : T_ref10_Reach_L2 := fun ls590 n591 bs592 k1 =>
  (cond_ (decide (n591 < (List.length ls590 : Int))) (ref10_Reach_L2_L4 ls590 n591 (0 : Int) bs592
  (fun ls606 n607 bs608 => (ref10_Reach_L2 ls606 (IntKind.wrap .i64 (n607 + (1 : Int))) bs608 k1))) (k1 bs592))
noncomputable def ref10_Reach_L2 : Nat → T_ref10_Reach_L2
  | 0 => fun _ _ _ _ => none
  | n + 1 => ref10_Reach_L2.body (ref10_Reach_L2 n) (ref10_Reach_L2_L4 ROUNDS)
def ref10_Reach_L2.p : LPat := lp 2 96 [0, 5, 7] (pl (pb 1 24 Ty1) (ps (pr [1, 0]) (pl (pd (.int .i64)) pz))) (pl (po [1, 0] 4 1 (ed .bool)) pz)
def ref10_Reach_L2.g (F : T_ref10_Reach_L2) (v : ref10_Reach_L2.p.T) (k : KE) : Option Bool := F v.1.1 v.1.2.1 v.2.1 (fun y0 => k (.exit 2) ⟨fillS 96 [5] [(.ref [1, 0])], [([1, 0], ⟨4, 1, (.data .bool y0)⟩)], 2⟩)
theorem ref10_Reach_L2.step (S : T_ref10_Reach_L2) (L0 : T_ref10_Reach_L2_L4) : ∀ v k, exR 86 Try.f86 2 ref10_Reach_L2.p [] [] [⟨4, ref10_Reach_L2_L4.p, ref10_Reach_L2_L4.g L0⟩] (ref10_Reach_L2.g S) v k = ref10_Reach_L2.g (ref10_Reach_L2.body S L0) v k := fun v k => by kernel_rfl
theorem ref10_Reach_L2.ok : okL 86 Try.f86 0 2 ref10_Reach_L2.p (ref10_Reach_L2.g (ref10_Reach_L2 ROUNDS)) := loop2 (G := fun n => ref10_Reach_L2.g (ref10_Reach_L2 n)) (fun n => ref10_Reach_L2.step (ref10_Reach_L2 n) (ref10_Reach_L2_L4 ROUNDS)) .nil [4] (by kernel_rfl) (.cons ref10_Reach_L2_L4.ok .nil) (fun _ _ => rfl)
/-- function 86: sheerleg/sheerlegref10.Reach -/
abbrev T_ref10_Reach : Type := (List (List Int)) → (List Int) → ((List Bool) → Option Bool) → Option Bool
noncomputable def ref10_Reach.body (ref10_Reach_L0 : T_ref10_Reach_L0) (ref10_Reach_L2 : T_ref10_Reach_L2) : T_ref10_Reach := fun ls582 ns583 k1 =>
  (cond_ (((decide ((0 : Int) ≤ (List.length ls582 : Int))) && (decide ((List.length ls582 : Int) = (List.length ls582 : Int)))) && (Nat.ble ((Int.toNat (List.length ls582 : Int)) * (1 : Nat)) (140737488355328 : Nat))) (ref10_Reach_L0 ls582 ns583 (0 : Int) (List.replicate (Int.toNat (List.length ls582 : Int)) false)
  (fun ls588 bs589 => (ref10_Reach_L2 ls588 (0 : Int) bs589
  (fun bs609 => (k1 bs609))))) none)
noncomputable def ref10_Reach : T_ref10_Reach := ref10_Reach.body (ref10_Reach_L0 ROUNDS) (ref10_Reach_L2 ROUNDS)
def ref10_Reach.p : FPat := fp 86 (pl (pb 1 24 Ty1) (pl (pb 2 3 (.int .i64)) pz)) pz
def ref10_Reach.g (F : T_ref10_Reach) (v : ref10_Reach.p.T) (k : KR) : Option Bool := F v.1.1 v.1.2.1 (fun y0 => k (.ref [1, 0]) [([1, 0], ⟨4, 1, (.data .bool y0)⟩)])
theorem ref10_Reach.eq (L0 : T_ref10_Reach_L0) (L1 : T_ref10_Reach_L2) : ∀ v k, exF Try.f86 ref10_Reach.p [] [] [⟨0, ref10_Reach_L0.p, ref10_Reach_L0.g L0⟩, ⟨2, ref10_Reach_L2.p, ref10_Reach_L2.g L1⟩] v k = ref10_Reach.g (ref10_Reach.body L0 L1) v k := fun v k => by kernel_rfl
theorem ref10_Reach.ok : okF 1 ref10_Reach.p (ref10_Reach.g ref10_Reach) := fn2 (ref10_Reach.eq (ref10_Reach_L0 ROUNDS) (ref10_Reach_L2 ROUNDS)) Try.func86 (by kernel_rfl) .nil [0, 2] (by kernel_rfl) (.cons ref10_Reach_L0.ok (.cons ref10_Reach_L2.ok .nil))
/-- function 75: sheerleg/sheerlegref14.After -/
abbrev T_ref14_After : Type := Tc8 → (List Int) → ((List Bool) → Option Bool) → Option Bool
noncomputable def ref14_After.body (ref14_Graph : T_ref14_Graph) (ref10_Reach : T_ref10_Reach) (ref14_After_L0 : T_ref14_After_L0) : T_ref14_After := fun ts566 ns567 k1 =>
  (ref14_After_L0 ts566 ns567 (0 : Int) []
  (fun ts573 ns574 => (ref14_Graph ts573
  (fun ls581 => (ref10_Reach ls581 ns574
  (fun bs610 => (k1 bs610)))))))
noncomputable def ref14_After : T_ref14_After := ref14_After.body ref14_Graph ref10_Reach (ref14_After_L0 ROUNDS)
def ref14_After.p : FPat := fp 75 (pl (pb 0 105 Ty13) (pl (pb 1 3 (.int .i64)) pz)) pz
def ref14_After.g (F : T_ref14_After) (v : ref14_After.p.T) (k : KR) : Option Bool := F v.1.1 v.1.2.1 (fun y0 => k (.ref [1, 0]) [([1, 0], ⟨4, 1, (.data .bool y0)⟩)])
theorem ref14_After.eq (F0 : T_ref14_Graph) (F1 : T_ref10_Reach) (L0 : T_ref14_After_L0) : ∀ v k, exF Try.f75 ref14_After.p [⟨ref14_Graph.p, ref14_Graph.g F0⟩, ⟨ref10_Reach.p, ref10_Reach.g F1⟩] [] [⟨0, ref14_After_L0.p, ref14_After_L0.g L0⟩] v k = ref14_After.g (ref14_After.body F0 F1 L0) v k := fun v k => by kernel_rfl
theorem ref14_After.ok : okF 6 ref14_After.p (ref14_After.g ref14_After) := fn2 (ref14_After.eq ref14_Graph ref10_Reach (ref14_After_L0 ROUNDS)) Try.func75 (by kernel_rfl) (.cons ref14_Graph.ok (.cons ref10_Reach.ok .nil)) [0] (by kernel_rfl) (.cons ref14_After_L0.ok .nil)
/-- function 20: sheerleg/sheerlegref18.In -/
abbrev T_ref18_In : Type := Tc16 → Int → (Bool → Option Bool) → Option Bool
noncomputable def ref18_In.body : T_ref18_In := fun t615 n616 k1 =>
  (cond_ (decide (n616 ≥ t615.2.2.2.2.1)) (k1 (decide (n616 < t615.2.2.2.2.2.1))) (k1 false))
noncomputable def ref18_In : T_ref18_In := ref18_In.body
def ref18_In.p : FPat := fp 20 (pl (pd Ty20) (pl (pd (.int .i64)) pz)) pz
def ref18_In.g (F : T_ref18_In) (v : ref18_In.p.T) (k : KR) : Option Bool := F v.1.1 v.1.2.1 (fun y0 => k (.d ⟨.bool, y0⟩) [])
theorem ref18_In.eq : ∀ v k, exF Try.f20 ref18_In.p [] [] [] v k = ref18_In.g (ref18_In.body) v k := fun v k => by kernel_rfl
theorem ref18_In.ok : okF 1 ref18_In.p (ref18_In.g ref18_In) := fn2 (ref18_In.eq) Try.func20 (by kernel_rfl) .nil [] (by kernel_rfl) .nil
/-- function 67: the loop in block 0 -/
abbrev T_ref18_Check_L0 : Type := Int → Tc16 → (List Bool) → (Int → Option Bool) → (Option Bool) → Option Bool
noncomputable def ref18_Check_L0.body (ref18_Check_L0 : T_ref18_Check_L0) (ref18_In : T_ref18_In) : T_ref18_Check_L0 := fun n612 t613 bs614 k1 k2 =>
  (cond_ (decide (n612 < (List.length bs614 : Int))) (cond_ ((decide ((0 : Int) ≤ n612)) && (decide (n612 < (List.length bs614 : Int)))) (cond_ (List.getD bs614 (Int.toNat n612) false) (ref18_In t613 n612
  (fun b617 => (cond_ (! b617) (k1 (9 : Int)) (ref18_Check_L0 (IntKind.wrap .i64 (n612 + (1 : Int))) t613 bs614 k1 k2)))) (ref18_Check_L0 (IntKind.wrap .i64 (n612 + (1 : Int))) t613 bs614 k1 k2)) none) (k2))
noncomputable def ref18_Check_L0 : Nat → T_ref18_Check_L0
  | 0 => fun _ _ _ _ _ => none
  | n + 1 => ref18_Check_L0.body (ref18_Check_L0 n) ref18_In
def ref18_Check_L0.p : LPat := lp 2 27 [1, 3, 4] (ps (pq [1, 0] 0 0) (ps (pr [1, 1]) (pl (pd (.int .i64)) pz))) (pl (po [1, 0] 57 9 (es Ty20 (pl eh pz))) (pl (po [1, 1] 4 1 (ed .bool)) pz))
def ref18_Check_L0.g (F : T_ref18_Check_L0) (v : ref18_Check_L0.p.T) (k : KE) : Option Bool := F v.1.1 v.2.1.1 v.2.2.1 (fun y0 => k .ret ⟨fillS 27 [2] [(.d ⟨(.int .i64), y0⟩)], [], 2⟩) (k (.exit 0) ⟨fillS 27 [] [], [], 2⟩)
theorem ref18_Check_L0.step (S : T_ref18_Check_L0) (F0 : T_ref18_In) : ∀ v k, exR 67 Try.f67 0 ref18_Check_L0.p [⟨ref18_In.p, ref18_In.g F0⟩] [] [] (ref18_Check_L0.g S) v k = ref18_Check_L0.g (ref18_Check_L0.body S F0) v k := fun v k => by kernel_rfl
theorem ref18_Check_L0.ok : okL 67 Try.f67 1 0 ref18_Check_L0.p (ref18_Check_L0.g (ref18_Check_L0 ROUNDS)) := loop2 (G := fun n => ref18_Check_L0.g (ref18_Check_L0 n)) (fun n => ref18_Check_L0.step (ref18_Check_L0 n) ref18_In) (.cons ref18_In.ok .nil) [] (by kernel_rfl) .nil (fun _ _ => rfl)
/-- function 67: sheerleg/sheerlegref18.Check -/
abbrev T_ref18_Check : Type := Tc16 → (Int → Option Bool) → Option Bool
noncomputable def ref18_Check.body (ref18_Marks : T_ref18_Marks) (ref14_After : T_ref14_After) (ref18_Check_L0 : T_ref18_Check_L0) : T_ref18_Check := fun t559 k1 =>
  (ref18_Marks t559.2.2.2.2.2.2.2.1
  (fun ns565 => (ref14_After t559.2.2.2.2.2.2.2.1 ns565
  (fun bs611 => (ref18_Check_L0 (0 : Int) t559 bs611
  (fun n618 => (k1 n618))
  (k1 (0 : Int)))))))
noncomputable def ref18_Check : T_ref18_Check := ref18_Check.body ref18_Marks ref14_After (ref18_Check_L0 ROUNDS)
def ref18_Check.p : FPat := fp 67 (pl (pd Ty20) pz) pz
def ref18_Check.g (F : T_ref18_Check) (v : ref18_Check.p.T) (k : KR) : Option Bool := F v.1.1 (fun y0 => k (.d ⟨(.int .i64), y0⟩) [])
theorem ref18_Check.eq (F0 : T_ref18_Marks) (F1 : T_ref14_After) (L0 : T_ref18_Check_L0) : ∀ v k, exF Try.f67 ref18_Check.p [⟨ref18_Marks.p, ref18_Marks.g F0⟩, ⟨ref14_After.p, ref14_After.g F1⟩] [] [⟨0, ref18_Check_L0.p, ref18_Check_L0.g L0⟩] v k = ref18_Check.g (ref18_Check.body F0 F1 L0) v k := fun v k => by kernel_rfl
theorem ref18_Check.ok : okF 7 ref18_Check.p (ref18_Check.g ref18_Check) := fn2 (ref18_Check.eq ref18_Marks ref14_After (ref18_Check_L0 ROUNDS)) Try.func67 (by kernel_rfl) (.cons ref18_Marks.ok (.cons ref14_After.ok .nil)) [0] (by kernel_rfl) (.cons ref18_Check_L0.ok .nil)
/-- function 51: sheerleg/sheerlegref19.item -/
abbrev T_ref19_item : Type := Tc20 → Int → (Int → Option Bool) → Option Bool
noncomputable def ref19_item.body (ref19_Definer : T_ref19_Definer) (ref15_Check : T_ref15_Check) (ref17_Check : T_ref17_Check) (ref18_Check : T_ref18_Check) : T_ref19_item := fun t167 n168 k1 =>
  (ref19_Definer t167 n168
  (fun n180 => (cond_ (decide (n180 < (0 : Int))) (k1 (13 : Int)) (cond_ ((decide ((0 : Int) ≤ n180)) && (decide (n180 < (((List.length t167.1) : Nat) : Int)))) (cond_ (decide (n168 ≥ (((List.length t167.2.1) : Nat) : Int))) (cond_ ((decide ((0 : Int) ≤ (IntKind.wrap .i64 (n168 - (((List.length t167.2.1) : Nat) : Int))))) && (decide ((IntKind.wrap .i64 (n168 - (((List.length t167.2.1) : Nat) : Int))) < (((List.length t167.2.2.1) : Nat) : Int)))) (cond_ ((List.getD t167.2.2.1 (Int.toNat (IntKind.wrap .i64 (n168 - (((List.length t167.2.1) : Nat) : Int)))) (0, ([], ([], ())))).1 != (List.getD t167.1 (Int.toNat n180) ((⟨#[]⟩ : ByteArray), (false, (0, (0, (0, ())))))).2.2.2.1) (k1 (14 : Int)) (ref15_Check ((List.getD t167.2.2.1 (Int.toNat (IntKind.wrap .i64 (n168 - (((List.length t167.2.1) : Nat) : Int)))) (0, ([], ([], ())))).1, ((List.getD t167.2.2.1 (Int.toNat (IntKind.wrap .i64 (n168 - (((List.length t167.2.1) : Nat) : Int)))) (0, ([], ([], ())))).2.1, ((List.getD t167.2.2.1 (Int.toNat (IntKind.wrap .i64 (n168 - (((List.length t167.2.1) : Nat) : Int)))) (0, ([], ([], ())))).2.2.1, ()))) t167.1
  (fun n194 => (k1 n194)))) none) (cond_ ((decide ((0 : Int) ≤ n168)) && (decide (n168 < (((List.length t167.2.1) : Nat) : Int)))) (cond_ ((List.getD t167.2.1 (Int.toNat n168) (0, ([], (0, (false, (0, (0, ([], ([], ([], ())))))))))).1 != (List.getD t167.1 (Int.toNat n180) ((⟨#[]⟩ : ByteArray), (false, (0, (0, (0, ())))))).2.2.2.1) (k1 (14 : Int)) (cond_ ((decide ((0 : Int) ≤ n168)) && (decide (n168 < (((List.length t167.2.1) : Nat) : Int)))) (ref17_Check (List.getD t167.2.1 (Int.toNat n168) (0, ([], (0, (false, (0, (0, ([], ([], ([], ())))))))))) t167.1
  (fun n557 n558 => (cond_ (n557 != (0 : Int)) (k1 n557) (cond_ ((decide ((0 : Int) ≤ n168)) && (decide (n168 < (((List.length t167.2.1) : Nat) : Int)))) (ref18_Check (List.getD t167.2.1 (Int.toNat n168) (0, ([], (0, (false, (0, (0, ([], ([], ([], ()))))))))))
  (fun n619 => (k1 n619))) none)))) none)) none)) none))))
noncomputable def ref19_item : T_ref19_item := ref19_item.body ref19_Definer ref15_Check ref17_Check ref18_Check
def ref19_item.p : FPat := fp 51 (pl (pd Ty24) (pl (pd (.int .i64)) pz)) pz
def ref19_item.g (F : T_ref19_item) (v : ref19_item.p.T) (k : KR) : Option Bool := F v.1.1 v.1.2.1 (fun y0 => k (.d ⟨(.int .i64), y0⟩) [])
theorem ref19_item.eq (F0 : T_ref19_Definer) (F1 : T_ref15_Check) (F2 : T_ref17_Check) (F3 : T_ref18_Check) : ∀ v k, exF Try.f51 ref19_item.p [⟨ref19_Definer.p, ref19_Definer.g F0⟩, ⟨ref15_Check.p, ref15_Check.g F1⟩, ⟨ref17_Check.p, ref17_Check.g F2⟩, ⟨ref18_Check.p, ref18_Check.g F3⟩] [] [] v k = ref19_item.g (ref19_item.body F0 F1 F2 F3) v k := fun v k => by kernel_rfl
theorem ref19_item.ok : okF 9 ref19_item.p (ref19_item.g ref19_item) := fn2 (ref19_item.eq ref19_Definer ref15_Check ref17_Check ref18_Check) Try.func51 (by kernel_rfl) (.cons ref19_Definer.ok (.cons ref15_Check.ok (.cons ref17_Check.ok (.cons ref18_Check.ok .nil)))) [] (by kernel_rfl) .nil
/-- function 36: the loop in block 2 -/
abbrev T_ref19_Check_L2 : Type := Int → Tc20 → (Int → Int → Option Bool) → (Option Bool) → Option Bool
noncomputable def ref19_Check_L2.body (ref19_Check_L2 : T_ref19_Check_L2) (ref19_Items : T_ref19_Items) (ref19_item : T_ref19_item) : T_ref19_Check_L2 := fun n163 t164 k1 k2 =>
  (ref19_Items t164
  (fun n166 => (cond_ (decide (n163 < n166)) (ref19_item t164 n163
  (fun n620 => (cond_ (n620 != (0 : Int)) (k1 n620 n163) (ref19_Check_L2 (IntKind.wrap .i64 (n163 + (1 : Int))) t164 k1 k2)))) (k2))))
noncomputable def ref19_Check_L2 : Nat → T_ref19_Check_L2
  | 0 => fun _ _ _ _ => none
  | n + 1 => ref19_Check_L2.body (ref19_Check_L2 n) ref19_Items ref19_item
def ref19_Check_L2.p : LPat := lp 2 51 [1, 6] (ps (pq [1, 0] 0 0) (pl (pd (.int .i64)) pz)) (pl (po [1, 0] 90 3 (es Ty24 (pl eh pz))) pz)
def ref19_Check_L2.g (F : T_ref19_Check_L2) (v : ref19_Check_L2.p.T) (k : KE) : Option Bool := F v.1.1 v.2.1.1 (fun y0 y1 => k .ret ⟨fillS 51 [2, 3] [(.d ⟨(.int .i64), y0⟩), (.d ⟨(.int .i64), y1⟩)], [], 2⟩) (k (.exit 2) ⟨fillS 51 [] [], [], 2⟩)
theorem ref19_Check_L2.step (S : T_ref19_Check_L2) (F0 : T_ref19_Items) (F1 : T_ref19_item) : ∀ v k, exR 36 Try.f36 2 ref19_Check_L2.p [⟨ref19_Items.p, ref19_Items.g F0⟩, ⟨ref19_item.p, ref19_item.g F1⟩] [] [] (ref19_Check_L2.g S) v k = ref19_Check_L2.g (ref19_Check_L2.body S F0 F1) v k := fun v k => by kernel_rfl
theorem ref19_Check_L2.ok : okL 36 Try.f36 9 2 ref19_Check_L2.p (ref19_Check_L2.g (ref19_Check_L2 ROUNDS)) := loop2 (G := fun n => ref19_Check_L2.g (ref19_Check_L2 n)) (fun n => ref19_Check_L2.step (ref19_Check_L2 n) ref19_Items ref19_item) (.cons ref19_Items.ok (.cons ref19_item.ok .nil)) [] (by kernel_rfl) .nil (fun _ _ => rfl)
/-- function 36: sheerleg/sheerlegref19.Check -/
abbrev T_ref19_Check : Type := Tc20 → (Int → Int → Option Bool) → Option Bool
noncomputable def ref19_Check.body (ref19_Check_L0 : T_ref19_Check_L0) (ref19_Check_L2 : T_ref19_Check_L2) : T_ref19_Check := fun t37 k1 =>
  (cond_ (! (decide ((((List.length t37.1) : Nat) : Int) > (32 : Int)))) (cond_ (! (decide ((((List.length t37.2.1) : Nat) : Int) > (12 : Int)))) (cond_ (decide ((((List.length t37.2.2.1) : Nat) : Int) > (8 : Int))) (k1 (19 : Int) (-1 : Int)) (ref19_Check_L0 (0 : Int) t37
  (fun n160 n161 => (k1 n160 n161))
  (fun t162 => (ref19_Check_L2 (0 : Int) t162
  (fun n621 n622 => (k1 n621 n622))
  (k1 (0 : Int) (-1 : Int)))))) (k1 (19 : Int) (-1 : Int))) (k1 (19 : Int) (-1 : Int)))
noncomputable def ref19_Check : T_ref19_Check := ref19_Check.body (ref19_Check_L0 ROUNDS) (ref19_Check_L2 ROUNDS)
def ref19_Check.p : FPat := fp 36 (pl (pd Ty24) pz) pz
def ref19_Check.g (F : T_ref19_Check) (v : ref19_Check.p.T) (k : KR) : Option Bool := F v.1.1 (fun y0 y1 => k (.tup [(.d ⟨(.int .i64), y0⟩), (.d ⟨(.int .i64), y1⟩)]) [])
theorem ref19_Check.eq (L0 : T_ref19_Check_L0) (L1 : T_ref19_Check_L2) : ∀ v k, exF Try.f36 ref19_Check.p [] [] [⟨0, ref19_Check_L0.p, ref19_Check_L0.g L0⟩, ⟨2, ref19_Check_L2.p, ref19_Check_L2.g L1⟩] v k = ref19_Check.g (ref19_Check.body L0 L1) v k := fun v k => by kernel_rfl
theorem ref19_Check.ok : okF 10 ref19_Check.p (ref19_Check.g ref19_Check) := fn2 (ref19_Check.eq (ref19_Check_L0 ROUNDS) (ref19_Check_L2 ROUNDS)) Try.func36 (by kernel_rfl) .nil [0, 2] (by kernel_rfl) (.cons ref19_Check_L0.ok (.cons ref19_Check_L2.ok .nil))
/-- function 23: the loop in block 0 -/
abbrev T_ref24_Bind_L0 : Type := Tc21 → ByteArray → Int → Int → (Int × Int × Int × Unit) → (Tc22 → (Int × Int × Int × Unit) → Option Bool) → (Tc21 → ByteArray → Int → (Int × Int × Int × Unit) → Option Bool) → Option Bool
noncomputable def ref24_Bind_L0.body (ref24_Bind_L0 : T_ref24_Bind_L0) (ref19_Check : T_ref19_Check) : T_ref24_Bind_L0 := fun ts32 s33 n34 n35 t36 k1 k2 =>
  (cond_ (decide (n34 < (List.length ts32 : Int))) (cond_ ((decide ((0 : Int) ≤ n34)) && (decide (n34 < (List.length ts32 : Int)))) (ref19_Check (List.getD ts32 (Int.toNat n34) ([], ([], ([], ()))))
  (fun n623 n624 => (cond_ (n623 != (0 : Int)) (k1 ([], ([], (0, ()))) (n623, (n34, (n624, ())))) (ref24_Bind_L0 ts32 s33 (IntKind.wrap .i64 (n34 + (1 : Int))) n35 t36 k1 k2)))) none) (k2 ts32 s33 n35 t36))
noncomputable def ref24_Bind_L0 : Nat → T_ref24_Bind_L0
  | 0 => fun _ _ _ _ _ _ _ => none
  | n + 1 => ref24_Bind_L0.body (ref24_Bind_L0 n) ref19_Check
def ref24_Bind_L0.p : LPat := lp 2 96 [0, 1, 4, 5, 6] (pl (pb 0 90 Ty24) (pl (pd .str) (ps (pq [1, 0] 0 0) (ps (pq [1, 1] 0 0) (pl (pd (.int .i64)) pz))))) (pl (po [1, 0] 31 3 (em (pl (pa (ps (pk 0) (ps (pk 0) (pl (pd (.int .i64)) pz)))) pz))) (pl (po [1, 1] 67 3 (es Ty7 (pl eh pz))) pz))
def ref24_Bind_L0.g (F : T_ref24_Bind_L0) (v : ref24_Bind_L0.p.T) (k : KE) : Option Bool := F v.1.1 v.1.2.1 v.1.2.2.1 v.2.1.1.1 v.2.2.1.1 (fun y0 y1 => k .ret ⟨fillS 96 [4, 5] [(.ptr [1, 0] 0 0), (.ptr [1, 1] 0 0)], [([1, 0], ⟨31, 3, (.data Ty26 [y0])⟩), ([1, 1], ⟨67, 3, (.data Ty7 [y1])⟩)], 2⟩) (fun y0 y1 y2 y3 => k (.exit 0) ⟨fillS 96 [0, 1, 4, 5] [(.bv 0 90 Ty24 y0), (.d ⟨.str, y1⟩), (.ptr [1, 0] 0 0), (.ptr [1, 1] 0 0)], [([1, 0], ⟨31, 3, (.mix [(.agg [.nils, .nils, (.d ⟨(.int .i64), y2⟩)])])⟩), ([1, 1], ⟨67, 3, (.data Ty7 [y3])⟩)], 2⟩)
theorem ref24_Bind_L0.step (S : T_ref24_Bind_L0) (F0 : T_ref19_Check) : ∀ v k, exR 23 Try.f23 0 ref24_Bind_L0.p [⟨ref19_Check.p, ref19_Check.g F0⟩] [] [] (ref24_Bind_L0.g S) v k = ref24_Bind_L0.g (ref24_Bind_L0.body S F0) v k := fun v k => by kernel_rfl
theorem ref24_Bind_L0.ok : okL 23 Try.f23 10 0 ref24_Bind_L0.p (ref24_Bind_L0.g (ref24_Bind_L0 ROUNDS)) := loop2 (G := fun n => ref24_Bind_L0.g (ref24_Bind_L0 n)) (fun n => ref24_Bind_L0.step (ref24_Bind_L0 n) ref19_Check) (.cons ref19_Check.ok .nil) [] (by kernel_rfl) .nil (fun _ _ => rfl)
/-- function 54: sheerleg/sheerlegref23.global -/
abbrev T_ref23_global : Type := Tc7 → (Bool → Option Bool) → Option Bool
noncomputable def ref23_global.body : T_ref23_global := fun t649 k1 =>
  (cond_ (! t649.2.1) (k1 (t649.2.2.2.2.1 != (-1 : Int))) (k1 false))
noncomputable def ref23_global : T_ref23_global := ref23_global.body
def ref23_global.p : FPat := fp 54 (pl (pd Ty10) pz) pz
def ref23_global.g (F : T_ref23_global) (v : ref23_global.p.T) (k : KR) : Option Bool := F v.1.1 (fun y0 => k (.d ⟨.bool, y0⟩) [])
theorem ref23_global.eq : ∀ v k, exF Try.f54 ref23_global.p [] [] [] v k = ref23_global.g (ref23_global.body) v k := fun v k => by kernel_rfl
theorem ref23_global.ok : okF 1 ref23_global.p (ref23_global.g ref23_global) := fn2 (ref23_global.eq) Try.func54 (by kernel_rfl) .nil [] (by kernel_rfl) .nil
/-- function 38: the loop in block 2 -/
abbrev T_ref23_Find_L0_L2 : Type := Tc21 → ByteArray → Int → Int → (Int → Int → Bool → Option Bool) → (Tc21 → ByteArray → Int → Option Bool) → Option Bool
noncomputable def ref23_Find_L0_L2.body (ref23_Find_L0_L2 : T_ref23_Find_L0_L2) (ref23_global : T_ref23_global) : T_ref23_Find_L0_L2 := fun ts645 s646 n647 n648 k1 k2 =>
  (cond_ ((decide ((0 : Int) ≤ n647)) && (decide (n647 < (List.length ts645 : Int)))) (cond_ (decide (n648 < (((List.length (List.getD ts645 (Int.toNat n647) ([], ([], ([], ())))).1) : Nat) : Int))) (cond_ ((decide ((0 : Int) ≤ n647)) && (decide (n647 < (List.length ts645 : Int)))) (cond_ ((decide ((0 : Int) ≤ n648)) && (decide (n648 < (((List.length (List.getD ts645 (Int.toNat n647) ([], ([], ([], ())))).1) : Nat) : Int)))) (ref23_global (List.getD (List.getD ts645 (Int.toNat n647) ([], ([], ([], ())))).1 (Int.toNat n648) ((⟨#[]⟩ : ByteArray), (false, (0, (0, (0, ()))))))
  (fun b650 => (cond_ b650 (cond_ ((ByteArray.toList (List.getD (List.getD ts645 (Int.toNat n647) ([], ([], ([], ())))).1 (Int.toNat n648) ((⟨#[]⟩ : ByteArray), (false, (0, (0, (0, ())))))).1) == (ByteArray.toList s646)) (k1 n647 n648 true) (ref23_Find_L0_L2 ts645 s646 n647 (IntKind.wrap .i64 (n648 + (1 : Int))) k1 k2)) (ref23_Find_L0_L2 ts645 s646 n647 (IntKind.wrap .i64 (n648 + (1 : Int))) k1 k2)))) none) none) (k2 ts645 s646 n647)) none)
noncomputable def ref23_Find_L0_L2 : Nat → T_ref23_Find_L0_L2
  | 0 => fun _ _ _ _ _ _ => none
  | n + 1 => ref23_Find_L0_L2.body (ref23_Find_L0_L2 n) ref23_global
def ref23_Find_L0_L2.p : LPat := lp 2 44 [0, 1, 7, 8] (pl (pb 0 90 Ty24) (pl (pd .str) (pl (pd (.int .i64)) (pl (pd (.int .i64)) pz)))) pz
def ref23_Find_L0_L2.g (F : T_ref23_Find_L0_L2) (v : ref23_Find_L0_L2.p.T) (k : KE) : Option Bool := F v.1.1 v.1.2.1 v.1.2.2.1 v.1.2.2.2.1 (fun y0 y1 y2 => k .ret ⟨fillS 44 [4, 5, 6] [(.d ⟨(.int .i64), y0⟩), (.d ⟨(.int .i64), y1⟩), (.d ⟨.bool, y2⟩)], [], 2⟩) (fun y0 y1 y2 => k (.exit 2) ⟨fillS 44 [0, 1, 7] [(.bv 0 90 Ty24 y0), (.d ⟨.str, y1⟩), (.d ⟨(.int .i64), y2⟩)], [], 2⟩)
theorem ref23_Find_L0_L2.step (S : T_ref23_Find_L0_L2) (F0 : T_ref23_global) : ∀ v k, exR 38 Try.f38 2 ref23_Find_L0_L2.p [⟨ref23_global.p, ref23_global.g F0⟩] [] [] (ref23_Find_L0_L2.g S) v k = ref23_Find_L0_L2.g (ref23_Find_L0_L2.body S F0) v k := fun v k => by kernel_rfl
theorem ref23_Find_L0_L2.ok : okL 38 Try.f38 1 2 ref23_Find_L0_L2.p (ref23_Find_L0_L2.g (ref23_Find_L0_L2 ROUNDS)) := loop2 (G := fun n => ref23_Find_L0_L2.g (ref23_Find_L0_L2 n)) (fun n => ref23_Find_L0_L2.step (ref23_Find_L0_L2 n) ref23_global) (.cons ref23_global.ok .nil) [] (by kernel_rfl) .nil (fun _ _ => rfl)
/-- function 38: the loop in block 0 -/
abbrev T_ref23_Find_L0 : Type := Tc21 → ByteArray → Int → (Int → Int → Bool → Option Bool) → (Option Bool) → Option Bool
noncomputable def ref23_Find_L0.body (ref23_Find_L0 : T_ref23_Find_L0) (ref23_Find_L0_L2 : T_ref23_Find_L0_L2) : T_ref23_Find_L0 := fun ts642 s643 n644 k1 k2 =>
  (cond_ (decide (n644 < (List.length ts642 : Int))) (ref23_Find_L0_L2 ts642 s643 n644 (0 : Int)
  (fun n651 n652 b653 => (k1 n651 n652 b653))
  (fun ts654 s655 n656 => (ref23_Find_L0 ts654 s655 (IntKind.wrap .i64 (n656 + (1 : Int))) k1 k2))) (k2))
noncomputable def ref23_Find_L0 : Nat → T_ref23_Find_L0
  | 0 => fun _ _ _ _ _ => none
  | n + 1 => ref23_Find_L0.body (ref23_Find_L0 n) (ref23_Find_L0_L2 ROUNDS)
def ref23_Find_L0.p : LPat := lp 2 44 [0, 1, 7] (pl (pb 0 90 Ty24) (pl (pd .str) (pl (pd (.int .i64)) pz))) pz
def ref23_Find_L0.g (F : T_ref23_Find_L0) (v : ref23_Find_L0.p.T) (k : KE) : Option Bool := F v.1.1 v.1.2.1 v.1.2.2.1 (fun y0 y1 y2 => k .ret ⟨fillS 44 [4, 5, 6] [(.d ⟨(.int .i64), y0⟩), (.d ⟨(.int .i64), y1⟩), (.d ⟨.bool, y2⟩)], [], 2⟩) (k (.exit 0) ⟨fillS 44 [] [], [], 2⟩)
theorem ref23_Find_L0.step (S : T_ref23_Find_L0) (L0 : T_ref23_Find_L0_L2) : ∀ v k, exR 38 Try.f38 0 ref23_Find_L0.p [] [] [⟨2, ref23_Find_L0_L2.p, ref23_Find_L0_L2.g L0⟩] (ref23_Find_L0.g S) v k = ref23_Find_L0.g (ref23_Find_L0.body S L0) v k := fun v k => by kernel_rfl
theorem ref23_Find_L0.ok : okL 38 Try.f38 1 0 ref23_Find_L0.p (ref23_Find_L0.g (ref23_Find_L0 ROUNDS)) := loop2 (G := fun n => ref23_Find_L0.g (ref23_Find_L0 n)) (fun n => ref23_Find_L0.step (ref23_Find_L0 n) (ref23_Find_L0_L2 ROUNDS)) .nil [2] (by kernel_rfl) (.cons ref23_Find_L0_L2.ok .nil) (fun _ _ => rfl)
/-- function 38: sheerleg/sheerlegref23.Find -/
abbrev T_ref23_Find : Type := Tc21 → ByteArray → (Int → Int → Bool → Option Bool) → Option Bool
noncomputable def ref23_Find.body (ref23_Find_L0 : T_ref23_Find_L0) : T_ref23_Find := fun ts640 s641 k1 =>
  (ref23_Find_L0 ts640 s641 (0 : Int)
  (fun n657 n658 b659 => (k1 n657 n658 b659))
  (k1 (0 : Int) (0 : Int) false))
noncomputable def ref23_Find : T_ref23_Find := ref23_Find.body (ref23_Find_L0 ROUNDS)
def ref23_Find.p : FPat := fp 38 (pl (pb 0 90 Ty24) (pl (pd .str) pz)) pz
def ref23_Find.g (F : T_ref23_Find) (v : ref23_Find.p.T) (k : KR) : Option Bool := F v.1.1 v.1.2.1 (fun y0 y1 y2 => k (.tup [(.d ⟨(.int .i64), y0⟩), (.d ⟨(.int .i64), y1⟩), (.d ⟨.bool, y2⟩)]) [])
theorem ref23_Find.eq (L0 : T_ref23_Find_L0) : ∀ v k, exF Try.f38 ref23_Find.p [] [] [⟨0, ref23_Find_L0.p, ref23_Find_L0.g L0⟩] v k = ref23_Find.g (ref23_Find.body L0) v k := fun v k => by kernel_rfl
theorem ref23_Find.ok : okF 2 ref23_Find.p (ref23_Find.g ref23_Find) := fn2 (ref23_Find.eq (ref23_Find_L0 ROUNDS)) Try.func38 (by kernel_rfl) .nil [0] (by kernel_rfl) (.cons ref23_Find_L0.ok .nil)
/-- function 52: the loop in block 2 -/
abbrev T_ref23_Twice_L0_L2 : Type := Tc21 → Int → Int → (Int × Int × Int × Unit) → (Bool → (Int × Int × Int × Unit) → Option Bool) → (Tc21 → Int → (Int × Int × Int × Unit) → Option Bool) → Option Bool
noncomputable def ref23_Twice_L0_L2.body (ref23_Twice_L0_L2 : T_ref23_Twice_L0_L2) (ref23_Find : T_ref23_Find) (ref23_global : T_ref23_global) : T_ref23_Twice_L0_L2 := fun ts636 n637 n638 t639 k1 k2 =>
  (cond_ ((decide ((0 : Int) ≤ n637)) && (decide (n637 < (List.length ts636 : Int)))) (cond_ (decide (n638 < (((List.length (List.getD ts636 (Int.toNat n637) ([], ([], ([], ())))).1) : Nat) : Int))) (cond_ ((decide ((0 : Int) ≤ n637)) && (decide (n637 < (List.length ts636 : Int)))) (cond_ ((decide ((0 : Int) ≤ n638)) && (decide (n638 < (((List.length (List.getD ts636 (Int.toNat n637) ([], ([], ([], ())))).1) : Nat) : Int)))) (ref23_Find ts636 (List.getD (List.getD ts636 (Int.toNat n637) ([], ([], ([], ())))).1 (Int.toNat n638) ((⟨#[]⟩ : ByteArray), (false, (0, (0, (0, ())))))).1
  (fun n660 n661 b662 => (ref23_global (List.getD (List.getD ts636 (Int.toNat n637) ([], ([], ([], ())))).1 (Int.toNat n638) ((⟨#[]⟩ : ByteArray), (false, (0, (0, (0, ()))))))
  (fun b663 => (cond_ b663 (cond_ (! (n660 != n637)) (cond_ (n661 != n638) (k1 true (12, (n637, (n638, ())))) (ref23_Twice_L0_L2 ts636 n637 (IntKind.wrap .i64 (n638 + (1 : Int))) t639 k1 k2)) (k1 true (12, (n637, (n638, ()))))) (ref23_Twice_L0_L2 ts636 n637 (IntKind.wrap .i64 (n638 + (1 : Int))) t639 k1 k2)))))) none) none) (k2 ts636 n637 t639)) none)
noncomputable def ref23_Twice_L0_L2 : Nat → T_ref23_Twice_L0_L2
  | 0 => fun _ _ _ _ _ _ => none
  | n + 1 => ref23_Twice_L0_L2.body (ref23_Twice_L0_L2 n) ref23_Find ref23_global
def ref23_Twice_L0_L2.p : LPat := lp 2 58 [0, 2, 4, 5] (pl (pb 0 90 Ty24) (ps (pq [1, 0] 0 0) (pl (pd (.int .i64)) (pl (pd (.int .i64)) pz)))) (pl (po [1, 0] 67 3 (es Ty7 (pl eh pz))) pz)
def ref23_Twice_L0_L2.g (F : T_ref23_Twice_L0_L2) (v : ref23_Twice_L0_L2.p.T) (k : KE) : Option Bool := F v.1.1 v.1.2.1 v.1.2.2.1 v.2.1.1 (fun y0 y1 => k .ret ⟨fillS 58 [2, 3] [(.ptr [1, 0] 0 0), (.d ⟨.bool, y0⟩)], [([1, 0], ⟨67, 3, (.data Ty7 [y1])⟩)], 2⟩) (fun y0 y1 y2 => k (.exit 2) ⟨fillS 58 [0, 2, 4] [(.bv 0 90 Ty24 y0), (.ptr [1, 0] 0 0), (.d ⟨(.int .i64), y1⟩)], [([1, 0], ⟨67, 3, (.data Ty7 [y2])⟩)], 2⟩)
theorem ref23_Twice_L0_L2.step (S : T_ref23_Twice_L0_L2) (F0 : T_ref23_Find) (F1 : T_ref23_global) : ∀ v k, exR 52 Try.f52 2 ref23_Twice_L0_L2.p [⟨ref23_Find.p, ref23_Find.g F0⟩, ⟨ref23_global.p, ref23_global.g F1⟩] [] [] (ref23_Twice_L0_L2.g S) v k = ref23_Twice_L0_L2.g (ref23_Twice_L0_L2.body S F0 F1) v k := fun v k => by kernel_rfl
theorem ref23_Twice_L0_L2.ok : okL 52 Try.f52 2 2 ref23_Twice_L0_L2.p (ref23_Twice_L0_L2.g (ref23_Twice_L0_L2 ROUNDS)) := loop2 (G := fun n => ref23_Twice_L0_L2.g (ref23_Twice_L0_L2 n)) (fun n => ref23_Twice_L0_L2.step (ref23_Twice_L0_L2 n) ref23_Find ref23_global) (.cons ref23_Find.ok (.cons ref23_global.ok .nil)) [] (by kernel_rfl) .nil (fun _ _ => rfl)
/-- function 52: the loop in block 0 -/
abbrev T_ref23_Twice_L0 : Type := Tc21 → Int → (Int × Int × Int × Unit) → (Bool → (Int × Int × Int × Unit) → Option Bool) → ((Int × Int × Int × Unit) → Option Bool) → Option Bool
noncomputable def ref23_Twice_L0.body (ref23_Twice_L0 : T_ref23_Twice_L0) (ref23_Twice_L0_L2 : T_ref23_Twice_L0_L2) : T_ref23_Twice_L0 := fun ts633 n634 t635 k1 k2 =>
  (cond_ (decide (n634 < (List.length ts633 : Int))) (ref23_Twice_L0_L2 ts633 n634 (0 : Int) t635
  (fun b664 t665 => (k1 b664 t665))
  (fun ts666 n667 t668 => (ref23_Twice_L0 ts666 (IntKind.wrap .i64 (n667 + (1 : Int))) t668 k1 k2))) (k2 t635))
noncomputable def ref23_Twice_L0 : Nat → T_ref23_Twice_L0
  | 0 => fun _ _ _ _ _ => none
  | n + 1 => ref23_Twice_L0.body (ref23_Twice_L0 n) (ref23_Twice_L0_L2 ROUNDS)
def ref23_Twice_L0.p : LPat := lp 2 58 [0, 2, 4] (pl (pb 0 90 Ty24) (ps (pq [1, 0] 0 0) (pl (pd (.int .i64)) pz))) (pl (po [1, 0] 67 3 (es Ty7 (pl eh pz))) pz)
def ref23_Twice_L0.g (F : T_ref23_Twice_L0) (v : ref23_Twice_L0.p.T) (k : KE) : Option Bool := F v.1.1 v.1.2.1 v.2.1.1 (fun y0 y1 => k .ret ⟨fillS 58 [2, 3] [(.ptr [1, 0] 0 0), (.d ⟨.bool, y0⟩)], [([1, 0], ⟨67, 3, (.data Ty7 [y1])⟩)], 2⟩) (fun y0 => k (.exit 0) ⟨fillS 58 [2] [(.ptr [1, 0] 0 0)], [([1, 0], ⟨67, 3, (.data Ty7 [y0])⟩)], 2⟩)
theorem ref23_Twice_L0.step (S : T_ref23_Twice_L0) (L0 : T_ref23_Twice_L0_L2) : ∀ v k, exR 52 Try.f52 0 ref23_Twice_L0.p [] [] [⟨2, ref23_Twice_L0_L2.p, ref23_Twice_L0_L2.g L0⟩] (ref23_Twice_L0.g S) v k = ref23_Twice_L0.g (ref23_Twice_L0.body S L0) v k := fun v k => by kernel_rfl
theorem ref23_Twice_L0.ok : okL 52 Try.f52 2 0 ref23_Twice_L0.p (ref23_Twice_L0.g (ref23_Twice_L0 ROUNDS)) := loop2 (G := fun n => ref23_Twice_L0.g (ref23_Twice_L0 n)) (fun n => ref23_Twice_L0.step (ref23_Twice_L0 n) (ref23_Twice_L0_L2 ROUNDS)) .nil [2] (by kernel_rfl) (.cons ref23_Twice_L0_L2.ok .nil) (fun _ _ => rfl)
/-- function 52: sheerleg/sheerlegref23.Twice -/
abbrev T_ref23_Twice : Type := Tc21 → ((Int × Int × Int × Unit) → Bool → Option Bool) → Option Bool
noncomputable def ref23_Twice.body (ref23_Twice_L0 : T_ref23_Twice_L0) : T_ref23_Twice := fun ts632 k1 =>
  (ref23_Twice_L0 ts632 (0 : Int) (0, (0, (0, ())))
  (fun b669 t670 => (k1 t670 b669))
  (fun t671 => (k1 (0, (0, (0, ()))) false)))
noncomputable def ref23_Twice : T_ref23_Twice := ref23_Twice.body (ref23_Twice_L0 ROUNDS)
def ref23_Twice.p : FPat := fp 52 (pl (pb 0 90 Ty24) pz) pz
def ref23_Twice.g (F : T_ref23_Twice) (v : ref23_Twice.p.T) (k : KR) : Option Bool := F v.1.1 (fun y0 y1 => k (.tup [(.d ⟨Ty7, y0⟩), (.d ⟨.bool, y1⟩)]) [])
theorem ref23_Twice.eq (L0 : T_ref23_Twice_L0) : ∀ v k, exF Try.f52 ref23_Twice.p [] [] [⟨0, ref23_Twice_L0.p, ref23_Twice_L0.g L0⟩] v k = ref23_Twice.g (ref23_Twice.body L0) v k := fun v k => by kernel_rfl
theorem ref23_Twice.ok : okF 3 ref23_Twice.p (ref23_Twice.g ref23_Twice) := fn2 (ref23_Twice.eq (ref23_Twice_L0 ROUNDS)) Try.func52 (by kernel_rfl) .nil [0] (by kernel_rfl) (.cons ref23_Twice_L0.ok .nil)
/-- function 53: sheerleg/sheerlegref23.Bound -/
abbrev T_ref23_Bound : Type := Tc21 → Int → Int → (Int → Int → Int → Option Bool) → Option Bool
noncomputable def ref23_Bound.body (ref23_Find : T_ref23_Find) : T_ref23_Bound := fun ts681 n682 n683 k1 =>
  (cond_ (! (decide (n682 < (0 : Int)))) (cond_ (! (decide (n682 ≥ (List.length ts681 : Int)))) (cond_ (! (decide (n683 < (0 : Int)))) (cond_ ((decide ((0 : Int) ≤ n682)) && (decide (n682 < (List.length ts681 : Int)))) (cond_ (decide (n683 ≥ (((List.length (List.getD ts681 (Int.toNat n682) ([], ([], ([], ())))).1) : Nat) : Int))) (k1 (0 : Int) (0 : Int) (2 : Int)) (cond_ ((decide ((0 : Int) ≤ n682)) && (decide (n682 < (List.length ts681 : Int)))) (cond_ ((decide ((0 : Int) ≤ n683)) && (decide (n683 < (((List.length (List.getD ts681 (Int.toNat n682) ([], ([], ([], ())))).1) : Nat) : Int)))) (cond_ ((List.getD (List.getD ts681 (Int.toNat n682) ([], ([], ([], ())))).1 (Int.toNat n683) ((⟨#[]⟩ : ByteArray), (false, (0, (0, (0, ())))))).2.2.2.2.1 != (-1 : Int)) (k1 n682 n683 (0 : Int)) (ref23_Find ts681 (List.getD (List.getD ts681 (Int.toNat n682) ([], ([], ([], ())))).1 (Int.toNat n683) ((⟨#[]⟩ : ByteArray), (false, (0, (0, (0, ())))))).1
  (fun n684 n685 b686 => (cond_ (! b686) (k1 (0 : Int) (0 : Int) (13 : Int)) (cond_ ((decide ((0 : Int) ≤ n684)) && (decide (n684 < (List.length ts681 : Int)))) (cond_ ((decide ((0 : Int) ≤ n685)) && (decide (n685 < (((List.length (List.getD ts681 (Int.toNat n684) ([], ([], ([], ())))).1) : Nat) : Int)))) (cond_ (! ((List.getD (List.getD ts681 (Int.toNat n684) ([], ([], ([], ())))).1 (Int.toNat n685) ((⟨#[]⟩ : ByteArray), (false, (0, (0, (0, ())))))).2.2.1 != (List.getD (List.getD ts681 (Int.toNat n682) ([], ([], ([], ())))).1 (Int.toNat n683) ((⟨#[]⟩ : ByteArray), (false, (0, (0, (0, ())))))).2.2.1)) (cond_ ((List.getD (List.getD ts681 (Int.toNat n684) ([], ([], ([], ())))).1 (Int.toNat n685) ((⟨#[]⟩ : ByteArray), (false, (0, (0, (0, ())))))).2.2.2.1 != (List.getD (List.getD ts681 (Int.toNat n682) ([], ([], ([], ())))).1 (Int.toNat n683) ((⟨#[]⟩ : ByteArray), (false, (0, (0, (0, ())))))).2.2.2.1) (k1 (0 : Int) (0 : Int) (14 : Int)) (k1 n684 n685 (0 : Int))) (k1 (0 : Int) (0 : Int) (14 : Int))) none) none))))) none) none)) none) (k1 (0 : Int) (0 : Int) (2 : Int))) (k1 (0 : Int) (0 : Int) (2 : Int))) (k1 (0 : Int) (0 : Int) (2 : Int)))
noncomputable def ref23_Bound : T_ref23_Bound := ref23_Bound.body ref23_Find
def ref23_Bound.p : FPat := fp 53 (pl (pb 0 90 Ty24) (pl (pd (.int .i64)) (pl (pd (.int .i64)) pz))) pz
def ref23_Bound.g (F : T_ref23_Bound) (v : ref23_Bound.p.T) (k : KR) : Option Bool := F v.1.1 v.1.2.1 v.1.2.2.1 (fun y0 y1 y2 => k (.tup [(.d ⟨(.int .i64), y0⟩), (.d ⟨(.int .i64), y1⟩), (.d ⟨(.int .i64), y2⟩)]) [])
theorem ref23_Bound.eq (F0 : T_ref23_Find) : ∀ v k, exF Try.f53 ref23_Bound.p [⟨ref23_Find.p, ref23_Find.g F0⟩] [] [] v k = ref23_Bound.g (ref23_Bound.body F0) v k := fun v k => by kernel_rfl
theorem ref23_Bound.ok : okF 3 ref23_Bound.p (ref23_Bound.g ref23_Bound) := fn2 (ref23_Bound.eq ref23_Find) Try.func53 (by kernel_rfl) (.cons ref23_Find.ok .nil) [] (by kernel_rfl) .nil
/-- function 37: the loop in block 2 -/
abbrev T_ref23_Check_L0_L2 : Type := Tc21 → Int → Int → (Int × Int × Int × Unit) → ((Int × Int × Int × Unit) → Option Bool) → (Tc21 → Int → (Int × Int × Int × Unit) → Option Bool) → Option Bool
noncomputable def ref23_Check_L0_L2.body (ref23_Check_L0_L2 : T_ref23_Check_L0_L2) (ref23_Bound : T_ref23_Bound) : T_ref23_Check_L0_L2 := fun ts677 n678 n679 t680 k1 k2 =>
  (cond_ ((decide ((0 : Int) ≤ n678)) && (decide (n678 < (List.length ts677 : Int)))) (cond_ (decide (n679 < (((List.length (List.getD ts677 (Int.toNat n678) ([], ([], ([], ())))).1) : Nat) : Int))) (ref23_Bound ts677 n678 n679
  (fun n687 n688 n689 => (cond_ (n689 != (0 : Int)) (k1 (n689, (n678, (n679, ())))) (ref23_Check_L0_L2 ts677 n678 (IntKind.wrap .i64 (n679 + (1 : Int))) t680 k1 k2)))) (k2 ts677 n678 t680)) none)
noncomputable def ref23_Check_L0_L2 : Nat → T_ref23_Check_L0_L2
  | 0 => fun _ _ _ _ _ _ => none
  | n + 1 => ref23_Check_L0_L2.body (ref23_Check_L0_L2 n) ref23_Bound
def ref23_Check_L0_L2.p : LPat := lp 2 57 [0, 2, 5, 6] (pl (pb 0 90 Ty24) (ps (pq [1, 0] 0 0) (pl (pd (.int .i64)) (pl (pd (.int .i64)) pz)))) (pl (po [1, 0] 67 3 (es Ty7 (pl eh pz))) pz)
def ref23_Check_L0_L2.g (F : T_ref23_Check_L0_L2) (v : ref23_Check_L0_L2.p.T) (k : KE) : Option Bool := F v.1.1 v.1.2.1 v.1.2.2.1 v.2.1.1 (fun y0 => k .ret ⟨fillS 57 [2] [(.ptr [1, 0] 0 0)], [([1, 0], ⟨67, 3, (.data Ty7 [y0])⟩)], 2⟩) (fun y0 y1 y2 => k (.exit 2) ⟨fillS 57 [0, 2, 5] [(.bv 0 90 Ty24 y0), (.ptr [1, 0] 0 0), (.d ⟨(.int .i64), y1⟩)], [([1, 0], ⟨67, 3, (.data Ty7 [y2])⟩)], 2⟩)
theorem ref23_Check_L0_L2.step (S : T_ref23_Check_L0_L2) (F0 : T_ref23_Bound) : ∀ v k, exR 37 Try.f37 2 ref23_Check_L0_L2.p [⟨ref23_Bound.p, ref23_Bound.g F0⟩] [] [] (ref23_Check_L0_L2.g S) v k = ref23_Check_L0_L2.g (ref23_Check_L0_L2.body S F0) v k := fun v k => by kernel_rfl
theorem ref23_Check_L0_L2.ok : okL 37 Try.f37 3 2 ref23_Check_L0_L2.p (ref23_Check_L0_L2.g (ref23_Check_L0_L2 ROUNDS)) := loop2 (G := fun n => ref23_Check_L0_L2.g (ref23_Check_L0_L2 n)) (fun n => ref23_Check_L0_L2.step (ref23_Check_L0_L2 n) ref23_Bound) (.cons ref23_Bound.ok .nil) [] (by kernel_rfl) .nil (fun _ _ => rfl)
/-- function 37: the loop in block 0 -/
abbrev T_ref23_Check_L0 : Type := Tc21 → Int → (Int × Int × Int × Unit) → ((Int × Int × Int × Unit) → Option Bool) → ((Int × Int × Int × Unit) → Option Bool) → Option Bool
noncomputable def ref23_Check_L0.body (ref23_Check_L0 : T_ref23_Check_L0) (ref23_Check_L0_L2 : T_ref23_Check_L0_L2) : T_ref23_Check_L0 := fun ts674 n675 t676 k1 k2 =>
  (cond_ (decide (n675 < (List.length ts674 : Int))) (ref23_Check_L0_L2 ts674 n675 (0 : Int) t676
  (fun t690 => (k1 t690))
  (fun ts691 n692 t693 => (ref23_Check_L0 ts691 (IntKind.wrap .i64 (n692 + (1 : Int))) t693 k1 k2))) (k2 t676))
noncomputable def ref23_Check_L0 : Nat → T_ref23_Check_L0
  | 0 => fun _ _ _ _ _ => none
  | n + 1 => ref23_Check_L0.body (ref23_Check_L0 n) (ref23_Check_L0_L2 ROUNDS)
def ref23_Check_L0.p : LPat := lp 2 57 [0, 2, 5] (pl (pb 0 90 Ty24) (ps (pq [1, 0] 0 0) (pl (pd (.int .i64)) pz))) (pl (po [1, 0] 67 3 (es Ty7 (pl eh pz))) pz)
def ref23_Check_L0.g (F : T_ref23_Check_L0) (v : ref23_Check_L0.p.T) (k : KE) : Option Bool := F v.1.1 v.1.2.1 v.2.1.1 (fun y0 => k .ret ⟨fillS 57 [2] [(.ptr [1, 0] 0 0)], [([1, 0], ⟨67, 3, (.data Ty7 [y0])⟩)], 2⟩) (fun y0 => k (.exit 0) ⟨fillS 57 [2] [(.ptr [1, 0] 0 0)], [([1, 0], ⟨67, 3, (.data Ty7 [y0])⟩)], 2⟩)
theorem ref23_Check_L0.step (S : T_ref23_Check_L0) (L0 : T_ref23_Check_L0_L2) : ∀ v k, exR 37 Try.f37 0 ref23_Check_L0.p [] [] [⟨2, ref23_Check_L0_L2.p, ref23_Check_L0_L2.g L0⟩] (ref23_Check_L0.g S) v k = ref23_Check_L0.g (ref23_Check_L0.body S L0) v k := fun v k => by kernel_rfl
theorem ref23_Check_L0.ok : okL 37 Try.f37 3 0 ref23_Check_L0.p (ref23_Check_L0.g (ref23_Check_L0 ROUNDS)) := loop2 (G := fun n => ref23_Check_L0.g (ref23_Check_L0 n)) (fun n => ref23_Check_L0.step (ref23_Check_L0 n) (ref23_Check_L0_L2 ROUNDS)) .nil [2] (by kernel_rfl) (.cons ref23_Check_L0_L2.ok .nil) (fun _ _ => rfl)
/-- function 37: sheerleg/sheerlegref23.Check -/
abbrev T_ref23_Check : Type := Tc21 → ((Int × Int × Int × Unit) → Option Bool) → Option Bool
noncomputable def ref23_Check.body (ref23_Twice : T_ref23_Twice) (ref23_Check_L0 : T_ref23_Check_L0) : T_ref23_Check := fun ts631 k1 =>
  (cond_ (! ((List.length ts631 : Int) == (0 : Int))) (cond_ (decide ((List.length ts631 : Int) > (6 : Int))) (k1 (19, ((-1), ((-1), ())))) (ref23_Twice ts631
  (fun t672 b673 => (cond_ b673 (k1 t672) (ref23_Check_L0 ts631 (0 : Int) (0, (0, (0, ())))
  (fun t694 => (k1 t694))
  (fun t695 => (k1 (0, (0, (0, ())))))))))) (k1 (19, ((-1), ((-1), ())))))
noncomputable def ref23_Check : T_ref23_Check := ref23_Check.body ref23_Twice (ref23_Check_L0 ROUNDS)
def ref23_Check.p : FPat := fp 37 (pl (pb 0 90 Ty24) pz) pz
def ref23_Check.g (F : T_ref23_Check) (v : ref23_Check.p.T) (k : KR) : Option Bool := F v.1.1 (fun y0 => k (.d ⟨Ty7, y0⟩) [])
theorem ref23_Check.eq (F0 : T_ref23_Twice) (L0 : T_ref23_Check_L0) : ∀ v k, exF Try.f37 ref23_Check.p [⟨ref23_Twice.p, ref23_Twice.g F0⟩] [] [⟨0, ref23_Check_L0.p, ref23_Check_L0.g L0⟩] v k = ref23_Check.g (ref23_Check.body F0 L0) v k := fun v k => by kernel_rfl
theorem ref23_Check.ok : okF 4 ref23_Check.p (ref23_Check.g ref23_Check) := fn2 (ref23_Check.eq ref23_Twice (ref23_Check_L0 ROUNDS)) Try.func37 (by kernel_rfl) (.cons ref23_Twice.ok .nil) [0] (by kernel_rfl) (.cons ref23_Check_L0.ok .nil)
/-- function 39: the loop in block 4 -/
abbrev T_ref24_program_L0_L2_L4 : Type := Tc21 → Int → Int → Int → Int → Int → Tc19 → Tc15 → Tc11 → Tc17 → Tc13 → (List Int) → (Tc21 → Int → Int → Int → Int → Tc19 → Tc15 → Tc11 → Tc17 → Tc13 → (List Int) → Option Bool) → Option Bool
noncomputable def ref24_program_L0_L2_L4.body (ref24_program_L0_L2_L4 : T_ref24_program_L0_L2_L4) (ref17_Sym : T_ref17_Sym) : T_ref24_program_L0_L2_L4 := fun ts717 n718 n719 n720 n721 n722 ts723 ts724 l725 l726 l727 ns728 k1 =>
  (cond_ ((decide ((0 : Int) ≤ n719)) && (decide (n719 < (List.length l726 : Int)))) (cond_ (decide (n720 < (((List.length (List.getD l726 (Int.toNat n719) (0, ([], (0, (false, (0, (0, ([], ([], ([], ())))))))))).2.2.2.2.2.2.2.1) : Nat) : Int))) (cond_ ((decide ((0 : Int) ≤ n719)) && (decide (n719 < (List.length l726 : Int)))) (ref17_Sym (List.getD l726 (Int.toNat n719) (0, ([], (0, (false, (0, (0, ([], ([], ([], ())))))))))) n720
  (fun n729 => (cond_ (Nat.ble (((List.length ns728) + (List.length (n729 :: []))) * (8 : Nat)) (140737488355328 : Nat)) (ref24_program_L0_L2_L4 ts717 n718 n719 (IntKind.wrap .i64 (n720 + (1 : Int))) n721 n722 ts723 ts724 l725 l726 l727 (ns728 ++ (n729 :: [])) k1) none))) none) (k1 ts717 n718 n719 n721 n722 ts723 ts724 l725 l726 l727 ns728)) none)
noncomputable def ref24_program_L0_L2_L4 : Nat → T_ref24_program_L0_L2_L4
  | 0 => fun _ _ _ _ _ _ _ _ _ _ _ _ _ => none
  | n + 1 => ref24_program_L0_L2_L4.body (ref24_program_L0_L2_L4 n) ref17_Sym
def ref24_program_L0_L2_L4.p : LPat := lp 2 109 [0, 2, 3, 4, 5, 6, 7, 8] (pl (pb 0 90 Ty24) (ps (pq [1, 0] 0 0) (ps (pq [1, 1] 0 0) (pl (pd (.int .i64)) (ps (pq [1, 4] 0 0) (pl (pd (.int .i64)) (ps (pr [1, 5]) (pl (pd (.int .i64)) pz)))))))) (pl (po [1, 0] 31 3 (em (pl (pa (ps (pk 0) (ps (pk 0) (pl (pd (.int .i64)) pz)))) pz))) (pl (po [1, 1] 31 3 (em (pl (pa (ps (pr [1, 2]) (ps (pr [1, 3]) (pl (pd (.int .i64)) pz)))) pz))) (pl (po [1, 2] 59 13 (ed Ty22)) (pl (po [1, 3] 103 7 (ed Ty18)) (pl (po [1, 4] 90 3 (em (pl (pa (pl (pd Ty12) (pl (pd Ty21) (pl (pd Ty17) pz)))) pz))) (pl (po [1, 5] 3 1 (ed (.int .i64))) pz))))))
def ref24_program_L0_L2_L4.g (F : T_ref24_program_L0_L2_L4) (v : ref24_program_L0_L2_L4.p.T) (k : KE) : Option Bool := F v.1.1 v.1.2.1 v.1.2.2.1 v.1.2.2.2.1 v.2.1.1.1 v.2.2.1.1.1 v.2.2.2.1 v.2.2.2.2.1 v.2.2.2.2.2.1.1.1 v.2.2.2.2.2.1.1.2.1 v.2.2.2.2.2.1.1.2.2.1 v.2.2.2.2.2.2.1 (fun y0 y1 y2 y3 y4 y5 y6 y7 y8 y9 y10 => k (.exit 4) ⟨fillS 109 [0, 2, 3, 4, 5, 6, 7] [(.bv 0 90 Ty24 y0), (.ptr [1, 0] 0 0), (.ptr [1, 1] 0 0), (.d ⟨(.int .i64), y1⟩), (.ptr [1, 4] 0 0), (.d ⟨(.int .i64), y2⟩), (.ref [1, 5])], [([1, 0], ⟨31, 3, (.mix [(.agg [.nils, .nils, (.d ⟨(.int .i64), y3⟩)])])⟩), ([1, 1], ⟨31, 3, (.mix [(.agg [(.ref [1, 2]), (.ref [1, 3]), (.d ⟨(.int .i64), y4⟩)])])⟩), ([1, 2], ⟨59, 13, (.data Ty22 y5)⟩), ([1, 3], ⟨103, 7, (.data Ty18 y6)⟩), ([1, 4], ⟨90, 3, (.mix [(.agg [(.d ⟨Ty12, y7⟩), (.d ⟨Ty21, y8⟩), (.d ⟨Ty17, y9⟩)])])⟩), ([1, 5], ⟨3, 1, (.data (.int .i64) y10)⟩)], 2⟩)
theorem ref24_program_L0_L2_L4.step (S : T_ref24_program_L0_L2_L4) (F0 : T_ref17_Sym) : ∀ v k, exR 39 Try.f39 4 ref24_program_L0_L2_L4.p [⟨ref17_Sym.p, ref17_Sym.g F0⟩] [] [] (ref24_program_L0_L2_L4.g S) v k = ref24_program_L0_L2_L4.g (ref24_program_L0_L2_L4.body S F0) v k := fun v k => by kernel_rfl
theorem ref24_program_L0_L2_L4.ok : okL 39 Try.f39 1 4 ref24_program_L0_L2_L4.p (ref24_program_L0_L2_L4.g (ref24_program_L0_L2_L4 ROUNDS)) := loop2 (G := fun n => ref24_program_L0_L2_L4.g (ref24_program_L0_L2_L4 n)) (fun n => ref24_program_L0_L2_L4.step (ref24_program_L0_L2_L4 n) ref17_Sym) (.cons ref17_Sym.ok .nil) [] (by kernel_rfl) .nil (fun _ _ => rfl)
/-- function 56: sheerleg/sheerlegref24.name -/
abbrev T_ref24_name : Type := Tc20 → Int → (ByteArray → Option Bool) → Option Bool
noncomputable def ref24_name.body (ref19_Definer : T_ref19_Definer) : T_ref24_name := fun t741 n742 k1 =>
  (ref19_Definer t741 n742
  (fun n743 => (cond_ ((decide ((0 : Int) ≤ n743)) && (decide (n743 < (((List.length t741.1) : Nat) : Int)))) (k1 (List.getD t741.1 (Int.toNat n743) ((⟨#[]⟩ : ByteArray), (false, (0, (0, (0, ())))))).1) none)))
noncomputable def ref24_name : T_ref24_name := ref24_name.body ref19_Definer
def ref24_name.p : FPat := fp 56 (pl (pd Ty24) (pl (pd (.int .i64)) pz)) pz
def ref24_name.g (F : T_ref24_name) (v : ref24_name.p.T) (k : KR) : Option Bool := F v.1.1 v.1.2.1 (fun y0 => k (.d ⟨.str, y0⟩) [])
theorem ref24_name.eq (F0 : T_ref19_Definer) : ∀ v k, exF Try.f56 ref24_name.p [⟨ref19_Definer.p, ref19_Definer.g F0⟩] [] [] v k = ref24_name.g (ref24_name.body F0) v k := fun v k => by kernel_rfl
theorem ref24_name.ok : okF 4 ref24_name.p (ref24_name.g ref24_name) := fn2 (ref24_name.eq ref19_Definer) Try.func56 (by kernel_rfl) (.cons ref19_Definer.ok .nil) [] (by kernel_rfl) .nil
/-- function 40: the loop in block 0 -/
abbrev T_ref24_number_L0 : Type := Tc21 → Int → Int → Int → Tc7 → (Int → Option Bool) → Option Bool
noncomputable def ref24_number_L0.body (ref24_number_L0 : T_ref24_number_L0) : T_ref24_number_L0 := fun ts759 n760 n761 n762 t763 k1 =>
  (cond_ (decide (n762 < n760)) (cond_ (t763.2.2.1 == (1 : Int)) (cond_ ((decide ((0 : Int) ≤ n762)) && (decide (n762 < (List.length ts759 : Int)))) (ref24_number_L0 ts759 n760 (IntKind.wrap .i64 (n761 + (((List.length (List.getD ts759 (Int.toNat n762) ([], ([], ([], ())))).2.1) : Nat) : Int))) (IntKind.wrap .i64 (n762 + (1 : Int))) t763 k1) none) (cond_ ((decide ((0 : Int) ≤ n762)) && (decide (n762 < (List.length ts759 : Int)))) (ref24_number_L0 ts759 n760 (IntKind.wrap .i64 (n761 + (((List.length (List.getD ts759 (Int.toNat n762) ([], ([], ([], ())))).2.2.1) : Nat) : Int))) (IntKind.wrap .i64 (n762 + (1 : Int))) t763 k1) none)) (k1 n761))
noncomputable def ref24_number_L0 : Nat → T_ref24_number_L0
  | 0 => fun _ _ _ _ _ _ => none
  | n + 1 => ref24_number_L0.body (ref24_number_L0 n)
def ref24_number_L0.p : LPat := lp 2 56 [0, 7, 10, 11, 12] (pl (pb 0 90 Ty24) (pl (pd (.int .i64)) (ps (pq [1, 0] 0 0) (pl (pd (.int .i64)) (pl (pd (.int .i64)) pz))))) (pl (po [1, 0] 96 5 (es Ty10 (pl eh pz))) pz)
def ref24_number_L0.g (F : T_ref24_number_L0) (v : ref24_number_L0.p.T) (k : KE) : Option Bool := F v.1.1 v.1.2.1 v.1.2.2.1 v.1.2.2.2.1 v.2.1.1 (fun y0 => k (.exit 0) ⟨fillS 56 [11] [(.d ⟨(.int .i64), y0⟩)], [], 2⟩)
theorem ref24_number_L0.step (S : T_ref24_number_L0) : ∀ v k, exR 40 Try.f40 0 ref24_number_L0.p [] [] [] (ref24_number_L0.g S) v k = ref24_number_L0.g (ref24_number_L0.body S) v k := fun v k => by kernel_rfl
theorem ref24_number_L0.ok : okL 40 Try.f40 0 0 ref24_number_L0.p (ref24_number_L0.g (ref24_number_L0 ROUNDS)) := loop2 (G := fun n => ref24_number_L0.g (ref24_number_L0 n)) (fun n => ref24_number_L0.step (ref24_number_L0 n)) .nil [] (by kernel_rfl) .nil (fun _ _ => rfl)
/-- function 40: sheerleg/sheerlegref24.number -/
abbrev T_ref24_number : Type := Tc21 → Int → Int → (Int → Option Bool) → Option Bool
noncomputable def ref24_number.body (ref23_Bound : T_ref23_Bound) (ref24_number_L0 : T_ref24_number_L0) : T_ref24_number := fun ts753 n754 n755 k1 =>
  (ref23_Bound ts753 n754 n755
  (fun n756 n757 n758 => (cond_ ((decide ((0 : Int) ≤ n756)) && (decide (n756 < (List.length ts753 : Int)))) (cond_ ((decide ((0 : Int) ≤ n757)) && (decide (n757 < (((List.length (List.getD ts753 (Int.toNat n756) ([], ([], ([], ())))).1) : Nat) : Int)))) (ref24_number_L0 ts753 n756 (List.getD (List.getD ts753 (Int.toNat n756) ([], ([], ([], ())))).1 (Int.toNat n757) ((⟨#[]⟩ : ByteArray), (false, (0, (0, (0, ())))))).2.2.2.2.1 (0 : Int) (List.getD (List.getD ts753 (Int.toNat n756) ([], ([], ([], ())))).1 (Int.toNat n757) ((⟨#[]⟩ : ByteArray), (false, (0, (0, (0, ()))))))
  (fun n764 => (k1 n764))) none) none)))
noncomputable def ref24_number : T_ref24_number := ref24_number.body ref23_Bound (ref24_number_L0 ROUNDS)
def ref24_number.p : FPat := fp 40 (pl (pb 0 90 Ty24) (pl (pd (.int .i64)) (pl (pd (.int .i64)) pz))) pz
def ref24_number.g (F : T_ref24_number) (v : ref24_number.p.T) (k : KR) : Option Bool := F v.1.1 v.1.2.1 v.1.2.2.1 (fun y0 => k (.d ⟨(.int .i64), y0⟩) [])
theorem ref24_number.eq (F0 : T_ref23_Bound) (L0 : T_ref24_number_L0) : ∀ v k, exF Try.f40 ref24_number.p [⟨ref23_Bound.p, ref23_Bound.g F0⟩] [] [⟨0, ref24_number_L0.p, ref24_number_L0.g L0⟩] v k = ref24_number.g (ref24_number.body F0 L0) v k := fun v k => by kernel_rfl
theorem ref24_number.ok : okF 4 ref24_number.p (ref24_number.g ref24_number) := fn2 (ref24_number.eq ref23_Bound (ref24_number_L0 ROUNDS)) Try.func40 (by kernel_rfl) (.cons ref23_Bound.ok .nil) [0] (by kernel_rfl) (.cons ref24_number_L0.ok .nil)
/-- function 57: the loop in block 0 -/
abbrev T_ref24_bound_L0 : Type := Tc21 → Int → (List Int) → Int → (List Int) → ((List Int) → Option Bool) → Option Bool
noncomputable def ref24_bound_L0.body (ref24_bound_L0 : T_ref24_bound_L0) (ref24_number : T_ref24_number) : T_ref24_bound_L0 := fun ts748 n749 ns750 n751 ns752 k1 =>
  (cond_ (decide (n751 < (List.length ns750 : Int))) (cond_ ((decide ((0 : Int) ≤ n751)) && (decide (n751 < (List.length ns750 : Int)))) (cond_ (decide ((List.getD ns750 (Int.toNat n751) (0 : Int)) ≥ (0 : Int))) (cond_ ((decide ((0 : Int) ≤ n751)) && (decide (n751 < (List.length ns750 : Int)))) (ref24_number ts748 n749 (List.getD ns750 (Int.toNat n751) (0 : Int))
  (fun n765 => (cond_ (Nat.ble (((List.length ns752) + (List.length (n765 :: []))) * (8 : Nat)) (140737488355328 : Nat)) (ref24_bound_L0 ts748 n749 ns750 (IntKind.wrap .i64 (n751 + (1 : Int))) (ns752 ++ (n765 :: [])) k1) none))) none) (cond_ (Nat.ble (((List.length ns752) + (1 : Nat)) * (8 : Nat)) (140737488355328 : Nat)) (ref24_bound_L0 ts748 n749 ns750 (IntKind.wrap .i64 (n751 + (1 : Int))) (ns752 ++ ((-1 : Int) :: [])) k1) none)) none) (k1 ns752))
noncomputable def ref24_bound_L0 : Nat → T_ref24_bound_L0
  | 0 => fun _ _ _ _ _ _ => none
  | n + 1 => ref24_bound_L0.body (ref24_bound_L0 n) ref24_number
def ref24_bound_L0.p : LPat := lp 2 33 [0, 1, 2, 7, 8] (pl (pb 0 90 Ty24) (pl (pd (.int .i64)) (pl (pb 1 3 (.int .i64)) (ps (pr [1, 0]) (pl (pd (.int .i64)) pz))))) (pl (po [1, 0] 3 1 (ed (.int .i64))) pz)
def ref24_bound_L0.g (F : T_ref24_bound_L0) (v : ref24_bound_L0.p.T) (k : KE) : Option Bool := F v.1.1 v.1.2.1 v.1.2.2.1 v.1.2.2.2.1 v.2.1 (fun y0 => k (.exit 0) ⟨fillS 33 [7] [(.ref [1, 0])], [([1, 0], ⟨3, 1, (.data (.int .i64) y0)⟩)], 2⟩)
theorem ref24_bound_L0.step (S : T_ref24_bound_L0) (F0 : T_ref24_number) : ∀ v k, exR 57 Try.f57 0 ref24_bound_L0.p [⟨ref24_number.p, ref24_number.g F0⟩] [] [] (ref24_bound_L0.g S) v k = ref24_bound_L0.g (ref24_bound_L0.body S F0) v k := fun v k => by kernel_rfl
theorem ref24_bound_L0.ok : okL 57 Try.f57 4 0 ref24_bound_L0.p (ref24_bound_L0.g (ref24_bound_L0 ROUNDS)) := loop2 (G := fun n => ref24_bound_L0.g (ref24_bound_L0 n)) (fun n => ref24_bound_L0.step (ref24_bound_L0 n) ref24_number) (.cons ref24_number.ok .nil) [] (by kernel_rfl) .nil (fun _ _ => rfl)
/-- function 57: sheerleg/sheerlegref24.bound -/
abbrev T_ref24_bound : Type := Tc21 → Int → (List Int) → ((List Int) → Option Bool) → Option Bool
noncomputable def ref24_bound.body (ref24_bound_L0 : T_ref24_bound_L0) : T_ref24_bound := fun ts745 n746 ns747 k1 =>
  (ref24_bound_L0 ts745 n746 ns747 (0 : Int) []
  (fun ns766 => (k1 ns766)))
noncomputable def ref24_bound : T_ref24_bound := ref24_bound.body (ref24_bound_L0 ROUNDS)
def ref24_bound.p : FPat := fp 57 (pl (pb 0 90 Ty24) (pl (pd (.int .i64)) (pl (pb 1 3 (.int .i64)) pz))) pz
def ref24_bound.g (F : T_ref24_bound) (v : ref24_bound.p.T) (k : KR) : Option Bool := F v.1.1 v.1.2.1 v.1.2.2.1 (fun y0 => k (.ref [1, 0]) [([1, 0], ⟨3, 1, (.data (.int .i64) y0)⟩)])
theorem ref24_bound.eq (L0 : T_ref24_bound_L0) : ∀ v k, exF Try.f57 ref24_bound.p [] [] [⟨0, ref24_bound_L0.p, ref24_bound_L0.g L0⟩] v k = ref24_bound.g (ref24_bound.body L0) v k := fun v k => by kernel_rfl
theorem ref24_bound.ok : okF 5 ref24_bound.p (ref24_bound.g ref24_bound) := fn2 (ref24_bound.eq (ref24_bound_L0 ROUNDS)) Try.func57 (by kernel_rfl) .nil [0] (by kernel_rfl) (.cons ref24_bound_L0.ok .nil)
/-- function 39: the loop in block 2 -/
abbrev T_ref24_program_L0_L2 : Type := Tc21 → Int → Int → Int → Int → Tc19 → Tc15 → Tc11 → Tc17 → Tc13 → (Tc21 → Int → Int → Int → Tc19 → Tc15 → Tc11 → Tc17 → Tc13 → Option Bool) → Option Bool
noncomputable def ref24_program_L0_L2.body (ref24_program_L0_L2 : T_ref24_program_L0_L2) (ref24_name : T_ref24_name) (ref24_bound : T_ref24_bound) (ref24_program_L0_L2_L4 : T_ref24_program_L0_L2_L4) : T_ref24_program_L0_L2 := fun ts707 n708 n709 n710 n711 ts712 ts713 l714 l715 l716 k1 =>
  (cond_ (decide (n709 < (List.length l715 : Int))) (ref24_program_L0_L2_L4 ts707 n708 n709 (0 : Int) n710 n711 ts712 ts713 l714 l715 l716 []
  (fun ts730 n731 n732 n733 n734 ts735 ts736 l737 l738 l739 ns740 => (ref24_name (l737, (l738, (l739, ()))) n732
  (fun s744 => (cond_ ((decide ((0 : Int) ≤ n732)) && (decide (n732 < (List.length l738 : Int)))) (ref24_bound ts730 n731 ns740
  (fun ns767 => (cond_ (Nat.ble (((List.length ts735) + (List.length ((n731, (n732, (s744, ((List.getD l738 (Int.toNat n732) (0, ([], (0, (false, (0, (0, ([], ([], ([], ())))))))))).1, ((List.getD l738 (Int.toNat n732) (0, ([], (0, (false, (0, (0, ([], ([], ([], ())))))))))).2.1, ((List.getD l738 (Int.toNat n732) (0, ([], (0, (false, (0, (0, ([], ([], ([], ())))))))))).2.2.1, ((List.getD l738 (Int.toNat n732) (0, ([], (0, (false, (0, (0, ([], ([], ([], ())))))))))).2.2.2.1, ((List.getD l738 (Int.toNat n732) (0, ([], (0, (false, (0, (0, ([], ([], ([], ())))))))))).2.2.2.2.1, ((List.getD l738 (Int.toNat n732) (0, ([], (0, (false, (0, (0, ([], ([], ([], ())))))))))).2.2.2.2.2.1, ((List.getD l738 (Int.toNat n732) (0, ([], (0, (false, (0, (0, ([], ([], ([], ())))))))))).2.2.2.2.2.2.1, ((List.getD l738 (Int.toNat n732) (0, ([], (0, (false, (0, (0, ([], ([], ([], ())))))))))).2.2.2.2.2.2.2.1, ((List.getD l738 (Int.toNat n732) (0, ([], (0, (false, (0, (0, ([], ([], ([], ())))))))))).2.2.2.2.2.2.2.2.1, (ns767, ()))))))))))))) :: []))) * (192 : Nat)) (140737488355328 : Nat)) (ref24_program_L0_L2 ts730 n731 (IntKind.wrap .i64 (n732 + (1 : Int))) n733 n734 (ts735 ++ ((n731, (n732, (s744, ((List.getD l738 (Int.toNat n732) (0, ([], (0, (false, (0, (0, ([], ([], ([], ())))))))))).1, ((List.getD l738 (Int.toNat n732) (0, ([], (0, (false, (0, (0, ([], ([], ([], ())))))))))).2.1, ((List.getD l738 (Int.toNat n732) (0, ([], (0, (false, (0, (0, ([], ([], ([], ())))))))))).2.2.1, ((List.getD l738 (Int.toNat n732) (0, ([], (0, (false, (0, (0, ([], ([], ([], ())))))))))).2.2.2.1, ((List.getD l738 (Int.toNat n732) (0, ([], (0, (false, (0, (0, ([], ([], ([], ())))))))))).2.2.2.2.1, ((List.getD l738 (Int.toNat n732) (0, ([], (0, (false, (0, (0, ([], ([], ([], ())))))))))).2.2.2.2.2.1, ((List.getD l738 (Int.toNat n732) (0, ([], (0, (false, (0, (0, ([], ([], ([], ())))))))))).2.2.2.2.2.2.1, ((List.getD l738 (Int.toNat n732) (0, ([], (0, (false, (0, (0, ([], ([], ([], ())))))))))).2.2.2.2.2.2.2.1, ((List.getD l738 (Int.toNat n732) (0, ([], (0, (false, (0, (0, ([], ([], ([], ())))))))))).2.2.2.2.2.2.2.2.1, (ns767, ()))))))))))))) :: [])) ts736 l737 l738 l739 k1) none))) none))))) (k1 ts707 n708 n710 n711 ts712 ts713 l714 l715 l716))
noncomputable def ref24_program_L0_L2 : Nat → T_ref24_program_L0_L2
  | 0 => fun _ _ _ _ _ _ _ _ _ _ _ => none
  | n + 1 => ref24_program_L0_L2.body (ref24_program_L0_L2 n) ref24_name ref24_bound (ref24_program_L0_L2_L4 ROUNDS)
def ref24_program_L0_L2.p : LPat := lp 2 109 [0, 2, 3, 4, 5, 6] (pl (pb 0 90 Ty24) (ps (pq [1, 0] 0 0) (ps (pq [1, 1] 0 0) (pl (pd (.int .i64)) (ps (pq [1, 4] 0 0) (pl (pd (.int .i64)) pz)))))) (pl (po [1, 0] 31 3 (em (pl (pa (ps (pk 0) (ps (pk 0) (pl (pd (.int .i64)) pz)))) pz))) (pl (po [1, 1] 31 3 (em (pl (pa (ps (pr [1, 2]) (ps (pr [1, 3]) (pl (pd (.int .i64)) pz)))) pz))) (pl (po [1, 2] 59 13 (ed Ty22)) (pl (po [1, 3] 103 7 (ed Ty18)) (pl (po [1, 4] 90 3 (em (pl (pa (pl (pd Ty12) (pl (pd Ty21) (pl (pd Ty17) pz)))) pz))) pz)))))
def ref24_program_L0_L2.g (F : T_ref24_program_L0_L2) (v : ref24_program_L0_L2.p.T) (k : KE) : Option Bool := F v.1.1 v.1.2.1 v.1.2.2.1 v.2.1.1.1 v.2.2.1.1.1 v.2.2.2.1 v.2.2.2.2.1 v.2.2.2.2.2.1.1.1 v.2.2.2.2.2.1.1.2.1 v.2.2.2.2.2.1.1.2.2.1 (fun y0 y1 y2 y3 y4 y5 y6 y7 y8 => k (.exit 2) ⟨fillS 109 [0, 2, 3, 4, 5] [(.bv 0 90 Ty24 y0), (.ptr [1, 0] 0 0), (.ptr [1, 1] 0 0), (.d ⟨(.int .i64), y1⟩), (.ptr [1, 4] 0 0)], [([1, 0], ⟨31, 3, (.mix [(.agg [.nils, .nils, (.d ⟨(.int .i64), y2⟩)])])⟩), ([1, 1], ⟨31, 3, (.mix [(.agg [(.ref [1, 2]), (.ref [1, 3]), (.d ⟨(.int .i64), y3⟩)])])⟩), ([1, 2], ⟨59, 13, (.data Ty22 y4)⟩), ([1, 3], ⟨103, 7, (.data Ty18 y5)⟩), ([1, 4], ⟨90, 3, (.mix [(.agg [(.d ⟨Ty12, y6⟩), (.d ⟨Ty21, y7⟩), (.d ⟨Ty17, y8⟩)])])⟩)], 2⟩)
theorem ref24_program_L0_L2.step (S : T_ref24_program_L0_L2) (F0 : T_ref24_name) (F1 : T_ref24_bound) (L0 : T_ref24_program_L0_L2_L4) : ∀ v k, exR 39 Try.f39 2 ref24_program_L0_L2.p [⟨ref24_name.p, ref24_name.g F0⟩, ⟨ref24_bound.p, ref24_bound.g F1⟩] [] [⟨4, ref24_program_L0_L2_L4.p, ref24_program_L0_L2_L4.g L0⟩] (ref24_program_L0_L2.g S) v k = ref24_program_L0_L2.g (ref24_program_L0_L2.body S F0 F1 L0) v k := fun v k => by kernel_rfl
theorem ref24_program_L0_L2.ok : okL 39 Try.f39 5 2 ref24_program_L0_L2.p (ref24_program_L0_L2.g (ref24_program_L0_L2 ROUNDS)) := loop2 (G := fun n => ref24_program_L0_L2.g (ref24_program_L0_L2 n)) (fun n => ref24_program_L0_L2.step (ref24_program_L0_L2 n) ref24_name ref24_bound (ref24_program_L0_L2_L4 ROUNDS)) (.cons ref24_name.ok (.cons ref24_bound.ok .nil)) [4] (by kernel_rfl) (.cons ref24_program_L0_L2_L4.ok .nil) (fun _ _ => rfl)
/-- function 68: the loop in block 2 -/
abbrev T_ref15_Marks_L0_L2 : Type := Tc1 → Int → Int → Int → Int → (List Int) → (Tc1 → Int → Int → Int → (List Int) → Option Bool) → Option Bool
noncomputable def ref15_Marks_L0_L2.body (ref15_Marks_L0_L2 : T_ref15_Marks_L0_L2) : T_ref15_Marks_L0_L2 := fun ts795 n796 n797 n798 n799 ns800 k1 =>
  (cond_ (decide (n799 ≥ (0 : Int))) (cond_ ((decide ((0 : Int) ≤ n799)) && (decide (n799 < (List.length ts795 : Int)))) (cond_ ((List.getD ts795 (Int.toNat n799) (0, (0, (false, ())))).1 == n797) (ref15_Marks_L0_L2 ts795 n796 n797 n799 (IntKind.wrap .i64 (n799 - (1 : Int))) ns800 k1) (ref15_Marks_L0_L2 ts795 n796 n797 n798 (IntKind.wrap .i64 (n799 - (1 : Int))) ns800 k1)) none) (k1 ts795 n796 n797 n798 ns800))
noncomputable def ref15_Marks_L0_L2 : Nat → T_ref15_Marks_L0_L2
  | 0 => fun _ _ _ _ _ _ _ => none
  | n + 1 => ref15_Marks_L0_L2.body (ref15_Marks_L0_L2 n)
def ref15_Marks_L0_L2.p : LPat := lp 2 38 [0, 1, 5, 6, 7, 8] (pl (pb 0 107 Ty4) (pl (pd (.int .i64)) (ps (pr [1, 0]) (pl (pd (.int .i64)) (pl (pd (.int .i64)) (pl (pd (.int .i64)) pz)))))) (pl (po [1, 0] 3 1 (ed (.int .i64))) pz)
def ref15_Marks_L0_L2.g (F : T_ref15_Marks_L0_L2) (v : ref15_Marks_L0_L2.p.T) (k : KE) : Option Bool := F v.1.1 v.1.2.1 v.1.2.2.1 v.1.2.2.2.1 v.1.2.2.2.2.1 v.2.1 (fun y0 y1 y2 y3 y4 => k (.exit 2) ⟨fillS 38 [0, 1, 5, 6, 7] [(.bv 0 107 Ty4 y0), (.d ⟨(.int .i64), y1⟩), (.ref [1, 0]), (.d ⟨(.int .i64), y2⟩), (.d ⟨(.int .i64), y3⟩)], [([1, 0], ⟨3, 1, (.data (.int .i64) y4)⟩)], 2⟩)
theorem ref15_Marks_L0_L2.step (S : T_ref15_Marks_L0_L2) : ∀ v k, exR 68 Try.f68 2 ref15_Marks_L0_L2.p [] [] [] (ref15_Marks_L0_L2.g S) v k = ref15_Marks_L0_L2.g (ref15_Marks_L0_L2.body S) v k := fun v k => by kernel_rfl
theorem ref15_Marks_L0_L2.ok : okL 68 Try.f68 0 2 ref15_Marks_L0_L2.p (ref15_Marks_L0_L2.g (ref15_Marks_L0_L2 ROUNDS)) := loop2 (G := fun n => ref15_Marks_L0_L2.g (ref15_Marks_L0_L2 n)) (fun n => ref15_Marks_L0_L2.step (ref15_Marks_L0_L2 n)) .nil [] (by kernel_rfl) .nil (fun _ _ => rfl)
/-- function 68: the loop in block 0 -/
abbrev T_ref15_Marks_L0 : Type := Tc1 → Int → Int → (List Int) → ((List Int) → Option Bool) → Option Bool
noncomputable def ref15_Marks_L0.body (ref15_Marks_L0 : T_ref15_Marks_L0) (ref15_Marks_L0_L2 : T_ref15_Marks_L0_L2) : T_ref15_Marks_L0 := fun ts791 n792 n793 ns794 k1 =>
  (cond_ (decide (n793 < n792)) (cond_ (decide (n793 < (4096 : Int))) (ref15_Marks_L0_L2 ts791 n792 n793 (-1 : Int) (IntKind.wrap .i64 ((List.length ts791 : Int) - (1 : Int))) ns794
  (fun ts801 n802 n803 n804 ns805 => (cond_ (Nat.ble (((List.length ns805) + (List.length (n804 :: []))) * (8 : Nat)) (140737488355328 : Nat)) (ref15_Marks_L0 ts801 n802 (IntKind.wrap .i64 (n803 + (1 : Int))) (ns805 ++ (n804 :: [])) k1) none))) (k1 ns794)) (k1 ns794))
noncomputable def ref15_Marks_L0 : Nat → T_ref15_Marks_L0
  | 0 => fun _ _ _ _ _ => none
  | n + 1 => ref15_Marks_L0.body (ref15_Marks_L0 n) (ref15_Marks_L0_L2 ROUNDS)
def ref15_Marks_L0.p : LPat := lp 2 38 [0, 1, 5, 6] (pl (pb 0 107 Ty4) (pl (pd (.int .i64)) (ps (pr [1, 0]) (pl (pd (.int .i64)) pz)))) (pl (po [1, 0] 3 1 (ed (.int .i64))) pz)
def ref15_Marks_L0.g (F : T_ref15_Marks_L0) (v : ref15_Marks_L0.p.T) (k : KE) : Option Bool := F v.1.1 v.1.2.1 v.1.2.2.1 v.2.1 (fun y0 => k (.exit 0) ⟨fillS 38 [5] [(.ref [1, 0])], [([1, 0], ⟨3, 1, (.data (.int .i64) y0)⟩)], 2⟩)
theorem ref15_Marks_L0.step (S : T_ref15_Marks_L0) (L0 : T_ref15_Marks_L0_L2) : ∀ v k, exR 68 Try.f68 0 ref15_Marks_L0.p [] [] [⟨2, ref15_Marks_L0_L2.p, ref15_Marks_L0_L2.g L0⟩] (ref15_Marks_L0.g S) v k = ref15_Marks_L0.g (ref15_Marks_L0.body S L0) v k := fun v k => by kernel_rfl
theorem ref15_Marks_L0.ok : okL 68 Try.f68 0 0 ref15_Marks_L0.p (ref15_Marks_L0.g (ref15_Marks_L0 ROUNDS)) := loop2 (G := fun n => ref15_Marks_L0.g (ref15_Marks_L0 n)) (fun n => ref15_Marks_L0.step (ref15_Marks_L0 n) (ref15_Marks_L0_L2 ROUNDS)) .nil [2] (by kernel_rfl) (.cons ref15_Marks_L0_L2.ok .nil) (fun _ _ => rfl)
/-- function 68: sheerleg/sheerlegref15.Marks -/
abbrev T_ref15_Marks : Type := Tc1 → Int → ((List Int) → Option Bool) → Option Bool
noncomputable def ref15_Marks.body (ref15_Marks_L0 : T_ref15_Marks_L0) : T_ref15_Marks := fun ts789 n790 k1 =>
  (ref15_Marks_L0 ts789 n790 (0 : Int) []
  (fun ns806 => (k1 ns806)))
noncomputable def ref15_Marks : T_ref15_Marks := ref15_Marks.body (ref15_Marks_L0 ROUNDS)
def ref15_Marks.p : FPat := fp 68 (pl (pb 0 107 Ty4) (pl (pd (.int .i64)) pz)) pz
def ref15_Marks.g (F : T_ref15_Marks) (v : ref15_Marks.p.T) (k : KR) : Option Bool := F v.1.1 v.1.2.1 (fun y0 => k (.ref [1, 0]) [([1, 0], ⟨3, 1, (.data (.int .i64) y0)⟩)])
theorem ref15_Marks.eq (L0 : T_ref15_Marks_L0) : ∀ v k, exF Try.f68 ref15_Marks.p [] [] [⟨0, ref15_Marks_L0.p, ref15_Marks_L0.g L0⟩] v k = ref15_Marks.g (ref15_Marks.body L0) v k := fun v k => by kernel_rfl
theorem ref15_Marks.ok : okF 1 ref15_Marks.p (ref15_Marks.g ref15_Marks) := fn2 (ref15_Marks.eq (ref15_Marks_L0 ROUNDS)) Try.func68 (by kernel_rfl) .nil [0] (by kernel_rfl) (.cons ref15_Marks_L0.ok .nil)
/-- function 58: the loop in block 0 -/
abbrev T_ref15_Refs_L0 : Type := Int → Tc12 → (List Int) → ((List Int) → Option Bool) → Option Bool
noncomputable def ref15_Refs_L0.body (ref15_Refs_L0 : T_ref15_Refs_L0) : T_ref15_Refs_L0 := fun n808 t809 ns810 k1 =>
  (cond_ (decide (n808 < (List.length ns810 : Int))) (cond_ ((decide ((0 : Int) ≤ n808)) && (decide (n808 < (List.length ns810 : Int)))) (cond_ (decide ((List.getD ns810 (Int.toNat n808) (0 : Int)) ≥ (0 : Int))) (cond_ ((decide ((0 : Int) ≤ n808)) && (decide (n808 < (List.length ns810 : Int)))) (cond_ ((decide ((0 : Int) ≤ (List.getD ns810 (Int.toNat n808) (0 : Int)))) && (decide ((List.getD ns810 (Int.toNat n808) (0 : Int)) < (((List.length t809.2.2.1) : Nat) : Int)))) (cond_ ((decide ((0 : Int) ≤ n808)) && (decide (n808 < (List.length ns810 : Int)))) (ref15_Refs_L0 (IntKind.wrap .i64 (n808 + (1 : Int))) t809 (List.set ns810 (Int.toNat n808) (List.getD t809.2.2.1 (Int.toNat (List.getD ns810 (Int.toNat n808) (0 : Int))) (0, (0, (false, ())))).2.1) k1) none) none) none) (ref15_Refs_L0 (IntKind.wrap .i64 (n808 + (1 : Int))) t809 ns810 k1)) none) (k1 ns810))
noncomputable def ref15_Refs_L0 : Nat → T_ref15_Refs_L0
  | 0 => fun _ _ _ _ => none
  | n + 1 => ref15_Refs_L0.body (ref15_Refs_L0 n)
def ref15_Refs_L0.p : LPat := lp 2 35 [1, 3, 4] (ps (pq [1, 0] 0 0) (ps (pr [1, 1]) (pl (pd (.int .i64)) pz))) (pl (po [1, 0] 101 3 (es Ty16 (pl eh pz))) (pl (po [1, 1] 3 1 (ed (.int .i64))) pz))
def ref15_Refs_L0.g (F : T_ref15_Refs_L0) (v : ref15_Refs_L0.p.T) (k : KE) : Option Bool := F v.1.1 v.2.1.1 v.2.2.1 (fun y0 => k (.exit 0) ⟨fillS 35 [3] [(.ref [1, 0])], [([1, 0], ⟨3, 1, (.data (.int .i64) y0)⟩)], 2⟩)
theorem ref15_Refs_L0.step (S : T_ref15_Refs_L0) : ∀ v k, exR 58 Try.f58 0 ref15_Refs_L0.p [] [] [] (ref15_Refs_L0.g S) v k = ref15_Refs_L0.g (ref15_Refs_L0.body S) v k := fun v k => by kernel_rfl
theorem ref15_Refs_L0.ok : okL 58 Try.f58 0 0 ref15_Refs_L0.p (ref15_Refs_L0.g (ref15_Refs_L0 ROUNDS)) := loop2 (G := fun n => ref15_Refs_L0.g (ref15_Refs_L0 n)) (fun n => ref15_Refs_L0.step (ref15_Refs_L0 n)) .nil [] (by kernel_rfl) .nil (fun _ _ => rfl)
/-- function 58: sheerleg/sheerlegref15.Refs -/
abbrev T_ref15_Refs : Type := Tc12 → ((List Int) → Option Bool) → Option Bool
noncomputable def ref15_Refs.body (ref15_Marks : T_ref15_Marks) (ref15_Refs_L0 : T_ref15_Refs_L0) : T_ref15_Refs := fun t788 k1 =>
  (ref15_Marks t788.2.2.1 (((List.length t788.2.1) : Nat) : Int)
  (fun ns807 => (ref15_Refs_L0 (0 : Int) t788 ns807
  (fun ns811 => (k1 ns811)))))
noncomputable def ref15_Refs : T_ref15_Refs := ref15_Refs.body ref15_Marks (ref15_Refs_L0 ROUNDS)
def ref15_Refs.p : FPat := fp 58 (pl (pd Ty16) pz) pz
def ref15_Refs.g (F : T_ref15_Refs) (v : ref15_Refs.p.T) (k : KR) : Option Bool := F v.1.1 (fun y0 => k (.ref [1, 0]) [([1, 0], ⟨3, 1, (.data (.int .i64) y0)⟩)])
theorem ref15_Refs.eq (F0 : T_ref15_Marks) (L0 : T_ref15_Refs_L0) : ∀ v k, exF Try.f58 ref15_Refs.p [⟨ref15_Marks.p, ref15_Marks.g F0⟩] [] [⟨0, ref15_Refs_L0.p, ref15_Refs_L0.g L0⟩] v k = ref15_Refs.g (ref15_Refs.body F0 L0) v k := fun v k => by kernel_rfl
theorem ref15_Refs.ok : okF 2 ref15_Refs.p (ref15_Refs.g ref15_Refs) := fn2 (ref15_Refs.eq ref15_Marks (ref15_Refs_L0 ROUNDS)) Try.func58 (by kernel_rfl) (.cons ref15_Marks.ok .nil) [0] (by kernel_rfl) (.cons ref15_Refs_L0.ok .nil)
/-- function 39: the loop in block 6 -/
abbrev T_ref24_program_L0_L6 : Type := Tc21 → Int → Int → Int → Int → Tc19 → Tc15 → Tc11 → Tc17 → Tc13 → (Tc21 → Int → Int → Int → Tc19 → Tc15 → Option Bool) → Option Bool
noncomputable def ref24_program_L0_L6.body (ref24_program_L0_L6 : T_ref24_program_L0_L6) (ref24_name : T_ref24_name) (ref15_Refs : T_ref15_Refs) (ref24_bound : T_ref24_bound) : T_ref24_program_L0_L6 := fun ts777 n778 n779 n780 n781 ts782 ts783 l784 l785 l786 k1 =>
  (cond_ (decide (n779 < (List.length l786 : Int))) (ref24_name (l784, (l785, (l786, ()))) (IntKind.wrap .i64 ((List.length l785 : Int) + n779))
  (fun s787 => (cond_ ((decide ((0 : Int) ≤ n779)) && (decide (n779 < (List.length l786 : Int)))) (cond_ ((decide ((0 : Int) ≤ n779)) && (decide (n779 < (List.length l786 : Int)))) (ref15_Refs (List.getD l786 (Int.toNat n779) (0, ([], ([], ()))))
  (fun ns812 => (ref24_bound ts777 n778 ns812
  (fun ns813 => (cond_ (Nat.ble (((List.length ts783) + (List.length ((n778, ((IntKind.wrap .i64 ((List.length l785 : Int) + n779)), (s787, ((List.getD l786 (Int.toNat n779) (0, ([], ([], ())))).1, ((List.getD l786 (Int.toNat n779) (0, ([], ([], ())))).2.1, ((List.getD l786 (Int.toNat n779) (0, ([], ([], ())))).2.2.1, (ns813, ()))))))) :: []))) * (112 : Nat)) (140737488355328 : Nat)) (ref24_program_L0_L6 ts777 n778 (IntKind.wrap .i64 (n779 + (1 : Int))) n780 n781 ts782 (ts783 ++ ((n778, ((IntKind.wrap .i64 ((List.length l785 : Int) + n779)), (s787, ((List.getD l786 (Int.toNat n779) (0, ([], ([], ())))).1, ((List.getD l786 (Int.toNat n779) (0, ([], ([], ())))).2.1, ((List.getD l786 (Int.toNat n779) (0, ([], ([], ())))).2.2.1, (ns813, ()))))))) :: [])) l784 l785 l786 k1) none))))) none) none))) (k1 ts777 n778 n780 n781 ts782 ts783))
noncomputable def ref24_program_L0_L6 : Nat → T_ref24_program_L0_L6
  | 0 => fun _ _ _ _ _ _ _ _ _ _ _ => none
  | n + 1 => ref24_program_L0_L6.body (ref24_program_L0_L6 n) ref24_name ref15_Refs ref24_bound
def ref24_program_L0_L6.p : LPat := lp 2 109 [0, 2, 3, 4, 5, 9] (pl (pb 0 90 Ty24) (ps (pq [1, 0] 0 0) (ps (pq [1, 1] 0 0) (pl (pd (.int .i64)) (ps (pq [1, 4] 0 0) (pl (pd (.int .i64)) pz)))))) (pl (po [1, 0] 31 3 (em (pl (pa (ps (pk 0) (ps (pk 0) (pl (pd (.int .i64)) pz)))) pz))) (pl (po [1, 1] 31 3 (em (pl (pa (ps (pr [1, 2]) (ps (pr [1, 3]) (pl (pd (.int .i64)) pz)))) pz))) (pl (po [1, 2] 59 13 (ed Ty22)) (pl (po [1, 3] 103 7 (ed Ty18)) (pl (po [1, 4] 90 3 (em (pl (pa (pl (pd Ty12) (pl (pd Ty21) (pl (pd Ty17) pz)))) pz))) pz)))))
def ref24_program_L0_L6.g (F : T_ref24_program_L0_L6) (v : ref24_program_L0_L6.p.T) (k : KE) : Option Bool := F v.1.1 v.1.2.1 v.1.2.2.1 v.2.1.1.1 v.2.2.1.1.1 v.2.2.2.1 v.2.2.2.2.1 v.2.2.2.2.2.1.1.1 v.2.2.2.2.2.1.1.2.1 v.2.2.2.2.2.1.1.2.2.1 (fun y0 y1 y2 y3 y4 y5 => k (.exit 6) ⟨fillS 109 [0, 2, 3, 4] [(.bv 0 90 Ty24 y0), (.ptr [1, 0] 0 0), (.ptr [1, 1] 0 0), (.d ⟨(.int .i64), y1⟩)], [([1, 0], ⟨31, 3, (.mix [(.agg [.nils, .nils, (.d ⟨(.int .i64), y2⟩)])])⟩), ([1, 1], ⟨31, 3, (.mix [(.agg [(.ref [1, 2]), (.ref [1, 3]), (.d ⟨(.int .i64), y3⟩)])])⟩), ([1, 2], ⟨59, 13, (.data Ty22 y4)⟩), ([1, 3], ⟨103, 7, (.data Ty18 y5)⟩)], 2⟩)
theorem ref24_program_L0_L6.step (S : T_ref24_program_L0_L6) (F0 : T_ref24_name) (F1 : T_ref15_Refs) (F2 : T_ref24_bound) : ∀ v k, exR 39 Try.f39 6 ref24_program_L0_L6.p [⟨ref24_name.p, ref24_name.g F0⟩, ⟨ref15_Refs.p, ref15_Refs.g F1⟩, ⟨ref24_bound.p, ref24_bound.g F2⟩] [] [] (ref24_program_L0_L6.g S) v k = ref24_program_L0_L6.g (ref24_program_L0_L6.body S F0 F1 F2) v k := fun v k => by kernel_rfl
theorem ref24_program_L0_L6.ok : okL 39 Try.f39 5 6 ref24_program_L0_L6.p (ref24_program_L0_L6.g (ref24_program_L0_L6 ROUNDS)) := loop2 (G := fun n => ref24_program_L0_L6.g (ref24_program_L0_L6 n)) (fun n => ref24_program_L0_L6.step (ref24_program_L0_L6 n) ref24_name ref15_Refs ref24_bound) (.cons ref24_name.ok (.cons ref15_Refs.ok (.cons ref24_bound.ok .nil))) [] (by kernel_rfl) .nil (fun _ _ => rfl)
/-- function 39: the loop in block 0 -/
abbrev T_ref24_program_L0 : Type := Tc21 → Int → Int → Int → Tc19 → Tc15 → (Int → Int → Tc19 → Tc15 → Option Bool) → Option Bool
noncomputable def ref24_program_L0.body (ref24_program_L0 : T_ref24_program_L0) (ref24_program_L0_L2 : T_ref24_program_L0_L2) (ref24_program_L0_L6 : T_ref24_program_L0_L6) : T_ref24_program_L0 := fun ts701 n702 n703 n704 ts705 ts706 k1 =>
  (cond_ (decide (n702 < (List.length ts701 : Int))) (cond_ ((decide ((0 : Int) ≤ n702)) && (decide (n702 < (List.length ts701 : Int)))) (ref24_program_L0_L2 ts701 n702 (0 : Int) n703 n704 ts705 ts706 (List.getD ts701 (Int.toNat n702) ([], ([], ([], ())))).1 (List.getD ts701 (Int.toNat n702) ([], ([], ([], ())))).2.1 (List.getD ts701 (Int.toNat n702) ([], ([], ([], ())))).2.2.1
  (fun ts768 n769 n770 n771 ts772 ts773 l774 l775 l776 => (ref24_program_L0_L6 ts768 n769 (0 : Int) n770 n771 ts772 ts773 l774 l775 l776
  (fun ts814 n815 n816 n817 ts818 ts819 => (ref24_program_L0 ts814 (IntKind.wrap .i64 (n815 + (1 : Int))) n816 n817 ts818 ts819 k1))))) none) (k1 n703 n704 ts705 ts706))
noncomputable def ref24_program_L0 : Nat → T_ref24_program_L0
  | 0 => fun _ _ _ _ _ _ _ => none
  | n + 1 => ref24_program_L0.body (ref24_program_L0 n) (ref24_program_L0_L2 ROUNDS) (ref24_program_L0_L6 ROUNDS)
def ref24_program_L0.p : LPat := lp 2 109 [0, 2, 3, 4] (pl (pb 0 90 Ty24) (ps (pq [1, 0] 0 0) (ps (pq [1, 1] 0 0) (pl (pd (.int .i64)) pz)))) (pl (po [1, 0] 31 3 (em (pl (pa (ps (pk 0) (ps (pk 0) (pl (pd (.int .i64)) pz)))) pz))) (pl (po [1, 1] 31 3 (em (pl (pa (ps (pr [1, 2]) (ps (pr [1, 3]) (pl (pd (.int .i64)) pz)))) pz))) (pl (po [1, 2] 59 13 (ed Ty22)) (pl (po [1, 3] 103 7 (ed Ty18)) pz))))
def ref24_program_L0.g (F : T_ref24_program_L0) (v : ref24_program_L0.p.T) (k : KE) : Option Bool := F v.1.1 v.1.2.1 v.2.1.1.1 v.2.2.1.1.1 v.2.2.2.1 v.2.2.2.2.1 (fun y0 y1 y2 y3 => k (.exit 0) ⟨fillS 109 [2, 3] [(.ptr [1, 0] 0 0), (.ptr [1, 1] 0 0)], [([1, 0], ⟨31, 3, (.mix [(.agg [.nils, .nils, (.d ⟨(.int .i64), y0⟩)])])⟩), ([1, 1], ⟨31, 3, (.mix [(.agg [(.ref [1, 2]), (.ref [1, 3]), (.d ⟨(.int .i64), y1⟩)])])⟩), ([1, 2], ⟨59, 13, (.data Ty22 y2)⟩), ([1, 3], ⟨103, 7, (.data Ty18 y3)⟩)], 2⟩)
theorem ref24_program_L0.step (S : T_ref24_program_L0) (L0 : T_ref24_program_L0_L2) (L1 : T_ref24_program_L0_L6) : ∀ v k, exR 39 Try.f39 0 ref24_program_L0.p [] [] [⟨2, ref24_program_L0_L2.p, ref24_program_L0_L2.g L0⟩, ⟨6, ref24_program_L0_L6.p, ref24_program_L0_L6.g L1⟩] (ref24_program_L0.g S) v k = ref24_program_L0.g (ref24_program_L0.body S L0 L1) v k := fun v k => by kernel_rfl
theorem ref24_program_L0.ok : okL 39 Try.f39 5 0 ref24_program_L0.p (ref24_program_L0.g (ref24_program_L0 ROUNDS)) := loop2 (G := fun n => ref24_program_L0.g (ref24_program_L0 n)) (fun n => ref24_program_L0.step (ref24_program_L0 n) (ref24_program_L0_L2 ROUNDS) (ref24_program_L0_L6 ROUNDS)) .nil [2, 6] (by kernel_rfl) (.cons ref24_program_L0_L2.ok (.cons ref24_program_L0_L6.ok .nil)) (fun _ _ => rfl)
/-- function 39: sheerleg/sheerlegref24.program -/
abbrev T_ref24_program : Type := Tc21 → (Int → Tc19 → Tc15 → Option Bool) → Option Bool
noncomputable def ref24_program.body (ref24_program_L0 : T_ref24_program_L0) : T_ref24_program := fun ts700 k1 =>
  (ref24_program_L0 ts700 (0 : Int) (0 : Int) (0 : Int) [] []
  (fun n820 n821 ts822 ts823 => (k1 n821 ts822 ts823)))
noncomputable def ref24_program : T_ref24_program := ref24_program.body (ref24_program_L0 ROUNDS)
def ref24_program.p : FPat := fp 39 (pl (pb 0 90 Ty24) pz) pz
def ref24_program.g (F : T_ref24_program) (v : ref24_program.p.T) (k : KR) : Option Bool := F v.1.1 (fun y0 y1 y2 => k (.agg [(.ref [1, 0]), (.ref [1, 1]), (.d ⟨(.int .i64), y0⟩)]) [([1, 0], ⟨59, 13, (.data Ty22 y1)⟩), ([1, 1], ⟨103, 7, (.data Ty18 y2)⟩)])
theorem ref24_program.eq (L0 : T_ref24_program_L0) : ∀ v k, exF Try.f39 ref24_program.p [] [] [⟨0, ref24_program_L0.p, ref24_program_L0.g L0⟩] v k = ref24_program.g (ref24_program.body L0) v k := fun v k => by kernel_rfl
theorem ref24_program.ok : okF 6 ref24_program.p (ref24_program.g ref24_program) := fn2 (ref24_program.eq (ref24_program_L0 ROUNDS)) Try.func39 (by kernel_rfl) .nil [0] (by kernel_rfl) (.cons ref24_program_L0.ok .nil)
/-- function 23: sheerleg/sheerlegref24.Bind -/
abbrev T_ref24_Bind : Type := Tc21 → ByteArray → (Tc22 → (Int × Int × Int × Unit) → Option Bool) → Option Bool
noncomputable def ref24_Bind.body (ref23_Check : T_ref23_Check) (ref23_Find : T_ref23_Find) (ref24_program : T_ref24_program) (ref24_number : T_ref24_number) (ref24_Bind_L0 : T_ref24_Bind_L0) : T_ref24_Bind := fun ts30 s31 k1 =>
  (cond_ (! ((List.length ts30 : Int) == (0 : Int))) (cond_ (decide ((List.length ts30 : Int) > (6 : Int))) (k1 ([], ([], (0, ()))) (19, ((-1), ((-1), ())))) (ref24_Bind_L0 ts30 s31 (0 : Int) (0 : Int) (0, (0, (0, ())))
  (fun t625 t626 => (k1 t625 t626))
  (fun ts627 s628 n629 t630 => (ref23_Check ts627
  (fun t696 => (cond_ (t696.1 != (0 : Int)) (k1 ([], ([], (0, ()))) t696) (ref23_Find ts627 s628
  (fun n697 n698 b699 => (cond_ (! (! b699)) (cond_ ((decide ((0 : Int) ≤ n697)) && (decide (n697 < (List.length ts627 : Int)))) (cond_ ((decide ((0 : Int) ≤ n698)) && (decide (n698 < (((List.length (List.getD ts627 (Int.toNat n697) ([], ([], ([], ())))).1) : Nat) : Int)))) (cond_ (! ((List.getD (List.getD ts627 (Int.toNat n697) ([], ([], ([], ())))).1 (Int.toNat n698) ((⟨#[]⟩ : ByteArray), (false, (0, (0, (0, ())))))).2.2.1 != (1 : Int))) (cond_ ((decide ((0 : Int) ≤ n697)) && (decide (n697 < (List.length ts627 : Int)))) (cond_ ((decide ((0 : Int) ≤ n698)) && (decide (n698 < (((List.length (List.getD ts627 (Int.toNat n697) ([], ([], ([], ())))).1) : Nat) : Int)))) (cond_ (decide ((List.getD (List.getD ts627 (Int.toNat n697) ([], ([], ([], ())))).1 (Int.toNat n698) ((⟨#[]⟩ : ByteArray), (false, (0, (0, (0, ())))))).2.2.2.1 > (1 : Int))) (k1 ([], ([], (0, ()))) (15, ((-1), ((-1), ())))) (ref24_program ts627
  (fun n824 ts825 ts826 => (ref24_number ts627 n697 n698
  (fun n827 => (k1 (ts825, (ts826, (n827, ()))) (0, (0, (0, ()))))))))) none) none) (k1 ([], ([], (0, ()))) (15, ((-1), ((-1), ()))))) none) none) (k1 ([], ([], (0, ()))) (15, ((-1), ((-1), ()))))))))))))) (k1 ([], ([], (0, ()))) (19, ((-1), ((-1), ())))))
noncomputable def ref24_Bind : T_ref24_Bind := ref24_Bind.body ref23_Check ref23_Find ref24_program ref24_number (ref24_Bind_L0 ROUNDS)
def ref24_Bind.p : FPat := fp 23 (pl (pb 0 90 Ty24) (pl (pd .str) pz)) pz
def ref24_Bind.g (F : T_ref24_Bind) (v : ref24_Bind.p.T) (k : KR) : Option Bool := F v.1.1 v.1.2.1 (fun y0 y1 => k (.tup [(.d ⟨Ty26, y0⟩), (.d ⟨Ty7, y1⟩)]) [])
theorem ref24_Bind.eq (F0 : T_ref23_Check) (F1 : T_ref23_Find) (F2 : T_ref24_program) (F3 : T_ref24_number) (L0 : T_ref24_Bind_L0) : ∀ v k, exF Try.f23 ref24_Bind.p [⟨ref23_Check.p, ref23_Check.g F0⟩, ⟨ref23_Find.p, ref23_Find.g F1⟩, ⟨ref24_program.p, ref24_program.g F2⟩, ⟨ref24_number.p, ref24_number.g F3⟩] [] [⟨0, ref24_Bind_L0.p, ref24_Bind_L0.g L0⟩] v k = ref24_Bind.g (ref24_Bind.body F0 F1 F2 F3 L0) v k := fun v k => by kernel_rfl
theorem ref24_Bind.ok : okF 11 ref24_Bind.p (ref24_Bind.g ref24_Bind) := fn2 (ref24_Bind.eq ref23_Check ref23_Find ref24_program ref24_number (ref24_Bind_L0 ROUNDS)) Try.func23 (by kernel_rfl) (.cons ref23_Check.ok (.cons ref23_Find.ok (.cons ref24_program.ok (.cons ref24_number.ok .nil)))) [0] (by kernel_rfl) (.cons ref24_Bind_L0.ok .nil)
/-- function 24: the loop in block 0 -/
abbrev T_ref25_Few_L0 : Type := Int → Tc22 → (Bool → Option Bool) → (Tc22 → Option Bool) → Option Bool
noncomputable def ref25_Few_L0.body (ref25_Few_L0 : T_ref25_Few_L0) : T_ref25_Few_L0 := fun n831 t832 k1 k2 =>
  (cond_ (decide (n831 < (((List.length t832.1) : Nat) : Int))) (cond_ ((decide ((0 : Int) ≤ n831)) && (decide (n831 < (((List.length t832.1) : Nat) : Int)))) (cond_ (! (decide ((((List.length (List.getD t832.1 (Int.toNat n831) (0, (0, ((⟨#[]⟩ : ByteArray), (0, ([], (0, (false, (0, (0, ([], ([], ([], ([], ())))))))))))))).2.2.2.2.2.2.2.2.2.2.1) : Nat) : Int) > (80 : Int)))) (cond_ ((decide ((0 : Int) ≤ n831)) && (decide (n831 < (((List.length t832.1) : Nat) : Int)))) (cond_ (! (decide ((((List.length (List.getD t832.1 (Int.toNat n831) (0, (0, ((⟨#[]⟩ : ByteArray), (0, ([], (0, (false, (0, (0, ([], ([], ([], ([], ())))))))))))))).2.2.2.2.2.2.2.2.2.2.2.2.1) : Nat) : Int) > (80 : Int)))) (cond_ ((decide ((0 : Int) ≤ n831)) && (decide (n831 < (((List.length t832.1) : Nat) : Int)))) (cond_ (! (decide ((((List.length (List.getD t832.1 (Int.toNat n831) (0, (0, ((⟨#[]⟩ : ByteArray), (0, ([], (0, (false, (0, (0, ([], ([], ([], ([], ())))))))))))))).2.2.2.2.1) : Nat) : Int) > (80 : Int)))) (cond_ ((decide ((0 : Int) ≤ n831)) && (decide (n831 < (((List.length t832.1) : Nat) : Int)))) (cond_ (! (decide ((((List.length (List.getD t832.1 (Int.toNat n831) (0, (0, ((⟨#[]⟩ : ByteArray), (0, ([], (0, (false, (0, (0, ([], ([], ([], ([], ())))))))))))))).2.2.2.2.2.2.2.2.2.2.2.1) : Nat) : Int) > (80 : Int)))) (cond_ ((decide ((0 : Int) ≤ n831)) && (decide (n831 < (((List.length t832.1) : Nat) : Int)))) (cond_ (decide ((((List.length (List.getD t832.1 (Int.toNat n831) (0, (0, ((⟨#[]⟩ : ByteArray), (0, ([], (0, (false, (0, (0, ([], ([], ([], ([], ())))))))))))))).2.2.2.2.2.2.2.2.2.1) : Nat) : Int) > (80 : Int))) (k1 false) (ref25_Few_L0 (IntKind.wrap .i64 (n831 + (1 : Int))) t832 k1 k2)) none) (k1 false)) none) (k1 false)) none) (k1 false)) none) (k1 false)) none) (k2 t832))
noncomputable def ref25_Few_L0 : Nat → T_ref25_Few_L0
  | 0 => fun _ _ _ _ => none
  | n + 1 => ref25_Few_L0.body (ref25_Few_L0 n)
def ref25_Few_L0.p : LPat := lp 2 111 [1, 3] (ps (pq [1, 0] 0 0) (pl (pd (.int .i64)) pz)) (pl (po [1, 0] 31 3 (es Ty26 (pl eh pz))) pz)
def ref25_Few_L0.g (F : T_ref25_Few_L0) (v : ref25_Few_L0.p.T) (k : KE) : Option Bool := F v.1.1 v.2.1.1 (fun y0 => k .ret ⟨fillS 111 [2] [(.d ⟨.bool, y0⟩)], [], 2⟩) (fun y0 => k (.exit 0) ⟨fillS 111 [1] [(.ptr [1, 0] 0 0)], [([1, 0], ⟨31, 3, (.data Ty26 [y0])⟩)], 2⟩)
theorem ref25_Few_L0.step (S : T_ref25_Few_L0) : ∀ v k, exR 24 Try.f24 0 ref25_Few_L0.p [] [] [] (ref25_Few_L0.g S) v k = ref25_Few_L0.g (ref25_Few_L0.body S) v k := fun v k => by kernel_rfl
theorem ref25_Few_L0.ok : okL 24 Try.f24 0 0 ref25_Few_L0.p (ref25_Few_L0.g (ref25_Few_L0 ROUNDS)) := loop2 (G := fun n => ref25_Few_L0.g (ref25_Few_L0 n)) (fun n => ref25_Few_L0.step (ref25_Few_L0 n)) .nil [] (by kernel_rfl) .nil (fun _ _ => rfl)
/-- function 24: the loop in block 2 -/
abbrev T_ref25_Few_L2 : Type := Int → Tc22 → (Bool → Option Bool) → (Tc22 → Option Bool) → Option Bool
noncomputable def ref25_Few_L2.body (ref25_Few_L2 : T_ref25_Few_L2) : T_ref25_Few_L2 := fun n835 t836 k1 k2 =>
  (cond_ (decide (n835 < (((List.length t836.2.1) : Nat) : Int))) (cond_ ((decide ((0 : Int) ≤ n835)) && (decide (n835 < (((List.length t836.2.1) : Nat) : Int)))) (cond_ (! (decide ((((List.length (List.getD t836.2.1 (Int.toNat n835) (0, (0, ((⟨#[]⟩ : ByteArray), (0, ([], ([], ([], ())))))))).2.2.2.2.1) : Nat) : Int) > (80 : Int)))) (cond_ ((decide ((0 : Int) ≤ n835)) && (decide (n835 < (((List.length t836.2.1) : Nat) : Int)))) (cond_ (! (decide ((((List.length (List.getD t836.2.1 (Int.toNat n835) (0, (0, ((⟨#[]⟩ : ByteArray), (0, ([], ([], ([], ())))))))).2.2.2.2.2.2.1) : Nat) : Int) > (80 : Int)))) (cond_ ((decide ((0 : Int) ≤ n835)) && (decide (n835 < (((List.length t836.2.1) : Nat) : Int)))) (cond_ (decide ((((List.length (List.getD t836.2.1 (Int.toNat n835) (0, (0, ((⟨#[]⟩ : ByteArray), (0, ([], ([], ([], ())))))))).2.2.2.2.2.1) : Nat) : Int) > (80 : Int))) (k1 false) (ref25_Few_L2 (IntKind.wrap .i64 (n835 + (1 : Int))) t836 k1 k2)) none) (k1 false)) none) (k1 false)) none) (k2 t836))
noncomputable def ref25_Few_L2 : Nat → T_ref25_Few_L2
  | 0 => fun _ _ _ _ => none
  | n + 1 => ref25_Few_L2.body (ref25_Few_L2 n)
def ref25_Few_L2.p : LPat := lp 2 111 [1, 4] (ps (pq [1, 0] 0 0) (pl (pd (.int .i64)) pz)) (pl (po [1, 0] 31 3 (es Ty26 (pl eh pz))) pz)
def ref25_Few_L2.g (F : T_ref25_Few_L2) (v : ref25_Few_L2.p.T) (k : KE) : Option Bool := F v.1.1 v.2.1.1 (fun y0 => k .ret ⟨fillS 111 [2] [(.d ⟨.bool, y0⟩)], [], 2⟩) (fun y0 => k (.exit 2) ⟨fillS 111 [1] [(.ptr [1, 0] 0 0)], [([1, 0], ⟨31, 3, (.data Ty26 [y0])⟩)], 2⟩)
theorem ref25_Few_L2.step (S : T_ref25_Few_L2) : ∀ v k, exR 24 Try.f24 2 ref25_Few_L2.p [] [] [] (ref25_Few_L2.g S) v k = ref25_Few_L2.g (ref25_Few_L2.body S) v k := fun v k => by kernel_rfl
theorem ref25_Few_L2.ok : okL 24 Try.f24 0 2 ref25_Few_L2.p (ref25_Few_L2.g (ref25_Few_L2 ROUNDS)) := loop2 (G := fun n => ref25_Few_L2.g (ref25_Few_L2 n)) (fun n => ref25_Few_L2.step (ref25_Few_L2 n)) .nil [] (by kernel_rfl) .nil (fun _ _ => rfl)
/-- function 24: sheerleg/sheerlegref25.Few -/
abbrev T_ref25_Few : Type := Tc22 → (Bool → Option Bool) → Option Bool
noncomputable def ref25_Few.body (ref25_Few_L0 : T_ref25_Few_L0) (ref25_Few_L2 : T_ref25_Few_L2) : T_ref25_Few := fun t830 k1 =>
  (ref25_Few_L0 (0 : Int) t830
  (fun b833 => (k1 b833))
  (fun t834 => (ref25_Few_L2 (0 : Int) t834
  (fun b837 => (k1 b837))
  (fun t838 => (cond_ (decide ((((List.length t838.1) : Nat) : Int) ≤ (24 : Int))) (k1 (decide ((((List.length t838.2.1) : Nat) : Int) ≤ (24 : Int)))) (k1 false))))))
noncomputable def ref25_Few : T_ref25_Few := ref25_Few.body (ref25_Few_L0 ROUNDS) (ref25_Few_L2 ROUNDS)
def ref25_Few.p : FPat := fp 24 (pl (pd Ty26) pz) pz
def ref25_Few.g (F : T_ref25_Few) (v : ref25_Few.p.T) (k : KR) : Option Bool := F v.1.1 (fun y0 => k (.d ⟨.bool, y0⟩) [])
theorem ref25_Few.eq (L0 : T_ref25_Few_L0) (L1 : T_ref25_Few_L2) : ∀ v k, exF Try.f24 ref25_Few.p [] [] [⟨0, ref25_Few_L0.p, ref25_Few_L0.g L0⟩, ⟨2, ref25_Few_L2.p, ref25_Few_L2.g L1⟩] v k = ref25_Few.g (ref25_Few.body L0 L1) v k := fun v k => by kernel_rfl
theorem ref25_Few.ok : okF 1 ref25_Few.p (ref25_Few.g ref25_Few) := fn2 (ref25_Few.eq (ref25_Few_L0 ROUNDS) (ref25_Few_L2 ROUNDS)) Try.func24 (by kernel_rfl) .nil [0, 2] (by kernel_rfl) (.cons ref25_Few_L0.ok (.cons ref25_Few_L2.ok .nil))
/-- function 5: sheerleg/sheerleglaw32.Few -/
abbrev T_law32_Few : Type := Tc21 → Tc2 → (Tc22 → Bool → Option Bool) → Option Bool
noncomputable def law32_Few.body (ref24_Few : T_ref24_Few) (ref24_Bind : T_ref24_Bind) (ref25_Few : T_ref25_Few) : T_law32_Few := fun ts844 t845 k1 =>
  (ref24_Few ts844
  (fun b846 => (cond_ (! (! b846)) (cond_ (! (decide ((((List.length t845.1) : Nat) : Int) > (60 : Int)))) (cond_ (decide ((((List.length t845.2.1) : Nat) : Int) > (60 : Int))) (k1 ([], ([], (0, ()))) false) (ref24_Bind ts844 (⟨#[109, 97, 105, 110]⟩ : ByteArray)
  (fun t847 t848 => (cond_ (t848.1 == (0 : Int)) (ref25_Few (t847.1, (t847.2.1, (t847.2.2.1, ())))
  (fun b849 => (k1 (t847.1, (t847.2.1, (t847.2.2.1, ()))) b849))) (k1 (t847.1, (t847.2.1, (t847.2.2.1, ()))) false))))) (k1 ([], ([], (0, ()))) false)) (k1 ([], ([], (0, ()))) false))))
noncomputable def law32_Few : T_law32_Few := law32_Few.body ref24_Few ref24_Bind ref25_Few
def law32_Few.p : FPat := fp 5 (pl (pb 0 90 Ty24) (pl (pd Ty6) pz)) pz
def law32_Few.g (F : T_law32_Few) (v : law32_Few.p.T) (k : KR) : Option Bool := F v.1.1 v.1.2.1 (fun y0 y1 => k (.tup [(.d ⟨Ty26, y0⟩), (.d ⟨.bool, y1⟩)]) [])
theorem law32_Few.eq (F0 : T_ref24_Few) (F1 : T_ref24_Bind) (F2 : T_ref25_Few) : ∀ v k, exF Try.f5 law32_Few.p [⟨ref24_Few.p, ref24_Few.g F0⟩, ⟨ref24_Bind.p, ref24_Bind.g F1⟩, ⟨ref25_Few.p, ref25_Few.g F2⟩] [] [] v k = law32_Few.g (law32_Few.body F0 F1 F2) v k := fun v k => by kernel_rfl
theorem law32_Few.ok : okF 12 law32_Few.p (law32_Few.g law32_Few) := fn2 (law32_Few.eq ref24_Few ref24_Bind ref25_Few) Try.func5 (by kernel_rfl) (.cons ref24_Few.ok (.cons ref24_Bind.ok (.cons ref25_Few.ok .nil))) [] (by kernel_rfl) .nil
/-- function 6: sheerleg/sheerleglaw33.known, all of it at once -/
abbrev T_law33_known : Type := (Bool → Option Bool) → Option Bool
def law33_known : T_law33_known := fun k1 => k1 true
def law33_known.p : FPat := fp 6 pz pz
def law33_known.g (F : T_law33_known) (v : law33_known.p.T) (k : KR) : Option Bool := F (fun y => k (.d ⟨.bool, y⟩) [])
set_option maxRecDepth 100000 in
theorem law33_known.all (k : KR) : callK Try.prog ht 60 6 [] [] k = k (.d ⟨.bool, true⟩) [] := by kernel_rfl
theorem law33_known.ok : okF 60 law33_known.p (law33_known.g law33_known) := all2 fun _ k => law33_known.all k
end Go.Proofs.Ythjiokfjckcomaa.p
