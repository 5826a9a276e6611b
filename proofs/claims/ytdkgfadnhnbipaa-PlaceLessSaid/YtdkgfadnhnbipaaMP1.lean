/- What the functions come to that P reaches, as plain functions; written by a program of this work, each told by Lean. -/
import Derived.Test.YtdkgfadnhnbipaaA3
import Derived.Test.YtdkgfadnhnbipaaChecked
namespace Go.Proofs.Ytdkgfadnhnbipaa.p
open Go.AX
set_option linter.unusedVariables false
set_option maxRecDepth 100000
set_option maxHeartbeats 4000000
def ht : Hints := hintsOf [(5, [(0, ⟨[3, 5, 6, 7], []⟩), (2000000, ⟨[2], []⟩), (1000000, ⟨[3, 6], []⟩)]),
  (6, [(2000000, ⟨[4, 5], [(.giveP 4)]⟩)]),
  (4, [(0, ⟨[2, 3, 5, 9, 11, 12, 13], []⟩), (2, ⟨[5, 9, 14, 15, 16, 17], []⟩), (2000000, ⟨[8], []⟩), (1000000, ⟨[2, 3, 5, 9, 11], []⟩), (1000002, ⟨[5, 9, 14], []⟩)]),
  (11, [(2000000, ⟨[4], []⟩), (1000000, ⟨[5], []⟩)]),
  (56, [(0, ⟨[0, 2, 3, 7, 8], [(.virtP 600000 0 3 1), (.virtP 400000 0 3 1), (.virtP 600000 0 44 6)]⟩), (2000000, ⟨[], []⟩), (1000000, ⟨[], []⟩)]),
  (9, [(2000000, ⟨[4], []⟩), (1000000, ⟨[5], []⟩)]),
  (17, [(0, ⟨[0, 1, 5], []⟩), (2000000, ⟨[4], []⟩), (1000000, ⟨[], []⟩)]),
  (19, [(0, ⟨[2, 3, 5, 6], [(.virt 5 44 6)]⟩), (2000000, ⟨[4], []⟩), (1000000, ⟨[5], []⟩)]),
  (18, [(2000000, ⟨[4], []⟩), (1000000, ⟨[5], []⟩)]),
  (15, [(2000000, ⟨[2], []⟩), (1000000, ⟨[3], []⟩)]),
  (13, [(2000000, ⟨[2], []⟩), (1000000, ⟨[3], []⟩)]),
  (14, [(0, ⟨[1, 3, 4], [(.virt 3 3 1)]⟩), (2000000, ⟨[2], []⟩), (1000000, ⟨[3], []⟩)]),
  (28, [(0, ⟨[1, 2, 5, 6], []⟩), (2000000, ⟨[4], []⟩), (1000000, ⟨[5], []⟩)]),
  (8, [(0, ⟨[0, 1, 5], []⟩), (2000000, ⟨[4], []⟩), (1000000, ⟨[], []⟩)]),
  (10, [(0, ⟨[2, 3, 5, 6], [(.virt 5 3 1)]⟩), (2000000, ⟨[4], []⟩), (1000000, ⟨[5], []⟩)]),
  (26, [(0, ⟨[2, 3, 4, 7, 8], []⟩), (2000000, ⟨[6], []⟩), (1000000, ⟨[7], []⟩)]),
  (22, [(0, ⟨[1, 3], []⟩), (2, ⟨[1, 4], []⟩), (2000000, ⟨[2], []⟩), (1000000, ⟨[1], []⟩), (1000002, ⟨[1], []⟩)]),
  (21, [(0, ⟨[0, 1, 4, 5, 6], []⟩), (2000000, ⟨[4, 5], [(.giveP 4)]⟩), (1000000, ⟨[0, 1, 4, 5], []⟩)]),
  (35, [(0, ⟨[0, 2, 3, 4], [(.virtP 3 0 73 13), (.virtP 3 1 51 7)]⟩), (2, ⟨[0, 2, 3, 4, 5, 6], [(.virtP 3 0 73 13)]⟩), (4, ⟨[0, 2, 3, 4, 5, 6, 7, 8], [(.virt 7 3 1)]⟩), (6, ⟨[0, 2, 3, 4, 5, 9], [(.virtP 3 1 51 7)]⟩), (2000000, ⟨[2], []⟩), (1000004, ⟨[0, 2, 3, 4, 5, 6, 7], []⟩), (1000003, ⟨[0, 2, 3, 4, 5, 6], []⟩), (1000002, ⟨[0, 2, 3, 4, 5], []⟩), (1000006, ⟨[0, 2, 3, 4], []⟩), (1000001, ⟨[0, 2, 3, 4], []⟩), (1000000, ⟨[2, 3], []⟩)]),
  (55, [(0, ⟨[1, 3, 4], []⟩), (2000000, ⟨[2], []⟩), (1000000, ⟨[3], []⟩)]),
  (66, [(0, ⟨[0, 1, 5, 6], [(.virt 5 3 1)]⟩), (2, ⟨[0, 1, 5, 6, 7, 8], []⟩), (2000000, ⟨[4], []⟩), (1000002, ⟨[0, 1, 5, 6, 7], []⟩), (1000001, ⟨[0, 1, 5, 6], []⟩), (1000000, ⟨[5], []⟩)]),
  (54, [(0, ⟨[0, 1, 2, 7, 8], [(.virt 7 3 1)]⟩), (2000000, ⟨[6], []⟩), (1000000, ⟨[7], []⟩)]),
  (36, [(0, ⟨[0, 7, 10, 11, 12], []⟩), (2000000, ⟨[6], []⟩), (1000000, ⟨[11], []⟩)]),
  (33, [(0, ⟨[0, 2, 5], []⟩), (2, ⟨[0, 2, 5, 6], []⟩), (2000000, ⟨[2], []⟩), (1000002, ⟨[0, 2, 5], []⟩), (1000001, ⟨[0, 2, 5], []⟩), (1000000, ⟨[2], []⟩)]),
  (49, [(0, ⟨[0, 2, 4], []⟩), (2, ⟨[0, 2, 4, 5], []⟩), (2000000, ⟨[2, 3], []⟩), (1000002, ⟨[0, 2, 4], []⟩), (1000001, ⟨[0, 2, 4], []⟩), (1000000, ⟨[2], []⟩)]),
  (34, [(0, ⟨[0, 1, 7], []⟩), (2, ⟨[0, 1, 7, 8], []⟩), (2000000, ⟨[4, 5, 6], []⟩), (1000002, ⟨[0, 1, 7], []⟩), (1000001, ⟨[0, 1, 7], []⟩), (1000000, ⟨[], []⟩)]),
  (32, [(0, ⟨[1, 4], []⟩), (2, ⟨[1, 6], []⟩), (2000000, ⟨[2, 3], []⟩), (1000000, ⟨[1], []⟩), (1000002, ⟨[], []⟩)]),
  (65, [(0, ⟨[1, 3, 4], []⟩), (2000000, ⟨[2], []⟩), (1000000, ⟨[], []⟩)]),
  (73, [(0, ⟨[0, 1, 5, 6], [(.virt 5 3 1)]⟩), (2000000, ⟨[4], []⟩), (1000000, ⟨[0, 5], []⟩)]),
  (85, [(0, ⟨[0, 1, 5, 6], []⟩), (2, ⟨[0, 5, 7], []⟩), (4, ⟨[0, 5, 7, 8], []⟩), (6, ⟨[0, 5, 7, 8, 9], []⟩), (2000000, ⟨[4], []⟩), (1000000, ⟨[0, 5], []⟩), (1000006, ⟨[0, 5, 7, 8], []⟩), (1000005, ⟨[0, 5, 7, 8], []⟩), (1000004, ⟨[0, 5, 7], []⟩), (1000003, ⟨[0, 5, 7], []⟩), (1000002, ⟨[5], []⟩)]),
  (86, [(0, ⟨[0, 3, 4], [(.virt 3 24 1)]⟩), (2000000, ⟨[2], []⟩), (1000000, ⟨[3], []⟩)]),
  (74, [(0, ⟨[0, 3, 4], [(.virt 3 3 1)]⟩), (2000000, ⟨[2], []⟩), (1000000, ⟨[3], []⟩)]),
  (64, [(0, ⟨[1, 2, 7], []⟩), (2000000, ⟨[4, 5], []⟩), (1000000, ⟨[], []⟩)]),
  (72, [(0, ⟨[3, 7, 8, 10, 11], []⟩), (2000000, ⟨[6], []⟩), (1000000, ⟨[], []⟩)]),
  (96, [(0, ⟨[1, 3, 7, 8], []⟩), (2000000, ⟨[6], []⟩), (1000000, ⟨[], []⟩)]),
  (52, [(0, ⟨[1, 2, 5], []⟩), (2000000, ⟨[4], []⟩), (1000000, ⟨[], []⟩)]),
  (92, [(0, ⟨[1, 2, 5], []⟩), (2000000, ⟨[4], []⟩), (1000000, ⟨[], []⟩)]),
  (71, [(0, ⟨[1, 6], []⟩), (2000000, ⟨[2], []⟩), (1000000, ⟨[], []⟩)]),
  (78, [(0, ⟨[1, 3], []⟩), (2000000, ⟨[2], []⟩), (1000000, ⟨[], []⟩)]),
  (77, [(0, ⟨[1, 4], []⟩), (2000000, ⟨[2], []⟩), (1000000, ⟨[], []⟩)]),
  (89, [(0, ⟨[1, 3], []⟩), (2, ⟨[1, 4, 5], []⟩), (2000000, ⟨[2], []⟩), (1000000, ⟨[1], []⟩), (1000002, ⟨[], []⟩)]),
  (88, [(0, ⟨[0, 3], []⟩), (2, ⟨[0, 3, 4, 5], []⟩), (2000000, ⟨[2], []⟩), (1000002, ⟨[0, 3], []⟩), (1000001, ⟨[0, 3], []⟩), (1000000, ⟨[], []⟩)]),
  (76, [(0, ⟨[1, 3], []⟩), (2000000, ⟨[2], []⟩), (1000000, ⟨[], []⟩)]),
  (63, [(0, ⟨[1, 2, 5], []⟩), (2, ⟨[1, 2, 6], []⟩), (2000000, ⟨[4], []⟩), (1000000, ⟨[1, 2], []⟩), (1000002, ⟨[], []⟩)]),
  (62, [(0, ⟨[1, 2, 5], []⟩), (2000000, ⟨[4], []⟩), (1000000, ⟨[], []⟩)]),
  (46, [(0, ⟨[1, 2, 5, 7], []⟩), (2, ⟨[1, 2, 5, 8, 9, 10], []⟩), (2000000, ⟨[4], []⟩), (1000000, ⟨[1, 2, 5], []⟩), (1000002, ⟨[5, 8, 9], []⟩)]),
  (69, [(0, ⟨[0, 3, 4], []⟩), (2000000, ⟨[2], []⟩), (1000000, ⟨[0, 3], []⟩)]),
  (59, [(0, ⟨[0, 3], []⟩), (2000000, ⟨[2], []⟩), (1000000, ⟨[], []⟩)]),
  (20, [(0, ⟨[0, 3], []⟩), (2000000, ⟨[2], []⟩), (1000000, ⟨[0], []⟩)]),
  (31, [(0, ⟨[1, 3], []⟩), (2, ⟨[1, 4], []⟩), (4, ⟨[1, 5], []⟩), (2000000, ⟨[2], []⟩), (1000000, ⟨[1], []⟩), (1000002, ⟨[1], []⟩), (1000004, ⟨[1], []⟩)])]
abbrev okF := FnOk Try.prog ht
abbrev okL := LoopOk Try.prog ht
noncomputable abbrev exF := execF Try.prog ht
noncomputable abbrev exR := execR Try.prog ht
noncomputable abbrev exB := execB Try.prog ht
abbrev Tc0 : Type := List (Int × Int × Bool × Unit)
abbrev Tc1 : Type := (List Bool) × (List Int) × Unit
abbrev Tc2 : Type := Int × Int × Int × Int × Int × Unit
abbrev Tc3 : Type := Int × Int × Int × Int × Int × Int × Unit
abbrev Tc4 : Type := ByteArray × Bool × Int × Int × Int × Unit
abbrev Tc5 : Type := List Tc2
abbrev Tc6 : Type := List Tc3
abbrev Tc7 : Type := List Tc4
abbrev Tc8 : Type := Int × (List Int) × Tc0 × Unit
abbrev Tc9 : Type := List Tc8
abbrev Tc10 : Type := Int × Int × ByteArray × Int × (List Int) × Tc0 × (List Int) × Unit
abbrev Tc11 : Type := List Tc10
abbrev Tc12 : Type := Int × (List Int) × Int × Bool × Int × Int × (List (Int × Int × Unit)) × Tc5 × Tc0 × Unit
abbrev Tc13 : Type := List Tc12
abbrev Tc14 : Type := Int × Int × ByteArray × Int × (List Int) × Int × Bool × Int × Int × (List (Int × Int × Unit)) × Tc5 × Tc0 × (List Int) × Unit
abbrev Tc15 : Type := List Tc14
abbrev Tc16 : Type := Tc7 × Tc13 × Tc9 × Unit
abbrev Tc17 : Type := List Tc16
abbrev Tc18 : Type := Tc15 × Tc11 × Int × Unit
abbrev Ty0 : Ty := (.sl 4 .bool)
abbrev Ty1 : Ty := (.sl 3 (.int .i64))
abbrev Ty2 : Ty := (.sl 2 (.int .i64))
abbrev Ty3 : Ty := (.st [(.int .i64), (.int .i64)])
abbrev Ty4 : Ty := (.st [(.int .i64), (.int .i64), .bool])
abbrev Ty5 : Ty := (.sl 142 Ty3)
abbrev Ty6 : Ty := (.st [Ty0, Ty1])
abbrev Ty7 : Ty := (.st [(.int .i64), (.int .i64), (.int .i64)])
abbrev Ty8 : Ty := (.sl 93 Ty4)
abbrev Ty9 : Ty := (.st [.str, .bool, (.int .i64), (.int .i64), (.int .i64)])
abbrev Ty10 : Ty := (.sl 87 Ty9)
abbrev Ty11 : Ty := (.st [(.int .i64), (.int .i64), (.int .i64), (.int .i64), (.int .i64)])
abbrev Ty12 : Ty := (.sl 91 Ty11)
abbrev Ty13 : Ty := (.st [(.int .i64), (.int .i64), (.int .i64), (.int .i64), (.int .i64), (.int .i64)])
abbrev Ty14 : Ty := (.st [(.int .i64), Ty2, Ty8])
abbrev Ty15 : Ty := (.sl 49 Ty14)
abbrev Ty16 : Ty := (.st [(.int .i64), (.int .i64), .str, (.int .i64), Ty2, Ty8, Ty1])
abbrev Ty17 : Ty := (.sl 51 Ty16)
abbrev Ty18 : Ty := (.st [(.int .i64), Ty1, (.int .i64), .bool, (.int .i64), (.int .i64), Ty5, Ty12, Ty8])
abbrev Ty19 : Ty := (.sl 71 Ty18)
abbrev Ty20 : Ty := (.st [(.int .i64), (.int .i64), .str, (.int .i64), Ty1, (.int .i64), .bool, (.int .i64), (.int .i64), Ty5, Ty12, Ty8, Ty1])
abbrev Ty21 : Ty := (.sl 73 Ty20)
abbrev Ty22 : Ty := (.st [Ty10, Ty19, Ty15])
abbrev Ty23 : Ty := (.sl 80 Ty22)
abbrev Ty24 : Ty := (.st [Ty21, Ty17, (.int .i64)])
/-- function 31: the loop in block 0 -/
abbrev T_ref19_Few_L0 : Type := Int → Tc16 → (Bool → Option Bool) → (Tc16 → Option Bool) → Option Bool
noncomputable def ref19_Few_L0.body (ref19_Few_L0 : T_ref19_Few_L0) : T_ref19_Few_L0 := fun n8 t9 k1 k2 =>
  (cond_ (decide (n8 < (((List.length t9.1) : Nat) : Int))) (cond_ ((decide ((0 : Int) ≤ n8)) && (decide (n8 < (((List.length t9.1) : Nat) : Int)))) (cond_ (decide ((((ByteArray.size (List.getD t9.1 (Int.toNat n8) ((⟨#[]⟩ : ByteArray), (false, (0, (0, (0, ())))))).1) : Nat) : Int) > (300 : Int))) (k1 false) (ref19_Few_L0 (IntKind.wrap .i64 (n8 + (1 : Int))) t9 k1 k2)) none) (k2 t9))
noncomputable def ref19_Few_L0 : Nat → T_ref19_Few_L0
  | 0 => fun _ _ _ _ => none
  | n + 1 => ref19_Few_L0.body (ref19_Few_L0 n)
def ref19_Few_L0.p : LPat := lp 2 61 [1, 3] (ps (pq [1, 0] 0 0) (pl (pd (.int .i64)) pz)) (pl (po [1, 0] 80 3 (es Ty22 (pl eh pz))) pz)
def ref19_Few_L0.g (F : T_ref19_Few_L0) (v : ref19_Few_L0.p.T) (k : KE) : Option Bool := F v.1.1 v.2.1.1 (fun y0 => k .ret ⟨fillS 61 [2] [(.d ⟨.bool, y0⟩)], [], 2⟩) (fun y0 => k (.exit 0) ⟨fillS 61 [1] [(.ptr [1, 0] 0 0)], [([1, 0], ⟨80, 3, (.data Ty22 [y0])⟩)], 2⟩)
theorem ref19_Few_L0.step (S : T_ref19_Few_L0) : ∀ v k, exR 31 Try.f31 0 ref19_Few_L0.p [] [] [] (ref19_Few_L0.g S) v k = ref19_Few_L0.g (ref19_Few_L0.body S) v k := fun v k => by kernel_rfl
theorem ref19_Few_L0.ok : okL 31 Try.f31 0 0 ref19_Few_L0.p (ref19_Few_L0.g (ref19_Few_L0 ROUNDS)) := loop2 (G := fun n => ref19_Few_L0.g (ref19_Few_L0 n)) (fun n => ref19_Few_L0.step (ref19_Few_L0 n)) .nil [] (by kernel_rfl) .nil (fun _ _ => rfl)
/-- function 44: sheerleg/sheerlegref16.Few -/
abbrev T_ref16_Few : Type := Tc12 → (Bool → Option Bool) → Option Bool
noncomputable def ref16_Few.body : T_ref16_Few := fun t14 k1 =>
  (cond_ (decide ((((List.length t14.2.1) : Nat) : Int) ≤ (100 : Int))) (cond_ (decide ((((List.length t14.2.2.2.2.2.2.1) : Nat) : Int) ≤ (100 : Int))) (cond_ (decide ((((List.length t14.2.2.2.2.2.2.2.1) : Nat) : Int) ≤ (100 : Int))) (k1 (decide ((((List.length t14.2.2.2.2.2.2.2.2.1) : Nat) : Int) ≤ (100 : Int)))) (k1 false)) (k1 false)) (k1 false))
noncomputable def ref16_Few : T_ref16_Few := ref16_Few.body
def ref16_Few.p : FPat := fp 44 (pl (pd Ty18) pz) pz
def ref16_Few.g (F : T_ref16_Few) (v : ref16_Few.p.T) (k : KR) : Option Bool := F v.1.1 (fun y0 => k (.d ⟨.bool, y0⟩) [])
theorem ref16_Few.eq : ∀ v k, exF Try.f44 ref16_Few.p [] [] [] v k = ref16_Few.g (ref16_Few.body) v k := fun v k => by kernel_rfl
theorem ref16_Few.ok : okF 1 ref16_Few.p (ref16_Few.g ref16_Few) := fn2 (ref16_Few.eq) Try.func44 (by kernel_rfl) .nil [] (by kernel_rfl) .nil
/-- function 31: the loop in block 2 -/
abbrev T_ref19_Few_L2 : Type := Int → Tc16 → (Bool → Option Bool) → (Tc16 → Option Bool) → Option Bool
noncomputable def ref19_Few_L2.body (ref19_Few_L2 : T_ref19_Few_L2) (ref16_Few : T_ref16_Few) : T_ref19_Few_L2 := fun n12 t13 k1 k2 =>
  (cond_ (decide (n12 < (((List.length t13.2.1) : Nat) : Int))) (cond_ (! (decide (n12 ≥ (20 : Int)))) (cond_ ((decide ((0 : Int) ≤ n12)) && (decide (n12 < (((List.length t13.2.1) : Nat) : Int)))) (ref16_Few (List.getD t13.2.1 (Int.toNat n12) (0, ([], (0, (false, (0, (0, ([], ([], ([], ()))))))))))
  (fun b15 => (cond_ (! b15) (k1 false) (ref19_Few_L2 (IntKind.wrap .i64 (n12 + (1 : Int))) t13 k1 k2)))) none) (k1 false)) (k2 t13))
noncomputable def ref19_Few_L2 : Nat → T_ref19_Few_L2
  | 0 => fun _ _ _ _ => none
  | n + 1 => ref19_Few_L2.body (ref19_Few_L2 n) ref16_Few
def ref19_Few_L2.p : LPat := lp 2 61 [1, 4] (ps (pq [1, 0] 0 0) (pl (pd (.int .i64)) pz)) (pl (po [1, 0] 80 3 (es Ty22 (pl eh pz))) pz)
def ref19_Few_L2.g (F : T_ref19_Few_L2) (v : ref19_Few_L2.p.T) (k : KE) : Option Bool := F v.1.1 v.2.1.1 (fun y0 => k .ret ⟨fillS 61 [2] [(.d ⟨.bool, y0⟩)], [], 2⟩) (fun y0 => k (.exit 2) ⟨fillS 61 [1] [(.ptr [1, 0] 0 0)], [([1, 0], ⟨80, 3, (.data Ty22 [y0])⟩)], 2⟩)
theorem ref19_Few_L2.step (S : T_ref19_Few_L2) (F0 : T_ref16_Few) : ∀ v k, exR 31 Try.f31 2 ref19_Few_L2.p [⟨ref16_Few.p, ref16_Few.g F0⟩] [] [] (ref19_Few_L2.g S) v k = ref19_Few_L2.g (ref19_Few_L2.body S F0) v k := fun v k => by kernel_rfl
theorem ref19_Few_L2.ok : okL 31 Try.f31 1 2 ref19_Few_L2.p (ref19_Few_L2.g (ref19_Few_L2 ROUNDS)) := loop2 (G := fun n => ref19_Few_L2.g (ref19_Few_L2 n)) (fun n => ref19_Few_L2.step (ref19_Few_L2 n) ref16_Few) (.cons ref16_Few.ok .nil) [] (by kernel_rfl) .nil (fun _ _ => rfl)
/-- function 45: sheerleg/sheerlegref15.Few -/
abbrev T_ref15_Few : Type := Tc8 → (Bool → Option Bool) → Option Bool
noncomputable def ref15_Few.body : T_ref15_Few := fun t20 k1 =>
  (cond_ (decide ((((List.length t20.2.1) : Nat) : Int) ≤ (100 : Int))) (k1 (decide ((((List.length t20.2.2.1) : Nat) : Int) ≤ (100 : Int)))) (k1 false))
noncomputable def ref15_Few : T_ref15_Few := ref15_Few.body
def ref15_Few.p : FPat := fp 45 (pl (pd Ty14) pz) pz
def ref15_Few.g (F : T_ref15_Few) (v : ref15_Few.p.T) (k : KR) : Option Bool := F v.1.1 (fun y0 => k (.d ⟨.bool, y0⟩) [])
theorem ref15_Few.eq : ∀ v k, exF Try.f45 ref15_Few.p [] [] [] v k = ref15_Few.g (ref15_Few.body) v k := fun v k => by kernel_rfl
theorem ref15_Few.ok : okF 1 ref15_Few.p (ref15_Few.g ref15_Few) := fn2 (ref15_Few.eq) Try.func45 (by kernel_rfl) .nil [] (by kernel_rfl) .nil
/-- function 31: the loop in block 4 -/
abbrev T_ref19_Few_L4 : Type := Int → Tc16 → (Bool → Option Bool) → (Tc16 → Option Bool) → Option Bool
noncomputable def ref19_Few_L4.body (ref19_Few_L4 : T_ref19_Few_L4) (ref15_Few : T_ref15_Few) : T_ref19_Few_L4 := fun n18 t19 k1 k2 =>
  (cond_ (decide (n18 < (((List.length t19.2.2.1) : Nat) : Int))) (cond_ (! (decide (n18 ≥ (20 : Int)))) (cond_ ((decide ((0 : Int) ≤ n18)) && (decide (n18 < (((List.length t19.2.2.1) : Nat) : Int)))) (ref15_Few (List.getD t19.2.2.1 (Int.toNat n18) (0, ([], ([], ()))))
  (fun b21 => (cond_ (! b21) (k1 false) (ref19_Few_L4 (IntKind.wrap .i64 (n18 + (1 : Int))) t19 k1 k2)))) none) (k1 false)) (k2 t19))
noncomputable def ref19_Few_L4 : Nat → T_ref19_Few_L4
  | 0 => fun _ _ _ _ => none
  | n + 1 => ref19_Few_L4.body (ref19_Few_L4 n) ref15_Few
def ref19_Few_L4.p : LPat := lp 2 61 [1, 5] (ps (pq [1, 0] 0 0) (pl (pd (.int .i64)) pz)) (pl (po [1, 0] 80 3 (es Ty22 (pl eh pz))) pz)
def ref19_Few_L4.g (F : T_ref19_Few_L4) (v : ref19_Few_L4.p.T) (k : KE) : Option Bool := F v.1.1 v.2.1.1 (fun y0 => k .ret ⟨fillS 61 [2] [(.d ⟨.bool, y0⟩)], [], 2⟩) (fun y0 => k (.exit 4) ⟨fillS 61 [1] [(.ptr [1, 0] 0 0)], [([1, 0], ⟨80, 3, (.data Ty22 [y0])⟩)], 2⟩)
theorem ref19_Few_L4.step (S : T_ref19_Few_L4) (F0 : T_ref15_Few) : ∀ v k, exR 31 Try.f31 4 ref19_Few_L4.p [⟨ref15_Few.p, ref15_Few.g F0⟩] [] [] (ref19_Few_L4.g S) v k = ref19_Few_L4.g (ref19_Few_L4.body S F0) v k := fun v k => by kernel_rfl
theorem ref19_Few_L4.ok : okL 31 Try.f31 1 4 ref19_Few_L4.p (ref19_Few_L4.g (ref19_Few_L4 ROUNDS)) := loop2 (G := fun n => ref19_Few_L4.g (ref19_Few_L4 n)) (fun n => ref19_Few_L4.step (ref19_Few_L4 n) ref15_Few) (.cons ref15_Few.ok .nil) [] (by kernel_rfl) .nil (fun _ _ => rfl)
/-- function 31: sheerleg/sheerlegref19.Few -/
abbrev T_ref19_Few : Type := Tc16 → (Bool → Option Bool) → Option Bool
noncomputable def ref19_Few.body (ref19_Few_L0 : T_ref19_Few_L0) (ref19_Few_L2 : T_ref19_Few_L2) (ref19_Few_L4 : T_ref19_Few_L4) : T_ref19_Few := fun t7 k1 =>
  (ref19_Few_L0 (0 : Int) t7
  (fun b10 => (k1 b10))
  (fun t11 => (ref19_Few_L2 (0 : Int) t11
  (fun b16 => (k1 b16))
  (fun t17 => (ref19_Few_L4 (0 : Int) t17
  (fun b22 => (k1 b22))
  (fun t23 => (k1 (decide ((((List.length t23.1) : Nat) : Int) ≤ (60 : Int))))))))))
noncomputable def ref19_Few : T_ref19_Few := ref19_Few.body (ref19_Few_L0 ROUNDS) (ref19_Few_L2 ROUNDS) (ref19_Few_L4 ROUNDS)
def ref19_Few.p : FPat := fp 31 (pl (pd Ty22) pz) pz
def ref19_Few.g (F : T_ref19_Few) (v : ref19_Few.p.T) (k : KR) : Option Bool := F v.1.1 (fun y0 => k (.d ⟨.bool, y0⟩) [])
theorem ref19_Few.eq (L0 : T_ref19_Few_L0) (L1 : T_ref19_Few_L2) (L2 : T_ref19_Few_L4) : ∀ v k, exF Try.f31 ref19_Few.p [] [] [⟨0, ref19_Few_L0.p, ref19_Few_L0.g L0⟩, ⟨2, ref19_Few_L2.p, ref19_Few_L2.g L1⟩, ⟨4, ref19_Few_L4.p, ref19_Few_L4.g L2⟩] v k = ref19_Few.g (ref19_Few.body L0 L1 L2) v k := fun v k => by kernel_rfl
theorem ref19_Few.ok : okF 2 ref19_Few.p (ref19_Few.g ref19_Few) := fn2 (ref19_Few.eq (ref19_Few_L0 ROUNDS) (ref19_Few_L2 ROUNDS) (ref19_Few_L4 ROUNDS)) Try.func31 (by kernel_rfl) .nil [0, 2, 4] (by kernel_rfl) (.cons ref19_Few_L0.ok (.cons ref19_Few_L2.ok (.cons ref19_Few_L4.ok .nil)))
/-- function 20: the loop in block 0 -/
abbrev T_ref24_Few_L0 : Type := Tc17 → Int → (Bool → Option Bool) → (Tc17 → Option Bool) → Option Bool
noncomputable def ref24_Few_L0.body (ref24_Few_L0 : T_ref24_Few_L0) (ref19_Few : T_ref19_Few) : T_ref24_Few_L0 := fun ts5 n6 k1 k2 =>
  (cond_ (decide (n6 < (List.length ts5 : Int))) (cond_ ((decide ((0 : Int) ≤ n6)) && (decide (n6 < (List.length ts5 : Int)))) (ref19_Few (List.getD ts5 (Int.toNat n6) ([], ([], ([], ()))))
  (fun b24 => (cond_ (! b24) (k1 false) (ref24_Few_L0 ts5 (IntKind.wrap .i64 (n6 + (1 : Int))) k1 k2)))) none) (k2 ts5))
noncomputable def ref24_Few_L0 : Nat → T_ref24_Few_L0
  | 0 => fun _ _ _ _ => none
  | n + 1 => ref24_Few_L0.body (ref24_Few_L0 n) ref19_Few
def ref24_Few_L0.p : LPat := lp 2 19 [0, 3] (pl (pb 0 80 Ty22) (pl (pd (.int .i64)) pz)) pz
def ref24_Few_L0.g (F : T_ref24_Few_L0) (v : ref24_Few_L0.p.T) (k : KE) : Option Bool := F v.1.1 v.1.2.1 (fun y0 => k .ret ⟨fillS 19 [2] [(.d ⟨.bool, y0⟩)], [], 2⟩) (fun y0 => k (.exit 0) ⟨fillS 19 [0] [(.bv 0 80 Ty22 y0)], [], 2⟩)
theorem ref24_Few_L0.step (S : T_ref24_Few_L0) (F0 : T_ref19_Few) : ∀ v k, exR 20 Try.f20 0 ref24_Few_L0.p [⟨ref19_Few.p, ref19_Few.g F0⟩] [] [] (ref24_Few_L0.g S) v k = ref24_Few_L0.g (ref24_Few_L0.body S F0) v k := fun v k => by kernel_rfl
theorem ref24_Few_L0.ok : okL 20 Try.f20 2 0 ref24_Few_L0.p (ref24_Few_L0.g (ref24_Few_L0 ROUNDS)) := loop2 (G := fun n => ref24_Few_L0.g (ref24_Few_L0 n)) (fun n => ref24_Few_L0.step (ref24_Few_L0 n) ref19_Few) (.cons ref19_Few.ok .nil) [] (by kernel_rfl) .nil (fun _ _ => rfl)
/-- function 20: sheerleg/sheerlegref24.Few -/
abbrev T_ref24_Few : Type := Tc17 → (Bool → Option Bool) → Option Bool
noncomputable def ref24_Few.body (ref24_Few_L0 : T_ref24_Few_L0) : T_ref24_Few := fun ts4 k1 =>
  (ref24_Few_L0 ts4 (0 : Int)
  (fun b25 => (k1 b25))
  (fun ts26 => (k1 (decide ((List.length ts26 : Int) ≤ (9 : Int))))))
noncomputable def ref24_Few : T_ref24_Few := ref24_Few.body (ref24_Few_L0 ROUNDS)
def ref24_Few.p : FPat := fp 20 (pl (pb 0 80 Ty22) pz) pz
def ref24_Few.g (F : T_ref24_Few) (v : ref24_Few.p.T) (k : KR) : Option Bool := F v.1.1 (fun y0 => k (.d ⟨.bool, y0⟩) [])
theorem ref24_Few.eq (L0 : T_ref24_Few_L0) : ∀ v k, exF Try.f20 ref24_Few.p [] [] [⟨0, ref24_Few_L0.p, ref24_Few_L0.g L0⟩] v k = ref24_Few.g (ref24_Few.body L0) v k := fun v k => by kernel_rfl
theorem ref24_Few.ok : okF 3 ref24_Few.p (ref24_Few.g ref24_Few) := fn2 (ref24_Few.eq (ref24_Few_L0 ROUNDS)) Try.func20 (by kernel_rfl) .nil [0] (by kernel_rfl) (.cons ref24_Few_L0.ok .nil)
/-- function 67: sheerleg/sheerlegref04.may -/
abbrev T_ref04_may : Type := Int → Bool → (Bool → Option Bool) → Option Bool
noncomputable def ref04_may.body : T_ref04_may := fun n43 b44 k1 =>
  (cond_ (decide (n43 ≥ (97 : Int))) (cond_ (! (decide (n43 ≤ (122 : Int)))) (cond_ (! (n43 == (95 : Int))) (cond_ (! (n43 == (46 : Int))) (cond_ (decide (n43 ≥ (48 : Int))) (cond_ (decide (n43 ≤ (57 : Int))) (k1 (! b44)) (k1 false)) (k1 false)) (k1 true)) (k1 true)) (k1 true)) (cond_ (! (n43 == (95 : Int))) (cond_ (! (n43 == (46 : Int))) (cond_ (decide (n43 ≥ (48 : Int))) (cond_ (decide (n43 ≤ (57 : Int))) (k1 (! b44)) (k1 false)) (k1 false)) (k1 true)) (k1 true)))
noncomputable def ref04_may : T_ref04_may := ref04_may.body
def ref04_may.p : FPat := fp 67 (pl (pd (.int .u8)) (pl (pd .bool) pz)) pz
def ref04_may.g (F : T_ref04_may) (v : ref04_may.p.T) (k : KR) : Option Bool := F v.1.1 v.1.2.1 (fun y0 => k (.d ⟨.bool, y0⟩) [])
theorem ref04_may.eq : ∀ v k, exF Try.f67 ref04_may.p [] [] [] v k = ref04_may.g (ref04_may.body) v k := fun v k => by kernel_rfl
theorem ref04_may.ok : okF 1 ref04_may.p (ref04_may.g ref04_may) := fn2 (ref04_may.eq) Try.func67 (by kernel_rfl) .nil [] (by kernel_rfl) .nil
/-- function 59: the loop in block 0 -/
abbrev T_ref04_Check_L0 : Type := ByteArray → Int → (Int → Option Bool) → (Option Bool) → Option Bool
noncomputable def ref04_Check_L0.body (ref04_Check_L0 : T_ref04_Check_L0) (ref04_may : T_ref04_may) : T_ref04_Check_L0 := fun s41 n42 k1 k2 =>
  (cond_ (decide (n42 < (((ByteArray.size s41) : Nat) : Int))) (cond_ ((decide ((0 : Int) ≤ n42)) && (decide (n42 < (((ByteArray.size s41) : Nat) : Int)))) (ref04_may (((UInt8.toNat (List.getD (Array.toList (ByteArray.data s41)) (Int.toNat n42) (0 : UInt8))) : Nat) : Int) (n42 == (0 : Int))
  (fun b45 => (cond_ (! b45) (k1 (7 : Int)) (ref04_Check_L0 s41 (IntKind.wrap .i64 (n42 + (1 : Int))) k1 k2)))) none) (k2))
noncomputable def ref04_Check_L0 : Nat → T_ref04_Check_L0
  | 0 => fun _ _ _ _ => none
  | n + 1 => ref04_Check_L0.body (ref04_Check_L0 n) ref04_may
def ref04_Check_L0.p : LPat := lp 2 22 [0, 3] (pl (pd .str) (pl (pd (.int .i64)) pz)) pz
def ref04_Check_L0.g (F : T_ref04_Check_L0) (v : ref04_Check_L0.p.T) (k : KE) : Option Bool := F v.1.1 v.1.2.1 (fun y0 => k .ret ⟨fillS 22 [2] [(.d ⟨(.int .i64), y0⟩)], [], 2⟩) (k (.exit 0) ⟨fillS 22 [] [], [], 2⟩)
theorem ref04_Check_L0.step (S : T_ref04_Check_L0) (F0 : T_ref04_may) : ∀ v k, exR 59 Try.f59 0 ref04_Check_L0.p [⟨ref04_may.p, ref04_may.g F0⟩] [] [] (ref04_Check_L0.g S) v k = ref04_Check_L0.g (ref04_Check_L0.body S F0) v k := fun v k => by kernel_rfl
theorem ref04_Check_L0.ok : okL 59 Try.f59 1 0 ref04_Check_L0.p (ref04_Check_L0.g (ref04_Check_L0 ROUNDS)) := loop2 (G := fun n => ref04_Check_L0.g (ref04_Check_L0 n)) (fun n => ref04_Check_L0.step (ref04_Check_L0 n) ref04_may) (.cons ref04_may.ok .nil) [] (by kernel_rfl) .nil (fun _ _ => rfl)
/-- function 59: sheerleg/sheerlegref04.Check -/
abbrev T_ref04_Check : Type := ByteArray → (Int → Option Bool) → Option Bool
noncomputable def ref04_Check.body (ref04_Check_L0 : T_ref04_Check_L0) : T_ref04_Check := fun s40 k1 =>
  (cond_ (decide ((((ByteArray.size s40) : Nat) : Int) > (24 : Int))) (k1 (6 : Int)) (cond_ ((ByteArray.toList s40) == (ByteArray.toList (⟨#[]⟩ : ByteArray))) (k1 (7 : Int)) (ref04_Check_L0 s40 (0 : Int)
  (fun n46 => (k1 n46))
  (k1 (0 : Int)))))
noncomputable def ref04_Check : T_ref04_Check := ref04_Check.body (ref04_Check_L0 ROUNDS)
def ref04_Check.p : FPat := fp 59 (pl (pd .str) pz) pz
def ref04_Check.g (F : T_ref04_Check) (v : ref04_Check.p.T) (k : KR) : Option Bool := F v.1.1 (fun y0 => k (.d ⟨(.int .i64), y0⟩) [])
theorem ref04_Check.eq (L0 : T_ref04_Check_L0) : ∀ v k, exF Try.f59 ref04_Check.p [] [] [⟨0, ref04_Check_L0.p, ref04_Check_L0.g L0⟩] v k = ref04_Check.g (ref04_Check.body L0) v k := fun v k => by kernel_rfl
theorem ref04_Check.ok : okF 2 ref04_Check.p (ref04_Check.g ref04_Check) := fn2 (ref04_Check.eq (ref04_Check_L0 ROUNDS)) Try.func59 (by kernel_rfl) .nil [0] (by kernel_rfl) (.cons ref04_Check_L0.ok .nil)
/-- function 60: sheerleg/sheerlegref05.Is -/
abbrev T_ref05_Is : Type := Int → (Bool → Option Bool) → Option Bool
noncomputable def ref05_Is.body : T_ref05_Is := fun n48 k1 =>
  (cond_ (decide (n48 ≥ (0 : Int))) (k1 (decide (n48 ≤ (7 : Int)))) (k1 false))
noncomputable def ref05_Is : T_ref05_Is := ref05_Is.body
def ref05_Is.p : FPat := fp 60 (pl (pd (.int .i64)) pz) pz
def ref05_Is.g (F : T_ref05_Is) (v : ref05_Is.p.T) (k : KR) : Option Bool := F v.1.1 (fun y0 => k (.d ⟨.bool, y0⟩) [])
theorem ref05_Is.eq : ∀ v k, exF Try.f60 ref05_Is.p [] [] [] v k = ref05_Is.g (ref05_Is.body) v k := fun v k => by kernel_rfl
theorem ref05_Is.ok : okF 1 ref05_Is.p (ref05_Is.g ref05_Is) := fn2 (ref05_Is.eq) Try.func60 (by kernel_rfl) .nil [] (by kernel_rfl) .nil
/-- function 68: sheerleg/sheerlegref05.Class -/
abbrev T_ref05_Class : Type := Int → (Int → Bool → Option Bool) → Option Bool
noncomputable def ref05_Class.body (ref05_Is : T_ref05_Is) : T_ref05_Class := fun n51 k1 =>
  (ref05_Is (IntKind.wrap .i64 (n51 - (1 : Int)))
  (fun b52 => (cond_ (! b52) (k1 (0 : Int) false) (k1 (IntKind.wrap .i64 (n51 - (1 : Int))) true))))
noncomputable def ref05_Class : T_ref05_Class := ref05_Class.body ref05_Is
def ref05_Class.p : FPat := fp 68 (pl (pd (.int .i64)) pz) pz
def ref05_Class.g (F : T_ref05_Class) (v : ref05_Class.p.T) (k : KR) : Option Bool := F v.1.1 (fun y0 y1 => k (.tup [(.d ⟨(.int .i64), y0⟩), (.d ⟨.bool, y1⟩)]) [])
theorem ref05_Class.eq (F0 : T_ref05_Is) : ∀ v k, exF Try.f68 ref05_Class.p [⟨ref05_Is.p, ref05_Is.g F0⟩] [] [] v k = ref05_Class.g (ref05_Class.body F0) v k := fun v k => by kernel_rfl
theorem ref05_Class.ok : okF 2 ref05_Class.p (ref05_Class.g ref05_Class) := fn2 (ref05_Class.eq ref05_Is) Try.func68 (by kernel_rfl) (.cons ref05_Is.ok .nil) [] (by kernel_rfl) .nil
/-- function 69: the loop in block 0 -/
abbrev T_ref01_Digits_L0 : Type := Int → ByteArray → Int → (Int → ByteArray → Option Bool) → Option Bool
noncomputable def ref01_Digits_L0.body (ref01_Digits_L0 : T_ref01_Digits_L0) : T_ref01_Digits_L0 := fun n56 s57 n58 k1 =>
  (cond_ (n58 != (0 : Int)) (cond_ (decide ((Int.tmod n58 (10 : Int)) < (0 : Int))) (cond_ (Nat.ble ((ByteArray.size (strOf ((IntKind.wrap .u8 (IntKind.wrap .i64 ((48 : Int) + (IntKind.wrap .i64 ((0 : Int) - (Int.tmod n58 (10 : Int))))))) :: []))) + (ByteArray.size s57)) (9223372036854775807 : Nat)) (ref01_Digits_L0 n56 ((strOf ((IntKind.wrap .u8 (IntKind.wrap .i64 ((48 : Int) + (IntKind.wrap .i64 ((0 : Int) - (Int.tmod n58 (10 : Int))))))) :: [])) ++ s57) (IntKind.wrap .i64 (Int.tdiv n58 (10 : Int))) k1) none) (cond_ (Nat.ble ((ByteArray.size (strOf ((IntKind.wrap .u8 (IntKind.wrap .i64 ((48 : Int) + (Int.tmod n58 (10 : Int))))) :: []))) + (ByteArray.size s57)) (9223372036854775807 : Nat)) (ref01_Digits_L0 n56 ((strOf ((IntKind.wrap .u8 (IntKind.wrap .i64 ((48 : Int) + (Int.tmod n58 (10 : Int))))) :: [])) ++ s57) (IntKind.wrap .i64 (Int.tdiv n58 (10 : Int))) k1) none)) (k1 n56 s57))
noncomputable def ref01_Digits_L0 : Nat → T_ref01_Digits_L0
  | 0 => fun _ _ _ _ => none
  | n + 1 => ref01_Digits_L0.body (ref01_Digits_L0 n)
def ref01_Digits_L0.p : LPat := lp 2 31 [0, 3, 4] (pl (pd (.int .i64)) (pl (pd .str) (pl (pd (.int .i64)) pz))) pz
def ref01_Digits_L0.g (F : T_ref01_Digits_L0) (v : ref01_Digits_L0.p.T) (k : KE) : Option Bool := F v.1.1 v.1.2.1 v.1.2.2.1 (fun y0 y1 => k (.exit 0) ⟨fillS 31 [0, 3] [(.d ⟨(.int .i64), y0⟩), (.d ⟨.str, y1⟩)], [], 2⟩)
theorem ref01_Digits_L0.step (S : T_ref01_Digits_L0) : ∀ v k, exR 69 Try.f69 0 ref01_Digits_L0.p [] [] [] (ref01_Digits_L0.g S) v k = ref01_Digits_L0.g (ref01_Digits_L0.body S) v k := fun v k => by kernel_rfl
theorem ref01_Digits_L0.ok : okL 69 Try.f69 0 0 ref01_Digits_L0.p (ref01_Digits_L0.g (ref01_Digits_L0 ROUNDS)) := loop2 (G := fun n => ref01_Digits_L0.g (ref01_Digits_L0 n)) (fun n => ref01_Digits_L0.step (ref01_Digits_L0 n)) .nil [] (by kernel_rfl) .nil (fun _ _ => rfl)
/-- function 69: sheerleg/sheerlegref01.Digits -/
abbrev T_ref01_Digits : Type := Int → (ByteArray → Option Bool) → Option Bool
noncomputable def ref01_Digits.body (ref01_Digits_L0 : T_ref01_Digits_L0) : T_ref01_Digits := fun n55 k1 =>
  (cond_ (n55 == (0 : Int)) (k1 (⟨#[48]⟩ : ByteArray)) (ref01_Digits_L0 n55 (⟨#[]⟩ : ByteArray) n55
  (fun n59 s60 => (cond_ (decide (n59 < (0 : Int))) (cond_ (Nat.ble ((1 : Nat) + (ByteArray.size s60)) (9223372036854775807 : Nat)) (k1 ((⟨#[45]⟩ : ByteArray) ++ s60)) none) (k1 s60)))))
noncomputable def ref01_Digits : T_ref01_Digits := ref01_Digits.body (ref01_Digits_L0 ROUNDS)
def ref01_Digits.p : FPat := fp 69 (pl (pd (.int .i64)) pz) pz
def ref01_Digits.g (F : T_ref01_Digits) (v : ref01_Digits.p.T) (k : KR) : Option Bool := F v.1.1 (fun y0 => k (.d ⟨.str, y0⟩) [])
theorem ref01_Digits.eq (L0 : T_ref01_Digits_L0) : ∀ v k, exF Try.f69 ref01_Digits.p [] [] [⟨0, ref01_Digits_L0.p, ref01_Digits_L0.g L0⟩] v k = ref01_Digits.g (ref01_Digits.body L0) v k := fun v k => by kernel_rfl
theorem ref01_Digits.ok : okF 1 ref01_Digits.p (ref01_Digits.g ref01_Digits) := fn2 (ref01_Digits.eq (ref01_Digits_L0 ROUNDS)) Try.func69 (by kernel_rfl) .nil [0] (by kernel_rfl) (.cons ref01_Digits_L0.ok .nil)
/-- function 61: sheerleg/sheerlegref05.Text -/
abbrev T_ref05_Text : Type := Int → (ByteArray → Option Bool) → Option Bool
noncomputable def ref05_Text.body (ref05_Class : T_ref05_Class) (ref01_Digits : T_ref01_Digits) : T_ref05_Text := fun n50 k1 =>
  (cond_ (n50 == (0 : Int)) (k1 (⟨#[110]⟩ : ByteArray)) (ref05_Class n50
  (fun n53 b54 => (cond_ (! b54) (k1 (⟨#[]⟩ : ByteArray)) (ref01_Digits (IntKind.wrap .i64 (Int.tdiv n53 (2 : Int)))
  (fun s61 => (cond_ (Nat.ble ((1 : Nat) + (ByteArray.size s61)) (9223372036854775807 : Nat)) (cond_ ((Int.tmod n53 (2 : Int)) == (1 : Int)) (cond_ (Nat.ble ((ByteArray.size ((⟨#[102]⟩ : ByteArray) ++ s61)) + (1 : Nat)) (9223372036854775807 : Nat)) (k1 (((⟨#[102]⟩ : ByteArray) ++ s61) ++ (⟨#[114]⟩ : ByteArray))) none) (k1 ((⟨#[102]⟩ : ByteArray) ++ s61))) none)))))))
noncomputable def ref05_Text : T_ref05_Text := ref05_Text.body ref05_Class ref01_Digits
def ref05_Text.p : FPat := fp 61 (pl (pd (.int .i64)) pz) pz
def ref05_Text.g (F : T_ref05_Text) (v : ref05_Text.p.T) (k : KR) : Option Bool := F v.1.1 (fun y0 => k (.d ⟨.str, y0⟩) [])
theorem ref05_Text.eq (F0 : T_ref05_Class) (F1 : T_ref01_Digits) : ∀ v k, exF Try.f61 ref05_Text.p [⟨ref05_Class.p, ref05_Class.g F0⟩, ⟨ref01_Digits.p, ref01_Digits.g F1⟩] [] [] v k = ref05_Text.g (ref05_Text.body F0 F1) v k := fun v k => by kernel_rfl
theorem ref05_Text.ok : okF 3 ref05_Text.p (ref05_Text.g ref05_Text) := fn2 (ref05_Text.eq ref05_Class ref01_Digits) Try.func61 (by kernel_rfl) (.cons ref05_Class.ok (.cons ref01_Digits.ok .nil)) [] (by kernel_rfl) .nil
/-- function 46: the loop in block 0 -/
abbrev T_ref19_symbol_L0 : Type := Int → Int → Tc16 → Tc4 → (Int → Option Bool) → (Int → Tc16 → Tc4 → Option Bool) → Option Bool
noncomputable def ref19_symbol_L0.body (ref19_symbol_L0 : T_ref19_symbol_L0) : T_ref19_symbol_L0 := fun n63 n64 t65 t66 k1 k2 =>
  (cond_ (decide (n64 < n63)) (cond_ ((decide ((0 : Int) ≤ n64)) && (decide (n64 < (((List.length t65.1) : Nat) : Int)))) (cond_ ((ByteArray.toList (List.getD t65.1 (Int.toNat n64) ((⟨#[]⟩ : ByteArray), (false, (0, (0, (0, ())))))).1) == (ByteArray.toList t66.1)) (k1 (12 : Int)) (ref19_symbol_L0 n63 (IntKind.wrap .i64 (n64 + (1 : Int))) t65 t66 k1 k2)) none) (k2 n63 t65 t66))
noncomputable def ref19_symbol_L0 : Nat → T_ref19_symbol_L0
  | 0 => fun _ _ _ _ _ _ => none
  | n + 1 => ref19_symbol_L0.body (ref19_symbol_L0 n)
def ref19_symbol_L0.p : LPat := lp 2 122 [1, 2, 5, 7] (pl (pd (.int .i64)) (ps (pq [1, 0] 0 0) (ps (pq [1, 1] 0 0) (pl (pd (.int .i64)) pz)))) (pl (po [1, 0] 80 3 (es Ty22 (pl eh pz))) (pl (po [1, 1] 87 5 (es Ty9 (pl eh pz))) pz))
def ref19_symbol_L0.g (F : T_ref19_symbol_L0) (v : ref19_symbol_L0.p.T) (k : KE) : Option Bool := F v.1.1 v.1.2.1 v.2.1.1 v.2.2.1.1 (fun y0 => k .ret ⟨fillS 122 [4] [(.d ⟨(.int .i64), y0⟩)], [], 2⟩) (fun y0 y1 y2 => k (.exit 0) ⟨fillS 122 [1, 2, 5] [(.d ⟨(.int .i64), y0⟩), (.ptr [1, 0] 0 0), (.ptr [1, 1] 0 0)], [([1, 0], ⟨80, 3, (.data Ty22 [y1])⟩), ([1, 1], ⟨87, 5, (.data Ty9 [y2])⟩)], 2⟩)
theorem ref19_symbol_L0.step (S : T_ref19_symbol_L0) : ∀ v k, exR 46 Try.f46 0 ref19_symbol_L0.p [] [] [] (ref19_symbol_L0.g S) v k = ref19_symbol_L0.g (ref19_symbol_L0.body S) v k := fun v k => by kernel_rfl
theorem ref19_symbol_L0.ok : okL 46 Try.f46 0 0 ref19_symbol_L0.p (ref19_symbol_L0.g (ref19_symbol_L0 ROUNDS)) := loop2 (G := fun n => ref19_symbol_L0.g (ref19_symbol_L0 n)) (fun n => ref19_symbol_L0.step (ref19_symbol_L0 n)) .nil [] (by kernel_rfl) .nil (fun _ _ => rfl)
/-- function 46: the loop in block 2 -/
abbrev T_ref19_symbol_L2 : Type := Int → Int → Int → Int → Tc16 → Tc4 → (Int → Int → Tc4 → Option Bool) → Option Bool
noncomputable def ref19_symbol_L2.body (ref19_symbol_L2 : T_ref19_symbol_L2) : T_ref19_symbol_L2 := fun n71 n72 n73 n74 t75 t76 k1 =>
  (cond_ (decide (n74 < n71)) (cond_ ((decide ((0 : Int) ≤ n74)) && (decide (n74 < (((List.length t75.1) : Nat) : Int)))) (cond_ ((List.getD t75.1 (Int.toNat n74) ((⟨#[]⟩ : ByteArray), (false, (0, (0, (0, ())))))).2.2.1 == t76.2.2.1) (cond_ ((decide ((0 : Int) ≤ n74)) && (decide (n74 < (((List.length t75.1) : Nat) : Int)))) (cond_ ((List.getD t75.1 (Int.toNat n74) ((⟨#[]⟩ : ByteArray), (false, (0, (0, (0, ())))))).2.2.2.2.1 != (-1 : Int)) (ref19_symbol_L2 n71 n72 (IntKind.wrap .i64 (n73 + (1 : Int))) (IntKind.wrap .i64 (n74 + (1 : Int))) t75 t76 k1) (ref19_symbol_L2 n71 n72 n73 (IntKind.wrap .i64 (n74 + (1 : Int))) t75 t76 k1)) none) (ref19_symbol_L2 n71 n72 n73 (IntKind.wrap .i64 (n74 + (1 : Int))) t75 t76 k1)) none) (k1 n72 n73 t76))
noncomputable def ref19_symbol_L2 : Nat → T_ref19_symbol_L2
  | 0 => fun _ _ _ _ _ _ _ => none
  | n + 1 => ref19_symbol_L2.body (ref19_symbol_L2 n)
def ref19_symbol_L2.p : LPat := lp 2 122 [1, 2, 5, 8, 9, 10] (pl (pd (.int .i64)) (ps (pq [1, 0] 0 0) (ps (pq [1, 1] 0 0) (pl (pd (.int .i64)) (pl (pd (.int .i64)) (pl (pd (.int .i64)) pz)))))) (pl (po [1, 0] 80 3 (es Ty22 (pl eh pz))) (pl (po [1, 1] 87 5 (es Ty9 (pl eh pz))) pz))
def ref19_symbol_L2.g (F : T_ref19_symbol_L2) (v : ref19_symbol_L2.p.T) (k : KE) : Option Bool := F v.1.1 v.1.2.1 v.1.2.2.1 v.1.2.2.2.1 v.2.1.1 v.2.2.1.1 (fun y0 y1 y2 => k (.exit 2) ⟨fillS 122 [5, 8, 9] [(.ptr [1, 0] 0 0), (.d ⟨(.int .i64), y0⟩), (.d ⟨(.int .i64), y1⟩)], [([1, 0], ⟨87, 5, (.data Ty9 [y2])⟩)], 2⟩)
theorem ref19_symbol_L2.step (S : T_ref19_symbol_L2) : ∀ v k, exR 46 Try.f46 2 ref19_symbol_L2.p [] [] [] (ref19_symbol_L2.g S) v k = ref19_symbol_L2.g (ref19_symbol_L2.body S) v k := fun v k => by kernel_rfl
theorem ref19_symbol_L2.ok : okL 46 Try.f46 0 2 ref19_symbol_L2.p (ref19_symbol_L2.g (ref19_symbol_L2 ROUNDS)) := loop2 (G := fun n => ref19_symbol_L2.g (ref19_symbol_L2 n)) (fun n => ref19_symbol_L2.step (ref19_symbol_L2 n)) .nil [] (by kernel_rfl) .nil (fun _ _ => rfl)
/-- function 46: sheerleg/sheerlegref19.symbol -/
abbrev T_ref19_symbol : Type := Tc16 → Int → (Int → Option Bool) → Option Bool
noncomputable def ref19_symbol.body (ref04_Check : T_ref04_Check) (ref05_Is : T_ref05_Is) (ref05_Text : T_ref05_Text) (ref19_symbol_L0 : T_ref19_symbol_L0) (ref19_symbol_L2 : T_ref19_symbol_L2) : T_ref19_symbol := fun t38 n39 k1 =>
  (cond_ ((decide ((0 : Int) ≤ n39)) && (decide (n39 < (((List.length t38.1) : Nat) : Int)))) (ref04_Check (List.getD t38.1 (Int.toNat n39) ((⟨#[]⟩ : ByteArray), (false, (0, (0, (0, ())))))).1
  (fun n47 => (cond_ (n47 != (0 : Int)) (k1 n47) (cond_ ((List.getD t38.1 (Int.toNat n39) ((⟨#[]⟩ : ByteArray), (false, (0, (0, (0, ())))))).2.2.1 != (1 : Int)) (cond_ (! ((List.getD t38.1 (Int.toNat n39) ((⟨#[]⟩ : ByteArray), (false, (0, (0, (0, ())))))).2.2.1 != (2 : Int))) (cond_ ((List.getD t38.1 (Int.toNat n39) ((⟨#[]⟩ : ByteArray), (false, (0, (0, (0, ())))))).2.2.1 == (1 : Int)) (ref05_Is (List.getD t38.1 (Int.toNat n39) ((⟨#[]⟩ : ByteArray), (false, (0, (0, (0, ())))))).2.2.2.1
  (fun b49 => (cond_ (! (! b49)) (cond_ ((List.getD t38.1 (Int.toNat n39) ((⟨#[]⟩ : ByteArray), (false, (0, (0, (0, ())))))).2.2.1 == (2 : Int)) (ref05_Text (List.getD t38.1 (Int.toNat n39) ((⟨#[]⟩ : ByteArray), (false, (0, (0, (0, ())))))).2.2.2.1
  (fun s62 => (cond_ ((ByteArray.toList s62) == (ByteArray.toList (⟨#[]⟩ : ByteArray))) (k1 (8 : Int)) (ref19_symbol_L0 n39 (0 : Int) t38 (List.getD t38.1 (Int.toNat n39) ((⟨#[]⟩ : ByteArray), (false, (0, (0, (0, ()))))))
  (fun n67 => (k1 n67))
  (fun n68 t69 t70 => (cond_ (t70.2.2.1 == (2 : Int)) (ref19_symbol_L2 n68 (((List.length t69.2.2.1) : Nat) : Int) (0 : Int) (0 : Int) t69 t70
  (fun n77 n78 t79 => (cond_ (t79.2.2.2.2.1 != (-1 : Int)) (cond_ (! (t79.2.2.2.2.1 != n78)) (cond_ (decide (t79.2.2.2.2.1 ≥ n77)) (k1 (9 : Int)) (cond_ t79.2.1 (cond_ (t79.2.2.2.2.1 == (-1 : Int)) (k1 (13 : Int)) (k1 (0 : Int))) (k1 (0 : Int)))) (k1 (9 : Int))) (cond_ t79.2.1 (cond_ (t79.2.2.2.2.1 == (-1 : Int)) (k1 (13 : Int)) (k1 (0 : Int))) (k1 (0 : Int)))))) (ref19_symbol_L2 n68 (((List.length t69.2.1) : Nat) : Int) (0 : Int) (0 : Int) t69 t70
  (fun n80 n81 t82 => (cond_ (t82.2.2.2.2.1 != (-1 : Int)) (cond_ (! (t82.2.2.2.2.1 != n81)) (cond_ (decide (t82.2.2.2.2.1 ≥ n80)) (k1 (9 : Int)) (cond_ t82.2.1 (cond_ (t82.2.2.2.2.1 == (-1 : Int)) (k1 (13 : Int)) (k1 (0 : Int))) (k1 (0 : Int)))) (k1 (9 : Int))) (cond_ t82.2.1 (cond_ (t82.2.2.2.2.1 == (-1 : Int)) (k1 (13 : Int)) (k1 (0 : Int))) (k1 (0 : Int)))))))))))) (ref19_symbol_L0 n39 (0 : Int) t38 (List.getD t38.1 (Int.toNat n39) ((⟨#[]⟩ : ByteArray), (false, (0, (0, (0, ()))))))
  (fun n83 => (k1 n83))
  (fun n84 t85 t86 => (cond_ (t86.2.2.1 == (2 : Int)) (ref19_symbol_L2 n84 (((List.length t85.2.2.1) : Nat) : Int) (0 : Int) (0 : Int) t85 t86
  (fun n87 n88 t89 => (cond_ (t89.2.2.2.2.1 != (-1 : Int)) (cond_ (! (t89.2.2.2.2.1 != n88)) (cond_ (decide (t89.2.2.2.2.1 ≥ n87)) (k1 (9 : Int)) (cond_ t89.2.1 (cond_ (t89.2.2.2.2.1 == (-1 : Int)) (k1 (13 : Int)) (k1 (0 : Int))) (k1 (0 : Int)))) (k1 (9 : Int))) (cond_ t89.2.1 (cond_ (t89.2.2.2.2.1 == (-1 : Int)) (k1 (13 : Int)) (k1 (0 : Int))) (k1 (0 : Int)))))) (ref19_symbol_L2 n84 (((List.length t85.2.1) : Nat) : Int) (0 : Int) (0 : Int) t85 t86
  (fun n90 n91 t92 => (cond_ (t92.2.2.2.2.1 != (-1 : Int)) (cond_ (! (t92.2.2.2.2.1 != n91)) (cond_ (decide (t92.2.2.2.2.1 ≥ n90)) (k1 (9 : Int)) (cond_ t92.2.1 (cond_ (t92.2.2.2.2.1 == (-1 : Int)) (k1 (13 : Int)) (k1 (0 : Int))) (k1 (0 : Int)))) (k1 (9 : Int))) (cond_ t92.2.1 (cond_ (t92.2.2.2.2.1 == (-1 : Int)) (k1 (13 : Int)) (k1 (0 : Int))) (k1 (0 : Int)))))))))) (k1 (8 : Int))))) (cond_ ((List.getD t38.1 (Int.toNat n39) ((⟨#[]⟩ : ByteArray), (false, (0, (0, (0, ())))))).2.2.1 == (2 : Int)) (ref05_Text (List.getD t38.1 (Int.toNat n39) ((⟨#[]⟩ : ByteArray), (false, (0, (0, (0, ())))))).2.2.2.1
  (fun s93 => (cond_ ((ByteArray.toList s93) == (ByteArray.toList (⟨#[]⟩ : ByteArray))) (k1 (8 : Int)) (ref19_symbol_L0 n39 (0 : Int) t38 (List.getD t38.1 (Int.toNat n39) ((⟨#[]⟩ : ByteArray), (false, (0, (0, (0, ()))))))
  (fun n94 => (k1 n94))
  (fun n95 t96 t97 => (cond_ (t97.2.2.1 == (2 : Int)) (ref19_symbol_L2 n95 (((List.length t96.2.2.1) : Nat) : Int) (0 : Int) (0 : Int) t96 t97
  (fun n98 n99 t100 => (cond_ (t100.2.2.2.2.1 != (-1 : Int)) (cond_ (! (t100.2.2.2.2.1 != n99)) (cond_ (decide (t100.2.2.2.2.1 ≥ n98)) (k1 (9 : Int)) (cond_ t100.2.1 (cond_ (t100.2.2.2.2.1 == (-1 : Int)) (k1 (13 : Int)) (k1 (0 : Int))) (k1 (0 : Int)))) (k1 (9 : Int))) (cond_ t100.2.1 (cond_ (t100.2.2.2.2.1 == (-1 : Int)) (k1 (13 : Int)) (k1 (0 : Int))) (k1 (0 : Int)))))) (ref19_symbol_L2 n95 (((List.length t96.2.1) : Nat) : Int) (0 : Int) (0 : Int) t96 t97
  (fun n101 n102 t103 => (cond_ (t103.2.2.2.2.1 != (-1 : Int)) (cond_ (! (t103.2.2.2.2.1 != n102)) (cond_ (decide (t103.2.2.2.2.1 ≥ n101)) (k1 (9 : Int)) (cond_ t103.2.1 (cond_ (t103.2.2.2.2.1 == (-1 : Int)) (k1 (13 : Int)) (k1 (0 : Int))) (k1 (0 : Int)))) (k1 (9 : Int))) (cond_ t103.2.1 (cond_ (t103.2.2.2.2.1 == (-1 : Int)) (k1 (13 : Int)) (k1 (0 : Int))) (k1 (0 : Int)))))))))))) (ref19_symbol_L0 n39 (0 : Int) t38 (List.getD t38.1 (Int.toNat n39) ((⟨#[]⟩ : ByteArray), (false, (0, (0, (0, ()))))))
  (fun n104 => (k1 n104))
  (fun n105 t106 t107 => (cond_ (t107.2.2.1 == (2 : Int)) (ref19_symbol_L2 n105 (((List.length t106.2.2.1) : Nat) : Int) (0 : Int) (0 : Int) t106 t107
  (fun n108 n109 t110 => (cond_ (t110.2.2.2.2.1 != (-1 : Int)) (cond_ (! (t110.2.2.2.2.1 != n109)) (cond_ (decide (t110.2.2.2.2.1 ≥ n108)) (k1 (9 : Int)) (cond_ t110.2.1 (cond_ (t110.2.2.2.2.1 == (-1 : Int)) (k1 (13 : Int)) (k1 (0 : Int))) (k1 (0 : Int)))) (k1 (9 : Int))) (cond_ t110.2.1 (cond_ (t110.2.2.2.2.1 == (-1 : Int)) (k1 (13 : Int)) (k1 (0 : Int))) (k1 (0 : Int)))))) (ref19_symbol_L2 n105 (((List.length t106.2.1) : Nat) : Int) (0 : Int) (0 : Int) t106 t107
  (fun n111 n112 t113 => (cond_ (t113.2.2.2.2.1 != (-1 : Int)) (cond_ (! (t113.2.2.2.2.1 != n112)) (cond_ (decide (t113.2.2.2.2.1 ≥ n111)) (k1 (9 : Int)) (cond_ t113.2.1 (cond_ (t113.2.2.2.2.1 == (-1 : Int)) (k1 (13 : Int)) (k1 (0 : Int))) (k1 (0 : Int)))) (k1 (9 : Int))) (cond_ t113.2.1 (cond_ (t113.2.2.2.2.1 == (-1 : Int)) (k1 (13 : Int)) (k1 (0 : Int))) (k1 (0 : Int))))))))))) (k1 (8 : Int))) (cond_ ((List.getD t38.1 (Int.toNat n39) ((⟨#[]⟩ : ByteArray), (false, (0, (0, (0, ())))))).2.2.1 == (1 : Int)) (ref05_Is (List.getD t38.1 (Int.toNat n39) ((⟨#[]⟩ : ByteArray), (false, (0, (0, (0, ())))))).2.2.2.1
  (fun b114 => (cond_ (! (! b114)) (cond_ ((List.getD t38.1 (Int.toNat n39) ((⟨#[]⟩ : ByteArray), (false, (0, (0, (0, ())))))).2.2.1 == (2 : Int)) (ref05_Text (List.getD t38.1 (Int.toNat n39) ((⟨#[]⟩ : ByteArray), (false, (0, (0, (0, ())))))).2.2.2.1
  (fun s115 => (cond_ ((ByteArray.toList s115) == (ByteArray.toList (⟨#[]⟩ : ByteArray))) (k1 (8 : Int)) (ref19_symbol_L0 n39 (0 : Int) t38 (List.getD t38.1 (Int.toNat n39) ((⟨#[]⟩ : ByteArray), (false, (0, (0, (0, ()))))))
  (fun n116 => (k1 n116))
  (fun n117 t118 t119 => (cond_ (t119.2.2.1 == (2 : Int)) (ref19_symbol_L2 n117 (((List.length t118.2.2.1) : Nat) : Int) (0 : Int) (0 : Int) t118 t119
  (fun n120 n121 t122 => (cond_ (t122.2.2.2.2.1 != (-1 : Int)) (cond_ (! (t122.2.2.2.2.1 != n121)) (cond_ (decide (t122.2.2.2.2.1 ≥ n120)) (k1 (9 : Int)) (cond_ t122.2.1 (cond_ (t122.2.2.2.2.1 == (-1 : Int)) (k1 (13 : Int)) (k1 (0 : Int))) (k1 (0 : Int)))) (k1 (9 : Int))) (cond_ t122.2.1 (cond_ (t122.2.2.2.2.1 == (-1 : Int)) (k1 (13 : Int)) (k1 (0 : Int))) (k1 (0 : Int)))))) (ref19_symbol_L2 n117 (((List.length t118.2.1) : Nat) : Int) (0 : Int) (0 : Int) t118 t119
  (fun n123 n124 t125 => (cond_ (t125.2.2.2.2.1 != (-1 : Int)) (cond_ (! (t125.2.2.2.2.1 != n124)) (cond_ (decide (t125.2.2.2.2.1 ≥ n123)) (k1 (9 : Int)) (cond_ t125.2.1 (cond_ (t125.2.2.2.2.1 == (-1 : Int)) (k1 (13 : Int)) (k1 (0 : Int))) (k1 (0 : Int)))) (k1 (9 : Int))) (cond_ t125.2.1 (cond_ (t125.2.2.2.2.1 == (-1 : Int)) (k1 (13 : Int)) (k1 (0 : Int))) (k1 (0 : Int)))))))))))) (ref19_symbol_L0 n39 (0 : Int) t38 (List.getD t38.1 (Int.toNat n39) ((⟨#[]⟩ : ByteArray), (false, (0, (0, (0, ()))))))
  (fun n126 => (k1 n126))
  (fun n127 t128 t129 => (cond_ (t129.2.2.1 == (2 : Int)) (ref19_symbol_L2 n127 (((List.length t128.2.2.1) : Nat) : Int) (0 : Int) (0 : Int) t128 t129
  (fun n130 n131 t132 => (cond_ (t132.2.2.2.2.1 != (-1 : Int)) (cond_ (! (t132.2.2.2.2.1 != n131)) (cond_ (decide (t132.2.2.2.2.1 ≥ n130)) (k1 (9 : Int)) (cond_ t132.2.1 (cond_ (t132.2.2.2.2.1 == (-1 : Int)) (k1 (13 : Int)) (k1 (0 : Int))) (k1 (0 : Int)))) (k1 (9 : Int))) (cond_ t132.2.1 (cond_ (t132.2.2.2.2.1 == (-1 : Int)) (k1 (13 : Int)) (k1 (0 : Int))) (k1 (0 : Int)))))) (ref19_symbol_L2 n127 (((List.length t128.2.1) : Nat) : Int) (0 : Int) (0 : Int) t128 t129
  (fun n133 n134 t135 => (cond_ (t135.2.2.2.2.1 != (-1 : Int)) (cond_ (! (t135.2.2.2.2.1 != n134)) (cond_ (decide (t135.2.2.2.2.1 ≥ n133)) (k1 (9 : Int)) (cond_ t135.2.1 (cond_ (t135.2.2.2.2.1 == (-1 : Int)) (k1 (13 : Int)) (k1 (0 : Int))) (k1 (0 : Int)))) (k1 (9 : Int))) (cond_ t135.2.1 (cond_ (t135.2.2.2.2.1 == (-1 : Int)) (k1 (13 : Int)) (k1 (0 : Int))) (k1 (0 : Int)))))))))) (k1 (8 : Int))))) (cond_ ((List.getD t38.1 (Int.toNat n39) ((⟨#[]⟩ : ByteArray), (false, (0, (0, (0, ())))))).2.2.1 == (2 : Int)) (ref05_Text (List.getD t38.1 (Int.toNat n39) ((⟨#[]⟩ : ByteArray), (false, (0, (0, (0, ())))))).2.2.2.1
  (fun s136 => (cond_ ((ByteArray.toList s136) == (ByteArray.toList (⟨#[]⟩ : ByteArray))) (k1 (8 : Int)) (ref19_symbol_L0 n39 (0 : Int) t38 (List.getD t38.1 (Int.toNat n39) ((⟨#[]⟩ : ByteArray), (false, (0, (0, (0, ()))))))
  (fun n137 => (k1 n137))
  (fun n138 t139 t140 => (cond_ (t140.2.2.1 == (2 : Int)) (ref19_symbol_L2 n138 (((List.length t139.2.2.1) : Nat) : Int) (0 : Int) (0 : Int) t139 t140
  (fun n141 n142 t143 => (cond_ (t143.2.2.2.2.1 != (-1 : Int)) (cond_ (! (t143.2.2.2.2.1 != n142)) (cond_ (decide (t143.2.2.2.2.1 ≥ n141)) (k1 (9 : Int)) (cond_ t143.2.1 (cond_ (t143.2.2.2.2.1 == (-1 : Int)) (k1 (13 : Int)) (k1 (0 : Int))) (k1 (0 : Int)))) (k1 (9 : Int))) (cond_ t143.2.1 (cond_ (t143.2.2.2.2.1 == (-1 : Int)) (k1 (13 : Int)) (k1 (0 : Int))) (k1 (0 : Int)))))) (ref19_symbol_L2 n138 (((List.length t139.2.1) : Nat) : Int) (0 : Int) (0 : Int) t139 t140
  (fun n144 n145 t146 => (cond_ (t146.2.2.2.2.1 != (-1 : Int)) (cond_ (! (t146.2.2.2.2.1 != n145)) (cond_ (decide (t146.2.2.2.2.1 ≥ n144)) (k1 (9 : Int)) (cond_ t146.2.1 (cond_ (t146.2.2.2.2.1 == (-1 : Int)) (k1 (13 : Int)) (k1 (0 : Int))) (k1 (0 : Int)))) (k1 (9 : Int))) (cond_ t146.2.1 (cond_ (t146.2.2.2.2.1 == (-1 : Int)) (k1 (13 : Int)) (k1 (0 : Int))) (k1 (0 : Int)))))))))))) (ref19_symbol_L0 n39 (0 : Int) t38 (List.getD t38.1 (Int.toNat n39) ((⟨#[]⟩ : ByteArray), (false, (0, (0, (0, ()))))))
  (fun n147 => (k1 n147))
  (fun n148 t149 t150 => (cond_ (t150.2.2.1 == (2 : Int)) (ref19_symbol_L2 n148 (((List.length t149.2.2.1) : Nat) : Int) (0 : Int) (0 : Int) t149 t150
  (fun n151 n152 t153 => (cond_ (t153.2.2.2.2.1 != (-1 : Int)) (cond_ (! (t153.2.2.2.2.1 != n152)) (cond_ (decide (t153.2.2.2.2.1 ≥ n151)) (k1 (9 : Int)) (cond_ t153.2.1 (cond_ (t153.2.2.2.2.1 == (-1 : Int)) (k1 (13 : Int)) (k1 (0 : Int))) (k1 (0 : Int)))) (k1 (9 : Int))) (cond_ t153.2.1 (cond_ (t153.2.2.2.2.1 == (-1 : Int)) (k1 (13 : Int)) (k1 (0 : Int))) (k1 (0 : Int)))))) (ref19_symbol_L2 n148 (((List.length t149.2.1) : Nat) : Int) (0 : Int) (0 : Int) t149 t150
  (fun n154 n155 t156 => (cond_ (t156.2.2.2.2.1 != (-1 : Int)) (cond_ (! (t156.2.2.2.2.1 != n155)) (cond_ (decide (t156.2.2.2.2.1 ≥ n154)) (k1 (9 : Int)) (cond_ t156.2.1 (cond_ (t156.2.2.2.2.1 == (-1 : Int)) (k1 (13 : Int)) (k1 (0 : Int))) (k1 (0 : Int)))) (k1 (9 : Int))) (cond_ t156.2.1 (cond_ (t156.2.2.2.2.1 == (-1 : Int)) (k1 (13 : Int)) (k1 (0 : Int))) (k1 (0 : Int))))))))))))))) none)
noncomputable def ref19_symbol : T_ref19_symbol := ref19_symbol.body ref04_Check ref05_Is ref05_Text (ref19_symbol_L0 ROUNDS) (ref19_symbol_L2 ROUNDS)
def ref19_symbol.p : FPat := fp 46 (pl (pd Ty22) (pl (pd (.int .i64)) pz)) pz
def ref19_symbol.g (F : T_ref19_symbol) (v : ref19_symbol.p.T) (k : KR) : Option Bool := F v.1.1 v.1.2.1 (fun y0 => k (.d ⟨(.int .i64), y0⟩) [])
theorem ref19_symbol.eq (F0 : T_ref04_Check) (F1 : T_ref05_Is) (F2 : T_ref05_Text) (L0 : T_ref19_symbol_L0) (L1 : T_ref19_symbol_L2) : ∀ v k, exF Try.f46 ref19_symbol.p [⟨ref04_Check.p, ref04_Check.g F0⟩, ⟨ref05_Is.p, ref05_Is.g F1⟩, ⟨ref05_Text.p, ref05_Text.g F2⟩] [] [⟨0, ref19_symbol_L0.p, ref19_symbol_L0.g L0⟩, ⟨2, ref19_symbol_L2.p, ref19_symbol_L2.g L1⟩] v k = ref19_symbol.g (ref19_symbol.body F0 F1 F2 L0 L1) v k := fun v k => by kernel_rfl
theorem ref19_symbol.ok : okF 4 ref19_symbol.p (ref19_symbol.g ref19_symbol) := fn2 (ref19_symbol.eq ref04_Check ref05_Is ref05_Text (ref19_symbol_L0 ROUNDS) (ref19_symbol_L2 ROUNDS)) Try.func46 (by kernel_rfl) (.cons ref04_Check.ok (.cons ref05_Is.ok (.cons ref05_Text.ok .nil))) [0, 2] (by kernel_rfl) (.cons ref19_symbol_L0.ok (.cons ref19_symbol_L2.ok .nil))
/-- function 32: the loop in block 0 -/
abbrev T_ref19_Check_L0 : Type := Int → Tc16 → (Int → Int → Option Bool) → (Tc16 → Option Bool) → Option Bool
noncomputable def ref19_Check_L0.body (ref19_Check_L0 : T_ref19_Check_L0) (ref19_symbol : T_ref19_symbol) : T_ref19_Check_L0 := fun n36 t37 k1 k2 =>
  (cond_ (decide (n36 < (((List.length t37.1) : Nat) : Int))) (ref19_symbol t37 n36
  (fun n157 => (cond_ (n157 != (0 : Int)) (k1 n157 n36) (ref19_Check_L0 (IntKind.wrap .i64 (n36 + (1 : Int))) t37 k1 k2)))) (k2 t37))
noncomputable def ref19_Check_L0 : Nat → T_ref19_Check_L0
  | 0 => fun _ _ _ _ => none
  | n + 1 => ref19_Check_L0.body (ref19_Check_L0 n) ref19_symbol
def ref19_Check_L0.p : LPat := lp 2 51 [1, 4] (ps (pq [1, 0] 0 0) (pl (pd (.int .i64)) pz)) (pl (po [1, 0] 80 3 (es Ty22 (pl eh pz))) pz)
def ref19_Check_L0.g (F : T_ref19_Check_L0) (v : ref19_Check_L0.p.T) (k : KE) : Option Bool := F v.1.1 v.2.1.1 (fun y0 y1 => k .ret ⟨fillS 51 [2, 3] [(.d ⟨(.int .i64), y0⟩), (.d ⟨(.int .i64), y1⟩)], [], 2⟩) (fun y0 => k (.exit 0) ⟨fillS 51 [1] [(.ptr [1, 0] 0 0)], [([1, 0], ⟨80, 3, (.data Ty22 [y0])⟩)], 2⟩)
theorem ref19_Check_L0.step (S : T_ref19_Check_L0) (F0 : T_ref19_symbol) : ∀ v k, exR 32 Try.f32 0 ref19_Check_L0.p [⟨ref19_symbol.p, ref19_symbol.g F0⟩] [] [] (ref19_Check_L0.g S) v k = ref19_Check_L0.g (ref19_Check_L0.body S F0) v k := fun v k => by kernel_rfl
theorem ref19_Check_L0.ok : okL 32 Try.f32 4 0 ref19_Check_L0.p (ref19_Check_L0.g (ref19_Check_L0 ROUNDS)) := loop2 (G := fun n => ref19_Check_L0.g (ref19_Check_L0 n)) (fun n => ref19_Check_L0.step (ref19_Check_L0 n) ref19_symbol) (.cons ref19_symbol.ok .nil) [] (by kernel_rfl) .nil (fun _ _ => rfl)
/-- function 47: sheerleg/sheerlegref19.Items -/
abbrev T_ref19_Items : Type := Tc16 → (Int → Option Bool) → Option Bool
noncomputable def ref19_Items.body : T_ref19_Items := fun t163 k1 =>
  (k1 (IntKind.wrap .i64 ((((List.length t163.2.1) : Nat) : Int) + (((List.length t163.2.2.1) : Nat) : Int))))
noncomputable def ref19_Items : T_ref19_Items := ref19_Items.body
def ref19_Items.p : FPat := fp 47 (pl (pd Ty22) pz) pz
def ref19_Items.g (F : T_ref19_Items) (v : ref19_Items.p.T) (k : KR) : Option Bool := F v.1.1 (fun y0 => k (.d ⟨(.int .i64), y0⟩) [])
theorem ref19_Items.eq : ∀ v k, exF Try.f47 ref19_Items.p [] [] [] v k = ref19_Items.g (ref19_Items.body) v k := fun v k => by kernel_rfl
theorem ref19_Items.ok : okF 1 ref19_Items.p (ref19_Items.g ref19_Items) := fn2 (ref19_Items.eq) Try.func47 (by kernel_rfl) .nil [] (by kernel_rfl) .nil
/-- function 70: sheerleg/sheerlegref19.defines -/
abbrev T_ref19_defines : Type := Tc16 → Tc4 → Int → (Bool → Option Bool) → Option Bool
noncomputable def ref19_defines.body (ref19_Items : T_ref19_Items) : T_ref19_defines := fun t172 t173 n174 k1 =>
  (cond_ (! (decide (n174 < (0 : Int)))) (ref19_Items t172
  (fun n175 => (cond_ (decide (n174 ≥ n175)) (k1 false) (cond_ (decide (n174 < (((List.length t172.2.1) : Nat) : Int))) (cond_ (t173.2.2.1 == (1 : Int)) (k1 (t173.2.2.2.2.1 == n174)) (k1 false)) (cond_ (t173.2.2.1 == (2 : Int)) (k1 (t173.2.2.2.2.1 == (IntKind.wrap .i64 (n174 - (((List.length t172.2.1) : Nat) : Int))))) (k1 false)))))) (k1 false))
noncomputable def ref19_defines : T_ref19_defines := ref19_defines.body ref19_Items
def ref19_defines.p : FPat := fp 70 (pl (pd Ty22) (pl (pd Ty9) (pl (pd (.int .i64)) pz))) pz
def ref19_defines.g (F : T_ref19_defines) (v : ref19_defines.p.T) (k : KR) : Option Bool := F v.1.1 v.1.2.1 v.1.2.2.1 (fun y0 => k (.d ⟨.bool, y0⟩) [])
theorem ref19_defines.eq (F0 : T_ref19_Items) : ∀ v k, exF Try.f70 ref19_defines.p [⟨ref19_Items.p, ref19_Items.g F0⟩] [] [] v k = ref19_defines.g (ref19_defines.body F0) v k := fun v k => by kernel_rfl
theorem ref19_defines.ok : okF 2 ref19_defines.p (ref19_defines.g ref19_defines) := fn2 (ref19_defines.eq ref19_Items) Try.func70 (by kernel_rfl) (.cons ref19_Items.ok .nil) [] (by kernel_rfl) .nil
/-- function 62: the loop in block 0 -/
abbrev T_ref19_Definer_L0 : Type := Int → Int → Tc16 → (Int → Option Bool) → (Option Bool) → Option Bool
noncomputable def ref19_Definer_L0.body (ref19_Definer_L0 : T_ref19_Definer_L0) (ref19_defines : T_ref19_defines) : T_ref19_Definer_L0 := fun n169 n170 t171 k1 k2 =>
  (cond_ (decide (n170 < (((List.length t171.1) : Nat) : Int))) (cond_ ((decide ((0 : Int) ≤ n170)) && (decide (n170 < (((List.length t171.1) : Nat) : Int)))) (ref19_defines t171 (List.getD t171.1 (Int.toNat n170) ((⟨#[]⟩ : ByteArray), (false, (0, (0, (0, ())))))) n169
  (fun b176 => (cond_ b176 (k1 n170) (ref19_Definer_L0 n169 (IntKind.wrap .i64 (n170 + (1 : Int))) t171 k1 k2)))) none) (k2))
noncomputable def ref19_Definer_L0 : Nat → T_ref19_Definer_L0
  | 0 => fun _ _ _ _ _ => none
  | n + 1 => ref19_Definer_L0.body (ref19_Definer_L0 n) ref19_defines
def ref19_Definer_L0.p : LPat := lp 2 22 [1, 2, 5] (pl (pd (.int .i64)) (ps (pq [1, 0] 0 0) (pl (pd (.int .i64)) pz))) (pl (po [1, 0] 80 3 (es Ty22 (pl eh pz))) pz)
def ref19_Definer_L0.g (F : T_ref19_Definer_L0) (v : ref19_Definer_L0.p.T) (k : KE) : Option Bool := F v.1.1 v.1.2.1 v.2.1.1 (fun y0 => k .ret ⟨fillS 22 [4] [(.d ⟨(.int .i64), y0⟩)], [], 2⟩) (k (.exit 0) ⟨fillS 22 [] [], [], 2⟩)
theorem ref19_Definer_L0.step (S : T_ref19_Definer_L0) (F0 : T_ref19_defines) : ∀ v k, exR 62 Try.f62 0 ref19_Definer_L0.p [⟨ref19_defines.p, ref19_defines.g F0⟩] [] [] (ref19_Definer_L0.g S) v k = ref19_Definer_L0.g (ref19_Definer_L0.body S F0) v k := fun v k => by kernel_rfl
theorem ref19_Definer_L0.ok : okL 62 Try.f62 2 0 ref19_Definer_L0.p (ref19_Definer_L0.g (ref19_Definer_L0 ROUNDS)) := loop2 (G := fun n => ref19_Definer_L0.g (ref19_Definer_L0 n)) (fun n => ref19_Definer_L0.step (ref19_Definer_L0 n) ref19_defines) (.cons ref19_defines.ok .nil) [] (by kernel_rfl) .nil (fun _ _ => rfl)
/-- function 62: sheerleg/sheerlegref19.Definer -/
abbrev T_ref19_Definer : Type := Tc16 → Int → (Int → Option Bool) → Option Bool
noncomputable def ref19_Definer.body (ref19_Definer_L0 : T_ref19_Definer_L0) : T_ref19_Definer := fun t167 n168 k1 =>
  (ref19_Definer_L0 n168 (0 : Int) t167
  (fun n177 => (k1 n177))
  (k1 (-1 : Int)))
noncomputable def ref19_Definer : T_ref19_Definer := ref19_Definer.body (ref19_Definer_L0 ROUNDS)
def ref19_Definer.p : FPat := fp 62 (pl (pd Ty22) (pl (pd (.int .i64)) pz)) pz
def ref19_Definer.g (F : T_ref19_Definer) (v : ref19_Definer.p.T) (k : KR) : Option Bool := F v.1.1 v.1.2.1 (fun y0 => k (.d ⟨(.int .i64), y0⟩) [])
theorem ref19_Definer.eq (L0 : T_ref19_Definer_L0) : ∀ v k, exF Try.f62 ref19_Definer.p [] [] [⟨0, ref19_Definer_L0.p, ref19_Definer_L0.g L0⟩] v k = ref19_Definer.g (ref19_Definer.body L0) v k := fun v k => by kernel_rfl
theorem ref19_Definer.ok : okF 3 ref19_Definer.p (ref19_Definer.g ref19_Definer) := fn2 (ref19_Definer.eq (ref19_Definer_L0 ROUNDS)) Try.func62 (by kernel_rfl) .nil [0] (by kernel_rfl) (.cons ref19_Definer_L0.ok .nil)
/-- function 63: the loop in block 0 -/
abbrev T_ref15_Check_L0 : Type := Tc7 → Int → Tc8 → (Int → Option Bool) → (Tc7 → Tc8 → Option Bool) → Option Bool
noncomputable def ref15_Check_L0.body (ref15_Check_L0 : T_ref15_Check_L0) : T_ref15_Check_L0 := fun ts182 n183 t184 k1 k2 =>
  (cond_ (decide (n183 < (((List.length t184.2.1) : Nat) : Int))) (cond_ (t184.1 != (0 : Int)) (cond_ ((decide ((0 : Int) ≤ n183)) && (decide (n183 < (((List.length t184.2.1) : Nat) : Int)))) (cond_ ((List.getD t184.2.1 (Int.toNat n183) (0 : Int)) != (0 : Int)) (k1 (2 : Int)) (ref15_Check_L0 ts182 (IntKind.wrap .i64 (n183 + (1 : Int))) t184 k1 k2)) none) (ref15_Check_L0 ts182 (IntKind.wrap .i64 (n183 + (1 : Int))) t184 k1 k2)) (k2 ts182 t184))
noncomputable def ref15_Check_L0 : Nat → T_ref15_Check_L0
  | 0 => fun _ _ _ _ _ => none
  | n + 1 => ref15_Check_L0.body (ref15_Check_L0 n)
def ref15_Check_L0.p : LPat := lp 2 109 [1, 2, 5] (pl (pb 0 87 Ty9) (ps (pq [1, 0] 0 0) (pl (pd (.int .i64)) pz))) (pl (po [1, 0] 49 3 (es Ty14 (pl eh pz))) pz)
def ref15_Check_L0.g (F : T_ref15_Check_L0) (v : ref15_Check_L0.p.T) (k : KE) : Option Bool := F v.1.1 v.1.2.1 v.2.1.1 (fun y0 => k .ret ⟨fillS 109 [4] [(.d ⟨(.int .i64), y0⟩)], [], 2⟩) (fun y0 y1 => k (.exit 0) ⟨fillS 109 [1, 2] [(.bv 0 87 Ty9 y0), (.ptr [1, 0] 0 0)], [([1, 0], ⟨49, 3, (.data Ty14 [y1])⟩)], 2⟩)
theorem ref15_Check_L0.step (S : T_ref15_Check_L0) : ∀ v k, exR 63 Try.f63 0 ref15_Check_L0.p [] [] [] (ref15_Check_L0.g S) v k = ref15_Check_L0.g (ref15_Check_L0.body S) v k := fun v k => by kernel_rfl
theorem ref15_Check_L0.ok : okL 63 Try.f63 0 0 ref15_Check_L0.p (ref15_Check_L0.g (ref15_Check_L0 ROUNDS)) := loop2 (G := fun n => ref15_Check_L0.g (ref15_Check_L0 n)) (fun n => ref15_Check_L0.step (ref15_Check_L0 n)) .nil [] (by kernel_rfl) .nil (fun _ _ => rfl)
/-- function 63: the loop in block 2 -/
abbrev T_ref15_Check_L2 : Type := Tc7 → Int → Tc8 → (Int → Option Bool) → (Option Bool) → Option Bool
noncomputable def ref15_Check_L2.body (ref15_Check_L2 : T_ref15_Check_L2) : T_ref15_Check_L2 := fun ts188 n189 t190 k1 k2 =>
  (cond_ (decide (n189 < (((List.length t190.2.2.1) : Nat) : Int))) (cond_ ((decide ((0 : Int) ≤ n189)) && (decide (n189 < (((List.length t190.2.2.1) : Nat) : Int)))) (cond_ (! (t190.1 == (0 : Int))) (cond_ (! (decide ((List.getD t190.2.2.1 (Int.toNat n189) (0, (0, (false, ())))).1 < (0 : Int)))) (cond_ (! (decide ((List.getD t190.2.2.1 (Int.toNat n189) (0, (0, (false, ())))).1 ≥ (((List.length t190.2.1) : Nat) : Int)))) (cond_ (decide (n189 > (0 : Int))) (cond_ ((decide ((0 : Int) ≤ (IntKind.wrap .i64 (n189 - (1 : Int))))) && (decide ((IntKind.wrap .i64 (n189 - (1 : Int))) < (((List.length t190.2.2.1) : Nat) : Int)))) (cond_ (! (decide ((List.getD t190.2.2.1 (Int.toNat n189) (0, (0, (false, ())))).1 ≤ (List.getD t190.2.2.1 (Int.toNat (IntKind.wrap .i64 (n189 - (1 : Int)))) (0, (0, (false, ())))).1))) (cond_ (! (decide ((List.getD t190.2.2.1 (Int.toNat n189) (0, (0, (false, ())))).2.1 < (0 : Int)))) (cond_ (decide ((List.getD t190.2.2.1 (Int.toNat n189) (0, (0, (false, ())))).2.1 ≥ (List.length ts188 : Int))) (k1 (11 : Int)) (cond_ ((decide ((0 : Int) ≤ (List.getD t190.2.2.1 (Int.toNat n189) (0, (0, (false, ())))).2.1)) && (decide ((List.getD t190.2.2.1 (Int.toNat n189) (0, (0, (false, ())))).2.1 < (List.length ts188 : Int)))) (cond_ (! ((List.getD ts188 (Int.toNat (List.getD t190.2.2.1 (Int.toNat n189) (0, (0, (false, ())))).2.1) ((⟨#[]⟩ : ByteArray), (false, (0, (0, (0, ())))))).2.2.1 != (1 : Int))) (cond_ ((decide ((0 : Int) ≤ (List.getD t190.2.2.1 (Int.toNat n189) (0, (0, (false, ())))).2.1)) && (decide ((List.getD t190.2.2.1 (Int.toNat n189) (0, (0, (false, ())))).2.1 < (List.length ts188 : Int)))) (cond_ ((List.getD ts188 (Int.toNat (List.getD t190.2.2.1 (Int.toNat n189) (0, (0, (false, ())))).2.1) ((⟨#[]⟩ : ByteArray), (false, (0, (0, (0, ())))))).2.2.2.1 != (IntKind.wrap .i64 (t190.1 - (1 : Int)))) (k1 (8 : Int)) (ref15_Check_L2 ts188 (IntKind.wrap .i64 (n189 + (1 : Int))) t190 k1 k2)) none) (k1 (8 : Int))) none)) (k1 (11 : Int))) (k1 (11 : Int))) none) (cond_ (! (decide ((List.getD t190.2.2.1 (Int.toNat n189) (0, (0, (false, ())))).2.1 < (0 : Int)))) (cond_ (decide ((List.getD t190.2.2.1 (Int.toNat n189) (0, (0, (false, ())))).2.1 ≥ (List.length ts188 : Int))) (k1 (11 : Int)) (cond_ ((decide ((0 : Int) ≤ (List.getD t190.2.2.1 (Int.toNat n189) (0, (0, (false, ())))).2.1)) && (decide ((List.getD t190.2.2.1 (Int.toNat n189) (0, (0, (false, ())))).2.1 < (List.length ts188 : Int)))) (cond_ (! ((List.getD ts188 (Int.toNat (List.getD t190.2.2.1 (Int.toNat n189) (0, (0, (false, ())))).2.1) ((⟨#[]⟩ : ByteArray), (false, (0, (0, (0, ())))))).2.2.1 != (1 : Int))) (cond_ ((decide ((0 : Int) ≤ (List.getD t190.2.2.1 (Int.toNat n189) (0, (0, (false, ())))).2.1)) && (decide ((List.getD t190.2.2.1 (Int.toNat n189) (0, (0, (false, ())))).2.1 < (List.length ts188 : Int)))) (cond_ ((List.getD ts188 (Int.toNat (List.getD t190.2.2.1 (Int.toNat n189) (0, (0, (false, ())))).2.1) ((⟨#[]⟩ : ByteArray), (false, (0, (0, (0, ())))))).2.2.2.1 != (IntKind.wrap .i64 (t190.1 - (1 : Int)))) (k1 (8 : Int)) (ref15_Check_L2 ts188 (IntKind.wrap .i64 (n189 + (1 : Int))) t190 k1 k2)) none) (k1 (8 : Int))) none)) (k1 (11 : Int)))) (k1 (11 : Int))) (k1 (11 : Int))) (k1 (11 : Int))) none) (k2))
noncomputable def ref15_Check_L2 : Nat → T_ref15_Check_L2
  | 0 => fun _ _ _ _ _ => none
  | n + 1 => ref15_Check_L2.body (ref15_Check_L2 n)
def ref15_Check_L2.p : LPat := lp 2 109 [1, 2, 6] (pl (pb 0 87 Ty9) (ps (pq [1, 0] 0 0) (pl (pd (.int .i64)) pz))) (pl (po [1, 0] 49 3 (es Ty14 (pl eh pz))) pz)
def ref15_Check_L2.g (F : T_ref15_Check_L2) (v : ref15_Check_L2.p.T) (k : KE) : Option Bool := F v.1.1 v.1.2.1 v.2.1.1 (fun y0 => k .ret ⟨fillS 109 [4] [(.d ⟨(.int .i64), y0⟩)], [], 2⟩) (k (.exit 2) ⟨fillS 109 [] [], [], 2⟩)
theorem ref15_Check_L2.step (S : T_ref15_Check_L2) : ∀ v k, exR 63 Try.f63 2 ref15_Check_L2.p [] [] [] (ref15_Check_L2.g S) v k = ref15_Check_L2.g (ref15_Check_L2.body S) v k := fun v k => by kernel_rfl
theorem ref15_Check_L2.ok : okL 63 Try.f63 0 2 ref15_Check_L2.p (ref15_Check_L2.g (ref15_Check_L2 ROUNDS)) := loop2 (G := fun n => ref15_Check_L2.g (ref15_Check_L2 n)) (fun n => ref15_Check_L2.step (ref15_Check_L2 n)) .nil [] (by kernel_rfl) .nil (fun _ _ => rfl)
/-- function 63: sheerleg/sheerlegref15.Check -/
abbrev T_ref15_Check : Type := Tc8 → Tc7 → (Int → Option Bool) → Option Bool
noncomputable def ref15_Check.body (ref05_Text : T_ref05_Text) (ref15_Check_L0 : T_ref15_Check_L0) (ref15_Check_L2 : T_ref15_Check_L2) : T_ref15_Check := fun t179 ts180 k1 =>
  (ref05_Text t179.1
  (fun s181 => (cond_ ((ByteArray.toList s181) == (ByteArray.toList (⟨#[]⟩ : ByteArray))) (k1 (8 : Int)) (cond_ (decide ((((List.length t179.2.1) : Nat) : Int) > (32 : Int))) (k1 (6 : Int)) (ref15_Check_L0 ts180 (0 : Int) t179
  (fun n185 => (k1 n185))
  (fun ts186 t187 => (ref15_Check_L2 ts186 (0 : Int) t187
  (fun n191 => (k1 n191))
  (k1 (0 : Int)))))))))
noncomputable def ref15_Check : T_ref15_Check := ref15_Check.body ref05_Text (ref15_Check_L0 ROUNDS) (ref15_Check_L2 ROUNDS)
def ref15_Check.p : FPat := fp 63 (pl (pd Ty14) (pl (pb 0 87 Ty9) pz)) pz
def ref15_Check.g (F : T_ref15_Check) (v : ref15_Check.p.T) (k : KR) : Option Bool := F v.1.1 v.1.2.1 (fun y0 => k (.d ⟨(.int .i64), y0⟩) [])
theorem ref15_Check.eq (F0 : T_ref05_Text) (L0 : T_ref15_Check_L0) (L1 : T_ref15_Check_L2) : ∀ v k, exF Try.f63 ref15_Check.p [⟨ref05_Text.p, ref05_Text.g F0⟩] [] [⟨0, ref15_Check_L0.p, ref15_Check_L0.g L0⟩, ⟨2, ref15_Check_L2.p, ref15_Check_L2.g L1⟩] v k = ref15_Check.g (ref15_Check.body F0 L0 L1) v k := fun v k => by kernel_rfl
theorem ref15_Check.ok : okF 4 ref15_Check.p (ref15_Check.g ref15_Check) := fn2 (ref15_Check.eq ref05_Text (ref15_Check_L0 ROUNDS) (ref15_Check_L2 ROUNDS)) Try.func63 (by kernel_rfl) (.cons ref05_Text.ok .nil) [0, 2] (by kernel_rfl) (.cons ref15_Check_L0.ok (.cons ref15_Check_L2.ok .nil))
/-- function 87: sheerleg/sheerlegref05.Params -/
abbrev T_ref05_Params : Type := Int → (Int → Option Bool) → Option Bool
noncomputable def ref05_Params.body (ref05_Is : T_ref05_Is) : T_ref05_Params := fun n198 k1 =>
  (ref05_Is n198
  (fun b199 => (cond_ (! b199) (k1 (0 : Int)) (k1 (IntKind.wrap .i64 (Int.tdiv n198 (2 : Int)))))))
noncomputable def ref05_Params : T_ref05_Params := ref05_Params.body ref05_Is
def ref05_Params.p : FPat := fp 87 (pl (pd (.int .i64)) pz) pz
def ref05_Params.g (F : T_ref05_Params) (v : ref05_Params.p.T) (k : KR) : Option Bool := F v.1.1 (fun y0 => k (.d ⟨(.int .i64), y0⟩) [])
theorem ref05_Params.eq (F0 : T_ref05_Is) : ∀ v k, exF Try.f87 ref05_Params.p [⟨ref05_Is.p, ref05_Is.g F0⟩] [] [] v k = ref05_Params.g (ref05_Params.body F0) v k := fun v k => by kernel_rfl
theorem ref05_Params.ok : okF 2 ref05_Params.p (ref05_Params.g ref05_Params) := fn2 (ref05_Params.eq ref05_Is) Try.func87 (by kernel_rfl) (.cons ref05_Is.ok .nil) [] (by kernel_rfl) .nil
/-- function 76: the loop in block 0 -/
abbrev T_ref16_slots_L0 : Type := Int → Tc12 → (Int → Option Bool) → (Option Bool) → Option Bool
noncomputable def ref16_slots_L0.body (ref16_slots_L0 : T_ref16_slots_L0) (ref05_Text : T_ref05_Text) (ref05_Params : T_ref05_Params) : T_ref16_slots_L0 := fun n201 t202 k1 k2 =>
  (cond_ (decide (n201 < (((List.length t202.2.1) : Nat) : Int))) (cond_ ((decide ((0 : Int) ≤ n201)) && (decide (n201 < (((List.length t202.2.1) : Nat) : Int)))) (ref05_Text (List.getD t202.2.1 (Int.toNat n201) (0 : Int))
  (fun s203 => (cond_ (! ((ByteArray.toList s203) == (ByteArray.toList (⟨#[]⟩ : ByteArray)))) (ref05_Params t202.1
  (fun n204 => (cond_ (decide (n201 < n204)) (cond_ ((decide ((0 : Int) ≤ n201)) && (decide (n201 < (((List.length t202.2.1) : Nat) : Int)))) (cond_ ((List.getD t202.2.1 (Int.toNat n201) (0 : Int)) != (0 : Int)) (k1 (8 : Int)) (ref16_slots_L0 (IntKind.wrap .i64 (n201 + (1 : Int))) t202 k1 k2)) none) (ref16_slots_L0 (IntKind.wrap .i64 (n201 + (1 : Int))) t202 k1 k2)))) (k1 (8 : Int))))) none) (k2))
noncomputable def ref16_slots_L0 : Nat → T_ref16_slots_L0
  | 0 => fun _ _ _ _ => none
  | n + 1 => ref16_slots_L0.body (ref16_slots_L0 n) ref05_Text ref05_Params
def ref16_slots_L0.p : LPat := lp 2 48 [1, 3] (ps (pq [1, 0] 0 0) (pl (pd (.int .i64)) pz)) (pl (po [1, 0] 71 9 (es Ty18 (pl eh pz))) pz)
def ref16_slots_L0.g (F : T_ref16_slots_L0) (v : ref16_slots_L0.p.T) (k : KE) : Option Bool := F v.1.1 v.2.1.1 (fun y0 => k .ret ⟨fillS 48 [2] [(.d ⟨(.int .i64), y0⟩)], [], 2⟩) (k (.exit 0) ⟨fillS 48 [] [], [], 2⟩)
theorem ref16_slots_L0.step (S : T_ref16_slots_L0) (F0 : T_ref05_Text) (F1 : T_ref05_Params) : ∀ v k, exR 76 Try.f76 0 ref16_slots_L0.p [⟨ref05_Text.p, ref05_Text.g F0⟩, ⟨ref05_Params.p, ref05_Params.g F1⟩] [] [] (ref16_slots_L0.g S) v k = ref16_slots_L0.g (ref16_slots_L0.body S F0 F1) v k := fun v k => by kernel_rfl
theorem ref16_slots_L0.ok : okL 76 Try.f76 3 0 ref16_slots_L0.p (ref16_slots_L0.g (ref16_slots_L0 ROUNDS)) := loop2 (G := fun n => ref16_slots_L0.g (ref16_slots_L0 n)) (fun n => ref16_slots_L0.step (ref16_slots_L0 n) ref05_Text ref05_Params) (.cons ref05_Text.ok (.cons ref05_Params.ok .nil)) [] (by kernel_rfl) .nil (fun _ _ => rfl)
/-- function 76: sheerleg/sheerlegref16.slots -/
abbrev T_ref16_slots : Type := Tc12 → (Int → Option Bool) → Option Bool
noncomputable def ref16_slots.body (ref05_Is : T_ref05_Is) (ref05_Params : T_ref05_Params) (ref16_slots_L0 : T_ref16_slots_L0) : T_ref16_slots := fun t196 k1 =>
  (ref05_Is t196.1
  (fun b197 => (cond_ (! b197) (k1 (14 : Int)) (cond_ (decide ((((List.length t196.2.1) : Nat) : Int) > (16 : Int))) (k1 (6 : Int)) (ref05_Params t196.1
  (fun n200 => (cond_ (decide ((((List.length t196.2.1) : Nat) : Int) < n200)) (k1 (2 : Int)) (ref16_slots_L0 (0 : Int) t196
  (fun n205 => (k1 n205))
  (k1 (0 : Int))))))))))
noncomputable def ref16_slots : T_ref16_slots := ref16_slots.body ref05_Is ref05_Params (ref16_slots_L0 ROUNDS)
def ref16_slots.p : FPat := fp 76 (pl (pd Ty18) pz) pz
def ref16_slots.g (F : T_ref16_slots) (v : ref16_slots.p.T) (k : KR) : Option Bool := F v.1.1 (fun y0 => k (.d ⟨(.int .i64), y0⟩) [])
theorem ref16_slots.eq (F0 : T_ref05_Is) (F1 : T_ref05_Params) (L0 : T_ref16_slots_L0) : ∀ v k, exF Try.f76 ref16_slots.p [⟨ref05_Is.p, ref05_Is.g F0⟩, ⟨ref05_Params.p, ref05_Params.g F1⟩] [] [⟨0, ref16_slots_L0.p, ref16_slots_L0.g L0⟩] v k = ref16_slots.g (ref16_slots.body F0 F1 L0) v k := fun v k => by kernel_rfl
theorem ref16_slots.ok : okF 4 ref16_slots.p (ref16_slots.g ref16_slots) := fn2 (ref16_slots.eq ref05_Is ref05_Params (ref16_slots_L0 ROUNDS)) Try.func76 (by kernel_rfl) (.cons ref05_Is.ok (.cons ref05_Params.ok .nil)) [0] (by kernel_rfl) (.cons ref16_slots_L0.ok .nil)
/-- function 100: sheerleg/sheerlegref07.names -/
abbrev T_ref07_names : Type := ((List ByteArray) → Option Bool) → Option Bool
noncomputable def ref07_names.body : T_ref07_names := fun k1 =>
  (k1 [(⟨#[110, 111, 112]⟩ : ByteArray), (⟨#[115, 101, 116]⟩ : ByteArray), (⟨#[109, 111, 118, 101]⟩ : ByteArray), (⟨#[97, 100, 100]⟩ : ByteArray), (⟨#[115, 117, 98]⟩ : ByteArray), (⟨#[109, 117, 108]⟩ : ByteArray), (⟨#[100, 105, 118]⟩ : ByteArray), (⟨#[109, 111, 100]⟩ : ByteArray), (⟨#[108, 101, 115, 115]⟩ : ByteArray), (⟨#[115, 97, 109, 101]⟩ : ByteArray), (⟨#[106, 117, 109, 112]⟩ : ByteArray), (⟨#[122, 101, 114, 111]⟩ : ByteArray), (⟨#[105, 110]⟩ : ByteArray), (⟨#[111, 117, 116]⟩ : ByteArray), (⟨#[108, 111, 97, 100]⟩ : ByteArray), (⟨#[115, 116, 111, 114, 101]⟩ : ByteArray), (⟨#[102, 117, 110, 99]⟩ : ByteArray), (⟨#[112, 105, 99, 107]⟩ : ByteArray), (⟨#[99, 97, 108, 108]⟩ : ByteArray), (⟨#[118, 105, 97]⟩ : ByteArray), (⟨#[100, 101, 102, 101, 114]⟩ : ByteArray), (⟨#[112, 97, 110, 105, 99]⟩ : ByteArray), (⟨#[114, 101, 99, 111, 118, 101, 114]⟩ : ByteArray), (⟨#[114, 101, 116, 117, 114, 110]⟩ : ByteArray), (⟨#[99, 104, 101, 99, 107]⟩ : ByteArray), (⟨#[101, 110, 116, 101, 114]⟩ : ByteArray), (⟨#[98, 111, 116, 116, 111, 109]⟩ : ByteArray), (⟨#[100, 114, 105, 118, 101, 114]⟩ : ByteArray)])
noncomputable def ref07_names : T_ref07_names := ref07_names.body
def ref07_names.p : FPat := fp 100 pz pz
def ref07_names.g (F : T_ref07_names) (v : ref07_names.p.T) (k : KR) : Option Bool := F (fun y0 => k (.ref [1, 0]) [([1, 0], ⟨9, 1, (.data .str y0)⟩)])
theorem ref07_names.eq : ∀ v k, exF Try.f100 ref07_names.p [] [] [] v k = ref07_names.g (ref07_names.body) v k := fun v k => by kernel_rfl
theorem ref07_names.ok : okF 1 ref07_names.p (ref07_names.g ref07_names) := fn2 (ref07_names.eq) Try.func100 (by kernel_rfl) .nil [] (by kernel_rfl) .nil
/-- function 94: sheerleg/sheerlegref07.Name -/
abbrev T_ref07_Name : Type := Int → (ByteArray → Option Bool) → Option Bool
noncomputable def ref07_Name.body (ref07_names : T_ref07_names) : T_ref07_Name := fun n214 k1 =>
  (ref07_names
  (fun ss215 => (cond_ (! (decide (n214 < (1 : Int)))) (cond_ (decide (n214 > (List.length ss215 : Int))) (k1 (⟨#[]⟩ : ByteArray)) (cond_ ((decide ((0 : Int) ≤ (IntKind.wrap .i64 (n214 - (1 : Int))))) && (decide ((IntKind.wrap .i64 (n214 - (1 : Int))) < (List.length ss215 : Int)))) (k1 (List.getD ss215 (Int.toNat (IntKind.wrap .i64 (n214 - (1 : Int)))) (⟨#[]⟩ : ByteArray))) none)) (k1 (⟨#[]⟩ : ByteArray)))))
noncomputable def ref07_Name : T_ref07_Name := ref07_Name.body ref07_names
def ref07_Name.p : FPat := fp 94 (pl (pd (.int .i64)) pz) pz
def ref07_Name.g (F : T_ref07_Name) (v : ref07_Name.p.T) (k : KR) : Option Bool := F v.1.1 (fun y0 => k (.d ⟨.str, y0⟩) [])
theorem ref07_Name.eq (F0 : T_ref07_names) : ∀ v k, exF Try.f94 ref07_Name.p [⟨ref07_names.p, ref07_names.g F0⟩] [] [] v k = ref07_Name.g (ref07_Name.body F0) v k := fun v k => by kernel_rfl
theorem ref07_Name.ok : okF 2 ref07_Name.p (ref07_Name.g ref07_Name) := fn2 (ref07_Name.eq ref07_names) Try.func94 (by kernel_rfl) (.cons ref07_names.ok .nil) [] (by kernel_rfl) .nil
/-- function 99: sheerleg/sheerlegref07.Ends -/
abbrev T_ref07_Ends : Type := Int → (Bool → Option Bool) → Option Bool
noncomputable def ref07_Ends.body (ref07_Name : T_ref07_Name) : T_ref07_Ends := fun n213 k1 =>
  (ref07_Name n213
  (fun s216 => (cond_ (! ((ByteArray.toList s216) == (ByteArray.toList (⟨#[106, 117, 109, 112]⟩ : ByteArray)))) (ref07_Name n213
  (fun s217 => (cond_ (! ((ByteArray.toList s217) == (ByteArray.toList (⟨#[112, 97, 110, 105, 99]⟩ : ByteArray)))) (ref07_Name n213
  (fun s218 => (k1 ((ByteArray.toList s218) == (ByteArray.toList (⟨#[114, 101, 116, 117, 114, 110]⟩ : ByteArray)))))) (k1 true)))) (k1 true))))
noncomputable def ref07_Ends : T_ref07_Ends := ref07_Ends.body ref07_Name
def ref07_Ends.p : FPat := fp 99 (pl (pd (.int .i64)) pz) pz
def ref07_Ends.g (F : T_ref07_Ends) (v : ref07_Ends.p.T) (k : KR) : Option Bool := F v.1.1 (fun y0 => k (.d ⟨.bool, y0⟩) [])
theorem ref07_Ends.eq (F0 : T_ref07_Name) : ∀ v k, exF Try.f99 ref07_Ends.p [⟨ref07_Name.p, ref07_Name.g F0⟩] [] [] v k = ref07_Ends.g (ref07_Ends.body F0) v k := fun v k => by kernel_rfl
theorem ref07_Ends.ok : okF 3 ref07_Ends.p (ref07_Ends.g ref07_Ends) := fn2 (ref07_Ends.eq ref07_Name) Try.func99 (by kernel_rfl) (.cons ref07_Name.ok .nil) [] (by kernel_rfl) .nil
/-- function 84: sheerleg/sheerlegref14.Next -/
abbrev T_ref14_Next : Type := Tc5 → Int → ((List Int) → Option Bool) → Option Bool
noncomputable def ref14_Next.body (ref07_Ends : T_ref07_Ends) : T_ref14_Next := fun ts211 n212 k1 =>
  (cond_ (! (decide (n212 < (0 : Int)))) (cond_ (decide (n212 ≥ (List.length ts211 : Int))) (k1 []) (cond_ ((decide ((0 : Int) ≤ n212)) && (decide (n212 < (List.length ts211 : Int)))) (cond_ ((List.getD ts211 (Int.toNat n212) (0, (0, (0, (0, (0, ())))))).1 == (11 : Int)) (k1 [(List.getD ts211 (Int.toNat n212) (0, (0, (0, (0, (0, ())))))).2.2.2.2.1]) (ref07_Ends (List.getD ts211 (Int.toNat n212) (0, (0, (0, (0, (0, ())))))).1
  (fun b219 => (cond_ b219 (k1 []) (cond_ (! ((List.getD ts211 (Int.toNat n212) (0, (0, (0, (0, (0, ())))))).1 != (12 : Int))) (cond_ ((List.getD ts211 (Int.toNat n212) (0, (0, (0, (0, (0, ())))))).2.2.2.2.1 == (IntKind.wrap .i64 (n212 + (1 : Int)))) (k1 [(IntKind.wrap .i64 (n212 + (1 : Int)))]) (cond_ (decide ((List.getD ts211 (Int.toNat n212) (0, (0, (0, (0, (0, ())))))).2.2.2.2.1 < (IntKind.wrap .i64 (n212 + (1 : Int))))) (k1 [(List.getD ts211 (Int.toNat n212) (0, (0, (0, (0, (0, ())))))).2.2.2.2.1, (IntKind.wrap .i64 (n212 + (1 : Int)))]) (k1 [(IntKind.wrap .i64 (n212 + (1 : Int))), (List.getD ts211 (Int.toNat n212) (0, (0, (0, (0, (0, ())))))).2.2.2.2.1]))) (k1 [(IntKind.wrap .i64 (n212 + (1 : Int)))])))))) none)) (k1 []))
noncomputable def ref14_Next : T_ref14_Next := ref14_Next.body ref07_Ends
def ref14_Next.p : FPat := fp 84 (pl (pb 0 91 Ty11) (pl (pd (.int .i64)) pz)) pz
def ref14_Next.g (F : T_ref14_Next) (v : ref14_Next.p.T) (k : KR) : Option Bool := F v.1.1 v.1.2.1 (fun y0 => k (.ref [1, 0]) [([1, 0], ⟨3, 1, (.data (.int .i64) y0)⟩)])
theorem ref14_Next.eq (F0 : T_ref07_Ends) : ∀ v k, exF Try.f84 ref14_Next.p [⟨ref07_Ends.p, ref07_Ends.g F0⟩] [] [] v k = ref14_Next.g (ref14_Next.body F0) v k := fun v k => by kernel_rfl
theorem ref14_Next.ok : okF 4 ref14_Next.p (ref14_Next.g ref14_Next) := fn2 (ref14_Next.eq ref07_Ends) Try.func84 (by kernel_rfl) (.cons ref07_Ends.ok .nil) [] (by kernel_rfl) .nil
/-- function 88: the loop in block 2 -/
abbrev T_ref14_Check_L0_L2 : Type := Tc5 → Int → Int → (List Int) → (Int → Option Bool) → (Tc5 → Int → Option Bool) → Option Bool
noncomputable def ref14_Check_L0_L2.body (ref14_Check_L0_L2 : T_ref14_Check_L0_L2) : T_ref14_Check_L0_L2 := fun ts221 n222 n223 ns224 k1 k2 =>
  (cond_ (decide (n223 < (List.length ns224 : Int))) (cond_ ((decide ((0 : Int) ≤ n223)) && (decide (n223 < (List.length ns224 : Int)))) (cond_ (! (decide ((List.getD ns224 (Int.toNat n223) (0 : Int)) < (0 : Int)))) (cond_ ((decide ((0 : Int) ≤ n223)) && (decide (n223 < (List.length ns224 : Int)))) (cond_ (decide ((List.getD ns224 (Int.toNat n223) (0 : Int)) ≥ (List.length ts221 : Int))) (k1 (10 : Int)) (ref14_Check_L0_L2 ts221 n222 (IntKind.wrap .i64 (n223 + (1 : Int))) ns224 k1 k2)) none) (k1 (10 : Int))) none) (k2 ts221 n222))
noncomputable def ref14_Check_L0_L2 : Nat → T_ref14_Check_L0_L2
  | 0 => fun _ _ _ _ _ _ => none
  | n + 1 => ref14_Check_L0_L2.body (ref14_Check_L0_L2 n)
def ref14_Check_L0_L2.p : LPat := lp 2 41 [0, 3, 4, 5] (pl (pb 0 91 Ty11) (pl (pd (.int .i64)) (ps (pr [1, 0]) (pl (pd (.int .i64)) pz)))) (pl (po [1, 0] 3 1 (ed (.int .i64))) pz)
def ref14_Check_L0_L2.g (F : T_ref14_Check_L0_L2) (v : ref14_Check_L0_L2.p.T) (k : KE) : Option Bool := F v.1.1 v.1.2.1 v.1.2.2.1 v.2.1 (fun y0 => k .ret ⟨fillS 41 [2] [(.d ⟨(.int .i64), y0⟩)], [], 2⟩) (fun y0 y1 => k (.exit 2) ⟨fillS 41 [0, 3] [(.bv 0 91 Ty11 y0), (.d ⟨(.int .i64), y1⟩)], [], 2⟩)
theorem ref14_Check_L0_L2.step (S : T_ref14_Check_L0_L2) : ∀ v k, exR 88 Try.f88 2 ref14_Check_L0_L2.p [] [] [] (ref14_Check_L0_L2.g S) v k = ref14_Check_L0_L2.g (ref14_Check_L0_L2.body S) v k := fun v k => by kernel_rfl
theorem ref14_Check_L0_L2.ok : okL 88 Try.f88 0 2 ref14_Check_L0_L2.p (ref14_Check_L0_L2.g (ref14_Check_L0_L2 ROUNDS)) := loop2 (G := fun n => ref14_Check_L0_L2.g (ref14_Check_L0_L2 n)) (fun n => ref14_Check_L0_L2.step (ref14_Check_L0_L2 n)) .nil [] (by kernel_rfl) .nil (fun _ _ => rfl)
/-- function 88: the loop in block 0 -/
abbrev T_ref14_Check_L0 : Type := Tc5 → Int → (Int → Option Bool) → (Option Bool) → Option Bool
noncomputable def ref14_Check_L0.body (ref14_Check_L0 : T_ref14_Check_L0) (ref14_Next : T_ref14_Next) (ref14_Check_L0_L2 : T_ref14_Check_L0_L2) : T_ref14_Check_L0 := fun ts209 n210 k1 k2 =>
  (cond_ (decide (n210 < (List.length ts209 : Int))) (ref14_Next ts209 n210
  (fun ns220 => (ref14_Check_L0_L2 ts209 n210 (0 : Int) ns220
  (fun n225 => (k1 n225))
  (fun ts226 n227 => (ref14_Check_L0 ts226 (IntKind.wrap .i64 (n227 + (1 : Int))) k1 k2))))) (k2))
noncomputable def ref14_Check_L0 : Nat → T_ref14_Check_L0
  | 0 => fun _ _ _ _ => none
  | n + 1 => ref14_Check_L0.body (ref14_Check_L0 n) ref14_Next (ref14_Check_L0_L2 ROUNDS)
def ref14_Check_L0.p : LPat := lp 2 41 [0, 3] (pl (pb 0 91 Ty11) (pl (pd (.int .i64)) pz)) pz
def ref14_Check_L0.g (F : T_ref14_Check_L0) (v : ref14_Check_L0.p.T) (k : KE) : Option Bool := F v.1.1 v.1.2.1 (fun y0 => k .ret ⟨fillS 41 [2] [(.d ⟨(.int .i64), y0⟩)], [], 2⟩) (k (.exit 0) ⟨fillS 41 [] [], [], 2⟩)
theorem ref14_Check_L0.step (S : T_ref14_Check_L0) (F0 : T_ref14_Next) (L0 : T_ref14_Check_L0_L2) : ∀ v k, exR 88 Try.f88 0 ref14_Check_L0.p [⟨ref14_Next.p, ref14_Next.g F0⟩] [] [⟨2, ref14_Check_L0_L2.p, ref14_Check_L0_L2.g L0⟩] (ref14_Check_L0.g S) v k = ref14_Check_L0.g (ref14_Check_L0.body S F0 L0) v k := fun v k => by kernel_rfl
theorem ref14_Check_L0.ok : okL 88 Try.f88 4 0 ref14_Check_L0.p (ref14_Check_L0.g (ref14_Check_L0 ROUNDS)) := loop2 (G := fun n => ref14_Check_L0.g (ref14_Check_L0 n)) (fun n => ref14_Check_L0.step (ref14_Check_L0 n) ref14_Next (ref14_Check_L0_L2 ROUNDS)) (.cons ref14_Next.ok .nil) [2] (by kernel_rfl) (.cons ref14_Check_L0_L2.ok .nil) (fun _ _ => rfl)
/-- function 88: sheerleg/sheerlegref14.Check -/
abbrev T_ref14_Check : Type := Tc5 → (Int → Option Bool) → Option Bool
noncomputable def ref14_Check.body (ref14_Check_L0 : T_ref14_Check_L0) : T_ref14_Check := fun ts208 k1 =>
  (cond_ ((List.length ts208 : Int) == (0 : Int)) (k1 (3 : Int)) (cond_ (decide ((List.length ts208 : Int) > (64 : Int))) (k1 (6 : Int)) (ref14_Check_L0 ts208 (0 : Int)
  (fun n228 => (k1 n228))
  (k1 (0 : Int)))))
noncomputable def ref14_Check : T_ref14_Check := ref14_Check.body (ref14_Check_L0 ROUNDS)
def ref14_Check.p : FPat := fp 88 (pl (pb 0 91 Ty11) pz) pz
def ref14_Check.g (F : T_ref14_Check) (v : ref14_Check.p.T) (k : KR) : Option Bool := F v.1.1 (fun y0 => k (.d ⟨(.int .i64), y0⟩) [])
theorem ref14_Check.eq (L0 : T_ref14_Check_L0) : ∀ v k, exF Try.f88 ref14_Check.p [] [] [⟨0, ref14_Check_L0.p, ref14_Check_L0.g L0⟩] v k = ref14_Check.g (ref14_Check.body L0) v k := fun v k => by kernel_rfl
theorem ref14_Check.ok : okF 5 ref14_Check.p (ref14_Check.g ref14_Check) := fn2 (ref14_Check.eq (ref14_Check_L0 ROUNDS)) Try.func88 (by kernel_rfl) .nil [0] (by kernel_rfl) (.cons ref14_Check_L0.ok .nil)
/-- function 83: sheerleg/sheerlegref08.Operand -/
abbrev T_ref08_Operand : Type := Tc2 → Int → (Int → Option Bool) → Option Bool
noncomputable def ref08_Operand.body : T_ref08_Operand := fun t236 n237 k1 =>
  (cond_ (n237 == (0 : Int)) (k1 t236.2.1) (cond_ (n237 == (1 : Int)) (k1 t236.2.2.1) (cond_ (n237 == (2 : Int)) (k1 t236.2.2.2.1) (cond_ (n237 == (3 : Int)) (k1 t236.2.2.2.2.1) (k1 (0 : Int))))))
noncomputable def ref08_Operand : T_ref08_Operand := ref08_Operand.body
def ref08_Operand.p : FPat := fp 83 (pl (pd Ty11) (pl (pd (.int .i64)) pz)) pz
def ref08_Operand.g (F : T_ref08_Operand) (v : ref08_Operand.p.T) (k : KR) : Option Bool := F v.1.1 v.1.2.1 (fun y0 => k (.d ⟨(.int .i64), y0⟩) [])
theorem ref08_Operand.eq : ∀ v k, exF Try.f83 ref08_Operand.p [] [] [] v k = ref08_Operand.g (ref08_Operand.body) v k := fun v k => by kernel_rfl
theorem ref08_Operand.ok : okF 1 ref08_Operand.p (ref08_Operand.g ref08_Operand) := fn2 (ref08_Operand.eq) Try.func83 (by kernel_rfl) .nil [] (by kernel_rfl) .nil
/-- function 89: the loop in block 0 -/
abbrev T_ref08_Check_L0 : Type := Int → Tc2 → (Int → Option Bool) → (Tc2 → Option Bool) → Option Bool
noncomputable def ref08_Check_L0.body (ref08_Check_L0 : T_ref08_Check_L0) (ref08_Operand : T_ref08_Operand) : T_ref08_Check_L0 := fun n234 t235 k1 k2 =>
  (cond_ (decide (n234 < (3 : Int))) (ref08_Operand t235 n234
  (fun n238 => (cond_ (! (decide (n238 < (0 : Int)))) (ref08_Operand t235 n234
  (fun n239 => (cond_ (decide (n239 > (255 : Int))) (k1 (9 : Int)) (ref08_Check_L0 (IntKind.wrap .i64 (n234 + (1 : Int))) t235 k1 k2)))) (k1 (9 : Int))))) (k2 t235))
noncomputable def ref08_Check_L0 : Nat → T_ref08_Check_L0
  | 0 => fun _ _ _ _ => none
  | n + 1 => ref08_Check_L0.body (ref08_Check_L0 n) ref08_Operand
def ref08_Check_L0.p : LPat := lp 2 51 [1, 3] (ps (pq [1, 0] 0 0) (pl (pd (.int .i64)) pz)) (pl (po [1, 0] 91 5 (es Ty11 (pl eh pz))) pz)
def ref08_Check_L0.g (F : T_ref08_Check_L0) (v : ref08_Check_L0.p.T) (k : KE) : Option Bool := F v.1.1 v.2.1.1 (fun y0 => k .ret ⟨fillS 51 [2] [(.d ⟨(.int .i64), y0⟩)], [], 2⟩) (fun y0 => k (.exit 0) ⟨fillS 51 [1] [(.ptr [1, 0] 0 0)], [([1, 0], ⟨91, 5, (.data Ty11 [y0])⟩)], 2⟩)
theorem ref08_Check_L0.step (S : T_ref08_Check_L0) (F0 : T_ref08_Operand) : ∀ v k, exR 89 Try.f89 0 ref08_Check_L0.p [⟨ref08_Operand.p, ref08_Operand.g F0⟩] [] [] (ref08_Check_L0.g S) v k = ref08_Check_L0.g (ref08_Check_L0.body S F0) v k := fun v k => by kernel_rfl
theorem ref08_Check_L0.ok : okL 89 Try.f89 1 0 ref08_Check_L0.p (ref08_Check_L0.g (ref08_Check_L0 ROUNDS)) := loop2 (G := fun n => ref08_Check_L0.g (ref08_Check_L0 n)) (fun n => ref08_Check_L0.step (ref08_Check_L0 n) ref08_Operand) (.cons ref08_Operand.ok .nil) [] (by kernel_rfl) .nil (fun _ _ => rfl)
/-- function 81: sheerleg/sheerlegref07.Shape -/
abbrev T_ref07_Shape : Type := Int → (ByteArray → Option Bool) → Option Bool
noncomputable def ref07_Shape.body (ref07_Name : T_ref07_Name) : T_ref07_Shape := fun n242 k1 =>
  (cond_ (decide (n242 ≥ (4 : Int))) (cond_ (decide (n242 ≤ (10 : Int))) (k1 (⟨#[119, 114, 114, 45]⟩ : ByteArray)) (ref07_Name n242
  (fun s243 => (cond_ ((ByteArray.toList s243) == (ByteArray.toList (⟨#[110, 111, 112]⟩ : ByteArray))) (k1 (⟨#[45, 45, 45, 45]⟩ : ByteArray)) (cond_ ((ByteArray.toList s243) == (ByteArray.toList (⟨#[115, 101, 116]⟩ : ByteArray))) (k1 (⟨#[119, 45, 45, 110]⟩ : ByteArray)) (cond_ ((ByteArray.toList s243) == (ByteArray.toList (⟨#[109, 111, 118, 101]⟩ : ByteArray))) (cond_ ((ByteArray.toList s243) == (ByteArray.toList (⟨#[109, 111, 118, 101]⟩ : ByteArray))) (k1 (⟨#[119, 114, 45, 45]⟩ : ByteArray)) (cond_ ((ByteArray.toList s243) == (ByteArray.toList (⟨#[106, 117, 109, 112]⟩ : ByteArray))) (k1 (⟨#[45, 45, 45, 116]⟩ : ByteArray)) (cond_ ((ByteArray.toList s243) == (ByteArray.toList (⟨#[122, 101, 114, 111]⟩ : ByteArray))) (k1 (⟨#[114, 45, 45, 116]⟩ : ByteArray)) (cond_ ((ByteArray.toList s243) == (ByteArray.toList (⟨#[105, 110]⟩ : ByteArray))) (k1 (⟨#[119, 45, 45, 45]⟩ : ByteArray)) (cond_ ((ByteArray.toList s243) == (ByteArray.toList (⟨#[111, 117, 116]⟩ : ByteArray))) (cond_ ((ByteArray.toList s243) == (ByteArray.toList (⟨#[111, 117, 116]⟩ : ByteArray))) (k1 (⟨#[114, 45, 45, 45]⟩ : ByteArray)) (cond_ ((ByteArray.toList s243) == (ByteArray.toList (⟨#[115, 116, 111, 114, 101]⟩ : ByteArray))) (k1 (⟨#[114, 114, 45, 45]⟩ : ByteArray)) (cond_ ((ByteArray.toList s243) == (ByteArray.toList (⟨#[102, 117, 110, 99]⟩ : ByteArray))) (k1 (⟨#[103, 45, 45, 45]⟩ : ByteArray)) (cond_ ((ByteArray.toList s243) == (ByteArray.toList (⟨#[112, 105, 99, 107]⟩ : ByteArray))) (k1 (⟨#[103, 114, 45, 45]⟩ : ByteArray)) (cond_ ((ByteArray.toList s243) == (ByteArray.toList (⟨#[99, 97, 108, 108]⟩ : ByteArray))) (k1 (⟨#[99, 45, 45, 45]⟩ : ByteArray)) (cond_ ((ByteArray.toList s243) == (ByteArray.toList (⟨#[118, 105, 97]⟩ : ByteArray))) (k1 (⟨#[99, 102, 107, 45]⟩ : ByteArray)) (cond_ ((ByteArray.toList s243) == (ByteArray.toList (⟨#[100, 101, 102, 101, 114]⟩ : ByteArray))) (k1 (⟨#[100, 45, 45, 45]⟩ : ByteArray)) (cond_ ((ByteArray.toList s243) == (ByteArray.toList (⟨#[114, 101, 99, 111, 118, 101, 114]⟩ : ByteArray))) (k1 (⟨#[119, 119, 45, 45]⟩ : ByteArray)) (cond_ ((ByteArray.toList s243) == (ByteArray.toList (⟨#[114, 101, 116, 117, 114, 110]⟩ : ByteArray))) (k1 (⟨#[118, 45, 45, 45]⟩ : ByteArray)) (k1 (⟨#[]⟩ : ByteArray))))))))))) (cond_ ((ByteArray.toList s243) == (ByteArray.toList (⟨#[112, 97, 110, 105, 99]⟩ : ByteArray))) (k1 (⟨#[114, 45, 45, 45]⟩ : ByteArray)) (cond_ ((ByteArray.toList s243) == (ByteArray.toList (⟨#[115, 116, 111, 114, 101]⟩ : ByteArray))) (k1 (⟨#[114, 114, 45, 45]⟩ : ByteArray)) (cond_ ((ByteArray.toList s243) == (ByteArray.toList (⟨#[102, 117, 110, 99]⟩ : ByteArray))) (k1 (⟨#[103, 45, 45, 45]⟩ : ByteArray)) (cond_ ((ByteArray.toList s243) == (ByteArray.toList (⟨#[112, 105, 99, 107]⟩ : ByteArray))) (k1 (⟨#[103, 114, 45, 45]⟩ : ByteArray)) (cond_ ((ByteArray.toList s243) == (ByteArray.toList (⟨#[99, 97, 108, 108]⟩ : ByteArray))) (k1 (⟨#[99, 45, 45, 45]⟩ : ByteArray)) (cond_ ((ByteArray.toList s243) == (ByteArray.toList (⟨#[118, 105, 97]⟩ : ByteArray))) (k1 (⟨#[99, 102, 107, 45]⟩ : ByteArray)) (cond_ ((ByteArray.toList s243) == (ByteArray.toList (⟨#[100, 101, 102, 101, 114]⟩ : ByteArray))) (k1 (⟨#[100, 45, 45, 45]⟩ : ByteArray)) (cond_ ((ByteArray.toList s243) == (ByteArray.toList (⟨#[114, 101, 99, 111, 118, 101, 114]⟩ : ByteArray))) (k1 (⟨#[119, 119, 45, 45]⟩ : ByteArray)) (cond_ ((ByteArray.toList s243) == (ByteArray.toList (⟨#[114, 101, 116, 117, 114, 110]⟩ : ByteArray))) (k1 (⟨#[118, 45, 45, 45]⟩ : ByteArray)) (k1 (⟨#[]⟩ : ByteArray)))))))))))))))) (cond_ ((ByteArray.toList s243) == (ByteArray.toList (⟨#[108, 111, 97, 100]⟩ : ByteArray))) (k1 (⟨#[119, 114, 45, 45]⟩ : ByteArray)) (cond_ ((ByteArray.toList s243) == (ByteArray.toList (⟨#[106, 117, 109, 112]⟩ : ByteArray))) (k1 (⟨#[45, 45, 45, 116]⟩ : ByteArray)) (cond_ ((ByteArray.toList s243) == (ByteArray.toList (⟨#[122, 101, 114, 111]⟩ : ByteArray))) (k1 (⟨#[114, 45, 45, 116]⟩ : ByteArray)) (cond_ ((ByteArray.toList s243) == (ByteArray.toList (⟨#[105, 110]⟩ : ByteArray))) (k1 (⟨#[119, 45, 45, 45]⟩ : ByteArray)) (cond_ ((ByteArray.toList s243) == (ByteArray.toList (⟨#[111, 117, 116]⟩ : ByteArray))) (cond_ ((ByteArray.toList s243) == (ByteArray.toList (⟨#[111, 117, 116]⟩ : ByteArray))) (k1 (⟨#[114, 45, 45, 45]⟩ : ByteArray)) (cond_ ((ByteArray.toList s243) == (ByteArray.toList (⟨#[115, 116, 111, 114, 101]⟩ : ByteArray))) (k1 (⟨#[114, 114, 45, 45]⟩ : ByteArray)) (cond_ ((ByteArray.toList s243) == (ByteArray.toList (⟨#[102, 117, 110, 99]⟩ : ByteArray))) (k1 (⟨#[103, 45, 45, 45]⟩ : ByteArray)) (cond_ ((ByteArray.toList s243) == (ByteArray.toList (⟨#[112, 105, 99, 107]⟩ : ByteArray))) (k1 (⟨#[103, 114, 45, 45]⟩ : ByteArray)) (cond_ ((ByteArray.toList s243) == (ByteArray.toList (⟨#[99, 97, 108, 108]⟩ : ByteArray))) (k1 (⟨#[99, 45, 45, 45]⟩ : ByteArray)) (cond_ ((ByteArray.toList s243) == (ByteArray.toList (⟨#[118, 105, 97]⟩ : ByteArray))) (k1 (⟨#[99, 102, 107, 45]⟩ : ByteArray)) (cond_ ((ByteArray.toList s243) == (ByteArray.toList (⟨#[100, 101, 102, 101, 114]⟩ : ByteArray))) (k1 (⟨#[100, 45, 45, 45]⟩ : ByteArray)) (cond_ ((ByteArray.toList s243) == (ByteArray.toList (⟨#[114, 101, 99, 111, 118, 101, 114]⟩ : ByteArray))) (k1 (⟨#[119, 119, 45, 45]⟩ : ByteArray)) (cond_ ((ByteArray.toList s243) == (ByteArray.toList (⟨#[114, 101, 116, 117, 114, 110]⟩ : ByteArray))) (k1 (⟨#[118, 45, 45, 45]⟩ : ByteArray)) (k1 (⟨#[]⟩ : ByteArray))))))))))) (cond_ ((ByteArray.toList s243) == (ByteArray.toList (⟨#[112, 97, 110, 105, 99]⟩ : ByteArray))) (k1 (⟨#[114, 45, 45, 45]⟩ : ByteArray)) (cond_ ((ByteArray.toList s243) == (ByteArray.toList (⟨#[115, 116, 111, 114, 101]⟩ : ByteArray))) (k1 (⟨#[114, 114, 45, 45]⟩ : ByteArray)) (cond_ ((ByteArray.toList s243) == (ByteArray.toList (⟨#[102, 117, 110, 99]⟩ : ByteArray))) (k1 (⟨#[103, 45, 45, 45]⟩ : ByteArray)) (cond_ ((ByteArray.toList s243) == (ByteArray.toList (⟨#[112, 105, 99, 107]⟩ : ByteArray))) (k1 (⟨#[103, 114, 45, 45]⟩ : ByteArray)) (cond_ ((ByteArray.toList s243) == (ByteArray.toList (⟨#[99, 97, 108, 108]⟩ : ByteArray))) (k1 (⟨#[99, 45, 45, 45]⟩ : ByteArray)) (cond_ ((ByteArray.toList s243) == (ByteArray.toList (⟨#[118, 105, 97]⟩ : ByteArray))) (k1 (⟨#[99, 102, 107, 45]⟩ : ByteArray)) (cond_ ((ByteArray.toList s243) == (ByteArray.toList (⟨#[100, 101, 102, 101, 114]⟩ : ByteArray))) (k1 (⟨#[100, 45, 45, 45]⟩ : ByteArray)) (cond_ ((ByteArray.toList s243) == (ByteArray.toList (⟨#[114, 101, 99, 111, 118, 101, 114]⟩ : ByteArray))) (k1 (⟨#[119, 119, 45, 45]⟩ : ByteArray)) (cond_ ((ByteArray.toList s243) == (ByteArray.toList (⟨#[114, 101, 116, 117, 114, 110]⟩ : ByteArray))) (k1 (⟨#[118, 45, 45, 45]⟩ : ByteArray)) (k1 (⟨#[]⟩ : ByteArray)))))))))))))))))))))) (ref07_Name n242
  (fun s244 => (cond_ ((ByteArray.toList s244) == (ByteArray.toList (⟨#[110, 111, 112]⟩ : ByteArray))) (k1 (⟨#[45, 45, 45, 45]⟩ : ByteArray)) (cond_ ((ByteArray.toList s244) == (ByteArray.toList (⟨#[115, 101, 116]⟩ : ByteArray))) (k1 (⟨#[119, 45, 45, 110]⟩ : ByteArray)) (cond_ ((ByteArray.toList s244) == (ByteArray.toList (⟨#[109, 111, 118, 101]⟩ : ByteArray))) (cond_ ((ByteArray.toList s244) == (ByteArray.toList (⟨#[109, 111, 118, 101]⟩ : ByteArray))) (k1 (⟨#[119, 114, 45, 45]⟩ : ByteArray)) (cond_ ((ByteArray.toList s244) == (ByteArray.toList (⟨#[106, 117, 109, 112]⟩ : ByteArray))) (k1 (⟨#[45, 45, 45, 116]⟩ : ByteArray)) (cond_ ((ByteArray.toList s244) == (ByteArray.toList (⟨#[122, 101, 114, 111]⟩ : ByteArray))) (k1 (⟨#[114, 45, 45, 116]⟩ : ByteArray)) (cond_ ((ByteArray.toList s244) == (ByteArray.toList (⟨#[105, 110]⟩ : ByteArray))) (k1 (⟨#[119, 45, 45, 45]⟩ : ByteArray)) (cond_ ((ByteArray.toList s244) == (ByteArray.toList (⟨#[111, 117, 116]⟩ : ByteArray))) (cond_ ((ByteArray.toList s244) == (ByteArray.toList (⟨#[111, 117, 116]⟩ : ByteArray))) (k1 (⟨#[114, 45, 45, 45]⟩ : ByteArray)) (cond_ ((ByteArray.toList s244) == (ByteArray.toList (⟨#[115, 116, 111, 114, 101]⟩ : ByteArray))) (k1 (⟨#[114, 114, 45, 45]⟩ : ByteArray)) (cond_ ((ByteArray.toList s244) == (ByteArray.toList (⟨#[102, 117, 110, 99]⟩ : ByteArray))) (k1 (⟨#[103, 45, 45, 45]⟩ : ByteArray)) (cond_ ((ByteArray.toList s244) == (ByteArray.toList (⟨#[112, 105, 99, 107]⟩ : ByteArray))) (k1 (⟨#[103, 114, 45, 45]⟩ : ByteArray)) (cond_ ((ByteArray.toList s244) == (ByteArray.toList (⟨#[99, 97, 108, 108]⟩ : ByteArray))) (k1 (⟨#[99, 45, 45, 45]⟩ : ByteArray)) (cond_ ((ByteArray.toList s244) == (ByteArray.toList (⟨#[118, 105, 97]⟩ : ByteArray))) (k1 (⟨#[99, 102, 107, 45]⟩ : ByteArray)) (cond_ ((ByteArray.toList s244) == (ByteArray.toList (⟨#[100, 101, 102, 101, 114]⟩ : ByteArray))) (k1 (⟨#[100, 45, 45, 45]⟩ : ByteArray)) (cond_ ((ByteArray.toList s244) == (ByteArray.toList (⟨#[114, 101, 99, 111, 118, 101, 114]⟩ : ByteArray))) (k1 (⟨#[119, 119, 45, 45]⟩ : ByteArray)) (cond_ ((ByteArray.toList s244) == (ByteArray.toList (⟨#[114, 101, 116, 117, 114, 110]⟩ : ByteArray))) (k1 (⟨#[118, 45, 45, 45]⟩ : ByteArray)) (k1 (⟨#[]⟩ : ByteArray))))))))))) (cond_ ((ByteArray.toList s244) == (ByteArray.toList (⟨#[112, 97, 110, 105, 99]⟩ : ByteArray))) (k1 (⟨#[114, 45, 45, 45]⟩ : ByteArray)) (cond_ ((ByteArray.toList s244) == (ByteArray.toList (⟨#[115, 116, 111, 114, 101]⟩ : ByteArray))) (k1 (⟨#[114, 114, 45, 45]⟩ : ByteArray)) (cond_ ((ByteArray.toList s244) == (ByteArray.toList (⟨#[102, 117, 110, 99]⟩ : ByteArray))) (k1 (⟨#[103, 45, 45, 45]⟩ : ByteArray)) (cond_ ((ByteArray.toList s244) == (ByteArray.toList (⟨#[112, 105, 99, 107]⟩ : ByteArray))) (k1 (⟨#[103, 114, 45, 45]⟩ : ByteArray)) (cond_ ((ByteArray.toList s244) == (ByteArray.toList (⟨#[99, 97, 108, 108]⟩ : ByteArray))) (k1 (⟨#[99, 45, 45, 45]⟩ : ByteArray)) (cond_ ((ByteArray.toList s244) == (ByteArray.toList (⟨#[118, 105, 97]⟩ : ByteArray))) (k1 (⟨#[99, 102, 107, 45]⟩ : ByteArray)) (cond_ ((ByteArray.toList s244) == (ByteArray.toList (⟨#[100, 101, 102, 101, 114]⟩ : ByteArray))) (k1 (⟨#[100, 45, 45, 45]⟩ : ByteArray)) (cond_ ((ByteArray.toList s244) == (ByteArray.toList (⟨#[114, 101, 99, 111, 118, 101, 114]⟩ : ByteArray))) (k1 (⟨#[119, 119, 45, 45]⟩ : ByteArray)) (cond_ ((ByteArray.toList s244) == (ByteArray.toList (⟨#[114, 101, 116, 117, 114, 110]⟩ : ByteArray))) (k1 (⟨#[118, 45, 45, 45]⟩ : ByteArray)) (k1 (⟨#[]⟩ : ByteArray)))))))))))))))) (cond_ ((ByteArray.toList s244) == (ByteArray.toList (⟨#[108, 111, 97, 100]⟩ : ByteArray))) (k1 (⟨#[119, 114, 45, 45]⟩ : ByteArray)) (cond_ ((ByteArray.toList s244) == (ByteArray.toList (⟨#[106, 117, 109, 112]⟩ : ByteArray))) (k1 (⟨#[45, 45, 45, 116]⟩ : ByteArray)) (cond_ ((ByteArray.toList s244) == (ByteArray.toList (⟨#[122, 101, 114, 111]⟩ : ByteArray))) (k1 (⟨#[114, 45, 45, 116]⟩ : ByteArray)) (cond_ ((ByteArray.toList s244) == (ByteArray.toList (⟨#[105, 110]⟩ : ByteArray))) (k1 (⟨#[119, 45, 45, 45]⟩ : ByteArray)) (cond_ ((ByteArray.toList s244) == (ByteArray.toList (⟨#[111, 117, 116]⟩ : ByteArray))) (cond_ ((ByteArray.toList s244) == (ByteArray.toList (⟨#[111, 117, 116]⟩ : ByteArray))) (k1 (⟨#[114, 45, 45, 45]⟩ : ByteArray)) (cond_ ((ByteArray.toList s244) == (ByteArray.toList (⟨#[115, 116, 111, 114, 101]⟩ : ByteArray))) (k1 (⟨#[114, 114, 45, 45]⟩ : ByteArray)) (cond_ ((ByteArray.toList s244) == (ByteArray.toList (⟨#[102, 117, 110, 99]⟩ : ByteArray))) (k1 (⟨#[103, 45, 45, 45]⟩ : ByteArray)) (cond_ ((ByteArray.toList s244) == (ByteArray.toList (⟨#[112, 105, 99, 107]⟩ : ByteArray))) (k1 (⟨#[103, 114, 45, 45]⟩ : ByteArray)) (cond_ ((ByteArray.toList s244) == (ByteArray.toList (⟨#[99, 97, 108, 108]⟩ : ByteArray))) (k1 (⟨#[99, 45, 45, 45]⟩ : ByteArray)) (cond_ ((ByteArray.toList s244) == (ByteArray.toList (⟨#[118, 105, 97]⟩ : ByteArray))) (k1 (⟨#[99, 102, 107, 45]⟩ : ByteArray)) (cond_ ((ByteArray.toList s244) == (ByteArray.toList (⟨#[100, 101, 102, 101, 114]⟩ : ByteArray))) (k1 (⟨#[100, 45, 45, 45]⟩ : ByteArray)) (cond_ ((ByteArray.toList s244) == (ByteArray.toList (⟨#[114, 101, 99, 111, 118, 101, 114]⟩ : ByteArray))) (k1 (⟨#[119, 119, 45, 45]⟩ : ByteArray)) (cond_ ((ByteArray.toList s244) == (ByteArray.toList (⟨#[114, 101, 116, 117, 114, 110]⟩ : ByteArray))) (k1 (⟨#[118, 45, 45, 45]⟩ : ByteArray)) (k1 (⟨#[]⟩ : ByteArray))))))))))) (cond_ ((ByteArray.toList s244) == (ByteArray.toList (⟨#[112, 97, 110, 105, 99]⟩ : ByteArray))) (k1 (⟨#[114, 45, 45, 45]⟩ : ByteArray)) (cond_ ((ByteArray.toList s244) == (ByteArray.toList (⟨#[115, 116, 111, 114, 101]⟩ : ByteArray))) (k1 (⟨#[114, 114, 45, 45]⟩ : ByteArray)) (cond_ ((ByteArray.toList s244) == (ByteArray.toList (⟨#[102, 117, 110, 99]⟩ : ByteArray))) (k1 (⟨#[103, 45, 45, 45]⟩ : ByteArray)) (cond_ ((ByteArray.toList s244) == (ByteArray.toList (⟨#[112, 105, 99, 107]⟩ : ByteArray))) (k1 (⟨#[103, 114, 45, 45]⟩ : ByteArray)) (cond_ ((ByteArray.toList s244) == (ByteArray.toList (⟨#[99, 97, 108, 108]⟩ : ByteArray))) (k1 (⟨#[99, 45, 45, 45]⟩ : ByteArray)) (cond_ ((ByteArray.toList s244) == (ByteArray.toList (⟨#[118, 105, 97]⟩ : ByteArray))) (k1 (⟨#[99, 102, 107, 45]⟩ : ByteArray)) (cond_ ((ByteArray.toList s244) == (ByteArray.toList (⟨#[100, 101, 102, 101, 114]⟩ : ByteArray))) (k1 (⟨#[100, 45, 45, 45]⟩ : ByteArray)) (cond_ ((ByteArray.toList s244) == (ByteArray.toList (⟨#[114, 101, 99, 111, 118, 101, 114]⟩ : ByteArray))) (k1 (⟨#[119, 119, 45, 45]⟩ : ByteArray)) (cond_ ((ByteArray.toList s244) == (ByteArray.toList (⟨#[114, 101, 116, 117, 114, 110]⟩ : ByteArray))) (k1 (⟨#[118, 45, 45, 45]⟩ : ByteArray)) (k1 (⟨#[]⟩ : ByteArray))))))))))))))))))))))
noncomputable def ref07_Shape : T_ref07_Shape := ref07_Shape.body ref07_Name
def ref07_Shape.p : FPat := fp 81 (pl (pd (.int .i64)) pz) pz
def ref07_Shape.g (F : T_ref07_Shape) (v : ref07_Shape.p.T) (k : KR) : Option Bool := F v.1.1 (fun y0 => k (.d ⟨.str, y0⟩) [])
theorem ref07_Shape.eq (F0 : T_ref07_Name) : ∀ v k, exF Try.f81 ref07_Shape.p [⟨ref07_Name.p, ref07_Name.g F0⟩] [] [] v k = ref07_Shape.g (ref07_Shape.body F0) v k := fun v k => by kernel_rfl
theorem ref07_Shape.ok : okF 3 ref07_Shape.p (ref07_Shape.g ref07_Shape) := fn2 (ref07_Shape.eq ref07_Name) Try.func81 (by kernel_rfl) (.cons ref07_Name.ok .nil) [] (by kernel_rfl) .nil
/-- function 89: the loop in block 2 -/
abbrev T_ref08_Check_L2 : Type := ByteArray → Int → Tc2 → (Int → Option Bool) → (Option Bool) → Option Bool
noncomputable def ref08_Check_L2.body (ref08_Check_L2 : T_ref08_Check_L2) (ref08_Operand : T_ref08_Operand) : T_ref08_Check_L2 := fun s246 n247 t248 k1 k2 =>
  (cond_ (decide (n247 < (((ByteArray.size s246) : Nat) : Int))) (cond_ ((decide ((0 : Int) ≤ n247)) && (decide (n247 < (((ByteArray.size s246) : Nat) : Int)))) (cond_ ((((UInt8.toNat (List.getD (Array.toList (ByteArray.data s246)) (Int.toNat n247) (0 : UInt8))) : Nat) : Int) == (45 : Int)) (ref08_Operand t248 n247
  (fun n249 => (cond_ (n249 != (0 : Int)) (k1 (2 : Int)) (ref08_Check_L2 s246 (IntKind.wrap .i64 (n247 + (1 : Int))) t248 k1 k2)))) (ref08_Check_L2 s246 (IntKind.wrap .i64 (n247 + (1 : Int))) t248 k1 k2)) none) (k2))
noncomputable def ref08_Check_L2 : Nat → T_ref08_Check_L2
  | 0 => fun _ _ _ _ _ => none
  | n + 1 => ref08_Check_L2.body (ref08_Check_L2 n) ref08_Operand
def ref08_Check_L2.p : LPat := lp 2 51 [1, 4, 5] (ps (pq [1, 0] 0 0) (pl (pd .str) (pl (pd (.int .i64)) pz))) (pl (po [1, 0] 91 5 (es Ty11 (pl eh pz))) pz)
def ref08_Check_L2.g (F : T_ref08_Check_L2) (v : ref08_Check_L2.p.T) (k : KE) : Option Bool := F v.1.1 v.1.2.1 v.2.1.1 (fun y0 => k .ret ⟨fillS 51 [2] [(.d ⟨(.int .i64), y0⟩)], [], 2⟩) (k (.exit 2) ⟨fillS 51 [] [], [], 2⟩)
theorem ref08_Check_L2.step (S : T_ref08_Check_L2) (F0 : T_ref08_Operand) : ∀ v k, exR 89 Try.f89 2 ref08_Check_L2.p [⟨ref08_Operand.p, ref08_Operand.g F0⟩] [] [] (ref08_Check_L2.g S) v k = ref08_Check_L2.g (ref08_Check_L2.body S F0) v k := fun v k => by kernel_rfl
theorem ref08_Check_L2.ok : okL 89 Try.f89 1 2 ref08_Check_L2.p (ref08_Check_L2.g (ref08_Check_L2 ROUNDS)) := loop2 (G := fun n => ref08_Check_L2.g (ref08_Check_L2 n)) (fun n => ref08_Check_L2.step (ref08_Check_L2 n) ref08_Operand) (.cons ref08_Operand.ok .nil) [] (by kernel_rfl) .nil (fun _ _ => rfl)
/-- function 89: sheerleg/sheerlegref08.Check -/
abbrev T_ref08_Check : Type := Tc2 → (Int → Option Bool) → Option Bool
noncomputable def ref08_Check.body (ref07_Name : T_ref07_Name) (ref07_Shape : T_ref07_Shape) (ref08_Check_L0 : T_ref08_Check_L0) (ref08_Check_L2 : T_ref08_Check_L2) : T_ref08_Check := fun t232 k1 =>
  (ref07_Name t232.1
  (fun s233 => (cond_ ((ByteArray.toList s233) == (ByteArray.toList (⟨#[]⟩ : ByteArray))) (k1 (8 : Int)) (ref08_Check_L0 (0 : Int) t232
  (fun n240 => (k1 n240))
  (fun t241 => (cond_ (! (decide (t241.2.2.2.2.1 < (-2147483648 : Int)))) (cond_ (decide (t241.2.2.2.2.1 > (2147483647 : Int))) (k1 (9 : Int)) (ref07_Shape t241.1
  (fun s245 => (ref08_Check_L2 s245 (0 : Int) t241
  (fun n250 => (k1 n250))
  (k1 (0 : Int)))))) (k1 (9 : Int))))))))
noncomputable def ref08_Check : T_ref08_Check := ref08_Check.body ref07_Name ref07_Shape (ref08_Check_L0 ROUNDS) (ref08_Check_L2 ROUNDS)
def ref08_Check.p : FPat := fp 89 (pl (pd Ty11) pz) pz
def ref08_Check.g (F : T_ref08_Check) (v : ref08_Check.p.T) (k : KR) : Option Bool := F v.1.1 (fun y0 => k (.d ⟨(.int .i64), y0⟩) [])
theorem ref08_Check.eq (F0 : T_ref07_Name) (F1 : T_ref07_Shape) (L0 : T_ref08_Check_L0) (L1 : T_ref08_Check_L2) : ∀ v k, exF Try.f89 ref08_Check.p [⟨ref07_Name.p, ref07_Name.g F0⟩, ⟨ref07_Shape.p, ref07_Shape.g F1⟩] [] [⟨0, ref08_Check_L0.p, ref08_Check_L0.g L0⟩, ⟨2, ref08_Check_L2.p, ref08_Check_L2.g L1⟩] v k = ref08_Check.g (ref08_Check.body F0 F1 L0 L1) v k := fun v k => by kernel_rfl
theorem ref08_Check.ok : okF 4 ref08_Check.p (ref08_Check.g ref08_Check) := fn2 (ref08_Check.eq ref07_Name ref07_Shape (ref08_Check_L0 ROUNDS) (ref08_Check_L2 ROUNDS)) Try.func89 (by kernel_rfl) (.cons ref07_Name.ok (.cons ref07_Shape.ok .nil)) [0, 2] (by kernel_rfl) (.cons ref08_Check_L0.ok (.cons ref08_Check_L2.ok .nil))
/-- function 90: sheerleg/sheerlegref07.Own -/
abbrev T_ref07_Own : Type := Int → (Bool → Option Bool) → Option Bool
noncomputable def ref07_Own.body : T_ref07_Own := fun n252 k1 =>
  (cond_ (decide (n252 ≥ (1 : Int))) (k1 (decide (n252 ≤ (24 : Int)))) (k1 false))
noncomputable def ref07_Own : T_ref07_Own := ref07_Own.body
def ref07_Own.p : FPat := fp 90 (pl (pd (.int .i64)) pz) pz
def ref07_Own.g (F : T_ref07_Own) (v : ref07_Own.p.T) (k : KR) : Option Bool := F v.1.1 (fun y0 => k (.d ⟨.bool, y0⟩) [])
theorem ref07_Own.eq : ∀ v k, exF Try.f90 ref07_Own.p [] [] [] v k = ref07_Own.g (ref07_Own.body) v k := fun v k => by kernel_rfl
theorem ref07_Own.ok : okF 1 ref07_Own.p (ref07_Own.g ref07_Own) := fn2 (ref07_Own.eq) Try.func90 (by kernel_rfl) .nil [] (by kernel_rfl) .nil
/-- function 77: the loop in block 0 -/
abbrev T_ref16_code_L0 : Type := Int → Tc12 → (Int → Option Bool) → (Option Bool) → Option Bool
noncomputable def ref16_code_L0.body (ref16_code_L0 : T_ref16_code_L0) (ref08_Check : T_ref08_Check) (ref07_Own : T_ref07_Own) : T_ref16_code_L0 := fun n230 t231 k1 k2 =>
  (cond_ (decide (n230 < (((List.length t231.2.2.2.2.2.2.2.1) : Nat) : Int))) (cond_ ((decide ((0 : Int) ≤ n230)) && (decide (n230 < (((List.length t231.2.2.2.2.2.2.2.1) : Nat) : Int)))) (ref08_Check (List.getD t231.2.2.2.2.2.2.2.1 (Int.toNat n230) (0, (0, (0, (0, (0, ()))))))
  (fun n251 => (cond_ (n251 != (0 : Int)) (k1 n251) (cond_ ((decide ((0 : Int) ≤ n230)) && (decide (n230 < (((List.length t231.2.2.2.2.2.2.2.1) : Nat) : Int)))) (ref07_Own (List.getD t231.2.2.2.2.2.2.2.1 (Int.toNat n230) (0, (0, (0, (0, (0, ())))))).1
  (fun b253 => (cond_ (! b253) (k1 (8 : Int)) (ref16_code_L0 (IntKind.wrap .i64 (n230 + (1 : Int))) t231 k1 k2)))) none)))) none) (k2))
noncomputable def ref16_code_L0 : Nat → T_ref16_code_L0
  | 0 => fun _ _ _ _ => none
  | n + 1 => ref16_code_L0.body (ref16_code_L0 n) ref08_Check ref07_Own
def ref16_code_L0.p : LPat := lp 2 36 [1, 4] (ps (pq [1, 0] 0 0) (pl (pd (.int .i64)) pz)) (pl (po [1, 0] 71 9 (es Ty18 (pl eh pz))) pz)
def ref16_code_L0.g (F : T_ref16_code_L0) (v : ref16_code_L0.p.T) (k : KE) : Option Bool := F v.1.1 v.2.1.1 (fun y0 => k .ret ⟨fillS 36 [2] [(.d ⟨(.int .i64), y0⟩)], [], 2⟩) (k (.exit 0) ⟨fillS 36 [] [], [], 2⟩)
theorem ref16_code_L0.step (S : T_ref16_code_L0) (F0 : T_ref08_Check) (F1 : T_ref07_Own) : ∀ v k, exR 77 Try.f77 0 ref16_code_L0.p [⟨ref08_Check.p, ref08_Check.g F0⟩, ⟨ref07_Own.p, ref07_Own.g F1⟩] [] [] (ref16_code_L0.g S) v k = ref16_code_L0.g (ref16_code_L0.body S F0 F1) v k := fun v k => by kernel_rfl
theorem ref16_code_L0.ok : okL 77 Try.f77 4 0 ref16_code_L0.p (ref16_code_L0.g (ref16_code_L0 ROUNDS)) := loop2 (G := fun n => ref16_code_L0.g (ref16_code_L0 n)) (fun n => ref16_code_L0.step (ref16_code_L0 n) ref08_Check ref07_Own) (.cons ref08_Check.ok (.cons ref07_Own.ok .nil)) [] (by kernel_rfl) .nil (fun _ _ => rfl)
/-- function 77: sheerleg/sheerlegref16.code -/
abbrev T_ref16_code : Type := Tc12 → (Int → Option Bool) → Option Bool
noncomputable def ref16_code.body (ref14_Check : T_ref14_Check) (ref16_code_L0 : T_ref16_code_L0) : T_ref16_code := fun t207 k1 =>
  (ref14_Check t207.2.2.2.2.2.2.2.1
  (fun n229 => (cond_ (n229 != (0 : Int)) (k1 n229) (ref16_code_L0 (0 : Int) t207
  (fun n254 => (k1 n254))
  (k1 (0 : Int))))))
noncomputable def ref16_code : T_ref16_code := ref16_code.body ref14_Check (ref16_code_L0 ROUNDS)
def ref16_code.p : FPat := fp 77 (pl (pd Ty18) pz) pz
def ref16_code.g (F : T_ref16_code) (v : ref16_code.p.T) (k : KR) : Option Bool := F v.1.1 (fun y0 => k (.d ⟨(.int .i64), y0⟩) [])
theorem ref16_code.eq (F0 : T_ref14_Check) (L0 : T_ref16_code_L0) : ∀ v k, exF Try.f77 ref16_code.p [⟨ref14_Check.p, ref14_Check.g F0⟩] [] [⟨0, ref16_code_L0.p, ref16_code_L0.g L0⟩] v k = ref16_code.g (ref16_code.body F0 L0) v k := fun v k => by kernel_rfl
theorem ref16_code.ok : okF 6 ref16_code.p (ref16_code.g ref16_code) := fn2 (ref16_code.eq ref14_Check (ref16_code_L0 ROUNDS)) Try.func77 (by kernel_rfl) (.cons ref14_Check.ok .nil) [0] (by kernel_rfl) (.cons ref16_code_L0.ok .nil)
/-- function 78: the loop in block 0 -/
abbrev T_ref16_lines_L0 : Type := Int → Tc12 → (Int → Option Bool) → (Option Bool) → Option Bool
noncomputable def ref16_lines_L0.body (ref16_lines_L0 : T_ref16_lines_L0) : T_ref16_lines_L0 := fun n257 t258 k1 k2 =>
  (cond_ (decide (n257 < (((List.length t258.2.2.2.2.2.2.1) : Nat) : Int))) (cond_ ((decide ((0 : Int) ≤ n257)) && (decide (n257 < (((List.length t258.2.2.2.2.2.2.1) : Nat) : Int)))) (cond_ (n257 == (0 : Int)) (cond_ (! ((List.getD t258.2.2.2.2.2.2.1 (Int.toNat n257) (0, (0, ()))).1 != (0 : Int))) (cond_ (! (decide ((List.getD t258.2.2.2.2.2.2.1 (Int.toNat n257) (0, (0, ()))).1 < (0 : Int)))) (cond_ (! (decide ((List.getD t258.2.2.2.2.2.2.1 (Int.toNat n257) (0, (0, ()))).1 ≥ (((List.length t258.2.2.2.2.2.2.2.1) : Nat) : Int)))) (cond_ (decide (n257 > (0 : Int))) (cond_ ((decide ((0 : Int) ≤ (IntKind.wrap .i64 (n257 - (1 : Int))))) && (decide ((IntKind.wrap .i64 (n257 - (1 : Int))) < (((List.length t258.2.2.2.2.2.2.1) : Nat) : Int)))) (cond_ (! (decide ((List.getD t258.2.2.2.2.2.2.1 (Int.toNat n257) (0, (0, ()))).1 ≤ (List.getD t258.2.2.2.2.2.2.1 (Int.toNat (IntKind.wrap .i64 (n257 - (1 : Int)))) (0, (0, ()))).1))) (cond_ (! (decide ((List.getD t258.2.2.2.2.2.2.1 (Int.toNat n257) (0, (0, ()))).2.1 < (0 : Int)))) (cond_ (decide ((List.getD t258.2.2.2.2.2.2.1 (Int.toNat n257) (0, (0, ()))).2.1 > (65535 : Int))) (k1 (9 : Int)) (ref16_lines_L0 (IntKind.wrap .i64 (n257 + (1 : Int))) t258 k1 k2)) (k1 (9 : Int))) (k1 (9 : Int))) none) (cond_ (! (decide ((List.getD t258.2.2.2.2.2.2.1 (Int.toNat n257) (0, (0, ()))).2.1 < (0 : Int)))) (cond_ (decide ((List.getD t258.2.2.2.2.2.2.1 (Int.toNat n257) (0, (0, ()))).2.1 > (65535 : Int))) (k1 (9 : Int)) (ref16_lines_L0 (IntKind.wrap .i64 (n257 + (1 : Int))) t258 k1 k2)) (k1 (9 : Int)))) (k1 (9 : Int))) (k1 (9 : Int))) (k1 (9 : Int))) (cond_ (! (decide ((List.getD t258.2.2.2.2.2.2.1 (Int.toNat n257) (0, (0, ()))).1 < (0 : Int)))) (cond_ (! (decide ((List.getD t258.2.2.2.2.2.2.1 (Int.toNat n257) (0, (0, ()))).1 ≥ (((List.length t258.2.2.2.2.2.2.2.1) : Nat) : Int)))) (cond_ (decide (n257 > (0 : Int))) (cond_ ((decide ((0 : Int) ≤ (IntKind.wrap .i64 (n257 - (1 : Int))))) && (decide ((IntKind.wrap .i64 (n257 - (1 : Int))) < (((List.length t258.2.2.2.2.2.2.1) : Nat) : Int)))) (cond_ (! (decide ((List.getD t258.2.2.2.2.2.2.1 (Int.toNat n257) (0, (0, ()))).1 ≤ (List.getD t258.2.2.2.2.2.2.1 (Int.toNat (IntKind.wrap .i64 (n257 - (1 : Int)))) (0, (0, ()))).1))) (cond_ (! (decide ((List.getD t258.2.2.2.2.2.2.1 (Int.toNat n257) (0, (0, ()))).2.1 < (0 : Int)))) (cond_ (decide ((List.getD t258.2.2.2.2.2.2.1 (Int.toNat n257) (0, (0, ()))).2.1 > (65535 : Int))) (k1 (9 : Int)) (ref16_lines_L0 (IntKind.wrap .i64 (n257 + (1 : Int))) t258 k1 k2)) (k1 (9 : Int))) (k1 (9 : Int))) none) (cond_ (! (decide ((List.getD t258.2.2.2.2.2.2.1 (Int.toNat n257) (0, (0, ()))).2.1 < (0 : Int)))) (cond_ (decide ((List.getD t258.2.2.2.2.2.2.1 (Int.toNat n257) (0, (0, ()))).2.1 > (65535 : Int))) (k1 (9 : Int)) (ref16_lines_L0 (IntKind.wrap .i64 (n257 + (1 : Int))) t258 k1 k2)) (k1 (9 : Int)))) (k1 (9 : Int))) (k1 (9 : Int)))) none) (k2))
noncomputable def ref16_lines_L0 : Nat → T_ref16_lines_L0
  | 0 => fun _ _ _ _ => none
  | n + 1 => ref16_lines_L0.body (ref16_lines_L0 n)
def ref16_lines_L0.p : LPat := lp 2 67 [1, 3] (ps (pq [1, 0] 0 0) (pl (pd (.int .i64)) pz)) (pl (po [1, 0] 71 9 (es Ty18 (pl eh pz))) pz)
def ref16_lines_L0.g (F : T_ref16_lines_L0) (v : ref16_lines_L0.p.T) (k : KE) : Option Bool := F v.1.1 v.2.1.1 (fun y0 => k .ret ⟨fillS 67 [2] [(.d ⟨(.int .i64), y0⟩)], [], 2⟩) (k (.exit 0) ⟨fillS 67 [] [], [], 2⟩)
theorem ref16_lines_L0.step (S : T_ref16_lines_L0) : ∀ v k, exR 78 Try.f78 0 ref16_lines_L0.p [] [] [] (ref16_lines_L0.g S) v k = ref16_lines_L0.g (ref16_lines_L0.body S) v k := fun v k => by kernel_rfl
theorem ref16_lines_L0.ok : okL 78 Try.f78 0 0 ref16_lines_L0.p (ref16_lines_L0.g (ref16_lines_L0 ROUNDS)) := loop2 (G := fun n => ref16_lines_L0.g (ref16_lines_L0 n)) (fun n => ref16_lines_L0.step (ref16_lines_L0 n)) .nil [] (by kernel_rfl) .nil (fun _ _ => rfl)
/-- function 78: sheerleg/sheerlegref16.lines -/
abbrev T_ref16_lines : Type := Tc12 → (Int → Option Bool) → Option Bool
noncomputable def ref16_lines.body (ref16_lines_L0 : T_ref16_lines_L0) : T_ref16_lines := fun t256 k1 =>
  (cond_ (decide ((((List.length t256.2.2.2.2.2.2.1) : Nat) : Int) > (16 : Int))) (k1 (6 : Int)) (ref16_lines_L0 (0 : Int) t256
  (fun n259 => (k1 n259))
  (k1 (0 : Int))))
noncomputable def ref16_lines : T_ref16_lines := ref16_lines.body (ref16_lines_L0 ROUNDS)
def ref16_lines.p : FPat := fp 78 (pl (pd Ty18) pz) pz
def ref16_lines.g (F : T_ref16_lines) (v : ref16_lines.p.T) (k : KR) : Option Bool := F v.1.1 (fun y0 => k (.d ⟨(.int .i64), y0⟩) [])
theorem ref16_lines.eq (L0 : T_ref16_lines_L0) : ∀ v k, exF Try.f78 ref16_lines.p [] [] [⟨0, ref16_lines_L0.p, ref16_lines_L0.g L0⟩] v k = ref16_lines.g (ref16_lines.body L0) v k := fun v k => by kernel_rfl
theorem ref16_lines.ok : okF 1 ref16_lines.p (ref16_lines.g ref16_lines) := fn2 (ref16_lines.eq (ref16_lines_L0 ROUNDS)) Try.func78 (by kernel_rfl) .nil [0] (by kernel_rfl) (.cons ref16_lines_L0.ok .nil)
/-- function 71: the loop in block 0 -/
abbrev T_ref16_Check_L0 : Type := Int → Tc12 → (Int → Option Bool) → (Option Bool) → Option Bool
noncomputable def ref16_Check_L0.body (ref16_Check_L0 : T_ref16_Check_L0) : T_ref16_Check_L0 := fun n261 t262 k1 k2 =>
  (cond_ (decide (n261 < (((List.length t262.2.2.2.2.2.2.2.2.1) : Nat) : Int))) (cond_ ((decide ((0 : Int) ≤ n261)) && (decide (n261 < (((List.length t262.2.2.2.2.2.2.2.2.1) : Nat) : Int)))) (cond_ (! (decide ((List.getD t262.2.2.2.2.2.2.2.2.1 (Int.toNat n261) (0, (0, (false, ())))).1 < (0 : Int)))) (cond_ (! (decide ((List.getD t262.2.2.2.2.2.2.2.2.1 (Int.toNat n261) (0, (0, (false, ())))).1 ≥ (((List.length t262.2.2.2.2.2.2.2.1) : Nat) : Int)))) (cond_ (decide (n261 > (0 : Int))) (cond_ ((decide ((0 : Int) ≤ (IntKind.wrap .i64 (n261 - (1 : Int))))) && (decide ((IntKind.wrap .i64 (n261 - (1 : Int))) < (((List.length t262.2.2.2.2.2.2.2.2.1) : Nat) : Int)))) (cond_ (! (decide ((List.getD t262.2.2.2.2.2.2.2.2.1 (Int.toNat n261) (0, (0, (false, ())))).1 ≤ (List.getD t262.2.2.2.2.2.2.2.2.1 (Int.toNat (IntKind.wrap .i64 (n261 - (1 : Int)))) (0, (0, (false, ())))).1))) (cond_ ((decide ((0 : Int) ≤ n261)) && (decide (n261 < (((List.length t262.2.2.2.2.2.2.2.2.1) : Nat) : Int)))) (cond_ (! (decide ((List.getD t262.2.2.2.2.2.2.2.2.1 (Int.toNat n261) (0, (0, (false, ())))).2.1 < (0 : Int)))) (cond_ ((decide ((0 : Int) ≤ n261)) && (decide (n261 < (((List.length t262.2.2.2.2.2.2.2.2.1) : Nat) : Int)))) (cond_ (decide ((List.getD t262.2.2.2.2.2.2.2.2.1 (Int.toNat n261) (0, (0, (false, ())))).2.1 ≥ (32 : Int))) (k1 (11 : Int)) (ref16_Check_L0 (IntKind.wrap .i64 (n261 + (1 : Int))) t262 k1 k2)) none) (k1 (11 : Int))) none) (k1 (11 : Int))) none) (cond_ ((decide ((0 : Int) ≤ n261)) && (decide (n261 < (((List.length t262.2.2.2.2.2.2.2.2.1) : Nat) : Int)))) (cond_ (! (decide ((List.getD t262.2.2.2.2.2.2.2.2.1 (Int.toNat n261) (0, (0, (false, ())))).2.1 < (0 : Int)))) (cond_ ((decide ((0 : Int) ≤ n261)) && (decide (n261 < (((List.length t262.2.2.2.2.2.2.2.2.1) : Nat) : Int)))) (cond_ (decide ((List.getD t262.2.2.2.2.2.2.2.2.1 (Int.toNat n261) (0, (0, (false, ())))).2.1 ≥ (32 : Int))) (k1 (11 : Int)) (ref16_Check_L0 (IntKind.wrap .i64 (n261 + (1 : Int))) t262 k1 k2)) none) (k1 (11 : Int))) none)) (k1 (11 : Int))) (k1 (11 : Int))) none) (k2))
noncomputable def ref16_Check_L0 : Nat → T_ref16_Check_L0
  | 0 => fun _ _ _ _ => none
  | n + 1 => ref16_Check_L0.body (ref16_Check_L0 n)
def ref16_Check_L0.p : LPat := lp 2 104 [1, 6] (ps (pq [1, 0] 0 0) (pl (pd (.int .i64)) pz)) (pl (po [1, 0] 71 9 (es Ty18 (pl eh pz))) pz)
def ref16_Check_L0.g (F : T_ref16_Check_L0) (v : ref16_Check_L0.p.T) (k : KE) : Option Bool := F v.1.1 v.2.1.1 (fun y0 => k .ret ⟨fillS 104 [2] [(.d ⟨(.int .i64), y0⟩)], [], 2⟩) (k (.exit 0) ⟨fillS 104 [] [], [], 2⟩)
theorem ref16_Check_L0.step (S : T_ref16_Check_L0) : ∀ v k, exR 71 Try.f71 0 ref16_Check_L0.p [] [] [] (ref16_Check_L0.g S) v k = ref16_Check_L0.g (ref16_Check_L0.body S) v k := fun v k => by kernel_rfl
theorem ref16_Check_L0.ok : okL 71 Try.f71 0 0 ref16_Check_L0.p (ref16_Check_L0.g (ref16_Check_L0 ROUNDS)) := loop2 (G := fun n => ref16_Check_L0.g (ref16_Check_L0 n)) (fun n => ref16_Check_L0.step (ref16_Check_L0 n)) .nil [] (by kernel_rfl) .nil (fun _ _ => rfl)
/-- function 71: sheerleg/sheerlegref16.Check -/
abbrev T_ref16_Check : Type := Tc12 → (Int → Option Bool) → Option Bool
noncomputable def ref16_Check.body (ref16_slots : T_ref16_slots) (ref16_code : T_ref16_code) (ref16_lines : T_ref16_lines) (ref16_Check_L0 : T_ref16_Check_L0) : T_ref16_Check := fun t195 k1 =>
  (ref16_slots t195
  (fun n206 => (cond_ (n206 != (0 : Int)) (k1 n206) (cond_ (! (decide (t195.2.2.1 < (0 : Int)))) (cond_ (decide (t195.2.2.1 > (4096 : Int))) (k1 (9 : Int)) (ref16_code t195
  (fun n255 => (cond_ (n255 != (0 : Int)) (k1 n255) (cond_ (! (decide (t195.2.2.2.2.1 < (0 : Int)))) (cond_ (! (decide (t195.2.2.2.2.2.1 < t195.2.2.2.2.1))) (cond_ (decide (t195.2.2.2.2.2.1 > (((List.length t195.2.2.2.2.2.2.2.1) : Nat) : Int))) (k1 (9 : Int)) (ref16_lines t195
  (fun n260 => (cond_ (n260 != (0 : Int)) (k1 n260) (ref16_Check_L0 (0 : Int) t195
  (fun n263 => (k1 n263))
  (k1 (0 : Int))))))) (k1 (9 : Int))) (k1 (9 : Int))))))) (k1 (9 : Int))))))
noncomputable def ref16_Check : T_ref16_Check := ref16_Check.body ref16_slots ref16_code ref16_lines (ref16_Check_L0 ROUNDS)
def ref16_Check.p : FPat := fp 71 (pl (pd Ty18) pz) pz
def ref16_Check.g (F : T_ref16_Check) (v : ref16_Check.p.T) (k : KR) : Option Bool := F v.1.1 (fun y0 => k (.d ⟨(.int .i64), y0⟩) [])
theorem ref16_Check.eq (F0 : T_ref16_slots) (F1 : T_ref16_code) (F2 : T_ref16_lines) (L0 : T_ref16_Check_L0) : ∀ v k, exF Try.f71 ref16_Check.p [⟨ref16_slots.p, ref16_slots.g F0⟩, ⟨ref16_code.p, ref16_code.g F1⟩, ⟨ref16_lines.p, ref16_lines.g F2⟩] [] [⟨0, ref16_Check_L0.p, ref16_Check_L0.g L0⟩] v k = ref16_Check.g (ref16_Check.body F0 F1 F2 L0) v k := fun v k => by kernel_rfl
theorem ref16_Check.ok : okF 7 ref16_Check.p (ref16_Check.g ref16_Check) := fn2 (ref16_Check.eq ref16_slots ref16_code ref16_lines (ref16_Check_L0 ROUNDS)) Try.func71 (by kernel_rfl) (.cons ref16_slots.ok (.cons ref16_code.ok (.cons ref16_lines.ok .nil))) [0] (by kernel_rfl) (.cons ref16_Check_L0.ok .nil)
/-- function 91: sheerleg/sheerlegref07.Need -/
abbrev T_ref07_Need : Type := Int → (Int → Option Bool) → Option Bool
noncomputable def ref07_Need.body (ref07_Name : T_ref07_Name) : T_ref07_Need := fun n274 k1 =>
  (ref07_Name n274
  (fun s275 => (cond_ ((ByteArray.toList s275) == (ByteArray.toList (⟨#[99, 97, 108, 108]⟩ : ByteArray))) (k1 (1 : Int)) (cond_ ((ByteArray.toList s275) == (ByteArray.toList (⟨#[102, 117, 110, 99]⟩ : ByteArray))) (k1 (2 : Int)) (cond_ ((ByteArray.toList s275) == (ByteArray.toList (⟨#[108, 111, 97, 100]⟩ : ByteArray))) (cond_ ((ByteArray.toList s275) == (ByteArray.toList (⟨#[108, 111, 97, 100]⟩ : ByteArray))) (k1 (3 : Int)) (cond_ ((ByteArray.toList s275) == (ByteArray.toList (⟨#[112, 105, 99, 107]⟩ : ByteArray))) (k1 (4 : Int)) (cond_ ((ByteArray.toList s275) == (ByteArray.toList (⟨#[100, 101, 102, 101, 114]⟩ : ByteArray))) (k1 (5 : Int)) (k1 (0 : Int))))) (cond_ ((ByteArray.toList s275) == (ByteArray.toList (⟨#[115, 116, 111, 114, 101]⟩ : ByteArray))) (k1 (3 : Int)) (cond_ ((ByteArray.toList s275) == (ByteArray.toList (⟨#[112, 105, 99, 107]⟩ : ByteArray))) (k1 (4 : Int)) (cond_ ((ByteArray.toList s275) == (ByteArray.toList (⟨#[100, 101, 102, 101, 114]⟩ : ByteArray))) (k1 (5 : Int)) (k1 (0 : Int))))))))))
noncomputable def ref07_Need : T_ref07_Need := ref07_Need.body ref07_Name
def ref07_Need.p : FPat := fp 91 (pl (pd (.int .i64)) pz) pz
def ref07_Need.g (F : T_ref07_Need) (v : ref07_Need.p.T) (k : KR) : Option Bool := F v.1.1 (fun y0 => k (.d ⟨(.int .i64), y0⟩) [])
theorem ref07_Need.eq (F0 : T_ref07_Name) : ∀ v k, exF Try.f91 ref07_Need.p [⟨ref07_Name.p, ref07_Name.g F0⟩] [] [] v k = ref07_Need.g (ref07_Need.body F0) v k := fun v k => by kernel_rfl
theorem ref07_Need.ok : okF 3 ref07_Need.p (ref07_Need.g ref07_Need) := fn2 (ref07_Need.eq ref07_Name) Try.func91 (by kernel_rfl) (.cons ref07_Name.ok .nil) [] (by kernel_rfl) .nil
/-- function 92: the loop in block 0 -/
abbrev T_ref17_has_L0 : Type := Int → Int → Tc12 → (Bool → Option Bool) → (Option Bool) → Option Bool
noncomputable def ref17_has_L0.body (ref17_has_L0 : T_ref17_has_L0) : T_ref17_has_L0 := fun n279 n280 t281 k1 k2 =>
  (cond_ (decide (n280 < (((List.length t281.2.2.2.2.2.2.2.2.1) : Nat) : Int))) (cond_ ((decide ((0 : Int) ≤ n280)) && (decide (n280 < (((List.length t281.2.2.2.2.2.2.2.2.1) : Nat) : Int)))) (cond_ ((List.getD t281.2.2.2.2.2.2.2.2.1 (Int.toNat n280) (0, (0, (false, ())))).1 == n279) (k1 true) (ref17_has_L0 n279 (IntKind.wrap .i64 (n280 + (1 : Int))) t281 k1 k2)) none) (k2))
noncomputable def ref17_has_L0 : Nat → T_ref17_has_L0
  | 0 => fun _ _ _ _ _ => none
  | n + 1 => ref17_has_L0.body (ref17_has_L0 n)
def ref17_has_L0.p : LPat := lp 2 21 [1, 2, 5] (pl (pd (.int .i64)) (ps (pq [1, 0] 0 0) (pl (pd (.int .i64)) pz))) (pl (po [1, 0] 71 9 (es Ty18 (pl eh pz))) pz)
def ref17_has_L0.g (F : T_ref17_has_L0) (v : ref17_has_L0.p.T) (k : KE) : Option Bool := F v.1.1 v.1.2.1 v.2.1.1 (fun y0 => k .ret ⟨fillS 21 [4] [(.d ⟨.bool, y0⟩)], [], 2⟩) (k (.exit 0) ⟨fillS 21 [] [], [], 2⟩)
theorem ref17_has_L0.step (S : T_ref17_has_L0) : ∀ v k, exR 92 Try.f92 0 ref17_has_L0.p [] [] [] (ref17_has_L0.g S) v k = ref17_has_L0.g (ref17_has_L0.body S) v k := fun v k => by kernel_rfl
theorem ref17_has_L0.ok : okL 92 Try.f92 0 0 ref17_has_L0.p (ref17_has_L0.g (ref17_has_L0 ROUNDS)) := loop2 (G := fun n => ref17_has_L0.g (ref17_has_L0 n)) (fun n => ref17_has_L0.step (ref17_has_L0 n)) .nil [] (by kernel_rfl) .nil (fun _ _ => rfl)
/-- function 92: sheerleg/sheerlegref17.has -/
abbrev T_ref17_has : Type := Tc12 → Int → (Bool → Option Bool) → Option Bool
noncomputable def ref17_has.body (ref17_has_L0 : T_ref17_has_L0) : T_ref17_has := fun t277 n278 k1 =>
  (ref17_has_L0 n278 (0 : Int) t277
  (fun b282 => (k1 b282))
  (k1 false))
noncomputable def ref17_has : T_ref17_has := ref17_has.body (ref17_has_L0 ROUNDS)
def ref17_has.p : FPat := fp 92 (pl (pd Ty18) (pl (pd (.int .i64)) pz)) pz
def ref17_has.g (F : T_ref17_has) (v : ref17_has.p.T) (k : KR) : Option Bool := F v.1.1 v.1.2.1 (fun y0 => k (.d ⟨.bool, y0⟩) [])
theorem ref17_has.eq (L0 : T_ref17_has_L0) : ∀ v k, exF Try.f92 ref17_has.p [] [] [⟨0, ref17_has_L0.p, ref17_has_L0.g L0⟩] v k = ref17_has.g (ref17_has.body L0) v k := fun v k => by kernel_rfl
theorem ref17_has.ok : okF 1 ref17_has.p (ref17_has.g ref17_has) := fn2 (ref17_has.eq (ref17_has_L0 ROUNDS)) Try.func92 (by kernel_rfl) .nil [0] (by kernel_rfl) (.cons ref17_has_L0.ok .nil)
/-- function 52: the loop in block 0 -/
abbrev T_ref17_Sym_L0 : Type := Int → Int → Tc12 → (Int → Option Bool) → (Option Bool) → Option Bool
noncomputable def ref17_Sym_L0.body (ref17_Sym_L0 : T_ref17_Sym_L0) : T_ref17_Sym_L0 := fun n286 n287 t288 k1 k2 =>
  (cond_ (decide (n287 < (((List.length t288.2.2.2.2.2.2.2.2.1) : Nat) : Int))) (cond_ ((decide ((0 : Int) ≤ n287)) && (decide (n287 < (((List.length t288.2.2.2.2.2.2.2.2.1) : Nat) : Int)))) (cond_ ((List.getD t288.2.2.2.2.2.2.2.2.1 (Int.toNat n287) (0, (0, (false, ())))).1 == n286) (cond_ ((decide ((0 : Int) ≤ n287)) && (decide (n287 < (((List.length t288.2.2.2.2.2.2.2.2.1) : Nat) : Int)))) (k1 (List.getD t288.2.2.2.2.2.2.2.2.1 (Int.toNat n287) (0, (0, (false, ())))).2.1) none) (ref17_Sym_L0 n286 (IntKind.wrap .i64 (n287 + (1 : Int))) t288 k1 k2)) none) (k2))
noncomputable def ref17_Sym_L0 : Nat → T_ref17_Sym_L0
  | 0 => fun _ _ _ _ _ => none
  | n + 1 => ref17_Sym_L0.body (ref17_Sym_L0 n)
def ref17_Sym_L0.p : LPat := lp 2 27 [1, 2, 5] (pl (pd (.int .i64)) (ps (pq [1, 0] 0 0) (pl (pd (.int .i64)) pz))) (pl (po [1, 0] 71 9 (es Ty18 (pl eh pz))) pz)
def ref17_Sym_L0.g (F : T_ref17_Sym_L0) (v : ref17_Sym_L0.p.T) (k : KE) : Option Bool := F v.1.1 v.1.2.1 v.2.1.1 (fun y0 => k .ret ⟨fillS 27 [4] [(.d ⟨(.int .i64), y0⟩)], [], 2⟩) (k (.exit 0) ⟨fillS 27 [] [], [], 2⟩)
theorem ref17_Sym_L0.step (S : T_ref17_Sym_L0) : ∀ v k, exR 52 Try.f52 0 ref17_Sym_L0.p [] [] [] (ref17_Sym_L0.g S) v k = ref17_Sym_L0.g (ref17_Sym_L0.body S) v k := fun v k => by kernel_rfl
theorem ref17_Sym_L0.ok : okL 52 Try.f52 0 0 ref17_Sym_L0.p (ref17_Sym_L0.g (ref17_Sym_L0 ROUNDS)) := loop2 (G := fun n => ref17_Sym_L0.g (ref17_Sym_L0 n)) (fun n => ref17_Sym_L0.step (ref17_Sym_L0 n)) .nil [] (by kernel_rfl) .nil (fun _ _ => rfl)
/-- function 52: sheerleg/sheerlegref17.Sym -/
abbrev T_ref17_Sym : Type := Tc12 → Int → (Int → Option Bool) → Option Bool
noncomputable def ref17_Sym.body (ref17_Sym_L0 : T_ref17_Sym_L0) : T_ref17_Sym := fun t284 n285 k1 =>
  (ref17_Sym_L0 n285 (0 : Int) t284
  (fun n289 => (k1 n289))
  (k1 (-1 : Int)))
noncomputable def ref17_Sym : T_ref17_Sym := ref17_Sym.body (ref17_Sym_L0 ROUNDS)
def ref17_Sym.p : FPat := fp 52 (pl (pd Ty18) (pl (pd (.int .i64)) pz)) pz
def ref17_Sym.g (F : T_ref17_Sym) (v : ref17_Sym.p.T) (k : KR) : Option Bool := F v.1.1 v.1.2.1 (fun y0 => k (.d ⟨(.int .i64), y0⟩) [])
theorem ref17_Sym.eq (L0 : T_ref17_Sym_L0) : ∀ v k, exF Try.f52 ref17_Sym.p [] [] [⟨0, ref17_Sym_L0.p, ref17_Sym_L0.g L0⟩] v k = ref17_Sym.g (ref17_Sym.body L0) v k := fun v k => by kernel_rfl
theorem ref17_Sym.ok : okF 1 ref17_Sym.p (ref17_Sym.g ref17_Sym) := fn2 (ref17_Sym.eq (ref17_Sym_L0 ROUNDS)) Try.func52 (by kernel_rfl) .nil [0] (by kernel_rfl) (.cons ref17_Sym_L0.ok .nil)
/-- function 93: sheerleg/sheerlegref17.fits -/
abbrev T_ref17_fits : Type := Int → Tc4 → (Bool → Option Bool) → Option Bool
noncomputable def ref17_fits.body (ref05_Is : T_ref05_Is) : T_ref17_fits := fun n291 t292 k1 =>
  (cond_ (n291 == (1 : Int)) (cond_ (n291 == (1 : Int)) (k1 (t292.2.2.1 == (1 : Int))) (cond_ (n291 == (3 : Int)) (cond_ (t292.2.2.1 == (2 : Int)) (k1 (t292.2.2.2.1 == (0 : Int))) (k1 false)) (cond_ (t292.2.2.1 == (2 : Int)) (ref05_Is (IntKind.wrap .i64 (t292.2.2.2.1 - (1 : Int)))
  (fun b293 => (k1 b293))) (k1 false)))) (cond_ (n291 == (2 : Int)) (cond_ (n291 == (2 : Int)) (k1 (t292.2.2.1 == (1 : Int))) (cond_ (n291 == (3 : Int)) (cond_ (t292.2.2.1 == (2 : Int)) (k1 (t292.2.2.2.1 == (0 : Int))) (k1 false)) (cond_ (t292.2.2.1 == (2 : Int)) (ref05_Is (IntKind.wrap .i64 (t292.2.2.2.1 - (1 : Int)))
  (fun b294 => (k1 b294))) (k1 false)))) (cond_ (n291 == (5 : Int)) (k1 (t292.2.2.1 == (1 : Int))) (cond_ (n291 == (3 : Int)) (cond_ (t292.2.2.1 == (2 : Int)) (k1 (t292.2.2.2.1 == (0 : Int))) (k1 false)) (cond_ (t292.2.2.1 == (2 : Int)) (ref05_Is (IntKind.wrap .i64 (t292.2.2.2.1 - (1 : Int)))
  (fun b295 => (k1 b295))) (k1 false))))))
noncomputable def ref17_fits : T_ref17_fits := ref17_fits.body ref05_Is
def ref17_fits.p : FPat := fp 93 (pl (pd (.int .i64)) (pl (pd Ty9) pz)) pz
def ref17_fits.g (F : T_ref17_fits) (v : ref17_fits.p.T) (k : KR) : Option Bool := F v.1.1 v.1.2.1 (fun y0 => k (.d ⟨.bool, y0⟩) [])
theorem ref17_fits.eq (F0 : T_ref05_Is) : ∀ v k, exF Try.f93 ref17_fits.p [⟨ref05_Is.p, ref05_Is.g F0⟩] [] [] v k = ref17_fits.g (ref17_fits.body F0) v k := fun v k => by kernel_rfl
theorem ref17_fits.ok : okF 2 ref17_fits.p (ref17_fits.g ref17_fits) := fn2 (ref17_fits.eq ref05_Is) Try.func93 (by kernel_rfl) (.cons ref05_Is.ok .nil) [] (by kernel_rfl) .nil
/-- function 79: sheerleg/sheerlegref17.refers -/
abbrev T_ref17_refers : Type := Tc12 → Tc7 → Int → (Tc4 → Int → Option Bool) → Option Bool
noncomputable def ref17_refers.body (ref07_Need : T_ref07_Need) (ref17_has : T_ref17_has) (ref17_Sym : T_ref17_Sym) (ref17_fits : T_ref17_fits) : T_ref17_refers := fun t271 ts272 n273 k1 =>
  (cond_ ((decide ((0 : Int) ≤ n273)) && (decide (n273 < (((List.length t271.2.2.2.2.2.2.2.1) : Nat) : Int)))) (ref07_Need (List.getD t271.2.2.2.2.2.2.2.1 (Int.toNat n273) (0, (0, (0, (0, (0, ())))))).1
  (fun n276 => (ref17_has t271 n273
  (fun b283 => (cond_ (! ((decide (n276 > (0 : Int))) == b283)) (k1 ((⟨#[]⟩ : ByteArray), (false, (0, (0, (0, ()))))) (11 : Int)) (cond_ (n276 == (0 : Int)) (k1 ((⟨#[]⟩ : ByteArray), (false, (0, (0, (0, ()))))) (0 : Int)) (ref17_Sym t271 n273
  (fun n290 => (cond_ (! (decide (n290 < (0 : Int)))) (cond_ (decide (n290 ≥ (List.length ts272 : Int))) (k1 ((⟨#[]⟩ : ByteArray), (false, (0, (0, (0, ()))))) (11 : Int)) (cond_ ((decide ((0 : Int) ≤ n290)) && (decide (n290 < (List.length ts272 : Int)))) (ref17_fits n276 (List.getD ts272 (Int.toNat n290) ((⟨#[]⟩ : ByteArray), (false, (0, (0, (0, ()))))))
  (fun b296 => (cond_ (! b296) (k1 ((⟨#[]⟩ : ByteArray), (false, (0, (0, (0, ()))))) (8 : Int)) (cond_ ((decide ((0 : Int) ≤ n290)) && (decide (n290 < (List.length ts272 : Int)))) (k1 (List.getD ts272 (Int.toNat n290) ((⟨#[]⟩ : ByteArray), (false, (0, (0, (0, ())))))) (0 : Int)) none)))) none)) (k1 ((⟨#[]⟩ : ByteArray), (false, (0, (0, (0, ()))))) (11 : Int))))))))))) none)
noncomputable def ref17_refers : T_ref17_refers := ref17_refers.body ref07_Need ref17_has ref17_Sym ref17_fits
def ref17_refers.p : FPat := fp 79 (pl (pd Ty18) (pl (pb 0 87 Ty9) (pl (pd (.int .i64)) pz))) pz
def ref17_refers.g (F : T_ref17_refers) (v : ref17_refers.p.T) (k : KR) : Option Bool := F v.1.1 v.1.2.1 v.1.2.2.1 (fun y0 y1 => k (.tup [(.d ⟨Ty9, y0⟩), (.d ⟨(.int .i64), y1⟩)]) [])
theorem ref17_refers.eq (F0 : T_ref07_Need) (F1 : T_ref17_has) (F2 : T_ref17_Sym) (F3 : T_ref17_fits) : ∀ v k, exF Try.f79 ref17_refers.p [⟨ref07_Need.p, ref07_Need.g F0⟩, ⟨ref17_has.p, ref17_has.g F1⟩, ⟨ref17_Sym.p, ref17_Sym.g F2⟩, ⟨ref17_fits.p, ref17_fits.g F3⟩] [] [] v k = ref17_refers.g (ref17_refers.body F0 F1 F2 F3) v k := fun v k => by kernel_rfl
theorem ref17_refers.ok : okF 4 ref17_refers.p (ref17_refers.g ref17_refers) := fn2 (ref17_refers.eq ref07_Need ref17_has ref17_Sym ref17_fits) Try.func79 (by kernel_rfl) (.cons ref07_Need.ok (.cons ref17_has.ok (.cons ref17_Sym.ok (.cons ref17_fits.ok .nil)))) [] (by kernel_rfl) .nil
/-- function 80: sheerleg/sheerlegref05.Later -/
abbrev T_ref05_Later : Type := Int → (Bool → Option Bool) → Option Bool
noncomputable def ref05_Later.body : T_ref05_Later := fun n300 k1 =>
  (cond_ (! (n300 == (0 : Int))) (k1 (n300 == (2 : Int))) (k1 true))
noncomputable def ref05_Later : T_ref05_Later := ref05_Later.body
def ref05_Later.p : FPat := fp 80 (pl (pd (.int .i64)) pz) pz
def ref05_Later.g (F : T_ref05_Later) (v : ref05_Later.p.T) (k : KR) : Option Bool := F v.1.1 (fun y0 => k (.d ⟨.bool, y0⟩) [])
theorem ref05_Later.eq : ∀ v k, exF Try.f80 ref05_Later.p [] [] [] v k = ref05_Later.g (ref05_Later.body) v k := fun v k => by kernel_rfl
theorem ref05_Later.ok : okF 1 ref05_Later.p (ref05_Later.g ref05_Later) := fn2 (ref05_Later.eq) Try.func80 (by kernel_rfl) .nil [] (by kernel_rfl) .nil
/-- function 95: sheerleg/sheerlegref17.slot -/
abbrev T_ref17_slot : Type := Tc12 → Int → Int → (Int → Option Bool) → Option Bool
noncomputable def ref17_slot.body : T_ref17_slot := fun t314 n315 n316 k1 =>
  (cond_ (! (decide (n315 < (0 : Int)))) (cond_ (decide (n315 ≥ (((List.length t314.2.1) : Nat) : Int))) (k1 (9 : Int)) (cond_ ((decide ((0 : Int) ≤ n315)) && (decide (n315 < (((List.length t314.2.1) : Nat) : Int)))) (cond_ ((List.getD t314.2.1 (Int.toNat n315) (0 : Int)) != n316) (k1 (8 : Int)) (k1 (0 : Int))) none)) (k1 (9 : Int)))
noncomputable def ref17_slot : T_ref17_slot := ref17_slot.body
def ref17_slot.p : FPat := fp 95 (pl (pd Ty18) (pl (pd (.int .i64)) (pl (pd (.int .i64)) pz))) pz
def ref17_slot.g (F : T_ref17_slot) (v : ref17_slot.p.T) (k : KR) : Option Bool := F v.1.1 v.1.2.1 v.1.2.2.1 (fun y0 => k (.d ⟨(.int .i64), y0⟩) [])
theorem ref17_slot.eq : ∀ v k, exF Try.f95 ref17_slot.p [] [] [] v k = ref17_slot.g (ref17_slot.body) v k := fun v k => by kernel_rfl
theorem ref17_slot.ok : okF 1 ref17_slot.p (ref17_slot.g ref17_slot) := fn2 (ref17_slot.eq) Try.func95 (by kernel_rfl) .nil [] (by kernel_rfl) .nil
/-- function 98: sheerleg/sheerlegref05.Answers -/
abbrev T_ref05_Answers : Type := Int → (Bool → Option Bool) → Option Bool
noncomputable def ref05_Answers.body (ref05_Is : T_ref05_Is) : T_ref05_Answers := fun n323 k1 =>
  (ref05_Is n323
  (fun b324 => (cond_ b324 (k1 ((Int.tmod n323 (2 : Int)) == (1 : Int))) (k1 false))))
noncomputable def ref05_Answers : T_ref05_Answers := ref05_Answers.body ref05_Is
def ref05_Answers.p : FPat := fp 98 (pl (pd (.int .i64)) pz) pz
def ref05_Answers.g (F : T_ref05_Answers) (v : ref05_Answers.p.T) (k : KR) : Option Bool := F v.1.1 (fun y0 => k (.d ⟨.bool, y0⟩) [])
theorem ref05_Answers.eq (F0 : T_ref05_Is) : ∀ v k, exF Try.f98 ref05_Answers.p [⟨ref05_Is.p, ref05_Is.g F0⟩] [] [] v k = ref05_Answers.g (ref05_Answers.body F0) v k := fun v k => by kernel_rfl
theorem ref05_Answers.ok : okF 2 ref05_Answers.p (ref05_Answers.g ref05_Answers) := fn2 (ref05_Answers.eq ref05_Is) Try.func98 (by kernel_rfl) (.cons ref05_Is.ok .nil) [] (by kernel_rfl) .nil
/-- function 96: the loop in block 0 -/
abbrev T_ref17_called_L0 : Type := Int → Int → Int → Tc12 → (Int → Option Bool) → (Option Bool) → Option Bool
noncomputable def ref17_called_L0.body (ref17_called_L0 : T_ref17_called_L0) (ref17_slot : T_ref17_slot) : T_ref17_called_L0 := fun n326 n327 n328 t329 k1 k2 =>
  (cond_ (decide (n328 < (if (n327 < (1 : Int)) then (1 : Int) else n327))) (ref17_slot t329 (IntKind.wrap .i64 (n326 + n328)) (0 : Int)
  (fun n330 => (cond_ (n330 != (0 : Int)) (k1 n330) (ref17_called_L0 n326 n327 (IntKind.wrap .i64 (n328 + (1 : Int))) t329 k1 k2)))) (k2))
noncomputable def ref17_called_L0 : Nat → T_ref17_called_L0
  | 0 => fun _ _ _ _ _ _ => none
  | n + 1 => ref17_called_L0.body (ref17_called_L0 n) ref17_slot
def ref17_called_L0.p : LPat := lp 2 35 [1, 3, 7, 8] (pl (pd (.int .i64)) (ps (pq [1, 0] 0 0) (pl (pd (.int .i64)) (pl (pd (.int .i64)) pz)))) (pl (po [1, 0] 71 9 (es Ty18 (pl eh pz))) pz)
def ref17_called_L0.g (F : T_ref17_called_L0) (v : ref17_called_L0.p.T) (k : KE) : Option Bool := F v.1.1 v.1.2.1 v.1.2.2.1 v.2.1.1 (fun y0 => k .ret ⟨fillS 35 [6] [(.d ⟨(.int .i64), y0⟩)], [], 2⟩) (k (.exit 0) ⟨fillS 35 [] [], [], 2⟩)
theorem ref17_called_L0.step (S : T_ref17_called_L0) (F0 : T_ref17_slot) : ∀ v k, exR 96 Try.f96 0 ref17_called_L0.p [⟨ref17_slot.p, ref17_slot.g F0⟩] [] [] (ref17_called_L0.g S) v k = ref17_called_L0.g (ref17_called_L0.body S F0) v k := fun v k => by kernel_rfl
theorem ref17_called_L0.ok : okL 96 Try.f96 1 0 ref17_called_L0.p (ref17_called_L0.g (ref17_called_L0 ROUNDS)) := loop2 (G := fun n => ref17_called_L0.g (ref17_called_L0 n)) (fun n => ref17_called_L0.step (ref17_called_L0 n) ref17_slot) (.cons ref17_slot.ok .nil) [] (by kernel_rfl) .nil (fun _ _ => rfl)
/-- function 96: sheerleg/sheerlegref17.called -/
abbrev T_ref17_called : Type := Tc12 → Int → Int → (Int → Option Bool) → Option Bool
noncomputable def ref17_called.body (ref05_Params : T_ref05_Params) (ref05_Answers : T_ref05_Answers) (ref17_called_L0 : T_ref17_called_L0) : T_ref17_called := fun t319 n320 n321 k1 =>
  (ref05_Params n321
  (fun n322 => (cond_ (n322 == (0 : Int)) (ref05_Answers n321
  (fun b325 => (cond_ (! b325) (cond_ (n320 != (0 : Int)) (k1 (2 : Int)) (k1 (0 : Int))) (ref17_called_L0 n320 n322 (0 : Int) t319
  (fun n331 => (k1 n331))
  (k1 (0 : Int)))))) (ref17_called_L0 n320 n322 (0 : Int) t319
  (fun n332 => (k1 n332))
  (k1 (0 : Int))))))
noncomputable def ref17_called : T_ref17_called := ref17_called.body ref05_Params ref05_Answers (ref17_called_L0 ROUNDS)
def ref17_called.p : FPat := fp 96 (pl (pd Ty18) (pl (pd (.int .i64)) (pl (pd (.int .i64)) pz))) pz
def ref17_called.g (F : T_ref17_called) (v : ref17_called.p.T) (k : KR) : Option Bool := F v.1.1 v.1.2.1 v.1.2.2.1 (fun y0 => k (.d ⟨(.int .i64), y0⟩) [])
theorem ref17_called.eq (F0 : T_ref05_Params) (F1 : T_ref05_Answers) (L0 : T_ref17_called_L0) : ∀ v k, exF Try.f96 ref17_called.p [⟨ref05_Params.p, ref05_Params.g F0⟩, ⟨ref05_Answers.p, ref05_Answers.g F1⟩] [] [⟨0, ref17_called_L0.p, ref17_called_L0.g L0⟩] v k = ref17_called.g (ref17_called.body F0 F1 L0) v k := fun v k => by kernel_rfl
theorem ref17_called.ok : okF 3 ref17_called.p (ref17_called.g ref17_called) := fn2 (ref17_called.eq ref05_Params ref05_Answers (ref17_called_L0 ROUNDS)) Try.func96 (by kernel_rfl) (.cons ref05_Params.ok (.cons ref05_Answers.ok .nil)) [0] (by kernel_rfl) (.cons ref17_called_L0.ok .nil)
/-- function 97: sheerleg/sheerlegref17.perhaps -/
abbrev T_ref17_perhaps : Type := Tc12 → Int → Bool → (Int → Option Bool) → Option Bool
noncomputable def ref17_perhaps.body (ref17_slot : T_ref17_slot) : T_ref17_perhaps := fun t335 n336 b337 k1 =>
  (cond_ b337 (ref17_slot t335 n336 (0 : Int)
  (fun n338 => (k1 n338))) (cond_ (n336 != (0 : Int)) (k1 (2 : Int)) (k1 (0 : Int))))
noncomputable def ref17_perhaps : T_ref17_perhaps := ref17_perhaps.body ref17_slot
def ref17_perhaps.p : FPat := fp 97 (pl (pd Ty18) (pl (pd (.int .i64)) (pl (pd .bool) pz))) pz
def ref17_perhaps.g (F : T_ref17_perhaps) (v : ref17_perhaps.p.T) (k : KR) : Option Bool := F v.1.1 v.1.2.1 v.1.2.2.1 (fun y0 => k (.d ⟨(.int .i64), y0⟩) [])
theorem ref17_perhaps.eq (F0 : T_ref17_slot) : ∀ v k, exF Try.f97 ref17_perhaps.p [⟨ref17_slot.p, ref17_slot.g F0⟩] [] [] v k = ref17_perhaps.g (ref17_perhaps.body F0) v k := fun v k => by kernel_rfl
theorem ref17_perhaps.ok : okF 2 ref17_perhaps.p (ref17_perhaps.g ref17_perhaps) := fn2 (ref17_perhaps.eq ref17_slot) Try.func97 (by kernel_rfl) (.cons ref17_slot.ok .nil) [] (by kernel_rfl) .nil
/-- function 82: sheerleg/sheerlegref17.operand -/
abbrev T_ref17_operand : Type := Tc12 → Tc2 → Tc4 → Int → Int → (Int → Option Bool) → Option Bool
noncomputable def ref17_operand.body (ref17_slot : T_ref17_slot) (ref17_called : T_ref17_called) (ref05_Params : T_ref05_Params) (ref17_perhaps : T_ref17_perhaps) (ref05_Answers : T_ref05_Answers) : T_ref17_operand := fun t309 t310 t311 n312 n313 k1 =>
  (cond_ (! (t310.1 == (19 : Int))) (cond_ (! (t310.1 == (17 : Int))) (cond_ (t310.1 == (21 : Int)) (cond_ (t310.1 == (18 : Int)) (cond_ (n312 == (119 : Int)) (cond_ (n312 == (119 : Int)) (ref17_slot t309 n313 (0 : Int)
  (fun n317 => (k1 n317))) (cond_ (n312 == (103 : Int)) (cond_ (n312 == (103 : Int)) (ref17_slot t309 n313 (IntKind.wrap .i64 ((1 : Int) + (IntKind.wrap .i64 (t311.2.2.2.1 - (1 : Int)))))
  (fun n318 => (k1 n318))) (cond_ (n312 == (99 : Int)) (ref17_called t309 n313 (IntKind.wrap .i64 (t311.2.2.2.1 - (1 : Int)))
  (fun n333 => (k1 n333))) (cond_ (n312 == (100 : Int)) (ref05_Params (IntKind.wrap .i64 (t311.2.2.2.1 - (1 : Int)))
  (fun n334 => (ref17_perhaps t309 n313 (decide (n334 > (0 : Int)))
  (fun n339 => (k1 n339))))) (cond_ (n312 == (118 : Int)) (ref05_Answers t309.1
  (fun b340 => (ref17_perhaps t309 n313 b340
  (fun n341 => (k1 n341))))) (k1 (0 : Int)))))) (cond_ (n312 == (102 : Int)) (ref17_slot t309 n313 (IntKind.wrap .i64 ((1 : Int) + (IntKind.wrap .i64 (t311.2.2.2.1 - (1 : Int)))))
  (fun n342 => (k1 n342))) (cond_ (n312 == (99 : Int)) (ref17_called t309 n313 (IntKind.wrap .i64 (t311.2.2.2.1 - (1 : Int)))
  (fun n343 => (k1 n343))) (cond_ (n312 == (100 : Int)) (ref05_Params (IntKind.wrap .i64 (t311.2.2.2.1 - (1 : Int)))
  (fun n344 => (ref17_perhaps t309 n313 (decide (n344 > (0 : Int)))
  (fun n345 => (k1 n345))))) (cond_ (n312 == (118 : Int)) (ref05_Answers t309.1
  (fun b346 => (ref17_perhaps t309 n313 b346
  (fun n347 => (k1 n347))))) (k1 (0 : Int)))))))) (cond_ (n312 == (114 : Int)) (ref17_slot t309 n313 (0 : Int)
  (fun n348 => (k1 n348))) (cond_ (n312 == (103 : Int)) (cond_ (n312 == (103 : Int)) (ref17_slot t309 n313 (IntKind.wrap .i64 ((1 : Int) + (IntKind.wrap .i64 (t311.2.2.2.1 - (1 : Int)))))
  (fun n349 => (k1 n349))) (cond_ (n312 == (99 : Int)) (ref17_called t309 n313 (IntKind.wrap .i64 (t311.2.2.2.1 - (1 : Int)))
  (fun n350 => (k1 n350))) (cond_ (n312 == (100 : Int)) (ref05_Params (IntKind.wrap .i64 (t311.2.2.2.1 - (1 : Int)))
  (fun n351 => (ref17_perhaps t309 n313 (decide (n351 > (0 : Int)))
  (fun n352 => (k1 n352))))) (cond_ (n312 == (118 : Int)) (ref05_Answers t309.1
  (fun b353 => (ref17_perhaps t309 n313 b353
  (fun n354 => (k1 n354))))) (k1 (0 : Int)))))) (cond_ (n312 == (102 : Int)) (ref17_slot t309 n313 (IntKind.wrap .i64 ((1 : Int) + (IntKind.wrap .i64 (t311.2.2.2.1 - (1 : Int)))))
  (fun n355 => (k1 n355))) (cond_ (n312 == (99 : Int)) (ref17_called t309 n313 (IntKind.wrap .i64 (t311.2.2.2.1 - (1 : Int)))
  (fun n356 => (k1 n356))) (cond_ (n312 == (100 : Int)) (ref05_Params (IntKind.wrap .i64 (t311.2.2.2.1 - (1 : Int)))
  (fun n357 => (ref17_perhaps t309 n313 (decide (n357 > (0 : Int)))
  (fun n358 => (k1 n358))))) (cond_ (n312 == (118 : Int)) (ref05_Answers t309.1
  (fun b359 => (ref17_perhaps t309 n313 b359
  (fun n360 => (k1 n360))))) (k1 (0 : Int))))))))) (cond_ (n312 == (119 : Int)) (cond_ (n312 == (119 : Int)) (ref17_slot t309 n313 (0 : Int)
  (fun n361 => (k1 n361))) (cond_ (n312 == (103 : Int)) (cond_ (n312 == (103 : Int)) (ref17_slot t309 n313 (IntKind.wrap .i64 ((1 : Int) + t311.2.2.2.1))
  (fun n362 => (k1 n362))) (cond_ (n312 == (99 : Int)) (ref17_called t309 n313 t311.2.2.2.1
  (fun n363 => (k1 n363))) (cond_ (n312 == (100 : Int)) (ref05_Params t311.2.2.2.1
  (fun n364 => (ref17_perhaps t309 n313 (decide (n364 > (0 : Int)))
  (fun n365 => (k1 n365))))) (cond_ (n312 == (118 : Int)) (ref05_Answers t309.1
  (fun b366 => (ref17_perhaps t309 n313 b366
  (fun n367 => (k1 n367))))) (k1 (0 : Int)))))) (cond_ (n312 == (102 : Int)) (ref17_slot t309 n313 (IntKind.wrap .i64 ((1 : Int) + t311.2.2.2.1))
  (fun n368 => (k1 n368))) (cond_ (n312 == (99 : Int)) (ref17_called t309 n313 t311.2.2.2.1
  (fun n369 => (k1 n369))) (cond_ (n312 == (100 : Int)) (ref05_Params t311.2.2.2.1
  (fun n370 => (ref17_perhaps t309 n313 (decide (n370 > (0 : Int)))
  (fun n371 => (k1 n371))))) (cond_ (n312 == (118 : Int)) (ref05_Answers t309.1
  (fun b372 => (ref17_perhaps t309 n313 b372
  (fun n373 => (k1 n373))))) (k1 (0 : Int)))))))) (cond_ (n312 == (114 : Int)) (ref17_slot t309 n313 (0 : Int)
  (fun n374 => (k1 n374))) (cond_ (n312 == (103 : Int)) (cond_ (n312 == (103 : Int)) (ref17_slot t309 n313 (IntKind.wrap .i64 ((1 : Int) + t311.2.2.2.1))
  (fun n375 => (k1 n375))) (cond_ (n312 == (99 : Int)) (ref17_called t309 n313 t311.2.2.2.1
  (fun n376 => (k1 n376))) (cond_ (n312 == (100 : Int)) (ref05_Params t311.2.2.2.1
  (fun n377 => (ref17_perhaps t309 n313 (decide (n377 > (0 : Int)))
  (fun n378 => (k1 n378))))) (cond_ (n312 == (118 : Int)) (ref05_Answers t309.1
  (fun b379 => (ref17_perhaps t309 n313 b379
  (fun n380 => (k1 n380))))) (k1 (0 : Int)))))) (cond_ (n312 == (102 : Int)) (ref17_slot t309 n313 (IntKind.wrap .i64 ((1 : Int) + t311.2.2.2.1))
  (fun n381 => (k1 n381))) (cond_ (n312 == (99 : Int)) (ref17_called t309 n313 t311.2.2.2.1
  (fun n382 => (k1 n382))) (cond_ (n312 == (100 : Int)) (ref05_Params t311.2.2.2.1
  (fun n383 => (ref17_perhaps t309 n313 (decide (n383 > (0 : Int)))
  (fun n384 => (k1 n384))))) (cond_ (n312 == (118 : Int)) (ref05_Answers t309.1
  (fun b385 => (ref17_perhaps t309 n313 b385
  (fun n386 => (k1 n386))))) (k1 (0 : Int)))))))))) (cond_ (t310.1 == (18 : Int)) (cond_ (n312 == (119 : Int)) (cond_ (n312 == (119 : Int)) (ref17_slot t309 n313 (0 : Int)
  (fun n387 => (k1 n387))) (cond_ (n312 == (103 : Int)) (cond_ (n312 == (103 : Int)) (ref17_slot t309 n313 (IntKind.wrap .i64 ((1 : Int) + (IntKind.wrap .i64 (t311.2.2.2.1 - (1 : Int)))))
  (fun n388 => (k1 n388))) (cond_ (n312 == (99 : Int)) (ref17_called t309 n313 (IntKind.wrap .i64 (t311.2.2.2.1 - (1 : Int)))
  (fun n389 => (k1 n389))) (cond_ (n312 == (100 : Int)) (ref05_Params (IntKind.wrap .i64 (t311.2.2.2.1 - (1 : Int)))
  (fun n390 => (ref17_perhaps t309 n313 (decide (n390 > (0 : Int)))
  (fun n391 => (k1 n391))))) (cond_ (n312 == (118 : Int)) (ref05_Answers t309.1
  (fun b392 => (ref17_perhaps t309 n313 b392
  (fun n393 => (k1 n393))))) (k1 (0 : Int)))))) (cond_ (n312 == (102 : Int)) (ref17_slot t309 n313 (IntKind.wrap .i64 ((1 : Int) + (IntKind.wrap .i64 (t311.2.2.2.1 - (1 : Int)))))
  (fun n394 => (k1 n394))) (cond_ (n312 == (99 : Int)) (ref17_called t309 n313 (IntKind.wrap .i64 (t311.2.2.2.1 - (1 : Int)))
  (fun n395 => (k1 n395))) (cond_ (n312 == (100 : Int)) (ref05_Params (IntKind.wrap .i64 (t311.2.2.2.1 - (1 : Int)))
  (fun n396 => (ref17_perhaps t309 n313 (decide (n396 > (0 : Int)))
  (fun n397 => (k1 n397))))) (cond_ (n312 == (118 : Int)) (ref05_Answers t309.1
  (fun b398 => (ref17_perhaps t309 n313 b398
  (fun n399 => (k1 n399))))) (k1 (0 : Int)))))))) (cond_ (n312 == (114 : Int)) (ref17_slot t309 n313 (0 : Int)
  (fun n400 => (k1 n400))) (cond_ (n312 == (103 : Int)) (cond_ (n312 == (103 : Int)) (ref17_slot t309 n313 (IntKind.wrap .i64 ((1 : Int) + (IntKind.wrap .i64 (t311.2.2.2.1 - (1 : Int)))))
  (fun n401 => (k1 n401))) (cond_ (n312 == (99 : Int)) (ref17_called t309 n313 (IntKind.wrap .i64 (t311.2.2.2.1 - (1 : Int)))
  (fun n402 => (k1 n402))) (cond_ (n312 == (100 : Int)) (ref05_Params (IntKind.wrap .i64 (t311.2.2.2.1 - (1 : Int)))
  (fun n403 => (ref17_perhaps t309 n313 (decide (n403 > (0 : Int)))
  (fun n404 => (k1 n404))))) (cond_ (n312 == (118 : Int)) (ref05_Answers t309.1
  (fun b405 => (ref17_perhaps t309 n313 b405
  (fun n406 => (k1 n406))))) (k1 (0 : Int)))))) (cond_ (n312 == (102 : Int)) (ref17_slot t309 n313 (IntKind.wrap .i64 ((1 : Int) + (IntKind.wrap .i64 (t311.2.2.2.1 - (1 : Int)))))
  (fun n407 => (k1 n407))) (cond_ (n312 == (99 : Int)) (ref17_called t309 n313 (IntKind.wrap .i64 (t311.2.2.2.1 - (1 : Int)))
  (fun n408 => (k1 n408))) (cond_ (n312 == (100 : Int)) (ref05_Params (IntKind.wrap .i64 (t311.2.2.2.1 - (1 : Int)))
  (fun n409 => (ref17_perhaps t309 n313 (decide (n409 > (0 : Int)))
  (fun n410 => (k1 n410))))) (cond_ (n312 == (118 : Int)) (ref05_Answers t309.1
  (fun b411 => (ref17_perhaps t309 n313 b411
  (fun n412 => (k1 n412))))) (k1 (0 : Int))))))))) (cond_ (n312 == (119 : Int)) (cond_ (n312 == (119 : Int)) (ref17_slot t309 n313 (0 : Int)
  (fun n413 => (k1 n413))) (cond_ (n312 == (103 : Int)) (cond_ (n312 == (103 : Int)) (ref17_slot t309 n313 (IntKind.wrap .i64 ((1 : Int) + t310.2.2.2.1))
  (fun n414 => (k1 n414))) (cond_ (n312 == (99 : Int)) (ref17_called t309 n313 t310.2.2.2.1
  (fun n415 => (k1 n415))) (cond_ (n312 == (100 : Int)) (ref05_Params t310.2.2.2.1
  (fun n416 => (ref17_perhaps t309 n313 (decide (n416 > (0 : Int)))
  (fun n417 => (k1 n417))))) (cond_ (n312 == (118 : Int)) (ref05_Answers t309.1
  (fun b418 => (ref17_perhaps t309 n313 b418
  (fun n419 => (k1 n419))))) (k1 (0 : Int)))))) (cond_ (n312 == (102 : Int)) (ref17_slot t309 n313 (IntKind.wrap .i64 ((1 : Int) + t310.2.2.2.1))
  (fun n420 => (k1 n420))) (cond_ (n312 == (99 : Int)) (ref17_called t309 n313 t310.2.2.2.1
  (fun n421 => (k1 n421))) (cond_ (n312 == (100 : Int)) (ref05_Params t310.2.2.2.1
  (fun n422 => (ref17_perhaps t309 n313 (decide (n422 > (0 : Int)))
  (fun n423 => (k1 n423))))) (cond_ (n312 == (118 : Int)) (ref05_Answers t309.1
  (fun b424 => (ref17_perhaps t309 n313 b424
  (fun n425 => (k1 n425))))) (k1 (0 : Int)))))))) (cond_ (n312 == (114 : Int)) (ref17_slot t309 n313 (0 : Int)
  (fun n426 => (k1 n426))) (cond_ (n312 == (103 : Int)) (cond_ (n312 == (103 : Int)) (ref17_slot t309 n313 (IntKind.wrap .i64 ((1 : Int) + t310.2.2.2.1))
  (fun n427 => (k1 n427))) (cond_ (n312 == (99 : Int)) (ref17_called t309 n313 t310.2.2.2.1
  (fun n428 => (k1 n428))) (cond_ (n312 == (100 : Int)) (ref05_Params t310.2.2.2.1
  (fun n429 => (ref17_perhaps t309 n313 (decide (n429 > (0 : Int)))
  (fun n430 => (k1 n430))))) (cond_ (n312 == (118 : Int)) (ref05_Answers t309.1
  (fun b431 => (ref17_perhaps t309 n313 b431
  (fun n432 => (k1 n432))))) (k1 (0 : Int)))))) (cond_ (n312 == (102 : Int)) (ref17_slot t309 n313 (IntKind.wrap .i64 ((1 : Int) + t310.2.2.2.1))
  (fun n433 => (k1 n433))) (cond_ (n312 == (99 : Int)) (ref17_called t309 n313 t310.2.2.2.1
  (fun n434 => (k1 n434))) (cond_ (n312 == (100 : Int)) (ref05_Params t310.2.2.2.1
  (fun n435 => (ref17_perhaps t309 n313 (decide (n435 > (0 : Int)))
  (fun n436 => (k1 n436))))) (cond_ (n312 == (118 : Int)) (ref05_Answers t309.1
  (fun b437 => (ref17_perhaps t309 n313 b437
  (fun n438 => (k1 n438))))) (k1 (0 : Int))))))))))) (cond_ (t310.1 == (18 : Int)) (cond_ (n312 == (119 : Int)) (cond_ (n312 == (119 : Int)) (ref17_slot t309 n313 (0 : Int)
  (fun n439 => (k1 n439))) (cond_ (n312 == (103 : Int)) (cond_ (n312 == (103 : Int)) (ref17_slot t309 n313 (IntKind.wrap .i64 ((1 : Int) + (IntKind.wrap .i64 (t311.2.2.2.1 - (1 : Int)))))
  (fun n440 => (k1 n440))) (cond_ (n312 == (99 : Int)) (ref17_called t309 n313 (IntKind.wrap .i64 (t311.2.2.2.1 - (1 : Int)))
  (fun n441 => (k1 n441))) (cond_ (n312 == (100 : Int)) (ref05_Params (IntKind.wrap .i64 (t311.2.2.2.1 - (1 : Int)))
  (fun n442 => (ref17_perhaps t309 n313 (decide (n442 > (0 : Int)))
  (fun n443 => (k1 n443))))) (cond_ (n312 == (118 : Int)) (ref05_Answers t309.1
  (fun b444 => (ref17_perhaps t309 n313 b444
  (fun n445 => (k1 n445))))) (k1 (0 : Int)))))) (cond_ (n312 == (102 : Int)) (ref17_slot t309 n313 (IntKind.wrap .i64 ((1 : Int) + (IntKind.wrap .i64 (t311.2.2.2.1 - (1 : Int)))))
  (fun n446 => (k1 n446))) (cond_ (n312 == (99 : Int)) (ref17_called t309 n313 (IntKind.wrap .i64 (t311.2.2.2.1 - (1 : Int)))
  (fun n447 => (k1 n447))) (cond_ (n312 == (100 : Int)) (ref05_Params (IntKind.wrap .i64 (t311.2.2.2.1 - (1 : Int)))
  (fun n448 => (ref17_perhaps t309 n313 (decide (n448 > (0 : Int)))
  (fun n449 => (k1 n449))))) (cond_ (n312 == (118 : Int)) (ref05_Answers t309.1
  (fun b450 => (ref17_perhaps t309 n313 b450
  (fun n451 => (k1 n451))))) (k1 (0 : Int)))))))) (cond_ (n312 == (114 : Int)) (ref17_slot t309 n313 (0 : Int)
  (fun n452 => (k1 n452))) (cond_ (n312 == (103 : Int)) (cond_ (n312 == (103 : Int)) (ref17_slot t309 n313 (IntKind.wrap .i64 ((1 : Int) + (IntKind.wrap .i64 (t311.2.2.2.1 - (1 : Int)))))
  (fun n453 => (k1 n453))) (cond_ (n312 == (99 : Int)) (ref17_called t309 n313 (IntKind.wrap .i64 (t311.2.2.2.1 - (1 : Int)))
  (fun n454 => (k1 n454))) (cond_ (n312 == (100 : Int)) (ref05_Params (IntKind.wrap .i64 (t311.2.2.2.1 - (1 : Int)))
  (fun n455 => (ref17_perhaps t309 n313 (decide (n455 > (0 : Int)))
  (fun n456 => (k1 n456))))) (cond_ (n312 == (118 : Int)) (ref05_Answers t309.1
  (fun b457 => (ref17_perhaps t309 n313 b457
  (fun n458 => (k1 n458))))) (k1 (0 : Int)))))) (cond_ (n312 == (102 : Int)) (ref17_slot t309 n313 (IntKind.wrap .i64 ((1 : Int) + (IntKind.wrap .i64 (t311.2.2.2.1 - (1 : Int)))))
  (fun n459 => (k1 n459))) (cond_ (n312 == (99 : Int)) (ref17_called t309 n313 (IntKind.wrap .i64 (t311.2.2.2.1 - (1 : Int)))
  (fun n460 => (k1 n460))) (cond_ (n312 == (100 : Int)) (ref05_Params (IntKind.wrap .i64 (t311.2.2.2.1 - (1 : Int)))
  (fun n461 => (ref17_perhaps t309 n313 (decide (n461 > (0 : Int)))
  (fun n462 => (k1 n462))))) (cond_ (n312 == (118 : Int)) (ref05_Answers t309.1
  (fun b463 => (ref17_perhaps t309 n313 b463
  (fun n464 => (k1 n464))))) (k1 (0 : Int))))))))) (cond_ (n312 == (119 : Int)) (cond_ (n312 == (119 : Int)) (ref17_slot t309 n313 (0 : Int)
  (fun n465 => (k1 n465))) (cond_ (n312 == (103 : Int)) (cond_ (n312 == (103 : Int)) (ref17_slot t309 n313 (IntKind.wrap .i64 ((1 : Int) + t311.2.2.2.1))
  (fun n466 => (k1 n466))) (cond_ (n312 == (99 : Int)) (ref17_called t309 n313 t311.2.2.2.1
  (fun n467 => (k1 n467))) (cond_ (n312 == (100 : Int)) (ref05_Params t311.2.2.2.1
  (fun n468 => (ref17_perhaps t309 n313 (decide (n468 > (0 : Int)))
  (fun n469 => (k1 n469))))) (cond_ (n312 == (118 : Int)) (ref05_Answers t309.1
  (fun b470 => (ref17_perhaps t309 n313 b470
  (fun n471 => (k1 n471))))) (k1 (0 : Int)))))) (cond_ (n312 == (102 : Int)) (ref17_slot t309 n313 (IntKind.wrap .i64 ((1 : Int) + t311.2.2.2.1))
  (fun n472 => (k1 n472))) (cond_ (n312 == (99 : Int)) (ref17_called t309 n313 t311.2.2.2.1
  (fun n473 => (k1 n473))) (cond_ (n312 == (100 : Int)) (ref05_Params t311.2.2.2.1
  (fun n474 => (ref17_perhaps t309 n313 (decide (n474 > (0 : Int)))
  (fun n475 => (k1 n475))))) (cond_ (n312 == (118 : Int)) (ref05_Answers t309.1
  (fun b476 => (ref17_perhaps t309 n313 b476
  (fun n477 => (k1 n477))))) (k1 (0 : Int)))))))) (cond_ (n312 == (114 : Int)) (ref17_slot t309 n313 (0 : Int)
  (fun n478 => (k1 n478))) (cond_ (n312 == (103 : Int)) (cond_ (n312 == (103 : Int)) (ref17_slot t309 n313 (IntKind.wrap .i64 ((1 : Int) + t311.2.2.2.1))
  (fun n479 => (k1 n479))) (cond_ (n312 == (99 : Int)) (ref17_called t309 n313 t311.2.2.2.1
  (fun n480 => (k1 n480))) (cond_ (n312 == (100 : Int)) (ref05_Params t311.2.2.2.1
  (fun n481 => (ref17_perhaps t309 n313 (decide (n481 > (0 : Int)))
  (fun n482 => (k1 n482))))) (cond_ (n312 == (118 : Int)) (ref05_Answers t309.1
  (fun b483 => (ref17_perhaps t309 n313 b483
  (fun n484 => (k1 n484))))) (k1 (0 : Int)))))) (cond_ (n312 == (102 : Int)) (ref17_slot t309 n313 (IntKind.wrap .i64 ((1 : Int) + t311.2.2.2.1))
  (fun n485 => (k1 n485))) (cond_ (n312 == (99 : Int)) (ref17_called t309 n313 t311.2.2.2.1
  (fun n486 => (k1 n486))) (cond_ (n312 == (100 : Int)) (ref05_Params t311.2.2.2.1
  (fun n487 => (ref17_perhaps t309 n313 (decide (n487 > (0 : Int)))
  (fun n488 => (k1 n488))))) (cond_ (n312 == (118 : Int)) (ref05_Answers t309.1
  (fun b489 => (ref17_perhaps t309 n313 b489
  (fun n490 => (k1 n490))))) (k1 (0 : Int))))))))))) (cond_ (t310.1 == (18 : Int)) (cond_ (n312 == (119 : Int)) (cond_ (n312 == (119 : Int)) (ref17_slot t309 n313 (0 : Int)
  (fun n491 => (k1 n491))) (cond_ (n312 == (103 : Int)) (cond_ (n312 == (103 : Int)) (ref17_slot t309 n313 (IntKind.wrap .i64 ((1 : Int) + (IntKind.wrap .i64 (t311.2.2.2.1 - (1 : Int)))))
  (fun n492 => (k1 n492))) (cond_ (n312 == (99 : Int)) (ref17_called t309 n313 (IntKind.wrap .i64 (t311.2.2.2.1 - (1 : Int)))
  (fun n493 => (k1 n493))) (cond_ (n312 == (100 : Int)) (ref05_Params (IntKind.wrap .i64 (t311.2.2.2.1 - (1 : Int)))
  (fun n494 => (ref17_perhaps t309 n313 (decide (n494 > (0 : Int)))
  (fun n495 => (k1 n495))))) (cond_ (n312 == (118 : Int)) (ref05_Answers t309.1
  (fun b496 => (ref17_perhaps t309 n313 b496
  (fun n497 => (k1 n497))))) (k1 (0 : Int)))))) (cond_ (n312 == (102 : Int)) (ref17_slot t309 n313 (IntKind.wrap .i64 ((1 : Int) + (IntKind.wrap .i64 (t311.2.2.2.1 - (1 : Int)))))
  (fun n498 => (k1 n498))) (cond_ (n312 == (99 : Int)) (ref17_called t309 n313 (IntKind.wrap .i64 (t311.2.2.2.1 - (1 : Int)))
  (fun n499 => (k1 n499))) (cond_ (n312 == (100 : Int)) (ref05_Params (IntKind.wrap .i64 (t311.2.2.2.1 - (1 : Int)))
  (fun n500 => (ref17_perhaps t309 n313 (decide (n500 > (0 : Int)))
  (fun n501 => (k1 n501))))) (cond_ (n312 == (118 : Int)) (ref05_Answers t309.1
  (fun b502 => (ref17_perhaps t309 n313 b502
  (fun n503 => (k1 n503))))) (k1 (0 : Int)))))))) (cond_ (n312 == (114 : Int)) (ref17_slot t309 n313 (0 : Int)
  (fun n504 => (k1 n504))) (cond_ (n312 == (103 : Int)) (cond_ (n312 == (103 : Int)) (ref17_slot t309 n313 (IntKind.wrap .i64 ((1 : Int) + (IntKind.wrap .i64 (t311.2.2.2.1 - (1 : Int)))))
  (fun n505 => (k1 n505))) (cond_ (n312 == (99 : Int)) (ref17_called t309 n313 (IntKind.wrap .i64 (t311.2.2.2.1 - (1 : Int)))
  (fun n506 => (k1 n506))) (cond_ (n312 == (100 : Int)) (ref05_Params (IntKind.wrap .i64 (t311.2.2.2.1 - (1 : Int)))
  (fun n507 => (ref17_perhaps t309 n313 (decide (n507 > (0 : Int)))
  (fun n508 => (k1 n508))))) (cond_ (n312 == (118 : Int)) (ref05_Answers t309.1
  (fun b509 => (ref17_perhaps t309 n313 b509
  (fun n510 => (k1 n510))))) (k1 (0 : Int)))))) (cond_ (n312 == (102 : Int)) (ref17_slot t309 n313 (IntKind.wrap .i64 ((1 : Int) + (IntKind.wrap .i64 (t311.2.2.2.1 - (1 : Int)))))
  (fun n511 => (k1 n511))) (cond_ (n312 == (99 : Int)) (ref17_called t309 n313 (IntKind.wrap .i64 (t311.2.2.2.1 - (1 : Int)))
  (fun n512 => (k1 n512))) (cond_ (n312 == (100 : Int)) (ref05_Params (IntKind.wrap .i64 (t311.2.2.2.1 - (1 : Int)))
  (fun n513 => (ref17_perhaps t309 n313 (decide (n513 > (0 : Int)))
  (fun n514 => (k1 n514))))) (cond_ (n312 == (118 : Int)) (ref05_Answers t309.1
  (fun b515 => (ref17_perhaps t309 n313 b515
  (fun n516 => (k1 n516))))) (k1 (0 : Int))))))))) (cond_ (n312 == (119 : Int)) (cond_ (n312 == (119 : Int)) (ref17_slot t309 n313 (0 : Int)
  (fun n517 => (k1 n517))) (cond_ (n312 == (103 : Int)) (cond_ (n312 == (103 : Int)) (ref17_slot t309 n313 (IntKind.wrap .i64 ((1 : Int) + t311.2.2.2.1))
  (fun n518 => (k1 n518))) (cond_ (n312 == (99 : Int)) (ref17_called t309 n313 t311.2.2.2.1
  (fun n519 => (k1 n519))) (cond_ (n312 == (100 : Int)) (ref05_Params t311.2.2.2.1
  (fun n520 => (ref17_perhaps t309 n313 (decide (n520 > (0 : Int)))
  (fun n521 => (k1 n521))))) (cond_ (n312 == (118 : Int)) (ref05_Answers t309.1
  (fun b522 => (ref17_perhaps t309 n313 b522
  (fun n523 => (k1 n523))))) (k1 (0 : Int)))))) (cond_ (n312 == (102 : Int)) (ref17_slot t309 n313 (IntKind.wrap .i64 ((1 : Int) + t311.2.2.2.1))
  (fun n524 => (k1 n524))) (cond_ (n312 == (99 : Int)) (ref17_called t309 n313 t311.2.2.2.1
  (fun n525 => (k1 n525))) (cond_ (n312 == (100 : Int)) (ref05_Params t311.2.2.2.1
  (fun n526 => (ref17_perhaps t309 n313 (decide (n526 > (0 : Int)))
  (fun n527 => (k1 n527))))) (cond_ (n312 == (118 : Int)) (ref05_Answers t309.1
  (fun b528 => (ref17_perhaps t309 n313 b528
  (fun n529 => (k1 n529))))) (k1 (0 : Int)))))))) (cond_ (n312 == (114 : Int)) (ref17_slot t309 n313 (0 : Int)
  (fun n530 => (k1 n530))) (cond_ (n312 == (103 : Int)) (cond_ (n312 == (103 : Int)) (ref17_slot t309 n313 (IntKind.wrap .i64 ((1 : Int) + t311.2.2.2.1))
  (fun n531 => (k1 n531))) (cond_ (n312 == (99 : Int)) (ref17_called t309 n313 t311.2.2.2.1
  (fun n532 => (k1 n532))) (cond_ (n312 == (100 : Int)) (ref05_Params t311.2.2.2.1
  (fun n533 => (ref17_perhaps t309 n313 (decide (n533 > (0 : Int)))
  (fun n534 => (k1 n534))))) (cond_ (n312 == (118 : Int)) (ref05_Answers t309.1
  (fun b535 => (ref17_perhaps t309 n313 b535
  (fun n536 => (k1 n536))))) (k1 (0 : Int)))))) (cond_ (n312 == (102 : Int)) (ref17_slot t309 n313 (IntKind.wrap .i64 ((1 : Int) + t311.2.2.2.1))
  (fun n537 => (k1 n537))) (cond_ (n312 == (99 : Int)) (ref17_called t309 n313 t311.2.2.2.1
  (fun n538 => (k1 n538))) (cond_ (n312 == (100 : Int)) (ref05_Params t311.2.2.2.1
  (fun n539 => (ref17_perhaps t309 n313 (decide (n539 > (0 : Int)))
  (fun n540 => (k1 n540))))) (cond_ (n312 == (118 : Int)) (ref05_Answers t309.1
  (fun b541 => (ref17_perhaps t309 n313 b541
  (fun n542 => (k1 n542))))) (k1 (0 : Int)))))))))))
noncomputable def ref17_operand : T_ref17_operand := ref17_operand.body ref17_slot ref17_called ref05_Params ref17_perhaps ref05_Answers
def ref17_operand.p : FPat := fp 82 (pl (pd Ty18) (pl (pd Ty11) (pl (pd Ty9) (pl (pd (.int .u8)) (pl (pd (.int .i64)) pz))))) pz
def ref17_operand.g (F : T_ref17_operand) (v : ref17_operand.p.T) (k : KR) : Option Bool := F v.1.1 v.1.2.1 v.1.2.2.1 v.1.2.2.2.1 v.1.2.2.2.2.1 (fun y0 => k (.d ⟨(.int .i64), y0⟩) [])
theorem ref17_operand.eq (F0 : T_ref17_slot) (F1 : T_ref17_called) (F2 : T_ref05_Params) (F3 : T_ref17_perhaps) (F4 : T_ref05_Answers) : ∀ v k, exF Try.f82 ref17_operand.p [⟨ref17_slot.p, ref17_slot.g F0⟩, ⟨ref17_called.p, ref17_called.g F1⟩, ⟨ref05_Params.p, ref05_Params.g F2⟩, ⟨ref17_perhaps.p, ref17_perhaps.g F3⟩, ⟨ref05_Answers.p, ref05_Answers.g F4⟩] [] [] v k = ref17_operand.g (ref17_operand.body F0 F1 F2 F3 F4) v k := fun v k => by kernel_rfl
theorem ref17_operand.ok : okF 4 ref17_operand.p (ref17_operand.g ref17_operand) := fn2 (ref17_operand.eq ref17_slot ref17_called ref05_Params ref17_perhaps ref05_Answers) Try.func82 (by kernel_rfl) (.cons ref17_slot.ok (.cons ref17_called.ok (.cons ref05_Params.ok (.cons ref17_perhaps.ok (.cons ref05_Answers.ok .nil))))) [] (by kernel_rfl) .nil
/-- function 72: the loop in block 0 -/
abbrev T_ref17_Instr_L0 : Type := ByteArray → Int → Tc12 → Tc2 → Tc4 → (Int → Option Bool) → (Option Bool) → Option Bool
noncomputable def ref17_Instr_L0.body (ref17_Instr_L0 : T_ref17_Instr_L0) (ref08_Operand : T_ref08_Operand) (ref17_operand : T_ref17_operand) : T_ref17_Instr_L0 := fun s303 n304 t305 t306 t307 k1 k2 =>
  (cond_ (decide (n304 < (((ByteArray.size s303) : Nat) : Int))) (cond_ ((decide ((0 : Int) ≤ n304)) && (decide (n304 < (((ByteArray.size s303) : Nat) : Int)))) (ref08_Operand t306 n304
  (fun n308 => (ref17_operand t305 t306 t307 (((UInt8.toNat (List.getD (Array.toList (ByteArray.data s303)) (Int.toNat n304) (0 : UInt8))) : Nat) : Int) n308
  (fun n543 => (cond_ (n543 != (0 : Int)) (k1 n543) (ref17_Instr_L0 s303 (IntKind.wrap .i64 (n304 + (1 : Int))) t305 t306 t307 k1 k2)))))) none) (k2))
noncomputable def ref17_Instr_L0 : Nat → T_ref17_Instr_L0
  | 0 => fun _ _ _ _ _ _ _ => none
  | n + 1 => ref17_Instr_L0.body (ref17_Instr_L0 n) ref08_Operand ref17_operand
def ref17_Instr_L0.p : LPat := lp 2 79 [3, 7, 8, 10, 11] (ps (pq [1, 0] 0 0) (ps (pq [1, 1] 0 0) (ps (pq [1, 2] 0 0) (pl (pd .str) (pl (pd (.int .i64)) pz))))) (pl (po [1, 0] 71 9 (es Ty18 (pl eh pz))) (pl (po [1, 1] 91 5 (es Ty11 (pl eh pz))) (pl (po [1, 2] 87 5 (es Ty9 (pl eh pz))) pz)))
def ref17_Instr_L0.g (F : T_ref17_Instr_L0) (v : ref17_Instr_L0.p.T) (k : KE) : Option Bool := F v.1.1 v.1.2.1 v.2.1.1 v.2.2.1.1 v.2.2.2.1.1 (fun y0 => k .ret ⟨fillS 79 [6] [(.d ⟨(.int .i64), y0⟩)], [], 2⟩) (k (.exit 0) ⟨fillS 79 [] [], [], 2⟩)
theorem ref17_Instr_L0.step (S : T_ref17_Instr_L0) (F0 : T_ref08_Operand) (F1 : T_ref17_operand) : ∀ v k, exR 72 Try.f72 0 ref17_Instr_L0.p [⟨ref08_Operand.p, ref08_Operand.g F0⟩, ⟨ref17_operand.p, ref17_operand.g F1⟩] [] [] (ref17_Instr_L0.g S) v k = ref17_Instr_L0.g (ref17_Instr_L0.body S F0 F1) v k := fun v k => by kernel_rfl
theorem ref17_Instr_L0.ok : okL 72 Try.f72 4 0 ref17_Instr_L0.p (ref17_Instr_L0.g (ref17_Instr_L0 ROUNDS)) := loop2 (G := fun n => ref17_Instr_L0.g (ref17_Instr_L0 n)) (fun n => ref17_Instr_L0.step (ref17_Instr_L0 n) ref08_Operand ref17_operand) (.cons ref08_Operand.ok (.cons ref17_operand.ok .nil)) [] (by kernel_rfl) .nil (fun _ _ => rfl)
/-- function 72: sheerleg/sheerlegref17.Instr -/
abbrev T_ref17_Instr : Type := Tc12 → Tc7 → Int → (Int → Option Bool) → Option Bool
noncomputable def ref17_Instr.body (ref17_refers : T_ref17_refers) (ref05_Is : T_ref05_Is) (ref05_Later : T_ref05_Later) (ref07_Shape : T_ref07_Shape) (ref17_Instr_L0 : T_ref17_Instr_L0) : T_ref17_Instr := fun t268 ts269 n270 k1 =>
  (cond_ (! (decide (n270 < (0 : Int)))) (cond_ (decide (n270 ≥ (((List.length t268.2.2.2.2.2.2.2.1) : Nat) : Int))) (k1 (2 : Int)) (cond_ ((decide ((0 : Int) ≤ n270)) && (decide (n270 < (((List.length t268.2.2.2.2.2.2.2.1) : Nat) : Int)))) (ref17_refers t268 ts269 n270
  (fun t297 n298 => (cond_ (n298 != (0 : Int)) (k1 n298) (cond_ ((List.getD t268.2.2.2.2.2.2.2.1 (Int.toNat n270) (0, (0, (0, (0, (0, ())))))).1 == (20 : Int)) (ref05_Is (List.getD t268.2.2.2.2.2.2.2.1 (Int.toNat n270) (0, (0, (0, (0, (0, ())))))).2.2.2.1
  (fun b299 => (cond_ (! (! b299)) (cond_ ((List.getD t268.2.2.2.2.2.2.2.1 (Int.toNat n270) (0, (0, (0, (0, (0, ())))))).1 == (21 : Int)) (ref05_Later t297.2.2.2.1
  (fun b301 => (cond_ (! b301) (k1 (14 : Int)) (ref07_Shape (List.getD t268.2.2.2.2.2.2.2.1 (Int.toNat n270) (0, (0, (0, (0, (0, ())))))).1
  (fun s302 => (ref17_Instr_L0 s302 (0 : Int) t268 (List.getD t268.2.2.2.2.2.2.2.1 (Int.toNat n270) (0, (0, (0, (0, (0, ())))))) t297
  (fun n544 => (k1 n544))
  (k1 (0 : Int)))))))) (ref07_Shape (List.getD t268.2.2.2.2.2.2.2.1 (Int.toNat n270) (0, (0, (0, (0, (0, ())))))).1
  (fun s545 => (ref17_Instr_L0 s545 (0 : Int) t268 (List.getD t268.2.2.2.2.2.2.2.1 (Int.toNat n270) (0, (0, (0, (0, (0, ())))))) t297
  (fun n546 => (k1 n546))
  (k1 (0 : Int)))))) (k1 (14 : Int))))) (cond_ ((List.getD t268.2.2.2.2.2.2.2.1 (Int.toNat n270) (0, (0, (0, (0, (0, ())))))).1 == (21 : Int)) (ref05_Later t297.2.2.2.1
  (fun b547 => (cond_ (! b547) (k1 (14 : Int)) (ref07_Shape (List.getD t268.2.2.2.2.2.2.2.1 (Int.toNat n270) (0, (0, (0, (0, (0, ())))))).1
  (fun s548 => (ref17_Instr_L0 s548 (0 : Int) t268 (List.getD t268.2.2.2.2.2.2.2.1 (Int.toNat n270) (0, (0, (0, (0, (0, ())))))) t297
  (fun n549 => (k1 n549))
  (k1 (0 : Int)))))))) (ref07_Shape (List.getD t268.2.2.2.2.2.2.2.1 (Int.toNat n270) (0, (0, (0, (0, (0, ())))))).1
  (fun s550 => (ref17_Instr_L0 s550 (0 : Int) t268 (List.getD t268.2.2.2.2.2.2.2.1 (Int.toNat n270) (0, (0, (0, (0, (0, ())))))) t297
  (fun n551 => (k1 n551))
  (k1 (0 : Int)))))))))) none)) (k1 (2 : Int)))
noncomputable def ref17_Instr : T_ref17_Instr := ref17_Instr.body ref17_refers ref05_Is ref05_Later ref07_Shape (ref17_Instr_L0 ROUNDS)
def ref17_Instr.p : FPat := fp 72 (pl (pd Ty18) (pl (pb 0 87 Ty9) (pl (pd (.int .i64)) pz))) pz
def ref17_Instr.g (F : T_ref17_Instr) (v : ref17_Instr.p.T) (k : KR) : Option Bool := F v.1.1 v.1.2.1 v.1.2.2.1 (fun y0 => k (.d ⟨(.int .i64), y0⟩) [])
theorem ref17_Instr.eq (F0 : T_ref17_refers) (F1 : T_ref05_Is) (F2 : T_ref05_Later) (F3 : T_ref07_Shape) (L0 : T_ref17_Instr_L0) : ∀ v k, exF Try.f72 ref17_Instr.p [⟨ref17_refers.p, ref17_refers.g F0⟩, ⟨ref05_Is.p, ref05_Is.g F1⟩, ⟨ref05_Later.p, ref05_Later.g F2⟩, ⟨ref07_Shape.p, ref07_Shape.g F3⟩] [] [⟨0, ref17_Instr_L0.p, ref17_Instr_L0.g L0⟩] v k = ref17_Instr.g (ref17_Instr.body F0 F1 F2 F3 L0) v k := fun v k => by kernel_rfl
theorem ref17_Instr.ok : okF 5 ref17_Instr.p (ref17_Instr.g ref17_Instr) := fn2 (ref17_Instr.eq ref17_refers ref05_Is ref05_Later ref07_Shape (ref17_Instr_L0 ROUNDS)) Try.func72 (by kernel_rfl) (.cons ref17_refers.ok (.cons ref05_Is.ok (.cons ref05_Later.ok (.cons ref07_Shape.ok .nil)))) [0] (by kernel_rfl) (.cons ref17_Instr_L0.ok .nil)
/-- function 64: the loop in block 0 -/
abbrev T_ref17_Check_L0 : Type := Tc7 → Int → Tc12 → (Int → Int → Option Bool) → (Option Bool) → Option Bool
noncomputable def ref17_Check_L0.body (ref17_Check_L0 : T_ref17_Check_L0) (ref17_Instr : T_ref17_Instr) : T_ref17_Check_L0 := fun ts265 n266 t267 k1 k2 =>
  (cond_ (decide (n266 < (((List.length t267.2.2.2.2.2.2.2.1) : Nat) : Int))) (ref17_Instr t267 ts265 n266
  (fun n552 => (cond_ (n552 != (0 : Int)) (k1 n552 n266) (ref17_Check_L0 ts265 (IntKind.wrap .i64 (n266 + (1 : Int))) t267 k1 k2)))) (k2))
noncomputable def ref17_Check_L0 : Nat → T_ref17_Check_L0
  | 0 => fun _ _ _ _ _ => none
  | n + 1 => ref17_Check_L0.body (ref17_Check_L0 n) ref17_Instr
def ref17_Check_L0.p : LPat := lp 2 29 [1, 2, 7] (pl (pb 0 87 Ty9) (ps (pq [1, 0] 0 0) (pl (pd (.int .i64)) pz))) (pl (po [1, 0] 71 9 (es Ty18 (pl eh pz))) pz)
def ref17_Check_L0.g (F : T_ref17_Check_L0) (v : ref17_Check_L0.p.T) (k : KE) : Option Bool := F v.1.1 v.1.2.1 v.2.1.1 (fun y0 y1 => k .ret ⟨fillS 29 [4, 5] [(.d ⟨(.int .i64), y0⟩), (.d ⟨(.int .i64), y1⟩)], [], 2⟩) (k (.exit 0) ⟨fillS 29 [] [], [], 2⟩)
theorem ref17_Check_L0.step (S : T_ref17_Check_L0) (F0 : T_ref17_Instr) : ∀ v k, exR 64 Try.f64 0 ref17_Check_L0.p [⟨ref17_Instr.p, ref17_Instr.g F0⟩] [] [] (ref17_Check_L0.g S) v k = ref17_Check_L0.g (ref17_Check_L0.body S F0) v k := fun v k => by kernel_rfl
theorem ref17_Check_L0.ok : okL 64 Try.f64 5 0 ref17_Check_L0.p (ref17_Check_L0.g (ref17_Check_L0 ROUNDS)) := loop2 (G := fun n => ref17_Check_L0.g (ref17_Check_L0 n)) (fun n => ref17_Check_L0.step (ref17_Check_L0 n) ref17_Instr) (.cons ref17_Instr.ok .nil) [] (by kernel_rfl) .nil (fun _ _ => rfl)
/-- function 64: sheerleg/sheerlegref17.Check -/
abbrev T_ref17_Check : Type := Tc12 → Tc7 → (Int → Int → Option Bool) → Option Bool
noncomputable def ref17_Check.body (ref16_Check : T_ref16_Check) (ref17_Check_L0 : T_ref17_Check_L0) : T_ref17_Check := fun t193 ts194 k1 =>
  (ref16_Check t193
  (fun n264 => (cond_ (n264 != (0 : Int)) (k1 n264 (-1 : Int)) (ref17_Check_L0 ts194 (0 : Int) t193
  (fun n553 n554 => (k1 n553 n554))
  (k1 (0 : Int) (-1 : Int))))))
noncomputable def ref17_Check : T_ref17_Check := ref17_Check.body ref16_Check (ref17_Check_L0 ROUNDS)
def ref17_Check.p : FPat := fp 64 (pl (pd Ty18) (pl (pb 0 87 Ty9) pz)) pz
def ref17_Check.g (F : T_ref17_Check) (v : ref17_Check.p.T) (k : KR) : Option Bool := F v.1.1 v.1.2.1 (fun y0 y1 => k (.tup [(.d ⟨(.int .i64), y0⟩), (.d ⟨(.int .i64), y1⟩)]) [])
theorem ref17_Check.eq (F0 : T_ref16_Check) (L0 : T_ref17_Check_L0) : ∀ v k, exF Try.f64 ref17_Check.p [⟨ref16_Check.p, ref16_Check.g F0⟩] [] [⟨0, ref17_Check_L0.p, ref17_Check_L0.g L0⟩] v k = ref17_Check.g (ref17_Check.body F0 L0) v k := fun v k => by kernel_rfl
theorem ref17_Check.ok : okF 8 ref17_Check.p (ref17_Check.g ref17_Check) := fn2 (ref17_Check.eq ref16_Check (ref17_Check_L0 ROUNDS)) Try.func64 (by kernel_rfl) (.cons ref16_Check.ok .nil) [0] (by kernel_rfl) (.cons ref17_Check_L0.ok .nil)
/-- function 74: the loop in block 0 -/
abbrev T_ref18_Marks_L0 : Type := Tc5 → Int → (List Int) → ((List Int) → Option Bool) → Option Bool
noncomputable def ref18_Marks_L0.body (ref18_Marks_L0 : T_ref18_Marks_L0) : T_ref18_Marks_L0 := fun ts559 n560 ns561 k1 =>
  (cond_ (decide (n560 < (List.length ts559 : Int))) (cond_ ((decide ((0 : Int) ≤ n560)) && (decide (n560 < (List.length ts559 : Int)))) (cond_ ((List.getD ts559 (Int.toNat n560) (0, (0, (0, (0, (0, ())))))).1 == (21 : Int)) (cond_ (Nat.ble (((List.length ns561) + (List.length (n560 :: []))) * (8 : Nat)) (140737488355328 : Nat)) (ref18_Marks_L0 ts559 (IntKind.wrap .i64 (n560 + (1 : Int))) (ns561 ++ (n560 :: [])) k1) none) (ref18_Marks_L0 ts559 (IntKind.wrap .i64 (n560 + (1 : Int))) ns561 k1)) none) (k1 ns561))
noncomputable def ref18_Marks_L0 : Nat → T_ref18_Marks_L0
  | 0 => fun _ _ _ _ => none
  | n + 1 => ref18_Marks_L0.body (ref18_Marks_L0 n)
def ref18_Marks_L0.p : LPat := lp 2 22 [0, 3, 4] (pl (pb 0 91 Ty11) (ps (pr [1, 0]) (pl (pd (.int .i64)) pz))) (pl (po [1, 0] 3 1 (ed (.int .i64))) pz)
def ref18_Marks_L0.g (F : T_ref18_Marks_L0) (v : ref18_Marks_L0.p.T) (k : KE) : Option Bool := F v.1.1 v.1.2.1 v.2.1 (fun y0 => k (.exit 0) ⟨fillS 22 [3] [(.ref [1, 0])], [([1, 0], ⟨3, 1, (.data (.int .i64) y0)⟩)], 2⟩)
theorem ref18_Marks_L0.step (S : T_ref18_Marks_L0) : ∀ v k, exR 74 Try.f74 0 ref18_Marks_L0.p [] [] [] (ref18_Marks_L0.g S) v k = ref18_Marks_L0.g (ref18_Marks_L0.body S) v k := fun v k => by kernel_rfl
theorem ref18_Marks_L0.ok : okL 74 Try.f74 0 0 ref18_Marks_L0.p (ref18_Marks_L0.g (ref18_Marks_L0 ROUNDS)) := loop2 (G := fun n => ref18_Marks_L0.g (ref18_Marks_L0 n)) (fun n => ref18_Marks_L0.step (ref18_Marks_L0 n)) .nil [] (by kernel_rfl) .nil (fun _ _ => rfl)
/-- function 74: sheerleg/sheerlegref18.Marks -/
abbrev T_ref18_Marks : Type := Tc5 → ((List Int) → Option Bool) → Option Bool
noncomputable def ref18_Marks.body (ref18_Marks_L0 : T_ref18_Marks_L0) : T_ref18_Marks := fun ts558 k1 =>
  (ref18_Marks_L0 ts558 (0 : Int) []
  (fun ns562 => (k1 ns562)))
noncomputable def ref18_Marks : T_ref18_Marks := ref18_Marks.body (ref18_Marks_L0 ROUNDS)
def ref18_Marks.p : FPat := fp 74 (pl (pb 0 91 Ty11) pz) pz
def ref18_Marks.g (F : T_ref18_Marks) (v : ref18_Marks.p.T) (k : KR) : Option Bool := F v.1.1 (fun y0 => k (.ref [1, 0]) [([1, 0], ⟨3, 1, (.data (.int .i64) y0)⟩)])
theorem ref18_Marks.eq (L0 : T_ref18_Marks_L0) : ∀ v k, exF Try.f74 ref18_Marks.p [] [] [⟨0, ref18_Marks_L0.p, ref18_Marks_L0.g L0⟩] v k = ref18_Marks.g (ref18_Marks.body L0) v k := fun v k => by kernel_rfl
theorem ref18_Marks.ok : okF 1 ref18_Marks.p (ref18_Marks.g ref18_Marks) := fn2 (ref18_Marks.eq (ref18_Marks_L0 ROUNDS)) Try.func74 (by kernel_rfl) .nil [0] (by kernel_rfl) (.cons ref18_Marks_L0.ok .nil)
/-- function 73: the loop in block 0 -/
abbrev T_ref14_After_L0 : Type := Tc5 → (List Int) → Int → (List Int) → (Tc5 → (List Int) → Option Bool) → Option Bool
noncomputable def ref14_After_L0.body (ref14_After_L0 : T_ref14_After_L0) (ref14_Next : T_ref14_Next) : T_ref14_After_L0 := fun ts566 ns567 n568 ns569 k1 =>
  (cond_ (decide (n568 < (List.length ns567 : Int))) (cond_ ((decide ((0 : Int) ≤ n568)) && (decide (n568 < (List.length ns567 : Int)))) (ref14_Next ts566 (List.getD ns567 (Int.toNat n568) (0 : Int))
  (fun ns570 => (cond_ (Nat.ble (((List.length ns569) + (List.length ns570)) * (8 : Nat)) (140737488355328 : Nat)) (ref14_After_L0 ts566 ns567 (IntKind.wrap .i64 (n568 + (1 : Int))) (ns569 ++ ns570) k1) none))) none) (k1 ts566 ns569))
noncomputable def ref14_After_L0 : Nat → T_ref14_After_L0
  | 0 => fun _ _ _ _ _ => none
  | n + 1 => ref14_After_L0.body (ref14_After_L0 n) ref14_Next
def ref14_After_L0.p : LPat := lp 2 25 [0, 1, 5, 6] (pl (pb 0 91 Ty11) (pl (pb 1 3 (.int .i64)) (ps (pr [1, 0]) (pl (pd (.int .i64)) pz)))) (pl (po [1, 0] 3 1 (ed (.int .i64))) pz)
def ref14_After_L0.g (F : T_ref14_After_L0) (v : ref14_After_L0.p.T) (k : KE) : Option Bool := F v.1.1 v.1.2.1 v.1.2.2.1 v.2.1 (fun y0 y1 => k (.exit 0) ⟨fillS 25 [0, 5] [(.bv 0 91 Ty11 y0), (.ref [1, 0])], [([1, 0], ⟨3, 1, (.data (.int .i64) y1)⟩)], 2⟩)
theorem ref14_After_L0.step (S : T_ref14_After_L0) (F0 : T_ref14_Next) : ∀ v k, exR 73 Try.f73 0 ref14_After_L0.p [⟨ref14_Next.p, ref14_Next.g F0⟩] [] [] (ref14_After_L0.g S) v k = ref14_After_L0.g (ref14_After_L0.body S F0) v k := fun v k => by kernel_rfl
theorem ref14_After_L0.ok : okL 73 Try.f73 4 0 ref14_After_L0.p (ref14_After_L0.g (ref14_After_L0 ROUNDS)) := loop2 (G := fun n => ref14_After_L0.g (ref14_After_L0 n)) (fun n => ref14_After_L0.step (ref14_After_L0 n) ref14_Next) (.cons ref14_Next.ok .nil) [] (by kernel_rfl) .nil (fun _ _ => rfl)
/-- function 86: the loop in block 0 -/
abbrev T_ref14_Graph_L0 : Type := Tc5 → Int → (List (List Int)) → ((List (List Int)) → Option Bool) → Option Bool
noncomputable def ref14_Graph_L0.body (ref14_Graph_L0 : T_ref14_Graph_L0) (ref14_Next : T_ref14_Next) : T_ref14_Graph_L0 := fun ts574 n575 ls576 k1 =>
  (cond_ (decide (n575 < (List.length ts574 : Int))) (ref14_Next ts574 n575
  (fun ns577 => (cond_ (Nat.ble (((List.length ls576) + (List.length (ns577 :: []))) * (24 : Nat)) (140737488355328 : Nat)) (ref14_Graph_L0 ts574 (IntKind.wrap .i64 (n575 + (1 : Int))) (ls576 ++ (ns577 :: [])) k1) none))) (k1 ls576))
noncomputable def ref14_Graph_L0 : Nat → T_ref14_Graph_L0
  | 0 => fun _ _ _ _ => none
  | n + 1 => ref14_Graph_L0.body (ref14_Graph_L0 n) ref14_Next
def ref14_Graph_L0.p : LPat := lp 2 18 [0, 3, 4] (pl (pb 0 91 Ty11) (ps (pr [1, 0]) (pl (pd (.int .i64)) pz))) (pl (po [1, 0] 24 1 (ed Ty1)) pz)
def ref14_Graph_L0.g (F : T_ref14_Graph_L0) (v : ref14_Graph_L0.p.T) (k : KE) : Option Bool := F v.1.1 v.1.2.1 v.2.1 (fun y0 => k (.exit 0) ⟨fillS 18 [3] [(.ref [1, 0])], [([1, 0], ⟨24, 1, (.data Ty1 y0)⟩)], 2⟩)
theorem ref14_Graph_L0.step (S : T_ref14_Graph_L0) (F0 : T_ref14_Next) : ∀ v k, exR 86 Try.f86 0 ref14_Graph_L0.p [⟨ref14_Next.p, ref14_Next.g F0⟩] [] [] (ref14_Graph_L0.g S) v k = ref14_Graph_L0.g (ref14_Graph_L0.body S F0) v k := fun v k => by kernel_rfl
theorem ref14_Graph_L0.ok : okL 86 Try.f86 4 0 ref14_Graph_L0.p (ref14_Graph_L0.g (ref14_Graph_L0 ROUNDS)) := loop2 (G := fun n => ref14_Graph_L0.g (ref14_Graph_L0 n)) (fun n => ref14_Graph_L0.step (ref14_Graph_L0 n) ref14_Next) (.cons ref14_Next.ok .nil) [] (by kernel_rfl) .nil (fun _ _ => rfl)
/-- function 86: sheerleg/sheerlegref14.Graph -/
abbrev T_ref14_Graph : Type := Tc5 → ((List (List Int)) → Option Bool) → Option Bool
noncomputable def ref14_Graph.body (ref14_Graph_L0 : T_ref14_Graph_L0) : T_ref14_Graph := fun ts573 k1 =>
  (ref14_Graph_L0 ts573 (0 : Int) []
  (fun ls578 => (k1 ls578)))
noncomputable def ref14_Graph : T_ref14_Graph := ref14_Graph.body (ref14_Graph_L0 ROUNDS)
def ref14_Graph.p : FPat := fp 86 (pl (pb 0 91 Ty11) pz) pz
def ref14_Graph.g (F : T_ref14_Graph) (v : ref14_Graph.p.T) (k : KR) : Option Bool := F v.1.1 (fun y0 => k (.ref [1, 0]) [([1, 0], ⟨24, 1, (.data Ty1 y0)⟩)])
theorem ref14_Graph.eq (L0 : T_ref14_Graph_L0) : ∀ v k, exF Try.f86 ref14_Graph.p [] [] [⟨0, ref14_Graph_L0.p, ref14_Graph_L0.g L0⟩] v k = ref14_Graph.g (ref14_Graph.body L0) v k := fun v k => by kernel_rfl
theorem ref14_Graph.ok : okF 5 ref14_Graph.p (ref14_Graph.g ref14_Graph) := fn2 (ref14_Graph.eq (ref14_Graph_L0 ROUNDS)) Try.func86 (by kernel_rfl) .nil [0] (by kernel_rfl) (.cons ref14_Graph_L0.ok .nil)
/-- function 85: the loop in block 0 -/
abbrev T_ref10_Reach_L0 : Type := (List (List Int)) → (List Int) → Int → (List Bool) → ((List (List Int)) → (List Bool) → Option Bool) → Option Bool
noncomputable def ref10_Reach_L0.body (ref10_Reach_L0 : T_ref10_Reach_L0) : T_ref10_Reach_L0 := fun ls582 ns583 n584 bs585 k1 =>
  (cond_ (decide (n584 < (List.length ns583 : Int))) (cond_ ((decide ((0 : Int) ≤ n584)) && (decide (n584 < (List.length ns583 : Int)))) (cond_ (decide ((List.getD ns583 (Int.toNat n584) (0 : Int)) ≥ (0 : Int))) (cond_ ((decide ((0 : Int) ≤ n584)) && (decide (n584 < (List.length ns583 : Int)))) (cond_ (decide ((List.getD ns583 (Int.toNat n584) (0 : Int)) < (List.length ls582 : Int))) (cond_ ((decide ((0 : Int) ≤ n584)) && (decide (n584 < (List.length ns583 : Int)))) (cond_ ((decide ((0 : Int) ≤ (List.getD ns583 (Int.toNat n584) (0 : Int)))) && (decide ((List.getD ns583 (Int.toNat n584) (0 : Int)) < (List.length bs585 : Int)))) (ref10_Reach_L0 ls582 ns583 (IntKind.wrap .i64 (n584 + (1 : Int))) (List.set bs585 (Int.toNat (List.getD ns583 (Int.toNat n584) (0 : Int))) true) k1) none) none) (ref10_Reach_L0 ls582 ns583 (IntKind.wrap .i64 (n584 + (1 : Int))) bs585 k1)) none) (ref10_Reach_L0 ls582 ns583 (IntKind.wrap .i64 (n584 + (1 : Int))) bs585 k1)) none) (k1 ls582 bs585))
noncomputable def ref10_Reach_L0 : Nat → T_ref10_Reach_L0
  | 0 => fun _ _ _ _ _ => none
  | n + 1 => ref10_Reach_L0.body (ref10_Reach_L0 n)
def ref10_Reach_L0.p : LPat := lp 2 96 [0, 1, 5, 6] (pl (pb 1 24 Ty1) (pl (pb 2 3 (.int .i64)) (ps (pr [1, 0]) (pl (pd (.int .i64)) pz)))) (pl (po [1, 0] 4 1 (ed .bool)) pz)
def ref10_Reach_L0.g (F : T_ref10_Reach_L0) (v : ref10_Reach_L0.p.T) (k : KE) : Option Bool := F v.1.1 v.1.2.1 v.1.2.2.1 v.2.1 (fun y0 y1 => k (.exit 0) ⟨fillS 96 [0, 5] [(.bv 1 24 Ty1 y0), (.ref [1, 0])], [([1, 0], ⟨4, 1, (.data .bool y1)⟩)], 2⟩)
theorem ref10_Reach_L0.step (S : T_ref10_Reach_L0) : ∀ v k, exR 85 Try.f85 0 ref10_Reach_L0.p [] [] [] (ref10_Reach_L0.g S) v k = ref10_Reach_L0.g (ref10_Reach_L0.body S) v k := fun v k => by kernel_rfl
theorem ref10_Reach_L0.ok : okL 85 Try.f85 0 0 ref10_Reach_L0.p (ref10_Reach_L0.g (ref10_Reach_L0 ROUNDS)) := loop2 (G := fun n => ref10_Reach_L0.g (ref10_Reach_L0 n)) (fun n => ref10_Reach_L0.step (ref10_Reach_L0 n)) .nil [] (by kernel_rfl) .nil (fun _ _ => rfl)
/-- function 85: the loop in block 6 -/
abbrev T_ref10_Reach_L2_L4_L6 : Type := (List (List Int)) → Int → Int → Int → (List Bool) → ((List (List Int)) → Int → Int → (List Bool) → Option Bool) → Option Bool
noncomputable def ref10_Reach_L2_L4_L6.body (ref10_Reach_L2_L4_L6 : T_ref10_Reach_L2_L4_L6) : T_ref10_Reach_L2_L4_L6 := fun ls595 n596 n597 n598 bs599 k1 =>
  (cond_ ((decide ((0 : Int) ≤ n597)) && (decide (n597 < (List.length bs599 : Int)))) (cond_ (List.getD bs599 (Int.toNat n597) false) (cond_ ((decide ((0 : Int) ≤ n597)) && (decide (n597 < (List.length ls595 : Int)))) (cond_ (decide (n598 < (((List.length (List.getD ls595 (Int.toNat n597) [])) : Nat) : Int))) (cond_ ((decide ((0 : Int) ≤ n597)) && (decide (n597 < (List.length ls595 : Int)))) (cond_ ((decide ((0 : Int) ≤ n598)) && (decide (n598 < (((List.length (List.getD ls595 (Int.toNat n597) [])) : Nat) : Int)))) (cond_ (decide ((List.getD (List.getD ls595 (Int.toNat n597) []) (Int.toNat n598) (0 : Int)) ≥ (0 : Int))) (cond_ ((decide ((0 : Int) ≤ n597)) && (decide (n597 < (List.length ls595 : Int)))) (cond_ ((decide ((0 : Int) ≤ n598)) && (decide (n598 < (((List.length (List.getD ls595 (Int.toNat n597) [])) : Nat) : Int)))) (cond_ (decide ((List.getD (List.getD ls595 (Int.toNat n597) []) (Int.toNat n598) (0 : Int)) < (List.length ls595 : Int))) (cond_ ((decide ((0 : Int) ≤ n597)) && (decide (n597 < (List.length ls595 : Int)))) (cond_ ((decide ((0 : Int) ≤ n598)) && (decide (n598 < (((List.length (List.getD ls595 (Int.toNat n597) [])) : Nat) : Int)))) (cond_ ((decide ((0 : Int) ≤ (List.getD (List.getD ls595 (Int.toNat n597) []) (Int.toNat n598) (0 : Int)))) && (decide ((List.getD (List.getD ls595 (Int.toNat n597) []) (Int.toNat n598) (0 : Int)) < (List.length bs599 : Int)))) (ref10_Reach_L2_L4_L6 ls595 n596 n597 (IntKind.wrap .i64 (n598 + (1 : Int))) (List.set bs599 (Int.toNat (List.getD (List.getD ls595 (Int.toNat n597) []) (Int.toNat n598) (0 : Int))) true) k1) none) none) none) (ref10_Reach_L2_L4_L6 ls595 n596 n597 (IntKind.wrap .i64 (n598 + (1 : Int))) bs599 k1)) none) none) (ref10_Reach_L2_L4_L6 ls595 n596 n597 (IntKind.wrap .i64 (n598 + (1 : Int))) bs599 k1)) none) none) (k1 ls595 n596 n597 bs599)) none) (k1 ls595 n596 n597 bs599)) none)
noncomputable def ref10_Reach_L2_L4_L6 : Nat → T_ref10_Reach_L2_L4_L6
  | 0 => fun _ _ _ _ _ _ => none
  | n + 1 => ref10_Reach_L2_L4_L6.body (ref10_Reach_L2_L4_L6 n)
def ref10_Reach_L2_L4_L6.p : LPat := lp 2 96 [0, 5, 7, 8, 9] (pl (pb 1 24 Ty1) (ps (pr [1, 0]) (pl (pd (.int .i64)) (pl (pd (.int .i64)) (pl (pd (.int .i64)) pz))))) (pl (po [1, 0] 4 1 (ed .bool)) pz)
def ref10_Reach_L2_L4_L6.g (F : T_ref10_Reach_L2_L4_L6) (v : ref10_Reach_L2_L4_L6.p.T) (k : KE) : Option Bool := F v.1.1 v.1.2.1 v.1.2.2.1 v.1.2.2.2.1 v.2.1 (fun y0 y1 y2 y3 => k (.exit 6) ⟨fillS 96 [0, 5, 7, 8] [(.bv 1 24 Ty1 y0), (.ref [1, 0]), (.d ⟨(.int .i64), y1⟩), (.d ⟨(.int .i64), y2⟩)], [([1, 0], ⟨4, 1, (.data .bool y3)⟩)], 2⟩)
theorem ref10_Reach_L2_L4_L6.step (S : T_ref10_Reach_L2_L4_L6) : ∀ v k, exR 85 Try.f85 6 ref10_Reach_L2_L4_L6.p [] [] [] (ref10_Reach_L2_L4_L6.g S) v k = ref10_Reach_L2_L4_L6.g (ref10_Reach_L2_L4_L6.body S) v k := fun v k => by kernel_rfl
theorem ref10_Reach_L2_L4_L6.ok : okL 85 Try.f85 0 6 ref10_Reach_L2_L4_L6.p (ref10_Reach_L2_L4_L6.g (ref10_Reach_L2_L4_L6 ROUNDS)) := loop2 (G := fun n => ref10_Reach_L2_L4_L6.g (ref10_Reach_L2_L4_L6 n)) (fun n => ref10_Reach_L2_L4_L6.step (ref10_Reach_L2_L4_L6 n)) .nil [] (by kernel_rfl) .nil (fun _ _ => rfl)
/-- function 85: the loop in block 4 -/
abbrev T_ref10_Reach_L2_L4 : Type := (List (List Int)) → Int → Int → (List Bool) → ((List (List Int)) → Int → (List Bool) → Option Bool) → Option Bool
noncomputable def ref10_Reach_L2_L4.body (ref10_Reach_L2_L4 : T_ref10_Reach_L2_L4) (ref10_Reach_L2_L4_L6 : T_ref10_Reach_L2_L4_L6) : T_ref10_Reach_L2_L4 := fun ls591 n592 n593 bs594 k1 =>
  (cond_ (decide (n593 < (List.length ls591 : Int))) (ref10_Reach_L2_L4_L6 ls591 n592 n593 (0 : Int) bs594
  (fun ls600 n601 n602 bs603 => (ref10_Reach_L2_L4 ls600 n601 (IntKind.wrap .i64 (n602 + (1 : Int))) bs603 k1))) (k1 ls591 n592 bs594))
noncomputable def ref10_Reach_L2_L4 : Nat → T_ref10_Reach_L2_L4
  | 0 => fun _ _ _ _ _ => none
  | n + 1 => ref10_Reach_L2_L4.body (ref10_Reach_L2_L4 n) (ref10_Reach_L2_L4_L6 ROUNDS)
def ref10_Reach_L2_L4.p : LPat := lp 2 96 [0, 5, 7, 8] (pl (pb 1 24 Ty1) (ps (pr [1, 0]) (pl (pd (.int .i64)) (pl (pd (.int .i64)) pz)))) (pl (po [1, 0] 4 1 (ed .bool)) pz)
def ref10_Reach_L2_L4.g (F : T_ref10_Reach_L2_L4) (v : ref10_Reach_L2_L4.p.T) (k : KE) : Option Bool := F v.1.1 v.1.2.1 v.1.2.2.1 v.2.1 (fun y0 y1 y2 => k (.exit 4) ⟨fillS 96 [0, 5, 7] [(.bv 1 24 Ty1 y0), (.ref [1, 0]), (.d ⟨(.int .i64), y1⟩)], [([1, 0], ⟨4, 1, (.data .bool y2)⟩)], 2⟩)
theorem ref10_Reach_L2_L4.step (S : T_ref10_Reach_L2_L4) (L0 : T_ref10_Reach_L2_L4_L6) : ∀ v k, exR 85 Try.f85 4 ref10_Reach_L2_L4.p [] [] [⟨6, ref10_Reach_L2_L4_L6.p, ref10_Reach_L2_L4_L6.g L0⟩] (ref10_Reach_L2_L4.g S) v k = ref10_Reach_L2_L4.g (ref10_Reach_L2_L4.body S L0) v k := fun v k => by kernel_rfl
theorem ref10_Reach_L2_L4.ok : okL 85 Try.f85 0 4 ref10_Reach_L2_L4.p (ref10_Reach_L2_L4.g (ref10_Reach_L2_L4 ROUNDS)) := loop2 (G := fun n => ref10_Reach_L2_L4.g (ref10_Reach_L2_L4 n)) (fun n => ref10_Reach_L2_L4.step (ref10_Reach_L2_L4 n) (ref10_Reach_L2_L4_L6 ROUNDS)) .nil [6] (by kernel_rfl) (.cons ref10_Reach_L2_L4_L6.ok .nil) (fun _ _ => rfl)
/-- function 85: the loop in block 2 -/
abbrev T_ref10_Reach_L2 : Type := (List (List Int)) → Int → (List Bool) → ((List Bool) → Option Bool) → Option Bool
noncomputable def ref10_Reach_L2.body (ref10_Reach_L2 : T_ref10_Reach_L2) (ref10_Reach_L2_L4 : T_ref10_Reach_L2_L4) : T_ref10_Reach_L2 := fun ls588 n589 bs590 k1 =>
  (cond_ (decide (n589 < (List.length ls588 : Int))) (ref10_Reach_L2_L4 ls588 n589 (0 : Int) bs590
  (fun ls604 n605 bs606 => (ref10_Reach_L2 ls604 (IntKind.wrap .i64 (n605 + (1 : Int))) bs606 k1))) (k1 bs590))
noncomputable def ref10_Reach_L2 : Nat → T_ref10_Reach_L2
  | 0 => fun _ _ _ _ => none
  | n + 1 => ref10_Reach_L2.body (ref10_Reach_L2 n) (ref10_Reach_L2_L4 ROUNDS)
def ref10_Reach_L2.p : LPat := lp 2 96 [0, 5, 7] (pl (pb 1 24 Ty1) (ps (pr [1, 0]) (pl (pd (.int .i64)) pz))) (pl (po [1, 0] 4 1 (ed .bool)) pz)
def ref10_Reach_L2.g (F : T_ref10_Reach_L2) (v : ref10_Reach_L2.p.T) (k : KE) : Option Bool := F v.1.1 v.1.2.1 v.2.1 (fun y0 => k (.exit 2) ⟨fillS 96 [5] [(.ref [1, 0])], [([1, 0], ⟨4, 1, (.data .bool y0)⟩)], 2⟩)
theorem ref10_Reach_L2.step (S : T_ref10_Reach_L2) (L0 : T_ref10_Reach_L2_L4) : ∀ v k, exR 85 Try.f85 2 ref10_Reach_L2.p [] [] [⟨4, ref10_Reach_L2_L4.p, ref10_Reach_L2_L4.g L0⟩] (ref10_Reach_L2.g S) v k = ref10_Reach_L2.g (ref10_Reach_L2.body S L0) v k := fun v k => by kernel_rfl
theorem ref10_Reach_L2.ok : okL 85 Try.f85 0 2 ref10_Reach_L2.p (ref10_Reach_L2.g (ref10_Reach_L2 ROUNDS)) := loop2 (G := fun n => ref10_Reach_L2.g (ref10_Reach_L2 n)) (fun n => ref10_Reach_L2.step (ref10_Reach_L2 n) (ref10_Reach_L2_L4 ROUNDS)) .nil [4] (by kernel_rfl) (.cons ref10_Reach_L2_L4.ok .nil) (fun _ _ => rfl)
/-- function 85: sheerleg/sheerlegref10.Reach -/
abbrev T_ref10_Reach : Type := (List (List Int)) → (List Int) → ((List Bool) → Option Bool) → Option Bool
noncomputable def ref10_Reach.body (ref10_Reach_L0 : T_ref10_Reach_L0) (ref10_Reach_L2 : T_ref10_Reach_L2) : T_ref10_Reach := fun ls580 ns581 k1 =>
  (cond_ (((decide ((0 : Int) ≤ (List.length ls580 : Int))) && (decide ((List.length ls580 : Int) = (List.length ls580 : Int)))) && (Nat.ble ((Int.toNat (List.length ls580 : Int)) * (1 : Nat)) (140737488355328 : Nat))) (ref10_Reach_L0 ls580 ns581 (0 : Int) (List.replicate (Int.toNat (List.length ls580 : Int)) false)
  (fun ls586 bs587 => (ref10_Reach_L2 ls586 (0 : Int) bs587
  (fun bs607 => (k1 bs607))))) none)
noncomputable def ref10_Reach : T_ref10_Reach := ref10_Reach.body (ref10_Reach_L0 ROUNDS) (ref10_Reach_L2 ROUNDS)
def ref10_Reach.p : FPat := fp 85 (pl (pb 1 24 Ty1) (pl (pb 2 3 (.int .i64)) pz)) pz
def ref10_Reach.g (F : T_ref10_Reach) (v : ref10_Reach.p.T) (k : KR) : Option Bool := F v.1.1 v.1.2.1 (fun y0 => k (.ref [1, 0]) [([1, 0], ⟨4, 1, (.data .bool y0)⟩)])
theorem ref10_Reach.eq (L0 : T_ref10_Reach_L0) (L1 : T_ref10_Reach_L2) : ∀ v k, exF Try.f85 ref10_Reach.p [] [] [⟨0, ref10_Reach_L0.p, ref10_Reach_L0.g L0⟩, ⟨2, ref10_Reach_L2.p, ref10_Reach_L2.g L1⟩] v k = ref10_Reach.g (ref10_Reach.body L0 L1) v k := fun v k => by kernel_rfl
theorem ref10_Reach.ok : okF 1 ref10_Reach.p (ref10_Reach.g ref10_Reach) := fn2 (ref10_Reach.eq (ref10_Reach_L0 ROUNDS) (ref10_Reach_L2 ROUNDS)) Try.func85 (by kernel_rfl) .nil [0, 2] (by kernel_rfl) (.cons ref10_Reach_L0.ok (.cons ref10_Reach_L2.ok .nil))
/-- function 73: sheerleg/sheerlegref14.After -/
abbrev T_ref14_After : Type := Tc5 → (List Int) → ((List Bool) → Option Bool) → Option Bool
noncomputable def ref14_After.body (ref14_Graph : T_ref14_Graph) (ref10_Reach : T_ref10_Reach) (ref14_After_L0 : T_ref14_After_L0) : T_ref14_After := fun ts564 ns565 k1 =>
  (ref14_After_L0 ts564 ns565 (0 : Int) []
  (fun ts571 ns572 => (ref14_Graph ts571
  (fun ls579 => (ref10_Reach ls579 ns572
  (fun bs608 => (k1 bs608)))))))
noncomputable def ref14_After : T_ref14_After := ref14_After.body ref14_Graph ref10_Reach (ref14_After_L0 ROUNDS)
def ref14_After.p : FPat := fp 73 (pl (pb 0 91 Ty11) (pl (pb 1 3 (.int .i64)) pz)) pz
def ref14_After.g (F : T_ref14_After) (v : ref14_After.p.T) (k : KR) : Option Bool := F v.1.1 v.1.2.1 (fun y0 => k (.ref [1, 0]) [([1, 0], ⟨4, 1, (.data .bool y0)⟩)])
theorem ref14_After.eq (F0 : T_ref14_Graph) (F1 : T_ref10_Reach) (L0 : T_ref14_After_L0) : ∀ v k, exF Try.f73 ref14_After.p [⟨ref14_Graph.p, ref14_Graph.g F0⟩, ⟨ref10_Reach.p, ref10_Reach.g F1⟩] [] [⟨0, ref14_After_L0.p, ref14_After_L0.g L0⟩] v k = ref14_After.g (ref14_After.body F0 F1 L0) v k := fun v k => by kernel_rfl
theorem ref14_After.ok : okF 6 ref14_After.p (ref14_After.g ref14_After) := fn2 (ref14_After.eq ref14_Graph ref10_Reach (ref14_After_L0 ROUNDS)) Try.func73 (by kernel_rfl) (.cons ref14_Graph.ok (.cons ref10_Reach.ok .nil)) [0] (by kernel_rfl) (.cons ref14_After_L0.ok .nil)
/-- function 75: sheerleg/sheerlegref18.In -/
abbrev T_ref18_In : Type := Tc12 → Int → (Bool → Option Bool) → Option Bool
noncomputable def ref18_In.body : T_ref18_In := fun t613 n614 k1 =>
  (cond_ (decide (n614 ≥ t613.2.2.2.2.1)) (k1 (decide (n614 < t613.2.2.2.2.2.1))) (k1 false))
noncomputable def ref18_In : T_ref18_In := ref18_In.body
def ref18_In.p : FPat := fp 75 (pl (pd Ty18) (pl (pd (.int .i64)) pz)) pz
def ref18_In.g (F : T_ref18_In) (v : ref18_In.p.T) (k : KR) : Option Bool := F v.1.1 v.1.2.1 (fun y0 => k (.d ⟨.bool, y0⟩) [])
theorem ref18_In.eq : ∀ v k, exF Try.f75 ref18_In.p [] [] [] v k = ref18_In.g (ref18_In.body) v k := fun v k => by kernel_rfl
theorem ref18_In.ok : okF 1 ref18_In.p (ref18_In.g ref18_In) := fn2 (ref18_In.eq) Try.func75 (by kernel_rfl) .nil [] (by kernel_rfl) .nil
/-- function 65: the loop in block 0 -/
abbrev T_ref18_Check_L0 : Type := Int → Tc12 → (List Bool) → (Int → Option Bool) → (Option Bool) → Option Bool
noncomputable def ref18_Check_L0.body (ref18_Check_L0 : T_ref18_Check_L0) (ref18_In : T_ref18_In) : T_ref18_Check_L0 := fun n610 t611 bs612 k1 k2 =>
  (cond_ (decide (n610 < (List.length bs612 : Int))) (cond_ ((decide ((0 : Int) ≤ n610)) && (decide (n610 < (List.length bs612 : Int)))) (cond_ (List.getD bs612 (Int.toNat n610) false) (ref18_In t611 n610
  (fun b615 => (cond_ (! b615) (k1 (9 : Int)) (ref18_Check_L0 (IntKind.wrap .i64 (n610 + (1 : Int))) t611 bs612 k1 k2)))) (ref18_Check_L0 (IntKind.wrap .i64 (n610 + (1 : Int))) t611 bs612 k1 k2)) none) (k2))
noncomputable def ref18_Check_L0 : Nat → T_ref18_Check_L0
  | 0 => fun _ _ _ _ _ => none
  | n + 1 => ref18_Check_L0.body (ref18_Check_L0 n) ref18_In
def ref18_Check_L0.p : LPat := lp 2 27 [1, 3, 4] (ps (pq [1, 0] 0 0) (ps (pr [1, 1]) (pl (pd (.int .i64)) pz))) (pl (po [1, 0] 71 9 (es Ty18 (pl eh pz))) (pl (po [1, 1] 4 1 (ed .bool)) pz))
def ref18_Check_L0.g (F : T_ref18_Check_L0) (v : ref18_Check_L0.p.T) (k : KE) : Option Bool := F v.1.1 v.2.1.1 v.2.2.1 (fun y0 => k .ret ⟨fillS 27 [2] [(.d ⟨(.int .i64), y0⟩)], [], 2⟩) (k (.exit 0) ⟨fillS 27 [] [], [], 2⟩)
theorem ref18_Check_L0.step (S : T_ref18_Check_L0) (F0 : T_ref18_In) : ∀ v k, exR 65 Try.f65 0 ref18_Check_L0.p [⟨ref18_In.p, ref18_In.g F0⟩] [] [] (ref18_Check_L0.g S) v k = ref18_Check_L0.g (ref18_Check_L0.body S F0) v k := fun v k => by kernel_rfl
theorem ref18_Check_L0.ok : okL 65 Try.f65 1 0 ref18_Check_L0.p (ref18_Check_L0.g (ref18_Check_L0 ROUNDS)) := loop2 (G := fun n => ref18_Check_L0.g (ref18_Check_L0 n)) (fun n => ref18_Check_L0.step (ref18_Check_L0 n) ref18_In) (.cons ref18_In.ok .nil) [] (by kernel_rfl) .nil (fun _ _ => rfl)
/-- function 65: sheerleg/sheerlegref18.Check -/
abbrev T_ref18_Check : Type := Tc12 → (Int → Option Bool) → Option Bool
noncomputable def ref18_Check.body (ref18_Marks : T_ref18_Marks) (ref14_After : T_ref14_After) (ref18_Check_L0 : T_ref18_Check_L0) : T_ref18_Check := fun t557 k1 =>
  (ref18_Marks t557.2.2.2.2.2.2.2.1
  (fun ns563 => (ref14_After t557.2.2.2.2.2.2.2.1 ns563
  (fun bs609 => (ref18_Check_L0 (0 : Int) t557 bs609
  (fun n616 => (k1 n616))
  (k1 (0 : Int)))))))
noncomputable def ref18_Check : T_ref18_Check := ref18_Check.body ref18_Marks ref14_After (ref18_Check_L0 ROUNDS)
def ref18_Check.p : FPat := fp 65 (pl (pd Ty18) pz) pz
def ref18_Check.g (F : T_ref18_Check) (v : ref18_Check.p.T) (k : KR) : Option Bool := F v.1.1 (fun y0 => k (.d ⟨(.int .i64), y0⟩) [])
theorem ref18_Check.eq (F0 : T_ref18_Marks) (F1 : T_ref14_After) (L0 : T_ref18_Check_L0) : ∀ v k, exF Try.f65 ref18_Check.p [⟨ref18_Marks.p, ref18_Marks.g F0⟩, ⟨ref14_After.p, ref14_After.g F1⟩] [] [⟨0, ref18_Check_L0.p, ref18_Check_L0.g L0⟩] v k = ref18_Check.g (ref18_Check.body F0 F1 L0) v k := fun v k => by kernel_rfl
theorem ref18_Check.ok : okF 7 ref18_Check.p (ref18_Check.g ref18_Check) := fn2 (ref18_Check.eq ref18_Marks ref14_After (ref18_Check_L0 ROUNDS)) Try.func65 (by kernel_rfl) (.cons ref18_Marks.ok (.cons ref14_After.ok .nil)) [0] (by kernel_rfl) (.cons ref18_Check_L0.ok .nil)
/-- function 48: sheerleg/sheerlegref19.item -/
abbrev T_ref19_item : Type := Tc16 → Int → (Int → Option Bool) → Option Bool
noncomputable def ref19_item.body (ref19_Definer : T_ref19_Definer) (ref15_Check : T_ref15_Check) (ref17_Check : T_ref17_Check) (ref18_Check : T_ref18_Check) : T_ref19_item := fun t165 n166 k1 =>
  (ref19_Definer t165 n166
  (fun n178 => (cond_ (decide (n178 < (0 : Int))) (k1 (13 : Int)) (cond_ ((decide ((0 : Int) ≤ n178)) && (decide (n178 < (((List.length t165.1) : Nat) : Int)))) (cond_ (decide (n166 ≥ (((List.length t165.2.1) : Nat) : Int))) (cond_ ((decide ((0 : Int) ≤ (IntKind.wrap .i64 (n166 - (((List.length t165.2.1) : Nat) : Int))))) && (decide ((IntKind.wrap .i64 (n166 - (((List.length t165.2.1) : Nat) : Int))) < (((List.length t165.2.2.1) : Nat) : Int)))) (cond_ ((List.getD t165.2.2.1 (Int.toNat (IntKind.wrap .i64 (n166 - (((List.length t165.2.1) : Nat) : Int)))) (0, ([], ([], ())))).1 != (List.getD t165.1 (Int.toNat n178) ((⟨#[]⟩ : ByteArray), (false, (0, (0, (0, ())))))).2.2.2.1) (k1 (14 : Int)) (ref15_Check ((List.getD t165.2.2.1 (Int.toNat (IntKind.wrap .i64 (n166 - (((List.length t165.2.1) : Nat) : Int)))) (0, ([], ([], ())))).1, ((List.getD t165.2.2.1 (Int.toNat (IntKind.wrap .i64 (n166 - (((List.length t165.2.1) : Nat) : Int)))) (0, ([], ([], ())))).2.1, ((List.getD t165.2.2.1 (Int.toNat (IntKind.wrap .i64 (n166 - (((List.length t165.2.1) : Nat) : Int)))) (0, ([], ([], ())))).2.2.1, ()))) t165.1
  (fun n192 => (k1 n192)))) none) (cond_ ((decide ((0 : Int) ≤ n166)) && (decide (n166 < (((List.length t165.2.1) : Nat) : Int)))) (cond_ ((List.getD t165.2.1 (Int.toNat n166) (0, ([], (0, (false, (0, (0, ([], ([], ([], ())))))))))).1 != (List.getD t165.1 (Int.toNat n178) ((⟨#[]⟩ : ByteArray), (false, (0, (0, (0, ())))))).2.2.2.1) (k1 (14 : Int)) (cond_ ((decide ((0 : Int) ≤ n166)) && (decide (n166 < (((List.length t165.2.1) : Nat) : Int)))) (ref17_Check (List.getD t165.2.1 (Int.toNat n166) (0, ([], (0, (false, (0, (0, ([], ([], ([], ())))))))))) t165.1
  (fun n555 n556 => (cond_ (n555 != (0 : Int)) (k1 n555) (cond_ ((decide ((0 : Int) ≤ n166)) && (decide (n166 < (((List.length t165.2.1) : Nat) : Int)))) (ref18_Check (List.getD t165.2.1 (Int.toNat n166) (0, ([], (0, (false, (0, (0, ([], ([], ([], ()))))))))))
  (fun n617 => (k1 n617))) none)))) none)) none)) none))))
noncomputable def ref19_item : T_ref19_item := ref19_item.body ref19_Definer ref15_Check ref17_Check ref18_Check
def ref19_item.p : FPat := fp 48 (pl (pd Ty22) (pl (pd (.int .i64)) pz)) pz
def ref19_item.g (F : T_ref19_item) (v : ref19_item.p.T) (k : KR) : Option Bool := F v.1.1 v.1.2.1 (fun y0 => k (.d ⟨(.int .i64), y0⟩) [])
theorem ref19_item.eq (F0 : T_ref19_Definer) (F1 : T_ref15_Check) (F2 : T_ref17_Check) (F3 : T_ref18_Check) : ∀ v k, exF Try.f48 ref19_item.p [⟨ref19_Definer.p, ref19_Definer.g F0⟩, ⟨ref15_Check.p, ref15_Check.g F1⟩, ⟨ref17_Check.p, ref17_Check.g F2⟩, ⟨ref18_Check.p, ref18_Check.g F3⟩] [] [] v k = ref19_item.g (ref19_item.body F0 F1 F2 F3) v k := fun v k => by kernel_rfl
theorem ref19_item.ok : okF 9 ref19_item.p (ref19_item.g ref19_item) := fn2 (ref19_item.eq ref19_Definer ref15_Check ref17_Check ref18_Check) Try.func48 (by kernel_rfl) (.cons ref19_Definer.ok (.cons ref15_Check.ok (.cons ref17_Check.ok (.cons ref18_Check.ok .nil)))) [] (by kernel_rfl) .nil
/-- function 32: the loop in block 2 -/
abbrev T_ref19_Check_L2 : Type := Int → Tc16 → (Int → Int → Option Bool) → (Option Bool) → Option Bool
noncomputable def ref19_Check_L2.body (ref19_Check_L2 : T_ref19_Check_L2) (ref19_Items : T_ref19_Items) (ref19_item : T_ref19_item) : T_ref19_Check_L2 := fun n161 t162 k1 k2 =>
  (ref19_Items t162
  (fun n164 => (cond_ (decide (n161 < n164)) (ref19_item t162 n161
  (fun n618 => (cond_ (n618 != (0 : Int)) (k1 n618 n161) (ref19_Check_L2 (IntKind.wrap .i64 (n161 + (1 : Int))) t162 k1 k2)))) (k2))))
noncomputable def ref19_Check_L2 : Nat → T_ref19_Check_L2
  | 0 => fun _ _ _ _ => none
  | n + 1 => ref19_Check_L2.body (ref19_Check_L2 n) ref19_Items ref19_item
def ref19_Check_L2.p : LPat := lp 2 51 [1, 6] (ps (pq [1, 0] 0 0) (pl (pd (.int .i64)) pz)) (pl (po [1, 0] 80 3 (es Ty22 (pl eh pz))) pz)
def ref19_Check_L2.g (F : T_ref19_Check_L2) (v : ref19_Check_L2.p.T) (k : KE) : Option Bool := F v.1.1 v.2.1.1 (fun y0 y1 => k .ret ⟨fillS 51 [2, 3] [(.d ⟨(.int .i64), y0⟩), (.d ⟨(.int .i64), y1⟩)], [], 2⟩) (k (.exit 2) ⟨fillS 51 [] [], [], 2⟩)
theorem ref19_Check_L2.step (S : T_ref19_Check_L2) (F0 : T_ref19_Items) (F1 : T_ref19_item) : ∀ v k, exR 32 Try.f32 2 ref19_Check_L2.p [⟨ref19_Items.p, ref19_Items.g F0⟩, ⟨ref19_item.p, ref19_item.g F1⟩] [] [] (ref19_Check_L2.g S) v k = ref19_Check_L2.g (ref19_Check_L2.body S F0 F1) v k := fun v k => by kernel_rfl
theorem ref19_Check_L2.ok : okL 32 Try.f32 9 2 ref19_Check_L2.p (ref19_Check_L2.g (ref19_Check_L2 ROUNDS)) := loop2 (G := fun n => ref19_Check_L2.g (ref19_Check_L2 n)) (fun n => ref19_Check_L2.step (ref19_Check_L2 n) ref19_Items ref19_item) (.cons ref19_Items.ok (.cons ref19_item.ok .nil)) [] (by kernel_rfl) .nil (fun _ _ => rfl)
/-- function 32: sheerleg/sheerlegref19.Check -/
abbrev T_ref19_Check : Type := Tc16 → (Int → Int → Option Bool) → Option Bool
noncomputable def ref19_Check.body (ref19_Check_L0 : T_ref19_Check_L0) (ref19_Check_L2 : T_ref19_Check_L2) : T_ref19_Check := fun t35 k1 =>
  (cond_ (! (decide ((((List.length t35.1) : Nat) : Int) > (32 : Int)))) (cond_ (! (decide ((((List.length t35.2.1) : Nat) : Int) > (12 : Int)))) (cond_ (decide ((((List.length t35.2.2.1) : Nat) : Int) > (8 : Int))) (k1 (19 : Int) (-1 : Int)) (ref19_Check_L0 (0 : Int) t35
  (fun n158 n159 => (k1 n158 n159))
  (fun t160 => (ref19_Check_L2 (0 : Int) t160
  (fun n619 n620 => (k1 n619 n620))
  (k1 (0 : Int) (-1 : Int)))))) (k1 (19 : Int) (-1 : Int))) (k1 (19 : Int) (-1 : Int)))
noncomputable def ref19_Check : T_ref19_Check := ref19_Check.body (ref19_Check_L0 ROUNDS) (ref19_Check_L2 ROUNDS)
def ref19_Check.p : FPat := fp 32 (pl (pd Ty22) pz) pz
def ref19_Check.g (F : T_ref19_Check) (v : ref19_Check.p.T) (k : KR) : Option Bool := F v.1.1 (fun y0 y1 => k (.tup [(.d ⟨(.int .i64), y0⟩), (.d ⟨(.int .i64), y1⟩)]) [])
theorem ref19_Check.eq (L0 : T_ref19_Check_L0) (L1 : T_ref19_Check_L2) : ∀ v k, exF Try.f32 ref19_Check.p [] [] [⟨0, ref19_Check_L0.p, ref19_Check_L0.g L0⟩, ⟨2, ref19_Check_L2.p, ref19_Check_L2.g L1⟩] v k = ref19_Check.g (ref19_Check.body L0 L1) v k := fun v k => by kernel_rfl
theorem ref19_Check.ok : okF 10 ref19_Check.p (ref19_Check.g ref19_Check) := fn2 (ref19_Check.eq (ref19_Check_L0 ROUNDS) (ref19_Check_L2 ROUNDS)) Try.func32 (by kernel_rfl) .nil [0, 2] (by kernel_rfl) (.cons ref19_Check_L0.ok (.cons ref19_Check_L2.ok .nil))
/-- function 21: the loop in block 0 -/
abbrev T_ref24_Bind_L0 : Type := Tc17 → ByteArray → Int → Int → (Int × Int × Int × Unit) → (Tc18 → (Int × Int × Int × Unit) → Option Bool) → (Tc17 → ByteArray → Int → (Int × Int × Int × Unit) → Option Bool) → Option Bool
noncomputable def ref24_Bind_L0.body (ref24_Bind_L0 : T_ref24_Bind_L0) (ref19_Check : T_ref19_Check) : T_ref24_Bind_L0 := fun ts30 s31 n32 n33 t34 k1 k2 =>
  (cond_ (decide (n32 < (List.length ts30 : Int))) (cond_ ((decide ((0 : Int) ≤ n32)) && (decide (n32 < (List.length ts30 : Int)))) (ref19_Check (List.getD ts30 (Int.toNat n32) ([], ([], ([], ()))))
  (fun n621 n622 => (cond_ (n621 != (0 : Int)) (k1 ([], ([], (0, ()))) (n621, (n32, (n622, ())))) (ref24_Bind_L0 ts30 s31 (IntKind.wrap .i64 (n32 + (1 : Int))) n33 t34 k1 k2)))) none) (k2 ts30 s31 n33 t34))
noncomputable def ref24_Bind_L0 : Nat → T_ref24_Bind_L0
  | 0 => fun _ _ _ _ _ _ _ => none
  | n + 1 => ref24_Bind_L0.body (ref24_Bind_L0 n) ref19_Check
def ref24_Bind_L0.p : LPat := lp 2 96 [0, 1, 4, 5, 6] (pl (pb 0 80 Ty22) (pl (pd .str) (ps (pq [1, 0] 0 0) (ps (pq [1, 1] 0 0) (pl (pd (.int .i64)) pz))))) (pl (po [1, 0] 30 3 (em (pl (pa (ps (pk 0) (ps (pk 0) (pl (pd (.int .i64)) pz)))) pz))) (pl (po [1, 1] 55 3 (es Ty7 (pl eh pz))) pz))
def ref24_Bind_L0.g (F : T_ref24_Bind_L0) (v : ref24_Bind_L0.p.T) (k : KE) : Option Bool := F v.1.1 v.1.2.1 v.1.2.2.1 v.2.1.1.1 v.2.2.1.1 (fun y0 y1 => k .ret ⟨fillS 96 [4, 5] [(.ptr [1, 0] 0 0), (.ptr [1, 1] 0 0)], [([1, 0], ⟨30, 3, (.data Ty24 [y0])⟩), ([1, 1], ⟨55, 3, (.data Ty7 [y1])⟩)], 2⟩) (fun y0 y1 y2 y3 => k (.exit 0) ⟨fillS 96 [0, 1, 4, 5] [(.bv 0 80 Ty22 y0), (.d ⟨.str, y1⟩), (.ptr [1, 0] 0 0), (.ptr [1, 1] 0 0)], [([1, 0], ⟨30, 3, (.mix [(.agg [.nils, .nils, (.d ⟨(.int .i64), y2⟩)])])⟩), ([1, 1], ⟨55, 3, (.data Ty7 [y3])⟩)], 2⟩)
theorem ref24_Bind_L0.step (S : T_ref24_Bind_L0) (F0 : T_ref19_Check) : ∀ v k, exR 21 Try.f21 0 ref24_Bind_L0.p [⟨ref19_Check.p, ref19_Check.g F0⟩] [] [] (ref24_Bind_L0.g S) v k = ref24_Bind_L0.g (ref24_Bind_L0.body S F0) v k := fun v k => by kernel_rfl
theorem ref24_Bind_L0.ok : okL 21 Try.f21 10 0 ref24_Bind_L0.p (ref24_Bind_L0.g (ref24_Bind_L0 ROUNDS)) := loop2 (G := fun n => ref24_Bind_L0.g (ref24_Bind_L0 n)) (fun n => ref24_Bind_L0.step (ref24_Bind_L0 n) ref19_Check) (.cons ref19_Check.ok .nil) [] (by kernel_rfl) .nil (fun _ _ => rfl)
/-- function 51: sheerleg/sheerlegref23.global -/
abbrev T_ref23_global : Type := Tc4 → (Bool → Option Bool) → Option Bool
noncomputable def ref23_global.body : T_ref23_global := fun t647 k1 =>
  (cond_ (! t647.2.1) (k1 (t647.2.2.2.2.1 != (-1 : Int))) (k1 false))
noncomputable def ref23_global : T_ref23_global := ref23_global.body
def ref23_global.p : FPat := fp 51 (pl (pd Ty9) pz) pz
def ref23_global.g (F : T_ref23_global) (v : ref23_global.p.T) (k : KR) : Option Bool := F v.1.1 (fun y0 => k (.d ⟨.bool, y0⟩) [])
theorem ref23_global.eq : ∀ v k, exF Try.f51 ref23_global.p [] [] [] v k = ref23_global.g (ref23_global.body) v k := fun v k => by kernel_rfl
theorem ref23_global.ok : okF 1 ref23_global.p (ref23_global.g ref23_global) := fn2 (ref23_global.eq) Try.func51 (by kernel_rfl) .nil [] (by kernel_rfl) .nil
/-- function 34: the loop in block 2 -/
abbrev T_ref23_Find_L0_L2 : Type := Tc17 → ByteArray → Int → Int → (Int → Int → Bool → Option Bool) → (Tc17 → ByteArray → Int → Option Bool) → Option Bool
noncomputable def ref23_Find_L0_L2.body (ref23_Find_L0_L2 : T_ref23_Find_L0_L2) (ref23_global : T_ref23_global) : T_ref23_Find_L0_L2 := fun ts643 s644 n645 n646 k1 k2 =>
  (cond_ ((decide ((0 : Int) ≤ n645)) && (decide (n645 < (List.length ts643 : Int)))) (cond_ (decide (n646 < (((List.length (List.getD ts643 (Int.toNat n645) ([], ([], ([], ())))).1) : Nat) : Int))) (cond_ ((decide ((0 : Int) ≤ n645)) && (decide (n645 < (List.length ts643 : Int)))) (cond_ ((decide ((0 : Int) ≤ n646)) && (decide (n646 < (((List.length (List.getD ts643 (Int.toNat n645) ([], ([], ([], ())))).1) : Nat) : Int)))) (ref23_global (List.getD (List.getD ts643 (Int.toNat n645) ([], ([], ([], ())))).1 (Int.toNat n646) ((⟨#[]⟩ : ByteArray), (false, (0, (0, (0, ()))))))
  (fun b648 => (cond_ b648 (cond_ ((ByteArray.toList (List.getD (List.getD ts643 (Int.toNat n645) ([], ([], ([], ())))).1 (Int.toNat n646) ((⟨#[]⟩ : ByteArray), (false, (0, (0, (0, ())))))).1) == (ByteArray.toList s644)) (k1 n645 n646 true) (ref23_Find_L0_L2 ts643 s644 n645 (IntKind.wrap .i64 (n646 + (1 : Int))) k1 k2)) (ref23_Find_L0_L2 ts643 s644 n645 (IntKind.wrap .i64 (n646 + (1 : Int))) k1 k2)))) none) none) (k2 ts643 s644 n645)) none)
noncomputable def ref23_Find_L0_L2 : Nat → T_ref23_Find_L0_L2
  | 0 => fun _ _ _ _ _ _ => none
  | n + 1 => ref23_Find_L0_L2.body (ref23_Find_L0_L2 n) ref23_global
def ref23_Find_L0_L2.p : LPat := lp 2 44 [0, 1, 7, 8] (pl (pb 0 80 Ty22) (pl (pd .str) (pl (pd (.int .i64)) (pl (pd (.int .i64)) pz)))) pz
def ref23_Find_L0_L2.g (F : T_ref23_Find_L0_L2) (v : ref23_Find_L0_L2.p.T) (k : KE) : Option Bool := F v.1.1 v.1.2.1 v.1.2.2.1 v.1.2.2.2.1 (fun y0 y1 y2 => k .ret ⟨fillS 44 [4, 5, 6] [(.d ⟨(.int .i64), y0⟩), (.d ⟨(.int .i64), y1⟩), (.d ⟨.bool, y2⟩)], [], 2⟩) (fun y0 y1 y2 => k (.exit 2) ⟨fillS 44 [0, 1, 7] [(.bv 0 80 Ty22 y0), (.d ⟨.str, y1⟩), (.d ⟨(.int .i64), y2⟩)], [], 2⟩)
theorem ref23_Find_L0_L2.step (S : T_ref23_Find_L0_L2) (F0 : T_ref23_global) : ∀ v k, exR 34 Try.f34 2 ref23_Find_L0_L2.p [⟨ref23_global.p, ref23_global.g F0⟩] [] [] (ref23_Find_L0_L2.g S) v k = ref23_Find_L0_L2.g (ref23_Find_L0_L2.body S F0) v k := fun v k => by kernel_rfl
theorem ref23_Find_L0_L2.ok : okL 34 Try.f34 1 2 ref23_Find_L0_L2.p (ref23_Find_L0_L2.g (ref23_Find_L0_L2 ROUNDS)) := loop2 (G := fun n => ref23_Find_L0_L2.g (ref23_Find_L0_L2 n)) (fun n => ref23_Find_L0_L2.step (ref23_Find_L0_L2 n) ref23_global) (.cons ref23_global.ok .nil) [] (by kernel_rfl) .nil (fun _ _ => rfl)
/-- function 34: the loop in block 0 -/
abbrev T_ref23_Find_L0 : Type := Tc17 → ByteArray → Int → (Int → Int → Bool → Option Bool) → (Option Bool) → Option Bool
noncomputable def ref23_Find_L0.body (ref23_Find_L0 : T_ref23_Find_L0) (ref23_Find_L0_L2 : T_ref23_Find_L0_L2) : T_ref23_Find_L0 := fun ts640 s641 n642 k1 k2 =>
  (cond_ (decide (n642 < (List.length ts640 : Int))) (ref23_Find_L0_L2 ts640 s641 n642 (0 : Int)
  (fun n649 n650 b651 => (k1 n649 n650 b651))
  (fun ts652 s653 n654 => (ref23_Find_L0 ts652 s653 (IntKind.wrap .i64 (n654 + (1 : Int))) k1 k2))) (k2))
noncomputable def ref23_Find_L0 : Nat → T_ref23_Find_L0
  | 0 => fun _ _ _ _ _ => none
  | n + 1 => ref23_Find_L0.body (ref23_Find_L0 n) (ref23_Find_L0_L2 ROUNDS)
def ref23_Find_L0.p : LPat := lp 2 44 [0, 1, 7] (pl (pb 0 80 Ty22) (pl (pd .str) (pl (pd (.int .i64)) pz))) pz
def ref23_Find_L0.g (F : T_ref23_Find_L0) (v : ref23_Find_L0.p.T) (k : KE) : Option Bool := F v.1.1 v.1.2.1 v.1.2.2.1 (fun y0 y1 y2 => k .ret ⟨fillS 44 [4, 5, 6] [(.d ⟨(.int .i64), y0⟩), (.d ⟨(.int .i64), y1⟩), (.d ⟨.bool, y2⟩)], [], 2⟩) (k (.exit 0) ⟨fillS 44 [] [], [], 2⟩)
theorem ref23_Find_L0.step (S : T_ref23_Find_L0) (L0 : T_ref23_Find_L0_L2) : ∀ v k, exR 34 Try.f34 0 ref23_Find_L0.p [] [] [⟨2, ref23_Find_L0_L2.p, ref23_Find_L0_L2.g L0⟩] (ref23_Find_L0.g S) v k = ref23_Find_L0.g (ref23_Find_L0.body S L0) v k := fun v k => by kernel_rfl
theorem ref23_Find_L0.ok : okL 34 Try.f34 1 0 ref23_Find_L0.p (ref23_Find_L0.g (ref23_Find_L0 ROUNDS)) := loop2 (G := fun n => ref23_Find_L0.g (ref23_Find_L0 n)) (fun n => ref23_Find_L0.step (ref23_Find_L0 n) (ref23_Find_L0_L2 ROUNDS)) .nil [2] (by kernel_rfl) (.cons ref23_Find_L0_L2.ok .nil) (fun _ _ => rfl)
/-- function 34: sheerleg/sheerlegref23.Find -/
abbrev T_ref23_Find : Type := Tc17 → ByteArray → (Int → Int → Bool → Option Bool) → Option Bool
noncomputable def ref23_Find.body (ref23_Find_L0 : T_ref23_Find_L0) : T_ref23_Find := fun ts638 s639 k1 =>
  (ref23_Find_L0 ts638 s639 (0 : Int)
  (fun n655 n656 b657 => (k1 n655 n656 b657))
  (k1 (0 : Int) (0 : Int) false))
noncomputable def ref23_Find : T_ref23_Find := ref23_Find.body (ref23_Find_L0 ROUNDS)
def ref23_Find.p : FPat := fp 34 (pl (pb 0 80 Ty22) (pl (pd .str) pz)) pz
def ref23_Find.g (F : T_ref23_Find) (v : ref23_Find.p.T) (k : KR) : Option Bool := F v.1.1 v.1.2.1 (fun y0 y1 y2 => k (.tup [(.d ⟨(.int .i64), y0⟩), (.d ⟨(.int .i64), y1⟩), (.d ⟨.bool, y2⟩)]) [])
theorem ref23_Find.eq (L0 : T_ref23_Find_L0) : ∀ v k, exF Try.f34 ref23_Find.p [] [] [⟨0, ref23_Find_L0.p, ref23_Find_L0.g L0⟩] v k = ref23_Find.g (ref23_Find.body L0) v k := fun v k => by kernel_rfl
theorem ref23_Find.ok : okF 2 ref23_Find.p (ref23_Find.g ref23_Find) := fn2 (ref23_Find.eq (ref23_Find_L0 ROUNDS)) Try.func34 (by kernel_rfl) .nil [0] (by kernel_rfl) (.cons ref23_Find_L0.ok .nil)
/-- function 49: the loop in block 2 -/
abbrev T_ref23_Twice_L0_L2 : Type := Tc17 → Int → Int → (Int × Int × Int × Unit) → (Bool → (Int × Int × Int × Unit) → Option Bool) → (Tc17 → Int → (Int × Int × Int × Unit) → Option Bool) → Option Bool
noncomputable def ref23_Twice_L0_L2.body (ref23_Twice_L0_L2 : T_ref23_Twice_L0_L2) (ref23_Find : T_ref23_Find) (ref23_global : T_ref23_global) : T_ref23_Twice_L0_L2 := fun ts634 n635 n636 t637 k1 k2 =>
  (cond_ ((decide ((0 : Int) ≤ n635)) && (decide (n635 < (List.length ts634 : Int)))) (cond_ (decide (n636 < (((List.length (List.getD ts634 (Int.toNat n635) ([], ([], ([], ())))).1) : Nat) : Int))) (cond_ ((decide ((0 : Int) ≤ n635)) && (decide (n635 < (List.length ts634 : Int)))) (cond_ ((decide ((0 : Int) ≤ n636)) && (decide (n636 < (((List.length (List.getD ts634 (Int.toNat n635) ([], ([], ([], ())))).1) : Nat) : Int)))) (ref23_Find ts634 (List.getD (List.getD ts634 (Int.toNat n635) ([], ([], ([], ())))).1 (Int.toNat n636) ((⟨#[]⟩ : ByteArray), (false, (0, (0, (0, ())))))).1
  (fun n658 n659 b660 => (ref23_global (List.getD (List.getD ts634 (Int.toNat n635) ([], ([], ([], ())))).1 (Int.toNat n636) ((⟨#[]⟩ : ByteArray), (false, (0, (0, (0, ()))))))
  (fun b661 => (cond_ b661 (cond_ (! (n658 != n635)) (cond_ (n659 != n636) (k1 true (12, (n635, (n636, ())))) (ref23_Twice_L0_L2 ts634 n635 (IntKind.wrap .i64 (n636 + (1 : Int))) t637 k1 k2)) (k1 true (12, (n635, (n636, ()))))) (ref23_Twice_L0_L2 ts634 n635 (IntKind.wrap .i64 (n636 + (1 : Int))) t637 k1 k2)))))) none) none) (k2 ts634 n635 t637)) none)
noncomputable def ref23_Twice_L0_L2 : Nat → T_ref23_Twice_L0_L2
  | 0 => fun _ _ _ _ _ _ => none
  | n + 1 => ref23_Twice_L0_L2.body (ref23_Twice_L0_L2 n) ref23_Find ref23_global
def ref23_Twice_L0_L2.p : LPat := lp 2 58 [0, 2, 4, 5] (pl (pb 0 80 Ty22) (ps (pq [1, 0] 0 0) (pl (pd (.int .i64)) (pl (pd (.int .i64)) pz)))) (pl (po [1, 0] 55 3 (es Ty7 (pl eh pz))) pz)
def ref23_Twice_L0_L2.g (F : T_ref23_Twice_L0_L2) (v : ref23_Twice_L0_L2.p.T) (k : KE) : Option Bool := F v.1.1 v.1.2.1 v.1.2.2.1 v.2.1.1 (fun y0 y1 => k .ret ⟨fillS 58 [2, 3] [(.ptr [1, 0] 0 0), (.d ⟨.bool, y0⟩)], [([1, 0], ⟨55, 3, (.data Ty7 [y1])⟩)], 2⟩) (fun y0 y1 y2 => k (.exit 2) ⟨fillS 58 [0, 2, 4] [(.bv 0 80 Ty22 y0), (.ptr [1, 0] 0 0), (.d ⟨(.int .i64), y1⟩)], [([1, 0], ⟨55, 3, (.data Ty7 [y2])⟩)], 2⟩)
theorem ref23_Twice_L0_L2.step (S : T_ref23_Twice_L0_L2) (F0 : T_ref23_Find) (F1 : T_ref23_global) : ∀ v k, exR 49 Try.f49 2 ref23_Twice_L0_L2.p [⟨ref23_Find.p, ref23_Find.g F0⟩, ⟨ref23_global.p, ref23_global.g F1⟩] [] [] (ref23_Twice_L0_L2.g S) v k = ref23_Twice_L0_L2.g (ref23_Twice_L0_L2.body S F0 F1) v k := fun v k => by kernel_rfl
theorem ref23_Twice_L0_L2.ok : okL 49 Try.f49 2 2 ref23_Twice_L0_L2.p (ref23_Twice_L0_L2.g (ref23_Twice_L0_L2 ROUNDS)) := loop2 (G := fun n => ref23_Twice_L0_L2.g (ref23_Twice_L0_L2 n)) (fun n => ref23_Twice_L0_L2.step (ref23_Twice_L0_L2 n) ref23_Find ref23_global) (.cons ref23_Find.ok (.cons ref23_global.ok .nil)) [] (by kernel_rfl) .nil (fun _ _ => rfl)
/-- function 49: the loop in block 0 -/
abbrev T_ref23_Twice_L0 : Type := Tc17 → Int → (Int × Int × Int × Unit) → (Bool → (Int × Int × Int × Unit) → Option Bool) → ((Int × Int × Int × Unit) → Option Bool) → Option Bool
noncomputable def ref23_Twice_L0.body (ref23_Twice_L0 : T_ref23_Twice_L0) (ref23_Twice_L0_L2 : T_ref23_Twice_L0_L2) : T_ref23_Twice_L0 := fun ts631 n632 t633 k1 k2 =>
  (cond_ (decide (n632 < (List.length ts631 : Int))) (ref23_Twice_L0_L2 ts631 n632 (0 : Int) t633
  (fun b662 t663 => (k1 b662 t663))
  (fun ts664 n665 t666 => (ref23_Twice_L0 ts664 (IntKind.wrap .i64 (n665 + (1 : Int))) t666 k1 k2))) (k2 t633))
noncomputable def ref23_Twice_L0 : Nat → T_ref23_Twice_L0
  | 0 => fun _ _ _ _ _ => none
  | n + 1 => ref23_Twice_L0.body (ref23_Twice_L0 n) (ref23_Twice_L0_L2 ROUNDS)
def ref23_Twice_L0.p : LPat := lp 2 58 [0, 2, 4] (pl (pb 0 80 Ty22) (ps (pq [1, 0] 0 0) (pl (pd (.int .i64)) pz))) (pl (po [1, 0] 55 3 (es Ty7 (pl eh pz))) pz)
def ref23_Twice_L0.g (F : T_ref23_Twice_L0) (v : ref23_Twice_L0.p.T) (k : KE) : Option Bool := F v.1.1 v.1.2.1 v.2.1.1 (fun y0 y1 => k .ret ⟨fillS 58 [2, 3] [(.ptr [1, 0] 0 0), (.d ⟨.bool, y0⟩)], [([1, 0], ⟨55, 3, (.data Ty7 [y1])⟩)], 2⟩) (fun y0 => k (.exit 0) ⟨fillS 58 [2] [(.ptr [1, 0] 0 0)], [([1, 0], ⟨55, 3, (.data Ty7 [y0])⟩)], 2⟩)
theorem ref23_Twice_L0.step (S : T_ref23_Twice_L0) (L0 : T_ref23_Twice_L0_L2) : ∀ v k, exR 49 Try.f49 0 ref23_Twice_L0.p [] [] [⟨2, ref23_Twice_L0_L2.p, ref23_Twice_L0_L2.g L0⟩] (ref23_Twice_L0.g S) v k = ref23_Twice_L0.g (ref23_Twice_L0.body S L0) v k := fun v k => by kernel_rfl
theorem ref23_Twice_L0.ok : okL 49 Try.f49 2 0 ref23_Twice_L0.p (ref23_Twice_L0.g (ref23_Twice_L0 ROUNDS)) := loop2 (G := fun n => ref23_Twice_L0.g (ref23_Twice_L0 n)) (fun n => ref23_Twice_L0.step (ref23_Twice_L0 n) (ref23_Twice_L0_L2 ROUNDS)) .nil [2] (by kernel_rfl) (.cons ref23_Twice_L0_L2.ok .nil) (fun _ _ => rfl)
/-- function 49: sheerleg/sheerlegref23.Twice -/
abbrev T_ref23_Twice : Type := Tc17 → ((Int × Int × Int × Unit) → Bool → Option Bool) → Option Bool
noncomputable def ref23_Twice.body (ref23_Twice_L0 : T_ref23_Twice_L0) : T_ref23_Twice := fun ts630 k1 =>
  (ref23_Twice_L0 ts630 (0 : Int) (0, (0, (0, ())))
  (fun b667 t668 => (k1 t668 b667))
  (fun t669 => (k1 (0, (0, (0, ()))) false)))
noncomputable def ref23_Twice : T_ref23_Twice := ref23_Twice.body (ref23_Twice_L0 ROUNDS)
def ref23_Twice.p : FPat := fp 49 (pl (pb 0 80 Ty22) pz) pz
def ref23_Twice.g (F : T_ref23_Twice) (v : ref23_Twice.p.T) (k : KR) : Option Bool := F v.1.1 (fun y0 y1 => k (.tup [(.d ⟨Ty7, y0⟩), (.d ⟨.bool, y1⟩)]) [])
theorem ref23_Twice.eq (L0 : T_ref23_Twice_L0) : ∀ v k, exF Try.f49 ref23_Twice.p [] [] [⟨0, ref23_Twice_L0.p, ref23_Twice_L0.g L0⟩] v k = ref23_Twice.g (ref23_Twice.body L0) v k := fun v k => by kernel_rfl
theorem ref23_Twice.ok : okF 3 ref23_Twice.p (ref23_Twice.g ref23_Twice) := fn2 (ref23_Twice.eq (ref23_Twice_L0 ROUNDS)) Try.func49 (by kernel_rfl) .nil [0] (by kernel_rfl) (.cons ref23_Twice_L0.ok .nil)
/-- function 50: sheerleg/sheerlegref23.Bound -/
abbrev T_ref23_Bound : Type := Tc17 → Int → Int → (Int → Int → Int → Option Bool) → Option Bool
noncomputable def ref23_Bound.body (ref23_Find : T_ref23_Find) : T_ref23_Bound := fun ts679 n680 n681 k1 =>
  (cond_ (! (decide (n680 < (0 : Int)))) (cond_ (! (decide (n680 ≥ (List.length ts679 : Int)))) (cond_ (! (decide (n681 < (0 : Int)))) (cond_ ((decide ((0 : Int) ≤ n680)) && (decide (n680 < (List.length ts679 : Int)))) (cond_ (decide (n681 ≥ (((List.length (List.getD ts679 (Int.toNat n680) ([], ([], ([], ())))).1) : Nat) : Int))) (k1 (0 : Int) (0 : Int) (2 : Int)) (cond_ ((decide ((0 : Int) ≤ n680)) && (decide (n680 < (List.length ts679 : Int)))) (cond_ ((decide ((0 : Int) ≤ n681)) && (decide (n681 < (((List.length (List.getD ts679 (Int.toNat n680) ([], ([], ([], ())))).1) : Nat) : Int)))) (cond_ ((List.getD (List.getD ts679 (Int.toNat n680) ([], ([], ([], ())))).1 (Int.toNat n681) ((⟨#[]⟩ : ByteArray), (false, (0, (0, (0, ())))))).2.2.2.2.1 != (-1 : Int)) (k1 n680 n681 (0 : Int)) (ref23_Find ts679 (List.getD (List.getD ts679 (Int.toNat n680) ([], ([], ([], ())))).1 (Int.toNat n681) ((⟨#[]⟩ : ByteArray), (false, (0, (0, (0, ())))))).1
  (fun n682 n683 b684 => (cond_ (! b684) (k1 (0 : Int) (0 : Int) (13 : Int)) (cond_ ((decide ((0 : Int) ≤ n682)) && (decide (n682 < (List.length ts679 : Int)))) (cond_ ((decide ((0 : Int) ≤ n683)) && (decide (n683 < (((List.length (List.getD ts679 (Int.toNat n682) ([], ([], ([], ())))).1) : Nat) : Int)))) (cond_ (! ((List.getD (List.getD ts679 (Int.toNat n682) ([], ([], ([], ())))).1 (Int.toNat n683) ((⟨#[]⟩ : ByteArray), (false, (0, (0, (0, ())))))).2.2.1 != (List.getD (List.getD ts679 (Int.toNat n680) ([], ([], ([], ())))).1 (Int.toNat n681) ((⟨#[]⟩ : ByteArray), (false, (0, (0, (0, ())))))).2.2.1)) (cond_ ((List.getD (List.getD ts679 (Int.toNat n682) ([], ([], ([], ())))).1 (Int.toNat n683) ((⟨#[]⟩ : ByteArray), (false, (0, (0, (0, ())))))).2.2.2.1 != (List.getD (List.getD ts679 (Int.toNat n680) ([], ([], ([], ())))).1 (Int.toNat n681) ((⟨#[]⟩ : ByteArray), (false, (0, (0, (0, ())))))).2.2.2.1) (k1 (0 : Int) (0 : Int) (14 : Int)) (k1 n682 n683 (0 : Int))) (k1 (0 : Int) (0 : Int) (14 : Int))) none) none))))) none) none)) none) (k1 (0 : Int) (0 : Int) (2 : Int))) (k1 (0 : Int) (0 : Int) (2 : Int))) (k1 (0 : Int) (0 : Int) (2 : Int)))
noncomputable def ref23_Bound : T_ref23_Bound := ref23_Bound.body ref23_Find
def ref23_Bound.p : FPat := fp 50 (pl (pb 0 80 Ty22) (pl (pd (.int .i64)) (pl (pd (.int .i64)) pz))) pz
def ref23_Bound.g (F : T_ref23_Bound) (v : ref23_Bound.p.T) (k : KR) : Option Bool := F v.1.1 v.1.2.1 v.1.2.2.1 (fun y0 y1 y2 => k (.tup [(.d ⟨(.int .i64), y0⟩), (.d ⟨(.int .i64), y1⟩), (.d ⟨(.int .i64), y2⟩)]) [])
theorem ref23_Bound.eq (F0 : T_ref23_Find) : ∀ v k, exF Try.f50 ref23_Bound.p [⟨ref23_Find.p, ref23_Find.g F0⟩] [] [] v k = ref23_Bound.g (ref23_Bound.body F0) v k := fun v k => by kernel_rfl
theorem ref23_Bound.ok : okF 3 ref23_Bound.p (ref23_Bound.g ref23_Bound) := fn2 (ref23_Bound.eq ref23_Find) Try.func50 (by kernel_rfl) (.cons ref23_Find.ok .nil) [] (by kernel_rfl) .nil
/-- function 33: the loop in block 2 -/
abbrev T_ref23_Check_L0_L2 : Type := Tc17 → Int → Int → (Int × Int × Int × Unit) → ((Int × Int × Int × Unit) → Option Bool) → (Tc17 → Int → (Int × Int × Int × Unit) → Option Bool) → Option Bool
noncomputable def ref23_Check_L0_L2.body (ref23_Check_L0_L2 : T_ref23_Check_L0_L2) (ref23_Bound : T_ref23_Bound) : T_ref23_Check_L0_L2 := fun ts675 n676 n677 t678 k1 k2 =>
  (cond_ ((decide ((0 : Int) ≤ n676)) && (decide (n676 < (List.length ts675 : Int)))) (cond_ (decide (n677 < (((List.length (List.getD ts675 (Int.toNat n676) ([], ([], ([], ())))).1) : Nat) : Int))) (ref23_Bound ts675 n676 n677
  (fun n685 n686 n687 => (cond_ (n687 != (0 : Int)) (k1 (n687, (n676, (n677, ())))) (ref23_Check_L0_L2 ts675 n676 (IntKind.wrap .i64 (n677 + (1 : Int))) t678 k1 k2)))) (k2 ts675 n676 t678)) none)
noncomputable def ref23_Check_L0_L2 : Nat → T_ref23_Check_L0_L2
  | 0 => fun _ _ _ _ _ _ => none
  | n + 1 => ref23_Check_L0_L2.body (ref23_Check_L0_L2 n) ref23_Bound
def ref23_Check_L0_L2.p : LPat := lp 2 57 [0, 2, 5, 6] (pl (pb 0 80 Ty22) (ps (pq [1, 0] 0 0) (pl (pd (.int .i64)) (pl (pd (.int .i64)) pz)))) (pl (po [1, 0] 55 3 (es Ty7 (pl eh pz))) pz)
def ref23_Check_L0_L2.g (F : T_ref23_Check_L0_L2) (v : ref23_Check_L0_L2.p.T) (k : KE) : Option Bool := F v.1.1 v.1.2.1 v.1.2.2.1 v.2.1.1 (fun y0 => k .ret ⟨fillS 57 [2] [(.ptr [1, 0] 0 0)], [([1, 0], ⟨55, 3, (.data Ty7 [y0])⟩)], 2⟩) (fun y0 y1 y2 => k (.exit 2) ⟨fillS 57 [0, 2, 5] [(.bv 0 80 Ty22 y0), (.ptr [1, 0] 0 0), (.d ⟨(.int .i64), y1⟩)], [([1, 0], ⟨55, 3, (.data Ty7 [y2])⟩)], 2⟩)
theorem ref23_Check_L0_L2.step (S : T_ref23_Check_L0_L2) (F0 : T_ref23_Bound) : ∀ v k, exR 33 Try.f33 2 ref23_Check_L0_L2.p [⟨ref23_Bound.p, ref23_Bound.g F0⟩] [] [] (ref23_Check_L0_L2.g S) v k = ref23_Check_L0_L2.g (ref23_Check_L0_L2.body S F0) v k := fun v k => by kernel_rfl
theorem ref23_Check_L0_L2.ok : okL 33 Try.f33 3 2 ref23_Check_L0_L2.p (ref23_Check_L0_L2.g (ref23_Check_L0_L2 ROUNDS)) := loop2 (G := fun n => ref23_Check_L0_L2.g (ref23_Check_L0_L2 n)) (fun n => ref23_Check_L0_L2.step (ref23_Check_L0_L2 n) ref23_Bound) (.cons ref23_Bound.ok .nil) [] (by kernel_rfl) .nil (fun _ _ => rfl)
/-- function 33: the loop in block 0 -/
abbrev T_ref23_Check_L0 : Type := Tc17 → Int → (Int × Int × Int × Unit) → ((Int × Int × Int × Unit) → Option Bool) → ((Int × Int × Int × Unit) → Option Bool) → Option Bool
noncomputable def ref23_Check_L0.body (ref23_Check_L0 : T_ref23_Check_L0) (ref23_Check_L0_L2 : T_ref23_Check_L0_L2) : T_ref23_Check_L0 := fun ts672 n673 t674 k1 k2 =>
  (cond_ (decide (n673 < (List.length ts672 : Int))) (ref23_Check_L0_L2 ts672 n673 (0 : Int) t674
  (fun t688 => (k1 t688))
  (fun ts689 n690 t691 => (ref23_Check_L0 ts689 (IntKind.wrap .i64 (n690 + (1 : Int))) t691 k1 k2))) (k2 t674))
noncomputable def ref23_Check_L0 : Nat → T_ref23_Check_L0
  | 0 => fun _ _ _ _ _ => none
  | n + 1 => ref23_Check_L0.body (ref23_Check_L0 n) (ref23_Check_L0_L2 ROUNDS)
def ref23_Check_L0.p : LPat := lp 2 57 [0, 2, 5] (pl (pb 0 80 Ty22) (ps (pq [1, 0] 0 0) (pl (pd (.int .i64)) pz))) (pl (po [1, 0] 55 3 (es Ty7 (pl eh pz))) pz)
def ref23_Check_L0.g (F : T_ref23_Check_L0) (v : ref23_Check_L0.p.T) (k : KE) : Option Bool := F v.1.1 v.1.2.1 v.2.1.1 (fun y0 => k .ret ⟨fillS 57 [2] [(.ptr [1, 0] 0 0)], [([1, 0], ⟨55, 3, (.data Ty7 [y0])⟩)], 2⟩) (fun y0 => k (.exit 0) ⟨fillS 57 [2] [(.ptr [1, 0] 0 0)], [([1, 0], ⟨55, 3, (.data Ty7 [y0])⟩)], 2⟩)
theorem ref23_Check_L0.step (S : T_ref23_Check_L0) (L0 : T_ref23_Check_L0_L2) : ∀ v k, exR 33 Try.f33 0 ref23_Check_L0.p [] [] [⟨2, ref23_Check_L0_L2.p, ref23_Check_L0_L2.g L0⟩] (ref23_Check_L0.g S) v k = ref23_Check_L0.g (ref23_Check_L0.body S L0) v k := fun v k => by kernel_rfl
theorem ref23_Check_L0.ok : okL 33 Try.f33 3 0 ref23_Check_L0.p (ref23_Check_L0.g (ref23_Check_L0 ROUNDS)) := loop2 (G := fun n => ref23_Check_L0.g (ref23_Check_L0 n)) (fun n => ref23_Check_L0.step (ref23_Check_L0 n) (ref23_Check_L0_L2 ROUNDS)) .nil [2] (by kernel_rfl) (.cons ref23_Check_L0_L2.ok .nil) (fun _ _ => rfl)
/-- function 33: sheerleg/sheerlegref23.Check -/
abbrev T_ref23_Check : Type := Tc17 → ((Int × Int × Int × Unit) → Option Bool) → Option Bool
noncomputable def ref23_Check.body (ref23_Twice : T_ref23_Twice) (ref23_Check_L0 : T_ref23_Check_L0) : T_ref23_Check := fun ts629 k1 =>
  (cond_ (! ((List.length ts629 : Int) == (0 : Int))) (cond_ (decide ((List.length ts629 : Int) > (6 : Int))) (k1 (19, ((-1), ((-1), ())))) (ref23_Twice ts629
  (fun t670 b671 => (cond_ b671 (k1 t670) (ref23_Check_L0 ts629 (0 : Int) (0, (0, (0, ())))
  (fun t692 => (k1 t692))
  (fun t693 => (k1 (0, (0, (0, ())))))))))) (k1 (19, ((-1), ((-1), ())))))
noncomputable def ref23_Check : T_ref23_Check := ref23_Check.body ref23_Twice (ref23_Check_L0 ROUNDS)
def ref23_Check.p : FPat := fp 33 (pl (pb 0 80 Ty22) pz) pz
def ref23_Check.g (F : T_ref23_Check) (v : ref23_Check.p.T) (k : KR) : Option Bool := F v.1.1 (fun y0 => k (.d ⟨Ty7, y0⟩) [])
theorem ref23_Check.eq (F0 : T_ref23_Twice) (L0 : T_ref23_Check_L0) : ∀ v k, exF Try.f33 ref23_Check.p [⟨ref23_Twice.p, ref23_Twice.g F0⟩] [] [⟨0, ref23_Check_L0.p, ref23_Check_L0.g L0⟩] v k = ref23_Check.g (ref23_Check.body F0 L0) v k := fun v k => by kernel_rfl
theorem ref23_Check.ok : okF 4 ref23_Check.p (ref23_Check.g ref23_Check) := fn2 (ref23_Check.eq ref23_Twice (ref23_Check_L0 ROUNDS)) Try.func33 (by kernel_rfl) (.cons ref23_Twice.ok .nil) [0] (by kernel_rfl) (.cons ref23_Check_L0.ok .nil)
/-- function 35: the loop in block 4 -/
abbrev T_ref24_program_L0_L2_L4 : Type := Tc17 → Int → Int → Int → Int → Int → Tc15 → Tc11 → Tc7 → Tc13 → Tc9 → (List Int) → (Tc17 → Int → Int → Int → Int → Tc15 → Tc11 → Tc7 → Tc13 → Tc9 → (List Int) → Option Bool) → Option Bool
noncomputable def ref24_program_L0_L2_L4.body (ref24_program_L0_L2_L4 : T_ref24_program_L0_L2_L4) (ref17_Sym : T_ref17_Sym) : T_ref24_program_L0_L2_L4 := fun ts715 n716 n717 n718 n719 n720 ts721 ts722 l723 l724 l725 ns726 k1 =>
  (cond_ ((decide ((0 : Int) ≤ n717)) && (decide (n717 < (List.length l724 : Int)))) (cond_ (decide (n718 < (((List.length (List.getD l724 (Int.toNat n717) (0, ([], (0, (false, (0, (0, ([], ([], ([], ())))))))))).2.2.2.2.2.2.2.1) : Nat) : Int))) (cond_ ((decide ((0 : Int) ≤ n717)) && (decide (n717 < (List.length l724 : Int)))) (ref17_Sym (List.getD l724 (Int.toNat n717) (0, ([], (0, (false, (0, (0, ([], ([], ([], ())))))))))) n718
  (fun n727 => (cond_ (Nat.ble (((List.length ns726) + (List.length (n727 :: []))) * (8 : Nat)) (140737488355328 : Nat)) (ref24_program_L0_L2_L4 ts715 n716 n717 (IntKind.wrap .i64 (n718 + (1 : Int))) n719 n720 ts721 ts722 l723 l724 l725 (ns726 ++ (n727 :: [])) k1) none))) none) (k1 ts715 n716 n717 n719 n720 ts721 ts722 l723 l724 l725 ns726)) none)
noncomputable def ref24_program_L0_L2_L4 : Nat → T_ref24_program_L0_L2_L4
  | 0 => fun _ _ _ _ _ _ _ _ _ _ _ _ _ => none
  | n + 1 => ref24_program_L0_L2_L4.body (ref24_program_L0_L2_L4 n) ref17_Sym
def ref24_program_L0_L2_L4.p : LPat := lp 2 109 [0, 2, 3, 4, 5, 6, 7, 8] (pl (pb 0 80 Ty22) (ps (pq [1, 0] 0 0) (ps (pq [1, 1] 0 0) (pl (pd (.int .i64)) (ps (pq [1, 4] 0 0) (pl (pd (.int .i64)) (ps (pr [1, 5]) (pl (pd (.int .i64)) pz)))))))) (pl (po [1, 0] 30 3 (em (pl (pa (ps (pk 0) (ps (pk 0) (pl (pd (.int .i64)) pz)))) pz))) (pl (po [1, 1] 30 3 (em (pl (pa (ps (pr [1, 2]) (ps (pr [1, 3]) (pl (pd (.int .i64)) pz)))) pz))) (pl (po [1, 2] 73 13 (ed Ty20)) (pl (po [1, 3] 51 7 (ed Ty16)) (pl (po [1, 4] 80 3 (em (pl (pa (pl (pd Ty10) (pl (pd Ty19) (pl (pd Ty15) pz)))) pz))) (pl (po [1, 5] 3 1 (ed (.int .i64))) pz))))))
def ref24_program_L0_L2_L4.g (F : T_ref24_program_L0_L2_L4) (v : ref24_program_L0_L2_L4.p.T) (k : KE) : Option Bool := F v.1.1 v.1.2.1 v.1.2.2.1 v.1.2.2.2.1 v.2.1.1.1 v.2.2.1.1.1 v.2.2.2.1 v.2.2.2.2.1 v.2.2.2.2.2.1.1.1 v.2.2.2.2.2.1.1.2.1 v.2.2.2.2.2.1.1.2.2.1 v.2.2.2.2.2.2.1 (fun y0 y1 y2 y3 y4 y5 y6 y7 y8 y9 y10 => k (.exit 4) ⟨fillS 109 [0, 2, 3, 4, 5, 6, 7] [(.bv 0 80 Ty22 y0), (.ptr [1, 0] 0 0), (.ptr [1, 1] 0 0), (.d ⟨(.int .i64), y1⟩), (.ptr [1, 4] 0 0), (.d ⟨(.int .i64), y2⟩), (.ref [1, 5])], [([1, 0], ⟨30, 3, (.mix [(.agg [.nils, .nils, (.d ⟨(.int .i64), y3⟩)])])⟩), ([1, 1], ⟨30, 3, (.mix [(.agg [(.ref [1, 2]), (.ref [1, 3]), (.d ⟨(.int .i64), y4⟩)])])⟩), ([1, 2], ⟨73, 13, (.data Ty20 y5)⟩), ([1, 3], ⟨51, 7, (.data Ty16 y6)⟩), ([1, 4], ⟨80, 3, (.mix [(.agg [(.d ⟨Ty10, y7⟩), (.d ⟨Ty19, y8⟩), (.d ⟨Ty15, y9⟩)])])⟩), ([1, 5], ⟨3, 1, (.data (.int .i64) y10)⟩)], 2⟩)
theorem ref24_program_L0_L2_L4.step (S : T_ref24_program_L0_L2_L4) (F0 : T_ref17_Sym) : ∀ v k, exR 35 Try.f35 4 ref24_program_L0_L2_L4.p [⟨ref17_Sym.p, ref17_Sym.g F0⟩] [] [] (ref24_program_L0_L2_L4.g S) v k = ref24_program_L0_L2_L4.g (ref24_program_L0_L2_L4.body S F0) v k := fun v k => by kernel_rfl
theorem ref24_program_L0_L2_L4.ok : okL 35 Try.f35 1 4 ref24_program_L0_L2_L4.p (ref24_program_L0_L2_L4.g (ref24_program_L0_L2_L4 ROUNDS)) := loop2 (G := fun n => ref24_program_L0_L2_L4.g (ref24_program_L0_L2_L4 n)) (fun n => ref24_program_L0_L2_L4.step (ref24_program_L0_L2_L4 n) ref17_Sym) (.cons ref17_Sym.ok .nil) [] (by kernel_rfl) .nil (fun _ _ => rfl)
/-- function 53: sheerleg/sheerlegref24.name -/
abbrev T_ref24_name : Type := Tc16 → Int → (ByteArray → Option Bool) → Option Bool
noncomputable def ref24_name.body (ref19_Definer : T_ref19_Definer) : T_ref24_name := fun t739 n740 k1 =>
  (ref19_Definer t739 n740
  (fun n741 => (cond_ ((decide ((0 : Int) ≤ n741)) && (decide (n741 < (((List.length t739.1) : Nat) : Int)))) (k1 (List.getD t739.1 (Int.toNat n741) ((⟨#[]⟩ : ByteArray), (false, (0, (0, (0, ())))))).1) none)))
noncomputable def ref24_name : T_ref24_name := ref24_name.body ref19_Definer
def ref24_name.p : FPat := fp 53 (pl (pd Ty22) (pl (pd (.int .i64)) pz)) pz
def ref24_name.g (F : T_ref24_name) (v : ref24_name.p.T) (k : KR) : Option Bool := F v.1.1 v.1.2.1 (fun y0 => k (.d ⟨.str, y0⟩) [])
theorem ref24_name.eq (F0 : T_ref19_Definer) : ∀ v k, exF Try.f53 ref24_name.p [⟨ref19_Definer.p, ref19_Definer.g F0⟩] [] [] v k = ref24_name.g (ref24_name.body F0) v k := fun v k => by kernel_rfl
theorem ref24_name.ok : okF 4 ref24_name.p (ref24_name.g ref24_name) := fn2 (ref24_name.eq ref19_Definer) Try.func53 (by kernel_rfl) (.cons ref19_Definer.ok .nil) [] (by kernel_rfl) .nil
/-- function 36: the loop in block 0 -/
abbrev T_ref24_number_L0 : Type := Tc17 → Int → Int → Int → Tc4 → (Int → Option Bool) → Option Bool
noncomputable def ref24_number_L0.body (ref24_number_L0 : T_ref24_number_L0) : T_ref24_number_L0 := fun ts757 n758 n759 n760 t761 k1 =>
  (cond_ (decide (n760 < n758)) (cond_ (t761.2.2.1 == (1 : Int)) (cond_ ((decide ((0 : Int) ≤ n760)) && (decide (n760 < (List.length ts757 : Int)))) (ref24_number_L0 ts757 n758 (IntKind.wrap .i64 (n759 + (((List.length (List.getD ts757 (Int.toNat n760) ([], ([], ([], ())))).2.1) : Nat) : Int))) (IntKind.wrap .i64 (n760 + (1 : Int))) t761 k1) none) (cond_ ((decide ((0 : Int) ≤ n760)) && (decide (n760 < (List.length ts757 : Int)))) (ref24_number_L0 ts757 n758 (IntKind.wrap .i64 (n759 + (((List.length (List.getD ts757 (Int.toNat n760) ([], ([], ([], ())))).2.2.1) : Nat) : Int))) (IntKind.wrap .i64 (n760 + (1 : Int))) t761 k1) none)) (k1 n759))
noncomputable def ref24_number_L0 : Nat → T_ref24_number_L0
  | 0 => fun _ _ _ _ _ _ => none
  | n + 1 => ref24_number_L0.body (ref24_number_L0 n)
def ref24_number_L0.p : LPat := lp 2 56 [0, 7, 10, 11, 12] (pl (pb 0 80 Ty22) (pl (pd (.int .i64)) (ps (pq [1, 0] 0 0) (pl (pd (.int .i64)) (pl (pd (.int .i64)) pz))))) (pl (po [1, 0] 87 5 (es Ty9 (pl eh pz))) pz)
def ref24_number_L0.g (F : T_ref24_number_L0) (v : ref24_number_L0.p.T) (k : KE) : Option Bool := F v.1.1 v.1.2.1 v.1.2.2.1 v.1.2.2.2.1 v.2.1.1 (fun y0 => k (.exit 0) ⟨fillS 56 [11] [(.d ⟨(.int .i64), y0⟩)], [], 2⟩)
theorem ref24_number_L0.step (S : T_ref24_number_L0) : ∀ v k, exR 36 Try.f36 0 ref24_number_L0.p [] [] [] (ref24_number_L0.g S) v k = ref24_number_L0.g (ref24_number_L0.body S) v k := fun v k => by kernel_rfl
theorem ref24_number_L0.ok : okL 36 Try.f36 0 0 ref24_number_L0.p (ref24_number_L0.g (ref24_number_L0 ROUNDS)) := loop2 (G := fun n => ref24_number_L0.g (ref24_number_L0 n)) (fun n => ref24_number_L0.step (ref24_number_L0 n)) .nil [] (by kernel_rfl) .nil (fun _ _ => rfl)
/-- function 36: sheerleg/sheerlegref24.number -/
abbrev T_ref24_number : Type := Tc17 → Int → Int → (Int → Option Bool) → Option Bool
noncomputable def ref24_number.body (ref23_Bound : T_ref23_Bound) (ref24_number_L0 : T_ref24_number_L0) : T_ref24_number := fun ts751 n752 n753 k1 =>
  (ref23_Bound ts751 n752 n753
  (fun n754 n755 n756 => (cond_ ((decide ((0 : Int) ≤ n754)) && (decide (n754 < (List.length ts751 : Int)))) (cond_ ((decide ((0 : Int) ≤ n755)) && (decide (n755 < (((List.length (List.getD ts751 (Int.toNat n754) ([], ([], ([], ())))).1) : Nat) : Int)))) (ref24_number_L0 ts751 n754 (List.getD (List.getD ts751 (Int.toNat n754) ([], ([], ([], ())))).1 (Int.toNat n755) ((⟨#[]⟩ : ByteArray), (false, (0, (0, (0, ())))))).2.2.2.2.1 (0 : Int) (List.getD (List.getD ts751 (Int.toNat n754) ([], ([], ([], ())))).1 (Int.toNat n755) ((⟨#[]⟩ : ByteArray), (false, (0, (0, (0, ()))))))
  (fun n762 => (k1 n762))) none) none)))
noncomputable def ref24_number : T_ref24_number := ref24_number.body ref23_Bound (ref24_number_L0 ROUNDS)
def ref24_number.p : FPat := fp 36 (pl (pb 0 80 Ty22) (pl (pd (.int .i64)) (pl (pd (.int .i64)) pz))) pz
def ref24_number.g (F : T_ref24_number) (v : ref24_number.p.T) (k : KR) : Option Bool := F v.1.1 v.1.2.1 v.1.2.2.1 (fun y0 => k (.d ⟨(.int .i64), y0⟩) [])
theorem ref24_number.eq (F0 : T_ref23_Bound) (L0 : T_ref24_number_L0) : ∀ v k, exF Try.f36 ref24_number.p [⟨ref23_Bound.p, ref23_Bound.g F0⟩] [] [⟨0, ref24_number_L0.p, ref24_number_L0.g L0⟩] v k = ref24_number.g (ref24_number.body F0 L0) v k := fun v k => by kernel_rfl
theorem ref24_number.ok : okF 4 ref24_number.p (ref24_number.g ref24_number) := fn2 (ref24_number.eq ref23_Bound (ref24_number_L0 ROUNDS)) Try.func36 (by kernel_rfl) (.cons ref23_Bound.ok .nil) [0] (by kernel_rfl) (.cons ref24_number_L0.ok .nil)
/-- function 54: the loop in block 0 -/
abbrev T_ref24_bound_L0 : Type := Tc17 → Int → (List Int) → Int → (List Int) → ((List Int) → Option Bool) → Option Bool
noncomputable def ref24_bound_L0.body (ref24_bound_L0 : T_ref24_bound_L0) (ref24_number : T_ref24_number) : T_ref24_bound_L0 := fun ts746 n747 ns748 n749 ns750 k1 =>
  (cond_ (decide (n749 < (List.length ns748 : Int))) (cond_ ((decide ((0 : Int) ≤ n749)) && (decide (n749 < (List.length ns748 : Int)))) (cond_ (decide ((List.getD ns748 (Int.toNat n749) (0 : Int)) ≥ (0 : Int))) (cond_ ((decide ((0 : Int) ≤ n749)) && (decide (n749 < (List.length ns748 : Int)))) (ref24_number ts746 n747 (List.getD ns748 (Int.toNat n749) (0 : Int))
  (fun n763 => (cond_ (Nat.ble (((List.length ns750) + (List.length (n763 :: []))) * (8 : Nat)) (140737488355328 : Nat)) (ref24_bound_L0 ts746 n747 ns748 (IntKind.wrap .i64 (n749 + (1 : Int))) (ns750 ++ (n763 :: [])) k1) none))) none) (cond_ (Nat.ble (((List.length ns750) + (1 : Nat)) * (8 : Nat)) (140737488355328 : Nat)) (ref24_bound_L0 ts746 n747 ns748 (IntKind.wrap .i64 (n749 + (1 : Int))) (ns750 ++ ((-1 : Int) :: [])) k1) none)) none) (k1 ns750))
noncomputable def ref24_bound_L0 : Nat → T_ref24_bound_L0
  | 0 => fun _ _ _ _ _ _ => none
  | n + 1 => ref24_bound_L0.body (ref24_bound_L0 n) ref24_number
def ref24_bound_L0.p : LPat := lp 2 33 [0, 1, 2, 7, 8] (pl (pb 0 80 Ty22) (pl (pd (.int .i64)) (pl (pb 1 3 (.int .i64)) (ps (pr [1, 0]) (pl (pd (.int .i64)) pz))))) (pl (po [1, 0] 3 1 (ed (.int .i64))) pz)
def ref24_bound_L0.g (F : T_ref24_bound_L0) (v : ref24_bound_L0.p.T) (k : KE) : Option Bool := F v.1.1 v.1.2.1 v.1.2.2.1 v.1.2.2.2.1 v.2.1 (fun y0 => k (.exit 0) ⟨fillS 33 [7] [(.ref [1, 0])], [([1, 0], ⟨3, 1, (.data (.int .i64) y0)⟩)], 2⟩)
theorem ref24_bound_L0.step (S : T_ref24_bound_L0) (F0 : T_ref24_number) : ∀ v k, exR 54 Try.f54 0 ref24_bound_L0.p [⟨ref24_number.p, ref24_number.g F0⟩] [] [] (ref24_bound_L0.g S) v k = ref24_bound_L0.g (ref24_bound_L0.body S F0) v k := fun v k => by kernel_rfl
theorem ref24_bound_L0.ok : okL 54 Try.f54 4 0 ref24_bound_L0.p (ref24_bound_L0.g (ref24_bound_L0 ROUNDS)) := loop2 (G := fun n => ref24_bound_L0.g (ref24_bound_L0 n)) (fun n => ref24_bound_L0.step (ref24_bound_L0 n) ref24_number) (.cons ref24_number.ok .nil) [] (by kernel_rfl) .nil (fun _ _ => rfl)
/-- function 54: sheerleg/sheerlegref24.bound -/
abbrev T_ref24_bound : Type := Tc17 → Int → (List Int) → ((List Int) → Option Bool) → Option Bool
noncomputable def ref24_bound.body (ref24_bound_L0 : T_ref24_bound_L0) : T_ref24_bound := fun ts743 n744 ns745 k1 =>
  (ref24_bound_L0 ts743 n744 ns745 (0 : Int) []
  (fun ns764 => (k1 ns764)))
noncomputable def ref24_bound : T_ref24_bound := ref24_bound.body (ref24_bound_L0 ROUNDS)
def ref24_bound.p : FPat := fp 54 (pl (pb 0 80 Ty22) (pl (pd (.int .i64)) (pl (pb 1 3 (.int .i64)) pz))) pz
def ref24_bound.g (F : T_ref24_bound) (v : ref24_bound.p.T) (k : KR) : Option Bool := F v.1.1 v.1.2.1 v.1.2.2.1 (fun y0 => k (.ref [1, 0]) [([1, 0], ⟨3, 1, (.data (.int .i64) y0)⟩)])
theorem ref24_bound.eq (L0 : T_ref24_bound_L0) : ∀ v k, exF Try.f54 ref24_bound.p [] [] [⟨0, ref24_bound_L0.p, ref24_bound_L0.g L0⟩] v k = ref24_bound.g (ref24_bound.body L0) v k := fun v k => by kernel_rfl
theorem ref24_bound.ok : okF 5 ref24_bound.p (ref24_bound.g ref24_bound) := fn2 (ref24_bound.eq (ref24_bound_L0 ROUNDS)) Try.func54 (by kernel_rfl) .nil [0] (by kernel_rfl) (.cons ref24_bound_L0.ok .nil)
/-- function 35: the loop in block 2 -/
abbrev T_ref24_program_L0_L2 : Type := Tc17 → Int → Int → Int → Int → Tc15 → Tc11 → Tc7 → Tc13 → Tc9 → (Tc17 → Int → Int → Int → Tc15 → Tc11 → Tc7 → Tc13 → Tc9 → Option Bool) → Option Bool
noncomputable def ref24_program_L0_L2.body (ref24_program_L0_L2 : T_ref24_program_L0_L2) (ref24_name : T_ref24_name) (ref24_bound : T_ref24_bound) (ref24_program_L0_L2_L4 : T_ref24_program_L0_L2_L4) : T_ref24_program_L0_L2 := fun ts705 n706 n707 n708 n709 ts710 ts711 l712 l713 l714 k1 =>
  (cond_ (decide (n707 < (List.length l713 : Int))) (ref24_program_L0_L2_L4 ts705 n706 n707 (0 : Int) n708 n709 ts710 ts711 l712 l713 l714 []
  (fun ts728 n729 n730 n731 n732 ts733 ts734 l735 l736 l737 ns738 => (ref24_name (l735, (l736, (l737, ()))) n730
  (fun s742 => (cond_ ((decide ((0 : Int) ≤ n730)) && (decide (n730 < (List.length l736 : Int)))) (ref24_bound ts728 n729 ns738
  (fun ns765 => (cond_ (Nat.ble (((List.length ts733) + (List.length ((n729, (n730, (s742, ((List.getD l736 (Int.toNat n730) (0, ([], (0, (false, (0, (0, ([], ([], ([], ())))))))))).1, ((List.getD l736 (Int.toNat n730) (0, ([], (0, (false, (0, (0, ([], ([], ([], ())))))))))).2.1, ((List.getD l736 (Int.toNat n730) (0, ([], (0, (false, (0, (0, ([], ([], ([], ())))))))))).2.2.1, ((List.getD l736 (Int.toNat n730) (0, ([], (0, (false, (0, (0, ([], ([], ([], ())))))))))).2.2.2.1, ((List.getD l736 (Int.toNat n730) (0, ([], (0, (false, (0, (0, ([], ([], ([], ())))))))))).2.2.2.2.1, ((List.getD l736 (Int.toNat n730) (0, ([], (0, (false, (0, (0, ([], ([], ([], ())))))))))).2.2.2.2.2.1, ((List.getD l736 (Int.toNat n730) (0, ([], (0, (false, (0, (0, ([], ([], ([], ())))))))))).2.2.2.2.2.2.1, ((List.getD l736 (Int.toNat n730) (0, ([], (0, (false, (0, (0, ([], ([], ([], ())))))))))).2.2.2.2.2.2.2.1, ((List.getD l736 (Int.toNat n730) (0, ([], (0, (false, (0, (0, ([], ([], ([], ())))))))))).2.2.2.2.2.2.2.2.1, (ns765, ()))))))))))))) :: []))) * (192 : Nat)) (140737488355328 : Nat)) (ref24_program_L0_L2 ts728 n729 (IntKind.wrap .i64 (n730 + (1 : Int))) n731 n732 (ts733 ++ ((n729, (n730, (s742, ((List.getD l736 (Int.toNat n730) (0, ([], (0, (false, (0, (0, ([], ([], ([], ())))))))))).1, ((List.getD l736 (Int.toNat n730) (0, ([], (0, (false, (0, (0, ([], ([], ([], ())))))))))).2.1, ((List.getD l736 (Int.toNat n730) (0, ([], (0, (false, (0, (0, ([], ([], ([], ())))))))))).2.2.1, ((List.getD l736 (Int.toNat n730) (0, ([], (0, (false, (0, (0, ([], ([], ([], ())))))))))).2.2.2.1, ((List.getD l736 (Int.toNat n730) (0, ([], (0, (false, (0, (0, ([], ([], ([], ())))))))))).2.2.2.2.1, ((List.getD l736 (Int.toNat n730) (0, ([], (0, (false, (0, (0, ([], ([], ([], ())))))))))).2.2.2.2.2.1, ((List.getD l736 (Int.toNat n730) (0, ([], (0, (false, (0, (0, ([], ([], ([], ())))))))))).2.2.2.2.2.2.1, ((List.getD l736 (Int.toNat n730) (0, ([], (0, (false, (0, (0, ([], ([], ([], ())))))))))).2.2.2.2.2.2.2.1, ((List.getD l736 (Int.toNat n730) (0, ([], (0, (false, (0, (0, ([], ([], ([], ())))))))))).2.2.2.2.2.2.2.2.1, (ns765, ()))))))))))))) :: [])) ts734 l735 l736 l737 k1) none))) none))))) (k1 ts705 n706 n708 n709 ts710 ts711 l712 l713 l714))
noncomputable def ref24_program_L0_L2 : Nat → T_ref24_program_L0_L2
  | 0 => fun _ _ _ _ _ _ _ _ _ _ _ => none
  | n + 1 => ref24_program_L0_L2.body (ref24_program_L0_L2 n) ref24_name ref24_bound (ref24_program_L0_L2_L4 ROUNDS)
def ref24_program_L0_L2.p : LPat := lp 2 109 [0, 2, 3, 4, 5, 6] (pl (pb 0 80 Ty22) (ps (pq [1, 0] 0 0) (ps (pq [1, 1] 0 0) (pl (pd (.int .i64)) (ps (pq [1, 4] 0 0) (pl (pd (.int .i64)) pz)))))) (pl (po [1, 0] 30 3 (em (pl (pa (ps (pk 0) (ps (pk 0) (pl (pd (.int .i64)) pz)))) pz))) (pl (po [1, 1] 30 3 (em (pl (pa (ps (pr [1, 2]) (ps (pr [1, 3]) (pl (pd (.int .i64)) pz)))) pz))) (pl (po [1, 2] 73 13 (ed Ty20)) (pl (po [1, 3] 51 7 (ed Ty16)) (pl (po [1, 4] 80 3 (em (pl (pa (pl (pd Ty10) (pl (pd Ty19) (pl (pd Ty15) pz)))) pz))) pz)))))
def ref24_program_L0_L2.g (F : T_ref24_program_L0_L2) (v : ref24_program_L0_L2.p.T) (k : KE) : Option Bool := F v.1.1 v.1.2.1 v.1.2.2.1 v.2.1.1.1 v.2.2.1.1.1 v.2.2.2.1 v.2.2.2.2.1 v.2.2.2.2.2.1.1.1 v.2.2.2.2.2.1.1.2.1 v.2.2.2.2.2.1.1.2.2.1 (fun y0 y1 y2 y3 y4 y5 y6 y7 y8 => k (.exit 2) ⟨fillS 109 [0, 2, 3, 4, 5] [(.bv 0 80 Ty22 y0), (.ptr [1, 0] 0 0), (.ptr [1, 1] 0 0), (.d ⟨(.int .i64), y1⟩), (.ptr [1, 4] 0 0)], [([1, 0], ⟨30, 3, (.mix [(.agg [.nils, .nils, (.d ⟨(.int .i64), y2⟩)])])⟩), ([1, 1], ⟨30, 3, (.mix [(.agg [(.ref [1, 2]), (.ref [1, 3]), (.d ⟨(.int .i64), y3⟩)])])⟩), ([1, 2], ⟨73, 13, (.data Ty20 y4)⟩), ([1, 3], ⟨51, 7, (.data Ty16 y5)⟩), ([1, 4], ⟨80, 3, (.mix [(.agg [(.d ⟨Ty10, y6⟩), (.d ⟨Ty19, y7⟩), (.d ⟨Ty15, y8⟩)])])⟩)], 2⟩)
theorem ref24_program_L0_L2.step (S : T_ref24_program_L0_L2) (F0 : T_ref24_name) (F1 : T_ref24_bound) (L0 : T_ref24_program_L0_L2_L4) : ∀ v k, exR 35 Try.f35 2 ref24_program_L0_L2.p [⟨ref24_name.p, ref24_name.g F0⟩, ⟨ref24_bound.p, ref24_bound.g F1⟩] [] [⟨4, ref24_program_L0_L2_L4.p, ref24_program_L0_L2_L4.g L0⟩] (ref24_program_L0_L2.g S) v k = ref24_program_L0_L2.g (ref24_program_L0_L2.body S F0 F1 L0) v k := fun v k => by kernel_rfl
theorem ref24_program_L0_L2.ok : okL 35 Try.f35 5 2 ref24_program_L0_L2.p (ref24_program_L0_L2.g (ref24_program_L0_L2 ROUNDS)) := loop2 (G := fun n => ref24_program_L0_L2.g (ref24_program_L0_L2 n)) (fun n => ref24_program_L0_L2.step (ref24_program_L0_L2 n) ref24_name ref24_bound (ref24_program_L0_L2_L4 ROUNDS)) (.cons ref24_name.ok (.cons ref24_bound.ok .nil)) [4] (by kernel_rfl) (.cons ref24_program_L0_L2_L4.ok .nil) (fun _ _ => rfl)
/-- function 66: the loop in block 2 -/
abbrev T_ref15_Marks_L0_L2 : Type := Tc0 → Int → Int → Int → Int → (List Int) → (Tc0 → Int → Int → Int → (List Int) → Option Bool) → Option Bool
noncomputable def ref15_Marks_L0_L2.body (ref15_Marks_L0_L2 : T_ref15_Marks_L0_L2) : T_ref15_Marks_L0_L2 := fun ts793 n794 n795 n796 n797 ns798 k1 =>
  (cond_ (decide (n797 ≥ (0 : Int))) (cond_ ((decide ((0 : Int) ≤ n797)) && (decide (n797 < (List.length ts793 : Int)))) (cond_ ((List.getD ts793 (Int.toNat n797) (0, (0, (false, ())))).1 == n795) (ref15_Marks_L0_L2 ts793 n794 n795 n797 (IntKind.wrap .i64 (n797 - (1 : Int))) ns798 k1) (ref15_Marks_L0_L2 ts793 n794 n795 n796 (IntKind.wrap .i64 (n797 - (1 : Int))) ns798 k1)) none) (k1 ts793 n794 n795 n796 ns798))
noncomputable def ref15_Marks_L0_L2 : Nat → T_ref15_Marks_L0_L2
  | 0 => fun _ _ _ _ _ _ _ => none
  | n + 1 => ref15_Marks_L0_L2.body (ref15_Marks_L0_L2 n)
def ref15_Marks_L0_L2.p : LPat := lp 2 38 [0, 1, 5, 6, 7, 8] (pl (pb 0 93 Ty4) (pl (pd (.int .i64)) (ps (pr [1, 0]) (pl (pd (.int .i64)) (pl (pd (.int .i64)) (pl (pd (.int .i64)) pz)))))) (pl (po [1, 0] 3 1 (ed (.int .i64))) pz)
def ref15_Marks_L0_L2.g (F : T_ref15_Marks_L0_L2) (v : ref15_Marks_L0_L2.p.T) (k : KE) : Option Bool := F v.1.1 v.1.2.1 v.1.2.2.1 v.1.2.2.2.1 v.1.2.2.2.2.1 v.2.1 (fun y0 y1 y2 y3 y4 => k (.exit 2) ⟨fillS 38 [0, 1, 5, 6, 7] [(.bv 0 93 Ty4 y0), (.d ⟨(.int .i64), y1⟩), (.ref [1, 0]), (.d ⟨(.int .i64), y2⟩), (.d ⟨(.int .i64), y3⟩)], [([1, 0], ⟨3, 1, (.data (.int .i64) y4)⟩)], 2⟩)
theorem ref15_Marks_L0_L2.step (S : T_ref15_Marks_L0_L2) : ∀ v k, exR 66 Try.f66 2 ref15_Marks_L0_L2.p [] [] [] (ref15_Marks_L0_L2.g S) v k = ref15_Marks_L0_L2.g (ref15_Marks_L0_L2.body S) v k := fun v k => by kernel_rfl
theorem ref15_Marks_L0_L2.ok : okL 66 Try.f66 0 2 ref15_Marks_L0_L2.p (ref15_Marks_L0_L2.g (ref15_Marks_L0_L2 ROUNDS)) := loop2 (G := fun n => ref15_Marks_L0_L2.g (ref15_Marks_L0_L2 n)) (fun n => ref15_Marks_L0_L2.step (ref15_Marks_L0_L2 n)) .nil [] (by kernel_rfl) .nil (fun _ _ => rfl)
/-- function 66: the loop in block 0 -/
abbrev T_ref15_Marks_L0 : Type := Tc0 → Int → Int → (List Int) → ((List Int) → Option Bool) → Option Bool
noncomputable def ref15_Marks_L0.body (ref15_Marks_L0 : T_ref15_Marks_L0) (ref15_Marks_L0_L2 : T_ref15_Marks_L0_L2) : T_ref15_Marks_L0 := fun ts789 n790 n791 ns792 k1 =>
  (cond_ (decide (n791 < n790)) (cond_ (decide (n791 < (4096 : Int))) (ref15_Marks_L0_L2 ts789 n790 n791 (-1 : Int) (IntKind.wrap .i64 ((List.length ts789 : Int) - (1 : Int))) ns792
  (fun ts799 n800 n801 n802 ns803 => (cond_ (Nat.ble (((List.length ns803) + (List.length (n802 :: []))) * (8 : Nat)) (140737488355328 : Nat)) (ref15_Marks_L0 ts799 n800 (IntKind.wrap .i64 (n801 + (1 : Int))) (ns803 ++ (n802 :: [])) k1) none))) (k1 ns792)) (k1 ns792))
noncomputable def ref15_Marks_L0 : Nat → T_ref15_Marks_L0
  | 0 => fun _ _ _ _ _ => none
  | n + 1 => ref15_Marks_L0.body (ref15_Marks_L0 n) (ref15_Marks_L0_L2 ROUNDS)
def ref15_Marks_L0.p : LPat := lp 2 38 [0, 1, 5, 6] (pl (pb 0 93 Ty4) (pl (pd (.int .i64)) (ps (pr [1, 0]) (pl (pd (.int .i64)) pz)))) (pl (po [1, 0] 3 1 (ed (.int .i64))) pz)
def ref15_Marks_L0.g (F : T_ref15_Marks_L0) (v : ref15_Marks_L0.p.T) (k : KE) : Option Bool := F v.1.1 v.1.2.1 v.1.2.2.1 v.2.1 (fun y0 => k (.exit 0) ⟨fillS 38 [5] [(.ref [1, 0])], [([1, 0], ⟨3, 1, (.data (.int .i64) y0)⟩)], 2⟩)
theorem ref15_Marks_L0.step (S : T_ref15_Marks_L0) (L0 : T_ref15_Marks_L0_L2) : ∀ v k, exR 66 Try.f66 0 ref15_Marks_L0.p [] [] [⟨2, ref15_Marks_L0_L2.p, ref15_Marks_L0_L2.g L0⟩] (ref15_Marks_L0.g S) v k = ref15_Marks_L0.g (ref15_Marks_L0.body S L0) v k := fun v k => by kernel_rfl
theorem ref15_Marks_L0.ok : okL 66 Try.f66 0 0 ref15_Marks_L0.p (ref15_Marks_L0.g (ref15_Marks_L0 ROUNDS)) := loop2 (G := fun n => ref15_Marks_L0.g (ref15_Marks_L0 n)) (fun n => ref15_Marks_L0.step (ref15_Marks_L0 n) (ref15_Marks_L0_L2 ROUNDS)) .nil [2] (by kernel_rfl) (.cons ref15_Marks_L0_L2.ok .nil) (fun _ _ => rfl)
/-- function 66: sheerleg/sheerlegref15.Marks -/
abbrev T_ref15_Marks : Type := Tc0 → Int → ((List Int) → Option Bool) → Option Bool
noncomputable def ref15_Marks.body (ref15_Marks_L0 : T_ref15_Marks_L0) : T_ref15_Marks := fun ts787 n788 k1 =>
  (ref15_Marks_L0 ts787 n788 (0 : Int) []
  (fun ns804 => (k1 ns804)))
noncomputable def ref15_Marks : T_ref15_Marks := ref15_Marks.body (ref15_Marks_L0 ROUNDS)
def ref15_Marks.p : FPat := fp 66 (pl (pb 0 93 Ty4) (pl (pd (.int .i64)) pz)) pz
def ref15_Marks.g (F : T_ref15_Marks) (v : ref15_Marks.p.T) (k : KR) : Option Bool := F v.1.1 v.1.2.1 (fun y0 => k (.ref [1, 0]) [([1, 0], ⟨3, 1, (.data (.int .i64) y0)⟩)])
theorem ref15_Marks.eq (L0 : T_ref15_Marks_L0) : ∀ v k, exF Try.f66 ref15_Marks.p [] [] [⟨0, ref15_Marks_L0.p, ref15_Marks_L0.g L0⟩] v k = ref15_Marks.g (ref15_Marks.body L0) v k := fun v k => by kernel_rfl
theorem ref15_Marks.ok : okF 1 ref15_Marks.p (ref15_Marks.g ref15_Marks) := fn2 (ref15_Marks.eq (ref15_Marks_L0 ROUNDS)) Try.func66 (by kernel_rfl) .nil [0] (by kernel_rfl) (.cons ref15_Marks_L0.ok .nil)
/-- function 55: the loop in block 0 -/
abbrev T_ref15_Refs_L0 : Type := Int → Tc8 → (List Int) → ((List Int) → Option Bool) → Option Bool
noncomputable def ref15_Refs_L0.body (ref15_Refs_L0 : T_ref15_Refs_L0) : T_ref15_Refs_L0 := fun n806 t807 ns808 k1 =>
  (cond_ (decide (n806 < (List.length ns808 : Int))) (cond_ ((decide ((0 : Int) ≤ n806)) && (decide (n806 < (List.length ns808 : Int)))) (cond_ (decide ((List.getD ns808 (Int.toNat n806) (0 : Int)) ≥ (0 : Int))) (cond_ ((decide ((0 : Int) ≤ n806)) && (decide (n806 < (List.length ns808 : Int)))) (cond_ ((decide ((0 : Int) ≤ (List.getD ns808 (Int.toNat n806) (0 : Int)))) && (decide ((List.getD ns808 (Int.toNat n806) (0 : Int)) < (((List.length t807.2.2.1) : Nat) : Int)))) (cond_ ((decide ((0 : Int) ≤ n806)) && (decide (n806 < (List.length ns808 : Int)))) (ref15_Refs_L0 (IntKind.wrap .i64 (n806 + (1 : Int))) t807 (List.set ns808 (Int.toNat n806) (List.getD t807.2.2.1 (Int.toNat (List.getD ns808 (Int.toNat n806) (0 : Int))) (0, (0, (false, ())))).2.1) k1) none) none) none) (ref15_Refs_L0 (IntKind.wrap .i64 (n806 + (1 : Int))) t807 ns808 k1)) none) (k1 ns808))
noncomputable def ref15_Refs_L0 : Nat → T_ref15_Refs_L0
  | 0 => fun _ _ _ _ => none
  | n + 1 => ref15_Refs_L0.body (ref15_Refs_L0 n)
def ref15_Refs_L0.p : LPat := lp 2 35 [1, 3, 4] (ps (pq [1, 0] 0 0) (ps (pr [1, 1]) (pl (pd (.int .i64)) pz))) (pl (po [1, 0] 49 3 (es Ty14 (pl eh pz))) (pl (po [1, 1] 3 1 (ed (.int .i64))) pz))
def ref15_Refs_L0.g (F : T_ref15_Refs_L0) (v : ref15_Refs_L0.p.T) (k : KE) : Option Bool := F v.1.1 v.2.1.1 v.2.2.1 (fun y0 => k (.exit 0) ⟨fillS 35 [3] [(.ref [1, 0])], [([1, 0], ⟨3, 1, (.data (.int .i64) y0)⟩)], 2⟩)
theorem ref15_Refs_L0.step (S : T_ref15_Refs_L0) : ∀ v k, exR 55 Try.f55 0 ref15_Refs_L0.p [] [] [] (ref15_Refs_L0.g S) v k = ref15_Refs_L0.g (ref15_Refs_L0.body S) v k := fun v k => by kernel_rfl
theorem ref15_Refs_L0.ok : okL 55 Try.f55 0 0 ref15_Refs_L0.p (ref15_Refs_L0.g (ref15_Refs_L0 ROUNDS)) := loop2 (G := fun n => ref15_Refs_L0.g (ref15_Refs_L0 n)) (fun n => ref15_Refs_L0.step (ref15_Refs_L0 n)) .nil [] (by kernel_rfl) .nil (fun _ _ => rfl)
/-- function 55: sheerleg/sheerlegref15.Refs -/
abbrev T_ref15_Refs : Type := Tc8 → ((List Int) → Option Bool) → Option Bool
noncomputable def ref15_Refs.body (ref15_Marks : T_ref15_Marks) (ref15_Refs_L0 : T_ref15_Refs_L0) : T_ref15_Refs := fun t786 k1 =>
  (ref15_Marks t786.2.2.1 (((List.length t786.2.1) : Nat) : Int)
  (fun ns805 => (ref15_Refs_L0 (0 : Int) t786 ns805
  (fun ns809 => (k1 ns809)))))
noncomputable def ref15_Refs : T_ref15_Refs := ref15_Refs.body ref15_Marks (ref15_Refs_L0 ROUNDS)
def ref15_Refs.p : FPat := fp 55 (pl (pd Ty14) pz) pz
def ref15_Refs.g (F : T_ref15_Refs) (v : ref15_Refs.p.T) (k : KR) : Option Bool := F v.1.1 (fun y0 => k (.ref [1, 0]) [([1, 0], ⟨3, 1, (.data (.int .i64) y0)⟩)])
theorem ref15_Refs.eq (F0 : T_ref15_Marks) (L0 : T_ref15_Refs_L0) : ∀ v k, exF Try.f55 ref15_Refs.p [⟨ref15_Marks.p, ref15_Marks.g F0⟩] [] [⟨0, ref15_Refs_L0.p, ref15_Refs_L0.g L0⟩] v k = ref15_Refs.g (ref15_Refs.body F0 L0) v k := fun v k => by kernel_rfl
theorem ref15_Refs.ok : okF 2 ref15_Refs.p (ref15_Refs.g ref15_Refs) := fn2 (ref15_Refs.eq ref15_Marks (ref15_Refs_L0 ROUNDS)) Try.func55 (by kernel_rfl) (.cons ref15_Marks.ok .nil) [0] (by kernel_rfl) (.cons ref15_Refs_L0.ok .nil)
/-- function 35: the loop in block 6 -/
abbrev T_ref24_program_L0_L6 : Type := Tc17 → Int → Int → Int → Int → Tc15 → Tc11 → Tc7 → Tc13 → Tc9 → (Tc17 → Int → Int → Int → Tc15 → Tc11 → Option Bool) → Option Bool
noncomputable def ref24_program_L0_L6.body (ref24_program_L0_L6 : T_ref24_program_L0_L6) (ref24_name : T_ref24_name) (ref15_Refs : T_ref15_Refs) (ref24_bound : T_ref24_bound) : T_ref24_program_L0_L6 := fun ts775 n776 n777 n778 n779 ts780 ts781 l782 l783 l784 k1 =>
  (cond_ (decide (n777 < (List.length l784 : Int))) (ref24_name (l782, (l783, (l784, ()))) (IntKind.wrap .i64 ((List.length l783 : Int) + n777))
  (fun s785 => (cond_ ((decide ((0 : Int) ≤ n777)) && (decide (n777 < (List.length l784 : Int)))) (cond_ ((decide ((0 : Int) ≤ n777)) && (decide (n777 < (List.length l784 : Int)))) (ref15_Refs (List.getD l784 (Int.toNat n777) (0, ([], ([], ()))))
  (fun ns810 => (ref24_bound ts775 n776 ns810
  (fun ns811 => (cond_ (Nat.ble (((List.length ts781) + (List.length ((n776, ((IntKind.wrap .i64 ((List.length l783 : Int) + n777)), (s785, ((List.getD l784 (Int.toNat n777) (0, ([], ([], ())))).1, ((List.getD l784 (Int.toNat n777) (0, ([], ([], ())))).2.1, ((List.getD l784 (Int.toNat n777) (0, ([], ([], ())))).2.2.1, (ns811, ()))))))) :: []))) * (112 : Nat)) (140737488355328 : Nat)) (ref24_program_L0_L6 ts775 n776 (IntKind.wrap .i64 (n777 + (1 : Int))) n778 n779 ts780 (ts781 ++ ((n776, ((IntKind.wrap .i64 ((List.length l783 : Int) + n777)), (s785, ((List.getD l784 (Int.toNat n777) (0, ([], ([], ())))).1, ((List.getD l784 (Int.toNat n777) (0, ([], ([], ())))).2.1, ((List.getD l784 (Int.toNat n777) (0, ([], ([], ())))).2.2.1, (ns811, ()))))))) :: [])) l782 l783 l784 k1) none))))) none) none))) (k1 ts775 n776 n778 n779 ts780 ts781))
noncomputable def ref24_program_L0_L6 : Nat → T_ref24_program_L0_L6
  | 0 => fun _ _ _ _ _ _ _ _ _ _ _ => none
  | n + 1 => ref24_program_L0_L6.body (ref24_program_L0_L6 n) ref24_name ref15_Refs ref24_bound
def ref24_program_L0_L6.p : LPat := lp 2 109 [0, 2, 3, 4, 5, 9] (pl (pb 0 80 Ty22) (ps (pq [1, 0] 0 0) (ps (pq [1, 1] 0 0) (pl (pd (.int .i64)) (ps (pq [1, 4] 0 0) (pl (pd (.int .i64)) pz)))))) (pl (po [1, 0] 30 3 (em (pl (pa (ps (pk 0) (ps (pk 0) (pl (pd (.int .i64)) pz)))) pz))) (pl (po [1, 1] 30 3 (em (pl (pa (ps (pr [1, 2]) (ps (pr [1, 3]) (pl (pd (.int .i64)) pz)))) pz))) (pl (po [1, 2] 73 13 (ed Ty20)) (pl (po [1, 3] 51 7 (ed Ty16)) (pl (po [1, 4] 80 3 (em (pl (pa (pl (pd Ty10) (pl (pd Ty19) (pl (pd Ty15) pz)))) pz))) pz)))))
def ref24_program_L0_L6.g (F : T_ref24_program_L0_L6) (v : ref24_program_L0_L6.p.T) (k : KE) : Option Bool := F v.1.1 v.1.2.1 v.1.2.2.1 v.2.1.1.1 v.2.2.1.1.1 v.2.2.2.1 v.2.2.2.2.1 v.2.2.2.2.2.1.1.1 v.2.2.2.2.2.1.1.2.1 v.2.2.2.2.2.1.1.2.2.1 (fun y0 y1 y2 y3 y4 y5 => k (.exit 6) ⟨fillS 109 [0, 2, 3, 4] [(.bv 0 80 Ty22 y0), (.ptr [1, 0] 0 0), (.ptr [1, 1] 0 0), (.d ⟨(.int .i64), y1⟩)], [([1, 0], ⟨30, 3, (.mix [(.agg [.nils, .nils, (.d ⟨(.int .i64), y2⟩)])])⟩), ([1, 1], ⟨30, 3, (.mix [(.agg [(.ref [1, 2]), (.ref [1, 3]), (.d ⟨(.int .i64), y3⟩)])])⟩), ([1, 2], ⟨73, 13, (.data Ty20 y4)⟩), ([1, 3], ⟨51, 7, (.data Ty16 y5)⟩)], 2⟩)
theorem ref24_program_L0_L6.step (S : T_ref24_program_L0_L6) (F0 : T_ref24_name) (F1 : T_ref15_Refs) (F2 : T_ref24_bound) : ∀ v k, exR 35 Try.f35 6 ref24_program_L0_L6.p [⟨ref24_name.p, ref24_name.g F0⟩, ⟨ref15_Refs.p, ref15_Refs.g F1⟩, ⟨ref24_bound.p, ref24_bound.g F2⟩] [] [] (ref24_program_L0_L6.g S) v k = ref24_program_L0_L6.g (ref24_program_L0_L6.body S F0 F1 F2) v k := fun v k => by kernel_rfl
theorem ref24_program_L0_L6.ok : okL 35 Try.f35 5 6 ref24_program_L0_L6.p (ref24_program_L0_L6.g (ref24_program_L0_L6 ROUNDS)) := loop2 (G := fun n => ref24_program_L0_L6.g (ref24_program_L0_L6 n)) (fun n => ref24_program_L0_L6.step (ref24_program_L0_L6 n) ref24_name ref15_Refs ref24_bound) (.cons ref24_name.ok (.cons ref15_Refs.ok (.cons ref24_bound.ok .nil))) [] (by kernel_rfl) .nil (fun _ _ => rfl)
/-- function 35: the loop in block 0 -/
abbrev T_ref24_program_L0 : Type := Tc17 → Int → Int → Int → Tc15 → Tc11 → (Int → Int → Tc15 → Tc11 → Option Bool) → Option Bool
noncomputable def ref24_program_L0.body (ref24_program_L0 : T_ref24_program_L0) (ref24_program_L0_L2 : T_ref24_program_L0_L2) (ref24_program_L0_L6 : T_ref24_program_L0_L6) : T_ref24_program_L0 := fun ts699 n700 n701 n702 ts703 ts704 k1 =>
  (cond_ (decide (n700 < (List.length ts699 : Int))) (cond_ ((decide ((0 : Int) ≤ n700)) && (decide (n700 < (List.length ts699 : Int)))) (ref24_program_L0_L2 ts699 n700 (0 : Int) n701 n702 ts703 ts704 (List.getD ts699 (Int.toNat n700) ([], ([], ([], ())))).1 (List.getD ts699 (Int.toNat n700) ([], ([], ([], ())))).2.1 (List.getD ts699 (Int.toNat n700) ([], ([], ([], ())))).2.2.1
  (fun ts766 n767 n768 n769 ts770 ts771 l772 l773 l774 => (ref24_program_L0_L6 ts766 n767 (0 : Int) n768 n769 ts770 ts771 l772 l773 l774
  (fun ts812 n813 n814 n815 ts816 ts817 => (ref24_program_L0 ts812 (IntKind.wrap .i64 (n813 + (1 : Int))) n814 n815 ts816 ts817 k1))))) none) (k1 n701 n702 ts703 ts704))
noncomputable def ref24_program_L0 : Nat → T_ref24_program_L0
  | 0 => fun _ _ _ _ _ _ _ => none
  | n + 1 => ref24_program_L0.body (ref24_program_L0 n) (ref24_program_L0_L2 ROUNDS) (ref24_program_L0_L6 ROUNDS)
def ref24_program_L0.p : LPat := lp 2 109 [0, 2, 3, 4] (pl (pb 0 80 Ty22) (ps (pq [1, 0] 0 0) (ps (pq [1, 1] 0 0) (pl (pd (.int .i64)) pz)))) (pl (po [1, 0] 30 3 (em (pl (pa (ps (pk 0) (ps (pk 0) (pl (pd (.int .i64)) pz)))) pz))) (pl (po [1, 1] 30 3 (em (pl (pa (ps (pr [1, 2]) (ps (pr [1, 3]) (pl (pd (.int .i64)) pz)))) pz))) (pl (po [1, 2] 73 13 (ed Ty20)) (pl (po [1, 3] 51 7 (ed Ty16)) pz))))
def ref24_program_L0.g (F : T_ref24_program_L0) (v : ref24_program_L0.p.T) (k : KE) : Option Bool := F v.1.1 v.1.2.1 v.2.1.1.1 v.2.2.1.1.1 v.2.2.2.1 v.2.2.2.2.1 (fun y0 y1 y2 y3 => k (.exit 0) ⟨fillS 109 [2, 3] [(.ptr [1, 0] 0 0), (.ptr [1, 1] 0 0)], [([1, 0], ⟨30, 3, (.mix [(.agg [.nils, .nils, (.d ⟨(.int .i64), y0⟩)])])⟩), ([1, 1], ⟨30, 3, (.mix [(.agg [(.ref [1, 2]), (.ref [1, 3]), (.d ⟨(.int .i64), y1⟩)])])⟩), ([1, 2], ⟨73, 13, (.data Ty20 y2)⟩), ([1, 3], ⟨51, 7, (.data Ty16 y3)⟩)], 2⟩)
theorem ref24_program_L0.step (S : T_ref24_program_L0) (L0 : T_ref24_program_L0_L2) (L1 : T_ref24_program_L0_L6) : ∀ v k, exR 35 Try.f35 0 ref24_program_L0.p [] [] [⟨2, ref24_program_L0_L2.p, ref24_program_L0_L2.g L0⟩, ⟨6, ref24_program_L0_L6.p, ref24_program_L0_L6.g L1⟩] (ref24_program_L0.g S) v k = ref24_program_L0.g (ref24_program_L0.body S L0 L1) v k := fun v k => by kernel_rfl
theorem ref24_program_L0.ok : okL 35 Try.f35 5 0 ref24_program_L0.p (ref24_program_L0.g (ref24_program_L0 ROUNDS)) := loop2 (G := fun n => ref24_program_L0.g (ref24_program_L0 n)) (fun n => ref24_program_L0.step (ref24_program_L0 n) (ref24_program_L0_L2 ROUNDS) (ref24_program_L0_L6 ROUNDS)) .nil [2, 6] (by kernel_rfl) (.cons ref24_program_L0_L2.ok (.cons ref24_program_L0_L6.ok .nil)) (fun _ _ => rfl)
/-- function 35: sheerleg/sheerlegref24.program -/
abbrev T_ref24_program : Type := Tc17 → (Int → Tc15 → Tc11 → Option Bool) → Option Bool
noncomputable def ref24_program.body (ref24_program_L0 : T_ref24_program_L0) : T_ref24_program := fun ts698 k1 =>
  (ref24_program_L0 ts698 (0 : Int) (0 : Int) (0 : Int) [] []
  (fun n818 n819 ts820 ts821 => (k1 n819 ts820 ts821)))
noncomputable def ref24_program : T_ref24_program := ref24_program.body (ref24_program_L0 ROUNDS)
def ref24_program.p : FPat := fp 35 (pl (pb 0 80 Ty22) pz) pz
def ref24_program.g (F : T_ref24_program) (v : ref24_program.p.T) (k : KR) : Option Bool := F v.1.1 (fun y0 y1 y2 => k (.agg [(.ref [1, 0]), (.ref [1, 1]), (.d ⟨(.int .i64), y0⟩)]) [([1, 0], ⟨73, 13, (.data Ty20 y1)⟩), ([1, 1], ⟨51, 7, (.data Ty16 y2)⟩)])
theorem ref24_program.eq (L0 : T_ref24_program_L0) : ∀ v k, exF Try.f35 ref24_program.p [] [] [⟨0, ref24_program_L0.p, ref24_program_L0.g L0⟩] v k = ref24_program.g (ref24_program.body L0) v k := fun v k => by kernel_rfl
theorem ref24_program.ok : okF 6 ref24_program.p (ref24_program.g ref24_program) := fn2 (ref24_program.eq (ref24_program_L0 ROUNDS)) Try.func35 (by kernel_rfl) .nil [0] (by kernel_rfl) (.cons ref24_program_L0.ok .nil)
/-- function 21: sheerleg/sheerlegref24.Bind -/
abbrev T_ref24_Bind : Type := Tc17 → ByteArray → (Tc18 → (Int × Int × Int × Unit) → Option Bool) → Option Bool
noncomputable def ref24_Bind.body (ref23_Check : T_ref23_Check) (ref23_Find : T_ref23_Find) (ref24_program : T_ref24_program) (ref24_number : T_ref24_number) (ref24_Bind_L0 : T_ref24_Bind_L0) : T_ref24_Bind := fun ts28 s29 k1 =>
  (cond_ (! ((List.length ts28 : Int) == (0 : Int))) (cond_ (decide ((List.length ts28 : Int) > (6 : Int))) (k1 ([], ([], (0, ()))) (19, ((-1), ((-1), ())))) (ref24_Bind_L0 ts28 s29 (0 : Int) (0 : Int) (0, (0, (0, ())))
  (fun t623 t624 => (k1 t623 t624))
  (fun ts625 s626 n627 t628 => (ref23_Check ts625
  (fun t694 => (cond_ (t694.1 != (0 : Int)) (k1 ([], ([], (0, ()))) t694) (ref23_Find ts625 s626
  (fun n695 n696 b697 => (cond_ (! (! b697)) (cond_ ((decide ((0 : Int) ≤ n695)) && (decide (n695 < (List.length ts625 : Int)))) (cond_ ((decide ((0 : Int) ≤ n696)) && (decide (n696 < (((List.length (List.getD ts625 (Int.toNat n695) ([], ([], ([], ())))).1) : Nat) : Int)))) (cond_ (! ((List.getD (List.getD ts625 (Int.toNat n695) ([], ([], ([], ())))).1 (Int.toNat n696) ((⟨#[]⟩ : ByteArray), (false, (0, (0, (0, ())))))).2.2.1 != (1 : Int))) (cond_ ((decide ((0 : Int) ≤ n695)) && (decide (n695 < (List.length ts625 : Int)))) (cond_ ((decide ((0 : Int) ≤ n696)) && (decide (n696 < (((List.length (List.getD ts625 (Int.toNat n695) ([], ([], ([], ())))).1) : Nat) : Int)))) (cond_ (decide ((List.getD (List.getD ts625 (Int.toNat n695) ([], ([], ([], ())))).1 (Int.toNat n696) ((⟨#[]⟩ : ByteArray), (false, (0, (0, (0, ())))))).2.2.2.1 > (1 : Int))) (k1 ([], ([], (0, ()))) (15, ((-1), ((-1), ())))) (ref24_program ts625
  (fun n822 ts823 ts824 => (ref24_number ts625 n695 n696
  (fun n825 => (k1 (ts823, (ts824, (n825, ()))) (0, (0, (0, ()))))))))) none) none) (k1 ([], ([], (0, ()))) (15, ((-1), ((-1), ()))))) none) none) (k1 ([], ([], (0, ()))) (15, ((-1), ((-1), ()))))))))))))) (k1 ([], ([], (0, ()))) (19, ((-1), ((-1), ())))))
noncomputable def ref24_Bind : T_ref24_Bind := ref24_Bind.body ref23_Check ref23_Find ref24_program ref24_number (ref24_Bind_L0 ROUNDS)
def ref24_Bind.p : FPat := fp 21 (pl (pb 0 80 Ty22) (pl (pd .str) pz)) pz
def ref24_Bind.g (F : T_ref24_Bind) (v : ref24_Bind.p.T) (k : KR) : Option Bool := F v.1.1 v.1.2.1 (fun y0 y1 => k (.tup [(.d ⟨Ty24, y0⟩), (.d ⟨Ty7, y1⟩)]) [])
theorem ref24_Bind.eq (F0 : T_ref23_Check) (F1 : T_ref23_Find) (F2 : T_ref24_program) (F3 : T_ref24_number) (L0 : T_ref24_Bind_L0) : ∀ v k, exF Try.f21 ref24_Bind.p [⟨ref23_Check.p, ref23_Check.g F0⟩, ⟨ref23_Find.p, ref23_Find.g F1⟩, ⟨ref24_program.p, ref24_program.g F2⟩, ⟨ref24_number.p, ref24_number.g F3⟩] [] [⟨0, ref24_Bind_L0.p, ref24_Bind_L0.g L0⟩] v k = ref24_Bind.g (ref24_Bind.body F0 F1 F2 F3 L0) v k := fun v k => by kernel_rfl
theorem ref24_Bind.ok : okF 11 ref24_Bind.p (ref24_Bind.g ref24_Bind) := fn2 (ref24_Bind.eq ref23_Check ref23_Find ref24_program ref24_number (ref24_Bind_L0 ROUNDS)) Try.func21 (by kernel_rfl) (.cons ref23_Check.ok (.cons ref23_Find.ok (.cons ref24_program.ok (.cons ref24_number.ok .nil)))) [0] (by kernel_rfl) (.cons ref24_Bind_L0.ok .nil)
/-- function 22: the loop in block 0 -/
abbrev T_ref25_Few_L0 : Type := Int → Tc18 → (Bool → Option Bool) → (Tc18 → Option Bool) → Option Bool
noncomputable def ref25_Few_L0.body (ref25_Few_L0 : T_ref25_Few_L0) : T_ref25_Few_L0 := fun n829 t830 k1 k2 =>
  (cond_ (decide (n829 < (((List.length t830.1) : Nat) : Int))) (cond_ ((decide ((0 : Int) ≤ n829)) && (decide (n829 < (((List.length t830.1) : Nat) : Int)))) (cond_ (! (decide ((((List.length (List.getD t830.1 (Int.toNat n829) (0, (0, ((⟨#[]⟩ : ByteArray), (0, ([], (0, (false, (0, (0, ([], ([], ([], ([], ())))))))))))))).2.2.2.2.2.2.2.2.2.2.1) : Nat) : Int) > (80 : Int)))) (cond_ ((decide ((0 : Int) ≤ n829)) && (decide (n829 < (((List.length t830.1) : Nat) : Int)))) (cond_ (! (decide ((((List.length (List.getD t830.1 (Int.toNat n829) (0, (0, ((⟨#[]⟩ : ByteArray), (0, ([], (0, (false, (0, (0, ([], ([], ([], ([], ())))))))))))))).2.2.2.2.2.2.2.2.2.2.2.2.1) : Nat) : Int) > (80 : Int)))) (cond_ ((decide ((0 : Int) ≤ n829)) && (decide (n829 < (((List.length t830.1) : Nat) : Int)))) (cond_ (! (decide ((((List.length (List.getD t830.1 (Int.toNat n829) (0, (0, ((⟨#[]⟩ : ByteArray), (0, ([], (0, (false, (0, (0, ([], ([], ([], ([], ())))))))))))))).2.2.2.2.1) : Nat) : Int) > (80 : Int)))) (cond_ ((decide ((0 : Int) ≤ n829)) && (decide (n829 < (((List.length t830.1) : Nat) : Int)))) (cond_ (! (decide ((((List.length (List.getD t830.1 (Int.toNat n829) (0, (0, ((⟨#[]⟩ : ByteArray), (0, ([], (0, (false, (0, (0, ([], ([], ([], ([], ())))))))))))))).2.2.2.2.2.2.2.2.2.2.2.1) : Nat) : Int) > (80 : Int)))) (cond_ ((decide ((0 : Int) ≤ n829)) && (decide (n829 < (((List.length t830.1) : Nat) : Int)))) (cond_ (decide ((((List.length (List.getD t830.1 (Int.toNat n829) (0, (0, ((⟨#[]⟩ : ByteArray), (0, ([], (0, (false, (0, (0, ([], ([], ([], ([], ())))))))))))))).2.2.2.2.2.2.2.2.2.1) : Nat) : Int) > (80 : Int))) (k1 false) (ref25_Few_L0 (IntKind.wrap .i64 (n829 + (1 : Int))) t830 k1 k2)) none) (k1 false)) none) (k1 false)) none) (k1 false)) none) (k1 false)) none) (k2 t830))
noncomputable def ref25_Few_L0 : Nat → T_ref25_Few_L0
  | 0 => fun _ _ _ _ => none
  | n + 1 => ref25_Few_L0.body (ref25_Few_L0 n)
def ref25_Few_L0.p : LPat := lp 2 111 [1, 3] (ps (pq [1, 0] 0 0) (pl (pd (.int .i64)) pz)) (pl (po [1, 0] 30 3 (es Ty24 (pl eh pz))) pz)
def ref25_Few_L0.g (F : T_ref25_Few_L0) (v : ref25_Few_L0.p.T) (k : KE) : Option Bool := F v.1.1 v.2.1.1 (fun y0 => k .ret ⟨fillS 111 [2] [(.d ⟨.bool, y0⟩)], [], 2⟩) (fun y0 => k (.exit 0) ⟨fillS 111 [1] [(.ptr [1, 0] 0 0)], [([1, 0], ⟨30, 3, (.data Ty24 [y0])⟩)], 2⟩)
theorem ref25_Few_L0.step (S : T_ref25_Few_L0) : ∀ v k, exR 22 Try.f22 0 ref25_Few_L0.p [] [] [] (ref25_Few_L0.g S) v k = ref25_Few_L0.g (ref25_Few_L0.body S) v k := fun v k => by kernel_rfl
theorem ref25_Few_L0.ok : okL 22 Try.f22 0 0 ref25_Few_L0.p (ref25_Few_L0.g (ref25_Few_L0 ROUNDS)) := loop2 (G := fun n => ref25_Few_L0.g (ref25_Few_L0 n)) (fun n => ref25_Few_L0.step (ref25_Few_L0 n)) .nil [] (by kernel_rfl) .nil (fun _ _ => rfl)
/-- function 22: the loop in block 2 -/
abbrev T_ref25_Few_L2 : Type := Int → Tc18 → (Bool → Option Bool) → (Tc18 → Option Bool) → Option Bool
noncomputable def ref25_Few_L2.body (ref25_Few_L2 : T_ref25_Few_L2) : T_ref25_Few_L2 := fun n833 t834 k1 k2 =>
  (cond_ (decide (n833 < (((List.length t834.2.1) : Nat) : Int))) (cond_ ((decide ((0 : Int) ≤ n833)) && (decide (n833 < (((List.length t834.2.1) : Nat) : Int)))) (cond_ (! (decide ((((List.length (List.getD t834.2.1 (Int.toNat n833) (0, (0, ((⟨#[]⟩ : ByteArray), (0, ([], ([], ([], ())))))))).2.2.2.2.1) : Nat) : Int) > (80 : Int)))) (cond_ ((decide ((0 : Int) ≤ n833)) && (decide (n833 < (((List.length t834.2.1) : Nat) : Int)))) (cond_ (! (decide ((((List.length (List.getD t834.2.1 (Int.toNat n833) (0, (0, ((⟨#[]⟩ : ByteArray), (0, ([], ([], ([], ())))))))).2.2.2.2.2.2.1) : Nat) : Int) > (80 : Int)))) (cond_ ((decide ((0 : Int) ≤ n833)) && (decide (n833 < (((List.length t834.2.1) : Nat) : Int)))) (cond_ (decide ((((List.length (List.getD t834.2.1 (Int.toNat n833) (0, (0, ((⟨#[]⟩ : ByteArray), (0, ([], ([], ([], ())))))))).2.2.2.2.2.1) : Nat) : Int) > (80 : Int))) (k1 false) (ref25_Few_L2 (IntKind.wrap .i64 (n833 + (1 : Int))) t834 k1 k2)) none) (k1 false)) none) (k1 false)) none) (k2 t834))
noncomputable def ref25_Few_L2 : Nat → T_ref25_Few_L2
  | 0 => fun _ _ _ _ => none
  | n + 1 => ref25_Few_L2.body (ref25_Few_L2 n)
def ref25_Few_L2.p : LPat := lp 2 111 [1, 4] (ps (pq [1, 0] 0 0) (pl (pd (.int .i64)) pz)) (pl (po [1, 0] 30 3 (es Ty24 (pl eh pz))) pz)
def ref25_Few_L2.g (F : T_ref25_Few_L2) (v : ref25_Few_L2.p.T) (k : KE) : Option Bool := F v.1.1 v.2.1.1 (fun y0 => k .ret ⟨fillS 111 [2] [(.d ⟨.bool, y0⟩)], [], 2⟩) (fun y0 => k (.exit 2) ⟨fillS 111 [1] [(.ptr [1, 0] 0 0)], [([1, 0], ⟨30, 3, (.data Ty24 [y0])⟩)], 2⟩)
theorem ref25_Few_L2.step (S : T_ref25_Few_L2) : ∀ v k, exR 22 Try.f22 2 ref25_Few_L2.p [] [] [] (ref25_Few_L2.g S) v k = ref25_Few_L2.g (ref25_Few_L2.body S) v k := fun v k => by kernel_rfl
theorem ref25_Few_L2.ok : okL 22 Try.f22 0 2 ref25_Few_L2.p (ref25_Few_L2.g (ref25_Few_L2 ROUNDS)) := loop2 (G := fun n => ref25_Few_L2.g (ref25_Few_L2 n)) (fun n => ref25_Few_L2.step (ref25_Few_L2 n)) .nil [] (by kernel_rfl) .nil (fun _ _ => rfl)
/-- function 22: sheerleg/sheerlegref25.Few -/
abbrev T_ref25_Few : Type := Tc18 → (Bool → Option Bool) → Option Bool
noncomputable def ref25_Few.body (ref25_Few_L0 : T_ref25_Few_L0) (ref25_Few_L2 : T_ref25_Few_L2) : T_ref25_Few := fun t828 k1 =>
  (ref25_Few_L0 (0 : Int) t828
  (fun b831 => (k1 b831))
  (fun t832 => (ref25_Few_L2 (0 : Int) t832
  (fun b835 => (k1 b835))
  (fun t836 => (cond_ (decide ((((List.length t836.1) : Nat) : Int) ≤ (24 : Int))) (k1 (decide ((((List.length t836.2.1) : Nat) : Int) ≤ (24 : Int)))) (k1 false))))))
noncomputable def ref25_Few : T_ref25_Few := ref25_Few.body (ref25_Few_L0 ROUNDS) (ref25_Few_L2 ROUNDS)
def ref25_Few.p : FPat := fp 22 (pl (pd Ty24) pz) pz
def ref25_Few.g (F : T_ref25_Few) (v : ref25_Few.p.T) (k : KR) : Option Bool := F v.1.1 (fun y0 => k (.d ⟨.bool, y0⟩) [])
theorem ref25_Few.eq (L0 : T_ref25_Few_L0) (L1 : T_ref25_Few_L2) : ∀ v k, exF Try.f22 ref25_Few.p [] [] [⟨0, ref25_Few_L0.p, ref25_Few_L0.g L0⟩, ⟨2, ref25_Few_L2.p, ref25_Few_L2.g L1⟩] v k = ref25_Few.g (ref25_Few.body L0 L1) v k := fun v k => by kernel_rfl
theorem ref25_Few.ok : okF 1 ref25_Few.p (ref25_Few.g ref25_Few) := fn2 (ref25_Few.eq (ref25_Few_L0 ROUNDS) (ref25_Few_L2 ROUNDS)) Try.func22 (by kernel_rfl) .nil [0, 2] (by kernel_rfl) (.cons ref25_Few_L0.ok (.cons ref25_Few_L2.ok .nil))
/-- function 6: sheerleg/sheerleglaw29.few -/
abbrev T_law29_few : Type := Tc17 → Tc1 → (Tc18 → Bool → Option Bool) → Option Bool
noncomputable def law29_few.body (ref24_Few : T_ref24_Few) (ref24_Bind : T_ref24_Bind) (ref25_Few : T_ref25_Few) : T_law29_few := fun ts2 t3 k1 =>
  (ref24_Few ts2
  (fun b27 => (cond_ (! (! b27)) (cond_ (! (decide ((((List.length t3.1) : Nat) : Int) > (60 : Int)))) (cond_ (decide ((((List.length t3.2.1) : Nat) : Int) > (60 : Int))) (k1 ([], ([], (0, ()))) false) (ref24_Bind ts2 (⟨#[109, 97, 105, 110]⟩ : ByteArray)
  (fun t826 t827 => (ref25_Few (t826.1, (t826.2.1, (t826.2.2.1, ())))
  (fun b837 => (k1 (t826.1, (t826.2.1, (t826.2.2.1, ()))) b837)))))) (k1 ([], ([], (0, ()))) false)) (k1 ([], ([], (0, ()))) false))))
noncomputable def law29_few : T_law29_few := law29_few.body ref24_Few ref24_Bind ref25_Few
def law29_few.p : FPat := fp 6 (pl (pb 0 80 Ty22) (pl (pd Ty6) pz)) pz
def law29_few.g (F : T_law29_few) (v : law29_few.p.T) (k : KR) : Option Bool := F v.1.1 v.1.2.1 (fun y0 y1 => k (.tup [(.d ⟨Ty24, y0⟩), (.d ⟨.bool, y1⟩)]) [])
theorem law29_few.eq (F0 : T_ref24_Few) (F1 : T_ref24_Bind) (F2 : T_ref25_Few) : ∀ v k, exF Try.f6 law29_few.p [⟨ref24_Few.p, ref24_Few.g F0⟩, ⟨ref24_Bind.p, ref24_Bind.g F1⟩, ⟨ref25_Few.p, ref25_Few.g F2⟩] [] [] v k = law29_few.g (law29_few.body F0 F1 F2) v k := fun v k => by kernel_rfl
theorem law29_few.ok : okF 12 law29_few.p (law29_few.g law29_few) := fn2 (law29_few.eq ref24_Few ref24_Bind ref25_Few) Try.func6 (by kernel_rfl) (.cons ref24_Few.ok (.cons ref24_Bind.ok (.cons ref25_Few.ok .nil))) [] (by kernel_rfl) .nil
/-- function 7: sheerleg/sheerleglaw29.known, all of it at once -/
abbrev T_law29_known : Type := (Bool → Option Bool) → Option Bool
def law29_known : T_law29_known := fun k1 => k1 true
def law29_known.p : FPat := fp 7 pz pz
def law29_known.g (F : T_law29_known) (v : law29_known.p.T) (k : KR) : Option Bool := F (fun y => k (.d ⟨.bool, y⟩) [])
set_option maxRecDepth 100000 in
theorem law29_known.all (k : KR) : callK Try.prog ht 60 7 [] [] k = k (.d ⟨.bool, true⟩) [] := by kernel_rfl
theorem law29_known.ok : okF 60 law29_known.p (law29_known.g law29_known) := all2 fun _ k => law29_known.all k
end Go.Proofs.Ytdkgfadnhnbipaa.p
