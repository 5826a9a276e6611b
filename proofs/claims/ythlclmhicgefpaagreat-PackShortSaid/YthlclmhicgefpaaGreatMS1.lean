/- What the functions come to that S reaches, as plain functions; written by a program of this work, each told by Lean. -/
import Derived.Test.YthlclmhicgefpaaGreatA3
import Derived.Test.YthlclmhicgefpaaGreatChecked
namespace Go.Proofs.YthlclmhicgefpaaGreat.s
open Go.AX
set_option linter.unusedVariables false
set_option maxRecDepth 100000
set_option maxHeartbeats 4000000
open List (getD length)
open Int (toNat)
def ht : Hints := hintsOf [(33, [(0, ⟨[0, 1, 5], []⟩), (2000000, ⟨[4], []⟩), (1000000, ⟨[], []⟩)]),
  (32, [(0, ⟨[0, 1, 5], []⟩), (2000000, ⟨[4], []⟩), (1000000, ⟨[], []⟩)]),
  (31, [(0, ⟨[0, 1, 5], []⟩), (2000000, ⟨[4], []⟩), (1000000, ⟨[], []⟩)]),
  (30, [(0, ⟨[0, 1, 5], []⟩), (2000000, ⟨[4], []⟩), (1000000, ⟨[], []⟩)]),
  (12, [(0, ⟨[1, 3, 4], []⟩), (2, ⟨[1, 3, 5], []⟩), (4, ⟨[1, 3, 6], []⟩), (2000000, ⟨[2], []⟩), (1000000, ⟨[1, 3], []⟩), (1000002, ⟨[1, 3], []⟩), (1000004, ⟨[1, 3], []⟩)]),
  (37, [(0, ⟨[0, 3, 4, 5], []⟩), (2000000, ⟨[2], []⟩), (1000000, ⟨[3, 4], []⟩)]),
  (36, [(0, ⟨[0, 1, 5], []⟩), (2000000, ⟨[4], []⟩), (1000000, ⟨[0], []⟩)]),
  (34, [(0, ⟨[7, 8, 9], []⟩), (2, ⟨[7, 8, 9, 10, 11], []⟩), (2000000, ⟨[6], []⟩), (1000002, ⟨[7, 8, 9, 10], []⟩), (1000001, ⟨[7, 8, 9], []⟩), (1000000, ⟨[7], []⟩)]),
  (52, [(0, ⟨[2, 3, 5, 6, 7], []⟩), (2, ⟨[2, 3, 5, 6, 7, 8, 9], []⟩), (4, ⟨[2, 3, 5, 6, 7, 8, 10], []⟩), (2000000, ⟨[4], []⟩), (1000002, ⟨[2, 3, 5, 6, 7, 8], []⟩), (1000004, ⟨[2, 3, 5, 6, 7], []⟩), (1000001, ⟨[2, 3, 5, 6, 7], []⟩), (1000000, ⟨[5], []⟩)]),
  (21, [(0, ⟨[2, 3, 5, 6], [(.virt 5 72 6)]⟩), (2000000, ⟨[4], []⟩), (1000000, ⟨[5], []⟩)]),
  (20, [(0, ⟨[2, 5, 6, 7], [(.virt 6 2 1)]⟩), (2, ⟨[2, 5, 6, 7, 8, 9], []⟩), (2000000, ⟨[4], []⟩), (1000002, ⟨[2, 5, 6, 7], []⟩), (1000001, ⟨[2, 5, 6, 7], []⟩), (1000000, ⟨[6], []⟩)]),
  (19, [(0, ⟨[2, 3, 5, 6, 7, 8], []⟩), (2, ⟨[2, 3, 5, 6, 7, 8, 9, 12, 13], []⟩), (2000000, ⟨[4], []⟩), (1000002, ⟨[2, 3, 5, 6, 7, 8], []⟩), (1000001, ⟨[2, 3, 5, 6, 7, 8], []⟩), (1000000, ⟨[7], []⟩)]),
  (44, [(0, ⟨[1, 3, 4], [(.virt 3 3 1)]⟩), (2000000, ⟨[2], []⟩), (1000000, ⟨[3], []⟩)]),
  (75, [(0, ⟨[1, 2, 5, 6], []⟩), (2000000, ⟨[4], []⟩), (1000000, ⟨[5], []⟩)]),
  (23, [(0, ⟨[2, 3, 5, 6], [(.virt 5 3 1)]⟩), (2000000, ⟨[4], []⟩), (1000000, ⟨[5], []⟩)]),
  (50, [(0, ⟨[2, 3, 4, 7, 8], []⟩), (2000000, ⟨[6], []⟩), (1000000, ⟨[7], []⟩)]),
  (10, [(2000000, ⟨[2, 3], [(.giveP 2)]⟩)]),
  (29, [(2000000, ⟨[2, 3], [(.giveP 2)]⟩)]),
  (95, [(0, ⟨[6, 7, 8], []⟩), (2000000, ⟨[2], []⟩), (1000000, ⟨[], []⟩)]),
  (118, [(0, ⟨[0, 1, 7, 8], []⟩), (2000000, ⟨[4], []⟩), (1000000, ⟨[], []⟩)]),
  (105, [(1, ⟨[0, 1, 5, 20, 21, 22], []⟩), (3, ⟨[0, 8], []⟩), (2000000, ⟨[4], []⟩), (1000001, ⟨[0], []⟩), (1000003, ⟨[], []⟩)]),
  (100, [(0, ⟨[1, 3, 7, 8, 9], []⟩), (2000000, ⟨[2], []⟩), (1000000, ⟨[1, 3], []⟩)]),
  (59, [(0, ⟨[0, 4, 9, 10], [(.virt 4 124 5)]⟩), (2, ⟨[0, 4, 5, 9, 10, 12], []⟩), (2000000, ⟨[2, 3], []⟩), (1000002, ⟨[0, 4, 5, 9, 10], []⟩), (1000001, ⟨[0, 4, 9, 10], []⟩), (1000000, ⟨[0, 4], []⟩)]),
  (91, [(0, ⟨[0, 1, 5, 6], [(.virtP 400001 0 69 5), (.virtP 100001 1 2 1), (.virtP 400001 2 72 6), (.freshP 400001 2)]⟩), (2000000, ⟨[], []⟩), (1000000, ⟨[], []⟩)]),
  (90, [(0, ⟨[1, 3, 8, 9, 10], []⟩), (2000000, ⟨[], []⟩), (1000000, ⟨[], []⟩)]),
  (87, [(0, ⟨[6, 7, 19, 20, 21], []⟩), (2000000, ⟨[4, 5], []⟩), (1000000, ⟨[6, 7], []⟩)]),
  (9, [(0, ⟨[1, 3, 23, 24, 25], [(.giveP 3)]⟩), (2, ⟨[1, 3, 58, 59, 60], [(.giveP 3)]⟩), (4, ⟨[1, 3, 81, 82, 83], []⟩), (2000000, ⟨[2], []⟩), (1000000, ⟨[1, 3], []⟩), (1000002, ⟨[1, 3], []⟩), (1000004, ⟨[1, 3], []⟩)]),
  (85, [(0, ⟨[0, 15, 16, 17], []⟩), (2000000, ⟨[], []⟩), (1000000, ⟨[], []⟩)]),
  (27, [(0, ⟨[0, 13, 14, 15], []⟩), (2, ⟨[0, 6, 13, 14, 15, 30, 31], []⟩), (2000000, ⟨[4], []⟩), (1000002, ⟨[0, 6, 13, 14, 15], []⟩), (1000001, ⟨[0, 13, 14, 15], []⟩), (1000000, ⟨[0], []⟩)]),
  (25, [(0, ⟨[0, 1, 2, 7, 10], []⟩), (2000000, ⟨[6], []⟩), (1000000, ⟨[0, 2, 7], []⟩)]),
  (24, [(0, ⟨[0, 1, 8, 9, 10], [(.giveP 0)]⟩), (2000000, ⟨[], []⟩), (1000000, ⟨[], []⟩)]),
  (51, [(0, ⟨[0, 3, 4], [(.virt 3 124 5)]⟩), (2000000, ⟨[2], []⟩), (1000000, ⟨[3], []⟩)]),
  (82, [(0, ⟨[1, 2, 5, 6], []⟩), (2000000, ⟨[4], []⟩), (1000000, ⟨[5], []⟩)]),
  (18, [(0, ⟨[1, 2, 3, 4], [(.virtP 3 0 4 1), (.virtP 3 1 3 1)]⟩), (2000000, ⟨[2], []⟩), (1000000, ⟨[2, 3], []⟩)]),
  (5, [(2000000, ⟨[4, 5], [(.giveP 4)]⟩)]),
  (16, [(0, ⟨[1, 3], []⟩), (2, ⟨[1, 4], []⟩), (2000000, ⟨[2], []⟩), (1000000, ⟨[1], []⟩), (1000002, ⟨[1], []⟩)]),
  (15, [(0, ⟨[0, 1, 4, 5, 6], []⟩), (2000000, ⟨[4, 5], [(.giveP 4)]⟩), (1000000, ⟨[0, 1, 4, 5], []⟩)]),
  (42, [(0, ⟨[0, 2, 3, 4], [(.virtP 3 0 102 13), (.virtP 3 1 106 7)]⟩), (2, ⟨[0, 2, 3, 4, 5, 6], [(.virtP 3 0 102 13)]⟩), (4, ⟨[0, 2, 3, 4, 5, 6, 7, 8], [(.virt 7 3 1)]⟩), (6, ⟨[0, 2, 3, 4, 5, 9], [(.virtP 3 1 106 7)]⟩), (2000000, ⟨[2], []⟩), (1000004, ⟨[0, 2, 3, 4, 5, 6, 7], []⟩), (1000003, ⟨[0, 2, 3, 4, 5, 6], []⟩), (1000002, ⟨[0, 2, 3, 4, 5], []⟩), (1000006, ⟨[0, 2, 3, 4], []⟩), (1000001, ⟨[0, 2, 3, 4], []⟩), (1000000, ⟨[2, 3], []⟩)]),
  (74, [(0, ⟨[1, 3, 4], []⟩), (2000000, ⟨[2], []⟩), (1000000, ⟨[3], []⟩)]),
  (114, [(0, ⟨[0, 1, 5, 6], [(.virt 5 3 1)]⟩), (2, ⟨[0, 1, 5, 6, 7, 8], []⟩), (2000000, ⟨[4], []⟩), (1000002, ⟨[0, 1, 5, 6, 7], []⟩), (1000001, ⟨[0, 1, 5, 6], []⟩), (1000000, ⟨[5], []⟩)]),
  (73, [(0, ⟨[0, 1, 2, 7, 8], [(.virt 7 3 1)]⟩), (2000000, ⟨[6], []⟩), (1000000, ⟨[7], []⟩)]),
  (43, [(0, ⟨[0, 7, 10, 11, 12], []⟩), (2000000, ⟨[6], []⟩), (1000000, ⟨[11], []⟩)]),
  (40, [(0, ⟨[0, 2, 5], []⟩), (2, ⟨[0, 2, 5, 6], []⟩), (2000000, ⟨[2], []⟩), (1000002, ⟨[0, 2, 5], []⟩), (1000001, ⟨[0, 2, 5], []⟩), (1000000, ⟨[2], []⟩)]),
  (68, [(0, ⟨[0, 2, 4], []⟩), (2, ⟨[0, 2, 4, 5], []⟩), (2000000, ⟨[2, 3], []⟩), (1000002, ⟨[0, 2, 4], []⟩), (1000001, ⟨[0, 2, 4], []⟩), (1000000, ⟨[2], []⟩)]),
  (41, [(0, ⟨[0, 1, 7], []⟩), (2, ⟨[0, 1, 7, 8], []⟩), (2000000, ⟨[4, 5, 6], []⟩), (1000002, ⟨[0, 1, 7], []⟩), (1000001, ⟨[0, 1, 7], []⟩), (1000000, ⟨[], []⟩)]),
  (39, [(0, ⟨[1, 4], []⟩), (2, ⟨[1, 6], []⟩), (2000000, ⟨[2, 3], []⟩), (1000000, ⟨[1], []⟩), (1000002, ⟨[], []⟩)]),
  (113, [(0, ⟨[1, 3, 4], []⟩), (2000000, ⟨[2], []⟩), (1000000, ⟨[], []⟩)]),
  (126, [(0, ⟨[0, 1, 5, 6], [(.virt 5 3 1)]⟩), (2000000, ⟨[4], []⟩), (1000000, ⟨[0, 5], []⟩)]),
  (138, [(0, ⟨[0, 1, 5, 6], []⟩), (2, ⟨[0, 5, 7], []⟩), (4, ⟨[0, 5, 7, 8], []⟩), (6, ⟨[0, 5, 7, 8, 9], []⟩), (2000000, ⟨[4], []⟩), (1000000, ⟨[0, 5], []⟩), (1000006, ⟨[0, 5, 7, 8], []⟩), (1000005, ⟨[0, 5, 7, 8], []⟩), (1000004, ⟨[0, 5, 7], []⟩), (1000003, ⟨[0, 5, 7], []⟩), (1000002, ⟨[5], []⟩)]),
  (139, [(0, ⟨[0, 3, 4], [(.virt 3 24 1)]⟩), (2000000, ⟨[2], []⟩), (1000000, ⟨[3], []⟩)]),
  (127, [(0, ⟨[0, 3, 4], [(.virt 3 3 1)]⟩), (2000000, ⟨[2], []⟩), (1000000, ⟨[3], []⟩)]),
  (112, [(0, ⟨[1, 2, 7], []⟩), (2000000, ⟨[4, 5], []⟩), (1000000, ⟨[], []⟩)]),
  (125, [(0, ⟨[3, 7, 8, 10, 11], []⟩), (2000000, ⟨[6], []⟩), (1000000, ⟨[], []⟩)]),
  (146, [(0, ⟨[1, 3, 7, 8], []⟩), (2000000, ⟨[6], []⟩), (1000000, ⟨[], []⟩)]),
  (71, [(0, ⟨[1, 2, 5], []⟩), (2000000, ⟨[4], []⟩), (1000000, ⟨[], []⟩)]),
  (143, [(0, ⟨[1, 2, 5], []⟩), (2000000, ⟨[4], []⟩), (1000000, ⟨[], []⟩)]),
  (124, [(0, ⟨[1, 6], []⟩), (2000000, ⟨[2], []⟩), (1000000, ⟨[], []⟩)]),
  (131, [(0, ⟨[1, 3], []⟩), (2000000, ⟨[2], []⟩), (1000000, ⟨[], []⟩)]),
  (130, [(0, ⟨[1, 4], []⟩), (2000000, ⟨[2], []⟩), (1000000, ⟨[], []⟩)]),
  (141, [(0, ⟨[1, 3], []⟩), (2, ⟨[1, 4, 5], []⟩), (2000000, ⟨[2], []⟩), (1000000, ⟨[1], []⟩), (1000002, ⟨[], []⟩)]),
  (140, [(0, ⟨[0, 3], []⟩), (2, ⟨[0, 3, 4, 5], []⟩), (2000000, ⟨[2], []⟩), (1000002, ⟨[0, 3], []⟩), (1000001, ⟨[0, 3], []⟩), (1000000, ⟨[], []⟩)]),
  (129, [(0, ⟨[1, 3], []⟩), (2000000, ⟨[2], []⟩), (1000000, ⟨[], []⟩)]),
  (111, [(0, ⟨[1, 2, 5], []⟩), (2, ⟨[1, 2, 6], []⟩), (2000000, ⟨[4], []⟩), (1000000, ⟨[1, 2], []⟩), (1000002, ⟨[], []⟩)]),
  (110, [(0, ⟨[1, 2, 5], []⟩), (2000000, ⟨[4], []⟩), (1000000, ⟨[], []⟩)]),
  (65, [(0, ⟨[1, 2, 5, 7], []⟩), (2, ⟨[1, 2, 5, 8, 9, 10], []⟩), (2000000, ⟨[4], []⟩), (1000000, ⟨[1, 2, 5], []⟩), (1000002, ⟨[5, 8, 9], []⟩)]),
  (122, [(0, ⟨[0, 3, 4], []⟩), (2000000, ⟨[2], []⟩), (1000000, ⟨[0, 3], []⟩)]),
  (108, [(0, ⟨[0, 3], []⟩), (2000000, ⟨[2], []⟩), (1000000, ⟨[], []⟩)]),
  (14, [(0, ⟨[0, 3], []⟩), (2000000, ⟨[2], []⟩), (1000000, ⟨[0], []⟩)]),
  (38, [(0, ⟨[1, 3], []⟩), (2, ⟨[1, 4], []⟩), (4, ⟨[1, 5], []⟩), (2000000, ⟨[2], []⟩), (1000000, ⟨[1], []⟩), (1000002, ⟨[1], []⟩), (1000004, ⟨[1], []⟩)])]
abbrev okF := FnOk Tryz.prog ht
abbrev okL := LoopOk Tryz.prog ht
noncomputable abbrev exF := execF Tryz.prog ht
noncomputable abbrev exR := execR Tryz.prog ht
noncomputable abbrev exB := execB Tryz.prog ht
abbrev Tc0 : Type := Int × Int × Bool × Int × Unit
abbrev Tc1 : Type := List (Int × Int × Bool × Unit)
abbrev Tc2 : Type := (List Bool) × (List Int) × Unit
abbrev Tc3 : Type := Int × Int × Int × Int × Int × Unit
abbrev Tc4 : Type := Int × Int × Int × Bool × Int × Unit
abbrev Tc5 : Type := List Tc0
abbrev Tc6 : Type := Int × Int × Int × Int × Int × Int × Unit
abbrev Tc7 : Type := ByteArray × Bool × Int × Int × Int × Unit
abbrev Tc8 : Type := List Tc3
abbrev Tc9 : Type := List Tc4
abbrev Tc10 : Type := List Tc6
abbrev Tc11 : Type := List Tc7
abbrev Tc12 : Type := Int × (List Int) × Tc1 × Unit
abbrev Tc13 : Type := List Tc12
abbrev Tc14 : Type := Int × Int × ByteArray × Int × (List Int) × Tc1 × (List Int) × Unit
abbrev Tc15 : Type := List Tc14
abbrev Tc16 : Type := Int × (List Int) × Int × Bool × Int × Int × (List (Int × Int × Unit)) × Tc8 × Tc1 × Unit
abbrev Tc17 : Type := List Tc16
abbrev Tc18 : Type := Tc8 × (List Int) × Tc10 × Tc9 × Int × Unit
abbrev Tc19 : Type := Int × Int × ByteArray × Int × (List Int) × Int × Bool × Int × Int × (List (Int × Int × Unit)) × Tc8 × Tc1 × (List Int) × Unit
abbrev Tc20 : Type := List Tc19
abbrev Tc21 : Type := Tc11 × Tc17 × Tc13 × Unit
abbrev Tc22 : Type := List Tc21
abbrev Tc23 : Type := Tc20 × Tc15 × Int × Unit
abbrev Ty0 : Ty := (.sl 4 .bool)
abbrev Ty1 : Ty := (.sl 5 (.int .u8))
abbrev Ty2 : Ty := (.sl 3 (.int .i64))
abbrev Ty3 : Ty := (.sl 2 (.int .i64))
abbrev Ty4 : Ty := (.st [Ty1])
abbrev Ty5 : Ty := (.st [(.int .i64), (.int .i64)])
abbrev Ty6 : Ty := (.st [(.int .i64), (.int .i64), .bool])
abbrev Ty7 : Ty := (.sl 185 Ty5)
abbrev Ty8 : Ty := (.st [Ty0, Ty2])
abbrev Ty9 : Ty := (.st [(.int .i64), (.int .i64), (.int .i64)])
abbrev Ty10 : Ty := (.sl 108 Ty6)
abbrev Ty11 : Ty := (.st [(.int .i64), (.int .i64), .bool, (.int .i64)])
abbrev Ty12 : Ty := (.st [.str, .bool, (.int .i64), (.int .i64), (.int .i64)])
abbrev Ty13 : Ty := (.st [(.int .i64), (.int .i64), (.int .i64), .bool, (.int .i64)])
abbrev Ty14 : Ty := (.sl 94 Ty12)
abbrev Ty15 : Ty := (.st [(.int .i64), (.int .i64), (.int .i64), (.int .i64), (.int .i64)])
abbrev Ty16 : Ty := (.sl 124 Ty13)
abbrev Ty17 : Ty := (.sl 69 Ty15)
abbrev Ty18 : Ty := (.st [(.int .i64), (.int .i64), (.int .i64), (.int .i64), (.int .i64), (.int .i64)])
abbrev Ty19 : Ty := (.st [(.int .i64), Ty3, Ty10])
abbrev Ty20 : Ty := (.sl 72 Ty18)
abbrev Ty21 : Ty := (.sl 104 Ty19)
abbrev Ty22 : Ty := (.st [(.int .i64), (.int .i64), .str, (.int .i64), Ty3, Ty10, Ty2])
abbrev Ty23 : Ty := (.sl 106 Ty22)
abbrev Ty24 : Ty := (.st [(.int .i64), Ty2, (.int .i64), .bool, (.int .i64), (.int .i64), Ty7, Ty17, Ty10])
abbrev Ty25 : Ty := (.sl 100 Ty24)
abbrev Ty26 : Ty := (.st [Ty17, Ty3, Ty20, Ty16, (.int .i64)])
abbrev Ty27 : Ty := (.st [(.int .i64), (.int .i64), .str, (.int .i64), Ty2, (.int .i64), .bool, (.int .i64), (.int .i64), Ty7, Ty17, Ty10, Ty2])
abbrev Ty28 : Ty := (.sl 102 Ty27)
abbrev Ty29 : Ty := (.st [Ty14, Ty25, Ty21])
abbrev Ty30 : Ty := (.st [Ty28, Ty23, (.int .i64)])
abbrev ZFun : Int × Int × ByteArray × Int × (List Int) × Int × Bool × Int × Int × (List (Int × Int × Unit)) × (List (Int × Int × Int × Int × Int × Unit)) × (List (Int × Int × Bool × Unit)) × (List Int) × Unit := (0, (0, (⟨#[]⟩, (0, ([], (0, (false, (0, (0, ([], ([], ([], ([], ())))))))))))))
abbrev ZDat : Int × Int × ByteArray × Int × (List Int) × (List (Int × Int × Bool × Unit)) × (List Int) × Unit := (0, (0, (⟨#[]⟩, (0, ([], ([], ([], ())))))))
abbrev ZFunc : Int × (List Int) × Int × Bool × Int × Int × (List (Int × Int × Unit)) × (List (Int × Int × Int × Int × Int × Unit)) × (List (Int × Int × Bool × Unit)) × Unit := (0, ([], (0, (false, (0, (0, ([], ([], ([], ())))))))))
abbrev ZData : Int × (List Int) × (List (Int × Int × Bool × Unit)) × Unit := (0, ([], ([], ())))
abbrev ZSym : ByteArray × Bool × Int × Int × Int × Unit := (⟨#[]⟩, (false, (0, (0, (0, ())))))
abbrev ZIns : Int × Int × Int × Int × Int × Unit := (0, (0, (0, (0, (0, ())))))
abbrev ZRel : Int × Int × Bool × Unit := (0, (0, (false, ())))
abbrev ZFn : Int × Int × Int × Int × Int × Int × Unit := (0, (0, (0, (0, (0, (0, ()))))))
abbrev ZRu : Int × Int × Int × Bool × Int × Unit := (0, (0, (0, (false, (0, ())))))
abbrev ZRo : Int × Int × Bool × Int × Unit := (0, (0, (false, (0, ()))))
abbrev OB := Option Bool
abbrev gC (f : Int × Int × ByteArray × Int × (List Int) × Int × Bool × Int × Int × (List (Int × Int × Unit)) × (List (Int × Int × Int × Int × Int × Unit)) × (List (Int × Int × Bool × Unit)) × (List Int) × Unit) (i : Int) : Int × Int × Int × Int × Int × Unit := List.getD f.2.2.2.2.2.2.2.2.2.2.1 (Int.toNat i) ZIns
abbrev T_Y0 : Type := Int → Tc21 → (Bool → OB) → (Tc21 → OB) → OB
noncomputable def Y0.body (Y0 : T_Y0) : T_Y0 := fun n0 t1 k1 k2 =>
  (cond_ (decide (n0 < (length t1.1 : Int))) (cond_ ((decide (0 ≤ n0)) && (decide (n0 < (length t1.1 : Int)))) (cond_ (decide ((((ByteArray.size (getD t1.1 (toNat n0) ZSym).1) : Nat) : Int) > 300)) (k1 false) (Y0 (IntKind.wrap .i64 (n0 + 1)) t1 k1 k2)) none) (k2 t1))
noncomputable def Y0 : Nat → T_Y0
  | 0 => fun _ _ _ _ => none
  | n + 1 => Y0.body (Y0 n)
def Y0.p : LPat := lp 2 61 [1, 3] (ps (pq [1, 0] 0 0) (pl (pd (.int .i64)) pz)) (pl (po [1, 0] 87 3 (es Ty29 (pl eh pz))) pz)
def Y0.g (F : T_Y0) (v : Y0.p.T) (k : KE) : OB := F v.1.1 v.2.1.1 (fun y0 => k .ret ⟨fillS 61 [2] [(.d ⟨.bool, y0⟩)], [], 2⟩) (fun y0 => k (.exit 0) ⟨fillS 61 [1] [(.ptr [1, 0] 0 0)], [([1, 0], ⟨87, 3, (.data Ty29 [y0])⟩)], 2⟩)
theorem Y0.step (S : T_Y0) : ∀ v k, exR 38 Tryz.f38 0 Y0.p [] [] [] (Y0.g S) v k = Y0.g (Y0.body S) v k := fun v k => by kernel_rfl
theorem Y0.ok : okL 38 Tryz.f38 0 0 Y0.p (Y0.g (Y0 ROUNDS)) := loop2 (G := fun n => Y0.g (Y0 n)) (fun n => Y0.step (Y0 n)) .nil [] (by kernel_rfl) .nil (fun _ _ => rfl)
abbrev T_Y1 : Type := Tc16 → (Bool → OB) → OB
noncomputable def Y1.body : T_Y1 := fun t0 k1 =>
  (cond_ (decide ((length t0.2.1 : Int) ≤ 100)) (cond_ (decide ((length t0.2.2.2.2.2.2.1 : Int) ≤ 100)) (cond_ (decide ((length t0.2.2.2.2.2.2.2.1 : Int) ≤ 100)) (k1 (decide ((length t0.2.2.2.2.2.2.2.2.1 : Int) ≤ 100))) (k1 false)) (k1 false)) (k1 false))
noncomputable def Y1 : T_Y1 := Y1.body
def Y1.p : FPat := fp 63 (pl (pd Ty24) pz) pz
def Y1.g (F : T_Y1) (v : Y1.p.T) (k : KR) : OB := F v.1.1 (fun y0 => k (.d ⟨.bool, y0⟩) [])
theorem Y1.eq : ∀ v k, exF Tryz.f63 Y1.p [] [] [] v k = Y1.g (Y1.body) v k := fun v k => by kernel_rfl
theorem Y1.ok : okF 1 Y1.p (Y1.g Y1) := fn2 (Y1.eq) Tryz.func63 (by kernel_rfl) .nil [] (by kernel_rfl) .nil
abbrev T_Y2 : Type := Int → Tc21 → (Bool → OB) → (Tc21 → OB) → OB
noncomputable def Y2.body (Y2 : T_Y2) (Y1 : T_Y1) : T_Y2 := fun n0 t1 k1 k2 =>
  (cond_ (decide (n0 < (length t1.2.1 : Int))) (cond_ (! (decide (n0 ≥ 20))) (cond_ ((decide (0 ≤ n0)) && (decide (n0 < (length t1.2.1 : Int)))) (Y1 (getD t1.2.1 (toNat n0) ZFunc)
 (fun b2 => (cond_ (! b2) (k1 false) (Y2 (IntKind.wrap .i64 (n0 + 1)) t1 k1 k2)))) none) (k1 false)) (k2 t1))
noncomputable def Y2 : Nat → T_Y2
  | 0 => fun _ _ _ _ => none
  | n + 1 => Y2.body (Y2 n) Y1
def Y2.p : LPat := lp 2 61 [1, 4] (ps (pq [1, 0] 0 0) (pl (pd (.int .i64)) pz)) (pl (po [1, 0] 87 3 (es Ty29 (pl eh pz))) pz)
def Y2.g (F : T_Y2) (v : Y2.p.T) (k : KE) : OB := F v.1.1 v.2.1.1 (fun y0 => k .ret ⟨fillS 61 [2] [(.d ⟨.bool, y0⟩)], [], 2⟩) (fun y0 => k (.exit 2) ⟨fillS 61 [1] [(.ptr [1, 0] 0 0)], [([1, 0], ⟨87, 3, (.data Ty29 [y0])⟩)], 2⟩)
theorem Y2.step (S : T_Y2) (F0 : T_Y1) : ∀ v k, exR 38 Tryz.f38 2 Y2.p [⟨Y1.p, Y1.g F0⟩] [] [] (Y2.g S) v k = Y2.g (Y2.body S F0) v k := fun v k => by kernel_rfl
theorem Y2.ok : okL 38 Tryz.f38 1 2 Y2.p (Y2.g (Y2 ROUNDS)) := loop2 (G := fun n => Y2.g (Y2 n)) (fun n => Y2.step (Y2 n) Y1) (.cons Y1.ok .nil) [] (by kernel_rfl) .nil (fun _ _ => rfl)
abbrev T_Y3 : Type := Tc12 → (Bool → OB) → OB
noncomputable def Y3.body : T_Y3 := fun t0 k1 =>
  (cond_ (decide ((length t0.2.1 : Int) ≤ 100)) (k1 (decide ((length t0.2.2.1 : Int) ≤ 100))) (k1 false))
noncomputable def Y3 : T_Y3 := Y3.body
def Y3.p : FPat := fp 64 (pl (pd Ty19) pz) pz
def Y3.g (F : T_Y3) (v : Y3.p.T) (k : KR) : OB := F v.1.1 (fun y0 => k (.d ⟨.bool, y0⟩) [])
theorem Y3.eq : ∀ v k, exF Tryz.f64 Y3.p [] [] [] v k = Y3.g (Y3.body) v k := fun v k => by kernel_rfl
theorem Y3.ok : okF 1 Y3.p (Y3.g Y3) := fn2 (Y3.eq) Tryz.func64 (by kernel_rfl) .nil [] (by kernel_rfl) .nil
abbrev T_Y4 : Type := Int → Tc21 → (Bool → OB) → (Tc21 → OB) → OB
noncomputable def Y4.body (Y4 : T_Y4) (Y3 : T_Y3) : T_Y4 := fun n0 t1 k1 k2 =>
  (cond_ (decide (n0 < (length t1.2.2.1 : Int))) (cond_ (! (decide (n0 ≥ 20))) (cond_ ((decide (0 ≤ n0)) && (decide (n0 < (length t1.2.2.1 : Int)))) (Y3 (getD t1.2.2.1 (toNat n0) ZData)
 (fun b2 => (cond_ (! b2) (k1 false) (Y4 (IntKind.wrap .i64 (n0 + 1)) t1 k1 k2)))) none) (k1 false)) (k2 t1))
noncomputable def Y4 : Nat → T_Y4
  | 0 => fun _ _ _ _ => none
  | n + 1 => Y4.body (Y4 n) Y3
def Y4.p : LPat := lp 2 61 [1, 5] (ps (pq [1, 0] 0 0) (pl (pd (.int .i64)) pz)) (pl (po [1, 0] 87 3 (es Ty29 (pl eh pz))) pz)
def Y4.g (F : T_Y4) (v : Y4.p.T) (k : KE) : OB := F v.1.1 v.2.1.1 (fun y0 => k .ret ⟨fillS 61 [2] [(.d ⟨.bool, y0⟩)], [], 2⟩) (fun y0 => k (.exit 4) ⟨fillS 61 [1] [(.ptr [1, 0] 0 0)], [([1, 0], ⟨87, 3, (.data Ty29 [y0])⟩)], 2⟩)
theorem Y4.step (S : T_Y4) (F0 : T_Y3) : ∀ v k, exR 38 Tryz.f38 4 Y4.p [⟨Y3.p, Y3.g F0⟩] [] [] (Y4.g S) v k = Y4.g (Y4.body S F0) v k := fun v k => by kernel_rfl
theorem Y4.ok : okL 38 Tryz.f38 1 4 Y4.p (Y4.g (Y4 ROUNDS)) := loop2 (G := fun n => Y4.g (Y4 n)) (fun n => Y4.step (Y4 n) Y3) (.cons Y3.ok .nil) [] (by kernel_rfl) .nil (fun _ _ => rfl)
abbrev T_Y5 : Type := Tc21 → (Bool → OB) → OB
noncomputable def Y5.body (Y0 : T_Y0) (Y2 : T_Y2) (Y4 : T_Y4) : T_Y5 := fun t0 k1 =>
  (Y0 0 t0
 (fun b1 => (k1 b1))
 (fun t2 => (Y2 0 t2
 (fun b3 => (k1 b3))
 (fun t4 => (Y4 0 t4
 (fun b5 => (k1 b5))
 (fun t6 => (k1 (decide ((length t6.1 : Int) ≤ 60)))))))))
noncomputable def Y5 : T_Y5 := Y5.body (Y0 ROUNDS) (Y2 ROUNDS) (Y4 ROUNDS)
def Y5.p : FPat := fp 38 (pl (pd Ty29) pz) pz
def Y5.g (F : T_Y5) (v : Y5.p.T) (k : KR) : OB := F v.1.1 (fun y0 => k (.d ⟨.bool, y0⟩) [])
theorem Y5.eq (L0 : T_Y0) (L1 : T_Y2) (L2 : T_Y4) : ∀ v k, exF Tryz.f38 Y5.p [] [] [⟨0, Y0.p, Y0.g L0⟩, ⟨2, Y2.p, Y2.g L1⟩, ⟨4, Y4.p, Y4.g L2⟩] v k = Y5.g (Y5.body L0 L1 L2) v k := fun v k => by kernel_rfl
theorem Y5.ok : okF 2 Y5.p (Y5.g Y5) := fn2 (Y5.eq (Y0 ROUNDS) (Y2 ROUNDS) (Y4 ROUNDS)) Tryz.func38 (by kernel_rfl) .nil [0, 2, 4] (by kernel_rfl) (.cons Y0.ok (.cons Y2.ok (.cons Y4.ok .nil)))
abbrev T_Y6 : Type := Tc22 → Int → (Bool → OB) → (Tc22 → OB) → OB
noncomputable def Y6.body (Y6 : T_Y6) (Y5 : T_Y5) : T_Y6 := fun t0 n1 k1 k2 =>
  (cond_ (decide (n1 < (length t0 : Int))) (cond_ ((decide (0 ≤ n1)) && (decide (n1 < (length t0 : Int)))) (Y5 (getD t0 (toNat n1) ([], ([], ([], ()))))
 (fun b2 => (cond_ (! b2) (k1 false) (Y6 t0 (IntKind.wrap .i64 (n1 + 1)) k1 k2)))) none) (k2 t0))
noncomputable def Y6 : Nat → T_Y6
  | 0 => fun _ _ _ _ => none
  | n + 1 => Y6.body (Y6 n) Y5
def Y6.p : LPat := lp 2 19 [0, 3] (pl (pb 0 87 Ty29) (pl (pd (.int .i64)) pz)) pz
def Y6.g (F : T_Y6) (v : Y6.p.T) (k : KE) : OB := F v.1.1 v.1.2.1 (fun y0 => k .ret ⟨fillS 19 [2] [(.d ⟨.bool, y0⟩)], [], 2⟩) (fun y0 => k (.exit 0) ⟨fillS 19 [0] [(.bv 0 87 Ty29 y0)], [], 2⟩)
theorem Y6.step (S : T_Y6) (F0 : T_Y5) : ∀ v k, exR 14 Tryz.f14 0 Y6.p [⟨Y5.p, Y5.g F0⟩] [] [] (Y6.g S) v k = Y6.g (Y6.body S F0) v k := fun v k => by kernel_rfl
theorem Y6.ok : okL 14 Tryz.f14 2 0 Y6.p (Y6.g (Y6 ROUNDS)) := loop2 (G := fun n => Y6.g (Y6 n)) (fun n => Y6.step (Y6 n) Y5) (.cons Y5.ok .nil) [] (by kernel_rfl) .nil (fun _ _ => rfl)
abbrev T_Y7 : Type := Tc22 → (Bool → OB) → OB
noncomputable def Y7.body (Y6 : T_Y6) : T_Y7 := fun t0 k1 =>
  (Y6 t0 0
 (fun b1 => (k1 b1))
 (fun t2 => (k1 (decide ((length t2 : Int) ≤ 9)))))
noncomputable def Y7 : T_Y7 := Y7.body (Y6 ROUNDS)
def Y7.p : FPat := fp 14 (pl (pb 0 87 Ty29) pz) pz
def Y7.g (F : T_Y7) (v : Y7.p.T) (k : KR) : OB := F v.1.1 (fun y0 => k (.d ⟨.bool, y0⟩) [])
theorem Y7.eq (L0 : T_Y6) : ∀ v k, exF Tryz.f14 Y7.p [] [] [⟨0, Y6.p, Y6.g L0⟩] v k = Y7.g (Y7.body L0) v k := fun v k => by kernel_rfl
theorem Y7.ok : okF 3 Y7.p (Y7.g Y7) := fn2 (Y7.eq (Y6 ROUNDS)) Tryz.func14 (by kernel_rfl) .nil [0] (by kernel_rfl) (.cons Y6.ok .nil)
abbrev T_Y8 : Type := Int → Bool → (Bool → OB) → OB
noncomputable def Y8.body : T_Y8 := fun n0 b1 k1 =>
  (cond_ (decide (n0 ≥ 97)) (cond_ (! (decide (n0 ≤ 122))) (cond_ (! (n0 == 95)) (cond_ (! (n0 == 46)) (cond_ (decide (n0 ≥ 48)) (cond_ (decide (n0 ≤ 57)) (k1 (! b1)) (k1 false)) (k1 false)) (k1 true)) (k1 true)) (k1 true)) (cond_ (! (n0 == 95)) (cond_ (! (n0 == 46)) (cond_ (decide (n0 ≥ 48)) (cond_ (decide (n0 ≤ 57)) (k1 (! b1)) (k1 false)) (k1 false)) (k1 true)) (k1 true)))
noncomputable def Y8 : T_Y8 := Y8.body
def Y8.p : FPat := fp 120 (pl (pd (.int .u8)) (pl (pd .bool) pz)) pz
def Y8.g (F : T_Y8) (v : Y8.p.T) (k : KR) : OB := F v.1.1 v.1.2.1 (fun y0 => k (.d ⟨.bool, y0⟩) [])
theorem Y8.eq : ∀ v k, exF Tryz.f120 Y8.p [] [] [] v k = Y8.g (Y8.body) v k := fun v k => by kernel_rfl
theorem Y8.ok : okF 1 Y8.p (Y8.g Y8) := fn2 (Y8.eq) Tryz.func120 (by kernel_rfl) .nil [] (by kernel_rfl) .nil
abbrev T_Y9 : Type := ByteArray → Int → (Int → OB) → (OB) → OB
noncomputable def Y9.body (Y9 : T_Y9) (Y8 : T_Y8) : T_Y9 := fun s0 n1 k1 k2 =>
  (cond_ (decide (n1 < (((ByteArray.size s0) : Nat) : Int))) (cond_ ((decide (0 ≤ n1)) && (decide (n1 < (((ByteArray.size s0) : Nat) : Int)))) (Y8 (((UInt8.toNat (getD (Array.toList (ByteArray.data s0)) (toNat n1) (0 : UInt8))) : Nat) : Int) (n1 == 0)
 (fun b2 => (cond_ (! b2) (k1 7) (Y9 s0 (IntKind.wrap .i64 (n1 + 1)) k1 k2)))) none) (k2))
noncomputable def Y9 : Nat → T_Y9
  | 0 => fun _ _ _ _ => none
  | n + 1 => Y9.body (Y9 n) Y8
def Y9.p : LPat := lp 2 22 [0, 3] (pl (pd .str) (pl (pd (.int .i64)) pz)) pz
def Y9.g (F : T_Y9) (v : Y9.p.T) (k : KE) : OB := F v.1.1 v.1.2.1 (fun y0 => k .ret ⟨fillS 22 [2] [(.d ⟨(.int .i64), y0⟩)], [], 2⟩) (k (.exit 0) ⟨fillS 22 [] [], [], 2⟩)
theorem Y9.step (S : T_Y9) (F0 : T_Y8) : ∀ v k, exR 108 Tryz.f108 0 Y9.p [⟨Y8.p, Y8.g F0⟩] [] [] (Y9.g S) v k = Y9.g (Y9.body S F0) v k := fun v k => by kernel_rfl
theorem Y9.ok : okL 108 Tryz.f108 1 0 Y9.p (Y9.g (Y9 ROUNDS)) := loop2 (G := fun n => Y9.g (Y9 n)) (fun n => Y9.step (Y9 n) Y8) (.cons Y8.ok .nil) [] (by kernel_rfl) .nil (fun _ _ => rfl)
abbrev T_Ya : Type := ByteArray → (Int → OB) → OB
noncomputable def Ya.body (Y9 : T_Y9) : T_Ya := fun s0 k1 =>
  (cond_ (decide ((((ByteArray.size s0) : Nat) : Int) > 24)) (k1 6) (cond_ ((ByteArray.toList s0) == (ByteArray.toList (⟨#[]⟩ : ByteArray))) (k1 7) (Y9 s0 0
 (fun n1 => (k1 n1))
  (k1 0))))
noncomputable def Ya : T_Ya := Ya.body (Y9 ROUNDS)
def Ya.p : FPat := fp 108 (pl (pd .str) pz) pz
def Ya.g (F : T_Ya) (v : Ya.p.T) (k : KR) : OB := F v.1.1 (fun y0 => k (.d ⟨(.int .i64), y0⟩) [])
theorem Ya.eq (L0 : T_Y9) : ∀ v k, exF Tryz.f108 Ya.p [] [] [⟨0, Y9.p, Y9.g L0⟩] v k = Ya.g (Ya.body L0) v k := fun v k => by kernel_rfl
theorem Ya.ok : okF 2 Ya.p (Ya.g Ya) := fn2 (Ya.eq (Y9 ROUNDS)) Tryz.func108 (by kernel_rfl) .nil [0] (by kernel_rfl) (.cons Y9.ok .nil)
abbrev T_Yb : Type := Int → (Bool → OB) → OB
noncomputable def Yb.body : T_Yb := fun n0 k1 =>
  (cond_ (decide (n0 ≥ 0)) (k1 (decide (n0 ≤ 7))) (k1 false))
noncomputable def Yb : T_Yb := Yb.body
def Yb.p : FPat := fp 77 (pl (pd (.int .i64)) pz) pz
def Yb.g (F : T_Yb) (v : Yb.p.T) (k : KR) : OB := F v.1.1 (fun y0 => k (.d ⟨.bool, y0⟩) [])
theorem Yb.eq : ∀ v k, exF Tryz.f77 Yb.p [] [] [] v k = Yb.g (Yb.body) v k := fun v k => by kernel_rfl
theorem Yb.ok : okF 1 Yb.p (Yb.g Yb) := fn2 (Yb.eq) Tryz.func77 (by kernel_rfl) .nil [] (by kernel_rfl) .nil
abbrev T_Yc : Type := Int → (Int → Bool → OB) → OB
noncomputable def Yc.body (Yb : T_Yb) : T_Yc := fun n0 k1 =>
  (Yb (IntKind.wrap .i64 (n0 - 1))
 (fun b1 => (cond_ (! b1) (k1 0 false) (k1 (IntKind.wrap .i64 (n0 - 1)) true))))
noncomputable def Yc : T_Yc := Yc.body Yb
def Yc.p : FPat := fp 121 (pl (pd (.int .i64)) pz) pz
def Yc.g (F : T_Yc) (v : Yc.p.T) (k : KR) : OB := F v.1.1 (fun y0 y1 => k (.tup [(.d ⟨(.int .i64), y0⟩), (.d ⟨.bool, y1⟩)]) [])
theorem Yc.eq (F0 : T_Yb) : ∀ v k, exF Tryz.f121 Yc.p [⟨Yb.p, Yb.g F0⟩] [] [] v k = Yc.g (Yc.body F0) v k := fun v k => by kernel_rfl
theorem Yc.ok : okF 2 Yc.p (Yc.g Yc) := fn2 (Yc.eq Yb) Tryz.func121 (by kernel_rfl) (.cons Yb.ok .nil) [] (by kernel_rfl) .nil
abbrev T_Yd : Type := Int → ByteArray → Int → (Int → ByteArray → OB) → OB
noncomputable def Yd.body (Yd : T_Yd) : T_Yd := fun n0 s1 n2 k1 =>
  (cond_ (n2 != 0) (cond_ (decide ((Int.tmod n2 10) < 0)) (cond_ (Nat.ble ((ByteArray.size (strOf ((IntKind.wrap .u8 (IntKind.wrap .i64 (48 + (IntKind.wrap .i64 (0 - (Int.tmod n2 10)))))) :: []))) + (ByteArray.size s1)) (9223372036854775807 : Nat)) (Yd n0 ((strOf ((IntKind.wrap .u8 (IntKind.wrap .i64 (48 + (IntKind.wrap .i64 (0 - (Int.tmod n2 10)))))) :: [])) ++ s1) (IntKind.wrap .i64 (Int.tdiv n2 10)) k1) none) (cond_ (Nat.ble ((ByteArray.size (strOf ((IntKind.wrap .u8 (IntKind.wrap .i64 (48 + (Int.tmod n2 10)))) :: []))) + (ByteArray.size s1)) (9223372036854775807 : Nat)) (Yd n0 ((strOf ((IntKind.wrap .u8 (IntKind.wrap .i64 (48 + (Int.tmod n2 10)))) :: [])) ++ s1) (IntKind.wrap .i64 (Int.tdiv n2 10)) k1) none)) (k1 n0 s1))
noncomputable def Yd : Nat → T_Yd
  | 0 => fun _ _ _ _ => none
  | n + 1 => Yd.body (Yd n)
def Yd.p : LPat := lp 2 31 [0, 3, 4] (pl (pd (.int .i64)) (pl (pd .str) (pl (pd (.int .i64)) pz))) pz
def Yd.g (F : T_Yd) (v : Yd.p.T) (k : KE) : OB := F v.1.1 v.1.2.1 v.1.2.2.1 (fun y0 y1 => k (.exit 0) ⟨fillS 31 [0, 3] [(.d ⟨(.int .i64), y0⟩), (.d ⟨.str, y1⟩)], [], 2⟩)
theorem Yd.step (S : T_Yd) : ∀ v k, exR 122 Tryz.f122 0 Yd.p [] [] [] (Yd.g S) v k = Yd.g (Yd.body S) v k := fun v k => by kernel_rfl
theorem Yd.ok : okL 122 Tryz.f122 0 0 Yd.p (Yd.g (Yd ROUNDS)) := loop2 (G := fun n => Yd.g (Yd n)) (fun n => Yd.step (Yd n)) .nil [] (by kernel_rfl) .nil (fun _ _ => rfl)
abbrev T_Ye : Type := Int → (ByteArray → OB) → OB
noncomputable def Ye.body (Yd : T_Yd) : T_Ye := fun n0 k1 =>
  (cond_ (n0 == 0) (k1 (⟨#[48]⟩ : ByteArray)) (Yd n0 (⟨#[]⟩ : ByteArray) n0
 (fun n1 s2 => (cond_ (decide (n1 < 0)) (cond_ (Nat.ble ((1 : Nat) + (ByteArray.size s2)) (9223372036854775807 : Nat)) (k1 ((⟨#[45]⟩ : ByteArray) ++ s2)) none) (k1 s2)))))
noncomputable def Ye : T_Ye := Ye.body (Yd ROUNDS)
def Ye.p : FPat := fp 122 (pl (pd (.int .i64)) pz) pz
def Ye.g (F : T_Ye) (v : Ye.p.T) (k : KR) : OB := F v.1.1 (fun y0 => k (.d ⟨.str, y0⟩) [])
theorem Ye.eq (L0 : T_Yd) : ∀ v k, exF Tryz.f122 Ye.p [] [] [⟨0, Yd.p, Yd.g L0⟩] v k = Ye.g (Ye.body L0) v k := fun v k => by kernel_rfl
theorem Ye.ok : okF 1 Ye.p (Ye.g Ye) := fn2 (Ye.eq (Yd ROUNDS)) Tryz.func122 (by kernel_rfl) .nil [0] (by kernel_rfl) (.cons Yd.ok .nil)
abbrev T_Yf : Type := Int → (ByteArray → OB) → OB
noncomputable def Yf.body (Yc : T_Yc) (Ye : T_Ye) : T_Yf := fun n0 k1 =>
  (cond_ (n0 == 0) (k1 (⟨#[110]⟩ : ByteArray)) (Yc n0
 (fun n1 b2 => (cond_ (! b2) (k1 (⟨#[]⟩ : ByteArray)) (Ye (IntKind.wrap .i64 (Int.tdiv n1 2))
 (fun s3 => (cond_ (Nat.ble ((1 : Nat) + (ByteArray.size s3)) (9223372036854775807 : Nat)) (cond_ ((Int.tmod n1 2) == 1) (cond_ (Nat.ble ((ByteArray.size ((⟨#[102]⟩ : ByteArray) ++ s3)) + (1 : Nat)) (9223372036854775807 : Nat)) (k1 (((⟨#[102]⟩ : ByteArray) ++ s3) ++ (⟨#[114]⟩ : ByteArray))) none) (k1 ((⟨#[102]⟩ : ByteArray) ++ s3))) none)))))))
noncomputable def Yf : T_Yf := Yf.body Yc Ye
def Yf.p : FPat := fp 109 (pl (pd (.int .i64)) pz) pz
def Yf.g (F : T_Yf) (v : Yf.p.T) (k : KR) : OB := F v.1.1 (fun y0 => k (.d ⟨.str, y0⟩) [])
theorem Yf.eq (F0 : T_Yc) (F1 : T_Ye) : ∀ v k, exF Tryz.f109 Yf.p [⟨Yc.p, Yc.g F0⟩, ⟨Ye.p, Ye.g F1⟩] [] [] v k = Yf.g (Yf.body F0 F1) v k := fun v k => by kernel_rfl
theorem Yf.ok : okF 3 Yf.p (Yf.g Yf) := fn2 (Yf.eq Yc Ye) Tryz.func109 (by kernel_rfl) (.cons Yc.ok (.cons Ye.ok .nil)) [] (by kernel_rfl) .nil
abbrev T_Yg : Type := Int → Int → Tc21 → Tc7 → (Int → OB) → (Int → Tc21 → Tc7 → OB) → OB
noncomputable def Yg.body (Yg : T_Yg) : T_Yg := fun n0 n1 t2 t3 k1 k2 =>
  (cond_ (decide (n1 < n0)) (cond_ ((decide (0 ≤ n1)) && (decide (n1 < (length t2.1 : Int)))) (cond_ ((ByteArray.toList (getD t2.1 (toNat n1) ZSym).1) == (ByteArray.toList t3.1)) (k1 12) (Yg n0 (IntKind.wrap .i64 (n1 + 1)) t2 t3 k1 k2)) none) (k2 n0 t2 t3))
noncomputable def Yg : Nat → T_Yg
  | 0 => fun _ _ _ _ _ _ => none
  | n + 1 => Yg.body (Yg n)
def Yg.p : LPat := lp 2 122 [1, 2, 5, 7] (pl (pd (.int .i64)) (ps (pq [1, 0] 0 0) (ps (pq [1, 1] 0 0) (pl (pd (.int .i64)) pz)))) (pl (po [1, 0] 87 3 (es Ty29 (pl eh pz))) (pl (po [1, 1] 94 5 (es Ty12 (pl eh pz))) pz))
def Yg.g (F : T_Yg) (v : Yg.p.T) (k : KE) : OB := F v.1.1 v.1.2.1 v.2.1.1 v.2.2.1.1 (fun y0 => k .ret ⟨fillS 122 [4] [(.d ⟨(.int .i64), y0⟩)], [], 2⟩) (fun y0 y1 y2 => k (.exit 0) ⟨fillS 122 [1, 2, 5] [(.d ⟨(.int .i64), y0⟩), (.ptr [1, 0] 0 0), (.ptr [1, 1] 0 0)], [([1, 0], ⟨87, 3, (.data Ty29 [y1])⟩), ([1, 1], ⟨94, 5, (.data Ty12 [y2])⟩)], 2⟩)
theorem Yg.step (S : T_Yg) : ∀ v k, exR 65 Tryz.f65 0 Yg.p [] [] [] (Yg.g S) v k = Yg.g (Yg.body S) v k := fun v k => by kernel_rfl
theorem Yg.ok : okL 65 Tryz.f65 0 0 Yg.p (Yg.g (Yg ROUNDS)) := loop2 (G := fun n => Yg.g (Yg n)) (fun n => Yg.step (Yg n)) .nil [] (by kernel_rfl) .nil (fun _ _ => rfl)
abbrev T_Yh : Type := Int → Int → Int → Int → Tc21 → Tc7 → (Int → Int → Tc7 → OB) → OB
noncomputable def Yh.body (Yh : T_Yh) : T_Yh := fun n0 n1 n2 n3 t4 t5 k1 =>
  (cond_ (decide (n3 < n0)) (cond_ ((decide (0 ≤ n3)) && (decide (n3 < (length t4.1 : Int)))) (cond_ ((getD t4.1 (toNat n3) ZSym).2.2.1 == t5.2.2.1) (cond_ ((decide (0 ≤ n3)) && (decide (n3 < (length t4.1 : Int)))) (cond_ ((getD t4.1 (toNat n3) ZSym).2.2.2.2.1 != (-1)) (Yh n0 n1 (IntKind.wrap .i64 (n2 + 1)) (IntKind.wrap .i64 (n3 + 1)) t4 t5 k1) (Yh n0 n1 n2 (IntKind.wrap .i64 (n3 + 1)) t4 t5 k1)) none) (Yh n0 n1 n2 (IntKind.wrap .i64 (n3 + 1)) t4 t5 k1)) none) (k1 n1 n2 t5))
noncomputable def Yh : Nat → T_Yh
  | 0 => fun _ _ _ _ _ _ _ => none
  | n + 1 => Yh.body (Yh n)
def Yh.p : LPat := lp 2 122 [1, 2, 5, 8, 9, 10] (pl (pd (.int .i64)) (ps (pq [1, 0] 0 0) (ps (pq [1, 1] 0 0) (pl (pd (.int .i64)) (pl (pd (.int .i64)) (pl (pd (.int .i64)) pz)))))) (pl (po [1, 0] 87 3 (es Ty29 (pl eh pz))) (pl (po [1, 1] 94 5 (es Ty12 (pl eh pz))) pz))
def Yh.g (F : T_Yh) (v : Yh.p.T) (k : KE) : OB := F v.1.1 v.1.2.1 v.1.2.2.1 v.1.2.2.2.1 v.2.1.1 v.2.2.1.1 (fun y0 y1 y2 => k (.exit 2) ⟨fillS 122 [5, 8, 9] [(.ptr [1, 0] 0 0), (.d ⟨(.int .i64), y0⟩), (.d ⟨(.int .i64), y1⟩)], [([1, 0], ⟨94, 5, (.data Ty12 [y2])⟩)], 2⟩)
theorem Yh.step (S : T_Yh) : ∀ v k, exR 65 Tryz.f65 2 Yh.p [] [] [] (Yh.g S) v k = Yh.g (Yh.body S) v k := fun v k => by kernel_rfl
theorem Yh.ok : okL 65 Tryz.f65 0 2 Yh.p (Yh.g (Yh ROUNDS)) := loop2 (G := fun n => Yh.g (Yh n)) (fun n => Yh.step (Yh n)) .nil [] (by kernel_rfl) .nil (fun _ _ => rfl)
abbrev T_Yi : Type := Tc21 → Int → (Int → OB) → OB
noncomputable def Yi.body (Ya : T_Ya) (Yb : T_Yb) (Yf : T_Yf) (Yg : T_Yg) (Yh : T_Yh) : T_Yi := fun t0 n1 k1 =>
  (cond_ ((decide (0 ≤ n1)) && (decide (n1 < (length t0.1 : Int)))) (Ya (getD t0.1 (toNat n1) ZSym).1
 (fun n2 => (cond_ (n2 != 0) (k1 n2) (cond_ ((getD t0.1 (toNat n1) ZSym).2.2.1 != 1) (cond_ (! ((getD t0.1 (toNat n1) ZSym).2.2.1 != 2)) (cond_ ((getD t0.1 (toNat n1) ZSym).2.2.1 == 1) (Yb (getD t0.1 (toNat n1) ZSym).2.2.2.1
 (fun b3 => (cond_ (! (! b3)) (cond_ ((getD t0.1 (toNat n1) ZSym).2.2.1 == 2) (Yf (getD t0.1 (toNat n1) ZSym).2.2.2.1
 (fun s4 => (cond_ ((ByteArray.toList s4) == (ByteArray.toList (⟨#[]⟩ : ByteArray))) (k1 8) (Yg n1 0 t0 (getD t0.1 (toNat n1) ZSym)
 (fun n5 => (k1 n5))
 (fun n6 t7 t8 => (cond_ (t8.2.2.1 == 2) (Yh n6 (length t7.2.2.1 : Int) 0 0 t7 t8
 (fun n9 na tb => (cond_ (tb.2.2.2.2.1 != (-1)) (cond_ (! (tb.2.2.2.2.1 != na)) (cond_ (decide (tb.2.2.2.2.1 ≥ n9)) (k1 9) (cond_ tb.2.1 (cond_ (tb.2.2.2.2.1 == (-1)) (k1 13) (k1 0)) (k1 0))) (k1 9)) (cond_ tb.2.1 (cond_ (tb.2.2.2.2.1 == (-1)) (k1 13) (k1 0)) (k1 0))))) (Yh n6 (length t7.2.1 : Int) 0 0 t7 t8
 (fun nc nd te => (cond_ (te.2.2.2.2.1 != (-1)) (cond_ (! (te.2.2.2.2.1 != nd)) (cond_ (decide (te.2.2.2.2.1 ≥ nc)) (k1 9) (cond_ te.2.1 (cond_ (te.2.2.2.2.1 == (-1)) (k1 13) (k1 0)) (k1 0))) (k1 9)) (cond_ te.2.1 (cond_ (te.2.2.2.2.1 == (-1)) (k1 13) (k1 0)) (k1 0))))))))))) (Yg n1 0 t0 (getD t0.1 (toNat n1) ZSym)
 (fun nf => (k1 nf))
 (fun ng th ti => (cond_ (ti.2.2.1 == 2) (Yh ng (length th.2.2.1 : Int) 0 0 th ti
 (fun nj nk tl => (cond_ (tl.2.2.2.2.1 != (-1)) (cond_ (! (tl.2.2.2.2.1 != nk)) (cond_ (decide (tl.2.2.2.2.1 ≥ nj)) (k1 9) (cond_ tl.2.1 (cond_ (tl.2.2.2.2.1 == (-1)) (k1 13) (k1 0)) (k1 0))) (k1 9)) (cond_ tl.2.1 (cond_ (tl.2.2.2.2.1 == (-1)) (k1 13) (k1 0)) (k1 0))))) (Yh ng (length th.2.1 : Int) 0 0 th ti
 (fun nm nn to => (cond_ (to.2.2.2.2.1 != (-1)) (cond_ (! (to.2.2.2.2.1 != nn)) (cond_ (decide (to.2.2.2.2.1 ≥ nm)) (k1 9) (cond_ to.2.1 (cond_ (to.2.2.2.2.1 == (-1)) (k1 13) (k1 0)) (k1 0))) (k1 9)) (cond_ to.2.1 (cond_ (to.2.2.2.2.1 == (-1)) (k1 13) (k1 0)) (k1 0))))))))) (k1 8)))) (cond_ ((getD t0.1 (toNat n1) ZSym).2.2.1 == 2) (Yf (getD t0.1 (toNat n1) ZSym).2.2.2.1
 (fun sp => (cond_ ((ByteArray.toList sp) == (ByteArray.toList (⟨#[]⟩ : ByteArray))) (k1 8) (Yg n1 0 t0 (getD t0.1 (toNat n1) ZSym)
 (fun nq => (k1 nq))
 (fun nr ts tt => (cond_ (tt.2.2.1 == 2) (Yh nr (length ts.2.2.1 : Int) 0 0 ts tt
 (fun nu nv tw => (cond_ (tw.2.2.2.2.1 != (-1)) (cond_ (! (tw.2.2.2.2.1 != nv)) (cond_ (decide (tw.2.2.2.2.1 ≥ nu)) (k1 9) (cond_ tw.2.1 (cond_ (tw.2.2.2.2.1 == (-1)) (k1 13) (k1 0)) (k1 0))) (k1 9)) (cond_ tw.2.1 (cond_ (tw.2.2.2.2.1 == (-1)) (k1 13) (k1 0)) (k1 0))))) (Yh nr (length ts.2.1 : Int) 0 0 ts tt
 (fun nx ny tz => (cond_ (tz.2.2.2.2.1 != (-1)) (cond_ (! (tz.2.2.2.2.1 != ny)) (cond_ (decide (tz.2.2.2.2.1 ≥ nx)) (k1 9) (cond_ tz.2.1 (cond_ (tz.2.2.2.2.1 == (-1)) (k1 13) (k1 0)) (k1 0))) (k1 9)) (cond_ tz.2.1 (cond_ (tz.2.2.2.2.1 == (-1)) (k1 13) (k1 0)) (k1 0))))))))))) (Yg n1 0 t0 (getD t0.1 (toNat n1) ZSym)
 (fun n10 => (k1 n10))
 (fun n11 t12 t13 => (cond_ (t13.2.2.1 == 2) (Yh n11 (length t12.2.2.1 : Int) 0 0 t12 t13
 (fun n14 n15 t16 => (cond_ (t16.2.2.2.2.1 != (-1)) (cond_ (! (t16.2.2.2.2.1 != n15)) (cond_ (decide (t16.2.2.2.2.1 ≥ n14)) (k1 9) (cond_ t16.2.1 (cond_ (t16.2.2.2.2.1 == (-1)) (k1 13) (k1 0)) (k1 0))) (k1 9)) (cond_ t16.2.1 (cond_ (t16.2.2.2.2.1 == (-1)) (k1 13) (k1 0)) (k1 0))))) (Yh n11 (length t12.2.1 : Int) 0 0 t12 t13
 (fun n17 n18 t19 => (cond_ (t19.2.2.2.2.1 != (-1)) (cond_ (! (t19.2.2.2.2.1 != n18)) (cond_ (decide (t19.2.2.2.2.1 ≥ n17)) (k1 9) (cond_ t19.2.1 (cond_ (t19.2.2.2.2.1 == (-1)) (k1 13) (k1 0)) (k1 0))) (k1 9)) (cond_ t19.2.1 (cond_ (t19.2.2.2.2.1 == (-1)) (k1 13) (k1 0)) (k1 0)))))))))) (k1 8)) (cond_ ((getD t0.1 (toNat n1) ZSym).2.2.1 == 1) (Yb (getD t0.1 (toNat n1) ZSym).2.2.2.1
 (fun b1a => (cond_ (! (! b1a)) (cond_ ((getD t0.1 (toNat n1) ZSym).2.2.1 == 2) (Yf (getD t0.1 (toNat n1) ZSym).2.2.2.1
 (fun s1b => (cond_ ((ByteArray.toList s1b) == (ByteArray.toList (⟨#[]⟩ : ByteArray))) (k1 8) (Yg n1 0 t0 (getD t0.1 (toNat n1) ZSym)
 (fun n1c => (k1 n1c))
 (fun n1d t1e t1f => (cond_ (t1f.2.2.1 == 2) (Yh n1d (length t1e.2.2.1 : Int) 0 0 t1e t1f
 (fun n1g n1h t1i => (cond_ (t1i.2.2.2.2.1 != (-1)) (cond_ (! (t1i.2.2.2.2.1 != n1h)) (cond_ (decide (t1i.2.2.2.2.1 ≥ n1g)) (k1 9) (cond_ t1i.2.1 (cond_ (t1i.2.2.2.2.1 == (-1)) (k1 13) (k1 0)) (k1 0))) (k1 9)) (cond_ t1i.2.1 (cond_ (t1i.2.2.2.2.1 == (-1)) (k1 13) (k1 0)) (k1 0))))) (Yh n1d (length t1e.2.1 : Int) 0 0 t1e t1f
 (fun n1j n1k t1l => (cond_ (t1l.2.2.2.2.1 != (-1)) (cond_ (! (t1l.2.2.2.2.1 != n1k)) (cond_ (decide (t1l.2.2.2.2.1 ≥ n1j)) (k1 9) (cond_ t1l.2.1 (cond_ (t1l.2.2.2.2.1 == (-1)) (k1 13) (k1 0)) (k1 0))) (k1 9)) (cond_ t1l.2.1 (cond_ (t1l.2.2.2.2.1 == (-1)) (k1 13) (k1 0)) (k1 0))))))))))) (Yg n1 0 t0 (getD t0.1 (toNat n1) ZSym)
 (fun n1m => (k1 n1m))
 (fun n1n t1o t1p => (cond_ (t1p.2.2.1 == 2) (Yh n1n (length t1o.2.2.1 : Int) 0 0 t1o t1p
 (fun n1q n1r t1s => (cond_ (t1s.2.2.2.2.1 != (-1)) (cond_ (! (t1s.2.2.2.2.1 != n1r)) (cond_ (decide (t1s.2.2.2.2.1 ≥ n1q)) (k1 9) (cond_ t1s.2.1 (cond_ (t1s.2.2.2.2.1 == (-1)) (k1 13) (k1 0)) (k1 0))) (k1 9)) (cond_ t1s.2.1 (cond_ (t1s.2.2.2.2.1 == (-1)) (k1 13) (k1 0)) (k1 0))))) (Yh n1n (length t1o.2.1 : Int) 0 0 t1o t1p
 (fun n1t n1u t1v => (cond_ (t1v.2.2.2.2.1 != (-1)) (cond_ (! (t1v.2.2.2.2.1 != n1u)) (cond_ (decide (t1v.2.2.2.2.1 ≥ n1t)) (k1 9) (cond_ t1v.2.1 (cond_ (t1v.2.2.2.2.1 == (-1)) (k1 13) (k1 0)) (k1 0))) (k1 9)) (cond_ t1v.2.1 (cond_ (t1v.2.2.2.2.1 == (-1)) (k1 13) (k1 0)) (k1 0))))))))) (k1 8)))) (cond_ ((getD t0.1 (toNat n1) ZSym).2.2.1 == 2) (Yf (getD t0.1 (toNat n1) ZSym).2.2.2.1
 (fun s1w => (cond_ ((ByteArray.toList s1w) == (ByteArray.toList (⟨#[]⟩ : ByteArray))) (k1 8) (Yg n1 0 t0 (getD t0.1 (toNat n1) ZSym)
 (fun n1x => (k1 n1x))
 (fun n1y t1z t20 => (cond_ (t20.2.2.1 == 2) (Yh n1y (length t1z.2.2.1 : Int) 0 0 t1z t20
 (fun n21 n22 t23 => (cond_ (t23.2.2.2.2.1 != (-1)) (cond_ (! (t23.2.2.2.2.1 != n22)) (cond_ (decide (t23.2.2.2.2.1 ≥ n21)) (k1 9) (cond_ t23.2.1 (cond_ (t23.2.2.2.2.1 == (-1)) (k1 13) (k1 0)) (k1 0))) (k1 9)) (cond_ t23.2.1 (cond_ (t23.2.2.2.2.1 == (-1)) (k1 13) (k1 0)) (k1 0))))) (Yh n1y (length t1z.2.1 : Int) 0 0 t1z t20
 (fun n24 n25 t26 => (cond_ (t26.2.2.2.2.1 != (-1)) (cond_ (! (t26.2.2.2.2.1 != n25)) (cond_ (decide (t26.2.2.2.2.1 ≥ n24)) (k1 9) (cond_ t26.2.1 (cond_ (t26.2.2.2.2.1 == (-1)) (k1 13) (k1 0)) (k1 0))) (k1 9)) (cond_ t26.2.1 (cond_ (t26.2.2.2.2.1 == (-1)) (k1 13) (k1 0)) (k1 0))))))))))) (Yg n1 0 t0 (getD t0.1 (toNat n1) ZSym)
 (fun n27 => (k1 n27))
 (fun n28 t29 t2a => (cond_ (t2a.2.2.1 == 2) (Yh n28 (length t29.2.2.1 : Int) 0 0 t29 t2a
 (fun n2b n2c t2d => (cond_ (t2d.2.2.2.2.1 != (-1)) (cond_ (! (t2d.2.2.2.2.1 != n2c)) (cond_ (decide (t2d.2.2.2.2.1 ≥ n2b)) (k1 9) (cond_ t2d.2.1 (cond_ (t2d.2.2.2.2.1 == (-1)) (k1 13) (k1 0)) (k1 0))) (k1 9)) (cond_ t2d.2.1 (cond_ (t2d.2.2.2.2.1 == (-1)) (k1 13) (k1 0)) (k1 0))))) (Yh n28 (length t29.2.1 : Int) 0 0 t29 t2a
 (fun n2e n2f t2g => (cond_ (t2g.2.2.2.2.1 != (-1)) (cond_ (! (t2g.2.2.2.2.1 != n2f)) (cond_ (decide (t2g.2.2.2.2.1 ≥ n2e)) (k1 9) (cond_ t2g.2.1 (cond_ (t2g.2.2.2.2.1 == (-1)) (k1 13) (k1 0)) (k1 0))) (k1 9)) (cond_ t2g.2.1 (cond_ (t2g.2.2.2.2.1 == (-1)) (k1 13) (k1 0)) (k1 0)))))))))))))) none)
noncomputable def Yi : T_Yi := Yi.body Ya Yb Yf (Yg ROUNDS) (Yh ROUNDS)
def Yi.p : FPat := fp 65 (pl (pd Ty29) (pl (pd (.int .i64)) pz)) pz
def Yi.g (F : T_Yi) (v : Yi.p.T) (k : KR) : OB := F v.1.1 v.1.2.1 (fun y0 => k (.d ⟨(.int .i64), y0⟩) [])
theorem Yi.eq (F0 : T_Ya) (F1 : T_Yb) (F2 : T_Yf) (L0 : T_Yg) (L1 : T_Yh) : ∀ v k, exF Tryz.f65 Yi.p [⟨Ya.p, Ya.g F0⟩, ⟨Yb.p, Yb.g F1⟩, ⟨Yf.p, Yf.g F2⟩] [] [⟨0, Yg.p, Yg.g L0⟩, ⟨2, Yh.p, Yh.g L1⟩] v k = Yi.g (Yi.body F0 F1 F2 L0 L1) v k := fun v k => by kernel_rfl
theorem Yi.ok : okF 4 Yi.p (Yi.g Yi) := fn2 (Yi.eq Ya Yb Yf (Yg ROUNDS) (Yh ROUNDS)) Tryz.func65 (by kernel_rfl) (.cons Ya.ok (.cons Yb.ok (.cons Yf.ok .nil))) [0, 2] (by kernel_rfl) (.cons Yg.ok (.cons Yh.ok .nil))
abbrev T_Yj : Type := Int → Tc21 → (Int → Int → OB) → (Tc21 → OB) → OB
noncomputable def Yj.body (Yj : T_Yj) (Yi : T_Yi) : T_Yj := fun n0 t1 k1 k2 =>
  (cond_ (decide (n0 < (length t1.1 : Int))) (Yi t1 n0
 (fun n2 => (cond_ (n2 != 0) (k1 n2 n0) (Yj (IntKind.wrap .i64 (n0 + 1)) t1 k1 k2)))) (k2 t1))
noncomputable def Yj : Nat → T_Yj
  | 0 => fun _ _ _ _ => none
  | n + 1 => Yj.body (Yj n) Yi
def Yj.p : LPat := lp 2 51 [1, 4] (ps (pq [1, 0] 0 0) (pl (pd (.int .i64)) pz)) (pl (po [1, 0] 87 3 (es Ty29 (pl eh pz))) pz)
def Yj.g (F : T_Yj) (v : Yj.p.T) (k : KE) : OB := F v.1.1 v.2.1.1 (fun y0 y1 => k .ret ⟨fillS 51 [2, 3] [(.d ⟨(.int .i64), y0⟩), (.d ⟨(.int .i64), y1⟩)], [], 2⟩) (fun y0 => k (.exit 0) ⟨fillS 51 [1] [(.ptr [1, 0] 0 0)], [([1, 0], ⟨87, 3, (.data Ty29 [y0])⟩)], 2⟩)
theorem Yj.step (S : T_Yj) (F0 : T_Yi) : ∀ v k, exR 39 Tryz.f39 0 Yj.p [⟨Yi.p, Yi.g F0⟩] [] [] (Yj.g S) v k = Yj.g (Yj.body S F0) v k := fun v k => by kernel_rfl
theorem Yj.ok : okL 39 Tryz.f39 4 0 Yj.p (Yj.g (Yj ROUNDS)) := loop2 (G := fun n => Yj.g (Yj n)) (fun n => Yj.step (Yj n) Yi) (.cons Yi.ok .nil) [] (by kernel_rfl) .nil (fun _ _ => rfl)
abbrev T_Yk : Type := Tc21 → (Int → OB) → OB
noncomputable def Yk.body : T_Yk := fun t0 k1 =>
  (k1 (IntKind.wrap .i64 ((length t0.2.1 : Int) + (length t0.2.2.1 : Int))))
noncomputable def Yk : T_Yk := Yk.body
def Yk.p : FPat := fp 66 (pl (pd Ty29) pz) pz
def Yk.g (F : T_Yk) (v : Yk.p.T) (k : KR) : OB := F v.1.1 (fun y0 => k (.d ⟨(.int .i64), y0⟩) [])
theorem Yk.eq : ∀ v k, exF Tryz.f66 Yk.p [] [] [] v k = Yk.g (Yk.body) v k := fun v k => by kernel_rfl
theorem Yk.ok : okF 1 Yk.p (Yk.g Yk) := fn2 (Yk.eq) Tryz.func66 (by kernel_rfl) .nil [] (by kernel_rfl) .nil
abbrev T_Yl : Type := Tc21 → Tc7 → Int → (Bool → OB) → OB
noncomputable def Yl.body (Yk : T_Yk) : T_Yl := fun t0 t1 n2 k1 =>
  (cond_ (! (decide (n2 < 0))) (Yk t0
 (fun n3 => (cond_ (decide (n2 ≥ n3)) (k1 false) (cond_ (decide (n2 < (length t0.2.1 : Int))) (cond_ (t1.2.2.1 == 1) (k1 (t1.2.2.2.2.1 == n2)) (k1 false)) (cond_ (t1.2.2.1 == 2) (k1 (t1.2.2.2.2.1 == (IntKind.wrap .i64 (n2 - (length t0.2.1 : Int))))) (k1 false)))))) (k1 false))
noncomputable def Yl : T_Yl := Yl.body Yk
def Yl.p : FPat := fp 123 (pl (pd Ty29) (pl (pd Ty12) (pl (pd (.int .i64)) pz))) pz
def Yl.g (F : T_Yl) (v : Yl.p.T) (k : KR) : OB := F v.1.1 v.1.2.1 v.1.2.2.1 (fun y0 => k (.d ⟨.bool, y0⟩) [])
theorem Yl.eq (F0 : T_Yk) : ∀ v k, exF Tryz.f123 Yl.p [⟨Yk.p, Yk.g F0⟩] [] [] v k = Yl.g (Yl.body F0) v k := fun v k => by kernel_rfl
theorem Yl.ok : okF 2 Yl.p (Yl.g Yl) := fn2 (Yl.eq Yk) Tryz.func123 (by kernel_rfl) (.cons Yk.ok .nil) [] (by kernel_rfl) .nil
abbrev T_Ym : Type := Int → Int → Tc21 → (Int → OB) → (OB) → OB
noncomputable def Ym.body (Ym : T_Ym) (Yl : T_Yl) : T_Ym := fun n0 n1 t2 k1 k2 =>
  (cond_ (decide (n1 < (length t2.1 : Int))) (cond_ ((decide (0 ≤ n1)) && (decide (n1 < (length t2.1 : Int)))) (Yl t2 (getD t2.1 (toNat n1) ZSym) n0
 (fun b3 => (cond_ b3 (k1 n1) (Ym n0 (IntKind.wrap .i64 (n1 + 1)) t2 k1 k2)))) none) (k2))
noncomputable def Ym : Nat → T_Ym
  | 0 => fun _ _ _ _ _ => none
  | n + 1 => Ym.body (Ym n) Yl
def Ym.p : LPat := lp 2 22 [1, 2, 5] (pl (pd (.int .i64)) (ps (pq [1, 0] 0 0) (pl (pd (.int .i64)) pz))) (pl (po [1, 0] 87 3 (es Ty29 (pl eh pz))) pz)
def Ym.g (F : T_Ym) (v : Ym.p.T) (k : KE) : OB := F v.1.1 v.1.2.1 v.2.1.1 (fun y0 => k .ret ⟨fillS 22 [4] [(.d ⟨(.int .i64), y0⟩)], [], 2⟩) (k (.exit 0) ⟨fillS 22 [] [], [], 2⟩)
theorem Ym.step (S : T_Ym) (F0 : T_Yl) : ∀ v k, exR 110 Tryz.f110 0 Ym.p [⟨Yl.p, Yl.g F0⟩] [] [] (Ym.g S) v k = Ym.g (Ym.body S F0) v k := fun v k => by kernel_rfl
theorem Ym.ok : okL 110 Tryz.f110 2 0 Ym.p (Ym.g (Ym ROUNDS)) := loop2 (G := fun n => Ym.g (Ym n)) (fun n => Ym.step (Ym n) Yl) (.cons Yl.ok .nil) [] (by kernel_rfl) .nil (fun _ _ => rfl)
abbrev T_Yn : Type := Tc21 → Int → (Int → OB) → OB
noncomputable def Yn.body (Ym : T_Ym) : T_Yn := fun t0 n1 k1 =>
  (Ym n1 0 t0
 (fun n2 => (k1 n2))
  (k1 (-1)))
noncomputable def Yn : T_Yn := Yn.body (Ym ROUNDS)
def Yn.p : FPat := fp 110 (pl (pd Ty29) (pl (pd (.int .i64)) pz)) pz
def Yn.g (F : T_Yn) (v : Yn.p.T) (k : KR) : OB := F v.1.1 v.1.2.1 (fun y0 => k (.d ⟨(.int .i64), y0⟩) [])
theorem Yn.eq (L0 : T_Ym) : ∀ v k, exF Tryz.f110 Yn.p [] [] [⟨0, Ym.p, Ym.g L0⟩] v k = Yn.g (Yn.body L0) v k := fun v k => by kernel_rfl
theorem Yn.ok : okF 3 Yn.p (Yn.g Yn) := fn2 (Yn.eq (Ym ROUNDS)) Tryz.func110 (by kernel_rfl) .nil [0] (by kernel_rfl) (.cons Ym.ok .nil)
abbrev T_Yo : Type := Tc11 → Int → Tc12 → (Int → OB) → (Tc11 → Tc12 → OB) → OB
noncomputable def Yo.body (Yo : T_Yo) : T_Yo := fun t0 n1 t2 k1 k2 =>
  (cond_ (decide (n1 < (length t2.2.1 : Int))) (cond_ (t2.1 != 0) (cond_ ((decide (0 ≤ n1)) && (decide (n1 < (length t2.2.1 : Int)))) (cond_ ((getD t2.2.1 (toNat n1) 0) != 0) (k1 2) (Yo t0 (IntKind.wrap .i64 (n1 + 1)) t2 k1 k2)) none) (Yo t0 (IntKind.wrap .i64 (n1 + 1)) t2 k1 k2)) (k2 t0 t2))
noncomputable def Yo : Nat → T_Yo
  | 0 => fun _ _ _ _ _ => none
  | n + 1 => Yo.body (Yo n)
def Yo.p : LPat := lp 2 109 [1, 2, 5] (pl (pb 0 94 Ty12) (ps (pq [1, 0] 0 0) (pl (pd (.int .i64)) pz))) (pl (po [1, 0] 104 3 (es Ty19 (pl eh pz))) pz)
def Yo.g (F : T_Yo) (v : Yo.p.T) (k : KE) : OB := F v.1.1 v.1.2.1 v.2.1.1 (fun y0 => k .ret ⟨fillS 109 [4] [(.d ⟨(.int .i64), y0⟩)], [], 2⟩) (fun y0 y1 => k (.exit 0) ⟨fillS 109 [1, 2] [(.bv 0 94 Ty12 y0), (.ptr [1, 0] 0 0)], [([1, 0], ⟨104, 3, (.data Ty19 [y1])⟩)], 2⟩)
theorem Yo.step (S : T_Yo) : ∀ v k, exR 111 Tryz.f111 0 Yo.p [] [] [] (Yo.g S) v k = Yo.g (Yo.body S) v k := fun v k => by kernel_rfl
theorem Yo.ok : okL 111 Tryz.f111 0 0 Yo.p (Yo.g (Yo ROUNDS)) := loop2 (G := fun n => Yo.g (Yo n)) (fun n => Yo.step (Yo n)) .nil [] (by kernel_rfl) .nil (fun _ _ => rfl)
abbrev T_Yp : Type := Tc11 → Int → Tc12 → (Int → OB) → (OB) → OB
noncomputable def Yp.body (Yp : T_Yp) : T_Yp := fun t0 n1 t2 k1 k2 =>
  (cond_ (decide (n1 < (length t2.2.2.1 : Int))) (cond_ ((decide (0 ≤ n1)) && (decide (n1 < (length t2.2.2.1 : Int)))) (cond_ (! (t2.1 == 0)) (cond_ (! (decide ((getD t2.2.2.1 (toNat n1) ZRel).1 < 0))) (cond_ (! (decide ((getD t2.2.2.1 (toNat n1) ZRel).1 ≥ (length t2.2.1 : Int)))) (cond_ (decide (n1 > 0)) (cond_ ((decide (0 ≤ (IntKind.wrap .i64 (n1 - 1)))) && (decide ((IntKind.wrap .i64 (n1 - 1)) < (length t2.2.2.1 : Int)))) (cond_ (! (decide ((getD t2.2.2.1 (toNat n1) ZRel).1 ≤ (getD t2.2.2.1 (toNat (IntKind.wrap .i64 (n1 - 1))) ZRel).1))) (cond_ (! (decide ((getD t2.2.2.1 (toNat n1) ZRel).2.1 < 0))) (cond_ (decide ((getD t2.2.2.1 (toNat n1) ZRel).2.1 ≥ (length t0 : Int))) (k1 11) (cond_ ((decide (0 ≤ (getD t2.2.2.1 (toNat n1) ZRel).2.1)) && (decide ((getD t2.2.2.1 (toNat n1) ZRel).2.1 < (length t0 : Int)))) (cond_ (! ((getD t0 (toNat (getD t2.2.2.1 (toNat n1) ZRel).2.1) ZSym).2.2.1 != 1)) (cond_ ((decide (0 ≤ (getD t2.2.2.1 (toNat n1) ZRel).2.1)) && (decide ((getD t2.2.2.1 (toNat n1) ZRel).2.1 < (length t0 : Int)))) (cond_ ((getD t0 (toNat (getD t2.2.2.1 (toNat n1) ZRel).2.1) ZSym).2.2.2.1 != (IntKind.wrap .i64 (t2.1 - 1))) (k1 8) (Yp t0 (IntKind.wrap .i64 (n1 + 1)) t2 k1 k2)) none) (k1 8)) none)) (k1 11)) (k1 11)) none) (cond_ (! (decide ((getD t2.2.2.1 (toNat n1) ZRel).2.1 < 0))) (cond_ (decide ((getD t2.2.2.1 (toNat n1) ZRel).2.1 ≥ (length t0 : Int))) (k1 11) (cond_ ((decide (0 ≤ (getD t2.2.2.1 (toNat n1) ZRel).2.1)) && (decide ((getD t2.2.2.1 (toNat n1) ZRel).2.1 < (length t0 : Int)))) (cond_ (! ((getD t0 (toNat (getD t2.2.2.1 (toNat n1) ZRel).2.1) ZSym).2.2.1 != 1)) (cond_ ((decide (0 ≤ (getD t2.2.2.1 (toNat n1) ZRel).2.1)) && (decide ((getD t2.2.2.1 (toNat n1) ZRel).2.1 < (length t0 : Int)))) (cond_ ((getD t0 (toNat (getD t2.2.2.1 (toNat n1) ZRel).2.1) ZSym).2.2.2.1 != (IntKind.wrap .i64 (t2.1 - 1))) (k1 8) (Yp t0 (IntKind.wrap .i64 (n1 + 1)) t2 k1 k2)) none) (k1 8)) none)) (k1 11))) (k1 11)) (k1 11)) (k1 11)) none) (k2))
noncomputable def Yp : Nat → T_Yp
  | 0 => fun _ _ _ _ _ => none
  | n + 1 => Yp.body (Yp n)
def Yp.p : LPat := lp 2 109 [1, 2, 6] (pl (pb 0 94 Ty12) (ps (pq [1, 0] 0 0) (pl (pd (.int .i64)) pz))) (pl (po [1, 0] 104 3 (es Ty19 (pl eh pz))) pz)
def Yp.g (F : T_Yp) (v : Yp.p.T) (k : KE) : OB := F v.1.1 v.1.2.1 v.2.1.1 (fun y0 => k .ret ⟨fillS 109 [4] [(.d ⟨(.int .i64), y0⟩)], [], 2⟩) (k (.exit 2) ⟨fillS 109 [] [], [], 2⟩)
theorem Yp.step (S : T_Yp) : ∀ v k, exR 111 Tryz.f111 2 Yp.p [] [] [] (Yp.g S) v k = Yp.g (Yp.body S) v k := fun v k => by kernel_rfl
theorem Yp.ok : okL 111 Tryz.f111 0 2 Yp.p (Yp.g (Yp ROUNDS)) := loop2 (G := fun n => Yp.g (Yp n)) (fun n => Yp.step (Yp n)) .nil [] (by kernel_rfl) .nil (fun _ _ => rfl)
abbrev T_Yq : Type := Tc12 → Tc11 → (Int → OB) → OB
noncomputable def Yq.body (Yf : T_Yf) (Yo : T_Yo) (Yp : T_Yp) : T_Yq := fun t0 t1 k1 =>
  (Yf t0.1
 (fun s2 => (cond_ ((ByteArray.toList s2) == (ByteArray.toList (⟨#[]⟩ : ByteArray))) (k1 8) (cond_ (decide ((length t0.2.1 : Int) > 32)) (k1 6) (Yo t1 0 t0
 (fun n3 => (k1 n3))
 (fun t4 t5 => (Yp t4 0 t5
 (fun n6 => (k1 n6))
  (k1 0))))))))
noncomputable def Yq : T_Yq := Yq.body Yf (Yo ROUNDS) (Yp ROUNDS)
def Yq.p : FPat := fp 111 (pl (pd Ty19) (pl (pb 0 94 Ty12) pz)) pz
def Yq.g (F : T_Yq) (v : Yq.p.T) (k : KR) : OB := F v.1.1 v.1.2.1 (fun y0 => k (.d ⟨(.int .i64), y0⟩) [])
theorem Yq.eq (F0 : T_Yf) (L0 : T_Yo) (L1 : T_Yp) : ∀ v k, exF Tryz.f111 Yq.p [⟨Yf.p, Yf.g F0⟩] [] [⟨0, Yo.p, Yo.g L0⟩, ⟨2, Yp.p, Yp.g L1⟩] v k = Yq.g (Yq.body F0 L0 L1) v k := fun v k => by kernel_rfl
theorem Yq.ok : okF 4 Yq.p (Yq.g Yq) := fn2 (Yq.eq Yf (Yo ROUNDS) (Yp ROUNDS)) Tryz.func111 (by kernel_rfl) (.cons Yf.ok .nil) [0, 2] (by kernel_rfl) (.cons Yo.ok (.cons Yp.ok .nil))
abbrev T_Yr : Type := Int → (Int → OB) → OB
noncomputable def Yr.body (Yb : T_Yb) : T_Yr := fun n0 k1 =>
  (Yb n0
 (fun b1 => (cond_ (! b1) (k1 0) (k1 (IntKind.wrap .i64 (Int.tdiv n0 2))))))
noncomputable def Yr : T_Yr := Yr.body Yb
def Yr.p : FPat := fp 47 (pl (pd (.int .i64)) pz) pz
def Yr.g (F : T_Yr) (v : Yr.p.T) (k : KR) : OB := F v.1.1 (fun y0 => k (.d ⟨(.int .i64), y0⟩) [])
theorem Yr.eq (F0 : T_Yb) : ∀ v k, exF Tryz.f47 Yr.p [⟨Yb.p, Yb.g F0⟩] [] [] v k = Yr.g (Yr.body F0) v k := fun v k => by kernel_rfl
theorem Yr.ok : okF 2 Yr.p (Yr.g Yr) := fn2 (Yr.eq Yb) Tryz.func47 (by kernel_rfl) (.cons Yb.ok .nil) [] (by kernel_rfl) .nil
abbrev T_Ys : Type := Int → Tc16 → (Int → OB) → (OB) → OB
noncomputable def Ys.body (Ys : T_Ys) (Yf : T_Yf) (Yr : T_Yr) : T_Ys := fun n0 t1 k1 k2 =>
  (cond_ (decide (n0 < (length t1.2.1 : Int))) (cond_ ((decide (0 ≤ n0)) && (decide (n0 < (length t1.2.1 : Int)))) (Yf (getD t1.2.1 (toNat n0) 0)
 (fun s2 => (cond_ (! ((ByteArray.toList s2) == (ByteArray.toList (⟨#[]⟩ : ByteArray)))) (Yr t1.1
 (fun n3 => (cond_ (decide (n0 < n3)) (cond_ ((decide (0 ≤ n0)) && (decide (n0 < (length t1.2.1 : Int)))) (cond_ ((getD t1.2.1 (toNat n0) 0) != 0) (k1 8) (Ys (IntKind.wrap .i64 (n0 + 1)) t1 k1 k2)) none) (Ys (IntKind.wrap .i64 (n0 + 1)) t1 k1 k2)))) (k1 8)))) none) (k2))
noncomputable def Ys : Nat → T_Ys
  | 0 => fun _ _ _ _ => none
  | n + 1 => Ys.body (Ys n) Yf Yr
def Ys.p : LPat := lp 2 48 [1, 3] (ps (pq [1, 0] 0 0) (pl (pd (.int .i64)) pz)) (pl (po [1, 0] 100 9 (es Ty24 (pl eh pz))) pz)
def Ys.g (F : T_Ys) (v : Ys.p.T) (k : KE) : OB := F v.1.1 v.2.1.1 (fun y0 => k .ret ⟨fillS 48 [2] [(.d ⟨(.int .i64), y0⟩)], [], 2⟩) (k (.exit 0) ⟨fillS 48 [] [], [], 2⟩)
theorem Ys.step (S : T_Ys) (F0 : T_Yf) (F1 : T_Yr) : ∀ v k, exR 129 Tryz.f129 0 Ys.p [⟨Yf.p, Yf.g F0⟩, ⟨Yr.p, Yr.g F1⟩] [] [] (Ys.g S) v k = Ys.g (Ys.body S F0 F1) v k := fun v k => by kernel_rfl
theorem Ys.ok : okL 129 Tryz.f129 3 0 Ys.p (Ys.g (Ys ROUNDS)) := loop2 (G := fun n => Ys.g (Ys n)) (fun n => Ys.step (Ys n) Yf Yr) (.cons Yf.ok (.cons Yr.ok .nil)) [] (by kernel_rfl) .nil (fun _ _ => rfl)
abbrev T_Yt : Type := Tc16 → (Int → OB) → OB
noncomputable def Yt.body (Yb : T_Yb) (Yr : T_Yr) (Ys : T_Ys) : T_Yt := fun t0 k1 =>
  (Yb t0.1
 (fun b1 => (cond_ (! b1) (k1 14) (cond_ (decide ((length t0.2.1 : Int) > 16)) (k1 6) (Yr t0.1
 (fun n2 => (cond_ (decide ((length t0.2.1 : Int) < n2)) (k1 2) (Ys 0 t0
 (fun n3 => (k1 n3))
  (k1 0)))))))))
noncomputable def Yt : T_Yt := Yt.body Yb Yr (Ys ROUNDS)
def Yt.p : FPat := fp 129 (pl (pd Ty24) pz) pz
def Yt.g (F : T_Yt) (v : Yt.p.T) (k : KR) : OB := F v.1.1 (fun y0 => k (.d ⟨(.int .i64), y0⟩) [])
theorem Yt.eq (F0 : T_Yb) (F1 : T_Yr) (L0 : T_Ys) : ∀ v k, exF Tryz.f129 Yt.p [⟨Yb.p, Yb.g F0⟩, ⟨Yr.p, Yr.g F1⟩] [] [⟨0, Ys.p, Ys.g L0⟩] v k = Yt.g (Yt.body F0 F1 L0) v k := fun v k => by kernel_rfl
theorem Yt.ok : okF 4 Yt.p (Yt.g Yt) := fn2 (Yt.eq Yb Yr (Ys ROUNDS)) Tryz.func129 (by kernel_rfl) (.cons Yb.ok (.cons Yr.ok .nil)) [0] (by kernel_rfl) (.cons Ys.ok .nil)
abbrev T_Yu : Type := ((List ByteArray) → OB) → OB
noncomputable def Yu.body : T_Yu := fun k1 =>
  (k1 [(⟨#[110, 111, 112]⟩ : ByteArray), (⟨#[115, 101, 116]⟩ : ByteArray), (⟨#[109, 111, 118, 101]⟩ : ByteArray), (⟨#[97, 100, 100]⟩ : ByteArray), (⟨#[115, 117, 98]⟩ : ByteArray), (⟨#[109, 117, 108]⟩ : ByteArray), (⟨#[100, 105, 118]⟩ : ByteArray), (⟨#[109, 111, 100]⟩ : ByteArray), (⟨#[108, 101, 115, 115]⟩ : ByteArray), (⟨#[115, 97, 109, 101]⟩ : ByteArray), (⟨#[106, 117, 109, 112]⟩ : ByteArray), (⟨#[122, 101, 114, 111]⟩ : ByteArray), (⟨#[105, 110]⟩ : ByteArray), (⟨#[111, 117, 116]⟩ : ByteArray), (⟨#[108, 111, 97, 100]⟩ : ByteArray), (⟨#[115, 116, 111, 114, 101]⟩ : ByteArray), (⟨#[102, 117, 110, 99]⟩ : ByteArray), (⟨#[112, 105, 99, 107]⟩ : ByteArray), (⟨#[99, 97, 108, 108]⟩ : ByteArray), (⟨#[118, 105, 97]⟩ : ByteArray), (⟨#[100, 101, 102, 101, 114]⟩ : ByteArray), (⟨#[112, 97, 110, 105, 99]⟩ : ByteArray), (⟨#[114, 101, 99, 111, 118, 101, 114]⟩ : ByteArray), (⟨#[114, 101, 116, 117, 114, 110]⟩ : ByteArray), (⟨#[99, 104, 101, 99, 107]⟩ : ByteArray), (⟨#[101, 110, 116, 101, 114]⟩ : ByteArray), (⟨#[98, 111, 116, 116, 111, 109]⟩ : ByteArray), (⟨#[100, 114, 105, 118, 101, 114]⟩ : ByteArray)])
noncomputable def Yu : T_Yu := Yu.body
def Yu.p : FPat := fp 128 pz pz
def Yu.g (F : T_Yu) (v : Yu.p.T) (k : KR) : OB := F (fun y0 => k (.ref [1, 0]) [([1, 0], ⟨9, 1, (.data .str y0)⟩)])
theorem Yu.eq : ∀ v k, exF Tryz.f128 Yu.p [] [] [] v k = Yu.g (Yu.body) v k := fun v k => by kernel_rfl
theorem Yu.ok : okF 1 Yu.p (Yu.g Yu) := fn2 (Yu.eq) Tryz.func128 (by kernel_rfl) .nil [] (by kernel_rfl) .nil
abbrev T_Yv : Type := Int → (ByteArray → OB) → OB
noncomputable def Yv.body (Yu : T_Yu) : T_Yv := fun n0 k1 =>
  (Yu
 (fun ss216 => (cond_ (! (decide (n0 < 1))) (cond_ (decide (n0 > (length ss216 : Int))) (k1 (⟨#[]⟩ : ByteArray)) (cond_ ((decide (0 ≤ (IntKind.wrap .i64 (n0 - 1)))) && (decide ((IntKind.wrap .i64 (n0 - 1)) < (length ss216 : Int)))) (k1 (getD ss216 (toNat (IntKind.wrap .i64 (n0 - 1))) (⟨#[]⟩ : ByteArray))) none)) (k1 (⟨#[]⟩ : ByteArray)))))
noncomputable def Yv : T_Yv := Yv.body Yu
def Yv.p : FPat := fp 115 (pl (pd (.int .i64)) pz) pz
def Yv.g (F : T_Yv) (v : Yv.p.T) (k : KR) : OB := F v.1.1 (fun y0 => k (.d ⟨.str, y0⟩) [])
theorem Yv.eq (F0 : T_Yu) : ∀ v k, exF Tryz.f115 Yv.p [⟨Yu.p, Yu.g F0⟩] [] [] v k = Yv.g (Yv.body F0) v k := fun v k => by kernel_rfl
theorem Yv.ok : okF 2 Yv.p (Yv.g Yv) := fn2 (Yv.eq Yu) Tryz.func115 (by kernel_rfl) (.cons Yu.ok .nil) [] (by kernel_rfl) .nil
abbrev T_Yw : Type := Int → (Bool → OB) → OB
noncomputable def Yw.body (Yv : T_Yv) : T_Yw := fun n0 k1 =>
  (Yv n0
 (fun s1 => (cond_ (! ((ByteArray.toList s1) == (ByteArray.toList (⟨#[106, 117, 109, 112]⟩ : ByteArray)))) (Yv n0
 (fun s2 => (cond_ (! ((ByteArray.toList s2) == (ByteArray.toList (⟨#[112, 97, 110, 105, 99]⟩ : ByteArray)))) (Yv n0
 (fun s3 => (k1 ((ByteArray.toList s3) == (ByteArray.toList (⟨#[114, 101, 116, 117, 114, 110]⟩ : ByteArray)))))) (k1 true)))) (k1 true))))
noncomputable def Yw : T_Yw := Yw.body Yv
def Yw.p : FPat := fp 148 (pl (pd (.int .i64)) pz) pz
def Yw.g (F : T_Yw) (v : Yw.p.T) (k : KR) : OB := F v.1.1 (fun y0 => k (.d ⟨.bool, y0⟩) [])
theorem Yw.eq (F0 : T_Yv) : ∀ v k, exF Tryz.f148 Yw.p [⟨Yv.p, Yv.g F0⟩] [] [] v k = Yw.g (Yw.body F0) v k := fun v k => by kernel_rfl
theorem Yw.ok : okF 3 Yw.p (Yw.g Yw) := fn2 (Yw.eq Yv) Tryz.func148 (by kernel_rfl) (.cons Yv.ok .nil) [] (by kernel_rfl) .nil
abbrev T_Yx : Type := Tc8 → Int → ((List Int) → OB) → OB
noncomputable def Yx.body (Yw : T_Yw) : T_Yx := fun t0 n1 k1 =>
  (cond_ (! (decide (n1 < 0))) (cond_ (decide (n1 ≥ (length t0 : Int))) (k1 []) (cond_ ((decide (0 ≤ n1)) && (decide (n1 < (length t0 : Int)))) (cond_ ((getD t0 (toNat n1) ZIns).1 == 11) (k1 [(getD t0 (toNat n1) ZIns).2.2.2.2.1]) (Yw (getD t0 (toNat n1) ZIns).1
 (fun b2 => (cond_ b2 (k1 []) (cond_ (! ((getD t0 (toNat n1) ZIns).1 != 12)) (cond_ ((getD t0 (toNat n1) ZIns).2.2.2.2.1 == (IntKind.wrap .i64 (n1 + 1))) (k1 [(IntKind.wrap .i64 (n1 + 1))]) (cond_ (decide ((getD t0 (toNat n1) ZIns).2.2.2.2.1 < (IntKind.wrap .i64 (n1 + 1)))) (k1 [(getD t0 (toNat n1) ZIns).2.2.2.2.1, (IntKind.wrap .i64 (n1 + 1))]) (k1 [(IntKind.wrap .i64 (n1 + 1)), (getD t0 (toNat n1) ZIns).2.2.2.2.1]))) (k1 [(IntKind.wrap .i64 (n1 + 1))])))))) none)) (k1 []))
noncomputable def Yx : T_Yx := Yx.body Yw
def Yx.p : FPat := fp 137 (pl (pb 0 69 Ty15) (pl (pd (.int .i64)) pz)) pz
def Yx.g (F : T_Yx) (v : Yx.p.T) (k : KR) : OB := F v.1.1 v.1.2.1 (fun y0 => k (.ref [1, 0]) [([1, 0], ⟨3, 1, (.data (.int .i64) y0)⟩)])
theorem Yx.eq (F0 : T_Yw) : ∀ v k, exF Tryz.f137 Yx.p [⟨Yw.p, Yw.g F0⟩] [] [] v k = Yx.g (Yx.body F0) v k := fun v k => by kernel_rfl
theorem Yx.ok : okF 4 Yx.p (Yx.g Yx) := fn2 (Yx.eq Yw) Tryz.func137 (by kernel_rfl) (.cons Yw.ok .nil) [] (by kernel_rfl) .nil
abbrev T_Yy : Type := Tc8 → Int → Int → (List Int) → (Int → OB) → (Tc8 → Int → OB) → OB
noncomputable def Yy.body (Yy : T_Yy) : T_Yy := fun t0 n1 n2 n3 k1 k2 =>
  (cond_ (decide (n2 < (length n3 : Int))) (cond_ ((decide (0 ≤ n2)) && (decide (n2 < (length n3 : Int)))) (cond_ (! (decide ((getD n3 (toNat n2) 0) < 0))) (cond_ ((decide (0 ≤ n2)) && (decide (n2 < (length n3 : Int)))) (cond_ (decide ((getD n3 (toNat n2) 0) ≥ (length t0 : Int))) (k1 10) (Yy t0 n1 (IntKind.wrap .i64 (n2 + 1)) n3 k1 k2)) none) (k1 10)) none) (k2 t0 n1))
noncomputable def Yy : Nat → T_Yy
  | 0 => fun _ _ _ _ _ _ => none
  | n + 1 => Yy.body (Yy n)
def Yy.p : LPat := lp 2 41 [0, 3, 4, 5] (pl (pb 0 69 Ty15) (pl (pd (.int .i64)) (ps (pr [1, 0]) (pl (pd (.int .i64)) pz)))) (pl (po [1, 0] 3 1 (ed (.int .i64))) pz)
def Yy.g (F : T_Yy) (v : Yy.p.T) (k : KE) : OB := F v.1.1 v.1.2.1 v.1.2.2.1 v.2.1 (fun y0 => k .ret ⟨fillS 41 [2] [(.d ⟨(.int .i64), y0⟩)], [], 2⟩) (fun y0 y1 => k (.exit 2) ⟨fillS 41 [0, 3] [(.bv 0 69 Ty15 y0), (.d ⟨(.int .i64), y1⟩)], [], 2⟩)
theorem Yy.step (S : T_Yy) : ∀ v k, exR 140 Tryz.f140 2 Yy.p [] [] [] (Yy.g S) v k = Yy.g (Yy.body S) v k := fun v k => by kernel_rfl
theorem Yy.ok : okL 140 Tryz.f140 0 2 Yy.p (Yy.g (Yy ROUNDS)) := loop2 (G := fun n => Yy.g (Yy n)) (fun n => Yy.step (Yy n)) .nil [] (by kernel_rfl) .nil (fun _ _ => rfl)
abbrev T_Yz : Type := Tc8 → Int → (Int → OB) → (OB) → OB
noncomputable def Yz.body (Yz : T_Yz) (Yx : T_Yx) (Yy : T_Yy) : T_Yz := fun t0 n1 k1 k2 =>
  (cond_ (decide (n1 < (length t0 : Int))) (Yx t0 n1
 (fun n2 => (Yy t0 n1 0 n2
 (fun n3 => (k1 n3))
 (fun t4 n5 => (Yz t4 (IntKind.wrap .i64 (n5 + 1)) k1 k2))))) (k2))
noncomputable def Yz : Nat → T_Yz
  | 0 => fun _ _ _ _ => none
  | n + 1 => Yz.body (Yz n) Yx (Yy ROUNDS)
def Yz.p : LPat := lp 2 41 [0, 3] (pl (pb 0 69 Ty15) (pl (pd (.int .i64)) pz)) pz
def Yz.g (F : T_Yz) (v : Yz.p.T) (k : KE) : OB := F v.1.1 v.1.2.1 (fun y0 => k .ret ⟨fillS 41 [2] [(.d ⟨(.int .i64), y0⟩)], [], 2⟩) (k (.exit 0) ⟨fillS 41 [] [], [], 2⟩)
theorem Yz.step (S : T_Yz) (F0 : T_Yx) (L0 : T_Yy) : ∀ v k, exR 140 Tryz.f140 0 Yz.p [⟨Yx.p, Yx.g F0⟩] [] [⟨2, Yy.p, Yy.g L0⟩] (Yz.g S) v k = Yz.g (Yz.body S F0 L0) v k := fun v k => by kernel_rfl
theorem Yz.ok : okL 140 Tryz.f140 4 0 Yz.p (Yz.g (Yz ROUNDS)) := loop2 (G := fun n => Yz.g (Yz n)) (fun n => Yz.step (Yz n) Yx (Yy ROUNDS)) (.cons Yx.ok .nil) [2] (by kernel_rfl) (.cons Yy.ok .nil) (fun _ _ => rfl)
abbrev T_Y10 : Type := Tc8 → (Int → OB) → OB
noncomputable def Y10.body (Yz : T_Yz) : T_Y10 := fun t0 k1 =>
  (cond_ ((length t0 : Int) == 0) (k1 3) (cond_ (decide ((length t0 : Int) > 64)) (k1 6) (Yz t0 0
 (fun n1 => (k1 n1))
  (k1 0))))
noncomputable def Y10 : T_Y10 := Y10.body (Yz ROUNDS)
def Y10.p : FPat := fp 140 (pl (pb 0 69 Ty15) pz) pz
def Y10.g (F : T_Y10) (v : Y10.p.T) (k : KR) : OB := F v.1.1 (fun y0 => k (.d ⟨(.int .i64), y0⟩) [])
theorem Y10.eq (L0 : T_Yz) : ∀ v k, exF Tryz.f140 Y10.p [] [] [⟨0, Yz.p, Yz.g L0⟩] v k = Y10.g (Y10.body L0) v k := fun v k => by kernel_rfl
theorem Y10.ok : okF 5 Y10.p (Y10.g Y10) := fn2 (Y10.eq (Yz ROUNDS)) Tryz.func140 (by kernel_rfl) .nil [0] (by kernel_rfl) (.cons Yz.ok .nil)
abbrev T_Y11 : Type := Tc3 → Int → (Int → OB) → OB
noncomputable def Y11.body : T_Y11 := fun t0 n1 k1 =>
  (cond_ (n1 == 0) (k1 t0.2.1) (cond_ (n1 == 1) (k1 t0.2.2.1) (cond_ (n1 == 2) (k1 t0.2.2.2.1) (cond_ (n1 == 3) (k1 t0.2.2.2.2.1) (k1 0)))))
noncomputable def Y11 : T_Y11 := Y11.body
def Y11.p : FPat := fp 136 (pl (pd Ty15) (pl (pd (.int .i64)) pz)) pz
def Y11.g (F : T_Y11) (v : Y11.p.T) (k : KR) : OB := F v.1.1 v.1.2.1 (fun y0 => k (.d ⟨(.int .i64), y0⟩) [])
theorem Y11.eq : ∀ v k, exF Tryz.f136 Y11.p [] [] [] v k = Y11.g (Y11.body) v k := fun v k => by kernel_rfl
theorem Y11.ok : okF 1 Y11.p (Y11.g Y11) := fn2 (Y11.eq) Tryz.func136 (by kernel_rfl) .nil [] (by kernel_rfl) .nil
abbrev T_Y12 : Type := Int → Tc3 → (Int → OB) → (Tc3 → OB) → OB
noncomputable def Y12.body (Y12 : T_Y12) (Y11 : T_Y11) : T_Y12 := fun n0 t1 k1 k2 =>
  (cond_ (decide (n0 < 3)) (Y11 t1 n0
 (fun n2 => (cond_ (! (decide (n2 < 0))) (Y11 t1 n0
 (fun n3 => (cond_ (decide (n3 > 255)) (k1 9) (Y12 (IntKind.wrap .i64 (n0 + 1)) t1 k1 k2)))) (k1 9)))) (k2 t1))
noncomputable def Y12 : Nat → T_Y12
  | 0 => fun _ _ _ _ => none
  | n + 1 => Y12.body (Y12 n) Y11
def Y12.p : LPat := lp 2 51 [1, 3] (ps (pq [1, 0] 0 0) (pl (pd (.int .i64)) pz)) (pl (po [1, 0] 69 5 (es Ty15 (pl eh pz))) pz)
def Y12.g (F : T_Y12) (v : Y12.p.T) (k : KE) : OB := F v.1.1 v.2.1.1 (fun y0 => k .ret ⟨fillS 51 [2] [(.d ⟨(.int .i64), y0⟩)], [], 2⟩) (fun y0 => k (.exit 0) ⟨fillS 51 [1] [(.ptr [1, 0] 0 0)], [([1, 0], ⟨69, 5, (.data Ty15 [y0])⟩)], 2⟩)
theorem Y12.step (S : T_Y12) (F0 : T_Y11) : ∀ v k, exR 141 Tryz.f141 0 Y12.p [⟨Y11.p, Y11.g F0⟩] [] [] (Y12.g S) v k = Y12.g (Y12.body S F0) v k := fun v k => by kernel_rfl
theorem Y12.ok : okL 141 Tryz.f141 1 0 Y12.p (Y12.g (Y12 ROUNDS)) := loop2 (G := fun n => Y12.g (Y12 n)) (fun n => Y12.step (Y12 n) Y11) (.cons Y11.ok .nil) [] (by kernel_rfl) .nil (fun _ _ => rfl)
abbrev T_Y13 : Type := Int → (ByteArray → OB) → OB
noncomputable def Y13.body (Yv : T_Yv) : T_Y13 := fun n0 k1 =>
  (cond_ (decide (n0 ≥ 4)) (cond_ (decide (n0 ≤ 10)) (k1 (⟨#[119, 114, 114, 45]⟩ : ByteArray)) (Yv n0
 (fun s1 => (cond_ ((ByteArray.toList s1) == (ByteArray.toList (⟨#[110, 111, 112]⟩ : ByteArray))) (k1 (⟨#[45, 45, 45, 45]⟩ : ByteArray)) (cond_ ((ByteArray.toList s1) == (ByteArray.toList (⟨#[115, 101, 116]⟩ : ByteArray))) (k1 (⟨#[119, 45, 45, 110]⟩ : ByteArray)) (cond_ ((ByteArray.toList s1) == (ByteArray.toList (⟨#[109, 111, 118, 101]⟩ : ByteArray))) (cond_ ((ByteArray.toList s1) == (ByteArray.toList (⟨#[109, 111, 118, 101]⟩ : ByteArray))) (k1 (⟨#[119, 114, 45, 45]⟩ : ByteArray)) (cond_ ((ByteArray.toList s1) == (ByteArray.toList (⟨#[106, 117, 109, 112]⟩ : ByteArray))) (k1 (⟨#[45, 45, 45, 116]⟩ : ByteArray)) (cond_ ((ByteArray.toList s1) == (ByteArray.toList (⟨#[122, 101, 114, 111]⟩ : ByteArray))) (k1 (⟨#[114, 45, 45, 116]⟩ : ByteArray)) (cond_ ((ByteArray.toList s1) == (ByteArray.toList (⟨#[105, 110]⟩ : ByteArray))) (k1 (⟨#[119, 45, 45, 45]⟩ : ByteArray)) (cond_ ((ByteArray.toList s1) == (ByteArray.toList (⟨#[111, 117, 116]⟩ : ByteArray))) (cond_ ((ByteArray.toList s1) == (ByteArray.toList (⟨#[111, 117, 116]⟩ : ByteArray))) (k1 (⟨#[114, 45, 45, 45]⟩ : ByteArray)) (cond_ ((ByteArray.toList s1) == (ByteArray.toList (⟨#[115, 116, 111, 114, 101]⟩ : ByteArray))) (k1 (⟨#[114, 114, 45, 45]⟩ : ByteArray)) (cond_ ((ByteArray.toList s1) == (ByteArray.toList (⟨#[102, 117, 110, 99]⟩ : ByteArray))) (k1 (⟨#[103, 45, 45, 45]⟩ : ByteArray)) (cond_ ((ByteArray.toList s1) == (ByteArray.toList (⟨#[112, 105, 99, 107]⟩ : ByteArray))) (k1 (⟨#[103, 114, 45, 45]⟩ : ByteArray)) (cond_ ((ByteArray.toList s1) == (ByteArray.toList (⟨#[99, 97, 108, 108]⟩ : ByteArray))) (k1 (⟨#[99, 45, 45, 45]⟩ : ByteArray)) (cond_ ((ByteArray.toList s1) == (ByteArray.toList (⟨#[118, 105, 97]⟩ : ByteArray))) (k1 (⟨#[99, 102, 107, 45]⟩ : ByteArray)) (cond_ ((ByteArray.toList s1) == (ByteArray.toList (⟨#[100, 101, 102, 101, 114]⟩ : ByteArray))) (k1 (⟨#[100, 45, 45, 45]⟩ : ByteArray)) (cond_ ((ByteArray.toList s1) == (ByteArray.toList (⟨#[114, 101, 99, 111, 118, 101, 114]⟩ : ByteArray))) (k1 (⟨#[119, 119, 45, 45]⟩ : ByteArray)) (cond_ ((ByteArray.toList s1) == (ByteArray.toList (⟨#[114, 101, 116, 117, 114, 110]⟩ : ByteArray))) (k1 (⟨#[118, 45, 45, 45]⟩ : ByteArray)) (k1 (⟨#[]⟩ : ByteArray))))))))))) (cond_ ((ByteArray.toList s1) == (ByteArray.toList (⟨#[112, 97, 110, 105, 99]⟩ : ByteArray))) (k1 (⟨#[114, 45, 45, 45]⟩ : ByteArray)) (cond_ ((ByteArray.toList s1) == (ByteArray.toList (⟨#[115, 116, 111, 114, 101]⟩ : ByteArray))) (k1 (⟨#[114, 114, 45, 45]⟩ : ByteArray)) (cond_ ((ByteArray.toList s1) == (ByteArray.toList (⟨#[102, 117, 110, 99]⟩ : ByteArray))) (k1 (⟨#[103, 45, 45, 45]⟩ : ByteArray)) (cond_ ((ByteArray.toList s1) == (ByteArray.toList (⟨#[112, 105, 99, 107]⟩ : ByteArray))) (k1 (⟨#[103, 114, 45, 45]⟩ : ByteArray)) (cond_ ((ByteArray.toList s1) == (ByteArray.toList (⟨#[99, 97, 108, 108]⟩ : ByteArray))) (k1 (⟨#[99, 45, 45, 45]⟩ : ByteArray)) (cond_ ((ByteArray.toList s1) == (ByteArray.toList (⟨#[118, 105, 97]⟩ : ByteArray))) (k1 (⟨#[99, 102, 107, 45]⟩ : ByteArray)) (cond_ ((ByteArray.toList s1) == (ByteArray.toList (⟨#[100, 101, 102, 101, 114]⟩ : ByteArray))) (k1 (⟨#[100, 45, 45, 45]⟩ : ByteArray)) (cond_ ((ByteArray.toList s1) == (ByteArray.toList (⟨#[114, 101, 99, 111, 118, 101, 114]⟩ : ByteArray))) (k1 (⟨#[119, 119, 45, 45]⟩ : ByteArray)) (cond_ ((ByteArray.toList s1) == (ByteArray.toList (⟨#[114, 101, 116, 117, 114, 110]⟩ : ByteArray))) (k1 (⟨#[118, 45, 45, 45]⟩ : ByteArray)) (k1 (⟨#[]⟩ : ByteArray)))))))))))))))) (cond_ ((ByteArray.toList s1) == (ByteArray.toList (⟨#[108, 111, 97, 100]⟩ : ByteArray))) (k1 (⟨#[119, 114, 45, 45]⟩ : ByteArray)) (cond_ ((ByteArray.toList s1) == (ByteArray.toList (⟨#[106, 117, 109, 112]⟩ : ByteArray))) (k1 (⟨#[45, 45, 45, 116]⟩ : ByteArray)) (cond_ ((ByteArray.toList s1) == (ByteArray.toList (⟨#[122, 101, 114, 111]⟩ : ByteArray))) (k1 (⟨#[114, 45, 45, 116]⟩ : ByteArray)) (cond_ ((ByteArray.toList s1) == (ByteArray.toList (⟨#[105, 110]⟩ : ByteArray))) (k1 (⟨#[119, 45, 45, 45]⟩ : ByteArray)) (cond_ ((ByteArray.toList s1) == (ByteArray.toList (⟨#[111, 117, 116]⟩ : ByteArray))) (cond_ ((ByteArray.toList s1) == (ByteArray.toList (⟨#[111, 117, 116]⟩ : ByteArray))) (k1 (⟨#[114, 45, 45, 45]⟩ : ByteArray)) (cond_ ((ByteArray.toList s1) == (ByteArray.toList (⟨#[115, 116, 111, 114, 101]⟩ : ByteArray))) (k1 (⟨#[114, 114, 45, 45]⟩ : ByteArray)) (cond_ ((ByteArray.toList s1) == (ByteArray.toList (⟨#[102, 117, 110, 99]⟩ : ByteArray))) (k1 (⟨#[103, 45, 45, 45]⟩ : ByteArray)) (cond_ ((ByteArray.toList s1) == (ByteArray.toList (⟨#[112, 105, 99, 107]⟩ : ByteArray))) (k1 (⟨#[103, 114, 45, 45]⟩ : ByteArray)) (cond_ ((ByteArray.toList s1) == (ByteArray.toList (⟨#[99, 97, 108, 108]⟩ : ByteArray))) (k1 (⟨#[99, 45, 45, 45]⟩ : ByteArray)) (cond_ ((ByteArray.toList s1) == (ByteArray.toList (⟨#[118, 105, 97]⟩ : ByteArray))) (k1 (⟨#[99, 102, 107, 45]⟩ : ByteArray)) (cond_ ((ByteArray.toList s1) == (ByteArray.toList (⟨#[100, 101, 102, 101, 114]⟩ : ByteArray))) (k1 (⟨#[100, 45, 45, 45]⟩ : ByteArray)) (cond_ ((ByteArray.toList s1) == (ByteArray.toList (⟨#[114, 101, 99, 111, 118, 101, 114]⟩ : ByteArray))) (k1 (⟨#[119, 119, 45, 45]⟩ : ByteArray)) (cond_ ((ByteArray.toList s1) == (ByteArray.toList (⟨#[114, 101, 116, 117, 114, 110]⟩ : ByteArray))) (k1 (⟨#[118, 45, 45, 45]⟩ : ByteArray)) (k1 (⟨#[]⟩ : ByteArray))))))))))) (cond_ ((ByteArray.toList s1) == (ByteArray.toList (⟨#[112, 97, 110, 105, 99]⟩ : ByteArray))) (k1 (⟨#[114, 45, 45, 45]⟩ : ByteArray)) (cond_ ((ByteArray.toList s1) == (ByteArray.toList (⟨#[115, 116, 111, 114, 101]⟩ : ByteArray))) (k1 (⟨#[114, 114, 45, 45]⟩ : ByteArray)) (cond_ ((ByteArray.toList s1) == (ByteArray.toList (⟨#[102, 117, 110, 99]⟩ : ByteArray))) (k1 (⟨#[103, 45, 45, 45]⟩ : ByteArray)) (cond_ ((ByteArray.toList s1) == (ByteArray.toList (⟨#[112, 105, 99, 107]⟩ : ByteArray))) (k1 (⟨#[103, 114, 45, 45]⟩ : ByteArray)) (cond_ ((ByteArray.toList s1) == (ByteArray.toList (⟨#[99, 97, 108, 108]⟩ : ByteArray))) (k1 (⟨#[99, 45, 45, 45]⟩ : ByteArray)) (cond_ ((ByteArray.toList s1) == (ByteArray.toList (⟨#[118, 105, 97]⟩ : ByteArray))) (k1 (⟨#[99, 102, 107, 45]⟩ : ByteArray)) (cond_ ((ByteArray.toList s1) == (ByteArray.toList (⟨#[100, 101, 102, 101, 114]⟩ : ByteArray))) (k1 (⟨#[100, 45, 45, 45]⟩ : ByteArray)) (cond_ ((ByteArray.toList s1) == (ByteArray.toList (⟨#[114, 101, 99, 111, 118, 101, 114]⟩ : ByteArray))) (k1 (⟨#[119, 119, 45, 45]⟩ : ByteArray)) (cond_ ((ByteArray.toList s1) == (ByteArray.toList (⟨#[114, 101, 116, 117, 114, 110]⟩ : ByteArray))) (k1 (⟨#[118, 45, 45, 45]⟩ : ByteArray)) (k1 (⟨#[]⟩ : ByteArray)))))))))))))))))))))) (Yv n0
 (fun s2 => (cond_ ((ByteArray.toList s2) == (ByteArray.toList (⟨#[110, 111, 112]⟩ : ByteArray))) (k1 (⟨#[45, 45, 45, 45]⟩ : ByteArray)) (cond_ ((ByteArray.toList s2) == (ByteArray.toList (⟨#[115, 101, 116]⟩ : ByteArray))) (k1 (⟨#[119, 45, 45, 110]⟩ : ByteArray)) (cond_ ((ByteArray.toList s2) == (ByteArray.toList (⟨#[109, 111, 118, 101]⟩ : ByteArray))) (cond_ ((ByteArray.toList s2) == (ByteArray.toList (⟨#[109, 111, 118, 101]⟩ : ByteArray))) (k1 (⟨#[119, 114, 45, 45]⟩ : ByteArray)) (cond_ ((ByteArray.toList s2) == (ByteArray.toList (⟨#[106, 117, 109, 112]⟩ : ByteArray))) (k1 (⟨#[45, 45, 45, 116]⟩ : ByteArray)) (cond_ ((ByteArray.toList s2) == (ByteArray.toList (⟨#[122, 101, 114, 111]⟩ : ByteArray))) (k1 (⟨#[114, 45, 45, 116]⟩ : ByteArray)) (cond_ ((ByteArray.toList s2) == (ByteArray.toList (⟨#[105, 110]⟩ : ByteArray))) (k1 (⟨#[119, 45, 45, 45]⟩ : ByteArray)) (cond_ ((ByteArray.toList s2) == (ByteArray.toList (⟨#[111, 117, 116]⟩ : ByteArray))) (cond_ ((ByteArray.toList s2) == (ByteArray.toList (⟨#[111, 117, 116]⟩ : ByteArray))) (k1 (⟨#[114, 45, 45, 45]⟩ : ByteArray)) (cond_ ((ByteArray.toList s2) == (ByteArray.toList (⟨#[115, 116, 111, 114, 101]⟩ : ByteArray))) (k1 (⟨#[114, 114, 45, 45]⟩ : ByteArray)) (cond_ ((ByteArray.toList s2) == (ByteArray.toList (⟨#[102, 117, 110, 99]⟩ : ByteArray))) (k1 (⟨#[103, 45, 45, 45]⟩ : ByteArray)) (cond_ ((ByteArray.toList s2) == (ByteArray.toList (⟨#[112, 105, 99, 107]⟩ : ByteArray))) (k1 (⟨#[103, 114, 45, 45]⟩ : ByteArray)) (cond_ ((ByteArray.toList s2) == (ByteArray.toList (⟨#[99, 97, 108, 108]⟩ : ByteArray))) (k1 (⟨#[99, 45, 45, 45]⟩ : ByteArray)) (cond_ ((ByteArray.toList s2) == (ByteArray.toList (⟨#[118, 105, 97]⟩ : ByteArray))) (k1 (⟨#[99, 102, 107, 45]⟩ : ByteArray)) (cond_ ((ByteArray.toList s2) == (ByteArray.toList (⟨#[100, 101, 102, 101, 114]⟩ : ByteArray))) (k1 (⟨#[100, 45, 45, 45]⟩ : ByteArray)) (cond_ ((ByteArray.toList s2) == (ByteArray.toList (⟨#[114, 101, 99, 111, 118, 101, 114]⟩ : ByteArray))) (k1 (⟨#[119, 119, 45, 45]⟩ : ByteArray)) (cond_ ((ByteArray.toList s2) == (ByteArray.toList (⟨#[114, 101, 116, 117, 114, 110]⟩ : ByteArray))) (k1 (⟨#[118, 45, 45, 45]⟩ : ByteArray)) (k1 (⟨#[]⟩ : ByteArray))))))))))) (cond_ ((ByteArray.toList s2) == (ByteArray.toList (⟨#[112, 97, 110, 105, 99]⟩ : ByteArray))) (k1 (⟨#[114, 45, 45, 45]⟩ : ByteArray)) (cond_ ((ByteArray.toList s2) == (ByteArray.toList (⟨#[115, 116, 111, 114, 101]⟩ : ByteArray))) (k1 (⟨#[114, 114, 45, 45]⟩ : ByteArray)) (cond_ ((ByteArray.toList s2) == (ByteArray.toList (⟨#[102, 117, 110, 99]⟩ : ByteArray))) (k1 (⟨#[103, 45, 45, 45]⟩ : ByteArray)) (cond_ ((ByteArray.toList s2) == (ByteArray.toList (⟨#[112, 105, 99, 107]⟩ : ByteArray))) (k1 (⟨#[103, 114, 45, 45]⟩ : ByteArray)) (cond_ ((ByteArray.toList s2) == (ByteArray.toList (⟨#[99, 97, 108, 108]⟩ : ByteArray))) (k1 (⟨#[99, 45, 45, 45]⟩ : ByteArray)) (cond_ ((ByteArray.toList s2) == (ByteArray.toList (⟨#[118, 105, 97]⟩ : ByteArray))) (k1 (⟨#[99, 102, 107, 45]⟩ : ByteArray)) (cond_ ((ByteArray.toList s2) == (ByteArray.toList (⟨#[100, 101, 102, 101, 114]⟩ : ByteArray))) (k1 (⟨#[100, 45, 45, 45]⟩ : ByteArray)) (cond_ ((ByteArray.toList s2) == (ByteArray.toList (⟨#[114, 101, 99, 111, 118, 101, 114]⟩ : ByteArray))) (k1 (⟨#[119, 119, 45, 45]⟩ : ByteArray)) (cond_ ((ByteArray.toList s2) == (ByteArray.toList (⟨#[114, 101, 116, 117, 114, 110]⟩ : ByteArray))) (k1 (⟨#[118, 45, 45, 45]⟩ : ByteArray)) (k1 (⟨#[]⟩ : ByteArray)))))))))))))))) (cond_ ((ByteArray.toList s2) == (ByteArray.toList (⟨#[108, 111, 97, 100]⟩ : ByteArray))) (k1 (⟨#[119, 114, 45, 45]⟩ : ByteArray)) (cond_ ((ByteArray.toList s2) == (ByteArray.toList (⟨#[106, 117, 109, 112]⟩ : ByteArray))) (k1 (⟨#[45, 45, 45, 116]⟩ : ByteArray)) (cond_ ((ByteArray.toList s2) == (ByteArray.toList (⟨#[122, 101, 114, 111]⟩ : ByteArray))) (k1 (⟨#[114, 45, 45, 116]⟩ : ByteArray)) (cond_ ((ByteArray.toList s2) == (ByteArray.toList (⟨#[105, 110]⟩ : ByteArray))) (k1 (⟨#[119, 45, 45, 45]⟩ : ByteArray)) (cond_ ((ByteArray.toList s2) == (ByteArray.toList (⟨#[111, 117, 116]⟩ : ByteArray))) (cond_ ((ByteArray.toList s2) == (ByteArray.toList (⟨#[111, 117, 116]⟩ : ByteArray))) (k1 (⟨#[114, 45, 45, 45]⟩ : ByteArray)) (cond_ ((ByteArray.toList s2) == (ByteArray.toList (⟨#[115, 116, 111, 114, 101]⟩ : ByteArray))) (k1 (⟨#[114, 114, 45, 45]⟩ : ByteArray)) (cond_ ((ByteArray.toList s2) == (ByteArray.toList (⟨#[102, 117, 110, 99]⟩ : ByteArray))) (k1 (⟨#[103, 45, 45, 45]⟩ : ByteArray)) (cond_ ((ByteArray.toList s2) == (ByteArray.toList (⟨#[112, 105, 99, 107]⟩ : ByteArray))) (k1 (⟨#[103, 114, 45, 45]⟩ : ByteArray)) (cond_ ((ByteArray.toList s2) == (ByteArray.toList (⟨#[99, 97, 108, 108]⟩ : ByteArray))) (k1 (⟨#[99, 45, 45, 45]⟩ : ByteArray)) (cond_ ((ByteArray.toList s2) == (ByteArray.toList (⟨#[118, 105, 97]⟩ : ByteArray))) (k1 (⟨#[99, 102, 107, 45]⟩ : ByteArray)) (cond_ ((ByteArray.toList s2) == (ByteArray.toList (⟨#[100, 101, 102, 101, 114]⟩ : ByteArray))) (k1 (⟨#[100, 45, 45, 45]⟩ : ByteArray)) (cond_ ((ByteArray.toList s2) == (ByteArray.toList (⟨#[114, 101, 99, 111, 118, 101, 114]⟩ : ByteArray))) (k1 (⟨#[119, 119, 45, 45]⟩ : ByteArray)) (cond_ ((ByteArray.toList s2) == (ByteArray.toList (⟨#[114, 101, 116, 117, 114, 110]⟩ : ByteArray))) (k1 (⟨#[118, 45, 45, 45]⟩ : ByteArray)) (k1 (⟨#[]⟩ : ByteArray))))))))))) (cond_ ((ByteArray.toList s2) == (ByteArray.toList (⟨#[112, 97, 110, 105, 99]⟩ : ByteArray))) (k1 (⟨#[114, 45, 45, 45]⟩ : ByteArray)) (cond_ ((ByteArray.toList s2) == (ByteArray.toList (⟨#[115, 116, 111, 114, 101]⟩ : ByteArray))) (k1 (⟨#[114, 114, 45, 45]⟩ : ByteArray)) (cond_ ((ByteArray.toList s2) == (ByteArray.toList (⟨#[102, 117, 110, 99]⟩ : ByteArray))) (k1 (⟨#[103, 45, 45, 45]⟩ : ByteArray)) (cond_ ((ByteArray.toList s2) == (ByteArray.toList (⟨#[112, 105, 99, 107]⟩ : ByteArray))) (k1 (⟨#[103, 114, 45, 45]⟩ : ByteArray)) (cond_ ((ByteArray.toList s2) == (ByteArray.toList (⟨#[99, 97, 108, 108]⟩ : ByteArray))) (k1 (⟨#[99, 45, 45, 45]⟩ : ByteArray)) (cond_ ((ByteArray.toList s2) == (ByteArray.toList (⟨#[118, 105, 97]⟩ : ByteArray))) (k1 (⟨#[99, 102, 107, 45]⟩ : ByteArray)) (cond_ ((ByteArray.toList s2) == (ByteArray.toList (⟨#[100, 101, 102, 101, 114]⟩ : ByteArray))) (k1 (⟨#[100, 45, 45, 45]⟩ : ByteArray)) (cond_ ((ByteArray.toList s2) == (ByteArray.toList (⟨#[114, 101, 99, 111, 118, 101, 114]⟩ : ByteArray))) (k1 (⟨#[119, 119, 45, 45]⟩ : ByteArray)) (cond_ ((ByteArray.toList s2) == (ByteArray.toList (⟨#[114, 101, 116, 117, 114, 110]⟩ : ByteArray))) (k1 (⟨#[118, 45, 45, 45]⟩ : ByteArray)) (k1 (⟨#[]⟩ : ByteArray))))))))))))))))))))))
noncomputable def Y13 : T_Y13 := Y13.body Yv
def Y13.p : FPat := fp 134 (pl (pd (.int .i64)) pz) pz
def Y13.g (F : T_Y13) (v : Y13.p.T) (k : KR) : OB := F v.1.1 (fun y0 => k (.d ⟨.str, y0⟩) [])
theorem Y13.eq (F0 : T_Yv) : ∀ v k, exF Tryz.f134 Y13.p [⟨Yv.p, Yv.g F0⟩] [] [] v k = Y13.g (Y13.body F0) v k := fun v k => by kernel_rfl
theorem Y13.ok : okF 3 Y13.p (Y13.g Y13) := fn2 (Y13.eq Yv) Tryz.func134 (by kernel_rfl) (.cons Yv.ok .nil) [] (by kernel_rfl) .nil
abbrev T_Y14 : Type := ByteArray → Int → Tc3 → (Int → OB) → (OB) → OB
noncomputable def Y14.body (Y14 : T_Y14) (Y11 : T_Y11) : T_Y14 := fun s0 n1 t2 k1 k2 =>
  (cond_ (decide (n1 < (((ByteArray.size s0) : Nat) : Int))) (cond_ ((decide (0 ≤ n1)) && (decide (n1 < (((ByteArray.size s0) : Nat) : Int)))) (cond_ ((((UInt8.toNat (getD (Array.toList (ByteArray.data s0)) (toNat n1) (0 : UInt8))) : Nat) : Int) == 45) (Y11 t2 n1
 (fun n3 => (cond_ (n3 != 0) (k1 2) (Y14 s0 (IntKind.wrap .i64 (n1 + 1)) t2 k1 k2)))) (Y14 s0 (IntKind.wrap .i64 (n1 + 1)) t2 k1 k2)) none) (k2))
noncomputable def Y14 : Nat → T_Y14
  | 0 => fun _ _ _ _ _ => none
  | n + 1 => Y14.body (Y14 n) Y11
def Y14.p : LPat := lp 2 51 [1, 4, 5] (ps (pq [1, 0] 0 0) (pl (pd .str) (pl (pd (.int .i64)) pz))) (pl (po [1, 0] 69 5 (es Ty15 (pl eh pz))) pz)
def Y14.g (F : T_Y14) (v : Y14.p.T) (k : KE) : OB := F v.1.1 v.1.2.1 v.2.1.1 (fun y0 => k .ret ⟨fillS 51 [2] [(.d ⟨(.int .i64), y0⟩)], [], 2⟩) (k (.exit 2) ⟨fillS 51 [] [], [], 2⟩)
theorem Y14.step (S : T_Y14) (F0 : T_Y11) : ∀ v k, exR 141 Tryz.f141 2 Y14.p [⟨Y11.p, Y11.g F0⟩] [] [] (Y14.g S) v k = Y14.g (Y14.body S F0) v k := fun v k => by kernel_rfl
theorem Y14.ok : okL 141 Tryz.f141 1 2 Y14.p (Y14.g (Y14 ROUNDS)) := loop2 (G := fun n => Y14.g (Y14 n)) (fun n => Y14.step (Y14 n) Y11) (.cons Y11.ok .nil) [] (by kernel_rfl) .nil (fun _ _ => rfl)
abbrev T_Y15 : Type := Tc3 → (Int → OB) → OB
noncomputable def Y15.body (Yv : T_Yv) (Y13 : T_Y13) (Y12 : T_Y12) (Y14 : T_Y14) : T_Y15 := fun t0 k1 =>
  (Yv t0.1
 (fun s1 => (cond_ ((ByteArray.toList s1) == (ByteArray.toList (⟨#[]⟩ : ByteArray))) (k1 8) (Y12 0 t0
 (fun n2 => (k1 n2))
 (fun t3 => (cond_ (! (decide (t3.2.2.2.2.1 < (-2147483648)))) (cond_ (decide (t3.2.2.2.2.1 > 2147483647)) (k1 9) (Y13 t3.1
 (fun s4 => (Y14 s4 0 t3
 (fun n5 => (k1 n5))
  (k1 0))))) (k1 9)))))))
noncomputable def Y15 : T_Y15 := Y15.body Yv Y13 (Y12 ROUNDS) (Y14 ROUNDS)
def Y15.p : FPat := fp 141 (pl (pd Ty15) pz) pz
def Y15.g (F : T_Y15) (v : Y15.p.T) (k : KR) : OB := F v.1.1 (fun y0 => k (.d ⟨(.int .i64), y0⟩) [])
theorem Y15.eq (F0 : T_Yv) (F1 : T_Y13) (L0 : T_Y12) (L1 : T_Y14) : ∀ v k, exF Tryz.f141 Y15.p [⟨Yv.p, Yv.g F0⟩, ⟨Y13.p, Y13.g F1⟩] [] [⟨0, Y12.p, Y12.g L0⟩, ⟨2, Y14.p, Y14.g L1⟩] v k = Y15.g (Y15.body F0 F1 L0 L1) v k := fun v k => by kernel_rfl
theorem Y15.ok : okF 4 Y15.p (Y15.g Y15) := fn2 (Y15.eq Yv Y13 (Y12 ROUNDS) (Y14 ROUNDS)) Tryz.func141 (by kernel_rfl) (.cons Yv.ok (.cons Y13.ok .nil)) [0, 2] (by kernel_rfl) (.cons Y12.ok (.cons Y14.ok .nil))
abbrev T_Y16 : Type := Int → (Bool → OB) → OB
noncomputable def Y16.body : T_Y16 := fun n0 k1 =>
  (cond_ (decide (n0 ≥ 1)) (k1 (decide (n0 ≤ 24))) (k1 false))
noncomputable def Y16 : T_Y16 := Y16.body
def Y16.p : FPat := fp 142 (pl (pd (.int .i64)) pz) pz
def Y16.g (F : T_Y16) (v : Y16.p.T) (k : KR) : OB := F v.1.1 (fun y0 => k (.d ⟨.bool, y0⟩) [])
theorem Y16.eq : ∀ v k, exF Tryz.f142 Y16.p [] [] [] v k = Y16.g (Y16.body) v k := fun v k => by kernel_rfl
theorem Y16.ok : okF 1 Y16.p (Y16.g Y16) := fn2 (Y16.eq) Tryz.func142 (by kernel_rfl) .nil [] (by kernel_rfl) .nil
abbrev T_Y17 : Type := Int → Tc16 → (Int → OB) → (OB) → OB
noncomputable def Y17.body (Y17 : T_Y17) (Y15 : T_Y15) (Y16 : T_Y16) : T_Y17 := fun n0 t1 k1 k2 =>
  (cond_ (decide (n0 < (length t1.2.2.2.2.2.2.2.1 : Int))) (cond_ ((decide (0 ≤ n0)) && (decide (n0 < (length t1.2.2.2.2.2.2.2.1 : Int)))) (Y15 (getD t1.2.2.2.2.2.2.2.1 (toNat n0) ZIns)
 (fun n2 => (cond_ (n2 != 0) (k1 n2) (cond_ ((decide (0 ≤ n0)) && (decide (n0 < (length t1.2.2.2.2.2.2.2.1 : Int)))) (Y16 (getD t1.2.2.2.2.2.2.2.1 (toNat n0) ZIns).1
 (fun b3 => (cond_ (! b3) (k1 8) (Y17 (IntKind.wrap .i64 (n0 + 1)) t1 k1 k2)))) none)))) none) (k2))
noncomputable def Y17 : Nat → T_Y17
  | 0 => fun _ _ _ _ => none
  | n + 1 => Y17.body (Y17 n) Y15 Y16
def Y17.p : LPat := lp 2 36 [1, 4] (ps (pq [1, 0] 0 0) (pl (pd (.int .i64)) pz)) (pl (po [1, 0] 100 9 (es Ty24 (pl eh pz))) pz)
def Y17.g (F : T_Y17) (v : Y17.p.T) (k : KE) : OB := F v.1.1 v.2.1.1 (fun y0 => k .ret ⟨fillS 36 [2] [(.d ⟨(.int .i64), y0⟩)], [], 2⟩) (k (.exit 0) ⟨fillS 36 [] [], [], 2⟩)
theorem Y17.step (S : T_Y17) (F0 : T_Y15) (F1 : T_Y16) : ∀ v k, exR 130 Tryz.f130 0 Y17.p [⟨Y15.p, Y15.g F0⟩, ⟨Y16.p, Y16.g F1⟩] [] [] (Y17.g S) v k = Y17.g (Y17.body S F0 F1) v k := fun v k => by kernel_rfl
theorem Y17.ok : okL 130 Tryz.f130 4 0 Y17.p (Y17.g (Y17 ROUNDS)) := loop2 (G := fun n => Y17.g (Y17 n)) (fun n => Y17.step (Y17 n) Y15 Y16) (.cons Y15.ok (.cons Y16.ok .nil)) [] (by kernel_rfl) .nil (fun _ _ => rfl)
abbrev T_Y18 : Type := Tc16 → (Int → OB) → OB
noncomputable def Y18.body (Y10 : T_Y10) (Y17 : T_Y17) : T_Y18 := fun t0 k1 =>
  (Y10 t0.2.2.2.2.2.2.2.1
 (fun n1 => (cond_ (n1 != 0) (k1 n1) (Y17 0 t0
 (fun n2 => (k1 n2))
  (k1 0)))))
noncomputable def Y18 : T_Y18 := Y18.body Y10 (Y17 ROUNDS)
def Y18.p : FPat := fp 130 (pl (pd Ty24) pz) pz
def Y18.g (F : T_Y18) (v : Y18.p.T) (k : KR) : OB := F v.1.1 (fun y0 => k (.d ⟨(.int .i64), y0⟩) [])
theorem Y18.eq (F0 : T_Y10) (L0 : T_Y17) : ∀ v k, exF Tryz.f130 Y18.p [⟨Y10.p, Y10.g F0⟩] [] [⟨0, Y17.p, Y17.g L0⟩] v k = Y18.g (Y18.body F0 L0) v k := fun v k => by kernel_rfl
theorem Y18.ok : okF 6 Y18.p (Y18.g Y18) := fn2 (Y18.eq Y10 (Y17 ROUNDS)) Tryz.func130 (by kernel_rfl) (.cons Y10.ok .nil) [0] (by kernel_rfl) (.cons Y17.ok .nil)
abbrev T_Y19 : Type := Int → Tc16 → (Int → OB) → (OB) → OB
noncomputable def Y19.body (Y19 : T_Y19) : T_Y19 := fun n0 t1 k1 k2 =>
  (cond_ (decide (n0 < (length t1.2.2.2.2.2.2.1 : Int))) (cond_ ((decide (0 ≤ n0)) && (decide (n0 < (length t1.2.2.2.2.2.2.1 : Int)))) (cond_ (n0 == 0) (cond_ (! ((getD t1.2.2.2.2.2.2.1 (toNat n0) (0, (0, ()))).1 != 0)) (cond_ (! (decide ((getD t1.2.2.2.2.2.2.1 (toNat n0) (0, (0, ()))).1 < 0))) (cond_ (! (decide ((getD t1.2.2.2.2.2.2.1 (toNat n0) (0, (0, ()))).1 ≥ (length t1.2.2.2.2.2.2.2.1 : Int)))) (cond_ (decide (n0 > 0)) (cond_ ((decide (0 ≤ (IntKind.wrap .i64 (n0 - 1)))) && (decide ((IntKind.wrap .i64 (n0 - 1)) < (length t1.2.2.2.2.2.2.1 : Int)))) (cond_ (! (decide ((getD t1.2.2.2.2.2.2.1 (toNat n0) (0, (0, ()))).1 ≤ (getD t1.2.2.2.2.2.2.1 (toNat (IntKind.wrap .i64 (n0 - 1))) (0, (0, ()))).1))) (cond_ (! (decide ((getD t1.2.2.2.2.2.2.1 (toNat n0) (0, (0, ()))).2.1 < 0))) (cond_ (decide ((getD t1.2.2.2.2.2.2.1 (toNat n0) (0, (0, ()))).2.1 > 65535)) (k1 9) (Y19 (IntKind.wrap .i64 (n0 + 1)) t1 k1 k2)) (k1 9)) (k1 9)) none) (cond_ (! (decide ((getD t1.2.2.2.2.2.2.1 (toNat n0) (0, (0, ()))).2.1 < 0))) (cond_ (decide ((getD t1.2.2.2.2.2.2.1 (toNat n0) (0, (0, ()))).2.1 > 65535)) (k1 9) (Y19 (IntKind.wrap .i64 (n0 + 1)) t1 k1 k2)) (k1 9))) (k1 9)) (k1 9)) (k1 9)) (cond_ (! (decide ((getD t1.2.2.2.2.2.2.1 (toNat n0) (0, (0, ()))).1 < 0))) (cond_ (! (decide ((getD t1.2.2.2.2.2.2.1 (toNat n0) (0, (0, ()))).1 ≥ (length t1.2.2.2.2.2.2.2.1 : Int)))) (cond_ (decide (n0 > 0)) (cond_ ((decide (0 ≤ (IntKind.wrap .i64 (n0 - 1)))) && (decide ((IntKind.wrap .i64 (n0 - 1)) < (length t1.2.2.2.2.2.2.1 : Int)))) (cond_ (! (decide ((getD t1.2.2.2.2.2.2.1 (toNat n0) (0, (0, ()))).1 ≤ (getD t1.2.2.2.2.2.2.1 (toNat (IntKind.wrap .i64 (n0 - 1))) (0, (0, ()))).1))) (cond_ (! (decide ((getD t1.2.2.2.2.2.2.1 (toNat n0) (0, (0, ()))).2.1 < 0))) (cond_ (decide ((getD t1.2.2.2.2.2.2.1 (toNat n0) (0, (0, ()))).2.1 > 65535)) (k1 9) (Y19 (IntKind.wrap .i64 (n0 + 1)) t1 k1 k2)) (k1 9)) (k1 9)) none) (cond_ (! (decide ((getD t1.2.2.2.2.2.2.1 (toNat n0) (0, (0, ()))).2.1 < 0))) (cond_ (decide ((getD t1.2.2.2.2.2.2.1 (toNat n0) (0, (0, ()))).2.1 > 65535)) (k1 9) (Y19 (IntKind.wrap .i64 (n0 + 1)) t1 k1 k2)) (k1 9))) (k1 9)) (k1 9))) none) (k2))
noncomputable def Y19 : Nat → T_Y19
  | 0 => fun _ _ _ _ => none
  | n + 1 => Y19.body (Y19 n)
def Y19.p : LPat := lp 2 67 [1, 3] (ps (pq [1, 0] 0 0) (pl (pd (.int .i64)) pz)) (pl (po [1, 0] 100 9 (es Ty24 (pl eh pz))) pz)
def Y19.g (F : T_Y19) (v : Y19.p.T) (k : KE) : OB := F v.1.1 v.2.1.1 (fun y0 => k .ret ⟨fillS 67 [2] [(.d ⟨(.int .i64), y0⟩)], [], 2⟩) (k (.exit 0) ⟨fillS 67 [] [], [], 2⟩)
theorem Y19.step (S : T_Y19) : ∀ v k, exR 131 Tryz.f131 0 Y19.p [] [] [] (Y19.g S) v k = Y19.g (Y19.body S) v k := fun v k => by kernel_rfl
theorem Y19.ok : okL 131 Tryz.f131 0 0 Y19.p (Y19.g (Y19 ROUNDS)) := loop2 (G := fun n => Y19.g (Y19 n)) (fun n => Y19.step (Y19 n)) .nil [] (by kernel_rfl) .nil (fun _ _ => rfl)
abbrev T_Y1a : Type := Tc16 → (Int → OB) → OB
noncomputable def Y1a.body (Y19 : T_Y19) : T_Y1a := fun t0 k1 =>
  (cond_ (decide ((length t0.2.2.2.2.2.2.1 : Int) > 16)) (k1 6) (Y19 0 t0
 (fun n1 => (k1 n1))
  (k1 0)))
noncomputable def Y1a : T_Y1a := Y1a.body (Y19 ROUNDS)
def Y1a.p : FPat := fp 131 (pl (pd Ty24) pz) pz
def Y1a.g (F : T_Y1a) (v : Y1a.p.T) (k : KR) : OB := F v.1.1 (fun y0 => k (.d ⟨(.int .i64), y0⟩) [])
theorem Y1a.eq (L0 : T_Y19) : ∀ v k, exF Tryz.f131 Y1a.p [] [] [⟨0, Y19.p, Y19.g L0⟩] v k = Y1a.g (Y1a.body L0) v k := fun v k => by kernel_rfl
theorem Y1a.ok : okF 1 Y1a.p (Y1a.g Y1a) := fn2 (Y1a.eq (Y19 ROUNDS)) Tryz.func131 (by kernel_rfl) .nil [0] (by kernel_rfl) (.cons Y19.ok .nil)
abbrev T_Y1b : Type := Int → Tc16 → (Int → OB) → (OB) → OB
noncomputable def Y1b.body (Y1b : T_Y1b) : T_Y1b := fun n0 t1 k1 k2 =>
  (cond_ (decide (n0 < (length t1.2.2.2.2.2.2.2.2.1 : Int))) (cond_ ((decide (0 ≤ n0)) && (decide (n0 < (length t1.2.2.2.2.2.2.2.2.1 : Int)))) (cond_ (! (decide ((getD t1.2.2.2.2.2.2.2.2.1 (toNat n0) ZRel).1 < 0))) (cond_ (! (decide ((getD t1.2.2.2.2.2.2.2.2.1 (toNat n0) ZRel).1 ≥ (length t1.2.2.2.2.2.2.2.1 : Int)))) (cond_ (decide (n0 > 0)) (cond_ ((decide (0 ≤ (IntKind.wrap .i64 (n0 - 1)))) && (decide ((IntKind.wrap .i64 (n0 - 1)) < (length t1.2.2.2.2.2.2.2.2.1 : Int)))) (cond_ (! (decide ((getD t1.2.2.2.2.2.2.2.2.1 (toNat n0) ZRel).1 ≤ (getD t1.2.2.2.2.2.2.2.2.1 (toNat (IntKind.wrap .i64 (n0 - 1))) ZRel).1))) (cond_ ((decide (0 ≤ n0)) && (decide (n0 < (length t1.2.2.2.2.2.2.2.2.1 : Int)))) (cond_ (! (decide ((getD t1.2.2.2.2.2.2.2.2.1 (toNat n0) ZRel).2.1 < 0))) (cond_ ((decide (0 ≤ n0)) && (decide (n0 < (length t1.2.2.2.2.2.2.2.2.1 : Int)))) (cond_ (decide ((getD t1.2.2.2.2.2.2.2.2.1 (toNat n0) ZRel).2.1 ≥ 32)) (k1 11) (Y1b (IntKind.wrap .i64 (n0 + 1)) t1 k1 k2)) none) (k1 11)) none) (k1 11)) none) (cond_ ((decide (0 ≤ n0)) && (decide (n0 < (length t1.2.2.2.2.2.2.2.2.1 : Int)))) (cond_ (! (decide ((getD t1.2.2.2.2.2.2.2.2.1 (toNat n0) ZRel).2.1 < 0))) (cond_ ((decide (0 ≤ n0)) && (decide (n0 < (length t1.2.2.2.2.2.2.2.2.1 : Int)))) (cond_ (decide ((getD t1.2.2.2.2.2.2.2.2.1 (toNat n0) ZRel).2.1 ≥ 32)) (k1 11) (Y1b (IntKind.wrap .i64 (n0 + 1)) t1 k1 k2)) none) (k1 11)) none)) (k1 11)) (k1 11)) none) (k2))
noncomputable def Y1b : Nat → T_Y1b
  | 0 => fun _ _ _ _ => none
  | n + 1 => Y1b.body (Y1b n)
def Y1b.p : LPat := lp 2 104 [1, 6] (ps (pq [1, 0] 0 0) (pl (pd (.int .i64)) pz)) (pl (po [1, 0] 100 9 (es Ty24 (pl eh pz))) pz)
def Y1b.g (F : T_Y1b) (v : Y1b.p.T) (k : KE) : OB := F v.1.1 v.2.1.1 (fun y0 => k .ret ⟨fillS 104 [2] [(.d ⟨(.int .i64), y0⟩)], [], 2⟩) (k (.exit 0) ⟨fillS 104 [] [], [], 2⟩)
theorem Y1b.step (S : T_Y1b) : ∀ v k, exR 124 Tryz.f124 0 Y1b.p [] [] [] (Y1b.g S) v k = Y1b.g (Y1b.body S) v k := fun v k => by kernel_rfl
theorem Y1b.ok : okL 124 Tryz.f124 0 0 Y1b.p (Y1b.g (Y1b ROUNDS)) := loop2 (G := fun n => Y1b.g (Y1b n)) (fun n => Y1b.step (Y1b n)) .nil [] (by kernel_rfl) .nil (fun _ _ => rfl)
abbrev T_Y1c : Type := Tc16 → (Int → OB) → OB
noncomputable def Y1c.body (Yt : T_Yt) (Y18 : T_Y18) (Y1a : T_Y1a) (Y1b : T_Y1b) : T_Y1c := fun t0 k1 =>
  (Yt t0
 (fun n1 => (cond_ (n1 != 0) (k1 n1) (cond_ (! (decide (t0.2.2.1 < 0))) (cond_ (decide (t0.2.2.1 > 4096)) (k1 9) (Y18 t0
 (fun n2 => (cond_ (n2 != 0) (k1 n2) (cond_ (! (decide (t0.2.2.2.2.1 < 0))) (cond_ (! (decide (t0.2.2.2.2.2.1 < t0.2.2.2.2.1))) (cond_ (decide (t0.2.2.2.2.2.1 > (length t0.2.2.2.2.2.2.2.1 : Int))) (k1 9) (Y1a t0
 (fun n3 => (cond_ (n3 != 0) (k1 n3) (Y1b 0 t0
 (fun n4 => (k1 n4))
  (k1 0)))))) (k1 9)) (k1 9)))))) (k1 9)))))
noncomputable def Y1c : T_Y1c := Y1c.body Yt Y18 Y1a (Y1b ROUNDS)
def Y1c.p : FPat := fp 124 (pl (pd Ty24) pz) pz
def Y1c.g (F : T_Y1c) (v : Y1c.p.T) (k : KR) : OB := F v.1.1 (fun y0 => k (.d ⟨(.int .i64), y0⟩) [])
theorem Y1c.eq (F0 : T_Yt) (F1 : T_Y18) (F2 : T_Y1a) (L0 : T_Y1b) : ∀ v k, exF Tryz.f124 Y1c.p [⟨Yt.p, Yt.g F0⟩, ⟨Y18.p, Y18.g F1⟩, ⟨Y1a.p, Y1a.g F2⟩] [] [⟨0, Y1b.p, Y1b.g L0⟩] v k = Y1c.g (Y1c.body F0 F1 F2 L0) v k := fun v k => by kernel_rfl
theorem Y1c.ok : okF 7 Y1c.p (Y1c.g Y1c) := fn2 (Y1c.eq Yt Y18 Y1a (Y1b ROUNDS)) Tryz.func124 (by kernel_rfl) (.cons Yt.ok (.cons Y18.ok (.cons Y1a.ok .nil))) [0] (by kernel_rfl) (.cons Y1b.ok .nil)
abbrev T_Y1d : Type := Int → (Int → OB) → OB
noncomputable def Y1d.body (Yv : T_Yv) : T_Y1d := fun n0 k1 =>
  (Yv n0
 (fun s1 => (cond_ ((ByteArray.toList s1) == (ByteArray.toList (⟨#[99, 97, 108, 108]⟩ : ByteArray))) (k1 1) (cond_ ((ByteArray.toList s1) == (ByteArray.toList (⟨#[102, 117, 110, 99]⟩ : ByteArray))) (k1 2) (cond_ ((ByteArray.toList s1) == (ByteArray.toList (⟨#[108, 111, 97, 100]⟩ : ByteArray))) (cond_ ((ByteArray.toList s1) == (ByteArray.toList (⟨#[108, 111, 97, 100]⟩ : ByteArray))) (k1 3) (cond_ ((ByteArray.toList s1) == (ByteArray.toList (⟨#[112, 105, 99, 107]⟩ : ByteArray))) (k1 4) (cond_ ((ByteArray.toList s1) == (ByteArray.toList (⟨#[100, 101, 102, 101, 114]⟩ : ByteArray))) (k1 5) (k1 0)))) (cond_ ((ByteArray.toList s1) == (ByteArray.toList (⟨#[115, 116, 111, 114, 101]⟩ : ByteArray))) (k1 3) (cond_ ((ByteArray.toList s1) == (ByteArray.toList (⟨#[112, 105, 99, 107]⟩ : ByteArray))) (k1 4) (cond_ ((ByteArray.toList s1) == (ByteArray.toList (⟨#[100, 101, 102, 101, 114]⟩ : ByteArray))) (k1 5) (k1 0)))))))))
noncomputable def Y1d : T_Y1d := Y1d.body Yv
def Y1d.p : FPat := fp 79 (pl (pd (.int .i64)) pz) pz
def Y1d.g (F : T_Y1d) (v : Y1d.p.T) (k : KR) : OB := F v.1.1 (fun y0 => k (.d ⟨(.int .i64), y0⟩) [])
theorem Y1d.eq (F0 : T_Yv) : ∀ v k, exF Tryz.f79 Y1d.p [⟨Yv.p, Yv.g F0⟩] [] [] v k = Y1d.g (Y1d.body F0) v k := fun v k => by kernel_rfl
theorem Y1d.ok : okF 3 Y1d.p (Y1d.g Y1d) := fn2 (Y1d.eq Yv) Tryz.func79 (by kernel_rfl) (.cons Yv.ok .nil) [] (by kernel_rfl) .nil
abbrev T_Y1e : Type := Int → Int → Tc16 → (Bool → OB) → (OB) → OB
noncomputable def Y1e.body (Y1e : T_Y1e) : T_Y1e := fun n0 n1 t2 k1 k2 =>
  (cond_ (decide (n1 < (length t2.2.2.2.2.2.2.2.2.1 : Int))) (cond_ ((decide (0 ≤ n1)) && (decide (n1 < (length t2.2.2.2.2.2.2.2.2.1 : Int)))) (cond_ ((getD t2.2.2.2.2.2.2.2.2.1 (toNat n1) ZRel).1 == n0) (k1 true) (Y1e n0 (IntKind.wrap .i64 (n1 + 1)) t2 k1 k2)) none) (k2))
noncomputable def Y1e : Nat → T_Y1e
  | 0 => fun _ _ _ _ _ => none
  | n + 1 => Y1e.body (Y1e n)
def Y1e.p : LPat := lp 2 21 [1, 2, 5] (pl (pd (.int .i64)) (ps (pq [1, 0] 0 0) (pl (pd (.int .i64)) pz))) (pl (po [1, 0] 100 9 (es Ty24 (pl eh pz))) pz)
def Y1e.g (F : T_Y1e) (v : Y1e.p.T) (k : KE) : OB := F v.1.1 v.1.2.1 v.2.1.1 (fun y0 => k .ret ⟨fillS 21 [4] [(.d ⟨.bool, y0⟩)], [], 2⟩) (k (.exit 0) ⟨fillS 21 [] [], [], 2⟩)
theorem Y1e.step (S : T_Y1e) : ∀ v k, exR 143 Tryz.f143 0 Y1e.p [] [] [] (Y1e.g S) v k = Y1e.g (Y1e.body S) v k := fun v k => by kernel_rfl
theorem Y1e.ok : okL 143 Tryz.f143 0 0 Y1e.p (Y1e.g (Y1e ROUNDS)) := loop2 (G := fun n => Y1e.g (Y1e n)) (fun n => Y1e.step (Y1e n)) .nil [] (by kernel_rfl) .nil (fun _ _ => rfl)
abbrev T_Y1f : Type := Tc16 → Int → (Bool → OB) → OB
noncomputable def Y1f.body (Y1e : T_Y1e) : T_Y1f := fun t0 n1 k1 =>
  (Y1e n1 0 t0
 (fun b2 => (k1 b2))
  (k1 false))
noncomputable def Y1f : T_Y1f := Y1f.body (Y1e ROUNDS)
def Y1f.p : FPat := fp 143 (pl (pd Ty24) (pl (pd (.int .i64)) pz)) pz
def Y1f.g (F : T_Y1f) (v : Y1f.p.T) (k : KR) : OB := F v.1.1 v.1.2.1 (fun y0 => k (.d ⟨.bool, y0⟩) [])
theorem Y1f.eq (L0 : T_Y1e) : ∀ v k, exF Tryz.f143 Y1f.p [] [] [⟨0, Y1e.p, Y1e.g L0⟩] v k = Y1f.g (Y1f.body L0) v k := fun v k => by kernel_rfl
theorem Y1f.ok : okF 1 Y1f.p (Y1f.g Y1f) := fn2 (Y1f.eq (Y1e ROUNDS)) Tryz.func143 (by kernel_rfl) .nil [0] (by kernel_rfl) (.cons Y1e.ok .nil)
abbrev T_Y1g : Type := Int → Int → Tc16 → (Int → OB) → (OB) → OB
noncomputable def Y1g.body (Y1g : T_Y1g) : T_Y1g := fun n0 n1 t2 k1 k2 =>
  (cond_ (decide (n1 < (length t2.2.2.2.2.2.2.2.2.1 : Int))) (cond_ ((decide (0 ≤ n1)) && (decide (n1 < (length t2.2.2.2.2.2.2.2.2.1 : Int)))) (cond_ ((getD t2.2.2.2.2.2.2.2.2.1 (toNat n1) ZRel).1 == n0) (cond_ ((decide (0 ≤ n1)) && (decide (n1 < (length t2.2.2.2.2.2.2.2.2.1 : Int)))) (k1 (getD t2.2.2.2.2.2.2.2.2.1 (toNat n1) ZRel).2.1) none) (Y1g n0 (IntKind.wrap .i64 (n1 + 1)) t2 k1 k2)) none) (k2))
noncomputable def Y1g : Nat → T_Y1g
  | 0 => fun _ _ _ _ _ => none
  | n + 1 => Y1g.body (Y1g n)
def Y1g.p : LPat := lp 2 27 [1, 2, 5] (pl (pd (.int .i64)) (ps (pq [1, 0] 0 0) (pl (pd (.int .i64)) pz))) (pl (po [1, 0] 100 9 (es Ty24 (pl eh pz))) pz)
def Y1g.g (F : T_Y1g) (v : Y1g.p.T) (k : KE) : OB := F v.1.1 v.1.2.1 v.2.1.1 (fun y0 => k .ret ⟨fillS 27 [4] [(.d ⟨(.int .i64), y0⟩)], [], 2⟩) (k (.exit 0) ⟨fillS 27 [] [], [], 2⟩)
theorem Y1g.step (S : T_Y1g) : ∀ v k, exR 71 Tryz.f71 0 Y1g.p [] [] [] (Y1g.g S) v k = Y1g.g (Y1g.body S) v k := fun v k => by kernel_rfl
theorem Y1g.ok : okL 71 Tryz.f71 0 0 Y1g.p (Y1g.g (Y1g ROUNDS)) := loop2 (G := fun n => Y1g.g (Y1g n)) (fun n => Y1g.step (Y1g n)) .nil [] (by kernel_rfl) .nil (fun _ _ => rfl)
abbrev T_Y1h : Type := Tc16 → Int → (Int → OB) → OB
noncomputable def Y1h.body (Y1g : T_Y1g) : T_Y1h := fun t0 n1 k1 =>
  (Y1g n1 0 t0
 (fun n2 => (k1 n2))
  (k1 (-1)))
noncomputable def Y1h : T_Y1h := Y1h.body (Y1g ROUNDS)
def Y1h.p : FPat := fp 71 (pl (pd Ty24) (pl (pd (.int .i64)) pz)) pz
def Y1h.g (F : T_Y1h) (v : Y1h.p.T) (k : KR) : OB := F v.1.1 v.1.2.1 (fun y0 => k (.d ⟨(.int .i64), y0⟩) [])
theorem Y1h.eq (L0 : T_Y1g) : ∀ v k, exF Tryz.f71 Y1h.p [] [] [⟨0, Y1g.p, Y1g.g L0⟩] v k = Y1h.g (Y1h.body L0) v k := fun v k => by kernel_rfl
theorem Y1h.ok : okF 1 Y1h.p (Y1h.g Y1h) := fn2 (Y1h.eq (Y1g ROUNDS)) Tryz.func71 (by kernel_rfl) .nil [0] (by kernel_rfl) (.cons Y1g.ok .nil)
abbrev T_Y1i : Type := Int → Tc7 → (Bool → OB) → OB
noncomputable def Y1i.body (Yb : T_Yb) : T_Y1i := fun n0 t1 k1 =>
  (cond_ (n0 == 1) (cond_ (n0 == 1) (k1 (t1.2.2.1 == 1)) (cond_ (n0 == 3) (cond_ (t1.2.2.1 == 2) (k1 (t1.2.2.2.1 == 0)) (k1 false)) (cond_ (t1.2.2.1 == 2) (Yb (IntKind.wrap .i64 (t1.2.2.2.1 - 1))
 (fun b2 => (k1 b2))) (k1 false)))) (cond_ (n0 == 2) (cond_ (n0 == 2) (k1 (t1.2.2.1 == 1)) (cond_ (n0 == 3) (cond_ (t1.2.2.1 == 2) (k1 (t1.2.2.2.1 == 0)) (k1 false)) (cond_ (t1.2.2.1 == 2) (Yb (IntKind.wrap .i64 (t1.2.2.2.1 - 1))
 (fun b3 => (k1 b3))) (k1 false)))) (cond_ (n0 == 5) (k1 (t1.2.2.1 == 1)) (cond_ (n0 == 3) (cond_ (t1.2.2.1 == 2) (k1 (t1.2.2.2.1 == 0)) (k1 false)) (cond_ (t1.2.2.1 == 2) (Yb (IntKind.wrap .i64 (t1.2.2.2.1 - 1))
 (fun b4 => (k1 b4))) (k1 false))))))
noncomputable def Y1i : T_Y1i := Y1i.body Yb
def Y1i.p : FPat := fp 144 (pl (pd (.int .i64)) (pl (pd Ty12) pz)) pz
def Y1i.g (F : T_Y1i) (v : Y1i.p.T) (k : KR) : OB := F v.1.1 v.1.2.1 (fun y0 => k (.d ⟨.bool, y0⟩) [])
theorem Y1i.eq (F0 : T_Yb) : ∀ v k, exF Tryz.f144 Y1i.p [⟨Yb.p, Yb.g F0⟩] [] [] v k = Y1i.g (Y1i.body F0) v k := fun v k => by kernel_rfl
theorem Y1i.ok : okF 2 Y1i.p (Y1i.g Y1i) := fn2 (Y1i.eq Yb) Tryz.func144 (by kernel_rfl) (.cons Yb.ok .nil) [] (by kernel_rfl) .nil
abbrev T_Y1j : Type := Tc16 → Tc11 → Int → (Tc7 → Int → OB) → OB
noncomputable def Y1j.body (Y1d : T_Y1d) (Y1f : T_Y1f) (Y1h : T_Y1h) (Y1i : T_Y1i) : T_Y1j := fun t0 t1 n2 k1 =>
  (cond_ ((decide (0 ≤ n2)) && (decide (n2 < (length t0.2.2.2.2.2.2.2.1 : Int)))) (Y1d (getD t0.2.2.2.2.2.2.2.1 (toNat n2) ZIns).1
 (fun n3 => (Y1f t0 n2
 (fun b4 => (cond_ (! ((decide (n3 > 0)) == b4)) (k1 ZSym 11) (cond_ (n3 == 0) (k1 ZSym 0) (Y1h t0 n2
 (fun n5 => (cond_ (! (decide (n5 < 0))) (cond_ (decide (n5 ≥ (length t1 : Int))) (k1 ZSym 11) (cond_ ((decide (0 ≤ n5)) && (decide (n5 < (length t1 : Int)))) (Y1i n3 (getD t1 (toNat n5) ZSym)
 (fun b6 => (cond_ (! b6) (k1 ZSym 8) (cond_ ((decide (0 ≤ n5)) && (decide (n5 < (length t1 : Int)))) (k1 (getD t1 (toNat n5) ZSym) 0) none)))) none)) (k1 ZSym 11)))))))))) none)
noncomputable def Y1j : T_Y1j := Y1j.body Y1d Y1f Y1h Y1i
def Y1j.p : FPat := fp 132 (pl (pd Ty24) (pl (pb 0 94 Ty12) (pl (pd (.int .i64)) pz))) pz
def Y1j.g (F : T_Y1j) (v : Y1j.p.T) (k : KR) : OB := F v.1.1 v.1.2.1 v.1.2.2.1 (fun y0 y1 => k (.tup [(.d ⟨Ty12, y0⟩), (.d ⟨(.int .i64), y1⟩)]) [])
theorem Y1j.eq (F0 : T_Y1d) (F1 : T_Y1f) (F2 : T_Y1h) (F3 : T_Y1i) : ∀ v k, exF Tryz.f132 Y1j.p [⟨Y1d.p, Y1d.g F0⟩, ⟨Y1f.p, Y1f.g F1⟩, ⟨Y1h.p, Y1h.g F2⟩, ⟨Y1i.p, Y1i.g F3⟩] [] [] v k = Y1j.g (Y1j.body F0 F1 F2 F3) v k := fun v k => by kernel_rfl
theorem Y1j.ok : okF 4 Y1j.p (Y1j.g Y1j) := fn2 (Y1j.eq Y1d Y1f Y1h Y1i) Tryz.func132 (by kernel_rfl) (.cons Y1d.ok (.cons Y1f.ok (.cons Y1h.ok (.cons Y1i.ok .nil)))) [] (by kernel_rfl) .nil
abbrev T_Y1k : Type := Int → (Bool → OB) → OB
noncomputable def Y1k.body : T_Y1k := fun n0 k1 =>
  (cond_ (! (n0 == 0)) (k1 (n0 == 2)) (k1 true))
noncomputable def Y1k : T_Y1k := Y1k.body
def Y1k.p : FPat := fp 133 (pl (pd (.int .i64)) pz) pz
def Y1k.g (F : T_Y1k) (v : Y1k.p.T) (k : KR) : OB := F v.1.1 (fun y0 => k (.d ⟨.bool, y0⟩) [])
theorem Y1k.eq : ∀ v k, exF Tryz.f133 Y1k.p [] [] [] v k = Y1k.g (Y1k.body) v k := fun v k => by kernel_rfl
theorem Y1k.ok : okF 1 Y1k.p (Y1k.g Y1k) := fn2 (Y1k.eq) Tryz.func133 (by kernel_rfl) .nil [] (by kernel_rfl) .nil
abbrev T_Y1l : Type := Tc16 → Int → Int → (Int → OB) → OB
noncomputable def Y1l.body : T_Y1l := fun t0 n1 n2 k1 =>
  (cond_ (! (decide (n1 < 0))) (cond_ (decide (n1 ≥ (length t0.2.1 : Int))) (k1 9) (cond_ ((decide (0 ≤ n1)) && (decide (n1 < (length t0.2.1 : Int)))) (cond_ ((getD t0.2.1 (toNat n1) 0) != n2) (k1 8) (k1 0)) none)) (k1 9))
noncomputable def Y1l : T_Y1l := Y1l.body
def Y1l.p : FPat := fp 145 (pl (pd Ty24) (pl (pd (.int .i64)) (pl (pd (.int .i64)) pz))) pz
def Y1l.g (F : T_Y1l) (v : Y1l.p.T) (k : KR) : OB := F v.1.1 v.1.2.1 v.1.2.2.1 (fun y0 => k (.d ⟨(.int .i64), y0⟩) [])
theorem Y1l.eq : ∀ v k, exF Tryz.f145 Y1l.p [] [] [] v k = Y1l.g (Y1l.body) v k := fun v k => by kernel_rfl
theorem Y1l.ok : okF 1 Y1l.p (Y1l.g Y1l) := fn2 (Y1l.eq) Tryz.func145 (by kernel_rfl) .nil [] (by kernel_rfl) .nil
abbrev T_Y1m : Type := Int → (Bool → OB) → OB
noncomputable def Y1m.body (Yb : T_Yb) : T_Y1m := fun n0 k1 =>
  (Yb n0
 (fun b1 => (cond_ b1 (k1 ((Int.tmod n0 2) == 1)) (k1 false))))
noncomputable def Y1m : T_Y1m := Y1m.body Yb
def Y1m.p : FPat := fp 78 (pl (pd (.int .i64)) pz) pz
def Y1m.g (F : T_Y1m) (v : Y1m.p.T) (k : KR) : OB := F v.1.1 (fun y0 => k (.d ⟨.bool, y0⟩) [])
theorem Y1m.eq (F0 : T_Yb) : ∀ v k, exF Tryz.f78 Y1m.p [⟨Yb.p, Yb.g F0⟩] [] [] v k = Y1m.g (Y1m.body F0) v k := fun v k => by kernel_rfl
theorem Y1m.ok : okF 2 Y1m.p (Y1m.g Y1m) := fn2 (Y1m.eq Yb) Tryz.func78 (by kernel_rfl) (.cons Yb.ok .nil) [] (by kernel_rfl) .nil
abbrev T_Y1n : Type := Int → Int → Int → Tc16 → (Int → OB) → (OB) → OB
noncomputable def Y1n.body (Y1n : T_Y1n) (Y1l : T_Y1l) : T_Y1n := fun n0 n1 n2 t3 k1 k2 =>
  (cond_ (decide (n2 < (if (n1 < 1) then 1 else n1))) (Y1l t3 (IntKind.wrap .i64 (n0 + n2)) 0
 (fun n4 => (cond_ (n4 != 0) (k1 n4) (Y1n n0 n1 (IntKind.wrap .i64 (n2 + 1)) t3 k1 k2)))) (k2))
noncomputable def Y1n : Nat → T_Y1n
  | 0 => fun _ _ _ _ _ _ => none
  | n + 1 => Y1n.body (Y1n n) Y1l
def Y1n.p : LPat := lp 2 35 [1, 3, 7, 8] (pl (pd (.int .i64)) (ps (pq [1, 0] 0 0) (pl (pd (.int .i64)) (pl (pd (.int .i64)) pz)))) (pl (po [1, 0] 100 9 (es Ty24 (pl eh pz))) pz)
def Y1n.g (F : T_Y1n) (v : Y1n.p.T) (k : KE) : OB := F v.1.1 v.1.2.1 v.1.2.2.1 v.2.1.1 (fun y0 => k .ret ⟨fillS 35 [6] [(.d ⟨(.int .i64), y0⟩)], [], 2⟩) (k (.exit 0) ⟨fillS 35 [] [], [], 2⟩)
theorem Y1n.step (S : T_Y1n) (F0 : T_Y1l) : ∀ v k, exR 146 Tryz.f146 0 Y1n.p [⟨Y1l.p, Y1l.g F0⟩] [] [] (Y1n.g S) v k = Y1n.g (Y1n.body S F0) v k := fun v k => by kernel_rfl
theorem Y1n.ok : okL 146 Tryz.f146 1 0 Y1n.p (Y1n.g (Y1n ROUNDS)) := loop2 (G := fun n => Y1n.g (Y1n n)) (fun n => Y1n.step (Y1n n) Y1l) (.cons Y1l.ok .nil) [] (by kernel_rfl) .nil (fun _ _ => rfl)
abbrev T_Y1o : Type := Tc16 → Int → Int → (Int → OB) → OB
noncomputable def Y1o.body (Yr : T_Yr) (Y1m : T_Y1m) (Y1n : T_Y1n) : T_Y1o := fun t0 n1 n2 k1 =>
  (Yr n2
 (fun n3 => (cond_ (n3 == 0) (Y1m n2
 (fun b4 => (cond_ (! b4) (cond_ (n1 != 0) (k1 2) (k1 0)) (Y1n n1 n3 0 t0
 (fun n5 => (k1 n5))
  (k1 0))))) (Y1n n1 n3 0 t0
 (fun n6 => (k1 n6))
  (k1 0)))))
noncomputable def Y1o : T_Y1o := Y1o.body Yr Y1m (Y1n ROUNDS)
def Y1o.p : FPat := fp 146 (pl (pd Ty24) (pl (pd (.int .i64)) (pl (pd (.int .i64)) pz))) pz
def Y1o.g (F : T_Y1o) (v : Y1o.p.T) (k : KR) : OB := F v.1.1 v.1.2.1 v.1.2.2.1 (fun y0 => k (.d ⟨(.int .i64), y0⟩) [])
theorem Y1o.eq (F0 : T_Yr) (F1 : T_Y1m) (L0 : T_Y1n) : ∀ v k, exF Tryz.f146 Y1o.p [⟨Yr.p, Yr.g F0⟩, ⟨Y1m.p, Y1m.g F1⟩] [] [⟨0, Y1n.p, Y1n.g L0⟩] v k = Y1o.g (Y1o.body F0 F1 L0) v k := fun v k => by kernel_rfl
theorem Y1o.ok : okF 3 Y1o.p (Y1o.g Y1o) := fn2 (Y1o.eq Yr Y1m (Y1n ROUNDS)) Tryz.func146 (by kernel_rfl) (.cons Yr.ok (.cons Y1m.ok .nil)) [0] (by kernel_rfl) (.cons Y1n.ok .nil)
abbrev T_Y1p : Type := Tc16 → Int → Bool → (Int → OB) → OB
noncomputable def Y1p.body (Y1l : T_Y1l) : T_Y1p := fun t0 n1 b2 k1 =>
  (cond_ b2 (Y1l t0 n1 0
 (fun n3 => (k1 n3))) (cond_ (n1 != 0) (k1 2) (k1 0)))
noncomputable def Y1p : T_Y1p := Y1p.body Y1l
def Y1p.p : FPat := fp 147 (pl (pd Ty24) (pl (pd (.int .i64)) (pl (pd .bool) pz))) pz
def Y1p.g (F : T_Y1p) (v : Y1p.p.T) (k : KR) : OB := F v.1.1 v.1.2.1 v.1.2.2.1 (fun y0 => k (.d ⟨(.int .i64), y0⟩) [])
theorem Y1p.eq (F0 : T_Y1l) : ∀ v k, exF Tryz.f147 Y1p.p [⟨Y1l.p, Y1l.g F0⟩] [] [] v k = Y1p.g (Y1p.body F0) v k := fun v k => by kernel_rfl
theorem Y1p.ok : okF 2 Y1p.p (Y1p.g Y1p) := fn2 (Y1p.eq Y1l) Tryz.func147 (by kernel_rfl) (.cons Y1l.ok .nil) [] (by kernel_rfl) .nil
abbrev T_Y1q : Type := Tc16 → Tc3 → Tc7 → Int → Int → (Int → OB) → OB
noncomputable def Y1q.body (Y1l : T_Y1l) (Y1o : T_Y1o) (Yr : T_Yr) (Y1p : T_Y1p) (Y1m : T_Y1m) : T_Y1q := fun t0 t1 t2 n3 n4 k1 =>
  (cond_ (! (t1.1 == 19)) (cond_ (! (t1.1 == 17)) (cond_ (t1.1 == 21) (cond_ (t1.1 == 18) (cond_ (n3 == 119) (cond_ (n3 == 119) (Y1l t0 n4 0
 (fun n5 => (k1 n5))) (cond_ (n3 == 103) (cond_ (n3 == 103) (Y1l t0 n4 (IntKind.wrap .i64 (1 + (IntKind.wrap .i64 (t2.2.2.2.1 - 1))))
 (fun n6 => (k1 n6))) (cond_ (n3 == 99) (Y1o t0 n4 (IntKind.wrap .i64 (t2.2.2.2.1 - 1))
 (fun n7 => (k1 n7))) (cond_ (n3 == 100) (Yr (IntKind.wrap .i64 (t2.2.2.2.1 - 1))
 (fun n8 => (Y1p t0 n4 (decide (n8 > 0))
 (fun n9 => (k1 n9))))) (cond_ (n3 == 118) (Y1m t0.1
 (fun ba => (Y1p t0 n4 ba
 (fun nb => (k1 nb))))) (k1 0))))) (cond_ (n3 == 102) (Y1l t0 n4 (IntKind.wrap .i64 (1 + (IntKind.wrap .i64 (t2.2.2.2.1 - 1))))
 (fun nc => (k1 nc))) (cond_ (n3 == 99) (Y1o t0 n4 (IntKind.wrap .i64 (t2.2.2.2.1 - 1))
 (fun nd => (k1 nd))) (cond_ (n3 == 100) (Yr (IntKind.wrap .i64 (t2.2.2.2.1 - 1))
 (fun ne => (Y1p t0 n4 (decide (ne > 0))
 (fun nf => (k1 nf))))) (cond_ (n3 == 118) (Y1m t0.1
 (fun bg => (Y1p t0 n4 bg
 (fun nh => (k1 nh))))) (k1 0))))))) (cond_ (n3 == 114) (Y1l t0 n4 0
 (fun ni => (k1 ni))) (cond_ (n3 == 103) (cond_ (n3 == 103) (Y1l t0 n4 (IntKind.wrap .i64 (1 + (IntKind.wrap .i64 (t2.2.2.2.1 - 1))))
 (fun nj => (k1 nj))) (cond_ (n3 == 99) (Y1o t0 n4 (IntKind.wrap .i64 (t2.2.2.2.1 - 1))
 (fun nk => (k1 nk))) (cond_ (n3 == 100) (Yr (IntKind.wrap .i64 (t2.2.2.2.1 - 1))
 (fun nl => (Y1p t0 n4 (decide (nl > 0))
 (fun nm => (k1 nm))))) (cond_ (n3 == 118) (Y1m t0.1
 (fun bn => (Y1p t0 n4 bn
 (fun no => (k1 no))))) (k1 0))))) (cond_ (n3 == 102) (Y1l t0 n4 (IntKind.wrap .i64 (1 + (IntKind.wrap .i64 (t2.2.2.2.1 - 1))))
 (fun np => (k1 np))) (cond_ (n3 == 99) (Y1o t0 n4 (IntKind.wrap .i64 (t2.2.2.2.1 - 1))
 (fun nq => (k1 nq))) (cond_ (n3 == 100) (Yr (IntKind.wrap .i64 (t2.2.2.2.1 - 1))
 (fun nr => (Y1p t0 n4 (decide (nr > 0))
 (fun ns => (k1 ns))))) (cond_ (n3 == 118) (Y1m t0.1
 (fun bt => (Y1p t0 n4 bt
 (fun nu => (k1 nu))))) (k1 0)))))))) (cond_ (n3 == 119) (cond_ (n3 == 119) (Y1l t0 n4 0
 (fun nv => (k1 nv))) (cond_ (n3 == 103) (cond_ (n3 == 103) (Y1l t0 n4 (IntKind.wrap .i64 (1 + t2.2.2.2.1))
 (fun nw => (k1 nw))) (cond_ (n3 == 99) (Y1o t0 n4 t2.2.2.2.1
 (fun nx => (k1 nx))) (cond_ (n3 == 100) (Yr t2.2.2.2.1
 (fun ny => (Y1p t0 n4 (decide (ny > 0))
 (fun nz => (k1 nz))))) (cond_ (n3 == 118) (Y1m t0.1
 (fun b10 => (Y1p t0 n4 b10
 (fun n11 => (k1 n11))))) (k1 0))))) (cond_ (n3 == 102) (Y1l t0 n4 (IntKind.wrap .i64 (1 + t2.2.2.2.1))
 (fun n12 => (k1 n12))) (cond_ (n3 == 99) (Y1o t0 n4 t2.2.2.2.1
 (fun n13 => (k1 n13))) (cond_ (n3 == 100) (Yr t2.2.2.2.1
 (fun n14 => (Y1p t0 n4 (decide (n14 > 0))
 (fun n15 => (k1 n15))))) (cond_ (n3 == 118) (Y1m t0.1
 (fun b16 => (Y1p t0 n4 b16
 (fun n17 => (k1 n17))))) (k1 0))))))) (cond_ (n3 == 114) (Y1l t0 n4 0
 (fun n18 => (k1 n18))) (cond_ (n3 == 103) (cond_ (n3 == 103) (Y1l t0 n4 (IntKind.wrap .i64 (1 + t2.2.2.2.1))
 (fun n19 => (k1 n19))) (cond_ (n3 == 99) (Y1o t0 n4 t2.2.2.2.1
 (fun n1a => (k1 n1a))) (cond_ (n3 == 100) (Yr t2.2.2.2.1
 (fun n1b => (Y1p t0 n4 (decide (n1b > 0))
 (fun n1c => (k1 n1c))))) (cond_ (n3 == 118) (Y1m t0.1
 (fun b1d => (Y1p t0 n4 b1d
 (fun n1e => (k1 n1e))))) (k1 0))))) (cond_ (n3 == 102) (Y1l t0 n4 (IntKind.wrap .i64 (1 + t2.2.2.2.1))
 (fun n1f => (k1 n1f))) (cond_ (n3 == 99) (Y1o t0 n4 t2.2.2.2.1
 (fun n1g => (k1 n1g))) (cond_ (n3 == 100) (Yr t2.2.2.2.1
 (fun n1h => (Y1p t0 n4 (decide (n1h > 0))
 (fun n1i => (k1 n1i))))) (cond_ (n3 == 118) (Y1m t0.1
 (fun b1j => (Y1p t0 n4 b1j
 (fun n1k => (k1 n1k))))) (k1 0))))))))) (cond_ (t1.1 == 18) (cond_ (n3 == 119) (cond_ (n3 == 119) (Y1l t0 n4 0
 (fun n1l => (k1 n1l))) (cond_ (n3 == 103) (cond_ (n3 == 103) (Y1l t0 n4 (IntKind.wrap .i64 (1 + (IntKind.wrap .i64 (t2.2.2.2.1 - 1))))
 (fun n1m => (k1 n1m))) (cond_ (n3 == 99) (Y1o t0 n4 (IntKind.wrap .i64 (t2.2.2.2.1 - 1))
 (fun n1n => (k1 n1n))) (cond_ (n3 == 100) (Yr (IntKind.wrap .i64 (t2.2.2.2.1 - 1))
 (fun n1o => (Y1p t0 n4 (decide (n1o > 0))
 (fun n1p => (k1 n1p))))) (cond_ (n3 == 118) (Y1m t0.1
 (fun b1q => (Y1p t0 n4 b1q
 (fun n1r => (k1 n1r))))) (k1 0))))) (cond_ (n3 == 102) (Y1l t0 n4 (IntKind.wrap .i64 (1 + (IntKind.wrap .i64 (t2.2.2.2.1 - 1))))
 (fun n1s => (k1 n1s))) (cond_ (n3 == 99) (Y1o t0 n4 (IntKind.wrap .i64 (t2.2.2.2.1 - 1))
 (fun n1t => (k1 n1t))) (cond_ (n3 == 100) (Yr (IntKind.wrap .i64 (t2.2.2.2.1 - 1))
 (fun n1u => (Y1p t0 n4 (decide (n1u > 0))
 (fun n1v => (k1 n1v))))) (cond_ (n3 == 118) (Y1m t0.1
 (fun b1w => (Y1p t0 n4 b1w
 (fun n1x => (k1 n1x))))) (k1 0))))))) (cond_ (n3 == 114) (Y1l t0 n4 0
 (fun n1y => (k1 n1y))) (cond_ (n3 == 103) (cond_ (n3 == 103) (Y1l t0 n4 (IntKind.wrap .i64 (1 + (IntKind.wrap .i64 (t2.2.2.2.1 - 1))))
 (fun n1z => (k1 n1z))) (cond_ (n3 == 99) (Y1o t0 n4 (IntKind.wrap .i64 (t2.2.2.2.1 - 1))
 (fun n20 => (k1 n20))) (cond_ (n3 == 100) (Yr (IntKind.wrap .i64 (t2.2.2.2.1 - 1))
 (fun n21 => (Y1p t0 n4 (decide (n21 > 0))
 (fun n22 => (k1 n22))))) (cond_ (n3 == 118) (Y1m t0.1
 (fun b23 => (Y1p t0 n4 b23
 (fun n24 => (k1 n24))))) (k1 0))))) (cond_ (n3 == 102) (Y1l t0 n4 (IntKind.wrap .i64 (1 + (IntKind.wrap .i64 (t2.2.2.2.1 - 1))))
 (fun n25 => (k1 n25))) (cond_ (n3 == 99) (Y1o t0 n4 (IntKind.wrap .i64 (t2.2.2.2.1 - 1))
 (fun n26 => (k1 n26))) (cond_ (n3 == 100) (Yr (IntKind.wrap .i64 (t2.2.2.2.1 - 1))
 (fun n27 => (Y1p t0 n4 (decide (n27 > 0))
 (fun n28 => (k1 n28))))) (cond_ (n3 == 118) (Y1m t0.1
 (fun b29 => (Y1p t0 n4 b29
 (fun n2a => (k1 n2a))))) (k1 0)))))))) (cond_ (n3 == 119) (cond_ (n3 == 119) (Y1l t0 n4 0
 (fun n2b => (k1 n2b))) (cond_ (n3 == 103) (cond_ (n3 == 103) (Y1l t0 n4 (IntKind.wrap .i64 (1 + t1.2.2.2.1))
 (fun n2c => (k1 n2c))) (cond_ (n3 == 99) (Y1o t0 n4 t1.2.2.2.1
 (fun n2d => (k1 n2d))) (cond_ (n3 == 100) (Yr t1.2.2.2.1
 (fun n2e => (Y1p t0 n4 (decide (n2e > 0))
 (fun n2f => (k1 n2f))))) (cond_ (n3 == 118) (Y1m t0.1
 (fun b2g => (Y1p t0 n4 b2g
 (fun n2h => (k1 n2h))))) (k1 0))))) (cond_ (n3 == 102) (Y1l t0 n4 (IntKind.wrap .i64 (1 + t1.2.2.2.1))
 (fun n2i => (k1 n2i))) (cond_ (n3 == 99) (Y1o t0 n4 t1.2.2.2.1
 (fun n2j => (k1 n2j))) (cond_ (n3 == 100) (Yr t1.2.2.2.1
 (fun n2k => (Y1p t0 n4 (decide (n2k > 0))
 (fun n2l => (k1 n2l))))) (cond_ (n3 == 118) (Y1m t0.1
 (fun b2m => (Y1p t0 n4 b2m
 (fun n2n => (k1 n2n))))) (k1 0))))))) (cond_ (n3 == 114) (Y1l t0 n4 0
 (fun n2o => (k1 n2o))) (cond_ (n3 == 103) (cond_ (n3 == 103) (Y1l t0 n4 (IntKind.wrap .i64 (1 + t1.2.2.2.1))
 (fun n2p => (k1 n2p))) (cond_ (n3 == 99) (Y1o t0 n4 t1.2.2.2.1
 (fun n2q => (k1 n2q))) (cond_ (n3 == 100) (Yr t1.2.2.2.1
 (fun n2r => (Y1p t0 n4 (decide (n2r > 0))
 (fun n2s => (k1 n2s))))) (cond_ (n3 == 118) (Y1m t0.1
 (fun b2t => (Y1p t0 n4 b2t
 (fun n2u => (k1 n2u))))) (k1 0))))) (cond_ (n3 == 102) (Y1l t0 n4 (IntKind.wrap .i64 (1 + t1.2.2.2.1))
 (fun n2v => (k1 n2v))) (cond_ (n3 == 99) (Y1o t0 n4 t1.2.2.2.1
 (fun n2w => (k1 n2w))) (cond_ (n3 == 100) (Yr t1.2.2.2.1
 (fun n2x => (Y1p t0 n4 (decide (n2x > 0))
 (fun n2y => (k1 n2y))))) (cond_ (n3 == 118) (Y1m t0.1
 (fun b2z => (Y1p t0 n4 b2z
 (fun n30 => (k1 n30))))) (k1 0)))))))))) (cond_ (t1.1 == 18) (cond_ (n3 == 119) (cond_ (n3 == 119) (Y1l t0 n4 0
 (fun n31 => (k1 n31))) (cond_ (n3 == 103) (cond_ (n3 == 103) (Y1l t0 n4 (IntKind.wrap .i64 (1 + (IntKind.wrap .i64 (t2.2.2.2.1 - 1))))
 (fun n32 => (k1 n32))) (cond_ (n3 == 99) (Y1o t0 n4 (IntKind.wrap .i64 (t2.2.2.2.1 - 1))
 (fun n33 => (k1 n33))) (cond_ (n3 == 100) (Yr (IntKind.wrap .i64 (t2.2.2.2.1 - 1))
 (fun n34 => (Y1p t0 n4 (decide (n34 > 0))
 (fun n35 => (k1 n35))))) (cond_ (n3 == 118) (Y1m t0.1
 (fun b36 => (Y1p t0 n4 b36
 (fun n37 => (k1 n37))))) (k1 0))))) (cond_ (n3 == 102) (Y1l t0 n4 (IntKind.wrap .i64 (1 + (IntKind.wrap .i64 (t2.2.2.2.1 - 1))))
 (fun n38 => (k1 n38))) (cond_ (n3 == 99) (Y1o t0 n4 (IntKind.wrap .i64 (t2.2.2.2.1 - 1))
 (fun n39 => (k1 n39))) (cond_ (n3 == 100) (Yr (IntKind.wrap .i64 (t2.2.2.2.1 - 1))
 (fun n3a => (Y1p t0 n4 (decide (n3a > 0))
 (fun n3b => (k1 n3b))))) (cond_ (n3 == 118) (Y1m t0.1
 (fun b3c => (Y1p t0 n4 b3c
 (fun n3d => (k1 n3d))))) (k1 0))))))) (cond_ (n3 == 114) (Y1l t0 n4 0
 (fun n3e => (k1 n3e))) (cond_ (n3 == 103) (cond_ (n3 == 103) (Y1l t0 n4 (IntKind.wrap .i64 (1 + (IntKind.wrap .i64 (t2.2.2.2.1 - 1))))
 (fun n3f => (k1 n3f))) (cond_ (n3 == 99) (Y1o t0 n4 (IntKind.wrap .i64 (t2.2.2.2.1 - 1))
 (fun n3g => (k1 n3g))) (cond_ (n3 == 100) (Yr (IntKind.wrap .i64 (t2.2.2.2.1 - 1))
 (fun n3h => (Y1p t0 n4 (decide (n3h > 0))
 (fun n3i => (k1 n3i))))) (cond_ (n3 == 118) (Y1m t0.1
 (fun b3j => (Y1p t0 n4 b3j
 (fun n3k => (k1 n3k))))) (k1 0))))) (cond_ (n3 == 102) (Y1l t0 n4 (IntKind.wrap .i64 (1 + (IntKind.wrap .i64 (t2.2.2.2.1 - 1))))
 (fun n3l => (k1 n3l))) (cond_ (n3 == 99) (Y1o t0 n4 (IntKind.wrap .i64 (t2.2.2.2.1 - 1))
 (fun n3m => (k1 n3m))) (cond_ (n3 == 100) (Yr (IntKind.wrap .i64 (t2.2.2.2.1 - 1))
 (fun n3n => (Y1p t0 n4 (decide (n3n > 0))
 (fun n3o => (k1 n3o))))) (cond_ (n3 == 118) (Y1m t0.1
 (fun b3p => (Y1p t0 n4 b3p
 (fun n3q => (k1 n3q))))) (k1 0)))))))) (cond_ (n3 == 119) (cond_ (n3 == 119) (Y1l t0 n4 0
 (fun n3r => (k1 n3r))) (cond_ (n3 == 103) (cond_ (n3 == 103) (Y1l t0 n4 (IntKind.wrap .i64 (1 + t2.2.2.2.1))
 (fun n3s => (k1 n3s))) (cond_ (n3 == 99) (Y1o t0 n4 t2.2.2.2.1
 (fun n3t => (k1 n3t))) (cond_ (n3 == 100) (Yr t2.2.2.2.1
 (fun n3u => (Y1p t0 n4 (decide (n3u > 0))
 (fun n3v => (k1 n3v))))) (cond_ (n3 == 118) (Y1m t0.1
 (fun b3w => (Y1p t0 n4 b3w
 (fun n3x => (k1 n3x))))) (k1 0))))) (cond_ (n3 == 102) (Y1l t0 n4 (IntKind.wrap .i64 (1 + t2.2.2.2.1))
 (fun n3y => (k1 n3y))) (cond_ (n3 == 99) (Y1o t0 n4 t2.2.2.2.1
 (fun n3z => (k1 n3z))) (cond_ (n3 == 100) (Yr t2.2.2.2.1
 (fun n40 => (Y1p t0 n4 (decide (n40 > 0))
 (fun n41 => (k1 n41))))) (cond_ (n3 == 118) (Y1m t0.1
 (fun b42 => (Y1p t0 n4 b42
 (fun n43 => (k1 n43))))) (k1 0))))))) (cond_ (n3 == 114) (Y1l t0 n4 0
 (fun n44 => (k1 n44))) (cond_ (n3 == 103) (cond_ (n3 == 103) (Y1l t0 n4 (IntKind.wrap .i64 (1 + t2.2.2.2.1))
 (fun n45 => (k1 n45))) (cond_ (n3 == 99) (Y1o t0 n4 t2.2.2.2.1
 (fun n46 => (k1 n46))) (cond_ (n3 == 100) (Yr t2.2.2.2.1
 (fun n47 => (Y1p t0 n4 (decide (n47 > 0))
 (fun n48 => (k1 n48))))) (cond_ (n3 == 118) (Y1m t0.1
 (fun b49 => (Y1p t0 n4 b49
 (fun n4a => (k1 n4a))))) (k1 0))))) (cond_ (n3 == 102) (Y1l t0 n4 (IntKind.wrap .i64 (1 + t2.2.2.2.1))
 (fun n4b => (k1 n4b))) (cond_ (n3 == 99) (Y1o t0 n4 t2.2.2.2.1
 (fun n4c => (k1 n4c))) (cond_ (n3 == 100) (Yr t2.2.2.2.1
 (fun n4d => (Y1p t0 n4 (decide (n4d > 0))
 (fun n4e => (k1 n4e))))) (cond_ (n3 == 118) (Y1m t0.1
 (fun b4f => (Y1p t0 n4 b4f
 (fun n4g => (k1 n4g))))) (k1 0)))))))))) (cond_ (t1.1 == 18) (cond_ (n3 == 119) (cond_ (n3 == 119) (Y1l t0 n4 0
 (fun n4h => (k1 n4h))) (cond_ (n3 == 103) (cond_ (n3 == 103) (Y1l t0 n4 (IntKind.wrap .i64 (1 + (IntKind.wrap .i64 (t2.2.2.2.1 - 1))))
 (fun n4i => (k1 n4i))) (cond_ (n3 == 99) (Y1o t0 n4 (IntKind.wrap .i64 (t2.2.2.2.1 - 1))
 (fun n4j => (k1 n4j))) (cond_ (n3 == 100) (Yr (IntKind.wrap .i64 (t2.2.2.2.1 - 1))
 (fun n4k => (Y1p t0 n4 (decide (n4k > 0))
 (fun n4l => (k1 n4l))))) (cond_ (n3 == 118) (Y1m t0.1
 (fun b4m => (Y1p t0 n4 b4m
 (fun n4n => (k1 n4n))))) (k1 0))))) (cond_ (n3 == 102) (Y1l t0 n4 (IntKind.wrap .i64 (1 + (IntKind.wrap .i64 (t2.2.2.2.1 - 1))))
 (fun n4o => (k1 n4o))) (cond_ (n3 == 99) (Y1o t0 n4 (IntKind.wrap .i64 (t2.2.2.2.1 - 1))
 (fun n4p => (k1 n4p))) (cond_ (n3 == 100) (Yr (IntKind.wrap .i64 (t2.2.2.2.1 - 1))
 (fun n4q => (Y1p t0 n4 (decide (n4q > 0))
 (fun n4r => (k1 n4r))))) (cond_ (n3 == 118) (Y1m t0.1
 (fun b4s => (Y1p t0 n4 b4s
 (fun n4t => (k1 n4t))))) (k1 0))))))) (cond_ (n3 == 114) (Y1l t0 n4 0
 (fun n4u => (k1 n4u))) (cond_ (n3 == 103) (cond_ (n3 == 103) (Y1l t0 n4 (IntKind.wrap .i64 (1 + (IntKind.wrap .i64 (t2.2.2.2.1 - 1))))
 (fun n4v => (k1 n4v))) (cond_ (n3 == 99) (Y1o t0 n4 (IntKind.wrap .i64 (t2.2.2.2.1 - 1))
 (fun n4w => (k1 n4w))) (cond_ (n3 == 100) (Yr (IntKind.wrap .i64 (t2.2.2.2.1 - 1))
 (fun n4x => (Y1p t0 n4 (decide (n4x > 0))
 (fun n4y => (k1 n4y))))) (cond_ (n3 == 118) (Y1m t0.1
 (fun b4z => (Y1p t0 n4 b4z
 (fun n50 => (k1 n50))))) (k1 0))))) (cond_ (n3 == 102) (Y1l t0 n4 (IntKind.wrap .i64 (1 + (IntKind.wrap .i64 (t2.2.2.2.1 - 1))))
 (fun n51 => (k1 n51))) (cond_ (n3 == 99) (Y1o t0 n4 (IntKind.wrap .i64 (t2.2.2.2.1 - 1))
 (fun n52 => (k1 n52))) (cond_ (n3 == 100) (Yr (IntKind.wrap .i64 (t2.2.2.2.1 - 1))
 (fun n53 => (Y1p t0 n4 (decide (n53 > 0))
 (fun n54 => (k1 n54))))) (cond_ (n3 == 118) (Y1m t0.1
 (fun b55 => (Y1p t0 n4 b55
 (fun n56 => (k1 n56))))) (k1 0)))))))) (cond_ (n3 == 119) (cond_ (n3 == 119) (Y1l t0 n4 0
 (fun n57 => (k1 n57))) (cond_ (n3 == 103) (cond_ (n3 == 103) (Y1l t0 n4 (IntKind.wrap .i64 (1 + t2.2.2.2.1))
 (fun n58 => (k1 n58))) (cond_ (n3 == 99) (Y1o t0 n4 t2.2.2.2.1
 (fun n59 => (k1 n59))) (cond_ (n3 == 100) (Yr t2.2.2.2.1
 (fun n5a => (Y1p t0 n4 (decide (n5a > 0))
 (fun n5b => (k1 n5b))))) (cond_ (n3 == 118) (Y1m t0.1
 (fun b5c => (Y1p t0 n4 b5c
 (fun n5d => (k1 n5d))))) (k1 0))))) (cond_ (n3 == 102) (Y1l t0 n4 (IntKind.wrap .i64 (1 + t2.2.2.2.1))
 (fun n5e => (k1 n5e))) (cond_ (n3 == 99) (Y1o t0 n4 t2.2.2.2.1
 (fun n5f => (k1 n5f))) (cond_ (n3 == 100) (Yr t2.2.2.2.1
 (fun n5g => (Y1p t0 n4 (decide (n5g > 0))
 (fun n5h => (k1 n5h))))) (cond_ (n3 == 118) (Y1m t0.1
 (fun b5i => (Y1p t0 n4 b5i
 (fun n5j => (k1 n5j))))) (k1 0))))))) (cond_ (n3 == 114) (Y1l t0 n4 0
 (fun n5k => (k1 n5k))) (cond_ (n3 == 103) (cond_ (n3 == 103) (Y1l t0 n4 (IntKind.wrap .i64 (1 + t2.2.2.2.1))
 (fun n5l => (k1 n5l))) (cond_ (n3 == 99) (Y1o t0 n4 t2.2.2.2.1
 (fun n5m => (k1 n5m))) (cond_ (n3 == 100) (Yr t2.2.2.2.1
 (fun n5n => (Y1p t0 n4 (decide (n5n > 0))
 (fun n5o => (k1 n5o))))) (cond_ (n3 == 118) (Y1m t0.1
 (fun b5p => (Y1p t0 n4 b5p
 (fun n5q => (k1 n5q))))) (k1 0))))) (cond_ (n3 == 102) (Y1l t0 n4 (IntKind.wrap .i64 (1 + t2.2.2.2.1))
 (fun n5r => (k1 n5r))) (cond_ (n3 == 99) (Y1o t0 n4 t2.2.2.2.1
 (fun n5s => (k1 n5s))) (cond_ (n3 == 100) (Yr t2.2.2.2.1
 (fun n5t => (Y1p t0 n4 (decide (n5t > 0))
 (fun n5u => (k1 n5u))))) (cond_ (n3 == 118) (Y1m t0.1
 (fun b5v => (Y1p t0 n4 b5v
 (fun n5w => (k1 n5w))))) (k1 0))))))))))
noncomputable def Y1q : T_Y1q := Y1q.body Y1l Y1o Yr Y1p Y1m
def Y1q.p : FPat := fp 135 (pl (pd Ty24) (pl (pd Ty15) (pl (pd Ty12) (pl (pd (.int .u8)) (pl (pd (.int .i64)) pz))))) pz
def Y1q.g (F : T_Y1q) (v : Y1q.p.T) (k : KR) : OB := F v.1.1 v.1.2.1 v.1.2.2.1 v.1.2.2.2.1 v.1.2.2.2.2.1 (fun y0 => k (.d ⟨(.int .i64), y0⟩) [])
theorem Y1q.eq (F0 : T_Y1l) (F1 : T_Y1o) (F2 : T_Yr) (F3 : T_Y1p) (F4 : T_Y1m) : ∀ v k, exF Tryz.f135 Y1q.p [⟨Y1l.p, Y1l.g F0⟩, ⟨Y1o.p, Y1o.g F1⟩, ⟨Yr.p, Yr.g F2⟩, ⟨Y1p.p, Y1p.g F3⟩, ⟨Y1m.p, Y1m.g F4⟩] [] [] v k = Y1q.g (Y1q.body F0 F1 F2 F3 F4) v k := fun v k => by kernel_rfl
theorem Y1q.ok : okF 4 Y1q.p (Y1q.g Y1q) := fn2 (Y1q.eq Y1l Y1o Yr Y1p Y1m) Tryz.func135 (by kernel_rfl) (.cons Y1l.ok (.cons Y1o.ok (.cons Yr.ok (.cons Y1p.ok (.cons Y1m.ok .nil))))) [] (by kernel_rfl) .nil
abbrev T_Y1r : Type := ByteArray → Int → Tc16 → Tc3 → Tc7 → (Int → OB) → (OB) → OB
noncomputable def Y1r.body (Y1r : T_Y1r) (Y11 : T_Y11) (Y1q : T_Y1q) : T_Y1r := fun s0 n1 t2 t3 t4 k1 k2 =>
  (cond_ (decide (n1 < (((ByteArray.size s0) : Nat) : Int))) (cond_ ((decide (0 ≤ n1)) && (decide (n1 < (((ByteArray.size s0) : Nat) : Int)))) (Y11 t3 n1
 (fun n5 => (Y1q t2 t3 t4 (((UInt8.toNat (getD (Array.toList (ByteArray.data s0)) (toNat n1) (0 : UInt8))) : Nat) : Int) n5
 (fun n6 => (cond_ (n6 != 0) (k1 n6) (Y1r s0 (IntKind.wrap .i64 (n1 + 1)) t2 t3 t4 k1 k2)))))) none) (k2))
noncomputable def Y1r : Nat → T_Y1r
  | 0 => fun _ _ _ _ _ _ _ => none
  | n + 1 => Y1r.body (Y1r n) Y11 Y1q
def Y1r.p : LPat := lp 2 79 [3, 7, 8, 10, 11] (ps (pq [1, 0] 0 0) (ps (pq [1, 1] 0 0) (ps (pq [1, 2] 0 0) (pl (pd .str) (pl (pd (.int .i64)) pz))))) (pl (po [1, 0] 100 9 (es Ty24 (pl eh pz))) (pl (po [1, 1] 69 5 (es Ty15 (pl eh pz))) (pl (po [1, 2] 94 5 (es Ty12 (pl eh pz))) pz)))
def Y1r.g (F : T_Y1r) (v : Y1r.p.T) (k : KE) : OB := F v.1.1 v.1.2.1 v.2.1.1 v.2.2.1.1 v.2.2.2.1.1 (fun y0 => k .ret ⟨fillS 79 [6] [(.d ⟨(.int .i64), y0⟩)], [], 2⟩) (k (.exit 0) ⟨fillS 79 [] [], [], 2⟩)
theorem Y1r.step (S : T_Y1r) (F0 : T_Y11) (F1 : T_Y1q) : ∀ v k, exR 125 Tryz.f125 0 Y1r.p [⟨Y11.p, Y11.g F0⟩, ⟨Y1q.p, Y1q.g F1⟩] [] [] (Y1r.g S) v k = Y1r.g (Y1r.body S F0 F1) v k := fun v k => by kernel_rfl
theorem Y1r.ok : okL 125 Tryz.f125 4 0 Y1r.p (Y1r.g (Y1r ROUNDS)) := loop2 (G := fun n => Y1r.g (Y1r n)) (fun n => Y1r.step (Y1r n) Y11 Y1q) (.cons Y11.ok (.cons Y1q.ok .nil)) [] (by kernel_rfl) .nil (fun _ _ => rfl)
abbrev T_Y1s : Type := Tc16 → Tc11 → Int → (Int → OB) → OB
noncomputable def Y1s.body (Y1j : T_Y1j) (Yb : T_Yb) (Y1k : T_Y1k) (Y13 : T_Y13) (Y1r : T_Y1r) : T_Y1s := fun t0 t1 n2 k1 =>
  (cond_ (! (decide (n2 < 0))) (cond_ (decide (n2 ≥ (length t0.2.2.2.2.2.2.2.1 : Int))) (k1 2) (cond_ ((decide (0 ≤ n2)) && (decide (n2 < (length t0.2.2.2.2.2.2.2.1 : Int)))) (Y1j t0 t1 n2
 (fun t3 n4 => (cond_ (n4 != 0) (k1 n4) (cond_ ((getD t0.2.2.2.2.2.2.2.1 (toNat n2) ZIns).1 == 20) (Yb (getD t0.2.2.2.2.2.2.2.1 (toNat n2) ZIns).2.2.2.1
 (fun b5 => (cond_ (! (! b5)) (cond_ ((getD t0.2.2.2.2.2.2.2.1 (toNat n2) ZIns).1 == 21) (Y1k t3.2.2.2.1
 (fun b6 => (cond_ (! b6) (k1 14) (Y13 (getD t0.2.2.2.2.2.2.2.1 (toNat n2) ZIns).1
 (fun s7 => (Y1r s7 0 t0 (getD t0.2.2.2.2.2.2.2.1 (toNat n2) ZIns) t3
 (fun n8 => (k1 n8))
  (k1 0))))))) (Y13 (getD t0.2.2.2.2.2.2.2.1 (toNat n2) ZIns).1
 (fun s9 => (Y1r s9 0 t0 (getD t0.2.2.2.2.2.2.2.1 (toNat n2) ZIns) t3
 (fun na => (k1 na))
  (k1 0))))) (k1 14)))) (cond_ ((getD t0.2.2.2.2.2.2.2.1 (toNat n2) ZIns).1 == 21) (Y1k t3.2.2.2.1
 (fun bb => (cond_ (! bb) (k1 14) (Y13 (getD t0.2.2.2.2.2.2.2.1 (toNat n2) ZIns).1
 (fun sc => (Y1r sc 0 t0 (getD t0.2.2.2.2.2.2.2.1 (toNat n2) ZIns) t3
 (fun nd => (k1 nd))
  (k1 0))))))) (Y13 (getD t0.2.2.2.2.2.2.2.1 (toNat n2) ZIns).1
 (fun se => (Y1r se 0 t0 (getD t0.2.2.2.2.2.2.2.1 (toNat n2) ZIns) t3
 (fun nf => (k1 nf))
  (k1 0))))))))) none)) (k1 2))
noncomputable def Y1s : T_Y1s := Y1s.body Y1j Yb Y1k Y13 (Y1r ROUNDS)
def Y1s.p : FPat := fp 125 (pl (pd Ty24) (pl (pb 0 94 Ty12) (pl (pd (.int .i64)) pz))) pz
def Y1s.g (F : T_Y1s) (v : Y1s.p.T) (k : KR) : OB := F v.1.1 v.1.2.1 v.1.2.2.1 (fun y0 => k (.d ⟨(.int .i64), y0⟩) [])
theorem Y1s.eq (F0 : T_Y1j) (F1 : T_Yb) (F2 : T_Y1k) (F3 : T_Y13) (L0 : T_Y1r) : ∀ v k, exF Tryz.f125 Y1s.p [⟨Y1j.p, Y1j.g F0⟩, ⟨Yb.p, Yb.g F1⟩, ⟨Y1k.p, Y1k.g F2⟩, ⟨Y13.p, Y13.g F3⟩] [] [⟨0, Y1r.p, Y1r.g L0⟩] v k = Y1s.g (Y1s.body F0 F1 F2 F3 L0) v k := fun v k => by kernel_rfl
theorem Y1s.ok : okF 5 Y1s.p (Y1s.g Y1s) := fn2 (Y1s.eq Y1j Yb Y1k Y13 (Y1r ROUNDS)) Tryz.func125 (by kernel_rfl) (.cons Y1j.ok (.cons Yb.ok (.cons Y1k.ok (.cons Y13.ok .nil)))) [0] (by kernel_rfl) (.cons Y1r.ok .nil)
abbrev T_Y1t : Type := Tc11 → Int → Tc16 → (Int → Int → OB) → (OB) → OB
noncomputable def Y1t.body (Y1t : T_Y1t) (Y1s : T_Y1s) : T_Y1t := fun t0 n1 t2 k1 k2 =>
  (cond_ (decide (n1 < (length t2.2.2.2.2.2.2.2.1 : Int))) (Y1s t2 t0 n1
 (fun n3 => (cond_ (n3 != 0) (k1 n3 n1) (Y1t t0 (IntKind.wrap .i64 (n1 + 1)) t2 k1 k2)))) (k2))
noncomputable def Y1t : Nat → T_Y1t
  | 0 => fun _ _ _ _ _ => none
  | n + 1 => Y1t.body (Y1t n) Y1s
def Y1t.p : LPat := lp 2 29 [1, 2, 7] (pl (pb 0 94 Ty12) (ps (pq [1, 0] 0 0) (pl (pd (.int .i64)) pz))) (pl (po [1, 0] 100 9 (es Ty24 (pl eh pz))) pz)
def Y1t.g (F : T_Y1t) (v : Y1t.p.T) (k : KE) : OB := F v.1.1 v.1.2.1 v.2.1.1 (fun y0 y1 => k .ret ⟨fillS 29 [4, 5] [(.d ⟨(.int .i64), y0⟩), (.d ⟨(.int .i64), y1⟩)], [], 2⟩) (k (.exit 0) ⟨fillS 29 [] [], [], 2⟩)
theorem Y1t.step (S : T_Y1t) (F0 : T_Y1s) : ∀ v k, exR 112 Tryz.f112 0 Y1t.p [⟨Y1s.p, Y1s.g F0⟩] [] [] (Y1t.g S) v k = Y1t.g (Y1t.body S F0) v k := fun v k => by kernel_rfl
theorem Y1t.ok : okL 112 Tryz.f112 5 0 Y1t.p (Y1t.g (Y1t ROUNDS)) := loop2 (G := fun n => Y1t.g (Y1t n)) (fun n => Y1t.step (Y1t n) Y1s) (.cons Y1s.ok .nil) [] (by kernel_rfl) .nil (fun _ _ => rfl)
abbrev T_Y1u : Type := Tc16 → Tc11 → (Int → Int → OB) → OB
noncomputable def Y1u.body (Y1c : T_Y1c) (Y1t : T_Y1t) : T_Y1u := fun t0 t1 k1 =>
  (Y1c t0
 (fun n2 => (cond_ (n2 != 0) (k1 n2 (-1)) (Y1t t1 0 t0
 (fun n3 n4 => (k1 n3 n4))
  (k1 0 (-1))))))
noncomputable def Y1u : T_Y1u := Y1u.body Y1c (Y1t ROUNDS)
def Y1u.p : FPat := fp 112 (pl (pd Ty24) (pl (pb 0 94 Ty12) pz)) pz
def Y1u.g (F : T_Y1u) (v : Y1u.p.T) (k : KR) : OB := F v.1.1 v.1.2.1 (fun y0 y1 => k (.tup [(.d ⟨(.int .i64), y0⟩), (.d ⟨(.int .i64), y1⟩)]) [])
theorem Y1u.eq (F0 : T_Y1c) (L0 : T_Y1t) : ∀ v k, exF Tryz.f112 Y1u.p [⟨Y1c.p, Y1c.g F0⟩] [] [⟨0, Y1t.p, Y1t.g L0⟩] v k = Y1u.g (Y1u.body F0 L0) v k := fun v k => by kernel_rfl
theorem Y1u.ok : okF 8 Y1u.p (Y1u.g Y1u) := fn2 (Y1u.eq Y1c (Y1t ROUNDS)) Tryz.func112 (by kernel_rfl) (.cons Y1c.ok .nil) [0] (by kernel_rfl) (.cons Y1t.ok .nil)
abbrev T_Y1v : Type := Tc8 → Int → (List Int) → ((List Int) → OB) → OB
noncomputable def Y1v.body (Y1v : T_Y1v) : T_Y1v := fun t0 n1 n2 k1 =>
  (cond_ (decide (n1 < (length t0 : Int))) (cond_ ((decide (0 ≤ n1)) && (decide (n1 < (length t0 : Int)))) (cond_ ((getD t0 (toNat n1) ZIns).1 == 21) (cond_ (Nat.ble (((length n2) + (length (n1 :: []))) * (8 : Nat)) (140737488355328 : Nat)) (Y1v t0 (IntKind.wrap .i64 (n1 + 1)) (n2 ++ (n1 :: [])) k1) none) (Y1v t0 (IntKind.wrap .i64 (n1 + 1)) n2 k1)) none) (k1 n2))
noncomputable def Y1v : Nat → T_Y1v
  | 0 => fun _ _ _ _ => none
  | n + 1 => Y1v.body (Y1v n)
def Y1v.p : LPat := lp 2 22 [0, 3, 4] (pl (pb 0 69 Ty15) (ps (pr [1, 0]) (pl (pd (.int .i64)) pz))) (pl (po [1, 0] 3 1 (ed (.int .i64))) pz)
def Y1v.g (F : T_Y1v) (v : Y1v.p.T) (k : KE) : OB := F v.1.1 v.1.2.1 v.2.1 (fun y0 => k (.exit 0) ⟨fillS 22 [3] [(.ref [1, 0])], [([1, 0], ⟨3, 1, (.data (.int .i64) y0)⟩)], 2⟩)
theorem Y1v.step (S : T_Y1v) : ∀ v k, exR 127 Tryz.f127 0 Y1v.p [] [] [] (Y1v.g S) v k = Y1v.g (Y1v.body S) v k := fun v k => by kernel_rfl
theorem Y1v.ok : okL 127 Tryz.f127 0 0 Y1v.p (Y1v.g (Y1v ROUNDS)) := loop2 (G := fun n => Y1v.g (Y1v n)) (fun n => Y1v.step (Y1v n)) .nil [] (by kernel_rfl) .nil (fun _ _ => rfl)
abbrev T_Y1w : Type := Tc8 → ((List Int) → OB) → OB
noncomputable def Y1w.body (Y1v : T_Y1v) : T_Y1w := fun t0 k1 =>
  (Y1v t0 0 []
 (fun n1 => (k1 n1)))
noncomputable def Y1w : T_Y1w := Y1w.body (Y1v ROUNDS)
def Y1w.p : FPat := fp 127 (pl (pb 0 69 Ty15) pz) pz
def Y1w.g (F : T_Y1w) (v : Y1w.p.T) (k : KR) : OB := F v.1.1 (fun y0 => k (.ref [1, 0]) [([1, 0], ⟨3, 1, (.data (.int .i64) y0)⟩)])
theorem Y1w.eq (L0 : T_Y1v) : ∀ v k, exF Tryz.f127 Y1w.p [] [] [⟨0, Y1v.p, Y1v.g L0⟩] v k = Y1w.g (Y1w.body L0) v k := fun v k => by kernel_rfl
theorem Y1w.ok : okF 1 Y1w.p (Y1w.g Y1w) := fn2 (Y1w.eq (Y1v ROUNDS)) Tryz.func127 (by kernel_rfl) .nil [0] (by kernel_rfl) (.cons Y1v.ok .nil)
abbrev T_Y1x : Type := Tc8 → (List Int) → Int → (List Int) → (Tc8 → (List Int) → OB) → OB
noncomputable def Y1x.body (Y1x : T_Y1x) (Yx : T_Yx) : T_Y1x := fun t0 n1 n2 n3 k1 =>
  (cond_ (decide (n2 < (length n1 : Int))) (cond_ ((decide (0 ≤ n2)) && (decide (n2 < (length n1 : Int)))) (Yx t0 (getD n1 (toNat n2) 0)
 (fun n4 => (cond_ (Nat.ble (((length n3) + (length n4)) * (8 : Nat)) (140737488355328 : Nat)) (Y1x t0 n1 (IntKind.wrap .i64 (n2 + 1)) (n3 ++ n4) k1) none))) none) (k1 t0 n3))
noncomputable def Y1x : Nat → T_Y1x
  | 0 => fun _ _ _ _ _ => none
  | n + 1 => Y1x.body (Y1x n) Yx
def Y1x.p : LPat := lp 2 25 [0, 1, 5, 6] (pl (pb 0 69 Ty15) (pl (pb 1 3 (.int .i64)) (ps (pr [1, 0]) (pl (pd (.int .i64)) pz)))) (pl (po [1, 0] 3 1 (ed (.int .i64))) pz)
def Y1x.g (F : T_Y1x) (v : Y1x.p.T) (k : KE) : OB := F v.1.1 v.1.2.1 v.1.2.2.1 v.2.1 (fun y0 y1 => k (.exit 0) ⟨fillS 25 [0, 5] [(.bv 0 69 Ty15 y0), (.ref [1, 0])], [([1, 0], ⟨3, 1, (.data (.int .i64) y1)⟩)], 2⟩)
theorem Y1x.step (S : T_Y1x) (F0 : T_Yx) : ∀ v k, exR 126 Tryz.f126 0 Y1x.p [⟨Yx.p, Yx.g F0⟩] [] [] (Y1x.g S) v k = Y1x.g (Y1x.body S F0) v k := fun v k => by kernel_rfl
theorem Y1x.ok : okL 126 Tryz.f126 4 0 Y1x.p (Y1x.g (Y1x ROUNDS)) := loop2 (G := fun n => Y1x.g (Y1x n)) (fun n => Y1x.step (Y1x n) Yx) (.cons Yx.ok .nil) [] (by kernel_rfl) .nil (fun _ _ => rfl)
abbrev T_Y1y : Type := Tc8 → Int → (List (List Int)) → ((List (List Int)) → OB) → OB
noncomputable def Y1y.body (Y1y : T_Y1y) (Yx : T_Yx) : T_Y1y := fun t0 n1 ls577 k1 =>
  (cond_ (decide (n1 < (length t0 : Int))) (Yx t0 n1
 (fun n2 => (cond_ (Nat.ble (((length ls577) + (length (n2 :: []))) * (24 : Nat)) (140737488355328 : Nat)) (Y1y t0 (IntKind.wrap .i64 (n1 + 1)) (ls577 ++ (n2 :: [])) k1) none))) (k1 ls577))
noncomputable def Y1y : Nat → T_Y1y
  | 0 => fun _ _ _ _ => none
  | n + 1 => Y1y.body (Y1y n) Yx
def Y1y.p : LPat := lp 2 18 [0, 3, 4] (pl (pb 0 69 Ty15) (ps (pr [1, 0]) (pl (pd (.int .i64)) pz))) (pl (po [1, 0] 24 1 (ed Ty2)) pz)
def Y1y.g (F : T_Y1y) (v : Y1y.p.T) (k : KE) : OB := F v.1.1 v.1.2.1 v.2.1 (fun y0 => k (.exit 0) ⟨fillS 18 [3] [(.ref [1, 0])], [([1, 0], ⟨24, 1, (.data Ty2 y0)⟩)], 2⟩)
theorem Y1y.step (S : T_Y1y) (F0 : T_Yx) : ∀ v k, exR 139 Tryz.f139 0 Y1y.p [⟨Yx.p, Yx.g F0⟩] [] [] (Y1y.g S) v k = Y1y.g (Y1y.body S F0) v k := fun v k => by kernel_rfl
theorem Y1y.ok : okL 139 Tryz.f139 4 0 Y1y.p (Y1y.g (Y1y ROUNDS)) := loop2 (G := fun n => Y1y.g (Y1y n)) (fun n => Y1y.step (Y1y n) Yx) (.cons Yx.ok .nil) [] (by kernel_rfl) .nil (fun _ _ => rfl)
abbrev T_Y1z : Type := Tc8 → ((List (List Int)) → OB) → OB
noncomputable def Y1z.body (Y1y : T_Y1y) : T_Y1z := fun t0 k1 =>
  (Y1y t0 0 []
 (fun ls579 => (k1 ls579)))
noncomputable def Y1z : T_Y1z := Y1z.body (Y1y ROUNDS)
def Y1z.p : FPat := fp 139 (pl (pb 0 69 Ty15) pz) pz
def Y1z.g (F : T_Y1z) (v : Y1z.p.T) (k : KR) : OB := F v.1.1 (fun y0 => k (.ref [1, 0]) [([1, 0], ⟨24, 1, (.data Ty2 y0)⟩)])
theorem Y1z.eq (L0 : T_Y1y) : ∀ v k, exF Tryz.f139 Y1z.p [] [] [⟨0, Y1y.p, Y1y.g L0⟩] v k = Y1z.g (Y1z.body L0) v k := fun v k => by kernel_rfl
theorem Y1z.ok : okF 5 Y1z.p (Y1z.g Y1z) := fn2 (Y1z.eq (Y1y ROUNDS)) Tryz.func139 (by kernel_rfl) .nil [0] (by kernel_rfl) (.cons Y1y.ok .nil)
abbrev T_Y20 : Type := (List (List Int)) → (List Int) → Int → (List Bool) → ((List (List Int)) → (List Bool) → OB) → OB
noncomputable def Y20.body (Y20 : T_Y20) : T_Y20 := fun ls583 n0 n1 b2 k1 =>
  (cond_ (decide (n1 < (length n0 : Int))) (cond_ ((decide (0 ≤ n1)) && (decide (n1 < (length n0 : Int)))) (cond_ (decide ((getD n0 (toNat n1) 0) ≥ 0)) (cond_ ((decide (0 ≤ n1)) && (decide (n1 < (length n0 : Int)))) (cond_ (decide ((getD n0 (toNat n1) 0) < (length ls583 : Int))) (cond_ ((decide (0 ≤ n1)) && (decide (n1 < (length n0 : Int)))) (cond_ ((decide (0 ≤ (getD n0 (toNat n1) 0))) && (decide ((getD n0 (toNat n1) 0) < (length b2 : Int)))) (Y20 ls583 n0 (IntKind.wrap .i64 (n1 + 1)) (List.set b2 (toNat (getD n0 (toNat n1) 0)) true) k1) none) none) (Y20 ls583 n0 (IntKind.wrap .i64 (n1 + 1)) b2 k1)) none) (Y20 ls583 n0 (IntKind.wrap .i64 (n1 + 1)) b2 k1)) none) (k1 ls583 b2))
noncomputable def Y20 : Nat → T_Y20
  | 0 => fun _ _ _ _ _ => none
  | n + 1 => Y20.body (Y20 n)
def Y20.p : LPat := lp 2 96 [0, 1, 5, 6] (pl (pb 1 24 Ty2) (pl (pb 2 3 (.int .i64)) (ps (pr [1, 0]) (pl (pd (.int .i64)) pz)))) (pl (po [1, 0] 4 1 (ed .bool)) pz)
def Y20.g (F : T_Y20) (v : Y20.p.T) (k : KE) : OB := F v.1.1 v.1.2.1 v.1.2.2.1 v.2.1 (fun y0 y1 => k (.exit 0) ⟨fillS 96 [0, 5] [(.bv 1 24 Ty2 y0), (.ref [1, 0])], [([1, 0], ⟨4, 1, (.data .bool y1)⟩)], 2⟩)
theorem Y20.step (S : T_Y20) : ∀ v k, exR 138 Tryz.f138 0 Y20.p [] [] [] (Y20.g S) v k = Y20.g (Y20.body S) v k := fun v k => by kernel_rfl
theorem Y20.ok : okL 138 Tryz.f138 0 0 Y20.p (Y20.g (Y20 ROUNDS)) := loop2 (G := fun n => Y20.g (Y20 n)) (fun n => Y20.step (Y20 n)) .nil [] (by kernel_rfl) .nil (fun _ _ => rfl)
abbrev T_Y21 : Type := (List (List Int)) → Int → Int → Int → (List Bool) → ((List (List Int)) → Int → Int → (List Bool) → OB) → OB
noncomputable def Y21.body (Y21 : T_Y21) : T_Y21 := fun ls596 n0 n1 n2 b3 k1 =>
  (cond_ ((decide (0 ≤ n1)) && (decide (n1 < (length b3 : Int)))) (cond_ (getD b3 (toNat n1) false) (cond_ ((decide (0 ≤ n1)) && (decide (n1 < (length ls596 : Int)))) (cond_ (decide (n2 < (length (getD ls596 (toNat n1) []) : Int))) (cond_ ((decide (0 ≤ n1)) && (decide (n1 < (length ls596 : Int)))) (cond_ ((decide (0 ≤ n2)) && (decide (n2 < (length (getD ls596 (toNat n1) []) : Int)))) (cond_ (decide ((getD (getD ls596 (toNat n1) []) (toNat n2) 0) ≥ 0)) (cond_ ((decide (0 ≤ n1)) && (decide (n1 < (length ls596 : Int)))) (cond_ ((decide (0 ≤ n2)) && (decide (n2 < (length (getD ls596 (toNat n1) []) : Int)))) (cond_ (decide ((getD (getD ls596 (toNat n1) []) (toNat n2) 0) < (length ls596 : Int))) (cond_ ((decide (0 ≤ n1)) && (decide (n1 < (length ls596 : Int)))) (cond_ ((decide (0 ≤ n2)) && (decide (n2 < (length (getD ls596 (toNat n1) []) : Int)))) (cond_ ((decide (0 ≤ (getD (getD ls596 (toNat n1) []) (toNat n2) 0))) && (decide ((getD (getD ls596 (toNat n1) []) (toNat n2) 0) < (length b3 : Int)))) (Y21 ls596 n0 n1 (IntKind.wrap .i64 (n2 + 1)) (List.set b3 (toNat (getD (getD ls596 (toNat n1) []) (toNat n2) 0)) true) k1) none) none) none) (Y21 ls596 n0 n1 (IntKind.wrap .i64 (n2 + 1)) b3 k1)) none) none) (Y21 ls596 n0 n1 (IntKind.wrap .i64 (n2 + 1)) b3 k1)) none) none) (k1 ls596 n0 n1 b3)) none) (k1 ls596 n0 n1 b3)) none)
noncomputable def Y21 : Nat → T_Y21
  | 0 => fun _ _ _ _ _ _ => none
  | n + 1 => Y21.body (Y21 n)
def Y21.p : LPat := lp 2 96 [0, 5, 7, 8, 9] (pl (pb 1 24 Ty2) (ps (pr [1, 0]) (pl (pd (.int .i64)) (pl (pd (.int .i64)) (pl (pd (.int .i64)) pz))))) (pl (po [1, 0] 4 1 (ed .bool)) pz)
def Y21.g (F : T_Y21) (v : Y21.p.T) (k : KE) : OB := F v.1.1 v.1.2.1 v.1.2.2.1 v.1.2.2.2.1 v.2.1 (fun y0 y1 y2 y3 => k (.exit 6) ⟨fillS 96 [0, 5, 7, 8] [(.bv 1 24 Ty2 y0), (.ref [1, 0]), (.d ⟨(.int .i64), y1⟩), (.d ⟨(.int .i64), y2⟩)], [([1, 0], ⟨4, 1, (.data .bool y3)⟩)], 2⟩)
theorem Y21.step (S : T_Y21) : ∀ v k, exR 138 Tryz.f138 6 Y21.p [] [] [] (Y21.g S) v k = Y21.g (Y21.body S) v k := fun v k => by kernel_rfl
theorem Y21.ok : okL 138 Tryz.f138 0 6 Y21.p (Y21.g (Y21 ROUNDS)) := loop2 (G := fun n => Y21.g (Y21 n)) (fun n => Y21.step (Y21 n)) .nil [] (by kernel_rfl) .nil (fun _ _ => rfl)
abbrev T_Y22 : Type := (List (List Int)) → Int → Int → (List Bool) → ((List (List Int)) → Int → (List Bool) → OB) → OB
noncomputable def Y22.body (Y22 : T_Y22) (Y21 : T_Y21) : T_Y22 := fun ls592 n0 n1 b2 k1 =>
  (cond_ (decide (n1 < (length ls592 : Int))) (Y21 ls592 n0 n1 0 b2
 (fun ls601 n3 n4 b5 => (Y22 ls601 n3 (IntKind.wrap .i64 (n4 + 1)) b5 k1))) (k1 ls592 n0 b2))
noncomputable def Y22 : Nat → T_Y22
  | 0 => fun _ _ _ _ _ => none
  | n + 1 => Y22.body (Y22 n) (Y21 ROUNDS)
def Y22.p : LPat := lp 2 96 [0, 5, 7, 8] (pl (pb 1 24 Ty2) (ps (pr [1, 0]) (pl (pd (.int .i64)) (pl (pd (.int .i64)) pz)))) (pl (po [1, 0] 4 1 (ed .bool)) pz)
def Y22.g (F : T_Y22) (v : Y22.p.T) (k : KE) : OB := F v.1.1 v.1.2.1 v.1.2.2.1 v.2.1 (fun y0 y1 y2 => k (.exit 4) ⟨fillS 96 [0, 5, 7] [(.bv 1 24 Ty2 y0), (.ref [1, 0]), (.d ⟨(.int .i64), y1⟩)], [([1, 0], ⟨4, 1, (.data .bool y2)⟩)], 2⟩)
theorem Y22.step (S : T_Y22) (L0 : T_Y21) : ∀ v k, exR 138 Tryz.f138 4 Y22.p [] [] [⟨6, Y21.p, Y21.g L0⟩] (Y22.g S) v k = Y22.g (Y22.body S L0) v k := fun v k => by kernel_rfl
theorem Y22.ok : okL 138 Tryz.f138 0 4 Y22.p (Y22.g (Y22 ROUNDS)) := loop2 (G := fun n => Y22.g (Y22 n)) (fun n => Y22.step (Y22 n) (Y21 ROUNDS)) .nil [6] (by kernel_rfl) (.cons Y21.ok .nil) (fun _ _ => rfl)
abbrev T_Y23 : Type := (List (List Int)) → Int → (List Bool) → ((List Bool) → OB) → OB
noncomputable def Y23.body (Y23 : T_Y23) (Y22 : T_Y22) : T_Y23 := fun ls589 n0 b1 k1 =>
  (cond_ (decide (n0 < (length ls589 : Int))) (Y22 ls589 n0 0 b1
 (fun ls605 n2 b3 => (Y23 ls605 (IntKind.wrap .i64 (n2 + 1)) b3 k1))) (k1 b1))
noncomputable def Y23 : Nat → T_Y23
  | 0 => fun _ _ _ _ => none
  | n + 1 => Y23.body (Y23 n) (Y22 ROUNDS)
def Y23.p : LPat := lp 2 96 [0, 5, 7] (pl (pb 1 24 Ty2) (ps (pr [1, 0]) (pl (pd (.int .i64)) pz))) (pl (po [1, 0] 4 1 (ed .bool)) pz)
def Y23.g (F : T_Y23) (v : Y23.p.T) (k : KE) : OB := F v.1.1 v.1.2.1 v.2.1 (fun y0 => k (.exit 2) ⟨fillS 96 [5] [(.ref [1, 0])], [([1, 0], ⟨4, 1, (.data .bool y0)⟩)], 2⟩)
theorem Y23.step (S : T_Y23) (L0 : T_Y22) : ∀ v k, exR 138 Tryz.f138 2 Y23.p [] [] [⟨4, Y22.p, Y22.g L0⟩] (Y23.g S) v k = Y23.g (Y23.body S L0) v k := fun v k => by kernel_rfl
theorem Y23.ok : okL 138 Tryz.f138 0 2 Y23.p (Y23.g (Y23 ROUNDS)) := loop2 (G := fun n => Y23.g (Y23 n)) (fun n => Y23.step (Y23 n) (Y22 ROUNDS)) .nil [4] (by kernel_rfl) (.cons Y22.ok .nil) (fun _ _ => rfl)
abbrev T_Y24 : Type := (List (List Int)) → (List Int) → ((List Bool) → OB) → OB
noncomputable def Y24.body (Y20 : T_Y20) (Y23 : T_Y23) : T_Y24 := fun ls581 n0 k1 =>
  (cond_ (((decide (0 ≤ (length ls581 : Int))) && (decide ((length ls581 : Int) = (length ls581 : Int)))) && (Nat.ble ((toNat (length ls581 : Int)) * (1 : Nat)) (140737488355328 : Nat))) (Y20 ls581 n0 0 (List.replicate (toNat (length ls581 : Int)) false)
 (fun ls587 b1 => (Y23 ls587 0 b1
 (fun b2 => (k1 b2))))) none)
noncomputable def Y24 : T_Y24 := Y24.body (Y20 ROUNDS) (Y23 ROUNDS)
def Y24.p : FPat := fp 138 (pl (pb 1 24 Ty2) (pl (pb 2 3 (.int .i64)) pz)) pz
def Y24.g (F : T_Y24) (v : Y24.p.T) (k : KR) : OB := F v.1.1 v.1.2.1 (fun y0 => k (.ref [1, 0]) [([1, 0], ⟨4, 1, (.data .bool y0)⟩)])
theorem Y24.eq (L0 : T_Y20) (L1 : T_Y23) : ∀ v k, exF Tryz.f138 Y24.p [] [] [⟨0, Y20.p, Y20.g L0⟩, ⟨2, Y23.p, Y23.g L1⟩] v k = Y24.g (Y24.body L0 L1) v k := fun v k => by kernel_rfl
theorem Y24.ok : okF 1 Y24.p (Y24.g Y24) := fn2 (Y24.eq (Y20 ROUNDS) (Y23 ROUNDS)) Tryz.func138 (by kernel_rfl) .nil [0, 2] (by kernel_rfl) (.cons Y20.ok (.cons Y23.ok .nil))
abbrev T_Y25 : Type := Tc8 → (List Int) → ((List Bool) → OB) → OB
noncomputable def Y25.body (Y1z : T_Y1z) (Y24 : T_Y24) (Y1x : T_Y1x) : T_Y25 := fun t0 n1 k1 =>
  (Y1x t0 n1 0 []
 (fun t2 n3 => (Y1z t2
 (fun ls580 => (Y24 ls580 n3
 (fun b4 => (k1 b4)))))))
noncomputable def Y25 : T_Y25 := Y25.body Y1z Y24 (Y1x ROUNDS)
def Y25.p : FPat := fp 126 (pl (pb 0 69 Ty15) (pl (pb 1 3 (.int .i64)) pz)) pz
def Y25.g (F : T_Y25) (v : Y25.p.T) (k : KR) : OB := F v.1.1 v.1.2.1 (fun y0 => k (.ref [1, 0]) [([1, 0], ⟨4, 1, (.data .bool y0)⟩)])
theorem Y25.eq (F0 : T_Y1z) (F1 : T_Y24) (L0 : T_Y1x) : ∀ v k, exF Tryz.f126 Y25.p [⟨Y1z.p, Y1z.g F0⟩, ⟨Y24.p, Y24.g F1⟩] [] [⟨0, Y1x.p, Y1x.g L0⟩] v k = Y25.g (Y25.body F0 F1 L0) v k := fun v k => by kernel_rfl
theorem Y25.ok : okF 6 Y25.p (Y25.g Y25) := fn2 (Y25.eq Y1z Y24 (Y1x ROUNDS)) Tryz.func126 (by kernel_rfl) (.cons Y1z.ok (.cons Y24.ok .nil)) [0] (by kernel_rfl) (.cons Y1x.ok .nil)
abbrev T_Y26 : Type := Tc16 → Int → (Bool → OB) → OB
noncomputable def Y26.body : T_Y26 := fun t0 n1 k1 =>
  (cond_ (decide (n1 ≥ t0.2.2.2.2.1)) (k1 (decide (n1 < t0.2.2.2.2.2.1))) (k1 false))
noncomputable def Y26 : T_Y26 := Y26.body
def Y26.p : FPat := fp 81 (pl (pd Ty24) (pl (pd (.int .i64)) pz)) pz
def Y26.g (F : T_Y26) (v : Y26.p.T) (k : KR) : OB := F v.1.1 v.1.2.1 (fun y0 => k (.d ⟨.bool, y0⟩) [])
theorem Y26.eq : ∀ v k, exF Tryz.f81 Y26.p [] [] [] v k = Y26.g (Y26.body) v k := fun v k => by kernel_rfl
theorem Y26.ok : okF 1 Y26.p (Y26.g Y26) := fn2 (Y26.eq) Tryz.func81 (by kernel_rfl) .nil [] (by kernel_rfl) .nil
abbrev T_Y27 : Type := Int → Tc16 → (List Bool) → (Int → OB) → (OB) → OB
noncomputable def Y27.body (Y27 : T_Y27) (Y26 : T_Y26) : T_Y27 := fun n0 t1 b2 k1 k2 =>
  (cond_ (decide (n0 < (length b2 : Int))) (cond_ ((decide (0 ≤ n0)) && (decide (n0 < (length b2 : Int)))) (cond_ (getD b2 (toNat n0) false) (Y26 t1 n0
 (fun b3 => (cond_ (! b3) (k1 9) (Y27 (IntKind.wrap .i64 (n0 + 1)) t1 b2 k1 k2)))) (Y27 (IntKind.wrap .i64 (n0 + 1)) t1 b2 k1 k2)) none) (k2))
noncomputable def Y27 : Nat → T_Y27
  | 0 => fun _ _ _ _ _ => none
  | n + 1 => Y27.body (Y27 n) Y26
def Y27.p : LPat := lp 2 27 [1, 3, 4] (ps (pq [1, 0] 0 0) (ps (pr [1, 1]) (pl (pd (.int .i64)) pz))) (pl (po [1, 0] 100 9 (es Ty24 (pl eh pz))) (pl (po [1, 1] 4 1 (ed .bool)) pz))
def Y27.g (F : T_Y27) (v : Y27.p.T) (k : KE) : OB := F v.1.1 v.2.1.1 v.2.2.1 (fun y0 => k .ret ⟨fillS 27 [2] [(.d ⟨(.int .i64), y0⟩)], [], 2⟩) (k (.exit 0) ⟨fillS 27 [] [], [], 2⟩)
theorem Y27.step (S : T_Y27) (F0 : T_Y26) : ∀ v k, exR 113 Tryz.f113 0 Y27.p [⟨Y26.p, Y26.g F0⟩] [] [] (Y27.g S) v k = Y27.g (Y27.body S F0) v k := fun v k => by kernel_rfl
theorem Y27.ok : okL 113 Tryz.f113 1 0 Y27.p (Y27.g (Y27 ROUNDS)) := loop2 (G := fun n => Y27.g (Y27 n)) (fun n => Y27.step (Y27 n) Y26) (.cons Y26.ok .nil) [] (by kernel_rfl) .nil (fun _ _ => rfl)
abbrev T_Y28 : Type := Tc16 → (Int → OB) → OB
noncomputable def Y28.body (Y1w : T_Y1w) (Y25 : T_Y25) (Y27 : T_Y27) : T_Y28 := fun t0 k1 =>
  (Y1w t0.2.2.2.2.2.2.2.1
 (fun n1 => (Y25 t0.2.2.2.2.2.2.2.1 n1
 (fun b2 => (Y27 0 t0 b2
 (fun n3 => (k1 n3))
  (k1 0))))))
noncomputable def Y28 : T_Y28 := Y28.body Y1w Y25 (Y27 ROUNDS)
def Y28.p : FPat := fp 113 (pl (pd Ty24) pz) pz
def Y28.g (F : T_Y28) (v : Y28.p.T) (k : KR) : OB := F v.1.1 (fun y0 => k (.d ⟨(.int .i64), y0⟩) [])
theorem Y28.eq (F0 : T_Y1w) (F1 : T_Y25) (L0 : T_Y27) : ∀ v k, exF Tryz.f113 Y28.p [⟨Y1w.p, Y1w.g F0⟩, ⟨Y25.p, Y25.g F1⟩] [] [⟨0, Y27.p, Y27.g L0⟩] v k = Y28.g (Y28.body F0 F1 L0) v k := fun v k => by kernel_rfl
theorem Y28.ok : okF 7 Y28.p (Y28.g Y28) := fn2 (Y28.eq Y1w Y25 (Y27 ROUNDS)) Tryz.func113 (by kernel_rfl) (.cons Y1w.ok (.cons Y25.ok .nil)) [0] (by kernel_rfl) (.cons Y27.ok .nil)
abbrev T_Y29 : Type := Tc21 → Int → (Int → OB) → OB
noncomputable def Y29.body (Yn : T_Yn) (Yq : T_Yq) (Y1u : T_Y1u) (Y28 : T_Y28) : T_Y29 := fun t0 n1 k1 =>
  (Yn t0 n1
 (fun n2 => (cond_ (decide (n2 < 0)) (k1 13) (cond_ ((decide (0 ≤ n2)) && (decide (n2 < (length t0.1 : Int)))) (cond_ (decide (n1 ≥ (length t0.2.1 : Int))) (cond_ ((decide (0 ≤ (IntKind.wrap .i64 (n1 - (length t0.2.1 : Int))))) && (decide ((IntKind.wrap .i64 (n1 - (length t0.2.1 : Int))) < (length t0.2.2.1 : Int)))) (cond_ ((getD t0.2.2.1 (toNat (IntKind.wrap .i64 (n1 - (length t0.2.1 : Int)))) ZData).1 != (getD t0.1 (toNat n2) ZSym).2.2.2.1) (k1 14) (Yq ((getD t0.2.2.1 (toNat (IntKind.wrap .i64 (n1 - (length t0.2.1 : Int)))) ZData).1, ((getD t0.2.2.1 (toNat (IntKind.wrap .i64 (n1 - (length t0.2.1 : Int)))) ZData).2.1, ((getD t0.2.2.1 (toNat (IntKind.wrap .i64 (n1 - (length t0.2.1 : Int)))) ZData).2.2.1, ()))) t0.1
 (fun n3 => (k1 n3)))) none) (cond_ ((decide (0 ≤ n1)) && (decide (n1 < (length t0.2.1 : Int)))) (cond_ ((getD t0.2.1 (toNat n1) ZFunc).1 != (getD t0.1 (toNat n2) ZSym).2.2.2.1) (k1 14) (cond_ ((decide (0 ≤ n1)) && (decide (n1 < (length t0.2.1 : Int)))) (Y1u (getD t0.2.1 (toNat n1) ZFunc) t0.1
 (fun n4 n5 => (cond_ (n4 != 0) (k1 n4) (cond_ ((decide (0 ≤ n1)) && (decide (n1 < (length t0.2.1 : Int)))) (Y28 (getD t0.2.1 (toNat n1) ZFunc)
 (fun n6 => (k1 n6))) none)))) none)) none)) none))))
noncomputable def Y29 : T_Y29 := Y29.body Yn Yq Y1u Y28
def Y29.p : FPat := fp 67 (pl (pd Ty29) (pl (pd (.int .i64)) pz)) pz
def Y29.g (F : T_Y29) (v : Y29.p.T) (k : KR) : OB := F v.1.1 v.1.2.1 (fun y0 => k (.d ⟨(.int .i64), y0⟩) [])
theorem Y29.eq (F0 : T_Yn) (F1 : T_Yq) (F2 : T_Y1u) (F3 : T_Y28) : ∀ v k, exF Tryz.f67 Y29.p [⟨Yn.p, Yn.g F0⟩, ⟨Yq.p, Yq.g F1⟩, ⟨Y1u.p, Y1u.g F2⟩, ⟨Y28.p, Y28.g F3⟩] [] [] v k = Y29.g (Y29.body F0 F1 F2 F3) v k := fun v k => by kernel_rfl
theorem Y29.ok : okF 9 Y29.p (Y29.g Y29) := fn2 (Y29.eq Yn Yq Y1u Y28) Tryz.func67 (by kernel_rfl) (.cons Yn.ok (.cons Yq.ok (.cons Y1u.ok (.cons Y28.ok .nil)))) [] (by kernel_rfl) .nil
abbrev T_Y2a : Type := Int → Tc21 → (Int → Int → OB) → (OB) → OB
noncomputable def Y2a.body (Y2a : T_Y2a) (Yk : T_Yk) (Y29 : T_Y29) : T_Y2a := fun n0 t1 k1 k2 =>
  (Yk t1
 (fun n2 => (cond_ (decide (n0 < n2)) (Y29 t1 n0
 (fun n3 => (cond_ (n3 != 0) (k1 n3 n0) (Y2a (IntKind.wrap .i64 (n0 + 1)) t1 k1 k2)))) (k2))))
noncomputable def Y2a : Nat → T_Y2a
  | 0 => fun _ _ _ _ => none
  | n + 1 => Y2a.body (Y2a n) Yk Y29
def Y2a.p : LPat := lp 2 51 [1, 6] (ps (pq [1, 0] 0 0) (pl (pd (.int .i64)) pz)) (pl (po [1, 0] 87 3 (es Ty29 (pl eh pz))) pz)
def Y2a.g (F : T_Y2a) (v : Y2a.p.T) (k : KE) : OB := F v.1.1 v.2.1.1 (fun y0 y1 => k .ret ⟨fillS 51 [2, 3] [(.d ⟨(.int .i64), y0⟩), (.d ⟨(.int .i64), y1⟩)], [], 2⟩) (k (.exit 2) ⟨fillS 51 [] [], [], 2⟩)
theorem Y2a.step (S : T_Y2a) (F0 : T_Yk) (F1 : T_Y29) : ∀ v k, exR 39 Tryz.f39 2 Y2a.p [⟨Yk.p, Yk.g F0⟩, ⟨Y29.p, Y29.g F1⟩] [] [] (Y2a.g S) v k = Y2a.g (Y2a.body S F0 F1) v k := fun v k => by kernel_rfl
theorem Y2a.ok : okL 39 Tryz.f39 9 2 Y2a.p (Y2a.g (Y2a ROUNDS)) := loop2 (G := fun n => Y2a.g (Y2a n)) (fun n => Y2a.step (Y2a n) Yk Y29) (.cons Yk.ok (.cons Y29.ok .nil)) [] (by kernel_rfl) .nil (fun _ _ => rfl)
abbrev T_Y2b : Type := Tc21 → (Int → Int → OB) → OB
noncomputable def Y2b.body (Yj : T_Yj) (Y2a : T_Y2a) : T_Y2b := fun t0 k1 =>
  (cond_ (! (decide ((length t0.1 : Int) > 32))) (cond_ (! (decide ((length t0.2.1 : Int) > 12))) (cond_ (decide ((length t0.2.2.1 : Int) > 8)) (k1 19 (-1)) (Yj 0 t0
 (fun n1 n2 => (k1 n1 n2))
 (fun t3 => (Y2a 0 t3
 (fun n4 n5 => (k1 n4 n5))
  (k1 0 (-1)))))) (k1 19 (-1))) (k1 19 (-1)))
noncomputable def Y2b : T_Y2b := Y2b.body (Yj ROUNDS) (Y2a ROUNDS)
def Y2b.p : FPat := fp 39 (pl (pd Ty29) pz) pz
def Y2b.g (F : T_Y2b) (v : Y2b.p.T) (k : KR) : OB := F v.1.1 (fun y0 y1 => k (.tup [(.d ⟨(.int .i64), y0⟩), (.d ⟨(.int .i64), y1⟩)]) [])
theorem Y2b.eq (L0 : T_Yj) (L1 : T_Y2a) : ∀ v k, exF Tryz.f39 Y2b.p [] [] [⟨0, Yj.p, Yj.g L0⟩, ⟨2, Y2a.p, Y2a.g L1⟩] v k = Y2b.g (Y2b.body L0 L1) v k := fun v k => by kernel_rfl
theorem Y2b.ok : okF 10 Y2b.p (Y2b.g Y2b) := fn2 (Y2b.eq (Yj ROUNDS) (Y2a ROUNDS)) Tryz.func39 (by kernel_rfl) .nil [0, 2] (by kernel_rfl) (.cons Yj.ok (.cons Y2a.ok .nil))
abbrev T_Y2c : Type := Tc22 → ByteArray → Int → Int → (Int × Int × Int × Unit) → (Tc23 → (Int × Int × Int × Unit) → OB) → (Tc22 → ByteArray → Int → (Int × Int × Int × Unit) → OB) → OB
noncomputable def Y2c.body (Y2c : T_Y2c) (Y2b : T_Y2b) : T_Y2c := fun t0 s1 n2 n3 t4 k1 k2 =>
  (cond_ (decide (n2 < (length t0 : Int))) (cond_ ((decide (0 ≤ n2)) && (decide (n2 < (length t0 : Int)))) (Y2b (getD t0 (toNat n2) ([], ([], ([], ()))))
 (fun n5 n6 => (cond_ (n5 != 0) (k1 ([], ([], (0, ()))) (n5, (n2, (n6, ())))) (Y2c t0 s1 (IntKind.wrap .i64 (n2 + 1)) n3 t4 k1 k2)))) none) (k2 t0 s1 n3 t4))
noncomputable def Y2c : Nat → T_Y2c
  | 0 => fun _ _ _ _ _ _ _ => none
  | n + 1 => Y2c.body (Y2c n) Y2b
def Y2c.p : LPat := lp 2 96 [0, 1, 4, 5, 6] (pl (pb 0 87 Ty29) (pl (pd .str) (ps (pq [1, 0] 0 0) (ps (pq [1, 1] 0 0) (pl (pd (.int .i64)) pz))))) (pl (po [1, 0] 30 3 (em (pl (pa (ps (pk 0) (ps (pk 0) (pl (pd (.int .i64)) pz)))) pz))) (pl (po [1, 1] 53 3 (es Ty9 (pl eh pz))) pz))
def Y2c.g (F : T_Y2c) (v : Y2c.p.T) (k : KE) : OB := F v.1.1 v.1.2.1 v.1.2.2.1 v.2.1.1.1 v.2.2.1.1 (fun y0 y1 => k .ret ⟨fillS 96 [4, 5] [(.ptr [1, 0] 0 0), (.ptr [1, 1] 0 0)], [([1, 0], ⟨30, 3, (.data Ty30 [y0])⟩), ([1, 1], ⟨53, 3, (.data Ty9 [y1])⟩)], 2⟩) (fun y0 y1 y2 y3 => k (.exit 0) ⟨fillS 96 [0, 1, 4, 5] [(.bv 0 87 Ty29 y0), (.d ⟨.str, y1⟩), (.ptr [1, 0] 0 0), (.ptr [1, 1] 0 0)], [([1, 0], ⟨30, 3, (.mix [(.agg [.nils, .nils, (.d ⟨(.int .i64), y2⟩)])])⟩), ([1, 1], ⟨53, 3, (.data Ty9 [y3])⟩)], 2⟩)
theorem Y2c.step (S : T_Y2c) (F0 : T_Y2b) : ∀ v k, exR 15 Tryz.f15 0 Y2c.p [⟨Y2b.p, Y2b.g F0⟩] [] [] (Y2c.g S) v k = Y2c.g (Y2c.body S F0) v k := fun v k => by kernel_rfl
theorem Y2c.ok : okL 15 Tryz.f15 10 0 Y2c.p (Y2c.g (Y2c ROUNDS)) := loop2 (G := fun n => Y2c.g (Y2c n)) (fun n => Y2c.step (Y2c n) Y2b) (.cons Y2b.ok .nil) [] (by kernel_rfl) .nil (fun _ _ => rfl)
abbrev T_Y2d : Type := Tc7 → (Bool → OB) → OB
noncomputable def Y2d.body : T_Y2d := fun t0 k1 =>
  (cond_ (! t0.2.1) (k1 (t0.2.2.2.2.1 != (-1))) (k1 false))
noncomputable def Y2d : T_Y2d := Y2d.body
def Y2d.p : FPat := fp 70 (pl (pd Ty12) pz) pz
def Y2d.g (F : T_Y2d) (v : Y2d.p.T) (k : KR) : OB := F v.1.1 (fun y0 => k (.d ⟨.bool, y0⟩) [])
theorem Y2d.eq : ∀ v k, exF Tryz.f70 Y2d.p [] [] [] v k = Y2d.g (Y2d.body) v k := fun v k => by kernel_rfl
theorem Y2d.ok : okF 1 Y2d.p (Y2d.g Y2d) := fn2 (Y2d.eq) Tryz.func70 (by kernel_rfl) .nil [] (by kernel_rfl) .nil
abbrev T_Y2e : Type := Tc22 → ByteArray → Int → Int → (Int → Int → Bool → OB) → (Tc22 → ByteArray → Int → OB) → OB
noncomputable def Y2e.body (Y2e : T_Y2e) (Y2d : T_Y2d) : T_Y2e := fun t0 s1 n2 n3 k1 k2 =>
  (cond_ ((decide (0 ≤ n2)) && (decide (n2 < (length t0 : Int)))) (cond_ (decide (n3 < (((length (getD t0 (toNat n2) ([], ([], ([], ())))).1) : Nat) : Int))) (cond_ ((decide (0 ≤ n2)) && (decide (n2 < (length t0 : Int)))) (cond_ ((decide (0 ≤ n3)) && (decide (n3 < (((length (getD t0 (toNat n2) ([], ([], ([], ())))).1) : Nat) : Int)))) (Y2d (getD (getD t0 (toNat n2) ([], ([], ([], ())))).1 (toNat n3) ZSym)
 (fun b4 => (cond_ b4 (cond_ ((ByteArray.toList (getD (getD t0 (toNat n2) ([], ([], ([], ())))).1 (toNat n3) ZSym).1) == (ByteArray.toList s1)) (k1 n2 n3 true) (Y2e t0 s1 n2 (IntKind.wrap .i64 (n3 + 1)) k1 k2)) (Y2e t0 s1 n2 (IntKind.wrap .i64 (n3 + 1)) k1 k2)))) none) none) (k2 t0 s1 n2)) none)
noncomputable def Y2e : Nat → T_Y2e
  | 0 => fun _ _ _ _ _ _ => none
  | n + 1 => Y2e.body (Y2e n) Y2d
def Y2e.p : LPat := lp 2 44 [0, 1, 7, 8] (pl (pb 0 87 Ty29) (pl (pd .str) (pl (pd (.int .i64)) (pl (pd (.int .i64)) pz)))) pz
def Y2e.g (F : T_Y2e) (v : Y2e.p.T) (k : KE) : OB := F v.1.1 v.1.2.1 v.1.2.2.1 v.1.2.2.2.1 (fun y0 y1 y2 => k .ret ⟨fillS 44 [4, 5, 6] [(.d ⟨(.int .i64), y0⟩), (.d ⟨(.int .i64), y1⟩), (.d ⟨.bool, y2⟩)], [], 2⟩) (fun y0 y1 y2 => k (.exit 2) ⟨fillS 44 [0, 1, 7] [(.bv 0 87 Ty29 y0), (.d ⟨.str, y1⟩), (.d ⟨(.int .i64), y2⟩)], [], 2⟩)
theorem Y2e.step (S : T_Y2e) (F0 : T_Y2d) : ∀ v k, exR 41 Tryz.f41 2 Y2e.p [⟨Y2d.p, Y2d.g F0⟩] [] [] (Y2e.g S) v k = Y2e.g (Y2e.body S F0) v k := fun v k => by kernel_rfl
theorem Y2e.ok : okL 41 Tryz.f41 1 2 Y2e.p (Y2e.g (Y2e ROUNDS)) := loop2 (G := fun n => Y2e.g (Y2e n)) (fun n => Y2e.step (Y2e n) Y2d) (.cons Y2d.ok .nil) [] (by kernel_rfl) .nil (fun _ _ => rfl)
abbrev T_Y2f : Type := Tc22 → ByteArray → Int → (Int → Int → Bool → OB) → (OB) → OB
noncomputable def Y2f.body (Y2f : T_Y2f) (Y2e : T_Y2e) : T_Y2f := fun t0 s1 n2 k1 k2 =>
  (cond_ (decide (n2 < (length t0 : Int))) (Y2e t0 s1 n2 0
 (fun n3 n4 b5 => (k1 n3 n4 b5))
 (fun t6 s7 n8 => (Y2f t6 s7 (IntKind.wrap .i64 (n8 + 1)) k1 k2))) (k2))
noncomputable def Y2f : Nat → T_Y2f
  | 0 => fun _ _ _ _ _ => none
  | n + 1 => Y2f.body (Y2f n) (Y2e ROUNDS)
def Y2f.p : LPat := lp 2 44 [0, 1, 7] (pl (pb 0 87 Ty29) (pl (pd .str) (pl (pd (.int .i64)) pz))) pz
def Y2f.g (F : T_Y2f) (v : Y2f.p.T) (k : KE) : OB := F v.1.1 v.1.2.1 v.1.2.2.1 (fun y0 y1 y2 => k .ret ⟨fillS 44 [4, 5, 6] [(.d ⟨(.int .i64), y0⟩), (.d ⟨(.int .i64), y1⟩), (.d ⟨.bool, y2⟩)], [], 2⟩) (k (.exit 0) ⟨fillS 44 [] [], [], 2⟩)
theorem Y2f.step (S : T_Y2f) (L0 : T_Y2e) : ∀ v k, exR 41 Tryz.f41 0 Y2f.p [] [] [⟨2, Y2e.p, Y2e.g L0⟩] (Y2f.g S) v k = Y2f.g (Y2f.body S L0) v k := fun v k => by kernel_rfl
theorem Y2f.ok : okL 41 Tryz.f41 1 0 Y2f.p (Y2f.g (Y2f ROUNDS)) := loop2 (G := fun n => Y2f.g (Y2f n)) (fun n => Y2f.step (Y2f n) (Y2e ROUNDS)) .nil [2] (by kernel_rfl) (.cons Y2e.ok .nil) (fun _ _ => rfl)
abbrev T_Y2g : Type := Tc22 → ByteArray → (Int → Int → Bool → OB) → OB
noncomputable def Y2g.body (Y2f : T_Y2f) : T_Y2g := fun t0 s1 k1 =>
  (Y2f t0 s1 0
 (fun n2 n3 b4 => (k1 n2 n3 b4))
  (k1 0 0 false))
noncomputable def Y2g : T_Y2g := Y2g.body (Y2f ROUNDS)
def Y2g.p : FPat := fp 41 (pl (pb 0 87 Ty29) (pl (pd .str) pz)) pz
def Y2g.g (F : T_Y2g) (v : Y2g.p.T) (k : KR) : OB := F v.1.1 v.1.2.1 (fun y0 y1 y2 => k (.tup [(.d ⟨(.int .i64), y0⟩), (.d ⟨(.int .i64), y1⟩), (.d ⟨.bool, y2⟩)]) [])
theorem Y2g.eq (L0 : T_Y2f) : ∀ v k, exF Tryz.f41 Y2g.p [] [] [⟨0, Y2f.p, Y2f.g L0⟩] v k = Y2g.g (Y2g.body L0) v k := fun v k => by kernel_rfl
theorem Y2g.ok : okF 2 Y2g.p (Y2g.g Y2g) := fn2 (Y2g.eq (Y2f ROUNDS)) Tryz.func41 (by kernel_rfl) .nil [0] (by kernel_rfl) (.cons Y2f.ok .nil)
abbrev T_Y2h : Type := Tc22 → Int → Int → (Int × Int × Int × Unit) → (Bool → (Int × Int × Int × Unit) → OB) → (Tc22 → Int → (Int × Int × Int × Unit) → OB) → OB
noncomputable def Y2h.body (Y2h : T_Y2h) (Y2g : T_Y2g) (Y2d : T_Y2d) : T_Y2h := fun t0 n1 n2 t3 k1 k2 =>
  (cond_ ((decide (0 ≤ n1)) && (decide (n1 < (length t0 : Int)))) (cond_ (decide (n2 < (((length (getD t0 (toNat n1) ([], ([], ([], ())))).1) : Nat) : Int))) (cond_ ((decide (0 ≤ n1)) && (decide (n1 < (length t0 : Int)))) (cond_ ((decide (0 ≤ n2)) && (decide (n2 < (((length (getD t0 (toNat n1) ([], ([], ([], ())))).1) : Nat) : Int)))) (Y2g t0 (getD (getD t0 (toNat n1) ([], ([], ([], ())))).1 (toNat n2) ZSym).1
 (fun n4 n5 b6 => (Y2d (getD (getD t0 (toNat n1) ([], ([], ([], ())))).1 (toNat n2) ZSym)
 (fun b7 => (cond_ b7 (cond_ (! (n4 != n1)) (cond_ (n5 != n2) (k1 true (12, (n1, (n2, ())))) (Y2h t0 n1 (IntKind.wrap .i64 (n2 + 1)) t3 k1 k2)) (k1 true (12, (n1, (n2, ()))))) (Y2h t0 n1 (IntKind.wrap .i64 (n2 + 1)) t3 k1 k2)))))) none) none) (k2 t0 n1 t3)) none)
noncomputable def Y2h : Nat → T_Y2h
  | 0 => fun _ _ _ _ _ _ => none
  | n + 1 => Y2h.body (Y2h n) Y2g Y2d
def Y2h.p : LPat := lp 2 58 [0, 2, 4, 5] (pl (pb 0 87 Ty29) (ps (pq [1, 0] 0 0) (pl (pd (.int .i64)) (pl (pd (.int .i64)) pz)))) (pl (po [1, 0] 53 3 (es Ty9 (pl eh pz))) pz)
def Y2h.g (F : T_Y2h) (v : Y2h.p.T) (k : KE) : OB := F v.1.1 v.1.2.1 v.1.2.2.1 v.2.1.1 (fun y0 y1 => k .ret ⟨fillS 58 [2, 3] [(.ptr [1, 0] 0 0), (.d ⟨.bool, y0⟩)], [([1, 0], ⟨53, 3, (.data Ty9 [y1])⟩)], 2⟩) (fun y0 y1 y2 => k (.exit 2) ⟨fillS 58 [0, 2, 4] [(.bv 0 87 Ty29 y0), (.ptr [1, 0] 0 0), (.d ⟨(.int .i64), y1⟩)], [([1, 0], ⟨53, 3, (.data Ty9 [y2])⟩)], 2⟩)
theorem Y2h.step (S : T_Y2h) (F0 : T_Y2g) (F1 : T_Y2d) : ∀ v k, exR 68 Tryz.f68 2 Y2h.p [⟨Y2g.p, Y2g.g F0⟩, ⟨Y2d.p, Y2d.g F1⟩] [] [] (Y2h.g S) v k = Y2h.g (Y2h.body S F0 F1) v k := fun v k => by kernel_rfl
theorem Y2h.ok : okL 68 Tryz.f68 2 2 Y2h.p (Y2h.g (Y2h ROUNDS)) := loop2 (G := fun n => Y2h.g (Y2h n)) (fun n => Y2h.step (Y2h n) Y2g Y2d) (.cons Y2g.ok (.cons Y2d.ok .nil)) [] (by kernel_rfl) .nil (fun _ _ => rfl)
abbrev T_Y2i : Type := Tc22 → Int → (Int × Int × Int × Unit) → (Bool → (Int × Int × Int × Unit) → OB) → ((Int × Int × Int × Unit) → OB) → OB
noncomputable def Y2i.body (Y2i : T_Y2i) (Y2h : T_Y2h) : T_Y2i := fun t0 n1 t2 k1 k2 =>
  (cond_ (decide (n1 < (length t0 : Int))) (Y2h t0 n1 0 t2
 (fun b3 t4 => (k1 b3 t4))
 (fun t5 n6 t7 => (Y2i t5 (IntKind.wrap .i64 (n6 + 1)) t7 k1 k2))) (k2 t2))
noncomputable def Y2i : Nat → T_Y2i
  | 0 => fun _ _ _ _ _ => none
  | n + 1 => Y2i.body (Y2i n) (Y2h ROUNDS)
def Y2i.p : LPat := lp 2 58 [0, 2, 4] (pl (pb 0 87 Ty29) (ps (pq [1, 0] 0 0) (pl (pd (.int .i64)) pz))) (pl (po [1, 0] 53 3 (es Ty9 (pl eh pz))) pz)
def Y2i.g (F : T_Y2i) (v : Y2i.p.T) (k : KE) : OB := F v.1.1 v.1.2.1 v.2.1.1 (fun y0 y1 => k .ret ⟨fillS 58 [2, 3] [(.ptr [1, 0] 0 0), (.d ⟨.bool, y0⟩)], [([1, 0], ⟨53, 3, (.data Ty9 [y1])⟩)], 2⟩) (fun y0 => k (.exit 0) ⟨fillS 58 [2] [(.ptr [1, 0] 0 0)], [([1, 0], ⟨53, 3, (.data Ty9 [y0])⟩)], 2⟩)
theorem Y2i.step (S : T_Y2i) (L0 : T_Y2h) : ∀ v k, exR 68 Tryz.f68 0 Y2i.p [] [] [⟨2, Y2h.p, Y2h.g L0⟩] (Y2i.g S) v k = Y2i.g (Y2i.body S L0) v k := fun v k => by kernel_rfl
theorem Y2i.ok : okL 68 Tryz.f68 2 0 Y2i.p (Y2i.g (Y2i ROUNDS)) := loop2 (G := fun n => Y2i.g (Y2i n)) (fun n => Y2i.step (Y2i n) (Y2h ROUNDS)) .nil [2] (by kernel_rfl) (.cons Y2h.ok .nil) (fun _ _ => rfl)
abbrev T_Y2j : Type := Tc22 → ((Int × Int × Int × Unit) → Bool → OB) → OB
noncomputable def Y2j.body (Y2i : T_Y2i) : T_Y2j := fun t0 k1 =>
  (Y2i t0 0 (0, (0, (0, ())))
 (fun b1 t2 => (k1 t2 b1))
 (fun t3 => (k1 (0, (0, (0, ()))) false)))
noncomputable def Y2j : T_Y2j := Y2j.body (Y2i ROUNDS)
def Y2j.p : FPat := fp 68 (pl (pb 0 87 Ty29) pz) pz
def Y2j.g (F : T_Y2j) (v : Y2j.p.T) (k : KR) : OB := F v.1.1 (fun y0 y1 => k (.tup [(.d ⟨Ty9, y0⟩), (.d ⟨.bool, y1⟩)]) [])
theorem Y2j.eq (L0 : T_Y2i) : ∀ v k, exF Tryz.f68 Y2j.p [] [] [⟨0, Y2i.p, Y2i.g L0⟩] v k = Y2j.g (Y2j.body L0) v k := fun v k => by kernel_rfl
theorem Y2j.ok : okF 3 Y2j.p (Y2j.g Y2j) := fn2 (Y2j.eq (Y2i ROUNDS)) Tryz.func68 (by kernel_rfl) .nil [0] (by kernel_rfl) (.cons Y2i.ok .nil)
abbrev T_Y2k : Type := Tc22 → Int → Int → (Int → Int → Int → OB) → OB
noncomputable def Y2k.body (Y2g : T_Y2g) : T_Y2k := fun t0 n1 n2 k1 =>
  (cond_ (! (decide (n1 < 0))) (cond_ (! (decide (n1 ≥ (length t0 : Int)))) (cond_ (! (decide (n2 < 0))) (cond_ ((decide (0 ≤ n1)) && (decide (n1 < (length t0 : Int)))) (cond_ (decide (n2 ≥ (((length (getD t0 (toNat n1) ([], ([], ([], ())))).1) : Nat) : Int))) (k1 0 0 2) (cond_ ((decide (0 ≤ n1)) && (decide (n1 < (length t0 : Int)))) (cond_ ((decide (0 ≤ n2)) && (decide (n2 < (((length (getD t0 (toNat n1) ([], ([], ([], ())))).1) : Nat) : Int)))) (cond_ ((getD (getD t0 (toNat n1) ([], ([], ([], ())))).1 (toNat n2) ZSym).2.2.2.2.1 != (-1)) (k1 n1 n2 0) (Y2g t0 (getD (getD t0 (toNat n1) ([], ([], ([], ())))).1 (toNat n2) ZSym).1
 (fun n3 n4 b5 => (cond_ (! b5) (k1 0 0 13) (cond_ ((decide (0 ≤ n3)) && (decide (n3 < (length t0 : Int)))) (cond_ ((decide (0 ≤ n4)) && (decide (n4 < (((length (getD t0 (toNat n3) ([], ([], ([], ())))).1) : Nat) : Int)))) (cond_ (! ((getD (getD t0 (toNat n3) ([], ([], ([], ())))).1 (toNat n4) ZSym).2.2.1 != (getD (getD t0 (toNat n1) ([], ([], ([], ())))).1 (toNat n2) ZSym).2.2.1)) (cond_ ((getD (getD t0 (toNat n3) ([], ([], ([], ())))).1 (toNat n4) ZSym).2.2.2.1 != (getD (getD t0 (toNat n1) ([], ([], ([], ())))).1 (toNat n2) ZSym).2.2.2.1) (k1 0 0 14) (k1 n3 n4 0)) (k1 0 0 14)) none) none))))) none) none)) none) (k1 0 0 2)) (k1 0 0 2)) (k1 0 0 2))
noncomputable def Y2k : T_Y2k := Y2k.body Y2g
def Y2k.p : FPat := fp 69 (pl (pb 0 87 Ty29) (pl (pd (.int .i64)) (pl (pd (.int .i64)) pz))) pz
def Y2k.g (F : T_Y2k) (v : Y2k.p.T) (k : KR) : OB := F v.1.1 v.1.2.1 v.1.2.2.1 (fun y0 y1 y2 => k (.tup [(.d ⟨(.int .i64), y0⟩), (.d ⟨(.int .i64), y1⟩), (.d ⟨(.int .i64), y2⟩)]) [])
theorem Y2k.eq (F0 : T_Y2g) : ∀ v k, exF Tryz.f69 Y2k.p [⟨Y2g.p, Y2g.g F0⟩] [] [] v k = Y2k.g (Y2k.body F0) v k := fun v k => by kernel_rfl
theorem Y2k.ok : okF 3 Y2k.p (Y2k.g Y2k) := fn2 (Y2k.eq Y2g) Tryz.func69 (by kernel_rfl) (.cons Y2g.ok .nil) [] (by kernel_rfl) .nil
abbrev T_Y2l : Type := Tc22 → Int → Int → (Int × Int × Int × Unit) → ((Int × Int × Int × Unit) → OB) → (Tc22 → Int → (Int × Int × Int × Unit) → OB) → OB
noncomputable def Y2l.body (Y2l : T_Y2l) (Y2k : T_Y2k) : T_Y2l := fun t0 n1 n2 t3 k1 k2 =>
  (cond_ ((decide (0 ≤ n1)) && (decide (n1 < (length t0 : Int)))) (cond_ (decide (n2 < (((length (getD t0 (toNat n1) ([], ([], ([], ())))).1) : Nat) : Int))) (Y2k t0 n1 n2
 (fun n4 n5 n6 => (cond_ (n6 != 0) (k1 (n6, (n1, (n2, ())))) (Y2l t0 n1 (IntKind.wrap .i64 (n2 + 1)) t3 k1 k2)))) (k2 t0 n1 t3)) none)
noncomputable def Y2l : Nat → T_Y2l
  | 0 => fun _ _ _ _ _ _ => none
  | n + 1 => Y2l.body (Y2l n) Y2k
def Y2l.p : LPat := lp 2 57 [0, 2, 5, 6] (pl (pb 0 87 Ty29) (ps (pq [1, 0] 0 0) (pl (pd (.int .i64)) (pl (pd (.int .i64)) pz)))) (pl (po [1, 0] 53 3 (es Ty9 (pl eh pz))) pz)
def Y2l.g (F : T_Y2l) (v : Y2l.p.T) (k : KE) : OB := F v.1.1 v.1.2.1 v.1.2.2.1 v.2.1.1 (fun y0 => k .ret ⟨fillS 57 [2] [(.ptr [1, 0] 0 0)], [([1, 0], ⟨53, 3, (.data Ty9 [y0])⟩)], 2⟩) (fun y0 y1 y2 => k (.exit 2) ⟨fillS 57 [0, 2, 5] [(.bv 0 87 Ty29 y0), (.ptr [1, 0] 0 0), (.d ⟨(.int .i64), y1⟩)], [([1, 0], ⟨53, 3, (.data Ty9 [y2])⟩)], 2⟩)
theorem Y2l.step (S : T_Y2l) (F0 : T_Y2k) : ∀ v k, exR 40 Tryz.f40 2 Y2l.p [⟨Y2k.p, Y2k.g F0⟩] [] [] (Y2l.g S) v k = Y2l.g (Y2l.body S F0) v k := fun v k => by kernel_rfl
theorem Y2l.ok : okL 40 Tryz.f40 3 2 Y2l.p (Y2l.g (Y2l ROUNDS)) := loop2 (G := fun n => Y2l.g (Y2l n)) (fun n => Y2l.step (Y2l n) Y2k) (.cons Y2k.ok .nil) [] (by kernel_rfl) .nil (fun _ _ => rfl)
abbrev T_Y2m : Type := Tc22 → Int → (Int × Int × Int × Unit) → ((Int × Int × Int × Unit) → OB) → ((Int × Int × Int × Unit) → OB) → OB
noncomputable def Y2m.body (Y2m : T_Y2m) (Y2l : T_Y2l) : T_Y2m := fun t0 n1 t2 k1 k2 =>
  (cond_ (decide (n1 < (length t0 : Int))) (Y2l t0 n1 0 t2
 (fun t3 => (k1 t3))
 (fun t4 n5 t6 => (Y2m t4 (IntKind.wrap .i64 (n5 + 1)) t6 k1 k2))) (k2 t2))
noncomputable def Y2m : Nat → T_Y2m
  | 0 => fun _ _ _ _ _ => none
  | n + 1 => Y2m.body (Y2m n) (Y2l ROUNDS)
def Y2m.p : LPat := lp 2 57 [0, 2, 5] (pl (pb 0 87 Ty29) (ps (pq [1, 0] 0 0) (pl (pd (.int .i64)) pz))) (pl (po [1, 0] 53 3 (es Ty9 (pl eh pz))) pz)
def Y2m.g (F : T_Y2m) (v : Y2m.p.T) (k : KE) : OB := F v.1.1 v.1.2.1 v.2.1.1 (fun y0 => k .ret ⟨fillS 57 [2] [(.ptr [1, 0] 0 0)], [([1, 0], ⟨53, 3, (.data Ty9 [y0])⟩)], 2⟩) (fun y0 => k (.exit 0) ⟨fillS 57 [2] [(.ptr [1, 0] 0 0)], [([1, 0], ⟨53, 3, (.data Ty9 [y0])⟩)], 2⟩)
theorem Y2m.step (S : T_Y2m) (L0 : T_Y2l) : ∀ v k, exR 40 Tryz.f40 0 Y2m.p [] [] [⟨2, Y2l.p, Y2l.g L0⟩] (Y2m.g S) v k = Y2m.g (Y2m.body S L0) v k := fun v k => by kernel_rfl
theorem Y2m.ok : okL 40 Tryz.f40 3 0 Y2m.p (Y2m.g (Y2m ROUNDS)) := loop2 (G := fun n => Y2m.g (Y2m n)) (fun n => Y2m.step (Y2m n) (Y2l ROUNDS)) .nil [2] (by kernel_rfl) (.cons Y2l.ok .nil) (fun _ _ => rfl)
abbrev T_Y2n : Type := Tc22 → ((Int × Int × Int × Unit) → OB) → OB
noncomputable def Y2n.body (Y2j : T_Y2j) (Y2m : T_Y2m) : T_Y2n := fun t0 k1 =>
  (cond_ (! ((length t0 : Int) == 0)) (cond_ (decide ((length t0 : Int) > 6)) (k1 (19, ((-1), ((-1), ())))) (Y2j t0
 (fun t1 b2 => (cond_ b2 (k1 t1) (Y2m t0 0 (0, (0, (0, ())))
 (fun t3 => (k1 t3))
 (fun t4 => (k1 (0, (0, (0, ())))))))))) (k1 (19, ((-1), ((-1), ())))))
noncomputable def Y2n : T_Y2n := Y2n.body Y2j (Y2m ROUNDS)
def Y2n.p : FPat := fp 40 (pl (pb 0 87 Ty29) pz) pz
def Y2n.g (F : T_Y2n) (v : Y2n.p.T) (k : KR) : OB := F v.1.1 (fun y0 => k (.d ⟨Ty9, y0⟩) [])
theorem Y2n.eq (F0 : T_Y2j) (L0 : T_Y2m) : ∀ v k, exF Tryz.f40 Y2n.p [⟨Y2j.p, Y2j.g F0⟩] [] [⟨0, Y2m.p, Y2m.g L0⟩] v k = Y2n.g (Y2n.body F0 L0) v k := fun v k => by kernel_rfl
theorem Y2n.ok : okF 4 Y2n.p (Y2n.g Y2n) := fn2 (Y2n.eq Y2j (Y2m ROUNDS)) Tryz.func40 (by kernel_rfl) (.cons Y2j.ok .nil) [0] (by kernel_rfl) (.cons Y2m.ok .nil)
abbrev T_Y2o : Type := Tc22 → Int → Int → Int → Int → Int → Tc20 → Tc15 → Tc11 → Tc17 → Tc13 → (List Int) → (Tc22 → Int → Int → Int → Int → Tc20 → Tc15 → Tc11 → Tc17 → Tc13 → (List Int) → OB) → OB
noncomputable def Y2o.body (Y2o : T_Y2o) (Y1h : T_Y1h) : T_Y2o := fun t0 n1 n2 n3 n4 n5 t6 t7 l8 l9 la nb k1 =>
  (cond_ ((decide (0 ≤ n2)) && (decide (n2 < (length l9 : Int)))) (cond_ (decide (n3 < (length (getD l9 (toNat n2) ZFunc).2.2.2.2.2.2.2.1 : Int))) (cond_ ((decide (0 ≤ n2)) && (decide (n2 < (length l9 : Int)))) (Y1h (getD l9 (toNat n2) ZFunc) n3
 (fun nc => (cond_ (Nat.ble (((length nb) + (length (nc :: []))) * (8 : Nat)) (140737488355328 : Nat)) (Y2o t0 n1 n2 (IntKind.wrap .i64 (n3 + 1)) n4 n5 t6 t7 l8 l9 la (nb ++ (nc :: [])) k1) none))) none) (k1 t0 n1 n2 n4 n5 t6 t7 l8 l9 la nb)) none)
noncomputable def Y2o : Nat → T_Y2o
  | 0 => fun _ _ _ _ _ _ _ _ _ _ _ _ _ => none
  | n + 1 => Y2o.body (Y2o n) Y1h
def Y2o.p : LPat := lp 2 109 [0, 2, 3, 4, 5, 6, 7, 8] (pl (pb 0 87 Ty29) (ps (pq [1, 0] 0 0) (ps (pq [1, 1] 0 0) (pl (pd (.int .i64)) (ps (pq [1, 4] 0 0) (pl (pd (.int .i64)) (ps (pr [1, 5]) (pl (pd (.int .i64)) pz)))))))) (pl (po [1, 0] 30 3 (em (pl (pa (ps (pk 0) (ps (pk 0) (pl (pd (.int .i64)) pz)))) pz))) (pl (po [1, 1] 30 3 (em (pl (pa (ps (pr [1, 2]) (ps (pr [1, 3]) (pl (pd (.int .i64)) pz)))) pz))) (pl (po [1, 2] 102 13 (ed Ty27)) (pl (po [1, 3] 106 7 (ed Ty22)) (pl (po [1, 4] 87 3 (em (pl (pa (pl (pd Ty14) (pl (pd Ty25) (pl (pd Ty21) pz)))) pz))) (pl (po [1, 5] 3 1 (ed (.int .i64))) pz))))))
def Y2o.g (F : T_Y2o) (v : Y2o.p.T) (k : KE) : OB := F v.1.1 v.1.2.1 v.1.2.2.1 v.1.2.2.2.1 v.2.1.1.1 v.2.2.1.1.1 v.2.2.2.1 v.2.2.2.2.1 v.2.2.2.2.2.1.1.1 v.2.2.2.2.2.1.1.2.1 v.2.2.2.2.2.1.1.2.2.1 v.2.2.2.2.2.2.1 (fun y0 y1 y2 y3 y4 y5 y6 y7 y8 y9 y10 => k (.exit 4) ⟨fillS 109 [0, 2, 3, 4, 5, 6, 7] [(.bv 0 87 Ty29 y0), (.ptr [1, 0] 0 0), (.ptr [1, 1] 0 0), (.d ⟨(.int .i64), y1⟩), (.ptr [1, 4] 0 0), (.d ⟨(.int .i64), y2⟩), (.ref [1, 5])], [([1, 0], ⟨30, 3, (.mix [(.agg [.nils, .nils, (.d ⟨(.int .i64), y3⟩)])])⟩), ([1, 1], ⟨30, 3, (.mix [(.agg [(.ref [1, 2]), (.ref [1, 3]), (.d ⟨(.int .i64), y4⟩)])])⟩), ([1, 2], ⟨102, 13, (.data Ty27 y5)⟩), ([1, 3], ⟨106, 7, (.data Ty22 y6)⟩), ([1, 4], ⟨87, 3, (.mix [(.agg [(.d ⟨Ty14, y7⟩), (.d ⟨Ty25, y8⟩), (.d ⟨Ty21, y9⟩)])])⟩), ([1, 5], ⟨3, 1, (.data (.int .i64) y10)⟩)], 2⟩)
theorem Y2o.step (S : T_Y2o) (F0 : T_Y1h) : ∀ v k, exR 42 Tryz.f42 4 Y2o.p [⟨Y1h.p, Y1h.g F0⟩] [] [] (Y2o.g S) v k = Y2o.g (Y2o.body S F0) v k := fun v k => by kernel_rfl
theorem Y2o.ok : okL 42 Tryz.f42 1 4 Y2o.p (Y2o.g (Y2o ROUNDS)) := loop2 (G := fun n => Y2o.g (Y2o n)) (fun n => Y2o.step (Y2o n) Y1h) (.cons Y1h.ok .nil) [] (by kernel_rfl) .nil (fun _ _ => rfl)
abbrev T_Y2p : Type := Tc21 → Int → (ByteArray → OB) → OB
noncomputable def Y2p.body (Yn : T_Yn) : T_Y2p := fun t0 n1 k1 =>
  (Yn t0 n1
 (fun n2 => (cond_ ((decide (0 ≤ n2)) && (decide (n2 < (length t0.1 : Int)))) (k1 (getD t0.1 (toNat n2) ZSym).1) none)))
noncomputable def Y2p : T_Y2p := Y2p.body Yn
def Y2p.p : FPat := fp 72 (pl (pd Ty29) (pl (pd (.int .i64)) pz)) pz
def Y2p.g (F : T_Y2p) (v : Y2p.p.T) (k : KR) : OB := F v.1.1 v.1.2.1 (fun y0 => k (.d ⟨.str, y0⟩) [])
theorem Y2p.eq (F0 : T_Yn) : ∀ v k, exF Tryz.f72 Y2p.p [⟨Yn.p, Yn.g F0⟩] [] [] v k = Y2p.g (Y2p.body F0) v k := fun v k => by kernel_rfl
theorem Y2p.ok : okF 4 Y2p.p (Y2p.g Y2p) := fn2 (Y2p.eq Yn) Tryz.func72 (by kernel_rfl) (.cons Yn.ok .nil) [] (by kernel_rfl) .nil
abbrev T_Y2q : Type := Tc22 → Int → Int → Int → Tc7 → (Int → OB) → OB
noncomputable def Y2q.body (Y2q : T_Y2q) : T_Y2q := fun t0 n1 n2 n3 t4 k1 =>
  (cond_ (decide (n3 < n1)) (cond_ (t4.2.2.1 == 1) (cond_ ((decide (0 ≤ n3)) && (decide (n3 < (length t0 : Int)))) (Y2q t0 n1 (IntKind.wrap .i64 (n2 + (((length (getD t0 (toNat n3) ([], ([], ([], ())))).2.1) : Nat) : Int))) (IntKind.wrap .i64 (n3 + 1)) t4 k1) none) (cond_ ((decide (0 ≤ n3)) && (decide (n3 < (length t0 : Int)))) (Y2q t0 n1 (IntKind.wrap .i64 (n2 + (((length (getD t0 (toNat n3) ([], ([], ([], ())))).2.2.1) : Nat) : Int))) (IntKind.wrap .i64 (n3 + 1)) t4 k1) none)) (k1 n2))
noncomputable def Y2q : Nat → T_Y2q
  | 0 => fun _ _ _ _ _ _ => none
  | n + 1 => Y2q.body (Y2q n)
def Y2q.p : LPat := lp 2 56 [0, 7, 10, 11, 12] (pl (pb 0 87 Ty29) (pl (pd (.int .i64)) (ps (pq [1, 0] 0 0) (pl (pd (.int .i64)) (pl (pd (.int .i64)) pz))))) (pl (po [1, 0] 94 5 (es Ty12 (pl eh pz))) pz)
def Y2q.g (F : T_Y2q) (v : Y2q.p.T) (k : KE) : OB := F v.1.1 v.1.2.1 v.1.2.2.1 v.1.2.2.2.1 v.2.1.1 (fun y0 => k (.exit 0) ⟨fillS 56 [11] [(.d ⟨(.int .i64), y0⟩)], [], 2⟩)
theorem Y2q.step (S : T_Y2q) : ∀ v k, exR 43 Tryz.f43 0 Y2q.p [] [] [] (Y2q.g S) v k = Y2q.g (Y2q.body S) v k := fun v k => by kernel_rfl
theorem Y2q.ok : okL 43 Tryz.f43 0 0 Y2q.p (Y2q.g (Y2q ROUNDS)) := loop2 (G := fun n => Y2q.g (Y2q n)) (fun n => Y2q.step (Y2q n)) .nil [] (by kernel_rfl) .nil (fun _ _ => rfl)
abbrev T_Y2r : Type := Tc22 → Int → Int → (Int → OB) → OB
noncomputable def Y2r.body (Y2k : T_Y2k) (Y2q : T_Y2q) : T_Y2r := fun t0 n1 n2 k1 =>
  (Y2k t0 n1 n2
 (fun n3 n4 n5 => (cond_ ((decide (0 ≤ n3)) && (decide (n3 < (length t0 : Int)))) (cond_ ((decide (0 ≤ n4)) && (decide (n4 < (((length (getD t0 (toNat n3) ([], ([], ([], ())))).1) : Nat) : Int)))) (Y2q t0 n3 (getD (getD t0 (toNat n3) ([], ([], ([], ())))).1 (toNat n4) ZSym).2.2.2.2.1 0 (getD (getD t0 (toNat n3) ([], ([], ([], ())))).1 (toNat n4) ZSym)
 (fun n6 => (k1 n6))) none) none)))
noncomputable def Y2r : T_Y2r := Y2r.body Y2k (Y2q ROUNDS)
def Y2r.p : FPat := fp 43 (pl (pb 0 87 Ty29) (pl (pd (.int .i64)) (pl (pd (.int .i64)) pz))) pz
def Y2r.g (F : T_Y2r) (v : Y2r.p.T) (k : KR) : OB := F v.1.1 v.1.2.1 v.1.2.2.1 (fun y0 => k (.d ⟨(.int .i64), y0⟩) [])
theorem Y2r.eq (F0 : T_Y2k) (L0 : T_Y2q) : ∀ v k, exF Tryz.f43 Y2r.p [⟨Y2k.p, Y2k.g F0⟩] [] [⟨0, Y2q.p, Y2q.g L0⟩] v k = Y2r.g (Y2r.body F0 L0) v k := fun v k => by kernel_rfl
theorem Y2r.ok : okF 4 Y2r.p (Y2r.g Y2r) := fn2 (Y2r.eq Y2k (Y2q ROUNDS)) Tryz.func43 (by kernel_rfl) (.cons Y2k.ok .nil) [0] (by kernel_rfl) (.cons Y2q.ok .nil)
abbrev T_Y2s : Type := Tc22 → Int → (List Int) → Int → (List Int) → ((List Int) → OB) → OB
noncomputable def Y2s.body (Y2s : T_Y2s) (Y2r : T_Y2r) : T_Y2s := fun t0 n1 n2 n3 n4 k1 =>
  (cond_ (decide (n3 < (length n2 : Int))) (cond_ ((decide (0 ≤ n3)) && (decide (n3 < (length n2 : Int)))) (cond_ (decide ((getD n2 (toNat n3) 0) ≥ 0)) (cond_ ((decide (0 ≤ n3)) && (decide (n3 < (length n2 : Int)))) (Y2r t0 n1 (getD n2 (toNat n3) 0)
 (fun n5 => (cond_ (Nat.ble (((length n4) + (length (n5 :: []))) * (8 : Nat)) (140737488355328 : Nat)) (Y2s t0 n1 n2 (IntKind.wrap .i64 (n3 + 1)) (n4 ++ (n5 :: [])) k1) none))) none) (cond_ (Nat.ble (((length n4) + (1 : Nat)) * (8 : Nat)) (140737488355328 : Nat)) (Y2s t0 n1 n2 (IntKind.wrap .i64 (n3 + 1)) (n4 ++ ((-1) :: [])) k1) none)) none) (k1 n4))
noncomputable def Y2s : Nat → T_Y2s
  | 0 => fun _ _ _ _ _ _ => none
  | n + 1 => Y2s.body (Y2s n) Y2r
def Y2s.p : LPat := lp 2 33 [0, 1, 2, 7, 8] (pl (pb 0 87 Ty29) (pl (pd (.int .i64)) (pl (pb 1 3 (.int .i64)) (ps (pr [1, 0]) (pl (pd (.int .i64)) pz))))) (pl (po [1, 0] 3 1 (ed (.int .i64))) pz)
def Y2s.g (F : T_Y2s) (v : Y2s.p.T) (k : KE) : OB := F v.1.1 v.1.2.1 v.1.2.2.1 v.1.2.2.2.1 v.2.1 (fun y0 => k (.exit 0) ⟨fillS 33 [7] [(.ref [1, 0])], [([1, 0], ⟨3, 1, (.data (.int .i64) y0)⟩)], 2⟩)
theorem Y2s.step (S : T_Y2s) (F0 : T_Y2r) : ∀ v k, exR 73 Tryz.f73 0 Y2s.p [⟨Y2r.p, Y2r.g F0⟩] [] [] (Y2s.g S) v k = Y2s.g (Y2s.body S F0) v k := fun v k => by kernel_rfl
theorem Y2s.ok : okL 73 Tryz.f73 4 0 Y2s.p (Y2s.g (Y2s ROUNDS)) := loop2 (G := fun n => Y2s.g (Y2s n)) (fun n => Y2s.step (Y2s n) Y2r) (.cons Y2r.ok .nil) [] (by kernel_rfl) .nil (fun _ _ => rfl)
abbrev T_Y2t : Type := Tc22 → Int → (List Int) → ((List Int) → OB) → OB
noncomputable def Y2t.body (Y2s : T_Y2s) : T_Y2t := fun t0 n1 n2 k1 =>
  (Y2s t0 n1 n2 0 []
 (fun n3 => (k1 n3)))
noncomputable def Y2t : T_Y2t := Y2t.body (Y2s ROUNDS)
def Y2t.p : FPat := fp 73 (pl (pb 0 87 Ty29) (pl (pd (.int .i64)) (pl (pb 1 3 (.int .i64)) pz))) pz
def Y2t.g (F : T_Y2t) (v : Y2t.p.T) (k : KR) : OB := F v.1.1 v.1.2.1 v.1.2.2.1 (fun y0 => k (.ref [1, 0]) [([1, 0], ⟨3, 1, (.data (.int .i64) y0)⟩)])
theorem Y2t.eq (L0 : T_Y2s) : ∀ v k, exF Tryz.f73 Y2t.p [] [] [⟨0, Y2s.p, Y2s.g L0⟩] v k = Y2t.g (Y2t.body L0) v k := fun v k => by kernel_rfl
theorem Y2t.ok : okF 5 Y2t.p (Y2t.g Y2t) := fn2 (Y2t.eq (Y2s ROUNDS)) Tryz.func73 (by kernel_rfl) .nil [0] (by kernel_rfl) (.cons Y2s.ok .nil)
abbrev T_Y2u : Type := Tc22 → Int → Int → Int → Int → Tc20 → Tc15 → Tc11 → Tc17 → Tc13 → (Tc22 → Int → Int → Int → Tc20 → Tc15 → Tc11 → Tc17 → Tc13 → OB) → OB
noncomputable def Y2u.body (Y2u : T_Y2u) (Y2p : T_Y2p) (Y2t : T_Y2t) (Y2o : T_Y2o) : T_Y2u := fun t0 n1 n2 n3 n4 t5 t6 l7 l8 l9 k1 =>
  (cond_ (decide (n2 < (length l8 : Int))) (Y2o t0 n1 n2 0 n3 n4 t5 t6 l7 l8 l9 []
 (fun ta nb nc nd ne tf tg lh li lj nk => (Y2p (lh, (li, (lj, ()))) nc
 (fun sl => (cond_ ((decide (0 ≤ nc)) && (decide (nc < (length li : Int)))) (Y2t ta nb nk
 (fun nm => (cond_ (Nat.ble (((length tf) + (length ((nb, (nc, (sl, ((getD li (toNat nc) ZFunc).1, ((getD li (toNat nc) ZFunc).2.1, ((getD li (toNat nc) ZFunc).2.2.1, ((getD li (toNat nc) ZFunc).2.2.2.1, ((getD li (toNat nc) ZFunc).2.2.2.2.1, ((getD li (toNat nc) ZFunc).2.2.2.2.2.1, ((getD li (toNat nc) ZFunc).2.2.2.2.2.2.1, ((getD li (toNat nc) ZFunc).2.2.2.2.2.2.2.1, ((getD li (toNat nc) ZFunc).2.2.2.2.2.2.2.2.1, (nm, ()))))))))))))) :: []))) * (192 : Nat)) (140737488355328 : Nat)) (Y2u ta nb (IntKind.wrap .i64 (nc + 1)) nd ne (tf ++ ((nb, (nc, (sl, ((getD li (toNat nc) ZFunc).1, ((getD li (toNat nc) ZFunc).2.1, ((getD li (toNat nc) ZFunc).2.2.1, ((getD li (toNat nc) ZFunc).2.2.2.1, ((getD li (toNat nc) ZFunc).2.2.2.2.1, ((getD li (toNat nc) ZFunc).2.2.2.2.2.1, ((getD li (toNat nc) ZFunc).2.2.2.2.2.2.1, ((getD li (toNat nc) ZFunc).2.2.2.2.2.2.2.1, ((getD li (toNat nc) ZFunc).2.2.2.2.2.2.2.2.1, (nm, ()))))))))))))) :: [])) tg lh li lj k1) none))) none))))) (k1 t0 n1 n3 n4 t5 t6 l7 l8 l9))
noncomputable def Y2u : Nat → T_Y2u
  | 0 => fun _ _ _ _ _ _ _ _ _ _ _ => none
  | n + 1 => Y2u.body (Y2u n) Y2p Y2t (Y2o ROUNDS)
def Y2u.p : LPat := lp 2 109 [0, 2, 3, 4, 5, 6] (pl (pb 0 87 Ty29) (ps (pq [1, 0] 0 0) (ps (pq [1, 1] 0 0) (pl (pd (.int .i64)) (ps (pq [1, 4] 0 0) (pl (pd (.int .i64)) pz)))))) (pl (po [1, 0] 30 3 (em (pl (pa (ps (pk 0) (ps (pk 0) (pl (pd (.int .i64)) pz)))) pz))) (pl (po [1, 1] 30 3 (em (pl (pa (ps (pr [1, 2]) (ps (pr [1, 3]) (pl (pd (.int .i64)) pz)))) pz))) (pl (po [1, 2] 102 13 (ed Ty27)) (pl (po [1, 3] 106 7 (ed Ty22)) (pl (po [1, 4] 87 3 (em (pl (pa (pl (pd Ty14) (pl (pd Ty25) (pl (pd Ty21) pz)))) pz))) pz)))))
def Y2u.g (F : T_Y2u) (v : Y2u.p.T) (k : KE) : OB := F v.1.1 v.1.2.1 v.1.2.2.1 v.2.1.1.1 v.2.2.1.1.1 v.2.2.2.1 v.2.2.2.2.1 v.2.2.2.2.2.1.1.1 v.2.2.2.2.2.1.1.2.1 v.2.2.2.2.2.1.1.2.2.1 (fun y0 y1 y2 y3 y4 y5 y6 y7 y8 => k (.exit 2) ⟨fillS 109 [0, 2, 3, 4, 5] [(.bv 0 87 Ty29 y0), (.ptr [1, 0] 0 0), (.ptr [1, 1] 0 0), (.d ⟨(.int .i64), y1⟩), (.ptr [1, 4] 0 0)], [([1, 0], ⟨30, 3, (.mix [(.agg [.nils, .nils, (.d ⟨(.int .i64), y2⟩)])])⟩), ([1, 1], ⟨30, 3, (.mix [(.agg [(.ref [1, 2]), (.ref [1, 3]), (.d ⟨(.int .i64), y3⟩)])])⟩), ([1, 2], ⟨102, 13, (.data Ty27 y4)⟩), ([1, 3], ⟨106, 7, (.data Ty22 y5)⟩), ([1, 4], ⟨87, 3, (.mix [(.agg [(.d ⟨Ty14, y6⟩), (.d ⟨Ty25, y7⟩), (.d ⟨Ty21, y8⟩)])])⟩)], 2⟩)
theorem Y2u.step (S : T_Y2u) (F0 : T_Y2p) (F1 : T_Y2t) (L0 : T_Y2o) : ∀ v k, exR 42 Tryz.f42 2 Y2u.p [⟨Y2p.p, Y2p.g F0⟩, ⟨Y2t.p, Y2t.g F1⟩] [] [⟨4, Y2o.p, Y2o.g L0⟩] (Y2u.g S) v k = Y2u.g (Y2u.body S F0 F1 L0) v k := fun v k => by kernel_rfl
theorem Y2u.ok : okL 42 Tryz.f42 5 2 Y2u.p (Y2u.g (Y2u ROUNDS)) := loop2 (G := fun n => Y2u.g (Y2u n)) (fun n => Y2u.step (Y2u n) Y2p Y2t (Y2o ROUNDS)) (.cons Y2p.ok (.cons Y2t.ok .nil)) [4] (by kernel_rfl) (.cons Y2o.ok .nil) (fun _ _ => rfl)
abbrev T_Y2v : Type := Tc1 → Int → Int → Int → Int → (List Int) → (Tc1 → Int → Int → Int → (List Int) → OB) → OB
noncomputable def Y2v.body (Y2v : T_Y2v) : T_Y2v := fun t0 n1 n2 n3 n4 n5 k1 =>
  (cond_ (decide (n4 ≥ 0)) (cond_ ((decide (0 ≤ n4)) && (decide (n4 < (length t0 : Int)))) (cond_ ((getD t0 (toNat n4) ZRel).1 == n2) (Y2v t0 n1 n2 n4 (IntKind.wrap .i64 (n4 - 1)) n5 k1) (Y2v t0 n1 n2 n3 (IntKind.wrap .i64 (n4 - 1)) n5 k1)) none) (k1 t0 n1 n2 n3 n5))
noncomputable def Y2v : Nat → T_Y2v
  | 0 => fun _ _ _ _ _ _ _ => none
  | n + 1 => Y2v.body (Y2v n)
def Y2v.p : LPat := lp 2 38 [0, 1, 5, 6, 7, 8] (pl (pb 0 108 Ty6) (pl (pd (.int .i64)) (ps (pr [1, 0]) (pl (pd (.int .i64)) (pl (pd (.int .i64)) (pl (pd (.int .i64)) pz)))))) (pl (po [1, 0] 3 1 (ed (.int .i64))) pz)
def Y2v.g (F : T_Y2v) (v : Y2v.p.T) (k : KE) : OB := F v.1.1 v.1.2.1 v.1.2.2.1 v.1.2.2.2.1 v.1.2.2.2.2.1 v.2.1 (fun y0 y1 y2 y3 y4 => k (.exit 2) ⟨fillS 38 [0, 1, 5, 6, 7] [(.bv 0 108 Ty6 y0), (.d ⟨(.int .i64), y1⟩), (.ref [1, 0]), (.d ⟨(.int .i64), y2⟩), (.d ⟨(.int .i64), y3⟩)], [([1, 0], ⟨3, 1, (.data (.int .i64) y4)⟩)], 2⟩)
theorem Y2v.step (S : T_Y2v) : ∀ v k, exR 114 Tryz.f114 2 Y2v.p [] [] [] (Y2v.g S) v k = Y2v.g (Y2v.body S) v k := fun v k => by kernel_rfl
theorem Y2v.ok : okL 114 Tryz.f114 0 2 Y2v.p (Y2v.g (Y2v ROUNDS)) := loop2 (G := fun n => Y2v.g (Y2v n)) (fun n => Y2v.step (Y2v n)) .nil [] (by kernel_rfl) .nil (fun _ _ => rfl)
abbrev T_Y2w : Type := Tc1 → Int → Int → (List Int) → ((List Int) → OB) → OB
noncomputable def Y2w.body (Y2w : T_Y2w) (Y2v : T_Y2v) : T_Y2w := fun t0 n1 n2 n3 k1 =>
  (cond_ (decide (n2 < n1)) (cond_ (decide (n2 < 4096)) (Y2v t0 n1 n2 (-1) (IntKind.wrap .i64 ((length t0 : Int) - 1)) n3
 (fun t4 n5 n6 n7 n8 => (cond_ (Nat.ble (((length n8) + (length (n7 :: []))) * (8 : Nat)) (140737488355328 : Nat)) (Y2w t4 n5 (IntKind.wrap .i64 (n6 + 1)) (n8 ++ (n7 :: [])) k1) none))) (k1 n3)) (k1 n3))
noncomputable def Y2w : Nat → T_Y2w
  | 0 => fun _ _ _ _ _ => none
  | n + 1 => Y2w.body (Y2w n) (Y2v ROUNDS)
def Y2w.p : LPat := lp 2 38 [0, 1, 5, 6] (pl (pb 0 108 Ty6) (pl (pd (.int .i64)) (ps (pr [1, 0]) (pl (pd (.int .i64)) pz)))) (pl (po [1, 0] 3 1 (ed (.int .i64))) pz)
def Y2w.g (F : T_Y2w) (v : Y2w.p.T) (k : KE) : OB := F v.1.1 v.1.2.1 v.1.2.2.1 v.2.1 (fun y0 => k (.exit 0) ⟨fillS 38 [5] [(.ref [1, 0])], [([1, 0], ⟨3, 1, (.data (.int .i64) y0)⟩)], 2⟩)
theorem Y2w.step (S : T_Y2w) (L0 : T_Y2v) : ∀ v k, exR 114 Tryz.f114 0 Y2w.p [] [] [⟨2, Y2v.p, Y2v.g L0⟩] (Y2w.g S) v k = Y2w.g (Y2w.body S L0) v k := fun v k => by kernel_rfl
theorem Y2w.ok : okL 114 Tryz.f114 0 0 Y2w.p (Y2w.g (Y2w ROUNDS)) := loop2 (G := fun n => Y2w.g (Y2w n)) (fun n => Y2w.step (Y2w n) (Y2v ROUNDS)) .nil [2] (by kernel_rfl) (.cons Y2v.ok .nil) (fun _ _ => rfl)
abbrev T_Y2x : Type := Tc1 → Int → ((List Int) → OB) → OB
noncomputable def Y2x.body (Y2w : T_Y2w) : T_Y2x := fun t0 n1 k1 =>
  (Y2w t0 n1 0 []
 (fun n2 => (k1 n2)))
noncomputable def Y2x : T_Y2x := Y2x.body (Y2w ROUNDS)
def Y2x.p : FPat := fp 114 (pl (pb 0 108 Ty6) (pl (pd (.int .i64)) pz)) pz
def Y2x.g (F : T_Y2x) (v : Y2x.p.T) (k : KR) : OB := F v.1.1 v.1.2.1 (fun y0 => k (.ref [1, 0]) [([1, 0], ⟨3, 1, (.data (.int .i64) y0)⟩)])
theorem Y2x.eq (L0 : T_Y2w) : ∀ v k, exF Tryz.f114 Y2x.p [] [] [⟨0, Y2w.p, Y2w.g L0⟩] v k = Y2x.g (Y2x.body L0) v k := fun v k => by kernel_rfl
theorem Y2x.ok : okF 1 Y2x.p (Y2x.g Y2x) := fn2 (Y2x.eq (Y2w ROUNDS)) Tryz.func114 (by kernel_rfl) .nil [0] (by kernel_rfl) (.cons Y2w.ok .nil)
abbrev T_Y2y : Type := Int → Tc12 → (List Int) → ((List Int) → OB) → OB
noncomputable def Y2y.body (Y2y : T_Y2y) : T_Y2y := fun n0 t1 n2 k1 =>
  (cond_ (decide (n0 < (length n2 : Int))) (cond_ ((decide (0 ≤ n0)) && (decide (n0 < (length n2 : Int)))) (cond_ (decide ((getD n2 (toNat n0) 0) ≥ 0)) (cond_ ((decide (0 ≤ n0)) && (decide (n0 < (length n2 : Int)))) (cond_ ((decide (0 ≤ (getD n2 (toNat n0) 0))) && (decide ((getD n2 (toNat n0) 0) < (length t1.2.2.1 : Int)))) (cond_ ((decide (0 ≤ n0)) && (decide (n0 < (length n2 : Int)))) (Y2y (IntKind.wrap .i64 (n0 + 1)) t1 (List.set n2 (toNat n0) (getD t1.2.2.1 (toNat (getD n2 (toNat n0) 0)) ZRel).2.1) k1) none) none) none) (Y2y (IntKind.wrap .i64 (n0 + 1)) t1 n2 k1)) none) (k1 n2))
noncomputable def Y2y : Nat → T_Y2y
  | 0 => fun _ _ _ _ => none
  | n + 1 => Y2y.body (Y2y n)
def Y2y.p : LPat := lp 2 35 [1, 3, 4] (ps (pq [1, 0] 0 0) (ps (pr [1, 1]) (pl (pd (.int .i64)) pz))) (pl (po [1, 0] 104 3 (es Ty19 (pl eh pz))) (pl (po [1, 1] 3 1 (ed (.int .i64))) pz))
def Y2y.g (F : T_Y2y) (v : Y2y.p.T) (k : KE) : OB := F v.1.1 v.2.1.1 v.2.2.1 (fun y0 => k (.exit 0) ⟨fillS 35 [3] [(.ref [1, 0])], [([1, 0], ⟨3, 1, (.data (.int .i64) y0)⟩)], 2⟩)
theorem Y2y.step (S : T_Y2y) : ∀ v k, exR 74 Tryz.f74 0 Y2y.p [] [] [] (Y2y.g S) v k = Y2y.g (Y2y.body S) v k := fun v k => by kernel_rfl
theorem Y2y.ok : okL 74 Tryz.f74 0 0 Y2y.p (Y2y.g (Y2y ROUNDS)) := loop2 (G := fun n => Y2y.g (Y2y n)) (fun n => Y2y.step (Y2y n)) .nil [] (by kernel_rfl) .nil (fun _ _ => rfl)
abbrev T_Y2z : Type := Tc12 → ((List Int) → OB) → OB
noncomputable def Y2z.body (Y2x : T_Y2x) (Y2y : T_Y2y) : T_Y2z := fun t0 k1 =>
  (Y2x t0.2.2.1 (length t0.2.1 : Int)
 (fun n1 => (Y2y 0 t0 n1
 (fun n2 => (k1 n2)))))
noncomputable def Y2z : T_Y2z := Y2z.body Y2x (Y2y ROUNDS)
def Y2z.p : FPat := fp 74 (pl (pd Ty19) pz) pz
def Y2z.g (F : T_Y2z) (v : Y2z.p.T) (k : KR) : OB := F v.1.1 (fun y0 => k (.ref [1, 0]) [([1, 0], ⟨3, 1, (.data (.int .i64) y0)⟩)])
theorem Y2z.eq (F0 : T_Y2x) (L0 : T_Y2y) : ∀ v k, exF Tryz.f74 Y2z.p [⟨Y2x.p, Y2x.g F0⟩] [] [⟨0, Y2y.p, Y2y.g L0⟩] v k = Y2z.g (Y2z.body F0 L0) v k := fun v k => by kernel_rfl
theorem Y2z.ok : okF 2 Y2z.p (Y2z.g Y2z) := fn2 (Y2z.eq Y2x (Y2y ROUNDS)) Tryz.func74 (by kernel_rfl) (.cons Y2x.ok .nil) [0] (by kernel_rfl) (.cons Y2y.ok .nil)
abbrev T_Y30 : Type := Tc22 → Int → Int → Int → Int → Tc20 → Tc15 → Tc11 → Tc17 → Tc13 → (Tc22 → Int → Int → Int → Tc20 → Tc15 → OB) → OB
noncomputable def Y30.body (Y30 : T_Y30) (Y2p : T_Y2p) (Y2z : T_Y2z) (Y2t : T_Y2t) : T_Y30 := fun t0 n1 n2 n3 n4 t5 t6 l7 l8 l9 k1 =>
  (cond_ (decide (n2 < (length l9 : Int))) (Y2p (l7, (l8, (l9, ()))) (IntKind.wrap .i64 ((length l8 : Int) + n2))
 (fun sa => (cond_ ((decide (0 ≤ n2)) && (decide (n2 < (length l9 : Int)))) (cond_ ((decide (0 ≤ n2)) && (decide (n2 < (length l9 : Int)))) (Y2z (getD l9 (toNat n2) ZData)
 (fun nb => (Y2t t0 n1 nb
 (fun nc => (cond_ (Nat.ble (((length t6) + (length ((n1, ((IntKind.wrap .i64 ((length l8 : Int) + n2)), (sa, ((getD l9 (toNat n2) ZData).1, ((getD l9 (toNat n2) ZData).2.1, ((getD l9 (toNat n2) ZData).2.2.1, (nc, ()))))))) :: []))) * (112 : Nat)) (140737488355328 : Nat)) (Y30 t0 n1 (IntKind.wrap .i64 (n2 + 1)) n3 n4 t5 (t6 ++ ((n1, ((IntKind.wrap .i64 ((length l8 : Int) + n2)), (sa, ((getD l9 (toNat n2) ZData).1, ((getD l9 (toNat n2) ZData).2.1, ((getD l9 (toNat n2) ZData).2.2.1, (nc, ()))))))) :: [])) l7 l8 l9 k1) none))))) none) none))) (k1 t0 n1 n3 n4 t5 t6))
noncomputable def Y30 : Nat → T_Y30
  | 0 => fun _ _ _ _ _ _ _ _ _ _ _ => none
  | n + 1 => Y30.body (Y30 n) Y2p Y2z Y2t
def Y30.p : LPat := lp 2 109 [0, 2, 3, 4, 5, 9] (pl (pb 0 87 Ty29) (ps (pq [1, 0] 0 0) (ps (pq [1, 1] 0 0) (pl (pd (.int .i64)) (ps (pq [1, 4] 0 0) (pl (pd (.int .i64)) pz)))))) (pl (po [1, 0] 30 3 (em (pl (pa (ps (pk 0) (ps (pk 0) (pl (pd (.int .i64)) pz)))) pz))) (pl (po [1, 1] 30 3 (em (pl (pa (ps (pr [1, 2]) (ps (pr [1, 3]) (pl (pd (.int .i64)) pz)))) pz))) (pl (po [1, 2] 102 13 (ed Ty27)) (pl (po [1, 3] 106 7 (ed Ty22)) (pl (po [1, 4] 87 3 (em (pl (pa (pl (pd Ty14) (pl (pd Ty25) (pl (pd Ty21) pz)))) pz))) pz)))))
def Y30.g (F : T_Y30) (v : Y30.p.T) (k : KE) : OB := F v.1.1 v.1.2.1 v.1.2.2.1 v.2.1.1.1 v.2.2.1.1.1 v.2.2.2.1 v.2.2.2.2.1 v.2.2.2.2.2.1.1.1 v.2.2.2.2.2.1.1.2.1 v.2.2.2.2.2.1.1.2.2.1 (fun y0 y1 y2 y3 y4 y5 => k (.exit 6) ⟨fillS 109 [0, 2, 3, 4] [(.bv 0 87 Ty29 y0), (.ptr [1, 0] 0 0), (.ptr [1, 1] 0 0), (.d ⟨(.int .i64), y1⟩)], [([1, 0], ⟨30, 3, (.mix [(.agg [.nils, .nils, (.d ⟨(.int .i64), y2⟩)])])⟩), ([1, 1], ⟨30, 3, (.mix [(.agg [(.ref [1, 2]), (.ref [1, 3]), (.d ⟨(.int .i64), y3⟩)])])⟩), ([1, 2], ⟨102, 13, (.data Ty27 y4)⟩), ([1, 3], ⟨106, 7, (.data Ty22 y5)⟩)], 2⟩)
theorem Y30.step (S : T_Y30) (F0 : T_Y2p) (F1 : T_Y2z) (F2 : T_Y2t) : ∀ v k, exR 42 Tryz.f42 6 Y30.p [⟨Y2p.p, Y2p.g F0⟩, ⟨Y2z.p, Y2z.g F1⟩, ⟨Y2t.p, Y2t.g F2⟩] [] [] (Y30.g S) v k = Y30.g (Y30.body S F0 F1 F2) v k := fun v k => by kernel_rfl
theorem Y30.ok : okL 42 Tryz.f42 5 6 Y30.p (Y30.g (Y30 ROUNDS)) := loop2 (G := fun n => Y30.g (Y30 n)) (fun n => Y30.step (Y30 n) Y2p Y2z Y2t) (.cons Y2p.ok (.cons Y2z.ok (.cons Y2t.ok .nil))) [] (by kernel_rfl) .nil (fun _ _ => rfl)
abbrev T_Y31 : Type := Tc22 → Int → Int → Int → Tc20 → Tc15 → (Int → Int → Tc20 → Tc15 → OB) → OB
noncomputable def Y31.body (Y31 : T_Y31) (Y2u : T_Y2u) (Y30 : T_Y30) : T_Y31 := fun t0 n1 n2 n3 t4 t5 k1 =>
  (cond_ (decide (n1 < (length t0 : Int))) (cond_ ((decide (0 ≤ n1)) && (decide (n1 < (length t0 : Int)))) (Y2u t0 n1 0 n2 n3 t4 t5 (getD t0 (toNat n1) ([], ([], ([], ())))).1 (getD t0 (toNat n1) ([], ([], ([], ())))).2.1 (getD t0 (toNat n1) ([], ([], ([], ())))).2.2.1
 (fun t6 n7 n8 n9 ta tb lc ld le => (Y30 t6 n7 0 n8 n9 ta tb lc ld le
 (fun tf ng nh ni tj tk => (Y31 tf (IntKind.wrap .i64 (ng + 1)) nh ni tj tk k1))))) none) (k1 n2 n3 t4 t5))
noncomputable def Y31 : Nat → T_Y31
  | 0 => fun _ _ _ _ _ _ _ => none
  | n + 1 => Y31.body (Y31 n) (Y2u ROUNDS) (Y30 ROUNDS)
def Y31.p : LPat := lp 2 109 [0, 2, 3, 4] (pl (pb 0 87 Ty29) (ps (pq [1, 0] 0 0) (ps (pq [1, 1] 0 0) (pl (pd (.int .i64)) pz)))) (pl (po [1, 0] 30 3 (em (pl (pa (ps (pk 0) (ps (pk 0) (pl (pd (.int .i64)) pz)))) pz))) (pl (po [1, 1] 30 3 (em (pl (pa (ps (pr [1, 2]) (ps (pr [1, 3]) (pl (pd (.int .i64)) pz)))) pz))) (pl (po [1, 2] 102 13 (ed Ty27)) (pl (po [1, 3] 106 7 (ed Ty22)) pz))))
def Y31.g (F : T_Y31) (v : Y31.p.T) (k : KE) : OB := F v.1.1 v.1.2.1 v.2.1.1.1 v.2.2.1.1.1 v.2.2.2.1 v.2.2.2.2.1 (fun y0 y1 y2 y3 => k (.exit 0) ⟨fillS 109 [2, 3] [(.ptr [1, 0] 0 0), (.ptr [1, 1] 0 0)], [([1, 0], ⟨30, 3, (.mix [(.agg [.nils, .nils, (.d ⟨(.int .i64), y0⟩)])])⟩), ([1, 1], ⟨30, 3, (.mix [(.agg [(.ref [1, 2]), (.ref [1, 3]), (.d ⟨(.int .i64), y1⟩)])])⟩), ([1, 2], ⟨102, 13, (.data Ty27 y2)⟩), ([1, 3], ⟨106, 7, (.data Ty22 y3)⟩)], 2⟩)
theorem Y31.step (S : T_Y31) (L0 : T_Y2u) (L1 : T_Y30) : ∀ v k, exR 42 Tryz.f42 0 Y31.p [] [] [⟨2, Y2u.p, Y2u.g L0⟩, ⟨6, Y30.p, Y30.g L1⟩] (Y31.g S) v k = Y31.g (Y31.body S L0 L1) v k := fun v k => by kernel_rfl
theorem Y31.ok : okL 42 Tryz.f42 5 0 Y31.p (Y31.g (Y31 ROUNDS)) := loop2 (G := fun n => Y31.g (Y31 n)) (fun n => Y31.step (Y31 n) (Y2u ROUNDS) (Y30 ROUNDS)) .nil [2, 6] (by kernel_rfl) (.cons Y2u.ok (.cons Y30.ok .nil)) (fun _ _ => rfl)
abbrev T_Y32 : Type := Tc22 → (Int → Tc20 → Tc15 → OB) → OB
noncomputable def Y32.body (Y31 : T_Y31) : T_Y32 := fun t0 k1 =>
  (Y31 t0 0 0 0 [] []
 (fun n1 n2 t3 t4 => (k1 n2 t3 t4)))
noncomputable def Y32 : T_Y32 := Y32.body (Y31 ROUNDS)
def Y32.p : FPat := fp 42 (pl (pb 0 87 Ty29) pz) pz
def Y32.g (F : T_Y32) (v : Y32.p.T) (k : KR) : OB := F v.1.1 (fun y0 y1 y2 => k (.agg [(.ref [1, 0]), (.ref [1, 1]), (.d ⟨(.int .i64), y0⟩)]) [([1, 0], ⟨102, 13, (.data Ty27 y1)⟩), ([1, 1], ⟨106, 7, (.data Ty22 y2)⟩)])
theorem Y32.eq (L0 : T_Y31) : ∀ v k, exF Tryz.f42 Y32.p [] [] [⟨0, Y31.p, Y31.g L0⟩] v k = Y32.g (Y32.body L0) v k := fun v k => by kernel_rfl
theorem Y32.ok : okF 6 Y32.p (Y32.g Y32) := fn2 (Y32.eq (Y31 ROUNDS)) Tryz.func42 (by kernel_rfl) .nil [0] (by kernel_rfl) (.cons Y31.ok .nil)
abbrev T_Y33 : Type := Tc22 → ByteArray → (Tc23 → (Int × Int × Int × Unit) → OB) → OB
noncomputable def Y33.body (Y2n : T_Y2n) (Y2g : T_Y2g) (Y32 : T_Y32) (Y2r : T_Y2r) (Y2c : T_Y2c) : T_Y33 := fun t0 s1 k1 =>
  (cond_ (! ((length t0 : Int) == 0)) (cond_ (decide ((length t0 : Int) > 6)) (k1 ([], ([], (0, ()))) (19, ((-1), ((-1), ())))) (Y2c t0 s1 0 0 (0, (0, (0, ())))
 (fun t2 t3 => (k1 t2 t3))
 (fun t4 s5 n6 t7 => (Y2n t4
 (fun t8 => (cond_ (t8.1 != 0) (k1 ([], ([], (0, ()))) t8) (Y2g t4 s5
 (fun n9 na bb => (cond_ (! (! bb)) (cond_ ((decide (0 ≤ n9)) && (decide (n9 < (length t4 : Int)))) (cond_ ((decide (0 ≤ na)) && (decide (na < (((length (getD t4 (toNat n9) ([], ([], ([], ())))).1) : Nat) : Int)))) (cond_ (! ((getD (getD t4 (toNat n9) ([], ([], ([], ())))).1 (toNat na) ZSym).2.2.1 != 1)) (cond_ ((decide (0 ≤ n9)) && (decide (n9 < (length t4 : Int)))) (cond_ ((decide (0 ≤ na)) && (decide (na < (((length (getD t4 (toNat n9) ([], ([], ([], ())))).1) : Nat) : Int)))) (cond_ (decide ((getD (getD t4 (toNat n9) ([], ([], ([], ())))).1 (toNat na) ZSym).2.2.2.1 > 1)) (k1 ([], ([], (0, ()))) (15, ((-1), ((-1), ())))) (Y32 t4
 (fun nc td te => (Y2r t4 n9 na
 (fun nf => (k1 (td, (te, (nf, ()))) (0, (0, (0, ()))))))))) none) none) (k1 ([], ([], (0, ()))) (15, ((-1), ((-1), ()))))) none) none) (k1 ([], ([], (0, ()))) (15, ((-1), ((-1), ()))))))))))))) (k1 ([], ([], (0, ()))) (19, ((-1), ((-1), ())))))
noncomputable def Y33 : T_Y33 := Y33.body Y2n Y2g Y32 Y2r (Y2c ROUNDS)
def Y33.p : FPat := fp 15 (pl (pb 0 87 Ty29) (pl (pd .str) pz)) pz
def Y33.g (F : T_Y33) (v : Y33.p.T) (k : KR) : OB := F v.1.1 v.1.2.1 (fun y0 y1 => k (.tup [(.d ⟨Ty30, y0⟩), (.d ⟨Ty9, y1⟩)]) [])
theorem Y33.eq (F0 : T_Y2n) (F1 : T_Y2g) (F2 : T_Y32) (F3 : T_Y2r) (L0 : T_Y2c) : ∀ v k, exF Tryz.f15 Y33.p [⟨Y2n.p, Y2n.g F0⟩, ⟨Y2g.p, Y2g.g F1⟩, ⟨Y32.p, Y32.g F2⟩, ⟨Y2r.p, Y2r.g F3⟩] [] [⟨0, Y2c.p, Y2c.g L0⟩] v k = Y33.g (Y33.body F0 F1 F2 F3 L0) v k := fun v k => by kernel_rfl
theorem Y33.ok : okF 11 Y33.p (Y33.g Y33) := fn2 (Y33.eq Y2n Y2g Y32 Y2r (Y2c ROUNDS)) Tryz.func15 (by kernel_rfl) (.cons Y2n.ok (.cons Y2g.ok (.cons Y32.ok (.cons Y2r.ok .nil)))) [0] (by kernel_rfl) (.cons Y2c.ok .nil)
abbrev T_Y34 : Type := Int → Tc23 → (Bool → OB) → (Tc23 → OB) → OB
noncomputable def Y34.body (Y34 : T_Y34) : T_Y34 := fun n0 t1 k1 k2 =>
  (cond_ (decide (n0 < (length t1.1 : Int))) (cond_ ((decide (0 ≤ n0)) && (decide (n0 < (length t1.1 : Int)))) (cond_ (! (decide ((length (getD t1.1 (toNat n0) ZFun).2.2.2.2.2.2.2.2.2.2.1 : Int) > 80))) (cond_ ((decide (0 ≤ n0)) && (decide (n0 < (length t1.1 : Int)))) (cond_ (! (decide ((length (getD t1.1 (toNat n0) ZFun).2.2.2.2.2.2.2.2.2.2.2.2.1 : Int) > 80))) (cond_ ((decide (0 ≤ n0)) && (decide (n0 < (length t1.1 : Int)))) (cond_ (! (decide ((length (getD t1.1 (toNat n0) ZFun).2.2.2.2.1 : Int) > 80))) (cond_ ((decide (0 ≤ n0)) && (decide (n0 < (length t1.1 : Int)))) (cond_ (! (decide ((length (getD t1.1 (toNat n0) ZFun).2.2.2.2.2.2.2.2.2.2.2.1 : Int) > 80))) (cond_ ((decide (0 ≤ n0)) && (decide (n0 < (length t1.1 : Int)))) (cond_ (decide ((length (getD t1.1 (toNat n0) ZFun).2.2.2.2.2.2.2.2.2.1 : Int) > 80)) (k1 false) (Y34 (IntKind.wrap .i64 (n0 + 1)) t1 k1 k2)) none) (k1 false)) none) (k1 false)) none) (k1 false)) none) (k1 false)) none) (k2 t1))
noncomputable def Y34 : Nat → T_Y34
  | 0 => fun _ _ _ _ => none
  | n + 1 => Y34.body (Y34 n)
def Y34.p : LPat := lp 2 111 [1, 3] (ps (pq [1, 0] 0 0) (pl (pd (.int .i64)) pz)) (pl (po [1, 0] 30 3 (es Ty30 (pl eh pz))) pz)
def Y34.g (F : T_Y34) (v : Y34.p.T) (k : KE) : OB := F v.1.1 v.2.1.1 (fun y0 => k .ret ⟨fillS 111 [2] [(.d ⟨.bool, y0⟩)], [], 2⟩) (fun y0 => k (.exit 0) ⟨fillS 111 [1] [(.ptr [1, 0] 0 0)], [([1, 0], ⟨30, 3, (.data Ty30 [y0])⟩)], 2⟩)
theorem Y34.step (S : T_Y34) : ∀ v k, exR 16 Tryz.f16 0 Y34.p [] [] [] (Y34.g S) v k = Y34.g (Y34.body S) v k := fun v k => by kernel_rfl
theorem Y34.ok : okL 16 Tryz.f16 0 0 Y34.p (Y34.g (Y34 ROUNDS)) := loop2 (G := fun n => Y34.g (Y34 n)) (fun n => Y34.step (Y34 n)) .nil [] (by kernel_rfl) .nil (fun _ _ => rfl)
abbrev T_Y35 : Type := Int → Tc23 → (Bool → OB) → (Tc23 → OB) → OB
noncomputable def Y35.body (Y35 : T_Y35) : T_Y35 := fun n0 t1 k1 k2 =>
  (cond_ (decide (n0 < (length t1.2.1 : Int))) (cond_ ((decide (0 ≤ n0)) && (decide (n0 < (length t1.2.1 : Int)))) (cond_ (! (decide ((length (getD t1.2.1 (toNat n0) ZDat).2.2.2.2.1 : Int) > 80))) (cond_ ((decide (0 ≤ n0)) && (decide (n0 < (length t1.2.1 : Int)))) (cond_ (! (decide ((length (getD t1.2.1 (toNat n0) ZDat).2.2.2.2.2.2.1 : Int) > 80))) (cond_ ((decide (0 ≤ n0)) && (decide (n0 < (length t1.2.1 : Int)))) (cond_ (decide ((length (getD t1.2.1 (toNat n0) ZDat).2.2.2.2.2.1 : Int) > 80)) (k1 false) (Y35 (IntKind.wrap .i64 (n0 + 1)) t1 k1 k2)) none) (k1 false)) none) (k1 false)) none) (k2 t1))
noncomputable def Y35 : Nat → T_Y35
  | 0 => fun _ _ _ _ => none
  | n + 1 => Y35.body (Y35 n)
def Y35.p : LPat := lp 2 111 [1, 4] (ps (pq [1, 0] 0 0) (pl (pd (.int .i64)) pz)) (pl (po [1, 0] 30 3 (es Ty30 (pl eh pz))) pz)
def Y35.g (F : T_Y35) (v : Y35.p.T) (k : KE) : OB := F v.1.1 v.2.1.1 (fun y0 => k .ret ⟨fillS 111 [2] [(.d ⟨.bool, y0⟩)], [], 2⟩) (fun y0 => k (.exit 2) ⟨fillS 111 [1] [(.ptr [1, 0] 0 0)], [([1, 0], ⟨30, 3, (.data Ty30 [y0])⟩)], 2⟩)
theorem Y35.step (S : T_Y35) : ∀ v k, exR 16 Tryz.f16 2 Y35.p [] [] [] (Y35.g S) v k = Y35.g (Y35.body S) v k := fun v k => by kernel_rfl
theorem Y35.ok : okL 16 Tryz.f16 0 2 Y35.p (Y35.g (Y35 ROUNDS)) := loop2 (G := fun n => Y35.g (Y35 n)) (fun n => Y35.step (Y35 n)) .nil [] (by kernel_rfl) .nil (fun _ _ => rfl)
abbrev T_Y36 : Type := Tc23 → (Bool → OB) → OB
noncomputable def Y36.body (Y34 : T_Y34) (Y35 : T_Y35) : T_Y36 := fun t0 k1 =>
  (Y34 0 t0
 (fun b1 => (k1 b1))
 (fun t2 => (Y35 0 t2
 (fun b3 => (k1 b3))
 (fun t4 => (cond_ (decide ((length t4.1 : Int) ≤ 24)) (k1 (decide ((length t4.2.1 : Int) ≤ 24))) (k1 false))))))
noncomputable def Y36 : T_Y36 := Y36.body (Y34 ROUNDS) (Y35 ROUNDS)
def Y36.p : FPat := fp 16 (pl (pd Ty30) pz) pz
def Y36.g (F : T_Y36) (v : Y36.p.T) (k : KR) : OB := F v.1.1 (fun y0 => k (.d ⟨.bool, y0⟩) [])
theorem Y36.eq (L0 : T_Y34) (L1 : T_Y35) : ∀ v k, exF Tryz.f16 Y36.p [] [] [⟨0, Y34.p, Y34.g L0⟩, ⟨2, Y35.p, Y35.g L1⟩] v k = Y36.g (Y36.body L0 L1) v k := fun v k => by kernel_rfl
theorem Y36.ok : okF 1 Y36.p (Y36.g Y36) := fn2 (Y36.eq (Y34 ROUNDS) (Y35 ROUNDS)) Tryz.func16 (by kernel_rfl) .nil [0, 2] (by kernel_rfl) (.cons Y34.ok (.cons Y35.ok .nil))
abbrev T_Y37 : Type := Tc22 → Tc2 → (Tc23 → Bool → OB) → OB
noncomputable def Y37.body (Y7 : T_Y7) (Y33 : T_Y33) (Y36 : T_Y36) : T_Y37 := fun t0 t1 k1 =>
  (Y7 t0
 (fun b2 => (cond_ (! (! b2)) (cond_ (! (decide ((length t1.1 : Int) > 60))) (cond_ (decide ((length t1.2.1 : Int) > 60)) (k1 ([], ([], (0, ()))) false) (Y33 t0 (⟨#[109, 97, 105, 110]⟩ : ByteArray)
 (fun t3 t4 => (cond_ (t4.1 == 0) (Y36 (t3.1, (t3.2.1, (t3.2.2.1, ())))
 (fun b5 => (k1 (t3.1, (t3.2.1, (t3.2.2.1, ()))) b5))) (k1 (t3.1, (t3.2.1, (t3.2.2.1, ()))) false))))) (k1 ([], ([], (0, ()))) false)) (k1 ([], ([], (0, ()))) false))))
noncomputable def Y37 : T_Y37 := Y37.body Y7 Y33 Y36
def Y37.p : FPat := fp 5 (pl (pb 0 87 Ty29) (pl (pd Ty8) pz)) pz
def Y37.g (F : T_Y37) (v : Y37.p.T) (k : KR) : OB := F v.1.1 v.1.2.1 (fun y0 y1 => k (.tup [(.d ⟨Ty30, y0⟩), (.d ⟨.bool, y1⟩)]) [])
theorem Y37.eq (F0 : T_Y7) (F1 : T_Y33) (F2 : T_Y36) : ∀ v k, exF Tryz.f5 Y37.p [⟨Y7.p, Y7.g F0⟩, ⟨Y33.p, Y33.g F1⟩, ⟨Y36.p, Y36.g F2⟩] [] [] v k = Y37.g (Y37.body F0 F1 F2) v k := fun v k => by kernel_rfl
theorem Y37.ok : okF 12 Y37.p (Y37.g Y37) := fn2 (Y37.eq Y7 Y33 Y36) Tryz.func5 (by kernel_rfl) (.cons Y7.ok (.cons Y33.ok (.cons Y36.ok .nil))) [] (by kernel_rfl) .nil
abbrev T_Y38 : Type := (Int → Tc20 → OB) → OB
noncomputable def Y38.body : T_Y38 := fun k1 =>
  (k1 0 [(0, (0, ((⟨#[109, 97, 105, 110]⟩ : ByteArray), (0, ([0, 1], (0, (false, (3, (4, ([], ([(17, (1, (0, (0, (0, ()))))), (20, (0, (1, (0, (0, ()))))), (21, (0, (0, (0, (0, ()))))), (24, (0, (0, (0, (0, ())))))], ([(0, (1, (true, ()))), (2, (2, (true, ())))], ([1, (-1), 2, (-1)], ()))))))))))))), (0, (1, ((⟨#[102]⟩ : ByteArray), (0, ([], (10, (true, (0, (0, ([], ([(24, (0, (0, (0, (0, ())))))], ([], ([(-1)], ()))))))))))))), (0, (2, ((⟨#[103]⟩ : ByteArray), (0, ([], (70, (false, (0, (0, ([], ([(24, (0, (0, (0, (0, ())))))], ([], ([(-1)], ()))))))))))))), (0, (3, ((⟨#[104]⟩ : ByteArray), (0, ([], (0, (false, (0, (0, ([], ([(19, (0, (0, (0, (0, ()))))), (24, (0, (0, (0, (0, ())))))], ([(0, (3, (true, ())))], ([3, (-1)], ())))))))))))))])
noncomputable def Y38 : T_Y38 := Y38.body
def Y38.p : FPat := fp 17 pz pz
def Y38.g (F : T_Y38) (v : Y38.p.T) (k : KR) : OB := F (fun y0 y1 => k (.agg [(.ref [1, 0]), .nils, (.d ⟨(.int .i64), y0⟩)]) [([1, 0], ⟨102, 13, (.data Ty27 y1)⟩)])
theorem Y38.eq : ∀ v k, exF Tryz.f17 Y38.p [] [] [] v k = Y38.g (Y38.body) v k := fun v k => by kernel_rfl
theorem Y38.ok : okF 1 Y38.p (Y38.g Y38) := fn2 (Y38.eq) Tryz.func17 (by kernel_rfl) .nil [] (by kernel_rfl) .nil
abbrev T_Y39 : Type := Int → Tc20 → Int → (List Bool) → (List Int) → ((List Bool) → (List Int) → OB) → OB
noncomputable def Y39.body (Y39 : T_Y39) : T_Y39 := fun n0 t1 n2 b3 n4 k1 =>
  (cond_ (decide (n0 < (length t1 : Int))) (cond_ (Nat.ble (((length b3) + (1 : Nat)) * (1 : Nat)) (140737488355328 : Nat)) (cond_ ((decide (0 ≤ n0)) && (decide (n0 < (length t1 : Int)))) (cond_ (getD t1 (toNat n0) ZFun).2.2.2.2.2.2.1 (cond_ (Nat.ble (((length n4) + (1 : Nat)) * (8 : Nat)) (140737488355328 : Nat)) (Y39 (IntKind.wrap .i64 (n0 + 1)) t1 n2 (b3 ++ (true :: [])) (n4 ++ (0 :: [])) k1) none) (cond_ (Nat.ble (((length n4) + (1 : Nat)) * (8 : Nat)) (140737488355328 : Nat)) (Y39 (IntKind.wrap .i64 (n0 + 1)) t1 n2 (b3 ++ (true :: [])) (n4 ++ (3 :: [])) k1) none)) none) none) (k1 b3 n4))
noncomputable def Y39 : Nat → T_Y39
  | 0 => fun _ _ _ _ _ _ => none
  | n + 1 => Y39.body (Y39 n)
def Y39.p : LPat := lp 2 35 [1, 2, 3, 4] (ps (pq [1, 0] 0 0) (ps (pq [1, 1] 0 0) (ps (pq [1, 2] 0 0) (pl (pd (.int .i64)) pz)))) (pl (po [1, 0] 30 3 (em (pl (pa (pl (pb 1 102 Ty27) (ps (pk 0) (pl (pd (.int .i64)) pz)))) pz))) (ps (po [1, 1] 26 2 (em (ps (pa (ps (pk 0) (ps (pk 0) pz))) pz))) (ps (po [1, 2] 26 2 (em (ps (pa (ps (pr [1, 3]) (ps (pr [1, 4]) pz))) pz))) (pl (po [1, 3] 4 1 (ed .bool)) (pl (po [1, 4] 3 1 (ed (.int .i64))) pz)))))
def Y39.g (F : T_Y39) (v : Y39.p.T) (k : KE) : OB := F v.1.1 v.2.1.1.1 v.2.1.1.2.1 v.2.2.1 v.2.2.2.1 (fun y0 y1 => k (.exit 0) ⟨fillS 35 [2, 3] [(.ptr [1, 0] 0 0), (.ptr [1, 1] 0 0)], [([1, 0], ⟨26, 2, (.mix [(.agg [.nils, .nils])])⟩), ([1, 1], ⟨26, 2, (.mix [(.agg [(.ref [1, 2]), (.ref [1, 3])])])⟩), ([1, 2], ⟨4, 1, (.data .bool y0)⟩), ([1, 3], ⟨3, 1, (.data (.int .i64) y1)⟩)], 2⟩)
theorem Y39.step (S : T_Y39) : ∀ v k, exR 18 Tryz.f18 0 Y39.p [] [] [] (Y39.g S) v k = Y39.g (Y39.body S) v k := fun v k => by kernel_rfl
theorem Y39.ok : okL 18 Tryz.f18 0 0 Y39.p (Y39.g (Y39 ROUNDS)) := loop2 (G := fun n => Y39.g (Y39 n)) (fun n => Y39.step (Y39 n)) .nil [] (by kernel_rfl) .nil (fun _ _ => rfl)
abbrev T_Y3a : Type := Tc20 → Int → ((List Bool) → (List Int) → OB) → OB
noncomputable def Y3a.body (Y39 : T_Y39) : T_Y3a := fun t0 n1 k1 =>
  (Y39 0 t0 n1 [] []
 (fun b2 n3 => (k1 b2 n3)))
noncomputable def Y3a : T_Y3a := Y3a.body (Y39 ROUNDS)
def Y3a.p : FPat := fp 18 (pl (pa (pl (pb 1 102 Ty27) (ps (pk 0) (pl (pd (.int .i64)) pz)))) pz) pz
def Y3a.g (F : T_Y3a) (v : Y3a.p.T) (k : KR) : OB := F v.1.1.1 v.1.1.2.1 (fun y0 y1 => k (.agg [(.ref [1, 0]), (.ref [1, 1])]) [([1, 0], ⟨4, 1, (.data .bool y0)⟩), ([1, 1], ⟨3, 1, (.data (.int .i64) y1)⟩)])
theorem Y3a.eq (L0 : T_Y39) : ∀ v k, exF Tryz.f18 Y3a.p [] [] [⟨0, Y39.p, Y39.g L0⟩] v k = Y3a.g (Y3a.body L0) v k := fun v k => by kernel_rfl
theorem Y3a.ok : okF 1 Y3a.p (Y3a.g Y3a) := fn2 (Y3a.eq (Y39 ROUNDS)) Tryz.func18 (by kernel_rfl) .nil [0] (by kernel_rfl) (.cons Y39.ok .nil)
abbrev T_Y3b : Type := Tc20 → Int → (List Bool) → (List Int) → Int → (Bool → OB) → OB
noncomputable def Y3b.body : T_Y3b := fun t0 n1 b2 n3 n4 k1 =>
  (cond_ (decide (n4 ≥ 0)) (cond_ (decide (n4 < (length t0 : Int))) (cond_ (decide (n4 < (length b2 : Int))) (cond_ ((decide (0 ≤ n4)) && (decide (n4 < (length b2 : Int)))) (k1 (getD b2 (toNat n4) false)) none) (k1 false)) (k1 false)) (k1 false))
noncomputable def Y3b : T_Y3b := Y3b.body
def Y3b.p : FPat := fp 6 (pl (pa (pl (pb 1 102 Ty27) (ps (pk 0) (pl (pd (.int .i64)) pz)))) (pl (pa (pl (pb 2 4 .bool) (pl (pb 3 3 (.int .i64)) pz))) (pl (pd (.int .i64)) pz))) pz
def Y3b.g (F : T_Y3b) (v : Y3b.p.T) (k : KR) : OB := F v.1.1.1 v.1.1.2.1 v.1.2.1.1 v.1.2.1.2.1 v.1.2.2.1 (fun y0 => k (.d ⟨.bool, y0⟩) [])
theorem Y3b.eq : ∀ v k, exF Tryz.f6 Y3b.p [] [] [] v k = Y3b.g (Y3b.body) v k := fun v k => by kernel_rfl
theorem Y3b.ok : okF 1 Y3b.p (Y3b.g Y3b) := fn2 (Y3b.eq) Tryz.func6 (by kernel_rfl) .nil [] (by kernel_rfl) .nil
abbrev T_Y3c : Type := (List Bool) → (List Int) → Int → (Int → OB) → OB
noncomputable def Y3c.body : T_Y3c := fun b0 n1 n2 k1 =>
  (cond_ (! (decide (n2 < 0))) (cond_ (decide (n2 ≥ (length n1 : Int))) (k1 0) (cond_ ((decide (0 ≤ n2)) && (decide (n2 < (length n1 : Int)))) (k1 (getD n1 (toNat n2) 0)) none)) (k1 0))
noncomputable def Y3c : T_Y3c := Y3c.body
def Y3c.p : FPat := fp 46 (pl (pa (pl (pb 1 4 .bool) (pl (pb 2 3 (.int .i64)) pz))) (pl (pd (.int .i64)) pz)) pz
def Y3c.g (F : T_Y3c) (v : Y3c.p.T) (k : KR) : OB := F v.1.1.1 v.1.1.2.1 v.1.2.1 (fun y0 => k (.d ⟨(.int .i64), y0⟩) [])
theorem Y3c.eq : ∀ v k, exF Tryz.f46 Y3c.p [] [] [] v k = Y3c.g (Y3c.body) v k := fun v k => by kernel_rfl
theorem Y3c.ok : okF 1 Y3c.p (Y3c.g Y3c) := fn2 (Y3c.eq) Tryz.func46 (by kernel_rfl) .nil [] (by kernel_rfl) .nil
abbrev T_Y3d : Type := Tc20 → Int → (List Bool) → (List Int) → Int → (Int → OB) → OB
noncomputable def Y3d.body (Y3b : T_Y3b) (Y3c : T_Y3c) : T_Y3d := fun t0 n1 b2 n3 n4 k1 =>
  (Y3b t0 n1 b2 n3 n4
 (fun b5 => (cond_ (! b5) (k1 0) (cond_ ((decide (0 ≤ n4)) && (decide (n4 < (length t0 : Int)))) (Y3c b2 n3 n4
 (fun n6 => (cond_ (n6 != 0) (k1 (IntKind.wrap .i64 ((IntKind.wrap .i64 (1 + (length (getD t0 (toNat n4) ZFun).2.2.2.2.2.2.2.2.2.2.1 : Int))) + 1))) (k1 (IntKind.wrap .i64 (1 + (length (getD t0 (toNat n4) ZFun).2.2.2.2.2.2.2.2.2.2.1 : Int))))))) none))))
noncomputable def Y3d : T_Y3d := Y3d.body Y3b Y3c
def Y3d.p : FPat := fp 80 (pl (pa (pl (pb 1 102 Ty27) (ps (pk 0) (pl (pd (.int .i64)) pz)))) (pl (pa (pl (pb 2 4 .bool) (pl (pb 3 3 (.int .i64)) pz))) (pl (pd (.int .i64)) pz))) pz
def Y3d.g (F : T_Y3d) (v : Y3d.p.T) (k : KR) : OB := F v.1.1.1 v.1.1.2.1 v.1.2.1.1 v.1.2.1.2.1 v.1.2.2.1 (fun y0 => k (.d ⟨(.int .i64), y0⟩) [])
theorem Y3d.eq (F0 : T_Y3b) (F1 : T_Y3c) : ∀ v k, exF Tryz.f80 Y3d.p [⟨Y3b.p, Y3b.g F0⟩, ⟨Y3c.p, Y3c.g F1⟩] [] [] v k = Y3d.g (Y3d.body F0 F1) v k := fun v k => by kernel_rfl
theorem Y3d.ok : okF 2 Y3d.p (Y3d.g Y3d) := fn2 (Y3d.eq Y3b Y3c) Tryz.func80 (by kernel_rfl) (.cons Y3b.ok (.cons Y3c.ok .nil)) [] (by kernel_rfl) .nil
abbrev T_Y3e : Type := Int → Int → Int → Tc20 → Int → (List Bool) → (List Int) → (Int → OB) → OB
noncomputable def Y3e.body (Y3e : T_Y3e) (Y3d : T_Y3d) : T_Y3e := fun n0 n1 n2 t3 n4 b5 n6 k1 =>
  (cond_ (decide (n2 < n0)) (Y3d t3 n4 b5 n6 n2
 (fun n7 => (Y3e n0 (IntKind.wrap .i64 (n1 + n7)) (IntKind.wrap .i64 (n2 + 1)) t3 n4 b5 n6 k1))) (k1 n1))
noncomputable def Y3e : Nat → T_Y3e
  | 0 => fun _ _ _ _ _ _ _ _ => none
  | n + 1 => Y3e.body (Y3e n) Y3d
def Y3e.p : LPat := lp 2 21 [2, 3, 4, 7, 8] (pl (pd (.int .i64)) (ps (pq [1, 0] 0 0) (ps (pq [1, 1] 0 0) (pl (pd (.int .i64)) (pl (pd (.int .i64)) pz))))) (pl (po [1, 0] 30 3 (em (pl (pa (pl (pb 1 102 Ty27) (ps (pk 0) (pl (pd (.int .i64)) pz)))) pz))) (pl (po [1, 1] 26 2 (em (pl (pa (pl (pb 2 4 .bool) (pl (pb 3 3 (.int .i64)) pz))) pz))) pz))
def Y3e.g (F : T_Y3e) (v : Y3e.p.T) (k : KE) : OB := F v.1.1 v.1.2.1 v.1.2.2.1 v.2.1.1.1 v.2.1.1.2.1 v.2.2.1.1.1 v.2.2.1.1.2.1 (fun y0 => k (.exit 0) ⟨fillS 21 [7] [(.d ⟨(.int .i64), y0⟩)], [], 2⟩)
theorem Y3e.step (S : T_Y3e) (F0 : T_Y3d) : ∀ v k, exR 50 Tryz.f50 0 Y3e.p [⟨Y3d.p, Y3d.g F0⟩] [] [] (Y3e.g S) v k = Y3e.g (Y3e.body S F0) v k := fun v k => by kernel_rfl
theorem Y3e.ok : okL 50 Tryz.f50 2 0 Y3e.p (Y3e.g (Y3e ROUNDS)) := loop2 (G := fun n => Y3e.g (Y3e n)) (fun n => Y3e.step (Y3e n) Y3d) (.cons Y3d.ok .nil) [] (by kernel_rfl) .nil (fun _ _ => rfl)
abbrev T_Y3f : Type := Tc20 → Int → (List Bool) → (List Int) → Int → (Int → OB) → OB
noncomputable def Y3f.body (Y3e : T_Y3e) : T_Y3f := fun t0 n1 b2 n3 n4 k1 =>
  (Y3e n4 2 0 t0 n1 b2 n3
 (fun n5 => (k1 n5)))
noncomputable def Y3f : T_Y3f := Y3f.body (Y3e ROUNDS)
def Y3f.p : FPat := fp 50 (pl (pa (pl (pb 1 102 Ty27) (ps (pk 0) (pl (pd (.int .i64)) pz)))) (pl (pa (pl (pb 2 4 .bool) (pl (pb 3 3 (.int .i64)) pz))) (pl (pd (.int .i64)) pz))) pz
def Y3f.g (F : T_Y3f) (v : Y3f.p.T) (k : KR) : OB := F v.1.1.1 v.1.1.2.1 v.1.2.1.1 v.1.2.1.2.1 v.1.2.2.1 (fun y0 => k (.d ⟨(.int .i64), y0⟩) [])
theorem Y3f.eq (L0 : T_Y3e) : ∀ v k, exF Tryz.f50 Y3f.p [] [] [⟨0, Y3e.p, Y3e.g L0⟩] v k = Y3f.g (Y3f.body L0) v k := fun v k => by kernel_rfl
theorem Y3f.ok : okF 3 Y3f.p (Y3f.g Y3f) := fn2 (Y3f.eq (Y3e ROUNDS)) Tryz.func50 (by kernel_rfl) .nil [0] (by kernel_rfl) (.cons Y3e.ok .nil)
abbrev T_Y3g : Type := Int → Tc20 → Int → (List Bool) → (List Int) → (List Int) → ((List Int) → OB) → OB
noncomputable def Y3g.body (Y3g : T_Y3g) (Y3b : T_Y3b) (Y3f : T_Y3f) : T_Y3g := fun n0 t1 n2 b3 n4 n5 k1 =>
  (cond_ (decide (n0 < (length t1 : Int))) (Y3b t1 n2 b3 n4 n0
 (fun b6 => (cond_ b6 (Y3f t1 n2 b3 n4 n0
 (fun n7 => (cond_ (Nat.ble (((length n5) + (length (n7 :: []))) * (8 : Nat)) (140737488355328 : Nat)) (Y3g (IntKind.wrap .i64 (n0 + 1)) t1 n2 b3 n4 (n5 ++ (n7 :: [])) k1) none))) (cond_ (Nat.ble (((length n5) + (1 : Nat)) * (8 : Nat)) (140737488355328 : Nat)) (Y3g (IntKind.wrap .i64 (n0 + 1)) t1 n2 b3 n4 (n5 ++ ((-1) :: [])) k1) none)))) (k1 n5))
noncomputable def Y3g : Nat → T_Y3g
  | 0 => fun _ _ _ _ _ _ _ => none
  | n + 1 => Y3g.body (Y3g n) Y3b Y3f
def Y3g.p : LPat := lp 2 28 [2, 3, 5, 6] (ps (pq [1, 0] 0 0) (ps (pq [1, 1] 0 0) (ps (pr [1, 2]) (pl (pd (.int .i64)) pz)))) (pl (po [1, 0] 30 3 (em (pl (pa (pl (pb 1 102 Ty27) (ps (pk 0) (pl (pd (.int .i64)) pz)))) pz))) (pl (po [1, 1] 26 2 (em (pl (pa (pl (pb 2 4 .bool) (pl (pb 3 3 (.int .i64)) pz))) pz))) (pl (po [1, 2] 3 1 (ed (.int .i64))) pz)))
def Y3g.g (F : T_Y3g) (v : Y3g.p.T) (k : KE) : OB := F v.1.1 v.2.1.1.1 v.2.1.1.2.1 v.2.2.1.1.1 v.2.2.1.1.2.1 v.2.2.2.1 (fun y0 => k (.exit 0) ⟨fillS 28 [5] [(.ref [1, 0])], [([1, 0], ⟨3, 1, (.data (.int .i64) y0)⟩)], 2⟩)
theorem Y3g.step (S : T_Y3g) (F0 : T_Y3b) (F1 : T_Y3f) : ∀ v k, exR 23 Tryz.f23 0 Y3g.p [⟨Y3b.p, Y3b.g F0⟩, ⟨Y3f.p, Y3f.g F1⟩] [] [] (Y3g.g S) v k = Y3g.g (Y3g.body S F0 F1) v k := fun v k => by kernel_rfl
theorem Y3g.ok : okL 23 Tryz.f23 3 0 Y3g.p (Y3g.g (Y3g ROUNDS)) := loop2 (G := fun n => Y3g.g (Y3g n)) (fun n => Y3g.step (Y3g n) Y3b Y3f) (.cons Y3b.ok (.cons Y3f.ok .nil)) [] (by kernel_rfl) .nil (fun _ _ => rfl)
abbrev T_Y3h : Type := Tc20 → Int → (List Bool) → (List Int) → ((List Int) → OB) → OB
noncomputable def Y3h.body (Y3g : T_Y3g) : T_Y3h := fun t0 n1 b2 n3 k1 =>
  (Y3g 0 t0 n1 b2 n3 []
 (fun n4 => (k1 n4)))
noncomputable def Y3h : T_Y3h := Y3h.body (Y3g ROUNDS)
def Y3h.p : FPat := fp 23 (pl (pa (pl (pb 1 102 Ty27) (ps (pk 0) (pl (pd (.int .i64)) pz)))) (pl (pa (pl (pb 2 4 .bool) (pl (pb 3 3 (.int .i64)) pz))) pz)) pz
def Y3h.g (F : T_Y3h) (v : Y3h.p.T) (k : KR) : OB := F v.1.1.1 v.1.1.2.1 v.1.2.1.1 v.1.2.1.2.1 (fun y0 => k (.ref [1, 0]) [([1, 0], ⟨3, 1, (.data (.int .i64) y0)⟩)])
theorem Y3h.eq (L0 : T_Y3g) : ∀ v k, exF Tryz.f23 Y3h.p [] [] [⟨0, Y3g.p, Y3g.g L0⟩] v k = Y3h.g (Y3h.body L0) v k := fun v k => by kernel_rfl
theorem Y3h.ok : okF 4 Y3h.p (Y3h.g Y3h) := fn2 (Y3h.eq (Y3g ROUNDS)) Tryz.func23 (by kernel_rfl) .nil [0] (by kernel_rfl) (.cons Y3g.ok .nil)
abbrev T_Y3i : Type := Int → Int → Int → Tc20 → Int → (Int → OB) → OB
noncomputable def Y3i.body (Y3i : T_Y3i) : T_Y3i := fun n0 n1 n2 t3 n4 k1 =>
  (cond_ (decide (n2 < n0)) none (k1 n1))
noncomputable def Y3i : Nat → T_Y3i
  | 0 => fun _ _ _ _ _ _ => none
  | n + 1 => Y3i.body (Y3i n)
def Y3i.p : LPat := lp 2 24 [1, 2, 5, 6] (pl (pd (.int .i64)) (ps (pq [1, 0] 0 0) (pl (pd (.int .i64)) (pl (pd (.int .i64)) pz)))) (pl (po [1, 0] 30 3 (em (pl (pa (pl (pb 1 102 Ty27) (ps (pk 0) (pl (pd (.int .i64)) pz)))) pz))) pz)
def Y3i.g (F : T_Y3i) (v : Y3i.p.T) (k : KE) : OB := F v.1.1 v.1.2.1 v.1.2.2.1 v.2.1.1.1 v.2.1.1.2.1 (fun y0 => k (.exit 0) ⟨fillS 24 [5] [(.d ⟨(.int .i64), y0⟩)], [], 2⟩)
theorem Y3i.step (S : T_Y3i) : ∀ v k, exR 75 Tryz.f75 0 Y3i.p [] [] [] (Y3i.g S) v k = Y3i.g (Y3i.body S) v k := fun v k => by kernel_rfl
theorem Y3i.ok : okL 75 Tryz.f75 0 0 Y3i.p (Y3i.g (Y3i ROUNDS)) := loop2 (G := fun n => Y3i.g (Y3i n)) (fun n => Y3i.step (Y3i n)) .nil [] (by kernel_rfl) .nil (fun _ _ => rfl)
abbrev T_Y3j : Type := Tc20 → Int → Int → (Int → OB) → OB
noncomputable def Y3j.body (Y3i : T_Y3i) : T_Y3j := fun t0 n1 n2 k1 =>
  (Y3i n2 0 0 t0 n1
 (fun n3 => (k1 n3)))
noncomputable def Y3j : T_Y3j := Y3j.body (Y3i ROUNDS)
def Y3j.p : FPat := fp 75 (pl (pa (pl (pb 1 102 Ty27) (ps (pk 0) (pl (pd (.int .i64)) pz)))) (pl (pd (.int .i64)) pz)) pz
def Y3j.g (F : T_Y3j) (v : Y3j.p.T) (k : KR) : OB := F v.1.1.1 v.1.1.2.1 v.1.2.1 (fun y0 => k (.d ⟨(.int .i64), y0⟩) [])
theorem Y3j.eq (L0 : T_Y3i) : ∀ v k, exF Tryz.f75 Y3j.p [] [] [⟨0, Y3i.p, Y3i.g L0⟩] v k = Y3j.g (Y3j.body L0) v k := fun v k => by kernel_rfl
theorem Y3j.ok : okF 1 Y3j.p (Y3j.g Y3j) := fn2 (Y3j.eq (Y3i ROUNDS)) Tryz.func75 (by kernel_rfl) .nil [0] (by kernel_rfl) (.cons Y3i.ok .nil)
abbrev T_Y3k : Type := Int → Tc20 → Int → (List Int) → ((List Int) → OB) → OB
noncomputable def Y3k.body (Y3k : T_Y3k) (Y3j : T_Y3j) : T_Y3k := fun n0 t1 n2 n3 k1 =>
  (cond_ (decide (n0 < 0)) (Y3j t1 n2 n0
 (fun n4 => (cond_ (Nat.ble (((length n3) + (length (n4 :: []))) * (8 : Nat)) (140737488355328 : Nat)) (Y3k (IntKind.wrap .i64 (n0 + 1)) t1 n2 (n3 ++ (n4 :: [])) k1) none))) (k1 n3))
noncomputable def Y3k : Nat → T_Y3k
  | 0 => fun _ _ _ _ _ => none
  | n + 1 => Y3k.body (Y3k n) Y3j
def Y3k.p : LPat := lp 2 19 [1, 3, 4] (ps (pq [1, 0] 0 0) (ps (pr [1, 1]) (pl (pd (.int .i64)) pz))) (pl (po [1, 0] 30 3 (em (pl (pa (pl (pb 1 102 Ty27) (ps (pk 0) (pl (pd (.int .i64)) pz)))) pz))) (pl (po [1, 1] 3 1 (ed (.int .i64))) pz))
def Y3k.g (F : T_Y3k) (v : Y3k.p.T) (k : KE) : OB := F v.1.1 v.2.1.1.1 v.2.1.1.2.1 v.2.2.1 (fun y0 => k (.exit 0) ⟨fillS 19 [3] [(.ref [1, 0])], [([1, 0], ⟨3, 1, (.data (.int .i64) y0)⟩)], 2⟩)
theorem Y3k.step (S : T_Y3k) (F0 : T_Y3j) : ∀ v k, exR 44 Tryz.f44 0 Y3k.p [⟨Y3j.p, Y3j.g F0⟩] [] [] (Y3k.g S) v k = Y3k.g (Y3k.body S F0) v k := fun v k => by kernel_rfl
theorem Y3k.ok : okL 44 Tryz.f44 1 0 Y3k.p (Y3k.g (Y3k ROUNDS)) := loop2 (G := fun n => Y3k.g (Y3k n)) (fun n => Y3k.step (Y3k n) Y3j) (.cons Y3j.ok .nil) [] (by kernel_rfl) .nil (fun _ _ => rfl)
abbrev T_Y3l : Type := Tc20 → Int → ((List Int) → OB) → OB
noncomputable def Y3l.body (Y3k : T_Y3k) : T_Y3l := fun t0 n1 k1 =>
  (Y3k 0 t0 n1 []
 (fun n2 => (k1 n2)))
noncomputable def Y3l : T_Y3l := Y3l.body (Y3k ROUNDS)
def Y3l.p : FPat := fp 44 (pl (pa (pl (pb 1 102 Ty27) (ps (pk 0) (pl (pd (.int .i64)) pz)))) pz) pz
def Y3l.g (F : T_Y3l) (v : Y3l.p.T) (k : KR) : OB := F v.1.1.1 v.1.1.2.1 (fun y0 => k (.ref [1, 0]) [([1, 0], ⟨3, 1, (.data (.int .i64) y0)⟩)])
theorem Y3l.eq (L0 : T_Y3k) : ∀ v k, exF Tryz.f44 Y3l.p [] [] [⟨0, Y3k.p, Y3k.g L0⟩] v k = Y3l.g (Y3l.body L0) v k := fun v k => by kernel_rfl
theorem Y3l.ok : okF 2 Y3l.p (Y3l.g Y3l) := fn2 (Y3l.eq (Y3k ROUNDS)) Tryz.func44 (by kernel_rfl) .nil [0] (by kernel_rfl) (.cons Y3k.ok .nil)
abbrev T_Y3m : Type := Int → Int → Int → (Int → OB) → OB
noncomputable def Y3m.body : T_Y3m := fun n0 n1 n2 k1 =>
  (cond_ (decide (n0 < n1)) (k1 n1) (cond_ (decide (n0 > n2)) (k1 n2) (k1 n0)))
noncomputable def Y3m : T_Y3m := Y3m.body
def Y3m.p : FPat := fp 76 (pl (pd (.int .i64)) (pl (pd (.int .i64)) (pl (pd (.int .i64)) pz))) pz
def Y3m.g (F : T_Y3m) (v : Y3m.p.T) (k : KR) : OB := F v.1.1 v.1.2.1 v.1.2.2.1 (fun y0 => k (.d ⟨(.int .i64), y0⟩) [])
theorem Y3m.eq : ∀ v k, exF Tryz.f76 Y3m.p [] [] [] v k = Y3m.g (Y3m.body) v k := fun v k => by kernel_rfl
theorem Y3m.ok : okF 1 Y3m.p (Y3m.g Y3m) := fn2 (Y3m.eq) Tryz.func76 (by kernel_rfl) .nil [] (by kernel_rfl) .nil
abbrev T_Y3n : Type := Tc16 → (Int → OB) → OB
noncomputable def Y3n.body (Y3m : T_Y3m) : T_Y3n := fun t0 k1 =>
  (Y3m t0.2.2.1 0 1048576
 (fun n1 => (k1 (IntKind.wrap .i64 ((length t0.2.1 : Int) + n1)))))
noncomputable def Y3n : T_Y3n := Y3n.body Y3m
def Y3n.p : FPat := fp 45 (pl (pd Ty24) pz) pz
def Y3n.g (F : T_Y3n) (v : Y3n.p.T) (k : KR) : OB := F v.1.1 (fun y0 => k (.d ⟨(.int .i64), y0⟩) [])
theorem Y3n.eq (F0 : T_Y3m) : ∀ v k, exF Tryz.f45 Y3n.p [⟨Y3m.p, Y3m.g F0⟩] [] [] v k = Y3n.g (Y3n.body F0) v k := fun v k => by kernel_rfl
theorem Y3n.ok : okF 2 Y3n.p (Y3n.g Y3n) := fn2 (Y3n.eq Y3m) Tryz.func45 (by kernel_rfl) (.cons Y3m.ok .nil) [] (by kernel_rfl) .nil
abbrev T_Y3o : Type := (List Int) → Int → Int → (Int → OB) → OB
noncomputable def Y3o.body : T_Y3o := fun n0 n1 n2 k1 =>
  (cond_ (! (decide (n1 ≥ (length n0 : Int)))) (cond_ ((decide (0 ≤ n1)) && (decide (n1 < (length n0 : Int)))) (cond_ (! (decide ((getD n0 (toNat n1) 0) < 0))) (cond_ ((decide (0 ≤ n1)) && (decide (n1 < (length n0 : Int)))) (cond_ (decide ((getD n0 (toNat n1) 0) ≥ n2)) (k1 (-1)) (cond_ ((decide (0 ≤ n1)) && (decide (n1 < (length n0 : Int)))) (k1 (getD n0 (toNat n1) 0)) none)) none) (k1 (-1))) none) (k1 (-1)))
noncomputable def Y3o : T_Y3o := Y3o.body
def Y3o.p : FPat := fp 49 (pl (pb 0 3 (.int .i64)) (pl (pd (.int .i64)) (pl (pd (.int .i64)) pz))) pz
def Y3o.g (F : T_Y3o) (v : Y3o.p.T) (k : KR) : OB := F v.1.1 v.1.2.1 v.1.2.2.1 (fun y0 => k (.d ⟨(.int .i64), y0⟩) [])
theorem Y3o.eq : ∀ v k, exF Tryz.f49 Y3o.p [] [] [] v k = Y3o.g (Y3o.body) v k := fun v k => by kernel_rfl
theorem Y3o.ok : okF 1 Y3o.p (Y3o.g Y3o) := fn2 (Y3o.eq) Tryz.func49 (by kernel_rfl) .nil [] (by kernel_rfl) .nil
abbrev T_Y3p : Type := Tc20 → Int → (List Int) → (List Int) → Tc19 → Int → Int → (Tc3 → OB) → OB
noncomputable def Y3p.body (Y1m : T_Y1m) (Y1d : T_Y1d) (Y3o : T_Y3o) : T_Y3p := fun t0 n1 n2 n3 t4 n5 n6 k1 =>
  (cond_ ((decide (0 ≤ n5)) && (decide (n5 < (length t4.2.2.2.2.2.2.2.2.2.2.1 : Int)))) (cond_ (! ((gC t4 n5).1 == 11)) (cond_ ((gC t4 n5).1 == 12) (cond_ ((gC t4 n5).1 == 24) (Y1m t4.2.2.2.1
 (fun b7 => (cond_ b7 (Y1d (gC t4 n5).1
 (fun n8 => (cond_ (! (n8 == 3)) (cond_ (n8 == 4) (Y3o t4.2.2.2.2.2.2.2.2.2.2.2.2.1 n5 (length n3 : Int)
 (fun n9 => (cond_ (decide (n9 ≥ 0)) (cond_ ((decide (0 ≤ n9)) && (decide (n9 < (length n3 : Int)))) (k1 ((gC t4 n5).1, ((gC t4 n5).2.1, (1, ((gC t4 n5).2.2.2.1, ((getD n3 (toNat n9) 0), ())))))) none) (k1 ((gC t4 n5).1, ((gC t4 n5).2.1, (1, ((gC t4 n5).2.2.2.1, ((IntKind.wrap .i64 ((gC t4 n5).2.2.2.2.1 + n6)), ()))))))))) (cond_ (decide (n8 > 0)) (Y3o t4.2.2.2.2.2.2.2.2.2.2.2.2.1 n5 (length n2 : Int)
 (fun na => (cond_ (decide (na ≥ 0)) (cond_ ((decide (0 ≤ na)) && (decide (na < (length n2 : Int)))) (cond_ ((gC t4 n5).1 != 17) (cond_ ((decide (0 ≤ na)) && (decide (na < (length t0 : Int)))) (k1 ((gC t4 n5).1, ((gC t4 n5).2.1, (1, ((getD t0 (toNat na) ZFun).2.2.2.1, ((getD n2 (toNat na) 0), ())))))) none) (k1 ((gC t4 n5).1, ((gC t4 n5).2.1, (1, ((gC t4 n5).2.2.2.1, ((getD n2 (toNat na) 0), ()))))))) none) (k1 ((gC t4 n5).1, ((gC t4 n5).2.1, (1, ((gC t4 n5).2.2.2.1, ((IntKind.wrap .i64 ((gC t4 n5).2.2.2.2.1 + n6)), ()))))))))) (k1 ((gC t4 n5).1, ((gC t4 n5).2.1, (1, ((gC t4 n5).2.2.2.1, ((IntKind.wrap .i64 ((gC t4 n5).2.2.2.2.1 + n6)), ())))))))) (Y3o t4.2.2.2.2.2.2.2.2.2.2.2.2.1 n5 (length n3 : Int)
 (fun nb => (cond_ (decide (nb ≥ 0)) (cond_ ((decide (0 ≤ nb)) && (decide (nb < (length n3 : Int)))) (k1 ((gC t4 n5).1, ((gC t4 n5).2.1, (1, ((gC t4 n5).2.2.2.1, ((getD n3 (toNat nb) 0), ())))))) none) (k1 ((gC t4 n5).1, ((gC t4 n5).2.1, (1, ((gC t4 n5).2.2.2.1, ((IntKind.wrap .i64 ((gC t4 n5).2.2.2.2.1 + n6)), ())))))))))))) (Y1d (gC t4 n5).1
 (fun nc => (cond_ (! (nc == 3)) (cond_ (nc == 4) (Y3o t4.2.2.2.2.2.2.2.2.2.2.2.2.1 n5 (length n3 : Int)
 (fun nd => (cond_ (decide (nd ≥ 0)) (cond_ ((decide (0 ≤ nd)) && (decide (nd < (length n3 : Int)))) (k1 ((gC t4 n5).1, ((gC t4 n5).2.1, (0, ((gC t4 n5).2.2.2.1, ((getD n3 (toNat nd) 0), ())))))) none) (k1 ((gC t4 n5).1, ((gC t4 n5).2.1, (0, ((gC t4 n5).2.2.2.1, ((IntKind.wrap .i64 ((gC t4 n5).2.2.2.2.1 + n6)), ()))))))))) (cond_ (decide (nc > 0)) (Y3o t4.2.2.2.2.2.2.2.2.2.2.2.2.1 n5 (length n2 : Int)
 (fun ne => (cond_ (decide (ne ≥ 0)) (cond_ ((decide (0 ≤ ne)) && (decide (ne < (length n2 : Int)))) (cond_ ((gC t4 n5).1 != 17) (cond_ ((decide (0 ≤ ne)) && (decide (ne < (length t0 : Int)))) (k1 ((gC t4 n5).1, ((gC t4 n5).2.1, (0, ((getD t0 (toNat ne) ZFun).2.2.2.1, ((getD n2 (toNat ne) 0), ())))))) none) (k1 ((gC t4 n5).1, ((gC t4 n5).2.1, (0, ((gC t4 n5).2.2.2.1, ((getD n2 (toNat ne) 0), ()))))))) none) (k1 ((gC t4 n5).1, ((gC t4 n5).2.1, (0, ((gC t4 n5).2.2.2.1, ((IntKind.wrap .i64 ((gC t4 n5).2.2.2.2.1 + n6)), ()))))))))) (k1 ((gC t4 n5).1, ((gC t4 n5).2.1, (0, ((gC t4 n5).2.2.2.1, ((IntKind.wrap .i64 ((gC t4 n5).2.2.2.2.1 + n6)), ())))))))) (Y3o t4.2.2.2.2.2.2.2.2.2.2.2.2.1 n5 (length n3 : Int)
 (fun nf => (cond_ (decide (nf ≥ 0)) (cond_ ((decide (0 ≤ nf)) && (decide (nf < (length n3 : Int)))) (k1 ((gC t4 n5).1, ((gC t4 n5).2.1, (0, ((gC t4 n5).2.2.2.1, ((getD n3 (toNat nf) 0), ())))))) none) (k1 ((gC t4 n5).1, ((gC t4 n5).2.1, (0, ((gC t4 n5).2.2.2.1, ((IntKind.wrap .i64 ((gC t4 n5).2.2.2.2.1 + n6)), ()))))))))))))))) (Y1d (gC t4 n5).1
 (fun ng => (cond_ (! (ng == 3)) (cond_ (ng == 4) (Y3o t4.2.2.2.2.2.2.2.2.2.2.2.2.1 n5 (length n3 : Int)
 (fun nh => (cond_ (decide (nh ≥ 0)) (cond_ ((decide (0 ≤ nh)) && (decide (nh < (length n3 : Int)))) (k1 ((gC t4 n5).1, ((gC t4 n5).2.1, ((gC t4 n5).2.2.1, ((gC t4 n5).2.2.2.1, ((getD n3 (toNat nh) 0), ())))))) none) (k1 ((gC t4 n5).1, ((gC t4 n5).2.1, ((gC t4 n5).2.2.1, ((gC t4 n5).2.2.2.1, ((IntKind.wrap .i64 ((gC t4 n5).2.2.2.2.1 + n6)), ()))))))))) (cond_ (decide (ng > 0)) (Y3o t4.2.2.2.2.2.2.2.2.2.2.2.2.1 n5 (length n2 : Int)
 (fun ni => (cond_ (decide (ni ≥ 0)) (cond_ ((decide (0 ≤ ni)) && (decide (ni < (length n2 : Int)))) (cond_ ((gC t4 n5).1 != 17) (cond_ ((decide (0 ≤ ni)) && (decide (ni < (length t0 : Int)))) (k1 ((gC t4 n5).1, ((gC t4 n5).2.1, ((gC t4 n5).2.2.1, ((getD t0 (toNat ni) ZFun).2.2.2.1, ((getD n2 (toNat ni) 0), ())))))) none) (k1 ((gC t4 n5).1, ((gC t4 n5).2.1, ((gC t4 n5).2.2.1, ((gC t4 n5).2.2.2.1, ((getD n2 (toNat ni) 0), ()))))))) none) (k1 ((gC t4 n5).1, ((gC t4 n5).2.1, ((gC t4 n5).2.2.1, ((gC t4 n5).2.2.2.1, ((IntKind.wrap .i64 ((gC t4 n5).2.2.2.2.1 + n6)), ()))))))))) (k1 ((gC t4 n5).1, ((gC t4 n5).2.1, ((gC t4 n5).2.2.1, ((gC t4 n5).2.2.2.1, ((IntKind.wrap .i64 ((gC t4 n5).2.2.2.2.1 + n6)), ())))))))) (Y3o t4.2.2.2.2.2.2.2.2.2.2.2.2.1 n5 (length n3 : Int)
 (fun nj => (cond_ (decide (nj ≥ 0)) (cond_ ((decide (0 ≤ nj)) && (decide (nj < (length n3 : Int)))) (k1 ((gC t4 n5).1, ((gC t4 n5).2.1, ((gC t4 n5).2.2.1, ((gC t4 n5).2.2.2.1, ((getD n3 (toNat nj) 0), ())))))) none) (k1 ((gC t4 n5).1, ((gC t4 n5).2.1, ((gC t4 n5).2.2.1, ((gC t4 n5).2.2.2.1, ((IntKind.wrap .i64 ((gC t4 n5).2.2.2.2.1 + n6)), ()))))))))))))) (cond_ ((gC t4 n5).1 == 24) (Y1m t4.2.2.2.1
 (fun bk => (cond_ bk (Y1d (gC t4 n5).1
 (fun nl => (cond_ (! (nl == 3)) (cond_ (nl == 4) (Y3o t4.2.2.2.2.2.2.2.2.2.2.2.2.1 n5 (length n3 : Int)
 (fun nm => (cond_ (decide (nm ≥ 0)) (cond_ ((decide (0 ≤ nm)) && (decide (nm < (length n3 : Int)))) (k1 ((gC t4 n5).1, ((gC t4 n5).2.1, (1, ((gC t4 n5).2.2.2.1, ((getD n3 (toNat nm) 0), ())))))) none) (k1 ((gC t4 n5).1, ((gC t4 n5).2.1, (1, ((gC t4 n5).2.2.2.1, ((gC t4 n5).2.2.2.2.1, ()))))))))) (cond_ (decide (nl > 0)) (Y3o t4.2.2.2.2.2.2.2.2.2.2.2.2.1 n5 (length n2 : Int)
 (fun nn => (cond_ (decide (nn ≥ 0)) (cond_ ((decide (0 ≤ nn)) && (decide (nn < (length n2 : Int)))) (cond_ ((gC t4 n5).1 != 17) (cond_ ((decide (0 ≤ nn)) && (decide (nn < (length t0 : Int)))) (k1 ((gC t4 n5).1, ((gC t4 n5).2.1, (1, ((getD t0 (toNat nn) ZFun).2.2.2.1, ((getD n2 (toNat nn) 0), ())))))) none) (k1 ((gC t4 n5).1, ((gC t4 n5).2.1, (1, ((gC t4 n5).2.2.2.1, ((getD n2 (toNat nn) 0), ()))))))) none) (k1 ((gC t4 n5).1, ((gC t4 n5).2.1, (1, ((gC t4 n5).2.2.2.1, ((gC t4 n5).2.2.2.2.1, ()))))))))) (k1 ((gC t4 n5).1, ((gC t4 n5).2.1, (1, ((gC t4 n5).2.2.2.1, ((gC t4 n5).2.2.2.2.1, ())))))))) (Y3o t4.2.2.2.2.2.2.2.2.2.2.2.2.1 n5 (length n3 : Int)
 (fun no => (cond_ (decide (no ≥ 0)) (cond_ ((decide (0 ≤ no)) && (decide (no < (length n3 : Int)))) (k1 ((gC t4 n5).1, ((gC t4 n5).2.1, (1, ((gC t4 n5).2.2.2.1, ((getD n3 (toNat no) 0), ())))))) none) (k1 ((gC t4 n5).1, ((gC t4 n5).2.1, (1, ((gC t4 n5).2.2.2.1, ((gC t4 n5).2.2.2.2.1, ())))))))))))) (Y1d (gC t4 n5).1
 (fun np => (cond_ (! (np == 3)) (cond_ (np == 4) (Y3o t4.2.2.2.2.2.2.2.2.2.2.2.2.1 n5 (length n3 : Int)
 (fun nq => (cond_ (decide (nq ≥ 0)) (cond_ ((decide (0 ≤ nq)) && (decide (nq < (length n3 : Int)))) (k1 ((gC t4 n5).1, ((gC t4 n5).2.1, (0, ((gC t4 n5).2.2.2.1, ((getD n3 (toNat nq) 0), ())))))) none) (k1 ((gC t4 n5).1, ((gC t4 n5).2.1, (0, ((gC t4 n5).2.2.2.1, ((gC t4 n5).2.2.2.2.1, ()))))))))) (cond_ (decide (np > 0)) (Y3o t4.2.2.2.2.2.2.2.2.2.2.2.2.1 n5 (length n2 : Int)
 (fun nr => (cond_ (decide (nr ≥ 0)) (cond_ ((decide (0 ≤ nr)) && (decide (nr < (length n2 : Int)))) (cond_ ((gC t4 n5).1 != 17) (cond_ ((decide (0 ≤ nr)) && (decide (nr < (length t0 : Int)))) (k1 ((gC t4 n5).1, ((gC t4 n5).2.1, (0, ((getD t0 (toNat nr) ZFun).2.2.2.1, ((getD n2 (toNat nr) 0), ())))))) none) (k1 ((gC t4 n5).1, ((gC t4 n5).2.1, (0, ((gC t4 n5).2.2.2.1, ((getD n2 (toNat nr) 0), ()))))))) none) (k1 ((gC t4 n5).1, ((gC t4 n5).2.1, (0, ((gC t4 n5).2.2.2.1, ((gC t4 n5).2.2.2.2.1, ()))))))))) (k1 ((gC t4 n5).1, ((gC t4 n5).2.1, (0, ((gC t4 n5).2.2.2.1, ((gC t4 n5).2.2.2.2.1, ())))))))) (Y3o t4.2.2.2.2.2.2.2.2.2.2.2.2.1 n5 (length n3 : Int)
 (fun ns => (cond_ (decide (ns ≥ 0)) (cond_ ((decide (0 ≤ ns)) && (decide (ns < (length n3 : Int)))) (k1 ((gC t4 n5).1, ((gC t4 n5).2.1, (0, ((gC t4 n5).2.2.2.1, ((getD n3 (toNat ns) 0), ())))))) none) (k1 ((gC t4 n5).1, ((gC t4 n5).2.1, (0, ((gC t4 n5).2.2.2.1, ((gC t4 n5).2.2.2.2.1, ()))))))))))))))) (Y1d (gC t4 n5).1
 (fun nt => (cond_ (! (nt == 3)) (cond_ (nt == 4) (Y3o t4.2.2.2.2.2.2.2.2.2.2.2.2.1 n5 (length n3 : Int)
 (fun nu => (cond_ (decide (nu ≥ 0)) (cond_ ((decide (0 ≤ nu)) && (decide (nu < (length n3 : Int)))) (k1 ((gC t4 n5).1, ((gC t4 n5).2.1, ((gC t4 n5).2.2.1, ((gC t4 n5).2.2.2.1, ((getD n3 (toNat nu) 0), ())))))) none) (k1 (gC t4 n5))))) (cond_ (decide (nt > 0)) (Y3o t4.2.2.2.2.2.2.2.2.2.2.2.2.1 n5 (length n2 : Int)
 (fun nv => (cond_ (decide (nv ≥ 0)) (cond_ ((decide (0 ≤ nv)) && (decide (nv < (length n2 : Int)))) (cond_ ((gC t4 n5).1 != 17) (cond_ ((decide (0 ≤ nv)) && (decide (nv < (length t0 : Int)))) (k1 ((gC t4 n5).1, ((gC t4 n5).2.1, ((gC t4 n5).2.2.1, ((getD t0 (toNat nv) ZFun).2.2.2.1, ((getD n2 (toNat nv) 0), ())))))) none) (k1 ((gC t4 n5).1, ((gC t4 n5).2.1, ((gC t4 n5).2.2.1, ((gC t4 n5).2.2.2.1, ((getD n2 (toNat nv) 0), ()))))))) none) (k1 (gC t4 n5))))) (k1 (gC t4 n5)))) (Y3o t4.2.2.2.2.2.2.2.2.2.2.2.2.1 n5 (length n3 : Int)
 (fun nw => (cond_ (decide (nw ≥ 0)) (cond_ ((decide (0 ≤ nw)) && (decide (nw < (length n3 : Int)))) (k1 ((gC t4 n5).1, ((gC t4 n5).2.1, ((gC t4 n5).2.2.1, ((gC t4 n5).2.2.2.1, ((getD n3 (toNat nw) 0), ())))))) none) (k1 (gC t4 n5)))))))))) (cond_ ((gC t4 n5).1 == 24) (Y1m t4.2.2.2.1
 (fun bx => (cond_ bx (Y1d (gC t4 n5).1
 (fun ny => (cond_ (! (ny == 3)) (cond_ (ny == 4) (Y3o t4.2.2.2.2.2.2.2.2.2.2.2.2.1 n5 (length n3 : Int)
 (fun nz => (cond_ (decide (nz ≥ 0)) (cond_ ((decide (0 ≤ nz)) && (decide (nz < (length n3 : Int)))) (k1 ((gC t4 n5).1, ((gC t4 n5).2.1, (1, ((gC t4 n5).2.2.2.1, ((getD n3 (toNat nz) 0), ())))))) none) (k1 ((gC t4 n5).1, ((gC t4 n5).2.1, (1, ((gC t4 n5).2.2.2.1, ((IntKind.wrap .i64 ((gC t4 n5).2.2.2.2.1 + n6)), ()))))))))) (cond_ (decide (ny > 0)) (Y3o t4.2.2.2.2.2.2.2.2.2.2.2.2.1 n5 (length n2 : Int)
 (fun n10 => (cond_ (decide (n10 ≥ 0)) (cond_ ((decide (0 ≤ n10)) && (decide (n10 < (length n2 : Int)))) (cond_ ((gC t4 n5).1 != 17) (cond_ ((decide (0 ≤ n10)) && (decide (n10 < (length t0 : Int)))) (k1 ((gC t4 n5).1, ((gC t4 n5).2.1, (1, ((getD t0 (toNat n10) ZFun).2.2.2.1, ((getD n2 (toNat n10) 0), ())))))) none) (k1 ((gC t4 n5).1, ((gC t4 n5).2.1, (1, ((gC t4 n5).2.2.2.1, ((getD n2 (toNat n10) 0), ()))))))) none) (k1 ((gC t4 n5).1, ((gC t4 n5).2.1, (1, ((gC t4 n5).2.2.2.1, ((IntKind.wrap .i64 ((gC t4 n5).2.2.2.2.1 + n6)), ()))))))))) (k1 ((gC t4 n5).1, ((gC t4 n5).2.1, (1, ((gC t4 n5).2.2.2.1, ((IntKind.wrap .i64 ((gC t4 n5).2.2.2.2.1 + n6)), ())))))))) (Y3o t4.2.2.2.2.2.2.2.2.2.2.2.2.1 n5 (length n3 : Int)
 (fun n11 => (cond_ (decide (n11 ≥ 0)) (cond_ ((decide (0 ≤ n11)) && (decide (n11 < (length n3 : Int)))) (k1 ((gC t4 n5).1, ((gC t4 n5).2.1, (1, ((gC t4 n5).2.2.2.1, ((getD n3 (toNat n11) 0), ())))))) none) (k1 ((gC t4 n5).1, ((gC t4 n5).2.1, (1, ((gC t4 n5).2.2.2.1, ((IntKind.wrap .i64 ((gC t4 n5).2.2.2.2.1 + n6)), ())))))))))))) (Y1d (gC t4 n5).1
 (fun n12 => (cond_ (! (n12 == 3)) (cond_ (n12 == 4) (Y3o t4.2.2.2.2.2.2.2.2.2.2.2.2.1 n5 (length n3 : Int)
 (fun n13 => (cond_ (decide (n13 ≥ 0)) (cond_ ((decide (0 ≤ n13)) && (decide (n13 < (length n3 : Int)))) (k1 ((gC t4 n5).1, ((gC t4 n5).2.1, (0, ((gC t4 n5).2.2.2.1, ((getD n3 (toNat n13) 0), ())))))) none) (k1 ((gC t4 n5).1, ((gC t4 n5).2.1, (0, ((gC t4 n5).2.2.2.1, ((IntKind.wrap .i64 ((gC t4 n5).2.2.2.2.1 + n6)), ()))))))))) (cond_ (decide (n12 > 0)) (Y3o t4.2.2.2.2.2.2.2.2.2.2.2.2.1 n5 (length n2 : Int)
 (fun n14 => (cond_ (decide (n14 ≥ 0)) (cond_ ((decide (0 ≤ n14)) && (decide (n14 < (length n2 : Int)))) (cond_ ((gC t4 n5).1 != 17) (cond_ ((decide (0 ≤ n14)) && (decide (n14 < (length t0 : Int)))) (k1 ((gC t4 n5).1, ((gC t4 n5).2.1, (0, ((getD t0 (toNat n14) ZFun).2.2.2.1, ((getD n2 (toNat n14) 0), ())))))) none) (k1 ((gC t4 n5).1, ((gC t4 n5).2.1, (0, ((gC t4 n5).2.2.2.1, ((getD n2 (toNat n14) 0), ()))))))) none) (k1 ((gC t4 n5).1, ((gC t4 n5).2.1, (0, ((gC t4 n5).2.2.2.1, ((IntKind.wrap .i64 ((gC t4 n5).2.2.2.2.1 + n6)), ()))))))))) (k1 ((gC t4 n5).1, ((gC t4 n5).2.1, (0, ((gC t4 n5).2.2.2.1, ((IntKind.wrap .i64 ((gC t4 n5).2.2.2.2.1 + n6)), ())))))))) (Y3o t4.2.2.2.2.2.2.2.2.2.2.2.2.1 n5 (length n3 : Int)
 (fun n15 => (cond_ (decide (n15 ≥ 0)) (cond_ ((decide (0 ≤ n15)) && (decide (n15 < (length n3 : Int)))) (k1 ((gC t4 n5).1, ((gC t4 n5).2.1, (0, ((gC t4 n5).2.2.2.1, ((getD n3 (toNat n15) 0), ())))))) none) (k1 ((gC t4 n5).1, ((gC t4 n5).2.1, (0, ((gC t4 n5).2.2.2.1, ((IntKind.wrap .i64 ((gC t4 n5).2.2.2.2.1 + n6)), ()))))))))))))))) (Y1d (gC t4 n5).1
 (fun n16 => (cond_ (! (n16 == 3)) (cond_ (n16 == 4) (Y3o t4.2.2.2.2.2.2.2.2.2.2.2.2.1 n5 (length n3 : Int)
 (fun n17 => (cond_ (decide (n17 ≥ 0)) (cond_ ((decide (0 ≤ n17)) && (decide (n17 < (length n3 : Int)))) (k1 ((gC t4 n5).1, ((gC t4 n5).2.1, ((gC t4 n5).2.2.1, ((gC t4 n5).2.2.2.1, ((getD n3 (toNat n17) 0), ())))))) none) (k1 ((gC t4 n5).1, ((gC t4 n5).2.1, ((gC t4 n5).2.2.1, ((gC t4 n5).2.2.2.1, ((IntKind.wrap .i64 ((gC t4 n5).2.2.2.2.1 + n6)), ()))))))))) (cond_ (decide (n16 > 0)) (Y3o t4.2.2.2.2.2.2.2.2.2.2.2.2.1 n5 (length n2 : Int)
 (fun n18 => (cond_ (decide (n18 ≥ 0)) (cond_ ((decide (0 ≤ n18)) && (decide (n18 < (length n2 : Int)))) (cond_ ((gC t4 n5).1 != 17) (cond_ ((decide (0 ≤ n18)) && (decide (n18 < (length t0 : Int)))) (k1 ((gC t4 n5).1, ((gC t4 n5).2.1, ((gC t4 n5).2.2.1, ((getD t0 (toNat n18) ZFun).2.2.2.1, ((getD n2 (toNat n18) 0), ())))))) none) (k1 ((gC t4 n5).1, ((gC t4 n5).2.1, ((gC t4 n5).2.2.1, ((gC t4 n5).2.2.2.1, ((getD n2 (toNat n18) 0), ()))))))) none) (k1 ((gC t4 n5).1, ((gC t4 n5).2.1, ((gC t4 n5).2.2.1, ((gC t4 n5).2.2.2.1, ((IntKind.wrap .i64 ((gC t4 n5).2.2.2.2.1 + n6)), ()))))))))) (k1 ((gC t4 n5).1, ((gC t4 n5).2.1, ((gC t4 n5).2.2.1, ((gC t4 n5).2.2.2.1, ((IntKind.wrap .i64 ((gC t4 n5).2.2.2.2.1 + n6)), ())))))))) (Y3o t4.2.2.2.2.2.2.2.2.2.2.2.2.1 n5 (length n3 : Int)
 (fun n19 => (cond_ (decide (n19 ≥ 0)) (cond_ ((decide (0 ≤ n19)) && (decide (n19 < (length n3 : Int)))) (k1 ((gC t4 n5).1, ((gC t4 n5).2.1, ((gC t4 n5).2.2.1, ((gC t4 n5).2.2.2.1, ((getD n3 (toNat n19) 0), ())))))) none) (k1 ((gC t4 n5).1, ((gC t4 n5).2.1, ((gC t4 n5).2.2.1, ((gC t4 n5).2.2.2.1, ((IntKind.wrap .i64 ((gC t4 n5).2.2.2.2.1 + n6)), ())))))))))))))) none)
noncomputable def Y3p : T_Y3p := Y3p.body Y1m Y1d Y3o
def Y3p.p : FPat := fp 48 (pl (pa (pl (pb 1 102 Ty27) (ps (pk 0) (pl (pd (.int .i64)) pz)))) (pl (pb 2 3 (.int .i64)) (pl (pb 3 3 (.int .i64)) (pl (pd Ty27) (pl (pd (.int .i64)) (pl (pd (.int .i64)) pz)))))) pz
def Y3p.g (F : T_Y3p) (v : Y3p.p.T) (k : KR) : OB := F v.1.1.1 v.1.1.2.1 v.1.2.1 v.1.2.2.1 v.1.2.2.2.1 v.1.2.2.2.2.1 v.1.2.2.2.2.2.1 (fun y0 => k (.d ⟨Ty15, y0⟩) [])
theorem Y3p.eq (F0 : T_Y1m) (F1 : T_Y1d) (F2 : T_Y3o) : ∀ v k, exF Tryz.f48 Y3p.p [⟨Y1m.p, Y1m.g F0⟩, ⟨Y1d.p, Y1d.g F1⟩, ⟨Y3o.p, Y3o.g F2⟩] [] [] v k = Y3p.g (Y3p.body F0 F1 F2) v k := fun v k => by kernel_rfl
theorem Y3p.ok : okF 4 Y3p.p (Y3p.g Y3p) := fn2 (Y3p.eq Y1m Y1d Y3o) Tryz.func48 (by kernel_rfl) (.cons Y1m.ok (.cons Y1d.ok (.cons Y3o.ok .nil))) [] (by kernel_rfl) .nil
abbrev T_Y3q : Type := Int → Int → Int → Tc20 → Int → (List Bool) → (List Int) → (List Int) → (List Int) → Tc8 → Int → Int → ByteArray → Int → (List Int) → Int → Bool → Int → Int → (List (Int × Int × Unit)) → Tc8 → Tc1 → (List Int) → (Int → Tc20 → Int → (List Bool) → (List Int) → (List Int) → (List Int) → Tc8 → OB) → OB
noncomputable def Y3q.body (Y3q : T_Y3q) (Y3p : T_Y3p) : T_Y3q := fun n0 n1 n2 t3 n4 b5 n6 n7 n8 t9 na nb sc nd le nf bg nh ni lj lk ll lm k1 =>
  (cond_ (decide (n2 < (length lk : Int))) (Y3p t3 n4 n7 n8 (na, (nb, (sc, (nd, (le, (nf, (bg, (nh, (ni, (lj, (lk, (ll, (lm, ()))))))))))))) n2 n1
 (fun tn => (cond_ (Nat.ble (((length t9) + (length ((tn.1, (tn.2.1, (tn.2.2.1, (tn.2.2.2.1, (tn.2.2.2.2.1, ()))))) :: []))) * (40 : Nat)) (140737488355328 : Nat)) (Y3q n0 n1 (IntKind.wrap .i64 (n2 + 1)) t3 n4 b5 n6 n7 n8 (t9 ++ ((tn.1, (tn.2.1, (tn.2.2.1, (tn.2.2.2.1, (tn.2.2.2.2.1, ()))))) :: [])) na nb sc nd le nf bg nh ni lj lk ll lm k1) none))) (k1 n0 t3 n4 b5 n6 n7 n8 t9))
noncomputable def Y3q : Nat → T_Y3q
  | 0 => fun _ _ _ _ _ _ _ _ _ _ _ _ _ _ _ _ _ _ _ _ _ _ _ _ => none
  | n + 1 => Y3q.body (Y3q n) Y3p
def Y3q.p : LPat := lp 2 87 [2, 3, 5, 6, 7, 8, 9, 12, 13] (ps (pq [1, 0] 0 0) (ps (pq [1, 1] 0 0) (ps (pr [1, 2]) (ps (pr [1, 3]) (ps (pr [1, 4]) (pl (pd (.int .i64)) (ps (pq [1, 5] 0 0) (pl (pd (.int .i64)) (pl (pd (.int .i64)) pz))))))))) (pl (po [1, 0] 30 3 (em (pl (pa (pl (pb 1 102 Ty27) (ps (pk 0) (pl (pd (.int .i64)) pz)))) pz))) (pl (po [1, 1] 26 2 (em (pl (pa (pl (pb 2 4 .bool) (pl (pb 3 3 (.int .i64)) pz))) pz))) (pl (po [1, 2] 3 1 (ed (.int .i64))) (pl (po [1, 3] 3 1 (ed (.int .i64))) (pl (po [1, 4] 69 5 (ed Ty15)) (pl (po [1, 5] 102 13 (em (pl (pa (pl (pd (.int .i64)) (pl (pd (.int .i64)) (pl (pd .str) (pl (pd (.int .i64)) (pl (pd Ty2) (pl (pd (.int .i64)) (pl (pd .bool) (pl (pd (.int .i64)) (pl (pd (.int .i64)) (pl (pd Ty7) (pl (pd Ty17) (pl (pd Ty10) (pl (pd Ty2) pz)))))))))))))) pz))) pz))))))
def Y3q.g (F : T_Y3q) (v : Y3q.p.T) (k : KE) : OB := F v.1.1 v.1.2.1 v.1.2.2.1 v.2.1.1.1 v.2.1.1.2.1 v.2.2.1.1.1 v.2.2.1.1.2.1 v.2.2.2.1 v.2.2.2.2.1 v.2.2.2.2.2.1 v.2.2.2.2.2.2.1.1.1 v.2.2.2.2.2.2.1.1.2.1 v.2.2.2.2.2.2.1.1.2.2.1 v.2.2.2.2.2.2.1.1.2.2.2.1 v.2.2.2.2.2.2.1.1.2.2.2.2.1 v.2.2.2.2.2.2.1.1.2.2.2.2.2.1 v.2.2.2.2.2.2.1.1.2.2.2.2.2.2.1 v.2.2.2.2.2.2.1.1.2.2.2.2.2.2.2.1 v.2.2.2.2.2.2.1.1.2.2.2.2.2.2.2.2.1 v.2.2.2.2.2.2.1.1.2.2.2.2.2.2.2.2.2.1 v.2.2.2.2.2.2.1.1.2.2.2.2.2.2.2.2.2.2.1 v.2.2.2.2.2.2.1.1.2.2.2.2.2.2.2.2.2.2.2.1 v.2.2.2.2.2.2.1.1.2.2.2.2.2.2.2.2.2.2.2.2.1 (fun y0 y1 y2 y3 y4 y5 y6 y7 => k (.exit 2) ⟨fillS 87 [2, 3, 5, 6, 7, 8] [(.ptr [1, 0] 0 0), (.ptr [1, 1] 0 0), (.ref [1, 2]), (.ref [1, 3]), (.ref [1, 4]), (.d ⟨(.int .i64), y0⟩)], [([1, 0], ⟨30, 3, (.mix [(.agg [(.bv 1 102 Ty27 y1), .nils, (.d ⟨(.int .i64), y2⟩)])])⟩), ([1, 1], ⟨26, 2, (.mix [(.agg [(.bv 2 4 .bool y3), (.bv 3 3 (.int .i64) y4)])])⟩), ([1, 2], ⟨3, 1, (.data (.int .i64) y5)⟩), ([1, 3], ⟨3, 1, (.data (.int .i64) y6)⟩), ([1, 4], ⟨69, 5, (.data Ty15 y7)⟩)], 2⟩)
theorem Y3q.step (S : T_Y3q) (F0 : T_Y3p) : ∀ v k, exR 19 Tryz.f19 2 Y3q.p [⟨Y3p.p, Y3p.g F0⟩] [] [] (Y3q.g S) v k = Y3q.g (Y3q.body S F0) v k := fun v k => by kernel_rfl
theorem Y3q.ok : okL 19 Tryz.f19 4 2 Y3q.p (Y3q.g (Y3q ROUNDS)) := loop2 (G := fun n => Y3q.g (Y3q n)) (fun n => Y3q.step (Y3q n) Y3p) (.cons Y3p.ok .nil) [] (by kernel_rfl) .nil (fun _ _ => rfl)
abbrev T_Y3r : Type := Int → Tc20 → Int → (List Bool) → (List Int) → (List Int) → (List Int) → Tc8 → (Tc8 → OB) → OB
noncomputable def Y3r.body (Y3r : T_Y3r) (Y3b : T_Y3b) (Y3n : T_Y3n) (Y3c : T_Y3c) (Yr : T_Yr) (Y3q : T_Y3q) : T_Y3r := fun n0 t1 n2 b3 n4 n5 n6 t7 k1 =>
  (cond_ (decide (n0 < (length t1 : Int))) (cond_ ((decide (0 ≤ n0)) && (decide (n0 < (length t1 : Int)))) (Y3b t1 n2 b3 n4 n0
 (fun b8 => (cond_ (! b8) (Y3r (IntKind.wrap .i64 (n0 + 1)) t1 n2 b3 n4 n5 n6 t7 k1) (Y3n ((getD t1 (toNat n0) ZFun).2.2.2.1, ((getD t1 (toNat n0) ZFun).2.2.2.2.1, ((getD t1 (toNat n0) ZFun).2.2.2.2.2.1, ((getD t1 (toNat n0) ZFun).2.2.2.2.2.2.1, ((getD t1 (toNat n0) ZFun).2.2.2.2.2.2.2.1, ((getD t1 (toNat n0) ZFun).2.2.2.2.2.2.2.2.1, ((getD t1 (toNat n0) ZFun).2.2.2.2.2.2.2.2.2.1, ((getD t1 (toNat n0) ZFun).2.2.2.2.2.2.2.2.2.2.1, ((getD t1 (toNat n0) ZFun).2.2.2.2.2.2.2.2.2.2.2.1, ())))))))))
 (fun n9 => (Y3c b3 n4 n0
 (fun na => (cond_ (na != 0) (cond_ (Nat.ble (((length t7) + (length ((25, (na, (0, (0, (n9, ()))))) :: []))) * (40 : Nat)) (140737488355328 : Nat)) (Yr (getD t1 (toNat n0) ZFun).2.2.2.1
 (fun nb => (cond_ (Nat.ble (((length (t7 ++ ((25, (na, (0, (0, (n9, ()))))) :: []))) + (length ((26, ((length (getD t1 (toNat n0) ZFun).2.2.2.2.1 : Int), (nb, (0, (n9, ()))))) :: []))) * (40 : Nat)) (140737488355328 : Nat)) (Y3q n0 (((length ((t7 ++ ((25, (na, (0, (0, (n9, ()))))) :: [])) ++ ((26, ((length (getD t1 (toNat n0) ZFun).2.2.2.2.1 : Int), (nb, (0, (n9, ()))))) :: []))) : Nat) : Int) 0 t1 n2 b3 n4 n5 n6 ((t7 ++ ((25, (na, (0, (0, (n9, ()))))) :: [])) ++ ((26, ((length (getD t1 (toNat n0) ZFun).2.2.2.2.1 : Int), (nb, (0, (n9, ()))))) :: [])) (getD t1 (toNat n0) ZFun).1 (getD t1 (toNat n0) ZFun).2.1 (getD t1 (toNat n0) ZFun).2.2.1 (getD t1 (toNat n0) ZFun).2.2.2.1 (getD t1 (toNat n0) ZFun).2.2.2.2.1 (getD t1 (toNat n0) ZFun).2.2.2.2.2.1 (getD t1 (toNat n0) ZFun).2.2.2.2.2.2.1 (getD t1 (toNat n0) ZFun).2.2.2.2.2.2.2.1 (getD t1 (toNat n0) ZFun).2.2.2.2.2.2.2.2.1 (getD t1 (toNat n0) ZFun).2.2.2.2.2.2.2.2.2.1 (getD t1 (toNat n0) ZFun).2.2.2.2.2.2.2.2.2.2.1 (getD t1 (toNat n0) ZFun).2.2.2.2.2.2.2.2.2.2.2.1 (getD t1 (toNat n0) ZFun).2.2.2.2.2.2.2.2.2.2.2.2.1
 (fun nc td ne bf ng nh ni tj => (Y3r (IntKind.wrap .i64 (nc + 1)) td ne bf ng nh ni tj k1))) none))) none) (Yr (getD t1 (toNat n0) ZFun).2.2.2.1
 (fun nk => (cond_ (Nat.ble (((length t7) + (length ((26, ((length (getD t1 (toNat n0) ZFun).2.2.2.2.1 : Int), (nk, (0, (n9, ()))))) :: []))) * (40 : Nat)) (140737488355328 : Nat)) (Y3q n0 (((length (t7 ++ ((26, ((length (getD t1 (toNat n0) ZFun).2.2.2.2.1 : Int), (nk, (0, (n9, ()))))) :: []))) : Nat) : Int) 0 t1 n2 b3 n4 n5 n6 (t7 ++ ((26, ((length (getD t1 (toNat n0) ZFun).2.2.2.2.1 : Int), (nk, (0, (n9, ()))))) :: [])) (getD t1 (toNat n0) ZFun).1 (getD t1 (toNat n0) ZFun).2.1 (getD t1 (toNat n0) ZFun).2.2.1 (getD t1 (toNat n0) ZFun).2.2.2.1 (getD t1 (toNat n0) ZFun).2.2.2.2.1 (getD t1 (toNat n0) ZFun).2.2.2.2.2.1 (getD t1 (toNat n0) ZFun).2.2.2.2.2.2.1 (getD t1 (toNat n0) ZFun).2.2.2.2.2.2.2.1 (getD t1 (toNat n0) ZFun).2.2.2.2.2.2.2.2.1 (getD t1 (toNat n0) ZFun).2.2.2.2.2.2.2.2.2.1 (getD t1 (toNat n0) ZFun).2.2.2.2.2.2.2.2.2.2.1 (getD t1 (toNat n0) ZFun).2.2.2.2.2.2.2.2.2.2.2.1 (getD t1 (toNat n0) ZFun).2.2.2.2.2.2.2.2.2.2.2.2.1
 (fun nl tm nn bo np nq nr ts => (Y3r (IntKind.wrap .i64 (nl + 1)) tm nn bo np nq nr ts k1))) none))))))))))) none) (k1 t7))
noncomputable def Y3r : Nat → T_Y3r
  | 0 => fun _ _ _ _ _ _ _ _ _ => none
  | n + 1 => Y3r.body (Y3r n) Y3b Y3n Y3c Yr (Y3q ROUNDS)
def Y3r.p : LPat := lp 2 87 [2, 3, 5, 6, 7, 8] (ps (pq [1, 0] 0 0) (ps (pq [1, 1] 0 0) (ps (pr [1, 2]) (ps (pr [1, 3]) (ps (pr [1, 4]) (pl (pd (.int .i64)) pz)))))) (pl (po [1, 0] 30 3 (em (pl (pa (pl (pb 1 102 Ty27) (ps (pk 0) (pl (pd (.int .i64)) pz)))) pz))) (pl (po [1, 1] 26 2 (em (pl (pa (pl (pb 2 4 .bool) (pl (pb 3 3 (.int .i64)) pz))) pz))) (pl (po [1, 2] 3 1 (ed (.int .i64))) (pl (po [1, 3] 3 1 (ed (.int .i64))) (pl (po [1, 4] 69 5 (ed Ty15)) pz)))))
def Y3r.g (F : T_Y3r) (v : Y3r.p.T) (k : KE) : OB := F v.1.1 v.2.1.1.1 v.2.1.1.2.1 v.2.2.1.1.1 v.2.2.1.1.2.1 v.2.2.2.1 v.2.2.2.2.1 v.2.2.2.2.2.1 (fun y0 => k (.exit 0) ⟨fillS 87 [7] [(.ref [1, 0])], [([1, 0], ⟨69, 5, (.data Ty15 y0)⟩)], 2⟩)
theorem Y3r.step (S : T_Y3r) (F0 : T_Y3b) (F1 : T_Y3n) (F2 : T_Y3c) (F3 : T_Yr) (L0 : T_Y3q) : ∀ v k, exR 19 Tryz.f19 0 Y3r.p [⟨Y3b.p, Y3b.g F0⟩, ⟨Y3n.p, Y3n.g F1⟩, ⟨Y3c.p, Y3c.g F2⟩, ⟨Yr.p, Yr.g F3⟩] [] [⟨2, Y3q.p, Y3q.g L0⟩] (Y3r.g S) v k = Y3r.g (Y3r.body S F0 F1 F2 F3 L0) v k := fun v k => by kernel_rfl
theorem Y3r.ok : okL 19 Tryz.f19 4 0 Y3r.p (Y3r.g (Y3r ROUNDS)) := loop2 (G := fun n => Y3r.g (Y3r n)) (fun n => Y3r.step (Y3r n) Y3b Y3n Y3c Yr (Y3q ROUNDS)) (.cons Y3b.ok (.cons Y3n.ok (.cons Y3c.ok (.cons Yr.ok .nil)))) [2] (by kernel_rfl) (.cons Y3q.ok .nil) (fun _ _ => rfl)
abbrev T_Y3s : Type := Tc20 → Int → (List Bool) → (List Int) → (Tc8 → OB) → OB
noncomputable def Y3s.body (Y3h : T_Y3h) (Y3l : T_Y3l) (Y3r : T_Y3r) : T_Y3s := fun t0 n1 b2 n3 k1 =>
  (Y3h t0 n1 b2 n3
 (fun n4 => (Y3l t0 n1
 (fun n5 => (Y3r 0 t0 n1 b2 n3 n4 n5 [(27, (0, (0, (0, (0, ()))))), (28, (0, (0, (0, (0, ())))))]
 (fun t6 => (k1 t6)))))))
noncomputable def Y3s : T_Y3s := Y3s.body Y3h Y3l (Y3r ROUNDS)
def Y3s.p : FPat := fp 19 (pl (pa (pl (pb 1 102 Ty27) (ps (pk 0) (pl (pd (.int .i64)) pz)))) (pl (pa (pl (pb 2 4 .bool) (pl (pb 3 3 (.int .i64)) pz))) pz)) pz
def Y3s.g (F : T_Y3s) (v : Y3s.p.T) (k : KR) : OB := F v.1.1.1 v.1.1.2.1 v.1.2.1.1 v.1.2.1.2.1 (fun y0 => k (.ref [1, 0]) [([1, 0], ⟨69, 5, (.data Ty15 y0)⟩)])
theorem Y3s.eq (F0 : T_Y3h) (F1 : T_Y3l) (L0 : T_Y3r) : ∀ v k, exF Tryz.f19 Y3s.p [⟨Y3h.p, Y3h.g F0⟩, ⟨Y3l.p, Y3l.g F1⟩] [] [⟨0, Y3r.p, Y3r.g L0⟩] v k = Y3s.g (Y3s.body F0 F1 L0) v k := fun v k => by kernel_rfl
theorem Y3s.ok : okF 5 Y3s.p (Y3s.g Y3s) := fn2 (Y3s.eq Y3h Y3l (Y3r ROUNDS)) Tryz.func19 (by kernel_rfl) (.cons Y3h.ok (.cons Y3l.ok .nil)) [0] (by kernel_rfl) (.cons Y3r.ok .nil)
abbrev T_Y3t : Type := Int → Tc20 → Int → (List Bool) → (List Int) → Tc10 → (Tc10 → OB) → OB
noncomputable def Y3t.body (Y3t : T_Y3t) (Y3b : T_Y3b) (Y3f : T_Y3f) (Y3n : T_Y3n) : T_Y3t := fun n0 t1 n2 b3 n4 t5 k1 =>
  (cond_ (decide (n0 < (length t1 : Int))) (Y3b t1 n2 b3 n4 n0
 (fun b6 => (cond_ (! b6) (Y3t (IntKind.wrap .i64 (n0 + 1)) t1 n2 b3 n4 t5 k1) (cond_ ((decide (0 ≤ n0)) && (decide (n0 < (length t1 : Int)))) (Y3f t1 n2 b3 n4 (IntKind.wrap .i64 (n0 + 1))
 (fun n7 => (Y3f t1 n2 b3 n4 n0
 (fun n8 => (Y3n ((getD t1 (toNat n0) ZFun).2.2.2.1, ((getD t1 (toNat n0) ZFun).2.2.2.2.1, ((getD t1 (toNat n0) ZFun).2.2.2.2.2.1, ((getD t1 (toNat n0) ZFun).2.2.2.2.2.2.1, ((getD t1 (toNat n0) ZFun).2.2.2.2.2.2.2.1, ((getD t1 (toNat n0) ZFun).2.2.2.2.2.2.2.2.1, ((getD t1 (toNat n0) ZFun).2.2.2.2.2.2.2.2.2.1, ((getD t1 (toNat n0) ZFun).2.2.2.2.2.2.2.2.2.2.1, ((getD t1 (toNat n0) ZFun).2.2.2.2.2.2.2.2.2.2.2.1, ())))))))))
 (fun n9 => (cond_ (Nat.ble (((length t5) + (length (((getD t1 (toNat n0) ZFun).1, ((getD t1 (toNat n0) ZFun).2.1, (n8, ((IntKind.wrap .i64 (n7 - (length (getD t1 (toNat n0) ZFun).2.2.2.2.2.2.2.2.2.2.1 : Int))), (n7, (n9, ())))))) :: []))) * (48 : Nat)) (140737488355328 : Nat)) (Y3t (IntKind.wrap .i64 (n0 + 1)) t1 n2 b3 n4 (t5 ++ (((getD t1 (toNat n0) ZFun).1, ((getD t1 (toNat n0) ZFun).2.1, (n8, ((IntKind.wrap .i64 (n7 - (length (getD t1 (toNat n0) ZFun).2.2.2.2.2.2.2.2.2.2.1 : Int))), (n7, (n9, ())))))) :: [])) k1) none))))))) none)))) (k1 t5))
noncomputable def Y3t : Nat → T_Y3t
  | 0 => fun _ _ _ _ _ _ _ => none
  | n + 1 => Y3t.body (Y3t n) Y3b Y3f Y3n
def Y3t.p : LPat := lp 2 54 [2, 3, 5, 6] (ps (pq [1, 0] 0 0) (ps (pq [1, 1] 0 0) (ps (pr [1, 2]) (pl (pd (.int .i64)) pz)))) (pl (po [1, 0] 30 3 (em (pl (pa (pl (pb 1 102 Ty27) (ps (pk 0) (pl (pd (.int .i64)) pz)))) pz))) (pl (po [1, 1] 26 2 (em (pl (pa (pl (pb 2 4 .bool) (pl (pb 3 3 (.int .i64)) pz))) pz))) (pl (po [1, 2] 72 6 (ed Ty18)) pz)))
def Y3t.g (F : T_Y3t) (v : Y3t.p.T) (k : KE) : OB := F v.1.1 v.2.1.1.1 v.2.1.1.2.1 v.2.2.1.1.1 v.2.2.1.1.2.1 v.2.2.2.1 (fun y0 => k (.exit 0) ⟨fillS 54 [5] [(.ref [1, 0])], [([1, 0], ⟨72, 6, (.data Ty18 y0)⟩)], 2⟩)
theorem Y3t.step (S : T_Y3t) (F0 : T_Y3b) (F1 : T_Y3f) (F2 : T_Y3n) : ∀ v k, exR 21 Tryz.f21 0 Y3t.p [⟨Y3b.p, Y3b.g F0⟩, ⟨Y3f.p, Y3f.g F1⟩, ⟨Y3n.p, Y3n.g F2⟩] [] [] (Y3t.g S) v k = Y3t.g (Y3t.body S F0 F1 F2) v k := fun v k => by kernel_rfl
theorem Y3t.ok : okL 21 Tryz.f21 3 0 Y3t.p (Y3t.g (Y3t ROUNDS)) := loop2 (G := fun n => Y3t.g (Y3t n)) (fun n => Y3t.step (Y3t n) Y3b Y3f Y3n) (.cons Y3b.ok (.cons Y3f.ok (.cons Y3n.ok .nil))) [] (by kernel_rfl) .nil (fun _ _ => rfl)
abbrev T_Y3u : Type := Tc20 → Int → (List Bool) → (List Int) → (Tc10 → OB) → OB
noncomputable def Y3u.body (Y3t : T_Y3t) : T_Y3u := fun t0 n1 b2 n3 k1 =>
  (Y3t 0 t0 n1 b2 n3 []
 (fun t4 => (k1 t4)))
noncomputable def Y3u : T_Y3u := Y3u.body (Y3t ROUNDS)
def Y3u.p : FPat := fp 21 (pl (pa (pl (pb 1 102 Ty27) (ps (pk 0) (pl (pd (.int .i64)) pz)))) (pl (pa (pl (pb 2 4 .bool) (pl (pb 3 3 (.int .i64)) pz))) pz)) pz
def Y3u.g (F : T_Y3u) (v : Y3u.p.T) (k : KR) : OB := F v.1.1.1 v.1.1.2.1 v.1.2.1.1 v.1.2.1.2.1 (fun y0 => k (.ref [1, 0]) [([1, 0], ⟨72, 6, (.data Ty18 y0)⟩)])
theorem Y3u.eq (L0 : T_Y3t) : ∀ v k, exF Tryz.f21 Y3u.p [] [] [⟨0, Y3t.p, Y3t.g L0⟩] v k = Y3u.g (Y3u.body L0) v k := fun v k => by kernel_rfl
theorem Y3u.ok : okF 4 Y3u.p (Y3u.g Y3u) := fn2 (Y3u.eq (Y3t ROUNDS)) Tryz.func21 (by kernel_rfl) .nil [0] (by kernel_rfl) (.cons Y3t.ok .nil)
abbrev T_Y3v : Type := Int → Int → Int → Tc20 → Int → (List Bool) → (List Int) → Tc5 → Int → (List Int) → Int → Bool → Int → Int → (List (Int × Int × Unit)) → Tc8 → Tc1 → (Int → Int → Tc20 → Int → (List Bool) → (List Int) → Tc5 → Int → (List Int) → Int → Bool → Int → Int → (List (Int × Int × Unit)) → Tc8 → Tc1 → OB) → OB
noncomputable def Y3v.body (Y3v : T_Y3v) (Y3d : T_Y3d) : T_Y3v := fun n0 n1 n2 t3 n4 b5 n6 t7 n8 l9 na bb nc nd le lf lg k1 =>
  (Y3d t3 n4 b5 n6 n1
 (fun nh => (cond_ (decide (n2 < nh)) (cond_ (Nat.ble (((length t7) + (length ((n0, (0, (false, (0, ())))) :: []))) * (32 : Nat)) (140737488355328 : Nat)) (Y3v n0 n1 (IntKind.wrap .i64 (n2 + 1)) t3 n4 b5 n6 (t7 ++ ((n0, (0, (false, (0, ())))) :: [])) n8 l9 na bb nc nd le lf lg k1) none) (k1 n0 n1 t3 n4 b5 n6 t7 n8 l9 na bb nc nd le lf lg))))
noncomputable def Y3v : Nat → T_Y3v
  | 0 => fun _ _ _ _ _ _ _ _ _ _ _ _ _ _ _ _ _ _ => none
  | n + 1 => Y3v.body (Y3v n) Y3d
def Y3v.p : LPat := lp 2 71 [2, 3, 5, 6, 7, 8, 9] (ps (pq [1, 0] 0 0) (ps (pq [1, 1] 0 0) (ps (pr [1, 2]) (pl (pd (.int .i64)) (pl (pd (.int .i64)) (ps (pq [1, 3] 0 0) (pl (pd (.int .i64)) pz))))))) (pl (po [1, 0] 30 3 (em (pl (pa (pl (pb 1 102 Ty27) (ps (pk 0) (pl (pd (.int .i64)) pz)))) pz))) (pl (po [1, 1] 26 2 (em (pl (pa (pl (pb 2 4 .bool) (pl (pb 3 3 (.int .i64)) pz))) pz))) (pl (po [1, 2] 122 4 (ed Ty11)) (pl (po [1, 3] 100 9 (em (pl (pa (pl (pd (.int .i64)) (pl (pd Ty2) (pl (pd (.int .i64)) (pl (pd .bool) (pl (pd (.int .i64)) (pl (pd (.int .i64)) (pl (pd Ty7) (pl (pd Ty17) (pl (pd Ty10) pz)))))))))) pz))) pz))))
def Y3v.g (F : T_Y3v) (v : Y3v.p.T) (k : KE) : OB := F v.1.1 v.1.2.1 v.1.2.2.1 v.2.1.1.1 v.2.1.1.2.1 v.2.2.1.1.1 v.2.2.1.1.2.1 v.2.2.2.1 v.2.2.2.2.1.1.1 v.2.2.2.2.1.1.2.1 v.2.2.2.2.1.1.2.2.1 v.2.2.2.2.1.1.2.2.2.1 v.2.2.2.2.1.1.2.2.2.2.1 v.2.2.2.2.1.1.2.2.2.2.2.1 v.2.2.2.2.1.1.2.2.2.2.2.2.1 v.2.2.2.2.1.1.2.2.2.2.2.2.2.1 v.2.2.2.2.1.1.2.2.2.2.2.2.2.2.1 (fun y0 y1 y2 y3 y4 y5 y6 y7 y8 y9 y10 y11 y12 y13 y14 y15 => k (.exit 2) ⟨fillS 71 [2, 3, 5, 6, 7, 8] [(.ptr [1, 0] 0 0), (.ptr [1, 1] 0 0), (.ref [1, 2]), (.d ⟨(.int .i64), y0⟩), (.d ⟨(.int .i64), y1⟩), (.ptr [1, 3] 0 0)], [([1, 0], ⟨30, 3, (.mix [(.agg [(.bv 1 102 Ty27 y2), .nils, (.d ⟨(.int .i64), y3⟩)])])⟩), ([1, 1], ⟨26, 2, (.mix [(.agg [(.bv 2 4 .bool y4), (.bv 3 3 (.int .i64) y5)])])⟩), ([1, 2], ⟨122, 4, (.data Ty11 y6)⟩), ([1, 3], ⟨100, 9, (.mix [(.agg [(.d ⟨(.int .i64), y7⟩), (.d ⟨Ty2, y8⟩), (.d ⟨(.int .i64), y9⟩), (.d ⟨.bool, y10⟩), (.d ⟨(.int .i64), y11⟩), (.d ⟨(.int .i64), y12⟩), (.d ⟨Ty7, y13⟩), (.d ⟨Ty17, y14⟩), (.d ⟨Ty10, y15⟩)])])⟩)], 2⟩)
theorem Y3v.step (S : T_Y3v) (F0 : T_Y3d) : ∀ v k, exR 52 Tryz.f52 2 Y3v.p [⟨Y3d.p, Y3d.g F0⟩] [] [] (Y3v.g S) v k = Y3v.g (Y3v.body S F0) v k := fun v k => by kernel_rfl
theorem Y3v.ok : okL 52 Tryz.f52 2 2 Y3v.p (Y3v.g (Y3v ROUNDS)) := loop2 (G := fun n => Y3v.g (Y3v n)) (fun n => Y3v.step (Y3v n) Y3d) (.cons Y3d.ok .nil) [] (by kernel_rfl) .nil (fun _ _ => rfl)
abbrev T_Y3w : Type := Int → Int → Int → Tc16 → (Int → OB) → OB
noncomputable def Y3w.body (Y3w : T_Y3w) : T_Y3w := fun n0 n1 n2 t3 k1 =>
  (cond_ (decide (n2 < (length t3.2.2.2.2.2.2.1 : Int))) (cond_ ((decide (0 ≤ n2)) && (decide (n2 < (length t3.2.2.2.2.2.2.1 : Int)))) (cond_ (decide ((getD t3.2.2.2.2.2.2.1 (toNat n2) (0, (0, ()))).1 ≤ n0)) (cond_ ((decide (0 ≤ n2)) && (decide (n2 < (length t3.2.2.2.2.2.2.1 : Int)))) (Y3w n0 (getD t3.2.2.2.2.2.2.1 (toNat n2) (0, (0, ()))).2.1 (IntKind.wrap .i64 (n2 + 1)) t3 k1) none) (k1 n1)) none) (k1 n1))
noncomputable def Y3w : Nat → T_Y3w
  | 0 => fun _ _ _ _ _ => none
  | n + 1 => Y3w.body (Y3w n)
def Y3w.p : LPat := lp 2 31 [1, 2, 5, 6] (pl (pd (.int .i64)) (ps (pq [1, 0] 0 0) (pl (pd (.int .i64)) (pl (pd (.int .i64)) pz)))) (pl (po [1, 0] 100 9 (es Ty24 (pl eh pz))) pz)
def Y3w.g (F : T_Y3w) (v : Y3w.p.T) (k : KE) : OB := F v.1.1 v.1.2.1 v.1.2.2.1 v.2.1.1 (fun y0 => k (.exit 0) ⟨fillS 31 [5] [(.d ⟨(.int .i64), y0⟩)], [], 2⟩)
theorem Y3w.step (S : T_Y3w) : ∀ v k, exR 82 Tryz.f82 0 Y3w.p [] [] [] (Y3w.g S) v k = Y3w.g (Y3w.body S) v k := fun v k => by kernel_rfl
theorem Y3w.ok : okL 82 Tryz.f82 0 0 Y3w.p (Y3w.g (Y3w ROUNDS)) := loop2 (G := fun n => Y3w.g (Y3w n)) (fun n => Y3w.step (Y3w n)) .nil [] (by kernel_rfl) .nil (fun _ _ => rfl)
abbrev T_Y3x : Type := Tc16 → Int → (Int → OB) → OB
noncomputable def Y3x.body (Y3w : T_Y3w) : T_Y3x := fun t0 n1 k1 =>
  (Y3w n1 0 0 t0
 (fun n2 => (k1 n2)))
noncomputable def Y3x : T_Y3x := Y3x.body (Y3w ROUNDS)
def Y3x.p : FPat := fp 82 (pl (pd Ty24) (pl (pd (.int .i64)) pz)) pz
def Y3x.g (F : T_Y3x) (v : Y3x.p.T) (k : KR) : OB := F v.1.1 v.1.2.1 (fun y0 => k (.d ⟨(.int .i64), y0⟩) [])
theorem Y3x.eq (L0 : T_Y3w) : ∀ v k, exF Tryz.f82 Y3x.p [] [] [⟨0, Y3w.p, Y3w.g L0⟩] v k = Y3x.g (Y3x.body L0) v k := fun v k => by kernel_rfl
theorem Y3x.ok : okF 1 Y3x.p (Y3x.g Y3x) := fn2 (Y3x.eq (Y3w ROUNDS)) Tryz.func82 (by kernel_rfl) .nil [0] (by kernel_rfl) (.cons Y3w.ok .nil)
abbrev T_Y3y : Type := Int → Int → Int → Tc20 → Int → (List Bool) → (List Int) → Tc5 → Int → (List Int) → Int → Bool → Int → Int → (List (Int × Int × Unit)) → Tc8 → Tc1 → (Int → Int → Tc20 → Int → (List Bool) → (List Int) → Tc5 → OB) → OB
noncomputable def Y3y.body (Y3y : T_Y3y) (Y3n : T_Y3n) (Y26 : T_Y26) (Y3x : T_Y3x) : T_Y3y := fun n0 n1 n2 t3 n4 b5 n6 t7 n8 l9 na bb nc nd le lf lg k1 =>
  (cond_ (decide (n2 < (length lf : Int))) (Y3n (n8, (l9, (na, (bb, (nc, (nd, (le, (lf, (lg, ())))))))))
 (fun nh => (Y26 (n8, (l9, (na, (bb, (nc, (nd, (le, (lf, (lg, ()))))))))) n2
 (fun bi => (Y3x (n8, (l9, (na, (bb, (nc, (nd, (le, (lf, (lg, ()))))))))) n2
 (fun nj => (cond_ (Nat.ble (((length t7) + (length ((n0, (nh, (bi, (nj, ())))) :: []))) * (32 : Nat)) (140737488355328 : Nat)) (Y3y n0 n1 (IntKind.wrap .i64 (n2 + 1)) t3 n4 b5 n6 (t7 ++ ((n0, (nh, (bi, (nj, ())))) :: [])) n8 l9 na bb nc nd le lf lg k1) none))))))) (k1 n0 n1 t3 n4 b5 n6 t7))
noncomputable def Y3y : Nat → T_Y3y
  | 0 => fun _ _ _ _ _ _ _ _ _ _ _ _ _ _ _ _ _ _ => none
  | n + 1 => Y3y.body (Y3y n) Y3n Y26 Y3x
def Y3y.p : LPat := lp 2 71 [2, 3, 5, 6, 7, 8, 10] (ps (pq [1, 0] 0 0) (ps (pq [1, 1] 0 0) (ps (pr [1, 2]) (pl (pd (.int .i64)) (pl (pd (.int .i64)) (ps (pq [1, 3] 0 0) (pl (pd (.int .i64)) pz))))))) (pl (po [1, 0] 30 3 (em (pl (pa (pl (pb 1 102 Ty27) (ps (pk 0) (pl (pd (.int .i64)) pz)))) pz))) (pl (po [1, 1] 26 2 (em (pl (pa (pl (pb 2 4 .bool) (pl (pb 3 3 (.int .i64)) pz))) pz))) (pl (po [1, 2] 122 4 (ed Ty11)) (pl (po [1, 3] 100 9 (em (pl (pa (pl (pd (.int .i64)) (pl (pd Ty2) (pl (pd (.int .i64)) (pl (pd .bool) (pl (pd (.int .i64)) (pl (pd (.int .i64)) (pl (pd Ty7) (pl (pd Ty17) (pl (pd Ty10) pz)))))))))) pz))) pz))))
def Y3y.g (F : T_Y3y) (v : Y3y.p.T) (k : KE) : OB := F v.1.1 v.1.2.1 v.1.2.2.1 v.2.1.1.1 v.2.1.1.2.1 v.2.2.1.1.1 v.2.2.1.1.2.1 v.2.2.2.1 v.2.2.2.2.1.1.1 v.2.2.2.2.1.1.2.1 v.2.2.2.2.1.1.2.2.1 v.2.2.2.2.1.1.2.2.2.1 v.2.2.2.2.1.1.2.2.2.2.1 v.2.2.2.2.1.1.2.2.2.2.2.1 v.2.2.2.2.1.1.2.2.2.2.2.2.1 v.2.2.2.2.1.1.2.2.2.2.2.2.2.1 v.2.2.2.2.1.1.2.2.2.2.2.2.2.2.1 (fun y0 y1 y2 y3 y4 y5 y6 => k (.exit 4) ⟨fillS 71 [2, 3, 5, 6, 7] [(.ptr [1, 0] 0 0), (.ptr [1, 1] 0 0), (.ref [1, 2]), (.d ⟨(.int .i64), y0⟩), (.d ⟨(.int .i64), y1⟩)], [([1, 0], ⟨30, 3, (.mix [(.agg [(.bv 1 102 Ty27 y2), .nils, (.d ⟨(.int .i64), y3⟩)])])⟩), ([1, 1], ⟨26, 2, (.mix [(.agg [(.bv 2 4 .bool y4), (.bv 3 3 (.int .i64) y5)])])⟩), ([1, 2], ⟨122, 4, (.data Ty11 y6)⟩)], 2⟩)
theorem Y3y.step (S : T_Y3y) (F0 : T_Y3n) (F1 : T_Y26) (F2 : T_Y3x) : ∀ v k, exR 52 Tryz.f52 4 Y3y.p [⟨Y3n.p, Y3n.g F0⟩, ⟨Y26.p, Y26.g F1⟩, ⟨Y3x.p, Y3x.g F2⟩] [] [] (Y3y.g S) v k = Y3y.g (Y3y.body S F0 F1 F2) v k := fun v k => by kernel_rfl
theorem Y3y.ok : okL 52 Tryz.f52 2 4 Y3y.p (Y3y.g (Y3y ROUNDS)) := loop2 (G := fun n => Y3y.g (Y3y n)) (fun n => Y3y.step (Y3y n) Y3n Y26 Y3x) (.cons Y3n.ok (.cons Y26.ok (.cons Y3x.ok .nil))) [] (by kernel_rfl) .nil (fun _ _ => rfl)
abbrev T_Y3z : Type := Int → Int → Tc20 → Int → (List Bool) → (List Int) → Tc5 → (Tc5 → OB) → OB
noncomputable def Y3z.body (Y3z : T_Y3z) (Y3b : T_Y3b) (Y3v : T_Y3v) (Y3y : T_Y3y) : T_Y3z := fun n0 n1 t2 n3 b4 n5 t6 k1 =>
  (cond_ (decide (n1 < (length t2 : Int))) (Y3b t2 n3 b4 n5 n1
 (fun b7 => (cond_ (! b7) (Y3z n0 (IntKind.wrap .i64 (n1 + 1)) t2 n3 b4 n5 t6 k1) (cond_ ((decide (0 ≤ n1)) && (decide (n1 < (length t2 : Int)))) (Y3v (IntKind.wrap .i64 (n0 + 1)) n1 (length (getD t2 (toNat n1) ZFun).2.2.2.2.2.2.2.2.2.2.1 : Int) t2 n3 b4 n5 t6 (getD t2 (toNat n1) ZFun).2.2.2.1 (getD t2 (toNat n1) ZFun).2.2.2.2.1 (getD t2 (toNat n1) ZFun).2.2.2.2.2.1 (getD t2 (toNat n1) ZFun).2.2.2.2.2.2.1 (getD t2 (toNat n1) ZFun).2.2.2.2.2.2.2.1 (getD t2 (toNat n1) ZFun).2.2.2.2.2.2.2.2.1 (getD t2 (toNat n1) ZFun).2.2.2.2.2.2.2.2.2.1 (getD t2 (toNat n1) ZFun).2.2.2.2.2.2.2.2.2.2.1 (getD t2 (toNat n1) ZFun).2.2.2.2.2.2.2.2.2.2.2.1
 (fun n8 n9 ta nb bc nd te nf lg nh bi nj nk ll lm ln => (Y3y n8 n9 0 ta nb bc nd te nf lg nh bi nj nk ll lm ln
 (fun no np tq nr bs nt tu => (Y3z no (IntKind.wrap .i64 (np + 1)) tq nr bs nt tu k1))))) none)))) (k1 t6))
noncomputable def Y3z : Nat → T_Y3z
  | 0 => fun _ _ _ _ _ _ _ _ => none
  | n + 1 => Y3z.body (Y3z n) Y3b (Y3v ROUNDS) (Y3y ROUNDS)
def Y3z.p : LPat := lp 2 71 [2, 3, 5, 6, 7] (ps (pq [1, 0] 0 0) (ps (pq [1, 1] 0 0) (ps (pr [1, 2]) (pl (pd (.int .i64)) (pl (pd (.int .i64)) pz))))) (pl (po [1, 0] 30 3 (em (pl (pa (pl (pb 1 102 Ty27) (ps (pk 0) (pl (pd (.int .i64)) pz)))) pz))) (pl (po [1, 1] 26 2 (em (pl (pa (pl (pb 2 4 .bool) (pl (pb 3 3 (.int .i64)) pz))) pz))) (pl (po [1, 2] 122 4 (ed Ty11)) pz)))
def Y3z.g (F : T_Y3z) (v : Y3z.p.T) (k : KE) : OB := F v.1.1 v.1.2.1 v.2.1.1.1 v.2.1.1.2.1 v.2.2.1.1.1 v.2.2.1.1.2.1 v.2.2.2.1 (fun y0 => k (.exit 0) ⟨fillS 71 [5] [(.ref [1, 0])], [([1, 0], ⟨122, 4, (.data Ty11 y0)⟩)], 2⟩)
theorem Y3z.step (S : T_Y3z) (F0 : T_Y3b) (L0 : T_Y3v) (L1 : T_Y3y) : ∀ v k, exR 52 Tryz.f52 0 Y3z.p [⟨Y3b.p, Y3b.g F0⟩] [] [⟨2, Y3v.p, Y3v.g L0⟩, ⟨4, Y3y.p, Y3y.g L1⟩] (Y3z.g S) v k = Y3z.g (Y3z.body S F0 L0 L1) v k := fun v k => by kernel_rfl
theorem Y3z.ok : okL 52 Tryz.f52 2 0 Y3z.p (Y3z.g (Y3z ROUNDS)) := loop2 (G := fun n => Y3z.g (Y3z n)) (fun n => Y3z.step (Y3z n) Y3b (Y3v ROUNDS) (Y3y ROUNDS)) (.cons Y3b.ok .nil) [2, 4] (by kernel_rfl) (.cons Y3v.ok (.cons Y3y.ok .nil)) (fun _ _ => rfl)
abbrev T_Y40 : Type := Tc20 → Int → (List Bool) → (List Int) → (Tc5 → OB) → OB
noncomputable def Y40.body (Y3z : T_Y3z) : T_Y40 := fun t0 n1 b2 n3 k1 =>
  (Y3z 0 0 t0 n1 b2 n3 [ZRo, ZRo]
 (fun t4 => (k1 t4)))
noncomputable def Y40 : T_Y40 := Y40.body (Y3z ROUNDS)
def Y40.p : FPat := fp 52 (pl (pa (pl (pb 1 102 Ty27) (ps (pk 0) (pl (pd (.int .i64)) pz)))) (pl (pa (pl (pb 2 4 .bool) (pl (pb 3 3 (.int .i64)) pz))) pz)) pz
def Y40.g (F : T_Y40) (v : Y40.p.T) (k : KR) : OB := F v.1.1.1 v.1.1.2.1 v.1.2.1.1 v.1.2.1.2.1 (fun y0 => k (.ref [1, 0]) [([1, 0], ⟨122, 4, (.data Ty11 y0)⟩)])
theorem Y40.eq (L0 : T_Y3z) : ∀ v k, exF Tryz.f52 Y40.p [] [] [⟨0, Y3z.p, Y3z.g L0⟩] v k = Y40.g (Y40.body L0) v k := fun v k => by kernel_rfl
theorem Y40.ok : okF 3 Y40.p (Y40.g Y40) := fn2 (Y40.eq (Y3z ROUNDS)) Tryz.func52 (by kernel_rfl) .nil [0] (by kernel_rfl) (.cons Y3z.ok .nil)
abbrev T_Y41 : Type := Tc5 → Int → Tc9 → (Tc9 → OB) → OB
noncomputable def Y41.body (Y41 : T_Y41) : T_Y41 := fun t0 n1 t2 k1 =>
  (cond_ (decide (n1 < (length t0 : Int))) (cond_ (! (n1 == 0)) (cond_ ((decide (0 ≤ n1)) && (decide (n1 < (length t0 : Int)))) (cond_ ((decide (0 ≤ (IntKind.wrap .i64 (n1 - 1)))) && (decide ((IntKind.wrap .i64 (n1 - 1)) < (length t0 : Int)))) (cond_ (! (((getD t0 (toNat n1) ZRo).1 == (getD t0 (toNat (IntKind.wrap .i64 (n1 - 1))) ZRo).1) && (((getD t0 (toNat n1) ZRo).2.1 == (getD t0 (toNat (IntKind.wrap .i64 (n1 - 1))) ZRo).2.1) && (((getD t0 (toNat n1) ZRo).2.2.1 == (getD t0 (toNat (IntKind.wrap .i64 (n1 - 1))) ZRo).2.2.1) && (((getD t0 (toNat n1) ZRo).2.2.2.1 == (getD t0 (toNat (IntKind.wrap .i64 (n1 - 1))) ZRo).2.2.2.1) && true))))) (cond_ ((decide (0 ≤ n1)) && (decide (n1 < (length t0 : Int)))) (cond_ (Nat.ble (((length t2) + (length ((n1, ((getD t0 (toNat n1) ZRo).1, ((getD t0 (toNat n1) ZRo).2.1, ((getD t0 (toNat n1) ZRo).2.2.1, ((getD t0 (toNat n1) ZRo).2.2.2.1, ()))))) :: []))) * (40 : Nat)) (140737488355328 : Nat)) (Y41 t0 (IntKind.wrap .i64 (n1 + 1)) (t2 ++ ((n1, ((getD t0 (toNat n1) ZRo).1, ((getD t0 (toNat n1) ZRo).2.1, ((getD t0 (toNat n1) ZRo).2.2.1, ((getD t0 (toNat n1) ZRo).2.2.2.1, ()))))) :: [])) k1) none) none) (Y41 t0 (IntKind.wrap .i64 (n1 + 1)) t2 k1)) none) none) (cond_ ((decide (0 ≤ n1)) && (decide (n1 < (length t0 : Int)))) (cond_ (Nat.ble (((length t2) + (length ((n1, ((getD t0 (toNat n1) ZRo).1, ((getD t0 (toNat n1) ZRo).2.1, ((getD t0 (toNat n1) ZRo).2.2.1, ((getD t0 (toNat n1) ZRo).2.2.2.1, ()))))) :: []))) * (40 : Nat)) (140737488355328 : Nat)) (Y41 t0 (IntKind.wrap .i64 (n1 + 1)) (t2 ++ ((n1, ((getD t0 (toNat n1) ZRo).1, ((getD t0 (toNat n1) ZRo).2.1, ((getD t0 (toNat n1) ZRo).2.2.1, ((getD t0 (toNat n1) ZRo).2.2.2.1, ()))))) :: [])) k1) none) none)) (k1 t2))
noncomputable def Y41 : Nat → T_Y41
  | 0 => fun _ _ _ _ => none
  | n + 1 => Y41.body (Y41 n)
def Y41.p : LPat := lp 2 35 [0, 3, 4] (pl (pb 1 122 Ty11) (ps (pr [1, 0]) (pl (pd (.int .i64)) pz))) (pl (po [1, 0] 124 5 (ed Ty13)) pz)
def Y41.g (F : T_Y41) (v : Y41.p.T) (k : KE) : OB := F v.1.1 v.1.2.1 v.2.1 (fun y0 => k (.exit 0) ⟨fillS 35 [3] [(.ref [1, 0])], [([1, 0], ⟨124, 5, (.data Ty13 y0)⟩)], 2⟩)
theorem Y41.step (S : T_Y41) : ∀ v k, exR 51 Tryz.f51 0 Y41.p [] [] [] (Y41.g S) v k = Y41.g (Y41.body S) v k := fun v k => by kernel_rfl
theorem Y41.ok : okL 51 Tryz.f51 0 0 Y41.p (Y41.g (Y41 ROUNDS)) := loop2 (G := fun n => Y41.g (Y41 n)) (fun n => Y41.step (Y41 n)) .nil [] (by kernel_rfl) .nil (fun _ _ => rfl)
abbrev T_Y42 : Type := Tc5 → (Tc9 → OB) → OB
noncomputable def Y42.body (Y41 : T_Y41) : T_Y42 := fun t0 k1 =>
  (Y41 t0 0 []
 (fun t1 => (k1 t1)))
noncomputable def Y42 : T_Y42 := Y42.body (Y41 ROUNDS)
def Y42.p : FPat := fp 51 (pl (pb 1 122 Ty11) pz) pz
def Y42.g (F : T_Y42) (v : Y42.p.T) (k : KR) : OB := F v.1.1 (fun y0 => k (.ref [1, 0]) [([1, 0], ⟨124, 5, (.data Ty13 y0)⟩)])
theorem Y42.eq (L0 : T_Y41) : ∀ v k, exF Tryz.f51 Y42.p [] [] [⟨0, Y41.p, Y41.g L0⟩] v k = Y42.g (Y42.body L0) v k := fun v k => by kernel_rfl
theorem Y42.ok : okF 1 Y42.p (Y42.g Y42) := fn2 (Y42.eq (Y41 ROUNDS)) Tryz.func51 (by kernel_rfl) .nil [0] (by kernel_rfl) (.cons Y41.ok .nil)
abbrev T_Y43 : Type := Tc20 → Int → (List Bool) → (List Int) → (Tc9 → OB) → OB
noncomputable def Y43.body (Y40 : T_Y40) (Y42 : T_Y42) : T_Y43 := fun t0 n1 b2 n3 k1 =>
  (Y40 t0 n1 b2 n3
 (fun t4 => (Y42 t4
 (fun t5 => (k1 t5)))))
noncomputable def Y43 : T_Y43 := Y43.body Y40 Y42
def Y43.p : FPat := fp 22 (pl (pa (pl (pb 1 102 Ty27) (ps (pk 0) (pl (pd (.int .i64)) pz)))) (pl (pa (pl (pb 2 4 .bool) (pl (pb 3 3 (.int .i64)) pz))) pz)) pz
def Y43.g (F : T_Y43) (v : Y43.p.T) (k : KR) : OB := F v.1.1.1 v.1.1.2.1 v.1.2.1.1 v.1.2.1.2.1 (fun y0 => k (.ref [1, 0]) [([1, 0], ⟨124, 5, (.data Ty13 y0)⟩)])
theorem Y43.eq (F0 : T_Y40) (F1 : T_Y42) : ∀ v k, exF Tryz.f22 Y43.p [⟨Y40.p, Y40.g F0⟩, ⟨Y42.p, Y42.g F1⟩] [] [] v k = Y43.g (Y43.body F0 F1) v k := fun v k => by kernel_rfl
theorem Y43.ok : okF 4 Y43.p (Y43.g Y43) := fn2 (Y43.eq Y40 Y42) Tryz.func22 (by kernel_rfl) (.cons Y40.ok (.cons Y42.ok .nil)) [] (by kernel_rfl) .nil
abbrev T_Y44 : Type := (List Int) → Int → Int → ((List Int) → OB) → OB
noncomputable def Y44.body : T_Y44 := fun n0 n1 n2 k1 =>
  (cond_ (Nat.ble (((0 : Nat) + (length n0)) * (1 : Nat)) (140737488355328 : Nat)) (cond_ (! (decide (n2 < 1))) (cond_ (decide (n2 > 8)) (k1 ([] ++ n0)) (cond_ (((decide (0 ≤ (IntKind.wrap .i64 (8 - n2)))) && (decide ((IntKind.wrap .i64 (8 - n2)) ≤ 8))) && true) (cond_ (Nat.ble (((length ([] ++ n0)) + (length (List.take (toNat (8 - (IntKind.wrap .i64 (8 - n2)))) (List.drop (toNat (IntKind.wrap .i64 (8 - n2))) ((IntKind.wrap .u8 (Int.fdiv n1 72057594037927936)) :: ((IntKind.wrap .u8 (Int.fdiv n1 281474976710656)) :: ((IntKind.wrap .u8 (Int.fdiv n1 1099511627776)) :: ((IntKind.wrap .u8 (Int.fdiv n1 4294967296)) :: ((IntKind.wrap .u8 (Int.fdiv n1 16777216)) :: ((IntKind.wrap .u8 (Int.fdiv n1 65536)) :: ((IntKind.wrap .u8 (Int.fdiv n1 256)) :: ((IntKind.wrap .u8 (Int.fdiv n1 1)) :: [])))))))))))) * (1 : Nat)) (140737488355328 : Nat)) (k1 (([] ++ n0) ++ (List.take (toNat (8 - (IntKind.wrap .i64 (8 - n2)))) (List.drop (toNat (IntKind.wrap .i64 (8 - n2))) ((IntKind.wrap .u8 (Int.fdiv n1 72057594037927936)) :: ((IntKind.wrap .u8 (Int.fdiv n1 281474976710656)) :: ((IntKind.wrap .u8 (Int.fdiv n1 1099511627776)) :: ((IntKind.wrap .u8 (Int.fdiv n1 4294967296)) :: ((IntKind.wrap .u8 (Int.fdiv n1 16777216)) :: ((IntKind.wrap .u8 (Int.fdiv n1 65536)) :: ((IntKind.wrap .u8 (Int.fdiv n1 256)) :: ((IntKind.wrap .u8 (Int.fdiv n1 1)) :: [])))))))))))) none) none)) (k1 ([] ++ n0))) none)
noncomputable def Y44 : T_Y44 := Y44.body
def Y44.p : FPat := fp 25 (pl (pb 0 5 (.int .u8)) (pl (pd (.int .i64)) (pl (pd (.int .i64)) pz))) pz
def Y44.g (F : T_Y44) (v : Y44.p.T) (k : KR) : OB := F v.1.1 v.1.2.1 v.1.2.2.1 (fun y0 => k (.ref [1, 0]) [([1, 0], ⟨5, 1, (.data (.int .u8) y0)⟩)])
theorem Y44.eq : ∀ v k, exF Tryz.f25 Y44.p [] [0] [] v k = Y44.g (Y44.body) v k := fun v k => by kernel_rfl
theorem Y44.ok : okF 1 Y44.p (Y44.g Y44) := fn2 (Y44.eq) Tryz.func25 (by kernel_rfl) .nil [] (by kernel_rfl) .nil
abbrev T_Y45 : Type := Int → (List Int) → Int → Int → ((List Int) × Unit) → (((List Int) × Unit) → OB) → OB
noncomputable def Y45.body (Y45 : T_Y45) (Y44 : T_Y44) : T_Y45 := fun n0 n1 n2 n3 t4 k1 =>
  (cond_ (decide (n3 < n2)) (cond_ ((decide (0 ≤ n3)) && (decide (n3 < (length n1 : Int)))) (Y44 t4.1 (getD n1 (toNat n3) 0) n0
 (fun n5 => (Y45 n0 n1 n2 (IntKind.wrap .i64 (n3 + 1)) (n5, ()) k1))) none) (k1 t4))
noncomputable def Y45 : Nat → T_Y45
  | 0 => fun _ _ _ _ _ _ => none
  | n + 1 => Y45.body (Y45 n) Y44
def Y45.p : LPat := lp 2 25 [0, 1, 8, 9, 10] (ps (pq [0, 0] 0 0) (pl (pd (.int .i64)) (pl (pb 1 3 (.int .i64)) (pl (pd (.int .i64)) (pl (pd (.int .i64)) pz))))) (pl (po [0, 0] 66 1 (es Ty4 (pl eh pz))) pz)
def Y45.g (F : T_Y45) (v : Y45.p.T) (k : KE) : OB := F v.1.1 v.1.2.1 v.1.2.2.1 v.1.2.2.2.1 v.2.1.1 (fun y0 => k (.exit 0) ⟨fillS 25 [] [], [([0, 0], ⟨66, 1, (.data Ty4 [y0])⟩)], 2⟩)
theorem Y45.step (S : T_Y45) (F0 : T_Y44) : ∀ v k, exR 24 Tryz.f24 0 Y45.p [⟨Y44.p, Y44.g F0⟩] [] [] (Y45.g S) v k = Y45.g (Y45.body S F0) v k := fun v k => by kernel_rfl
theorem Y45.ok : okL 24 Tryz.f24 1 0 Y45.p (Y45.g (Y45 ROUNDS)) := loop2 (G := fun n => Y45.g (Y45 n)) (fun n => Y45.step (Y45 n) Y44) (.cons Y44.ok .nil) [] (by kernel_rfl) .nil (fun _ _ => rfl)
abbrev T_Y46 : Type := Int → (List Int) → ((List Int) × Unit) → (((List Int) × Unit) → OB) → OB
noncomputable def Y46.body (Y45 : T_Y45) : T_Y46 := fun n0 n1 t2 k1 =>
  (Y45 n0 n1 (length n1 : Int) 0 t2
 (fun t3 => (k1 t3)))
noncomputable def Y46 : T_Y46 := Y46.body (Y45 ROUNDS)
def Y46.p : FPat := fp 24 (ps (pq [0, 0] 0 0) (pl (pd (.int .i64)) (pl (pb 1 3 (.int .i64)) pz))) (pl (po [0, 0] 66 1 (es Ty4 (pl eh pz))) pz)
def Y46.g (F : T_Y46) (v : Y46.p.T) (k : KR) : OB := F v.1.1 v.1.2.1 v.2.1.1 (fun y0 => k (.tup []) [([0, 0], ⟨66, 1, (.data Ty4 [y0])⟩)])
theorem Y46.eq (L0 : T_Y45) : ∀ v k, exF Tryz.f24 Y46.p [] [] [⟨0, Y45.p, Y45.g L0⟩] v k = Y46.g (Y46.body L0) v k := fun v k => by kernel_rfl
theorem Y46.ok : okF 2 Y46.p (Y46.g Y46) := fn2 (Y46.eq (Y45 ROUNDS)) Tryz.func24 (by kernel_rfl) .nil [0] (by kernel_rfl) (.cons Y45.ok .nil)
abbrev T_Y47 : Type := Tc8 → Int → Int → Tc8 → (List Int) → Tc10 → Tc9 → Int → ((List Int) × Unit) → (Tc8 → (List Int) → Tc10 → Tc9 → Int → ((List Int) × Unit) → OB) → OB
noncomputable def Y47.body (Y47 : T_Y47) (Y46 : T_Y46) (Y44 : T_Y44) : T_Y47 := fun t0 n1 n2 t3 n4 t5 t6 n7 t8 k1 =>
  (cond_ (decide (n2 < n1)) (cond_ ((decide (0 ≤ n2)) && (decide (n2 < (length t0 : Int)))) (Y46 1 [(getD t0 (toNat n2) ZIns).1, (getD t0 (toNat n2) ZIns).2.1, (getD t0 (toNat n2) ZIns).2.2.1, (getD t0 (toNat n2) ZIns).2.2.2.1] t8
 (fun t9 => (Y44 t9.1 (getD t0 (toNat n2) ZIns).2.2.2.2.1 4
 (fun na => (Y47 t0 n1 (IntKind.wrap .i64 (n2 + 1)) t3 n4 t5 t6 n7 (na, ()) k1))))) none) (k1 t3 n4 t5 t6 n7 t8))
noncomputable def Y47 : Nat → T_Y47
  | 0 => fun _ _ _ _ _ _ _ _ _ _ => none
  | n + 1 => Y47.body (Y47 n) Y46 Y44
def Y47.p : LPat := lp 2 114 [1, 3, 23, 24, 25] (ps (pq [1, 0] 0 0) (ps (pq [1, 1] 0 0) (pl (pb 1 69 Ty15) (pl (pd (.int .i64)) (pl (pd (.int .i64)) pz))))) (pl (po [1, 0] 40 5 (em (pl (pa (pl (pb 1 69 Ty15) (pl (pb 2 2 (.int .i64)) (pl (pb 3 72 Ty18) (pl (pb 4 124 Ty13) (pl (pd (.int .i64)) pz)))))) pz))) (pl (po [1, 1] 66 1 (es Ty4 (pl eh pz))) pz))
def Y47.g (F : T_Y47) (v : Y47.p.T) (k : KE) : OB := F v.1.1 v.1.2.1 v.1.2.2.1 v.2.1.1.1 v.2.1.1.2.1 v.2.1.1.2.2.1 v.2.1.1.2.2.2.1 v.2.1.1.2.2.2.2.1 v.2.2.1.1 (fun y0 y1 y2 y3 y4 y5 => k (.exit 0) ⟨fillS 114 [1, 3] [(.ptr [1, 0] 0 0), (.ptr [1, 1] 0 0)], [([1, 0], ⟨40, 5, (.mix [(.agg [(.bv 1 69 Ty15 y0), (.bv 2 2 (.int .i64) y1), (.bv 3 72 Ty18 y2), (.bv 4 124 Ty13 y3), (.d ⟨(.int .i64), y4⟩)])])⟩), ([1, 1], ⟨66, 1, (.data Ty4 [y5])⟩)], 2⟩)
theorem Y47.step (S : T_Y47) (F0 : T_Y46) (F1 : T_Y44) : ∀ v k, exR 9 Tryz.f9 0 Y47.p [⟨Y46.p, Y46.g F0⟩, ⟨Y44.p, Y44.g F1⟩] [] [] (Y47.g S) v k = Y47.g (Y47.body S F0 F1) v k := fun v k => by kernel_rfl
theorem Y47.ok : okL 9 Tryz.f9 2 0 Y47.p (Y47.g (Y47 ROUNDS)) := loop2 (G := fun n => Y47.g (Y47 n)) (fun n => Y47.step (Y47 n) Y46 Y44) (.cons Y46.ok (.cons Y44.ok .nil)) [] (by kernel_rfl) .nil (fun _ _ => rfl)
abbrev T_Y48 : Type := (List Int) → Int → Int → Tc8 → (List Int) → Tc10 → Tc9 → Int → ((List Int) × Unit) → (Tc8 → (List Int) → Tc10 → Tc9 → Int → ((List Int) × Unit) → OB) → OB
noncomputable def Y48.body (Y48 : T_Y48) (Y44 : T_Y44) : T_Y48 := fun n0 n1 n2 t3 n4 t5 t6 n7 t8 k1 =>
  (cond_ (decide (n2 < n1)) (cond_ ((decide (0 ≤ n2)) && (decide (n2 < (length n0 : Int)))) (Y44 t8.1 (getD n0 (toNat n2) 0) 8
 (fun n9 => (Y48 n0 n1 (IntKind.wrap .i64 (n2 + 1)) t3 n4 t5 t6 n7 (n9, ()) k1))) none) (k1 t3 n4 t5 t6 n7 t8))
noncomputable def Y48 : Nat → T_Y48
  | 0 => fun _ _ _ _ _ _ _ _ _ _ => none
  | n + 1 => Y48.body (Y48 n) Y44
def Y48.p : LPat := lp 2 114 [1, 3, 58, 59, 60] (ps (pq [1, 0] 0 0) (ps (pq [1, 1] 0 0) (pl (pb 2 2 (.int .i64)) (pl (pd (.int .i64)) (pl (pd (.int .i64)) pz))))) (pl (po [1, 0] 40 5 (em (pl (pa (pl (pb 1 69 Ty15) (pl (pb 2 2 (.int .i64)) (pl (pb 3 72 Ty18) (pl (pb 4 124 Ty13) (pl (pd (.int .i64)) pz)))))) pz))) (pl (po [1, 1] 66 1 (es Ty4 (pl eh pz))) pz))
def Y48.g (F : T_Y48) (v : Y48.p.T) (k : KE) : OB := F v.1.1 v.1.2.1 v.1.2.2.1 v.2.1.1.1 v.2.1.1.2.1 v.2.1.1.2.2.1 v.2.1.1.2.2.2.1 v.2.1.1.2.2.2.2.1 v.2.2.1.1 (fun y0 y1 y2 y3 y4 y5 => k (.exit 2) ⟨fillS 114 [1, 3] [(.ptr [1, 0] 0 0), (.ptr [1, 1] 0 0)], [([1, 0], ⟨40, 5, (.mix [(.agg [(.bv 1 69 Ty15 y0), (.bv 2 2 (.int .i64) y1), (.bv 3 72 Ty18 y2), (.bv 4 124 Ty13 y3), (.d ⟨(.int .i64), y4⟩)])])⟩), ([1, 1], ⟨66, 1, (.data Ty4 [y5])⟩)], 2⟩)
theorem Y48.step (S : T_Y48) (F0 : T_Y44) : ∀ v k, exR 9 Tryz.f9 2 Y48.p [⟨Y44.p, Y44.g F0⟩] [] [] (Y48.g S) v k = Y48.g (Y48.body S F0) v k := fun v k => by kernel_rfl
theorem Y48.ok : okL 9 Tryz.f9 1 2 Y48.p (Y48.g (Y48 ROUNDS)) := loop2 (G := fun n => Y48.g (Y48 n)) (fun n => Y48.step (Y48 n) Y44) (.cons Y44.ok .nil) [] (by kernel_rfl) .nil (fun _ _ => rfl)
abbrev T_Y49 : Type := Tc10 → Int → Int → Tc8 → (List Int) → Tc10 → Tc9 → Int → ((List Int) × Unit) → (Tc8 → (List Int) → Tc10 → Tc9 → Int → ((List Int) × Unit) → OB) → OB
noncomputable def Y49.body (Y49 : T_Y49) (Y46 : T_Y46) : T_Y49 := fun t0 n1 n2 t3 n4 t5 t6 n7 t8 k1 =>
  (cond_ (decide (n2 < n1)) (cond_ ((decide (0 ≤ n2)) && (decide (n2 < (length t0 : Int)))) (Y46 1 [(getD t0 (toNat n2) ZFn).1, (getD t0 (toNat n2) ZFn).2.1] t8
 (fun t9 => (Y46 2 [(getD t0 (toNat n2) ZFn).2.2.1, (getD t0 (toNat n2) ZFn).2.2.2.1, (getD t0 (toNat n2) ZFn).2.2.2.2.1, (getD t0 (toNat n2) ZFn).2.2.2.2.2.1] t9
 (fun ta => (Y49 t0 n1 (IntKind.wrap .i64 (n2 + 1)) t3 n4 t5 t6 n7 ta k1))))) none) (k1 t3 n4 t5 t6 n7 t8))
noncomputable def Y49 : Nat → T_Y49
  | 0 => fun _ _ _ _ _ _ _ _ _ _ => none
  | n + 1 => Y49.body (Y49 n) Y46
def Y49.p : LPat := lp 2 114 [1, 3, 81, 82, 83] (ps (pq [1, 0] 0 0) (ps (pq [1, 1] 0 0) (pl (pb 3 72 Ty18) (pl (pd (.int .i64)) (pl (pd (.int .i64)) pz))))) (pl (po [1, 0] 40 5 (em (pl (pa (pl (pb 1 69 Ty15) (pl (pb 2 2 (.int .i64)) (pl (pb 3 72 Ty18) (pl (pb 4 124 Ty13) (pl (pd (.int .i64)) pz)))))) pz))) (pl (po [1, 1] 66 1 (es Ty4 (pl eh pz))) pz))
def Y49.g (F : T_Y49) (v : Y49.p.T) (k : KE) : OB := F v.1.1 v.1.2.1 v.1.2.2.1 v.2.1.1.1 v.2.1.1.2.1 v.2.1.1.2.2.1 v.2.1.1.2.2.2.1 v.2.1.1.2.2.2.2.1 v.2.2.1.1 (fun y0 y1 y2 y3 y4 y5 => k (.exit 4) ⟨fillS 114 [1, 3] [(.ptr [1, 0] 0 0), (.ptr [1, 1] 0 0)], [([1, 0], ⟨40, 5, (.mix [(.agg [(.bv 1 69 Ty15 y0), (.bv 2 2 (.int .i64) y1), (.bv 3 72 Ty18 y2), (.bv 4 124 Ty13 y3), (.d ⟨(.int .i64), y4⟩)])])⟩), ([1, 1], ⟨66, 1, (.data Ty4 [y5])⟩)], 2⟩)
theorem Y49.step (S : T_Y49) (F0 : T_Y46) : ∀ v k, exR 9 Tryz.f9 4 Y49.p [⟨Y46.p, Y46.g F0⟩] [] [] (Y49.g S) v k = Y49.g (Y49.body S F0) v k := fun v k => by kernel_rfl
theorem Y49.ok : okL 9 Tryz.f9 2 4 Y49.p (Y49.g (Y49 ROUNDS)) := loop2 (G := fun n => Y49.g (Y49 n)) (fun n => Y49.step (Y49 n) Y46) (.cons Y46.ok .nil) [] (by kernel_rfl) .nil (fun _ _ => rfl)
abbrev T_Y4a : Type := (List Int) → Int → Int → ((List Int) → OB) → OB
noncomputable def Y4a.body : T_Y4a := fun n0 n1 n2 k1 =>
  (cond_ (Nat.ble (((0 : Nat) + (length n0)) * (1 : Nat)) (140737488355328 : Nat)) (cond_ (! (decide (n2 < 1))) (cond_ (decide (n2 > 8)) (k1 ([] ++ n0)) (cond_ (((decide (0 ≤ (IntKind.wrap .i64 (8 - n2)))) && (decide ((IntKind.wrap .i64 (8 - n2)) ≤ 8))) && true) (cond_ (Nat.ble (((length ([] ++ n0)) + (length (List.take (toNat (8 - (IntKind.wrap .i64 (8 - n2)))) (List.drop (toNat (IntKind.wrap .i64 (8 - n2))) ((IntKind.wrap .u8 (Int.fdiv n1 72057594037927936)) :: ((IntKind.wrap .u8 (Int.fdiv n1 281474976710656)) :: ((IntKind.wrap .u8 (Int.fdiv n1 1099511627776)) :: ((IntKind.wrap .u8 (Int.fdiv n1 4294967296)) :: ((IntKind.wrap .u8 (Int.fdiv n1 16777216)) :: ((IntKind.wrap .u8 (Int.fdiv n1 65536)) :: ((IntKind.wrap .u8 (Int.fdiv n1 256)) :: ((IntKind.wrap .u8 (Int.fdiv n1 1)) :: [])))))))))))) * (1 : Nat)) (140737488355328 : Nat)) (k1 (([] ++ n0) ++ (List.take (toNat (8 - (IntKind.wrap .i64 (8 - n2)))) (List.drop (toNat (IntKind.wrap .i64 (8 - n2))) ((IntKind.wrap .u8 (Int.fdiv n1 72057594037927936)) :: ((IntKind.wrap .u8 (Int.fdiv n1 281474976710656)) :: ((IntKind.wrap .u8 (Int.fdiv n1 1099511627776)) :: ((IntKind.wrap .u8 (Int.fdiv n1 4294967296)) :: ((IntKind.wrap .u8 (Int.fdiv n1 16777216)) :: ((IntKind.wrap .u8 (Int.fdiv n1 65536)) :: ((IntKind.wrap .u8 (Int.fdiv n1 256)) :: ((IntKind.wrap .u8 (Int.fdiv n1 1)) :: [])))))))))))) none) none)) (k1 ([] ++ n0))) none)
noncomputable def Y4a : T_Y4a := Y4a.body
def Y4a.p : FPat := fp 25 (pl (pb 1 5 (.int .u8)) (pl (pd (.int .i64)) (pl (pd (.int .i64)) pz))) pz
def Y4a.g (F : T_Y4a) (v : Y4a.p.T) (k : KR) : OB := F v.1.1 v.1.2.1 v.1.2.2.1 (fun y0 => k (.ref [1, 0]) [([1, 0], ⟨5, 1, (.data (.int .u8) y0)⟩)])
theorem Y4a.eq : ∀ v k, exF Tryz.f25 Y4a.p [] [0] [] v k = Y4a.g (Y4a.body) v k := fun v k => by kernel_rfl
theorem Y4a.ok : okF 1 Y4a.p (Y4a.g Y4a) := fn2 (Y4a.eq) Tryz.func25 (by kernel_rfl) .nil [] (by kernel_rfl) .nil
end Go.Proofs.YthlclmhicgefpaaGreat.s
