/- What the functions come to that P reaches, as plain functions; written by a program of this work, each told by Lean. -/
import Derived.Test.YtcbginlfeefpoaaA3
import Derived.Test.YtcbginlfeefpoaaChecked
namespace Go.Proofs.Ytcbginlfeefpoaa.p
open Go.AX
set_option linter.unusedVariables false
set_option maxRecDepth 100000
set_option maxHeartbeats 4000000
def ht : Hints := hintsOf [(4, [(0, ⟨[0, 1, 7, 8, 10, 11, 12], []⟩), (2, ⟨[0, 7, 8, 10, 11, 13], []⟩), (4, ⟨[0, 7, 8, 10, 11, 13, 14, 15], []⟩), (2000000, ⟨[6], []⟩), (1000000, ⟨[0, 7, 8, 10, 11], []⟩), (1000004, ⟨[0, 7, 8, 10, 11, 13], []⟩), (1000003, ⟨[0, 7, 8, 10, 11, 13], []⟩), (1000002, ⟨[0, 7], []⟩)]),
  (14, [(0, ⟨[0, 5, 8, 9, 10], [(.virt 5 3 1)]⟩), (2000000, ⟨[4], []⟩), (1000000, ⟨[0, 5], []⟩)]),
  (15, [(0, ⟨[0, 1, 5, 6], [(.virt 5 3 1)]⟩), (2000000, ⟨[4], []⟩), (1000000, ⟨[0, 5], []⟩)]),
  (11, [(0, ⟨[0, 1, 5], []⟩), (2000000, ⟨[4], []⟩), (1000000, ⟨[], []⟩)]),
  (24, [(0, ⟨[0, 1, 5, 6], []⟩), (2, ⟨[0, 5, 7], []⟩), (4, ⟨[0, 5, 7, 8], []⟩), (6, ⟨[0, 5, 7, 8, 9], []⟩), (2000000, ⟨[4], []⟩), (1000000, ⟨[0, 5], []⟩), (1000006, ⟨[0, 5, 7, 8], []⟩), (1000005, ⟨[0, 5, 7, 8], []⟩), (1000004, ⟨[0, 5, 7], []⟩), (1000003, ⟨[0, 5, 7], []⟩), (1000002, ⟨[5], []⟩)]),
  (25, [(0, ⟨[0, 3, 4], [(.virt 3 23 1)]⟩), (2000000, ⟨[2], []⟩), (1000000, ⟨[3], []⟩)]),
  (23, [(0, ⟨[0, 5, 6, 10, 14, 15, 16, 57], [(.virtP 6 0 3 1)]⟩), (2, ⟨[0, 5, 6, 10, 57], [(.trimP 6 0)]⟩), (2000000, ⟨[4], []⟩), (1000000, ⟨[0, 5, 6, 10, 57], []⟩), (1000004, ⟨[0, 5, 6, 10, 57], []⟩), (1000003, ⟨[0, 5, 6, 10, 57], []⟩), (1000002, ⟨[5], []⟩)]),
  (43, [(0, ⟨[0, 1, 9, 10, 11], [(.trimP 700000 0)]⟩), (2000000, ⟨[], []⟩), (1000000, ⟨[], []⟩)]),
  (10, [(0, ⟨[0, 3], []⟩), (2, ⟨[0, 3, 4, 5], []⟩), (2000000, ⟨[2], []⟩), (1000002, ⟨[0, 3], []⟩), (1000001, ⟨[0, 3], []⟩), (1000000, ⟨[], []⟩)]),
  (9, [(1, ⟨[1, 14, 15, 16], []⟩), (2000000, ⟨[2], []⟩), (1000001, ⟨[], []⟩)]),
  (29, [(0, ⟨[0, 1, 7, 8], []⟩), (2000000, ⟨[4], []⟩), (1000000, ⟨[], []⟩)]),
  (20, [(0, ⟨[0, 3, 6, 7], [(.virt 3 23 1)]⟩), (2000000, ⟨[2], []⟩), (1000000, ⟨[3], []⟩)]),
  (6, [(0, ⟨[0, 1, 5], []⟩), (2000000, ⟨[4], []⟩), (1000000, ⟨[], []⟩)]),
  (7, [(2000000, ⟨[4], [(.trim 4)]⟩)]),
  (18, [(0, ⟨[0, 3], []⟩), (2, ⟨[0, 3, 4, 5], []⟩), (2000000, ⟨[2], []⟩), (1000002, ⟨[0, 3], []⟩), (1000001, ⟨[0, 3], []⟩), (1000000, ⟨[0], []⟩)]),
  (26, [(0, ⟨[0, 1, 2, 3, 8, 9], []⟩), (2000000, ⟨[], []⟩), (1000000, ⟨[], []⟩)]),
  (31, [(0, ⟨[0, 1, 2, 6], []⟩), (2, ⟨[0, 1, 2, 6, 7], []⟩), (2000000, ⟨[], []⟩), (1000002, ⟨[0, 1, 2, 6], []⟩), (1000001, ⟨[0, 1, 2, 6], []⟩), (1000000, ⟨[], []⟩)])]
abbrev okF := FnOk Try.prog ht
abbrev okL := LoopOk Try.prog ht
noncomputable abbrev exF := execF Try.prog ht
noncomputable abbrev exR := execR Try.prog ht
noncomputable abbrev exB := execB Try.prog ht
abbrev Tc0 : Type := Int × Int × Int × Int × Int × Unit
abbrev Tc1 : Type := List Tc0
abbrev Ty0 : Ty := (.sl 3 (.int .i64))
abbrev Ty1 : Ty := (.st [(.int .i64), (.int .i64), (.int .i64), (.int .i64), (.int .i64)])
abbrev Ty2 : Ty := (.sl 35 Ty1)
/-- function 5: sheerleg/sheerleglaw14.known, all of it at once -/
abbrev T_law14_known : Type := (Bool → Option Bool) → Option Bool
def law14_known : T_law14_known := fun k1 => k1 true
def law14_known.p : FPat := fp 5 pz pz
def law14_known.g (F : T_law14_known) (v : law14_known.p.T) (k : KR) : Option Bool := F (fun y => k (.d ⟨.bool, y⟩) [])
set_option maxRecDepth 100000 in
theorem law14_known.all (k : KR) : callK Try.prog ht 60 5 [] [] k = k (.d ⟨.bool, true⟩) [] := by kernel_rfl
theorem law14_known.ok : okF 60 law14_known.p (law14_known.g law14_known) := all2 fun _ k => law14_known.all k
/-- function 41: math/bits.Len64 -/
abbrev T_math_bits_Len64 : Type := Int → (Int → Option Bool) → Option Bool
noncomputable def math_bits_Len64.body : T_math_bits_Len64 := fun n8 k1 =>
  (cond_ (decide (n8 ≥ (4294967296 : Int))) (cond_ (decide ((Int.fdiv n8 (4294967296 : Int)) ≥ (65536 : Int))) (cond_ (decide ((Int.fdiv (Int.fdiv n8 (4294967296 : Int)) (65536 : Int)) ≥ (256 : Int))) (cond_ ((decide ((0 : Int) ≤ (IntKind.wrap .u8 (Int.fdiv (Int.fdiv (Int.fdiv n8 (4294967296 : Int)) (65536 : Int)) (256 : Int))))) && (decide ((IntKind.wrap .u8 (Int.fdiv (Int.fdiv (Int.fdiv n8 (4294967296 : Int)) (65536 : Int)) (256 : Int))) < (256 : Int)))) (k1 (IntKind.wrap .i64 ((56 : Int) + (IntKind.wrap .i64 (((UInt8.toNat (List.getD (Array.toList (ByteArray.data (⟨#[0, 1, 2, 2, 3, 3, 3, 3, 4, 4, 4, 4, 4, 4, 4, 4, 5, 5, 5, 5, 5, 5, 5, 5, 5, 5, 5, 5, 5, 5, 5, 5, 6, 6, 6, 6, 6, 6, 6, 6, 6, 6, 6, 6, 6, 6, 6, 6, 6, 6, 6, 6, 6, 6, 6, 6, 6, 6, 6, 6, 6, 6, 6, 6, 7, 7, 7, 7, 7, 7, 7, 7, 7, 7, 7, 7, 7, 7, 7, 7, 7, 7, 7, 7, 7, 7, 7, 7, 7, 7, 7, 7, 7, 7, 7, 7, 7, 7, 7, 7, 7, 7, 7, 7, 7, 7, 7, 7, 7, 7, 7, 7, 7, 7, 7, 7, 7, 7, 7, 7, 7, 7, 7, 7, 7, 7, 7, 7, 8, 8, 8, 8, 8, 8, 8, 8, 8, 8, 8, 8, 8, 8, 8, 8, 8, 8, 8, 8, 8, 8, 8, 8, 8, 8, 8, 8, 8, 8, 8, 8, 8, 8, 8, 8, 8, 8, 8, 8, 8, 8, 8, 8, 8, 8, 8, 8, 8, 8, 8, 8, 8, 8, 8, 8, 8, 8, 8, 8, 8, 8, 8, 8, 8, 8, 8, 8, 8, 8, 8, 8, 8, 8, 8, 8, 8, 8, 8, 8, 8, 8, 8, 8, 8, 8, 8, 8, 8, 8, 8, 8, 8, 8, 8, 8, 8, 8, 8, 8, 8, 8, 8, 8, 8, 8, 8, 8, 8, 8, 8, 8, 8, 8, 8, 8, 8, 8, 8, 8, 8, 8, 8, 8, 8, 8, 8, 8]⟩ : ByteArray))) (Int.toNat (IntKind.wrap .u8 (Int.fdiv (Int.fdiv (Int.fdiv n8 (4294967296 : Int)) (65536 : Int)) (256 : Int)))) (0 : UInt8))) : Nat) : Int))))) none) (cond_ ((decide ((0 : Int) ≤ (IntKind.wrap .u8 (Int.fdiv (Int.fdiv n8 (4294967296 : Int)) (65536 : Int))))) && (decide ((IntKind.wrap .u8 (Int.fdiv (Int.fdiv n8 (4294967296 : Int)) (65536 : Int))) < (256 : Int)))) (k1 (IntKind.wrap .i64 ((48 : Int) + (IntKind.wrap .i64 (((UInt8.toNat (List.getD (Array.toList (ByteArray.data (⟨#[0, 1, 2, 2, 3, 3, 3, 3, 4, 4, 4, 4, 4, 4, 4, 4, 5, 5, 5, 5, 5, 5, 5, 5, 5, 5, 5, 5, 5, 5, 5, 5, 6, 6, 6, 6, 6, 6, 6, 6, 6, 6, 6, 6, 6, 6, 6, 6, 6, 6, 6, 6, 6, 6, 6, 6, 6, 6, 6, 6, 6, 6, 6, 6, 7, 7, 7, 7, 7, 7, 7, 7, 7, 7, 7, 7, 7, 7, 7, 7, 7, 7, 7, 7, 7, 7, 7, 7, 7, 7, 7, 7, 7, 7, 7, 7, 7, 7, 7, 7, 7, 7, 7, 7, 7, 7, 7, 7, 7, 7, 7, 7, 7, 7, 7, 7, 7, 7, 7, 7, 7, 7, 7, 7, 7, 7, 7, 7, 8, 8, 8, 8, 8, 8, 8, 8, 8, 8, 8, 8, 8, 8, 8, 8, 8, 8, 8, 8, 8, 8, 8, 8, 8, 8, 8, 8, 8, 8, 8, 8, 8, 8, 8, 8, 8, 8, 8, 8, 8, 8, 8, 8, 8, 8, 8, 8, 8, 8, 8, 8, 8, 8, 8, 8, 8, 8, 8, 8, 8, 8, 8, 8, 8, 8, 8, 8, 8, 8, 8, 8, 8, 8, 8, 8, 8, 8, 8, 8, 8, 8, 8, 8, 8, 8, 8, 8, 8, 8, 8, 8, 8, 8, 8, 8, 8, 8, 8, 8, 8, 8, 8, 8, 8, 8, 8, 8, 8, 8, 8, 8, 8, 8, 8, 8, 8, 8, 8, 8, 8, 8, 8, 8, 8, 8, 8, 8]⟩ : ByteArray))) (Int.toNat (IntKind.wrap .u8 (Int.fdiv (Int.fdiv n8 (4294967296 : Int)) (65536 : Int)))) (0 : UInt8))) : Nat) : Int))))) none)) (cond_ (decide ((Int.fdiv n8 (4294967296 : Int)) ≥ (256 : Int))) (cond_ ((decide ((0 : Int) ≤ (IntKind.wrap .u8 (Int.fdiv (Int.fdiv n8 (4294967296 : Int)) (256 : Int))))) && (decide ((IntKind.wrap .u8 (Int.fdiv (Int.fdiv n8 (4294967296 : Int)) (256 : Int))) < (256 : Int)))) (k1 (IntKind.wrap .i64 ((40 : Int) + (IntKind.wrap .i64 (((UInt8.toNat (List.getD (Array.toList (ByteArray.data (⟨#[0, 1, 2, 2, 3, 3, 3, 3, 4, 4, 4, 4, 4, 4, 4, 4, 5, 5, 5, 5, 5, 5, 5, 5, 5, 5, 5, 5, 5, 5, 5, 5, 6, 6, 6, 6, 6, 6, 6, 6, 6, 6, 6, 6, 6, 6, 6, 6, 6, 6, 6, 6, 6, 6, 6, 6, 6, 6, 6, 6, 6, 6, 6, 6, 7, 7, 7, 7, 7, 7, 7, 7, 7, 7, 7, 7, 7, 7, 7, 7, 7, 7, 7, 7, 7, 7, 7, 7, 7, 7, 7, 7, 7, 7, 7, 7, 7, 7, 7, 7, 7, 7, 7, 7, 7, 7, 7, 7, 7, 7, 7, 7, 7, 7, 7, 7, 7, 7, 7, 7, 7, 7, 7, 7, 7, 7, 7, 7, 8, 8, 8, 8, 8, 8, 8, 8, 8, 8, 8, 8, 8, 8, 8, 8, 8, 8, 8, 8, 8, 8, 8, 8, 8, 8, 8, 8, 8, 8, 8, 8, 8, 8, 8, 8, 8, 8, 8, 8, 8, 8, 8, 8, 8, 8, 8, 8, 8, 8, 8, 8, 8, 8, 8, 8, 8, 8, 8, 8, 8, 8, 8, 8, 8, 8, 8, 8, 8, 8, 8, 8, 8, 8, 8, 8, 8, 8, 8, 8, 8, 8, 8, 8, 8, 8, 8, 8, 8, 8, 8, 8, 8, 8, 8, 8, 8, 8, 8, 8, 8, 8, 8, 8, 8, 8, 8, 8, 8, 8, 8, 8, 8, 8, 8, 8, 8, 8, 8, 8, 8, 8, 8, 8, 8, 8, 8, 8]⟩ : ByteArray))) (Int.toNat (IntKind.wrap .u8 (Int.fdiv (Int.fdiv n8 (4294967296 : Int)) (256 : Int)))) (0 : UInt8))) : Nat) : Int))))) none) (cond_ ((decide ((0 : Int) ≤ (IntKind.wrap .u8 (Int.fdiv n8 (4294967296 : Int))))) && (decide ((IntKind.wrap .u8 (Int.fdiv n8 (4294967296 : Int))) < (256 : Int)))) (k1 (IntKind.wrap .i64 ((32 : Int) + (IntKind.wrap .i64 (((UInt8.toNat (List.getD (Array.toList (ByteArray.data (⟨#[0, 1, 2, 2, 3, 3, 3, 3, 4, 4, 4, 4, 4, 4, 4, 4, 5, 5, 5, 5, 5, 5, 5, 5, 5, 5, 5, 5, 5, 5, 5, 5, 6, 6, 6, 6, 6, 6, 6, 6, 6, 6, 6, 6, 6, 6, 6, 6, 6, 6, 6, 6, 6, 6, 6, 6, 6, 6, 6, 6, 6, 6, 6, 6, 7, 7, 7, 7, 7, 7, 7, 7, 7, 7, 7, 7, 7, 7, 7, 7, 7, 7, 7, 7, 7, 7, 7, 7, 7, 7, 7, 7, 7, 7, 7, 7, 7, 7, 7, 7, 7, 7, 7, 7, 7, 7, 7, 7, 7, 7, 7, 7, 7, 7, 7, 7, 7, 7, 7, 7, 7, 7, 7, 7, 7, 7, 7, 7, 8, 8, 8, 8, 8, 8, 8, 8, 8, 8, 8, 8, 8, 8, 8, 8, 8, 8, 8, 8, 8, 8, 8, 8, 8, 8, 8, 8, 8, 8, 8, 8, 8, 8, 8, 8, 8, 8, 8, 8, 8, 8, 8, 8, 8, 8, 8, 8, 8, 8, 8, 8, 8, 8, 8, 8, 8, 8, 8, 8, 8, 8, 8, 8, 8, 8, 8, 8, 8, 8, 8, 8, 8, 8, 8, 8, 8, 8, 8, 8, 8, 8, 8, 8, 8, 8, 8, 8, 8, 8, 8, 8, 8, 8, 8, 8, 8, 8, 8, 8, 8, 8, 8, 8, 8, 8, 8, 8, 8, 8, 8, 8, 8, 8, 8, 8, 8, 8, 8, 8, 8, 8, 8, 8, 8, 8, 8, 8]⟩ : ByteArray))) (Int.toNat (IntKind.wrap .u8 (Int.fdiv n8 (4294967296 : Int)))) (0 : UInt8))) : Nat) : Int))))) none))) (cond_ (decide (n8 ≥ (65536 : Int))) (cond_ (decide ((Int.fdiv n8 (65536 : Int)) ≥ (256 : Int))) (cond_ ((decide ((0 : Int) ≤ (IntKind.wrap .u8 (Int.fdiv (Int.fdiv n8 (65536 : Int)) (256 : Int))))) && (decide ((IntKind.wrap .u8 (Int.fdiv (Int.fdiv n8 (65536 : Int)) (256 : Int))) < (256 : Int)))) (k1 (IntKind.wrap .i64 ((24 : Int) + (IntKind.wrap .i64 (((UInt8.toNat (List.getD (Array.toList (ByteArray.data (⟨#[0, 1, 2, 2, 3, 3, 3, 3, 4, 4, 4, 4, 4, 4, 4, 4, 5, 5, 5, 5, 5, 5, 5, 5, 5, 5, 5, 5, 5, 5, 5, 5, 6, 6, 6, 6, 6, 6, 6, 6, 6, 6, 6, 6, 6, 6, 6, 6, 6, 6, 6, 6, 6, 6, 6, 6, 6, 6, 6, 6, 6, 6, 6, 6, 7, 7, 7, 7, 7, 7, 7, 7, 7, 7, 7, 7, 7, 7, 7, 7, 7, 7, 7, 7, 7, 7, 7, 7, 7, 7, 7, 7, 7, 7, 7, 7, 7, 7, 7, 7, 7, 7, 7, 7, 7, 7, 7, 7, 7, 7, 7, 7, 7, 7, 7, 7, 7, 7, 7, 7, 7, 7, 7, 7, 7, 7, 7, 7, 8, 8, 8, 8, 8, 8, 8, 8, 8, 8, 8, 8, 8, 8, 8, 8, 8, 8, 8, 8, 8, 8, 8, 8, 8, 8, 8, 8, 8, 8, 8, 8, 8, 8, 8, 8, 8, 8, 8, 8, 8, 8, 8, 8, 8, 8, 8, 8, 8, 8, 8, 8, 8, 8, 8, 8, 8, 8, 8, 8, 8, 8, 8, 8, 8, 8, 8, 8, 8, 8, 8, 8, 8, 8, 8, 8, 8, 8, 8, 8, 8, 8, 8, 8, 8, 8, 8, 8, 8, 8, 8, 8, 8, 8, 8, 8, 8, 8, 8, 8, 8, 8, 8, 8, 8, 8, 8, 8, 8, 8, 8, 8, 8, 8, 8, 8, 8, 8, 8, 8, 8, 8, 8, 8, 8, 8, 8, 8]⟩ : ByteArray))) (Int.toNat (IntKind.wrap .u8 (Int.fdiv (Int.fdiv n8 (65536 : Int)) (256 : Int)))) (0 : UInt8))) : Nat) : Int))))) none) (cond_ ((decide ((0 : Int) ≤ (IntKind.wrap .u8 (Int.fdiv n8 (65536 : Int))))) && (decide ((IntKind.wrap .u8 (Int.fdiv n8 (65536 : Int))) < (256 : Int)))) (k1 (IntKind.wrap .i64 ((16 : Int) + (IntKind.wrap .i64 (((UInt8.toNat (List.getD (Array.toList (ByteArray.data (⟨#[0, 1, 2, 2, 3, 3, 3, 3, 4, 4, 4, 4, 4, 4, 4, 4, 5, 5, 5, 5, 5, 5, 5, 5, 5, 5, 5, 5, 5, 5, 5, 5, 6, 6, 6, 6, 6, 6, 6, 6, 6, 6, 6, 6, 6, 6, 6, 6, 6, 6, 6, 6, 6, 6, 6, 6, 6, 6, 6, 6, 6, 6, 6, 6, 7, 7, 7, 7, 7, 7, 7, 7, 7, 7, 7, 7, 7, 7, 7, 7, 7, 7, 7, 7, 7, 7, 7, 7, 7, 7, 7, 7, 7, 7, 7, 7, 7, 7, 7, 7, 7, 7, 7, 7, 7, 7, 7, 7, 7, 7, 7, 7, 7, 7, 7, 7, 7, 7, 7, 7, 7, 7, 7, 7, 7, 7, 7, 7, 8, 8, 8, 8, 8, 8, 8, 8, 8, 8, 8, 8, 8, 8, 8, 8, 8, 8, 8, 8, 8, 8, 8, 8, 8, 8, 8, 8, 8, 8, 8, 8, 8, 8, 8, 8, 8, 8, 8, 8, 8, 8, 8, 8, 8, 8, 8, 8, 8, 8, 8, 8, 8, 8, 8, 8, 8, 8, 8, 8, 8, 8, 8, 8, 8, 8, 8, 8, 8, 8, 8, 8, 8, 8, 8, 8, 8, 8, 8, 8, 8, 8, 8, 8, 8, 8, 8, 8, 8, 8, 8, 8, 8, 8, 8, 8, 8, 8, 8, 8, 8, 8, 8, 8, 8, 8, 8, 8, 8, 8, 8, 8, 8, 8, 8, 8, 8, 8, 8, 8, 8, 8, 8, 8, 8, 8, 8, 8]⟩ : ByteArray))) (Int.toNat (IntKind.wrap .u8 (Int.fdiv n8 (65536 : Int)))) (0 : UInt8))) : Nat) : Int))))) none)) (cond_ (decide (n8 ≥ (256 : Int))) (cond_ ((decide ((0 : Int) ≤ (IntKind.wrap .u8 (Int.fdiv n8 (256 : Int))))) && (decide ((IntKind.wrap .u8 (Int.fdiv n8 (256 : Int))) < (256 : Int)))) (k1 (IntKind.wrap .i64 ((8 : Int) + (IntKind.wrap .i64 (((UInt8.toNat (List.getD (Array.toList (ByteArray.data (⟨#[0, 1, 2, 2, 3, 3, 3, 3, 4, 4, 4, 4, 4, 4, 4, 4, 5, 5, 5, 5, 5, 5, 5, 5, 5, 5, 5, 5, 5, 5, 5, 5, 6, 6, 6, 6, 6, 6, 6, 6, 6, 6, 6, 6, 6, 6, 6, 6, 6, 6, 6, 6, 6, 6, 6, 6, 6, 6, 6, 6, 6, 6, 6, 6, 7, 7, 7, 7, 7, 7, 7, 7, 7, 7, 7, 7, 7, 7, 7, 7, 7, 7, 7, 7, 7, 7, 7, 7, 7, 7, 7, 7, 7, 7, 7, 7, 7, 7, 7, 7, 7, 7, 7, 7, 7, 7, 7, 7, 7, 7, 7, 7, 7, 7, 7, 7, 7, 7, 7, 7, 7, 7, 7, 7, 7, 7, 7, 7, 8, 8, 8, 8, 8, 8, 8, 8, 8, 8, 8, 8, 8, 8, 8, 8, 8, 8, 8, 8, 8, 8, 8, 8, 8, 8, 8, 8, 8, 8, 8, 8, 8, 8, 8, 8, 8, 8, 8, 8, 8, 8, 8, 8, 8, 8, 8, 8, 8, 8, 8, 8, 8, 8, 8, 8, 8, 8, 8, 8, 8, 8, 8, 8, 8, 8, 8, 8, 8, 8, 8, 8, 8, 8, 8, 8, 8, 8, 8, 8, 8, 8, 8, 8, 8, 8, 8, 8, 8, 8, 8, 8, 8, 8, 8, 8, 8, 8, 8, 8, 8, 8, 8, 8, 8, 8, 8, 8, 8, 8, 8, 8, 8, 8, 8, 8, 8, 8, 8, 8, 8, 8, 8, 8, 8, 8, 8, 8]⟩ : ByteArray))) (Int.toNat (IntKind.wrap .u8 (Int.fdiv n8 (256 : Int)))) (0 : UInt8))) : Nat) : Int))))) none) (cond_ ((decide ((0 : Int) ≤ (IntKind.wrap .u8 n8))) && (decide ((IntKind.wrap .u8 n8) < (256 : Int)))) (k1 (IntKind.wrap .i64 ((0 : Int) + (IntKind.wrap .i64 (((UInt8.toNat (List.getD (Array.toList (ByteArray.data (⟨#[0, 1, 2, 2, 3, 3, 3, 3, 4, 4, 4, 4, 4, 4, 4, 4, 5, 5, 5, 5, 5, 5, 5, 5, 5, 5, 5, 5, 5, 5, 5, 5, 6, 6, 6, 6, 6, 6, 6, 6, 6, 6, 6, 6, 6, 6, 6, 6, 6, 6, 6, 6, 6, 6, 6, 6, 6, 6, 6, 6, 6, 6, 6, 6, 7, 7, 7, 7, 7, 7, 7, 7, 7, 7, 7, 7, 7, 7, 7, 7, 7, 7, 7, 7, 7, 7, 7, 7, 7, 7, 7, 7, 7, 7, 7, 7, 7, 7, 7, 7, 7, 7, 7, 7, 7, 7, 7, 7, 7, 7, 7, 7, 7, 7, 7, 7, 7, 7, 7, 7, 7, 7, 7, 7, 7, 7, 7, 7, 8, 8, 8, 8, 8, 8, 8, 8, 8, 8, 8, 8, 8, 8, 8, 8, 8, 8, 8, 8, 8, 8, 8, 8, 8, 8, 8, 8, 8, 8, 8, 8, 8, 8, 8, 8, 8, 8, 8, 8, 8, 8, 8, 8, 8, 8, 8, 8, 8, 8, 8, 8, 8, 8, 8, 8, 8, 8, 8, 8, 8, 8, 8, 8, 8, 8, 8, 8, 8, 8, 8, 8, 8, 8, 8, 8, 8, 8, 8, 8, 8, 8, 8, 8, 8, 8, 8, 8, 8, 8, 8, 8, 8, 8, 8, 8, 8, 8, 8, 8, 8, 8, 8, 8, 8, 8, 8, 8, 8, 8, 8, 8, 8, 8, 8, 8, 8, 8, 8, 8, 8, 8, 8, 8, 8, 8, 8, 8]⟩ : ByteArray))) (Int.toNat (IntKind.wrap .u8 n8)) (0 : UInt8))) : Nat) : Int))))) none))))
noncomputable def math_bits_Len64 : T_math_bits_Len64 := math_bits_Len64.body
def math_bits_Len64.p : FPat := fp 41 (pl (pd (.int .u64)) pz) pz
def math_bits_Len64.g (F : T_math_bits_Len64) (v : math_bits_Len64.p.T) (k : KR) : Option Bool := F v.1.1 (fun y0 => k (.d ⟨(.int .i64), y0⟩) [])
theorem math_bits_Len64.eq : ∀ v k, exF Try.f41 math_bits_Len64.p [] [] [] v k = math_bits_Len64.g (math_bits_Len64.body) v k := fun v k => by kernel_rfl
theorem math_bits_Len64.ok : okF 1 math_bits_Len64.p (math_bits_Len64.g math_bits_Len64) := fn2 (math_bits_Len64.eq) Try.func41 (by kernel_rfl) .nil [] (by kernel_rfl) .nil
/-- function 27: math/bits.Len -/
abbrev T_math_bits_Len : Type := Int → (Int → Option Bool) → Option Bool
noncomputable def math_bits_Len.body (math_bits_Len64 : T_math_bits_Len64) : T_math_bits_Len := fun n7 k1 =>
  (math_bits_Len64 n7
  (fun n9 => (k1 n9)))
noncomputable def math_bits_Len : T_math_bits_Len := math_bits_Len.body math_bits_Len64
def math_bits_Len.p : FPat := fp 27 (pl (pd (.int .u64)) pz) pz
def math_bits_Len.g (F : T_math_bits_Len) (v : math_bits_Len.p.T) (k : KR) : Option Bool := F v.1.1 (fun y0 => k (.d ⟨(.int .i64), y0⟩) [])
theorem math_bits_Len.eq (F0 : T_math_bits_Len64) : ∀ v k, exF Try.f27 math_bits_Len.p [⟨math_bits_Len64.p, math_bits_Len64.g F0⟩] [] [] v k = math_bits_Len.g (math_bits_Len.body F0) v k := fun v k => by kernel_rfl
theorem math_bits_Len.ok : okF 2 math_bits_Len.p (math_bits_Len.g math_bits_Len) := fn2 (math_bits_Len.eq math_bits_Len64) Try.func27 (by kernel_rfl) (.cons math_bits_Len64.ok .nil) [] (by kernel_rfl) .nil
/-- function 49: cmp.isNaN[int] -/
abbrev T_cmp_isNaN_int : Type := Int → (Bool → Option Bool) → Option Bool
noncomputable def cmp_isNaN_int.body : T_cmp_isNaN_int := fun n35 k1 =>
  (k1 (n35 != n35))
noncomputable def cmp_isNaN_int : T_cmp_isNaN_int := cmp_isNaN_int.body
def cmp_isNaN_int.p : FPat := fp 49 (pl (pd (.int .i64)) pz) pz
def cmp_isNaN_int.g (F : T_cmp_isNaN_int) (v : cmp_isNaN_int.p.T) (k : KR) : Option Bool := F v.1.1 (fun y0 => k (.d ⟨.bool, y0⟩) [])
theorem cmp_isNaN_int.eq : ∀ v k, exF Try.f49 cmp_isNaN_int.p [] [] [] v k = cmp_isNaN_int.g (cmp_isNaN_int.body) v k := fun v k => by kernel_rfl
theorem cmp_isNaN_int.ok : okF 1 cmp_isNaN_int.p (cmp_isNaN_int.g cmp_isNaN_int) := fn2 (cmp_isNaN_int.eq) Try.func49 (by kernel_rfl) .nil [] (by kernel_rfl) .nil
/-- function 37: cmp.Less[int] -/
abbrev T_cmp_Less_int : Type := Int → Int → (Bool → Option Bool) → Option Bool
noncomputable def cmp_Less_int.body (cmp_isNaN_int : T_cmp_isNaN_int) : T_cmp_Less_int := fun n33 n34 k1 =>
  (cmp_isNaN_int n33
  (fun b36 => (cond_ b36 (cmp_isNaN_int n34
  (fun b37 => (cond_ (! (! b37)) (k1 (decide (n33 < n34))) (k1 true)))) (k1 (decide (n33 < n34))))))
noncomputable def cmp_Less_int : T_cmp_Less_int := cmp_Less_int.body cmp_isNaN_int
def cmp_Less_int.p : FPat := fp 37 (pl (pd (.int .i64)) (pl (pd (.int .i64)) pz)) pz
def cmp_Less_int.g (F : T_cmp_Less_int) (v : cmp_Less_int.p.T) (k : KR) : Option Bool := F v.1.1 v.1.2.1 (fun y0 => k (.d ⟨.bool, y0⟩) [])
theorem cmp_Less_int.eq (F0 : T_cmp_isNaN_int) : ∀ v k, exF Try.f37 cmp_Less_int.p [⟨cmp_isNaN_int.p, cmp_isNaN_int.g F0⟩] [] [] v k = cmp_Less_int.g (cmp_Less_int.body F0) v k := fun v k => by kernel_rfl
theorem cmp_Less_int.ok : okF 2 cmp_Less_int.p (cmp_Less_int.g cmp_Less_int) := fn2 (cmp_Less_int.eq cmp_isNaN_int) Try.func37 (by kernel_rfl) (.cons cmp_isNaN_int.ok .nil) [] (by kernel_rfl) .nil
/-- function 31: the loop in block 2 -/
abbrev T_slices_insertionSortOrdered_int_L0_L2 : Type := Int → Int → Int → Int → (List Int) → (Int → Int → Int → (List Int) → Option Bool) → Option Bool
noncomputable def slices_insertionSortOrdered_int_L0_L2.body (slices_insertionSortOrdered_int_L0_L2 : T_slices_insertionSortOrdered_int_L0_L2) (cmp_Less_int : T_cmp_Less_int) : T_slices_insertionSortOrdered_int_L0_L2 := fun n28 n29 n30 n31 ns32 k1 =>
  (cond_ (decide (n31 > n28)) (cond_ ((decide ((0 : Int) ≤ n31)) && (decide (n31 < (List.length ns32 : Int)))) (cond_ ((decide ((0 : Int) ≤ (IntKind.wrap .i64 (n31 - (1 : Int))))) && (decide ((IntKind.wrap .i64 (n31 - (1 : Int))) < (List.length ns32 : Int)))) (cmp_Less_int (List.getD ns32 (Int.toNat n31) (0 : Int)) (List.getD ns32 (Int.toNat (IntKind.wrap .i64 (n31 - (1 : Int)))) (0 : Int))
  (fun b38 => (cond_ b38 (cond_ ((decide ((0 : Int) ≤ (IntKind.wrap .i64 (n31 - (1 : Int))))) && (decide ((IntKind.wrap .i64 (n31 - (1 : Int))) < (List.length ns32 : Int)))) (cond_ ((decide ((0 : Int) ≤ n31)) && (decide (n31 < (List.length ns32 : Int)))) (cond_ ((decide ((0 : Int) ≤ n31)) && (decide (n31 < (List.length ns32 : Int)))) (cond_ ((decide ((0 : Int) ≤ (IntKind.wrap .i64 (n31 - (1 : Int))))) && (decide ((IntKind.wrap .i64 (n31 - (1 : Int))) < (((List.length (List.set ns32 (Int.toNat n31) (List.getD ns32 (Int.toNat (IntKind.wrap .i64 (n31 - (1 : Int)))) (0 : Int)))) : Nat) : Int)))) (slices_insertionSortOrdered_int_L0_L2 n28 n29 n30 (IntKind.wrap .i64 (n31 - (1 : Int))) (List.set (List.set ns32 (Int.toNat n31) (List.getD ns32 (Int.toNat (IntKind.wrap .i64 (n31 - (1 : Int)))) (0 : Int))) (Int.toNat (IntKind.wrap .i64 (n31 - (1 : Int)))) (List.getD ns32 (Int.toNat n31) (0 : Int))) k1) none) none) none) none) (k1 n28 n29 n30 ns32)))) none) none) (k1 n28 n29 n30 ns32))
noncomputable def slices_insertionSortOrdered_int_L0_L2 : Nat → T_slices_insertionSortOrdered_int_L0_L2
  | 0 => fun _ _ _ _ _ _ => none
  | n + 1 => slices_insertionSortOrdered_int_L0_L2.body (slices_insertionSortOrdered_int_L0_L2 n) cmp_Less_int
def slices_insertionSortOrdered_int_L0_L2.p : LPat := lp 2 49 [0, 1, 2, 6, 7] (ps (pr [0, 0]) (pl (pd (.int .i64)) (pl (pd (.int .i64)) (pl (pd (.int .i64)) (pl (pd (.int .i64)) pz))))) (pl (po [0, 0] 3 1 (ed (.int .i64))) pz)
def slices_insertionSortOrdered_int_L0_L2.g (F : T_slices_insertionSortOrdered_int_L0_L2) (v : slices_insertionSortOrdered_int_L0_L2.p.T) (k : KE) : Option Bool := F v.1.1 v.1.2.1 v.1.2.2.1 v.1.2.2.2.1 v.2.1 (fun y0 y1 y2 y3 => k (.exit 2) ⟨fillS 49 [0, 1, 2, 6] [(.ref [0, 0]), (.d ⟨(.int .i64), y0⟩), (.d ⟨(.int .i64), y1⟩), (.d ⟨(.int .i64), y2⟩)], [([0, 0], ⟨3, 1, (.data (.int .i64) y3)⟩)], 2⟩)
theorem slices_insertionSortOrdered_int_L0_L2.step (S : T_slices_insertionSortOrdered_int_L0_L2) (F0 : T_cmp_Less_int) : ∀ v k, exR 31 Try.f31 2 slices_insertionSortOrdered_int_L0_L2.p [⟨cmp_Less_int.p, cmp_Less_int.g F0⟩] [] [] (slices_insertionSortOrdered_int_L0_L2.g S) v k = slices_insertionSortOrdered_int_L0_L2.g (slices_insertionSortOrdered_int_L0_L2.body S F0) v k := fun v k => by kernel_rfl
theorem slices_insertionSortOrdered_int_L0_L2.ok : okL 31 Try.f31 2 2 slices_insertionSortOrdered_int_L0_L2.p (slices_insertionSortOrdered_int_L0_L2.g (slices_insertionSortOrdered_int_L0_L2 ROUNDS)) := loop2 (G := fun n => slices_insertionSortOrdered_int_L0_L2.g (slices_insertionSortOrdered_int_L0_L2 n)) (fun n => slices_insertionSortOrdered_int_L0_L2.step (slices_insertionSortOrdered_int_L0_L2 n) cmp_Less_int) (.cons cmp_Less_int.ok .nil) [] (by kernel_rfl) .nil (fun _ _ => rfl)
/-- function 31: the loop in block 0 -/
abbrev T_slices_insertionSortOrdered_int_L0 : Type := Int → Int → Int → (List Int) → ((List Int) → Option Bool) → Option Bool
noncomputable def slices_insertionSortOrdered_int_L0.body (slices_insertionSortOrdered_int_L0 : T_slices_insertionSortOrdered_int_L0) (slices_insertionSortOrdered_int_L0_L2 : T_slices_insertionSortOrdered_int_L0_L2) : T_slices_insertionSortOrdered_int_L0 := fun n24 n25 n26 ns27 k1 =>
  (cond_ (decide (n26 < n25)) (slices_insertionSortOrdered_int_L0_L2 n24 n25 n26 n26 ns27
  (fun n39 n40 n41 ns42 => (slices_insertionSortOrdered_int_L0 n39 n40 (IntKind.wrap .i64 (n41 + (1 : Int))) ns42 k1))) (k1 ns27))
noncomputable def slices_insertionSortOrdered_int_L0 : Nat → T_slices_insertionSortOrdered_int_L0
  | 0 => fun _ _ _ _ _ => none
  | n + 1 => slices_insertionSortOrdered_int_L0.body (slices_insertionSortOrdered_int_L0 n) (slices_insertionSortOrdered_int_L0_L2 ROUNDS)
def slices_insertionSortOrdered_int_L0.p : LPat := lp 2 49 [0, 1, 2, 6] (ps (pr [0, 0]) (pl (pd (.int .i64)) (pl (pd (.int .i64)) (pl (pd (.int .i64)) pz)))) (pl (po [0, 0] 3 1 (ed (.int .i64))) pz)
def slices_insertionSortOrdered_int_L0.g (F : T_slices_insertionSortOrdered_int_L0) (v : slices_insertionSortOrdered_int_L0.p.T) (k : KE) : Option Bool := F v.1.1 v.1.2.1 v.1.2.2.1 v.2.1 (fun y0 => k (.exit 0) ⟨fillS 49 [] [], [([0, 0], ⟨3, 1, (.data (.int .i64) y0)⟩)], 2⟩)
theorem slices_insertionSortOrdered_int_L0.step (S : T_slices_insertionSortOrdered_int_L0) (L0 : T_slices_insertionSortOrdered_int_L0_L2) : ∀ v k, exR 31 Try.f31 0 slices_insertionSortOrdered_int_L0.p [] [] [⟨2, slices_insertionSortOrdered_int_L0_L2.p, slices_insertionSortOrdered_int_L0_L2.g L0⟩] (slices_insertionSortOrdered_int_L0.g S) v k = slices_insertionSortOrdered_int_L0.g (slices_insertionSortOrdered_int_L0.body S L0) v k := fun v k => by kernel_rfl
theorem slices_insertionSortOrdered_int_L0.ok : okL 31 Try.f31 2 0 slices_insertionSortOrdered_int_L0.p (slices_insertionSortOrdered_int_L0.g (slices_insertionSortOrdered_int_L0 ROUNDS)) := loop2 (G := fun n => slices_insertionSortOrdered_int_L0.g (slices_insertionSortOrdered_int_L0 n)) (fun n => slices_insertionSortOrdered_int_L0.step (slices_insertionSortOrdered_int_L0 n) (slices_insertionSortOrdered_int_L0_L2 ROUNDS)) .nil [2] (by kernel_rfl) (.cons slices_insertionSortOrdered_int_L0_L2.ok .nil) (fun _ _ => rfl)
/-- function 31: slices.insertionSortOrdered[int] -/
abbrev T_slices_insertionSortOrdered_int : Type := Int → Int → (List Int) → ((List Int) → Option Bool) → Option Bool
noncomputable def slices_insertionSortOrdered_int.body (slices_insertionSortOrdered_int_L0 : T_slices_insertionSortOrdered_int_L0) : T_slices_insertionSortOrdered_int := fun n21 n22 ns23 k1 =>
  (slices_insertionSortOrdered_int_L0 n21 n22 (IntKind.wrap .i64 (n21 + (1 : Int))) ns23
  (fun ns43 => (k1 ns43)))
noncomputable def slices_insertionSortOrdered_int : T_slices_insertionSortOrdered_int := slices_insertionSortOrdered_int.body (slices_insertionSortOrdered_int_L0 ROUNDS)
def slices_insertionSortOrdered_int.p : FPat := fp 31 (ps (pr [0, 0]) (pl (pd (.int .i64)) (pl (pd (.int .i64)) pz))) (pl (po [0, 0] 3 1 (ed (.int .i64))) pz)
def slices_insertionSortOrdered_int.g (F : T_slices_insertionSortOrdered_int) (v : slices_insertionSortOrdered_int.p.T) (k : KR) : Option Bool := F v.1.1 v.1.2.1 v.2.1 (fun y0 => k (.tup []) [([0, 0], ⟨3, 1, (.data (.int .i64) y0)⟩)])
theorem slices_insertionSortOrdered_int.eq (L0 : T_slices_insertionSortOrdered_int_L0) : ∀ v k, exF Try.f31 slices_insertionSortOrdered_int.p [] [] [⟨0, slices_insertionSortOrdered_int_L0.p, slices_insertionSortOrdered_int_L0.g L0⟩] v k = slices_insertionSortOrdered_int.g (slices_insertionSortOrdered_int.body L0) v k := fun v k => by kernel_rfl
theorem slices_insertionSortOrdered_int.ok : okF 3 slices_insertionSortOrdered_int.p (slices_insertionSortOrdered_int.g slices_insertionSortOrdered_int) := fn2 (slices_insertionSortOrdered_int.eq (slices_insertionSortOrdered_int_L0 ROUNDS)) Try.func31 (by kernel_rfl) .nil [0] (by kernel_rfl) (.cons slices_insertionSortOrdered_int_L0.ok .nil)
/-- function 26: the loop in block 0 -/
abbrev T_slices_pdqsortOrdered_int_L0 : Type := Int → Int → Int → Bool → Bool → (List Int) → ((List Int) → Option Bool) → Option Bool
noncomputable def slices_pdqsortOrdered_int_L0.body (slices_pdqsortOrdered_int_L0 : T_slices_pdqsortOrdered_int_L0) (slices_insertionSortOrdered_int : T_slices_insertionSortOrdered_int) : T_slices_pdqsortOrdered_int_L0 := fun n15 n16 n17 b18 b19 ns20 k1 =>
  (cond_ (decide ((IntKind.wrap .i64 (n16 - n15)) ≤ (12 : Int))) (slices_insertionSortOrdered_int n15 n16 ns20
  (fun ns44 => (k1 ns44))) (cond_ (n17 == (0 : Int)) none (cond_ (! b18) none none)))
noncomputable def slices_pdqsortOrdered_int_L0 : Nat → T_slices_pdqsortOrdered_int_L0
  | 0 => fun _ _ _ _ _ _ _ => none
  | n + 1 => slices_pdqsortOrdered_int_L0.body (slices_pdqsortOrdered_int_L0 n) slices_insertionSortOrdered_int
def slices_pdqsortOrdered_int_L0.p : LPat := lp 2 134 [0, 1, 2, 3, 8, 9] (ps (pr [0, 0]) (pl (pd (.int .i64)) (pl (pd (.int .i64)) (pl (pd (.int .i64)) (pl (pd .bool) (pl (pd .bool) pz)))))) (pl (po [0, 0] 3 1 (ed (.int .i64))) pz)
def slices_pdqsortOrdered_int_L0.g (F : T_slices_pdqsortOrdered_int_L0) (v : slices_pdqsortOrdered_int_L0.p.T) (k : KE) : Option Bool := F v.1.1 v.1.2.1 v.1.2.2.1 v.1.2.2.2.1 v.1.2.2.2.2.1 v.2.1 (fun y0 => k .ret ⟨fillS 134 [] [], [([0, 0], ⟨3, 1, (.data (.int .i64) y0)⟩)], 2⟩)
theorem slices_pdqsortOrdered_int_L0.step (S : T_slices_pdqsortOrdered_int_L0) (F0 : T_slices_insertionSortOrdered_int) : ∀ v k, exR 26 Try.f26 0 slices_pdqsortOrdered_int_L0.p [⟨slices_insertionSortOrdered_int.p, slices_insertionSortOrdered_int.g F0⟩] [] [] (slices_pdqsortOrdered_int_L0.g S) v k = slices_pdqsortOrdered_int_L0.g (slices_pdqsortOrdered_int_L0.body S F0) v k := fun v k => by kernel_rfl
theorem slices_pdqsortOrdered_int_L0.ok : okL 26 Try.f26 3 0 slices_pdqsortOrdered_int_L0.p (slices_pdqsortOrdered_int_L0.g (slices_pdqsortOrdered_int_L0 ROUNDS)) := loop2 (G := fun n => slices_pdqsortOrdered_int_L0.g (slices_pdqsortOrdered_int_L0 n)) (fun n => slices_pdqsortOrdered_int_L0.step (slices_pdqsortOrdered_int_L0 n) slices_insertionSortOrdered_int) (.cons slices_insertionSortOrdered_int.ok .nil) [] (by kernel_rfl) .nil (fun _ _ => rfl)
/-- function 26: slices.pdqsortOrdered[int] -/
abbrev T_slices_pdqsortOrdered_int : Type := Int → Int → Int → (List Int) → ((List Int) → Option Bool) → Option Bool
noncomputable def slices_pdqsortOrdered_int.body (slices_pdqsortOrdered_int_L0 : T_slices_pdqsortOrdered_int_L0) : T_slices_pdqsortOrdered_int := fun n11 n12 n13 ns14 k1 =>
  (slices_pdqsortOrdered_int_L0 n11 n12 n13 true true ns14
  (fun ns45 => (k1 ns45)))
noncomputable def slices_pdqsortOrdered_int : T_slices_pdqsortOrdered_int := slices_pdqsortOrdered_int.body (slices_pdqsortOrdered_int_L0 ROUNDS)
def slices_pdqsortOrdered_int.p : FPat := fp 26 (ps (pr [0, 0]) (pl (pd (.int .i64)) (pl (pd (.int .i64)) (pl (pd (.int .i64)) pz)))) (pl (po [0, 0] 3 1 (ed (.int .i64))) pz)
def slices_pdqsortOrdered_int.g (F : T_slices_pdqsortOrdered_int) (v : slices_pdqsortOrdered_int.p.T) (k : KR) : Option Bool := F v.1.1 v.1.2.1 v.1.2.2.1 v.2.1 (fun y0 => k (.tup []) [([0, 0], ⟨3, 1, (.data (.int .i64) y0)⟩)])
theorem slices_pdqsortOrdered_int.eq (L0 : T_slices_pdqsortOrdered_int_L0) : ∀ v k, exF Try.f26 slices_pdqsortOrdered_int.p [] [] [⟨0, slices_pdqsortOrdered_int_L0.p, slices_pdqsortOrdered_int_L0.g L0⟩] v k = slices_pdqsortOrdered_int.g (slices_pdqsortOrdered_int.body L0) v k := fun v k => by kernel_rfl
theorem slices_pdqsortOrdered_int.ok : okF 4 slices_pdqsortOrdered_int.p (slices_pdqsortOrdered_int.g slices_pdqsortOrdered_int) := fn2 (slices_pdqsortOrdered_int.eq (slices_pdqsortOrdered_int_L0 ROUNDS)) Try.func26 (by kernel_rfl) .nil [0] (by kernel_rfl) (.cons slices_pdqsortOrdered_int_L0.ok .nil)
/-- function 17: slices.Sort[[]int,int] -/
abbrev T_slices_Sort_int_int : Type := (List Int) → ((List Int) → Option Bool) → Option Bool
noncomputable def slices_Sort_int_int.body (math_bits_Len : T_math_bits_Len) (slices_pdqsortOrdered_int : T_slices_pdqsortOrdered_int) : T_slices_Sort_int_int := fun ns6 k1 =>
  (math_bits_Len (IntKind.wrap .u64 (List.length ns6 : Int))
  (fun n10 => (slices_pdqsortOrdered_int (0 : Int) (List.length ns6 : Int) n10 ns6
  (fun ns46 => (k1 ns46)))))
noncomputable def slices_Sort_int_int : T_slices_Sort_int_int := slices_Sort_int_int.body math_bits_Len slices_pdqsortOrdered_int
def slices_Sort_int_int.p : FPat := fp 17 (ps (pr [0, 0]) pz) (pl (po [0, 0] 3 1 (ed (.int .i64))) pz)
def slices_Sort_int_int.g (F : T_slices_Sort_int_int) (v : slices_Sort_int_int.p.T) (k : KR) : Option Bool := F v.2.1 (fun y0 => k (.tup []) [([0, 0], ⟨3, 1, (.data (.int .i64) y0)⟩)])
theorem slices_Sort_int_int.eq (F0 : T_math_bits_Len) (F1 : T_slices_pdqsortOrdered_int) : ∀ v k, exF Try.f17 slices_Sort_int_int.p [⟨math_bits_Len.p, math_bits_Len.g F0⟩, ⟨slices_pdqsortOrdered_int.p, slices_pdqsortOrdered_int.g F1⟩] [] [] v k = slices_Sort_int_int.g (slices_Sort_int_int.body F0 F1) v k := fun v k => by kernel_rfl
theorem slices_Sort_int_int.ok : okF 5 slices_Sort_int_int.p (slices_Sort_int_int.g slices_Sort_int_int) := fn2 (slices_Sort_int_int.eq math_bits_Len slices_pdqsortOrdered_int) Try.func17 (by kernel_rfl) (.cons math_bits_Len.ok (.cons slices_pdqsortOrdered_int.ok .nil)) [] (by kernel_rfl) .nil
/-- function 18: the loop in block 2 -/
abbrev T_slices_Compact_int_int_L0_L2 : Type := Int → Nat → Nat → Int → (List Int) → (Int → (List Int) → Option Bool) → Option Bool
noncomputable def slices_Compact_int_int_L0_L2.body (slices_Compact_int_int_L0_L2 : T_slices_Compact_int_int_L0_L2) : T_slices_Compact_int_int_L0_L2 := fun n51 m52 m53 n54 ns55 k1 =>
  (cond_ (decide (n54 < ((m53 : Nat) : Int))) (cond_ ((decide ((0 : Int) ≤ n54)) && (decide (n54 < ((m53 : Nat) : Int)))) (cond_ ((decide ((0 : Int) ≤ (IntKind.wrap .i64 (n54 - (1 : Int))))) && (decide ((IntKind.wrap .i64 (n54 - (1 : Int))) < ((m53 : Nat) : Int)))) (cond_ ((List.getD ns55 (m52 + (Int.toNat n54)) (0 : Int)) != (List.getD ns55 (m52 + (Int.toNat (IntKind.wrap .i64 (n54 - (1 : Int))))) (0 : Int))) (cond_ ((decide ((0 : Int) ≤ n54)) && (decide (n54 < ((m53 : Nat) : Int)))) (cond_ ((decide ((0 : Int) ≤ n51)) && (decide (n51 < (List.length ns55 : Int)))) (slices_Compact_int_int_L0_L2 (IntKind.wrap .i64 (n51 + (1 : Int))) m52 m53 (IntKind.wrap .i64 (n54 + (1 : Int))) (List.set ns55 (Int.toNat n51) (List.getD ns55 (m52 + (Int.toNat n54)) (0 : Int))) k1) none) none) (slices_Compact_int_int_L0_L2 n51 m52 m53 (IntKind.wrap .i64 (n54 + (1 : Int))) ns55 k1)) none) none) (k1 n51 ns55))
noncomputable def slices_Compact_int_int_L0_L2 : Nat → T_slices_Compact_int_int_L0_L2
  | 0 => fun _ _ _ _ _ _ => none
  | n + 1 => slices_Compact_int_int_L0_L2.body (slices_Compact_int_int_L0_L2 n)
def slices_Compact_int_int_L0_L2.p : LPat := lp 2 61 [0, 3, 4, 5] (ps (pr [0, 0]) (pl (pd (.int .i64)) (pl (pc [0, 0] nv nv) (pl (pd (.int .i64)) pz)))) (pl (po [0, 0] 3 1 (ed (.int .i64))) pz)
def slices_Compact_int_int_L0_L2.g (F : T_slices_Compact_int_int_L0_L2) (v : slices_Compact_int_int_L0_L2.p.T) (k : KE) : Option Bool := F v.1.1 v.1.2.1.1 v.1.2.1.2 v.1.2.2.1 v.2.1 (fun y0 y1 => k (.exit 2) ⟨fillS 61 [0, 3] [(.ref [0, 0]), (.d ⟨(.int .i64), y0⟩)], [([0, 0], ⟨3, 1, (.data (.int .i64) y1)⟩)], 2⟩)
theorem slices_Compact_int_int_L0_L2.step (S : T_slices_Compact_int_int_L0_L2) : ∀ v k, exR 18 Try.f18 2 slices_Compact_int_int_L0_L2.p [] [] [] (slices_Compact_int_int_L0_L2.g S) v k = slices_Compact_int_int_L0_L2.g (slices_Compact_int_int_L0_L2.body S) v k := fun v k => by kernel_rfl
theorem slices_Compact_int_int_L0_L2.ok : okL 18 Try.f18 0 2 slices_Compact_int_int_L0_L2.p (slices_Compact_int_int_L0_L2.g (slices_Compact_int_int_L0_L2 ROUNDS)) := loop2 (G := fun n => slices_Compact_int_int_L0_L2.g (slices_Compact_int_int_L0_L2 n)) (fun n => slices_Compact_int_int_L0_L2.step (slices_Compact_int_int_L0_L2 n)) .nil [] (by kernel_rfl) .nil (fun _ _ => rfl)
/-- function 18: the loop in block 0 -/
abbrev T_slices_Compact_int_int_L0 : Type := Int → (List Int) → (Nat → (List Int) → Option Bool) → ((List Int) → Option Bool) → Option Bool
noncomputable def slices_Compact_int_int_L0.body (slices_Compact_int_int_L0 : T_slices_Compact_int_int_L0) (slices_Compact_int_int_L0_L2 : T_slices_Compact_int_int_L0_L2) : T_slices_Compact_int_int_L0 := fun n49 ns50 k1 k2 =>
  (cond_ (decide (n49 < (List.length ns50 : Int))) (cond_ ((decide ((0 : Int) ≤ n49)) && (decide (n49 < (List.length ns50 : Int)))) (cond_ ((decide ((0 : Int) ≤ (IntKind.wrap .i64 (n49 - (1 : Int))))) && (decide ((IntKind.wrap .i64 (n49 - (1 : Int))) < (List.length ns50 : Int)))) (cond_ ((List.getD ns50 (Int.toNat n49) (0 : Int)) == (List.getD ns50 (Int.toNat (IntKind.wrap .i64 (n49 - (1 : Int)))) (0 : Int))) (cond_ ((decide ((0 : Int) ≤ n49)) && (decide (n49 ≤ (List.length ns50 : Int)))) (slices_Compact_int_int_L0_L2 n49 (Int.toNat n49) ((List.length ns50) - (Int.toNat n49)) (1 : Int) ns50
  (fun n56 ns57 => (cond_ ((decide ((0 : Int) ≤ n56)) && (decide (n56 ≤ (List.length ns57 : Int)))) (cond_ ((true && (decide ((0 : Int) ≤ n56))) && (decide (n56 ≤ (((List.length (setCells ns57 (Int.toNat n56) (List.replicate ((List.length ns57) - (Int.toNat n56)) (0 : Int)))) : Nat) : Int)))) (k1 (Int.toNat (n56 - (0 : Int))) (setCells ns57 (Int.toNat n56) (List.replicate ((List.length ns57) - (Int.toNat n56)) (0 : Int)))) none) none))) none) (slices_Compact_int_int_L0 (IntKind.wrap .i64 (n49 + (1 : Int))) ns50 k1 k2)) none) none) (k2 ns50))
noncomputable def slices_Compact_int_int_L0 : Nat → T_slices_Compact_int_int_L0
  | 0 => fun _ _ _ _ => none
  | n + 1 => slices_Compact_int_int_L0.body (slices_Compact_int_int_L0 n) (slices_Compact_int_int_L0_L2 ROUNDS)
def slices_Compact_int_int_L0.p : LPat := lp 2 61 [0, 3] (ps (pr [0, 0]) (pl (pd (.int .i64)) pz)) (pl (po [0, 0] 3 1 (ed (.int .i64))) pz)
def slices_Compact_int_int_L0.g (F : T_slices_Compact_int_int_L0) (v : slices_Compact_int_int_L0.p.T) (k : KE) : Option Bool := F v.1.1 v.2.1 (fun y0 y1 => k .ret ⟨fillS 61 [2] [(.cut [0, 0] 0 y0)], [([0, 0], ⟨3, 1, (.data (.int .i64) y1)⟩)], 2⟩) (fun y0 => k (.exit 0) ⟨fillS 61 [0] [(.ref [0, 0])], [([0, 0], ⟨3, 1, (.data (.int .i64) y0)⟩)], 2⟩)
theorem slices_Compact_int_int_L0.step (S : T_slices_Compact_int_int_L0) (L0 : T_slices_Compact_int_int_L0_L2) : ∀ v k, exR 18 Try.f18 0 slices_Compact_int_int_L0.p [] [] [⟨2, slices_Compact_int_int_L0_L2.p, slices_Compact_int_int_L0_L2.g L0⟩] (slices_Compact_int_int_L0.g S) v k = slices_Compact_int_int_L0.g (slices_Compact_int_int_L0.body S L0) v k := fun v k => by kernel_rfl
theorem slices_Compact_int_int_L0.ok : okL 18 Try.f18 0 0 slices_Compact_int_int_L0.p (slices_Compact_int_int_L0.g (slices_Compact_int_int_L0 ROUNDS)) := loop2 (G := fun n => slices_Compact_int_int_L0.g (slices_Compact_int_int_L0 n)) (fun n => slices_Compact_int_int_L0.step (slices_Compact_int_int_L0 n) (slices_Compact_int_int_L0_L2 ROUNDS)) .nil [2] (by kernel_rfl) (.cons slices_Compact_int_int_L0_L2.ok .nil) (fun _ _ => rfl)
/-- function 18: slices.Compact[[]int,int] -/
abbrev T_slices_Compact_int_int : Type := (List Int) → ((List Int) → Option Bool) → (Nat → (List Int) → Option Bool) → Option Bool
noncomputable def slices_Compact_int_int.body (slices_Compact_int_int_L0 : T_slices_Compact_int_int_L0) : T_slices_Compact_int_int := fun ns48 k1 k2 =>
  (cond_ (decide ((List.length ns48 : Int) < (2 : Int))) (k1 ns48) (slices_Compact_int_int_L0 (1 : Int) ns48
  (fun m58 ns59 => (k2 m58 ns59))
  (fun ns60 => (k1 ns60))))
noncomputable def slices_Compact_int_int : T_slices_Compact_int_int := slices_Compact_int_int.body (slices_Compact_int_int_L0 ROUNDS)
def slices_Compact_int_int.p : FPat := fp 18 (ps (pr [0, 0]) pz) (pl (po [0, 0] 3 1 (ed (.int .i64))) pz)
def slices_Compact_int_int.g (F : T_slices_Compact_int_int) (v : slices_Compact_int_int.p.T) (k : KR) : Option Bool := F v.2.1 (fun y0 => k (.ref [0, 0]) [([0, 0], ⟨3, 1, (.data (.int .i64) y0)⟩)]) (fun y0 y1 => k (.cut [0, 0] 0 y0) [([0, 0], ⟨3, 1, (.data (.int .i64) y1)⟩)])
theorem slices_Compact_int_int.eq (L0 : T_slices_Compact_int_int_L0) : ∀ v k, exF Try.f18 slices_Compact_int_int.p [] [] [⟨0, slices_Compact_int_int_L0.p, slices_Compact_int_int_L0.g L0⟩] v k = slices_Compact_int_int.g (slices_Compact_int_int.body L0) v k := fun v k => by kernel_rfl
theorem slices_Compact_int_int.ok : okF 1 slices_Compact_int_int.p (slices_Compact_int_int.g slices_Compact_int_int) := fn2 (slices_Compact_int_int.eq (slices_Compact_int_int_L0 ROUNDS)) Try.func18 (by kernel_rfl) .nil [0] (by kernel_rfl) (.cons slices_Compact_int_int_L0.ok .nil)
/-- function 16: sheerleg/op.Ends -/
abbrev T_op_Ends : Type := Int → (Bool → Option Bool) → Option Bool
noncomputable def op_Ends.body : T_op_Ends := fun n78 k1 =>
  (cond_ (! (n78 == (11 : Int))) (cond_ (! (n78 == (22 : Int))) (k1 (n78 == (24 : Int))) (k1 true)) (k1 true))
noncomputable def op_Ends : T_op_Ends := op_Ends.body
def op_Ends.p : FPat := fp 16 (pl (pd (.int .i64)) pz) pz
def op_Ends.g (F : T_op_Ends) (v : op_Ends.p.T) (k : KR) : Option Bool := F v.1.1 (fun y0 => k (.d ⟨.bool, y0⟩) [])
theorem op_Ends.eq : ∀ v k, exF Try.f16 op_Ends.p [] [] [] v k = op_Ends.g (op_Ends.body) v k := fun v k => by kernel_rfl
theorem op_Ends.ok : okF 1 op_Ends.p (op_Ends.g op_Ends) := fn2 (op_Ends.eq) Try.func16 (by kernel_rfl) .nil [] (by kernel_rfl) .nil
/-- function 31: the loop in block 2 -/
abbrev T_slices_insertionSortOrdered_intv1_L0_L2 : Type := Int → Int → Int → Int → (Int → Int → Int → Option Bool) → Option Bool
noncomputable def slices_insertionSortOrdered_intv1_L0_L2.body (slices_insertionSortOrdered_intv1_L0_L2 : T_slices_insertionSortOrdered_intv1_L0_L2) : T_slices_insertionSortOrdered_intv1_L0_L2 := fun n98 n99 n100 n101 k1 =>
  (cond_ (decide (n101 > n98)) none (k1 n98 n99 n100))
noncomputable def slices_insertionSortOrdered_intv1_L0_L2 : Nat → T_slices_insertionSortOrdered_intv1_L0_L2
  | 0 => fun _ _ _ _ _ => none
  | n + 1 => slices_insertionSortOrdered_intv1_L0_L2.body (slices_insertionSortOrdered_intv1_L0_L2 n)
def slices_insertionSortOrdered_intv1_L0_L2.p : LPat := lp 2 49 [0, 1, 2, 6, 7] (ps (pk 0) (pl (pd (.int .i64)) (pl (pd (.int .i64)) (pl (pd (.int .i64)) (pl (pd (.int .i64)) pz))))) pz
def slices_insertionSortOrdered_intv1_L0_L2.g (F : T_slices_insertionSortOrdered_intv1_L0_L2) (v : slices_insertionSortOrdered_intv1_L0_L2.p.T) (k : KE) : Option Bool := F v.1.1 v.1.2.1 v.1.2.2.1 v.1.2.2.2.1 (fun y0 y1 y2 => k (.exit 2) ⟨fillS 49 [0, 1, 2, 6] [.nils, (.d ⟨(.int .i64), y0⟩), (.d ⟨(.int .i64), y1⟩), (.d ⟨(.int .i64), y2⟩)], [], 2⟩)
theorem slices_insertionSortOrdered_intv1_L0_L2.step (S : T_slices_insertionSortOrdered_intv1_L0_L2) : ∀ v k, exR 31 Try.f31 2 slices_insertionSortOrdered_intv1_L0_L2.p [] [] [] (slices_insertionSortOrdered_intv1_L0_L2.g S) v k = slices_insertionSortOrdered_intv1_L0_L2.g (slices_insertionSortOrdered_intv1_L0_L2.body S) v k := fun v k => by kernel_rfl
theorem slices_insertionSortOrdered_intv1_L0_L2.ok : okL 31 Try.f31 0 2 slices_insertionSortOrdered_intv1_L0_L2.p (slices_insertionSortOrdered_intv1_L0_L2.g (slices_insertionSortOrdered_intv1_L0_L2 ROUNDS)) := loop2 (G := fun n => slices_insertionSortOrdered_intv1_L0_L2.g (slices_insertionSortOrdered_intv1_L0_L2 n)) (fun n => slices_insertionSortOrdered_intv1_L0_L2.step (slices_insertionSortOrdered_intv1_L0_L2 n)) .nil [] (by kernel_rfl) .nil (fun _ _ => rfl)
/-- function 31: the loop in block 0 -/
abbrev T_slices_insertionSortOrdered_intv1_L0 : Type := Int → Int → Int → (Option Bool) → Option Bool
noncomputable def slices_insertionSortOrdered_intv1_L0.body (slices_insertionSortOrdered_intv1_L0 : T_slices_insertionSortOrdered_intv1_L0) (slices_insertionSortOrdered_intv1_L0_L2 : T_slices_insertionSortOrdered_intv1_L0_L2) : T_slices_insertionSortOrdered_intv1_L0 := fun n95 n96 n97 k1 =>
  (cond_ (decide (n97 < n96)) (slices_insertionSortOrdered_intv1_L0_L2 n95 n96 n97 n97
  (fun n102 n103 n104 => (slices_insertionSortOrdered_intv1_L0 n102 n103 (IntKind.wrap .i64 (n104 + (1 : Int))) k1))) (k1))
noncomputable def slices_insertionSortOrdered_intv1_L0 : Nat → T_slices_insertionSortOrdered_intv1_L0
  | 0 => fun _ _ _ _ => none
  | n + 1 => slices_insertionSortOrdered_intv1_L0.body (slices_insertionSortOrdered_intv1_L0 n) (slices_insertionSortOrdered_intv1_L0_L2 ROUNDS)
def slices_insertionSortOrdered_intv1_L0.p : LPat := lp 2 49 [0, 1, 2, 6] (ps (pk 0) (pl (pd (.int .i64)) (pl (pd (.int .i64)) (pl (pd (.int .i64)) pz)))) pz
def slices_insertionSortOrdered_intv1_L0.g (F : T_slices_insertionSortOrdered_intv1_L0) (v : slices_insertionSortOrdered_intv1_L0.p.T) (k : KE) : Option Bool := F v.1.1 v.1.2.1 v.1.2.2.1 (k (.exit 0) ⟨fillS 49 [] [], [], 2⟩)
theorem slices_insertionSortOrdered_intv1_L0.step (S : T_slices_insertionSortOrdered_intv1_L0) (L0 : T_slices_insertionSortOrdered_intv1_L0_L2) : ∀ v k, exR 31 Try.f31 0 slices_insertionSortOrdered_intv1_L0.p [] [] [⟨2, slices_insertionSortOrdered_intv1_L0_L2.p, slices_insertionSortOrdered_intv1_L0_L2.g L0⟩] (slices_insertionSortOrdered_intv1_L0.g S) v k = slices_insertionSortOrdered_intv1_L0.g (slices_insertionSortOrdered_intv1_L0.body S L0) v k := fun v k => by kernel_rfl
theorem slices_insertionSortOrdered_intv1_L0.ok : okL 31 Try.f31 0 0 slices_insertionSortOrdered_intv1_L0.p (slices_insertionSortOrdered_intv1_L0.g (slices_insertionSortOrdered_intv1_L0 ROUNDS)) := loop2 (G := fun n => slices_insertionSortOrdered_intv1_L0.g (slices_insertionSortOrdered_intv1_L0 n)) (fun n => slices_insertionSortOrdered_intv1_L0.step (slices_insertionSortOrdered_intv1_L0 n) (slices_insertionSortOrdered_intv1_L0_L2 ROUNDS)) .nil [2] (by kernel_rfl) (.cons slices_insertionSortOrdered_intv1_L0_L2.ok .nil) (fun _ _ => rfl)
/-- function 31: slices.insertionSortOrdered[int] -/
abbrev T_slices_insertionSortOrdered_intv1 : Type := Int → Int → (Option Bool) → Option Bool
noncomputable def slices_insertionSortOrdered_intv1.body (slices_insertionSortOrdered_intv1_L0 : T_slices_insertionSortOrdered_intv1_L0) : T_slices_insertionSortOrdered_intv1 := fun n93 n94 k1 =>
  (slices_insertionSortOrdered_intv1_L0 n93 n94 (IntKind.wrap .i64 (n93 + (1 : Int)))
  (k1))
noncomputable def slices_insertionSortOrdered_intv1 : T_slices_insertionSortOrdered_intv1 := slices_insertionSortOrdered_intv1.body (slices_insertionSortOrdered_intv1_L0 ROUNDS)
def slices_insertionSortOrdered_intv1.p : FPat := fp 31 (ps (pk 0) (pl (pd (.int .i64)) (pl (pd (.int .i64)) pz))) pz
def slices_insertionSortOrdered_intv1.g (F : T_slices_insertionSortOrdered_intv1) (v : slices_insertionSortOrdered_intv1.p.T) (k : KR) : Option Bool := F v.1.1 v.1.2.1 (k (.tup []) [])
theorem slices_insertionSortOrdered_intv1.eq (L0 : T_slices_insertionSortOrdered_intv1_L0) : ∀ v k, exF Try.f31 slices_insertionSortOrdered_intv1.p [] [] [⟨0, slices_insertionSortOrdered_intv1_L0.p, slices_insertionSortOrdered_intv1_L0.g L0⟩] v k = slices_insertionSortOrdered_intv1.g (slices_insertionSortOrdered_intv1.body L0) v k := fun v k => by kernel_rfl
theorem slices_insertionSortOrdered_intv1.ok : okF 1 slices_insertionSortOrdered_intv1.p (slices_insertionSortOrdered_intv1.g slices_insertionSortOrdered_intv1) := fn2 (slices_insertionSortOrdered_intv1.eq (slices_insertionSortOrdered_intv1_L0 ROUNDS)) Try.func31 (by kernel_rfl) .nil [0] (by kernel_rfl) (.cons slices_insertionSortOrdered_intv1_L0.ok .nil)
/-- function 26: the loop in block 0 -/
abbrev T_slices_pdqsortOrdered_intv1_L0 : Type := Int → Int → Int → Bool → Bool → (Option Bool) → Option Bool
noncomputable def slices_pdqsortOrdered_intv1_L0.body (slices_pdqsortOrdered_intv1_L0 : T_slices_pdqsortOrdered_intv1_L0) (slices_insertionSortOrdered_intv1 : T_slices_insertionSortOrdered_intv1) : T_slices_pdqsortOrdered_intv1_L0 := fun n88 n89 n90 b91 b92 k1 =>
  (cond_ (decide ((IntKind.wrap .i64 (n89 - n88)) ≤ (12 : Int))) (slices_insertionSortOrdered_intv1 n88 n89
  (k1)) (cond_ (n90 == (0 : Int)) none (cond_ (! b91) none none)))
noncomputable def slices_pdqsortOrdered_intv1_L0 : Nat → T_slices_pdqsortOrdered_intv1_L0
  | 0 => fun _ _ _ _ _ _ => none
  | n + 1 => slices_pdqsortOrdered_intv1_L0.body (slices_pdqsortOrdered_intv1_L0 n) slices_insertionSortOrdered_intv1
def slices_pdqsortOrdered_intv1_L0.p : LPat := lp 2 134 [0, 1, 2, 3, 8, 9] (ps (pk 0) (pl (pd (.int .i64)) (pl (pd (.int .i64)) (pl (pd (.int .i64)) (pl (pd .bool) (pl (pd .bool) pz)))))) pz
def slices_pdqsortOrdered_intv1_L0.g (F : T_slices_pdqsortOrdered_intv1_L0) (v : slices_pdqsortOrdered_intv1_L0.p.T) (k : KE) : Option Bool := F v.1.1 v.1.2.1 v.1.2.2.1 v.1.2.2.2.1 v.1.2.2.2.2.1 (k .ret ⟨fillS 134 [] [], [], 2⟩)
theorem slices_pdqsortOrdered_intv1_L0.step (S : T_slices_pdqsortOrdered_intv1_L0) (F0 : T_slices_insertionSortOrdered_intv1) : ∀ v k, exR 26 Try.f26 0 slices_pdqsortOrdered_intv1_L0.p [⟨slices_insertionSortOrdered_intv1.p, slices_insertionSortOrdered_intv1.g F0⟩] [] [] (slices_pdqsortOrdered_intv1_L0.g S) v k = slices_pdqsortOrdered_intv1_L0.g (slices_pdqsortOrdered_intv1_L0.body S F0) v k := fun v k => by kernel_rfl
theorem slices_pdqsortOrdered_intv1_L0.ok : okL 26 Try.f26 1 0 slices_pdqsortOrdered_intv1_L0.p (slices_pdqsortOrdered_intv1_L0.g (slices_pdqsortOrdered_intv1_L0 ROUNDS)) := loop2 (G := fun n => slices_pdqsortOrdered_intv1_L0.g (slices_pdqsortOrdered_intv1_L0 n)) (fun n => slices_pdqsortOrdered_intv1_L0.step (slices_pdqsortOrdered_intv1_L0 n) slices_insertionSortOrdered_intv1) (.cons slices_insertionSortOrdered_intv1.ok .nil) [] (by kernel_rfl) .nil (fun _ _ => rfl)
/-- function 26: slices.pdqsortOrdered[int] -/
abbrev T_slices_pdqsortOrdered_intv1 : Type := Int → Int → Int → (Option Bool) → Option Bool
noncomputable def slices_pdqsortOrdered_intv1.body (slices_pdqsortOrdered_intv1_L0 : T_slices_pdqsortOrdered_intv1_L0) : T_slices_pdqsortOrdered_intv1 := fun n85 n86 n87 k1 =>
  (slices_pdqsortOrdered_intv1_L0 n85 n86 n87 true true
  (k1))
noncomputable def slices_pdqsortOrdered_intv1 : T_slices_pdqsortOrdered_intv1 := slices_pdqsortOrdered_intv1.body (slices_pdqsortOrdered_intv1_L0 ROUNDS)
def slices_pdqsortOrdered_intv1.p : FPat := fp 26 (ps (pk 0) (pl (pd (.int .i64)) (pl (pd (.int .i64)) (pl (pd (.int .i64)) pz)))) pz
def slices_pdqsortOrdered_intv1.g (F : T_slices_pdqsortOrdered_intv1) (v : slices_pdqsortOrdered_intv1.p.T) (k : KR) : Option Bool := F v.1.1 v.1.2.1 v.1.2.2.1 (k (.tup []) [])
theorem slices_pdqsortOrdered_intv1.eq (L0 : T_slices_pdqsortOrdered_intv1_L0) : ∀ v k, exF Try.f26 slices_pdqsortOrdered_intv1.p [] [] [⟨0, slices_pdqsortOrdered_intv1_L0.p, slices_pdqsortOrdered_intv1_L0.g L0⟩] v k = slices_pdqsortOrdered_intv1.g (slices_pdqsortOrdered_intv1.body L0) v k := fun v k => by kernel_rfl
theorem slices_pdqsortOrdered_intv1.ok : okF 2 slices_pdqsortOrdered_intv1.p (slices_pdqsortOrdered_intv1.g slices_pdqsortOrdered_intv1) := fn2 (slices_pdqsortOrdered_intv1.eq (slices_pdqsortOrdered_intv1_L0 ROUNDS)) Try.func26 (by kernel_rfl) .nil [0] (by kernel_rfl) (.cons slices_pdqsortOrdered_intv1_L0.ok .nil)
/-- function 17: slices.Sort[[]int,int] -/
abbrev T_slices_Sort_int_intv1 : Type := (Option Bool) → Option Bool
noncomputable def slices_Sort_int_intv1.body (math_bits_Len : T_math_bits_Len) (slices_pdqsortOrdered_intv1 : T_slices_pdqsortOrdered_intv1) : T_slices_Sort_int_intv1 := fun k1 =>
  (math_bits_Len (0 : Int)
  (fun n84 => (slices_pdqsortOrdered_intv1 (0 : Int) (0 : Int) n84
  (k1))))
noncomputable def slices_Sort_int_intv1 : T_slices_Sort_int_intv1 := slices_Sort_int_intv1.body math_bits_Len slices_pdqsortOrdered_intv1
def slices_Sort_int_intv1.p : FPat := fp 17 (ps (pk 0) pz) pz
def slices_Sort_int_intv1.g (F : T_slices_Sort_int_intv1) (v : slices_Sort_int_intv1.p.T) (k : KR) : Option Bool := F (k (.tup []) [])
theorem slices_Sort_int_intv1.eq (F0 : T_math_bits_Len) (F1 : T_slices_pdqsortOrdered_intv1) : ∀ v k, exF Try.f17 slices_Sort_int_intv1.p [⟨math_bits_Len.p, math_bits_Len.g F0⟩, ⟨slices_pdqsortOrdered_intv1.p, slices_pdqsortOrdered_intv1.g F1⟩] [] [] v k = slices_Sort_int_intv1.g (slices_Sort_int_intv1.body F0 F1) v k := fun v k => by kernel_rfl
theorem slices_Sort_int_intv1.ok : okF 3 slices_Sort_int_intv1.p (slices_Sort_int_intv1.g slices_Sort_int_intv1) := fn2 (slices_Sort_int_intv1.eq math_bits_Len slices_pdqsortOrdered_intv1) Try.func17 (by kernel_rfl) (.cons math_bits_Len.ok (.cons slices_pdqsortOrdered_intv1.ok .nil)) [] (by kernel_rfl) .nil
/-- function 18: slices.Compact[[]int,int] -/
abbrev T_slices_Compact_int_intv1 : Type := ((List Int) → Option Bool) → Option Bool
noncomputable def slices_Compact_int_intv1.body : T_slices_Compact_int_intv1 := fun k1 =>
  (k1 [])
noncomputable def slices_Compact_int_intv1 : T_slices_Compact_int_intv1 := slices_Compact_int_intv1.body
def slices_Compact_int_intv1.p : FPat := fp 18 (ps (pk 0) pz) pz
def slices_Compact_int_intv1.g (F : T_slices_Compact_int_intv1) (v : slices_Compact_int_intv1.p.T) (k : KR) : Option Bool := F (fun y0 => k (.ref [1, 0]) [([1, 0], ⟨3, 1, (.data (.int .i64) y0)⟩)])
theorem slices_Compact_int_intv1.eq : ∀ v k, exF Try.f18 slices_Compact_int_intv1.p [] [] [] v k = slices_Compact_int_intv1.g (slices_Compact_int_intv1.body) v k := fun v k => by kernel_rfl
theorem slices_Compact_int_intv1.ok : okF 1 slices_Compact_int_intv1.p (slices_Compact_int_intv1.g slices_Compact_int_intv1) := fn2 (slices_Compact_int_intv1.eq) Try.func18 (by kernel_rfl) .nil [] (by kernel_rfl) .nil
/-- function 7: sheerleg/flow.Next -/
abbrev T_flow_Next : Type := Tc1 → Int → ((List Int) → Option Bool) → Option Bool
noncomputable def flow_Next.body (slices_Sort_int_int : T_slices_Sort_int_int) (slices_Compact_int_int : T_slices_Compact_int_int) (op_Ends : T_op_Ends) (slices_Sort_int_intv1 : T_slices_Sort_int_intv1) (slices_Compact_int_intv1 : T_slices_Compact_int_intv1) : T_flow_Next := fun ts68 n69 k1 =>
  (cond_ (! (decide (n69 < (0 : Int)))) (cond_ (decide (n69 ≥ (List.length ts68 : Int))) (k1 []) (cond_ ((decide ((0 : Int) ≤ n69)) && (decide (n69 < (List.length ts68 : Int)))) (cond_ ((List.getD ts68 (Int.toNat n69) (0, (0, (0, (0, (0, ())))))).1 == (12 : Int)) (slices_Sort_int_int [(IntKind.wrap .i64 (n69 + (1 : Int))), (List.getD ts68 (Int.toNat n69) (0, (0, (0, (0, (0, ())))))).2.2.2.2.1]
  (fun ns70 => (slices_Compact_int_int ns70
  (fun ns71 => (k1 ns71))
  (fun m72 ns73 => (k1 (List.take m72 ns73)))))) (cond_ ((List.getD ts68 (Int.toNat n69) (0, (0, (0, (0, (0, ())))))).1 == (11 : Int)) (slices_Sort_int_int [(List.getD ts68 (Int.toNat n69) (0, (0, (0, (0, (0, ())))))).2.2.2.2.1]
  (fun ns74 => (slices_Compact_int_int ns74
  (fun ns75 => (k1 ns75))
  (fun m76 ns77 => (k1 (List.take m76 ns77)))))) (op_Ends (List.getD ts68 (Int.toNat n69) (0, (0, (0, (0, (0, ())))))).1
  (fun b79 => (cond_ (! b79) (slices_Sort_int_int [(IntKind.wrap .i64 (n69 + (1 : Int)))]
  (fun ns80 => (slices_Compact_int_int ns80
  (fun ns81 => (k1 ns81))
  (fun m82 ns83 => (k1 (List.take m82 ns83)))))) (slices_Sort_int_intv1
  (slices_Compact_int_intv1
  (fun ns105 => (k1 ns105))))))))) none)) (k1 []))
noncomputable def flow_Next : T_flow_Next := flow_Next.body slices_Sort_int_int slices_Compact_int_int op_Ends slices_Sort_int_intv1 slices_Compact_int_intv1
def flow_Next.p : FPat := fp 7 (pl (pb 0 35 Ty1) (pl (pd (.int .i64)) pz)) pz
def flow_Next.g (F : T_flow_Next) (v : flow_Next.p.T) (k : KR) : Option Bool := F v.1.1 v.1.2.1 (fun y0 => k (.ref [1, 0]) [([1, 0], ⟨3, 1, (.data (.int .i64) y0)⟩)])
theorem flow_Next.eq (F0 : T_slices_Sort_int_int) (F1 : T_slices_Compact_int_int) (F2 : T_op_Ends) (F3 : T_slices_Sort_int_intv1) (F4 : T_slices_Compact_int_intv1) : ∀ v k, exF Try.f7 flow_Next.p [⟨slices_Sort_int_int.p, slices_Sort_int_int.g F0⟩, ⟨slices_Compact_int_int.p, slices_Compact_int_int.g F1⟩, ⟨op_Ends.p, op_Ends.g F2⟩, ⟨slices_Sort_int_intv1.p, slices_Sort_int_intv1.g F3⟩, ⟨slices_Compact_int_intv1.p, slices_Compact_int_intv1.g F4⟩] [] [] v k = flow_Next.g (flow_Next.body F0 F1 F2 F3 F4) v k := fun v k => by kernel_rfl
theorem flow_Next.ok : okF 6 flow_Next.p (flow_Next.g flow_Next) := fn2 (flow_Next.eq slices_Sort_int_int slices_Compact_int_int op_Ends slices_Sort_int_intv1 slices_Compact_int_intv1) Try.func7 (by kernel_rfl) (.cons slices_Sort_int_int.ok (.cons slices_Compact_int_int.ok (.cons op_Ends.ok (.cons slices_Sort_int_intv1.ok (.cons slices_Compact_int_intv1.ok .nil))))) [] (by kernel_rfl) .nil
/-- function 42: sheerleg/sheerlegref07.names -/
abbrev T_ref07_names : Type := ((List ByteArray) → Option Bool) → Option Bool
noncomputable def ref07_names.body : T_ref07_names := fun k1 =>
  (k1 [(⟨#[110, 111, 112]⟩ : ByteArray), (⟨#[115, 101, 116]⟩ : ByteArray), (⟨#[109, 111, 118, 101]⟩ : ByteArray), (⟨#[97, 100, 100]⟩ : ByteArray), (⟨#[115, 117, 98]⟩ : ByteArray), (⟨#[109, 117, 108]⟩ : ByteArray), (⟨#[100, 105, 118]⟩ : ByteArray), (⟨#[109, 111, 100]⟩ : ByteArray), (⟨#[108, 101, 115, 115]⟩ : ByteArray), (⟨#[115, 97, 109, 101]⟩ : ByteArray), (⟨#[106, 117, 109, 112]⟩ : ByteArray), (⟨#[122, 101, 114, 111]⟩ : ByteArray), (⟨#[105, 110]⟩ : ByteArray), (⟨#[111, 117, 116]⟩ : ByteArray), (⟨#[108, 111, 97, 100]⟩ : ByteArray), (⟨#[115, 116, 111, 114, 101]⟩ : ByteArray), (⟨#[102, 117, 110, 99]⟩ : ByteArray), (⟨#[112, 105, 99, 107]⟩ : ByteArray), (⟨#[99, 97, 108, 108]⟩ : ByteArray), (⟨#[118, 105, 97]⟩ : ByteArray), (⟨#[100, 101, 102, 101, 114]⟩ : ByteArray), (⟨#[112, 97, 110, 105, 99]⟩ : ByteArray), (⟨#[114, 101, 99, 111, 118, 101, 114]⟩ : ByteArray), (⟨#[114, 101, 116, 117, 114, 110]⟩ : ByteArray), (⟨#[99, 104, 101, 99, 107]⟩ : ByteArray), (⟨#[101, 110, 116, 101, 114]⟩ : ByteArray), (⟨#[98, 111, 116, 116, 111, 109]⟩ : ByteArray), (⟨#[100, 114, 105, 118, 101, 114]⟩ : ByteArray)])
noncomputable def ref07_names : T_ref07_names := ref07_names.body
def ref07_names.p : FPat := fp 42 pz pz
def ref07_names.g (F : T_ref07_names) (v : ref07_names.p.T) (k : KR) : Option Bool := F (fun y0 => k (.ref [1, 0]) [([1, 0], ⟨9, 1, (.data .str y0)⟩)])
theorem ref07_names.eq : ∀ v k, exF Try.f42 ref07_names.p [] [] [] v k = ref07_names.g (ref07_names.body) v k := fun v k => by kernel_rfl
theorem ref07_names.ok : okF 1 ref07_names.p (ref07_names.g ref07_names) := fn2 (ref07_names.eq) Try.func42 (by kernel_rfl) .nil [] (by kernel_rfl) .nil
/-- function 28: sheerleg/sheerlegref07.Name -/
abbrev T_ref07_Name : Type := Int → (ByteArray → Option Bool) → Option Bool
noncomputable def ref07_Name.body (ref07_names : T_ref07_names) : T_ref07_Name := fun n110 k1 =>
  (ref07_names
  (fun ss111 => (cond_ (! (decide (n110 < (1 : Int)))) (cond_ (decide (n110 > (List.length ss111 : Int))) (k1 (⟨#[]⟩ : ByteArray)) (cond_ ((decide ((0 : Int) ≤ (IntKind.wrap .i64 (n110 - (1 : Int))))) && (decide ((IntKind.wrap .i64 (n110 - (1 : Int))) < (List.length ss111 : Int)))) (k1 (List.getD ss111 (Int.toNat (IntKind.wrap .i64 (n110 - (1 : Int)))) (⟨#[]⟩ : ByteArray))) none)) (k1 (⟨#[]⟩ : ByteArray)))))
noncomputable def ref07_Name : T_ref07_Name := ref07_Name.body ref07_names
def ref07_Name.p : FPat := fp 28 (pl (pd (.int .i64)) pz) pz
def ref07_Name.g (F : T_ref07_Name) (v : ref07_Name.p.T) (k : KR) : Option Bool := F v.1.1 (fun y0 => k (.d ⟨.str, y0⟩) [])
theorem ref07_Name.eq (F0 : T_ref07_names) : ∀ v k, exF Try.f28 ref07_Name.p [⟨ref07_names.p, ref07_names.g F0⟩] [] [] v k = ref07_Name.g (ref07_Name.body F0) v k := fun v k => by kernel_rfl
theorem ref07_Name.ok : okF 2 ref07_Name.p (ref07_Name.g ref07_Name) := fn2 (ref07_Name.eq ref07_names) Try.func28 (by kernel_rfl) (.cons ref07_names.ok .nil) [] (by kernel_rfl) .nil
/-- function 19: sheerleg/sheerlegref07.Ends -/
abbrev T_ref07_Ends : Type := Int → (Bool → Option Bool) → Option Bool
noncomputable def ref07_Ends.body (ref07_Name : T_ref07_Name) : T_ref07_Ends := fun n109 k1 =>
  (ref07_Name n109
  (fun s112 => (cond_ (! ((ByteArray.toList s112) == (ByteArray.toList (⟨#[106, 117, 109, 112]⟩ : ByteArray)))) (ref07_Name n109
  (fun s113 => (cond_ (! ((ByteArray.toList s113) == (ByteArray.toList (⟨#[112, 97, 110, 105, 99]⟩ : ByteArray)))) (ref07_Name n109
  (fun s114 => (k1 ((ByteArray.toList s114) == (ByteArray.toList (⟨#[114, 101, 116, 117, 114, 110]⟩ : ByteArray)))))) (k1 true)))) (k1 true))))
noncomputable def ref07_Ends : T_ref07_Ends := ref07_Ends.body ref07_Name
def ref07_Ends.p : FPat := fp 19 (pl (pd (.int .i64)) pz) pz
def ref07_Ends.g (F : T_ref07_Ends) (v : ref07_Ends.p.T) (k : KR) : Option Bool := F v.1.1 (fun y0 => k (.d ⟨.bool, y0⟩) [])
theorem ref07_Ends.eq (F0 : T_ref07_Name) : ∀ v k, exF Try.f19 ref07_Ends.p [⟨ref07_Name.p, ref07_Name.g F0⟩] [] [] v k = ref07_Ends.g (ref07_Ends.body F0) v k := fun v k => by kernel_rfl
theorem ref07_Ends.ok : okF 3 ref07_Ends.p (ref07_Ends.g ref07_Ends) := fn2 (ref07_Ends.eq ref07_Name) Try.func19 (by kernel_rfl) (.cons ref07_Name.ok .nil) [] (by kernel_rfl) .nil
/-- function 8: sheerleg/sheerlegref14.Next -/
abbrev T_ref14_Next : Type := Tc1 → Int → ((List Int) → Option Bool) → Option Bool
noncomputable def ref14_Next.body (ref07_Ends : T_ref07_Ends) : T_ref14_Next := fun ts107 n108 k1 =>
  (cond_ (! (decide (n108 < (0 : Int)))) (cond_ (decide (n108 ≥ (List.length ts107 : Int))) (k1 []) (cond_ ((decide ((0 : Int) ≤ n108)) && (decide (n108 < (List.length ts107 : Int)))) (cond_ ((List.getD ts107 (Int.toNat n108) (0, (0, (0, (0, (0, ())))))).1 == (11 : Int)) (k1 [(List.getD ts107 (Int.toNat n108) (0, (0, (0, (0, (0, ())))))).2.2.2.2.1]) (ref07_Ends (List.getD ts107 (Int.toNat n108) (0, (0, (0, (0, (0, ())))))).1
  (fun b115 => (cond_ b115 (k1 []) (cond_ (! ((List.getD ts107 (Int.toNat n108) (0, (0, (0, (0, (0, ())))))).1 != (12 : Int))) (cond_ ((List.getD ts107 (Int.toNat n108) (0, (0, (0, (0, (0, ())))))).2.2.2.2.1 == (IntKind.wrap .i64 (n108 + (1 : Int)))) (k1 [(IntKind.wrap .i64 (n108 + (1 : Int)))]) (cond_ (decide ((List.getD ts107 (Int.toNat n108) (0, (0, (0, (0, (0, ())))))).2.2.2.2.1 < (IntKind.wrap .i64 (n108 + (1 : Int))))) (k1 [(List.getD ts107 (Int.toNat n108) (0, (0, (0, (0, (0, ())))))).2.2.2.2.1, (IntKind.wrap .i64 (n108 + (1 : Int)))]) (k1 [(IntKind.wrap .i64 (n108 + (1 : Int))), (List.getD ts107 (Int.toNat n108) (0, (0, (0, (0, (0, ())))))).2.2.2.2.1]))) (k1 [(IntKind.wrap .i64 (n108 + (1 : Int)))])))))) none)) (k1 []))
noncomputable def ref14_Next : T_ref14_Next := ref14_Next.body ref07_Ends
def ref14_Next.p : FPat := fp 8 (pl (pb 0 35 Ty1) (pl (pd (.int .i64)) pz)) pz
def ref14_Next.g (F : T_ref14_Next) (v : ref14_Next.p.T) (k : KR) : Option Bool := F v.1.1 v.1.2.1 (fun y0 => k (.ref [1, 0]) [([1, 0], ⟨3, 1, (.data (.int .i64) y0)⟩)])
theorem ref14_Next.eq (F0 : T_ref07_Ends) : ∀ v k, exF Try.f8 ref14_Next.p [⟨ref07_Ends.p, ref07_Ends.g F0⟩] [] [] v k = ref14_Next.g (ref14_Next.body F0) v k := fun v k => by kernel_rfl
theorem ref14_Next.ok : okF 4 ref14_Next.p (ref14_Next.g ref14_Next) := fn2 (ref14_Next.eq ref07_Ends) Try.func8 (by kernel_rfl) (.cons ref07_Ends.ok .nil) [] (by kernel_rfl) .nil
/-- function 6: the loop in block 0 -/
abbrev T_ref01_Ints_L0 : Type := (List Int) → (List Int) → Int → (Bool → Option Bool) → (Option Bool) → Option Bool
noncomputable def ref01_Ints_L0.body (ref01_Ints_L0 : T_ref01_Ints_L0) : T_ref01_Ints_L0 := fun ns119 ns120 n121 k1 k2 =>
  (cond_ (decide (n121 < (List.length ns119 : Int))) (cond_ ((decide ((0 : Int) ≤ n121)) && (decide (n121 < (List.length ns119 : Int)))) (cond_ ((decide ((0 : Int) ≤ n121)) && (decide (n121 < (List.length ns120 : Int)))) (cond_ ((List.getD ns119 (Int.toNat n121) (0 : Int)) != (List.getD ns120 (Int.toNat n121) (0 : Int))) (k1 false) (ref01_Ints_L0 ns119 ns120 (IntKind.wrap .i64 (n121 + (1 : Int))) k1 k2)) none) none) (k2))
noncomputable def ref01_Ints_L0 : Nat → T_ref01_Ints_L0
  | 0 => fun _ _ _ _ _ => none
  | n + 1 => ref01_Ints_L0.body (ref01_Ints_L0 n)
def ref01_Ints_L0.p : LPat := lp 2 26 [0, 1, 5] (pl (pb 1 3 (.int .i64)) (pl (pb 2 3 (.int .i64)) (pl (pd (.int .i64)) pz))) pz
def ref01_Ints_L0.g (F : T_ref01_Ints_L0) (v : ref01_Ints_L0.p.T) (k : KE) : Option Bool := F v.1.1 v.1.2.1 v.1.2.2.1 (fun y0 => k .ret ⟨fillS 26 [4] [(.d ⟨.bool, y0⟩)], [], 2⟩) (k (.exit 0) ⟨fillS 26 [] [], [], 2⟩)
theorem ref01_Ints_L0.step (S : T_ref01_Ints_L0) : ∀ v k, exR 6 Try.f6 0 ref01_Ints_L0.p [] [] [] (ref01_Ints_L0.g S) v k = ref01_Ints_L0.g (ref01_Ints_L0.body S) v k := fun v k => by kernel_rfl
theorem ref01_Ints_L0.ok : okL 6 Try.f6 0 0 ref01_Ints_L0.p (ref01_Ints_L0.g (ref01_Ints_L0 ROUNDS)) := loop2 (G := fun n => ref01_Ints_L0.g (ref01_Ints_L0 n)) (fun n => ref01_Ints_L0.step (ref01_Ints_L0 n)) .nil [] (by kernel_rfl) .nil (fun _ _ => rfl)
/-- function 6: sheerleg/sheerlegref01.Ints -/
abbrev T_ref01_Ints : Type := (List Int) → (List Int) → (Bool → Option Bool) → Option Bool
noncomputable def ref01_Ints.body (ref01_Ints_L0 : T_ref01_Ints_L0) : T_ref01_Ints := fun ns117 ns118 k1 =>
  (cond_ ((List.length ns117 : Int) != (List.length ns118 : Int)) (k1 false) (ref01_Ints_L0 ns117 ns118 (0 : Int)
  (fun b122 => (k1 b122))
  (k1 true)))
noncomputable def ref01_Ints : T_ref01_Ints := ref01_Ints.body (ref01_Ints_L0 ROUNDS)
def ref01_Ints.p : FPat := fp 6 (pl (pb 1 3 (.int .i64)) (pl (pb 2 3 (.int .i64)) pz)) pz
def ref01_Ints.g (F : T_ref01_Ints) (v : ref01_Ints.p.T) (k : KR) : Option Bool := F v.1.1 v.1.2.1 (fun y0 => k (.d ⟨.bool, y0⟩) [])
theorem ref01_Ints.eq (L0 : T_ref01_Ints_L0) : ∀ v k, exF Try.f6 ref01_Ints.p [] [] [⟨0, ref01_Ints_L0.p, ref01_Ints_L0.g L0⟩] v k = ref01_Ints.g (ref01_Ints.body L0) v k := fun v k => by kernel_rfl
theorem ref01_Ints.ok : okF 1 ref01_Ints.p (ref01_Ints.g ref01_Ints) := fn2 (ref01_Ints.eq (ref01_Ints_L0 ROUNDS)) Try.func6 (by kernel_rfl) .nil [0] (by kernel_rfl) (.cons ref01_Ints_L0.ok .nil)
/-- function 20: the loop in block 0 -/
abbrev T_flow_graph_L0 : Type := Tc1 → Int → Int → (List (List Int)) → ((List (List Int)) → Option Bool) → Option Bool
noncomputable def flow_graph_L0.body (flow_graph_L0 : T_flow_graph_L0) (flow_Next : T_flow_Next) : T_flow_graph_L0 := fun ts139 n140 n141 ls142 k1 =>
  (cond_ (decide (n141 < n140)) (flow_Next ts139 n141
  (fun ns143 => (cond_ (Nat.ble (((List.length ls142) + (List.length (ns143 :: []))) * (24 : Nat)) (140737488355328 : Nat)) (flow_graph_L0 ts139 n140 (IntKind.wrap .i64 (n141 + (1 : Int))) (ls142 ++ (ns143 :: [])) k1) none))) (k1 ls142))
noncomputable def flow_graph_L0 : Nat → T_flow_graph_L0
  | 0 => fun _ _ _ _ _ => none
  | n + 1 => flow_graph_L0.body (flow_graph_L0 n) flow_Next
def flow_graph_L0.p : LPat := lp 2 18 [0, 3, 6, 7] (pl (pb 0 35 Ty1) (ps (pr [1, 0]) (pl (pd (.int .i64)) (pl (pd (.int .i64)) pz)))) (pl (po [1, 0] 23 1 (ed Ty0)) pz)
def flow_graph_L0.g (F : T_flow_graph_L0) (v : flow_graph_L0.p.T) (k : KE) : Option Bool := F v.1.1 v.1.2.1 v.1.2.2.1 v.2.1 (fun y0 => k (.exit 0) ⟨fillS 18 [3] [(.ref [1, 0])], [([1, 0], ⟨23, 1, (.data Ty0 y0)⟩)], 2⟩)
theorem flow_graph_L0.step (S : T_flow_graph_L0) (F0 : T_flow_Next) : ∀ v k, exR 20 Try.f20 0 flow_graph_L0.p [⟨flow_Next.p, flow_Next.g F0⟩] [] [] (flow_graph_L0.g S) v k = flow_graph_L0.g (flow_graph_L0.body S F0) v k := fun v k => by kernel_rfl
theorem flow_graph_L0.ok : okL 20 Try.f20 6 0 flow_graph_L0.p (flow_graph_L0.g (flow_graph_L0 ROUNDS)) := loop2 (G := fun n => flow_graph_L0.g (flow_graph_L0 n)) (fun n => flow_graph_L0.step (flow_graph_L0 n) flow_Next) (.cons flow_Next.ok .nil) [] (by kernel_rfl) .nil (fun _ _ => rfl)
/-- function 20: sheerleg/flow.graph -/
abbrev T_flow_graph : Type := Tc1 → ((List (List Int)) → Option Bool) → Option Bool
noncomputable def flow_graph.body (flow_graph_L0 : T_flow_graph_L0) : T_flow_graph := fun ts138 k1 =>
  (flow_graph_L0 ts138 (List.length ts138 : Int) (0 : Int) []
  (fun ls144 => (k1 ls144)))
noncomputable def flow_graph : T_flow_graph := flow_graph.body (flow_graph_L0 ROUNDS)
def flow_graph.p : FPat := fp 20 (pl (pb 0 35 Ty1) pz) pz
def flow_graph.g (F : T_flow_graph) (v : flow_graph.p.T) (k : KR) : Option Bool := F v.1.1 (fun y0 => k (.ref [1, 0]) [([1, 0], ⟨23, 1, (.data Ty0 y0)⟩)])
theorem flow_graph.eq (L0 : T_flow_graph_L0) : ∀ v k, exF Try.f20 flow_graph.p [] [] [⟨0, flow_graph_L0.p, flow_graph_L0.g L0⟩] v k = flow_graph.g (flow_graph.body L0) v k := fun v k => by kernel_rfl
theorem flow_graph.ok : okF 7 flow_graph.p (flow_graph.g flow_graph) := fn2 (flow_graph.eq (flow_graph_L0 ROUNDS)) Try.func20 (by kernel_rfl) .nil [0] (by kernel_rfl) (.cons flow_graph_L0.ok .nil)
/-- function 22: sheerleg/flow.Check$1 -/
abbrev T_flow_Checkfn1 : Type := Int → Tc1 → (Bool → Tc1 → Option Bool) → Option Bool
noncomputable def flow_Checkfn1.body : T_flow_Checkfn1 := fun n158 l159 k1 =>
  (cond_ (! (decide (n158 < (0 : Int)))) (k1 (decide (n158 ≥ (List.length l159 : Int))) l159) (k1 true l159))
noncomputable def flow_Checkfn1 : T_flow_Checkfn1 := flow_Checkfn1.body
def flow_Checkfn1.p : FPat := fp 22 (pl (pd (.int .i64)) (ps (pq [0, 0] 0 0) pz)) (pl (po [0, 0] 22 1 (es Ty2 (pl eh pz))) pz)
def flow_Checkfn1.g (F : T_flow_Checkfn1) (v : flow_Checkfn1.p.T) (k : KR) : Option Bool := F v.1.1 v.2.1.1 (fun y0 y1 => k (.d ⟨.bool, y0⟩) [([0, 0], ⟨22, 1, (.data Ty2 [y1])⟩)])
theorem flow_Checkfn1.eq : ∀ v k, exF Try.f22 flow_Checkfn1.p [] [] [] v k = flow_Checkfn1.g (flow_Checkfn1.body) v k := fun v k => by kernel_rfl
theorem flow_Checkfn1.ok : okF 1 flow_Checkfn1.p (flow_Checkfn1.g flow_Checkfn1) := fn2 (flow_Checkfn1.eq) Try.func22 (by kernel_rfl) .nil [] (by kernel_rfl) .nil
/-- function 29: the loop in block 0 -/
abbrev T_slices_IndexFunc_int_int_L0 : Type := (List Int) → Int → Int → Tc1 → (Int → Tc1 → Option Bool) → (Tc1 → Option Bool) → Option Bool
noncomputable def slices_IndexFunc_int_int_L0.body (slices_IndexFunc_int_int_L0 : T_slices_IndexFunc_int_int_L0) (flow_Checkfn1 : T_flow_Checkfn1) : T_slices_IndexFunc_int_int_L0 := fun ns154 n155 n156 l157 k1 k2 =>
  (cond_ (decide (n156 < n155)) (cond_ ((decide ((0 : Int) ≤ n156)) && (decide (n156 < (List.length ns154 : Int)))) (flow_Checkfn1 (List.getD ns154 (Int.toNat n156) (0 : Int)) l157
  (fun b160 l161 => (cond_ b160 (k1 n156 l161) (slices_IndexFunc_int_int_L0 ns154 n155 (IntKind.wrap .i64 (n156 + (1 : Int))) l161 k1 k2)))) none) (k2 l157))
noncomputable def slices_IndexFunc_int_int_L0 : Nat → T_slices_IndexFunc_int_int_L0
  | 0 => fun _ _ _ _ _ _ => none
  | n + 1 => slices_IndexFunc_int_int_L0.body (slices_IndexFunc_int_int_L0 n) flow_Checkfn1
def slices_IndexFunc_int_int_L0.p : LPat := lp 2 19 [0, 1, 7, 8] (pl (pb 0 3 (.int .i64)) (pl (pf 22 pz (ps (pq [0, 0] 0 0) pz)) (pl (pd (.int .i64)) (pl (pd (.int .i64)) pz)))) (pl (po [0, 0] 22 1 (es Ty2 (pl eh pz))) pz)
def slices_IndexFunc_int_int_L0.g (F : T_slices_IndexFunc_int_int_L0) (v : slices_IndexFunc_int_int_L0.p.T) (k : KE) : Option Bool := F v.1.1 v.1.2.2.1 v.1.2.2.2.1 v.2.1.1 (fun y0 y1 => k .ret ⟨fillS 19 [4] [(.d ⟨(.int .i64), y0⟩)], [([0, 0], ⟨22, 1, (.data Ty2 [y1])⟩)], 2⟩) (fun y0 => k (.exit 0) ⟨fillS 19 [] [], [([0, 0], ⟨22, 1, (.data Ty2 [y0])⟩)], 2⟩)
theorem slices_IndexFunc_int_int_L0.step (S : T_slices_IndexFunc_int_int_L0) (F0 : T_flow_Checkfn1) : ∀ v k, exR 29 Try.f29 0 slices_IndexFunc_int_int_L0.p [⟨flow_Checkfn1.p, flow_Checkfn1.g F0⟩] [] [] (slices_IndexFunc_int_int_L0.g S) v k = slices_IndexFunc_int_int_L0.g (slices_IndexFunc_int_int_L0.body S F0) v k := fun v k => by kernel_rfl
theorem slices_IndexFunc_int_int_L0.ok : okL 29 Try.f29 1 0 slices_IndexFunc_int_int_L0.p (slices_IndexFunc_int_int_L0.g (slices_IndexFunc_int_int_L0 ROUNDS)) := loop2 (G := fun n => slices_IndexFunc_int_int_L0.g (slices_IndexFunc_int_int_L0 n)) (fun n => slices_IndexFunc_int_int_L0.step (slices_IndexFunc_int_int_L0 n) flow_Checkfn1) (.cons flow_Checkfn1.ok .nil) [] (by kernel_rfl) .nil (fun _ _ => rfl)
/-- function 29: slices.IndexFunc[[]int,int] -/
abbrev T_slices_IndexFunc_int_int : Type := (List Int) → Tc1 → (Int → Tc1 → Option Bool) → Option Bool
noncomputable def slices_IndexFunc_int_int.body (slices_IndexFunc_int_int_L0 : T_slices_IndexFunc_int_int_L0) : T_slices_IndexFunc_int_int := fun ns152 l153 k1 =>
  (slices_IndexFunc_int_int_L0 ns152 (List.length ns152 : Int) (0 : Int) l153
  (fun n162 l163 => (k1 n162 l163))
  (fun l164 => (k1 (-1 : Int) l164)))
noncomputable def slices_IndexFunc_int_int : T_slices_IndexFunc_int_int := slices_IndexFunc_int_int.body (slices_IndexFunc_int_int_L0 ROUNDS)
def slices_IndexFunc_int_int.p : FPat := fp 29 (pl (pb 0 3 (.int .i64)) (pl (pf 22 pz (ps (pq [0, 0] 0 0) pz)) pz)) (pl (po [0, 0] 22 1 (es Ty2 (pl eh pz))) pz)
def slices_IndexFunc_int_int.g (F : T_slices_IndexFunc_int_int) (v : slices_IndexFunc_int_int.p.T) (k : KR) : Option Bool := F v.1.1 v.2.1.1 (fun y0 y1 => k (.d ⟨(.int .i64), y0⟩) [([0, 0], ⟨22, 1, (.data Ty2 [y1])⟩)])
theorem slices_IndexFunc_int_int.eq (L0 : T_slices_IndexFunc_int_int_L0) : ∀ v k, exF Try.f29 slices_IndexFunc_int_int.p [] [] [⟨0, slices_IndexFunc_int_int_L0.p, slices_IndexFunc_int_int_L0.g L0⟩] v k = slices_IndexFunc_int_int.g (slices_IndexFunc_int_int.body L0) v k := fun v k => by kernel_rfl
theorem slices_IndexFunc_int_int.ok : okF 2 slices_IndexFunc_int_int.p (slices_IndexFunc_int_int.g slices_IndexFunc_int_int) := fn2 (slices_IndexFunc_int_int.eq (slices_IndexFunc_int_int_L0 ROUNDS)) Try.func29 (by kernel_rfl) .nil [0] (by kernel_rfl) (.cons slices_IndexFunc_int_int_L0.ok .nil)
/-- function 21: slices.ContainsFunc[[]int,int] -/
abbrev T_slices_ContainsFunc_int_int : Type := (List Int) → Tc1 → (Bool → Tc1 → Option Bool) → Option Bool
noncomputable def slices_ContainsFunc_int_int.body (slices_IndexFunc_int_int : T_slices_IndexFunc_int_int) : T_slices_ContainsFunc_int_int := fun ns150 l151 k1 =>
  (slices_IndexFunc_int_int ns150 l151
  (fun n165 l166 => (k1 (decide (n165 ≥ (0 : Int))) l166)))
noncomputable def slices_ContainsFunc_int_int : T_slices_ContainsFunc_int_int := slices_ContainsFunc_int_int.body slices_IndexFunc_int_int
def slices_ContainsFunc_int_int.p : FPat := fp 21 (pl (pb 0 3 (.int .i64)) (pl (pf 22 pz (ps (pq [0, 0] 0 0) pz)) pz)) (pl (po [0, 0] 22 1 (es Ty2 (pl eh pz))) pz)
def slices_ContainsFunc_int_int.g (F : T_slices_ContainsFunc_int_int) (v : slices_ContainsFunc_int_int.p.T) (k : KR) : Option Bool := F v.1.1 v.2.1.1 (fun y0 y1 => k (.d ⟨.bool, y0⟩) [([0, 0], ⟨22, 1, (.data Ty2 [y1])⟩)])
theorem slices_ContainsFunc_int_int.eq (F0 : T_slices_IndexFunc_int_int) : ∀ v k, exF Try.f21 slices_ContainsFunc_int_int.p [⟨slices_IndexFunc_int_int.p, slices_IndexFunc_int_int.g F0⟩] [] [] v k = slices_ContainsFunc_int_int.g (slices_ContainsFunc_int_int.body F0) v k := fun v k => by kernel_rfl
theorem slices_ContainsFunc_int_int.ok : okF 3 slices_ContainsFunc_int_int.p (slices_ContainsFunc_int_int.g slices_ContainsFunc_int_int) := fn2 (slices_ContainsFunc_int_int.eq slices_IndexFunc_int_int) Try.func21 (by kernel_rfl) (.cons slices_IndexFunc_int_int.ok .nil) [] (by kernel_rfl) .nil
/-- function 9: the loop in block 1 -/
abbrev T_flow_Check_L1 : Type := Int → Int → Tc1 → (List (List Int)) → (Int → Option Bool) → (Option Bool) → Option Bool
noncomputable def flow_Check_L1.body (flow_Check_L1 : T_flow_Check_L1) (slices_ContainsFunc_int_int : T_slices_ContainsFunc_int_int) : T_flow_Check_L1 := fun n146 n147 l148 ls149 k1 k2 =>
  (cond_ (decide (n147 < n146)) (cond_ ((decide ((0 : Int) ≤ n147)) && (decide (n147 < (List.length ls149 : Int)))) (slices_ContainsFunc_int_int (List.getD ls149 (Int.toNat n147) []) l148
  (fun b167 l168 => (cond_ b167 (k1 (10 : Int)) (flow_Check_L1 n146 (IntKind.wrap .i64 (n147 + (1 : Int))) l168 ls149 k1 k2)))) none) (k2))
noncomputable def flow_Check_L1 : Nat → T_flow_Check_L1
  | 0 => fun _ _ _ _ _ _ => none
  | n + 1 => flow_Check_L1.body (flow_Check_L1 n) slices_ContainsFunc_int_int
def flow_Check_L1.p : LPat := lp 2 24 [1, 14, 15, 16] (ps (pq [1, 0] 0 0) (ps (pr [1, 1]) (pl (pd (.int .i64)) (pl (pd (.int .i64)) pz)))) (pl (po [1, 0] 22 1 (es Ty2 (pl eh pz))) (pl (po [1, 1] 23 1 (ed Ty0)) pz))
def flow_Check_L1.g (F : T_flow_Check_L1) (v : flow_Check_L1.p.T) (k : KE) : Option Bool := F v.1.1 v.1.2.1 v.2.1.1 v.2.2.1 (fun y0 => k .ret ⟨fillS 24 [2] [(.d ⟨(.int .i64), y0⟩)], [], 2⟩) (k (.exit 1) ⟨fillS 24 [] [], [], 2⟩)
theorem flow_Check_L1.step (S : T_flow_Check_L1) (F0 : T_slices_ContainsFunc_int_int) : ∀ v k, exR 9 Try.f9 1 flow_Check_L1.p [⟨slices_ContainsFunc_int_int.p, slices_ContainsFunc_int_int.g F0⟩] [] [] (flow_Check_L1.g S) v k = flow_Check_L1.g (flow_Check_L1.body S F0) v k := fun v k => by kernel_rfl
theorem flow_Check_L1.ok : okL 9 Try.f9 3 1 flow_Check_L1.p (flow_Check_L1.g (flow_Check_L1 ROUNDS)) := loop2 (G := fun n => flow_Check_L1.g (flow_Check_L1 n)) (fun n => flow_Check_L1.step (flow_Check_L1 n) slices_ContainsFunc_int_int) (.cons slices_ContainsFunc_int_int.ok .nil) [] (by kernel_rfl) .nil (fun _ _ => rfl)
/-- function 9: sheerleg/flow.Check -/
abbrev T_flow_Check : Type := Tc1 → (Int → Option Bool) → Option Bool
noncomputable def flow_Check.body (flow_graph : T_flow_graph) (flow_Check_L1 : T_flow_Check_L1) : T_flow_Check := fun ts137 k1 =>
  (cond_ ((List.length ts137 : Int) == (0 : Int)) (k1 (3 : Int)) (cond_ (decide ((List.length ts137 : Int) > (64 : Int))) (k1 (6 : Int)) (flow_graph ts137
  (fun ls145 => (flow_Check_L1 (List.length ls145 : Int) (0 : Int) ts137 ls145
  (fun n169 => (k1 n169))
  (k1 (0 : Int)))))))
noncomputable def flow_Check : T_flow_Check := flow_Check.body flow_graph (flow_Check_L1 ROUNDS)
def flow_Check.p : FPat := fp 9 (pl (pb 0 35 Ty1) pz) pz
def flow_Check.g (F : T_flow_Check) (v : flow_Check.p.T) (k : KR) : Option Bool := F v.1.1 (fun y0 => k (.d ⟨(.int .i64), y0⟩) [])
theorem flow_Check.eq (F0 : T_flow_graph) (L0 : T_flow_Check_L1) : ∀ v k, exF Try.f9 flow_Check.p [⟨flow_graph.p, flow_graph.g F0⟩] [] [⟨1, flow_Check_L1.p, flow_Check_L1.g L0⟩] v k = flow_Check.g (flow_Check.body F0 L0) v k := fun v k => by kernel_rfl
theorem flow_Check.ok : okF 8 flow_Check.p (flow_Check.g flow_Check) := fn2 (flow_Check.eq flow_graph (flow_Check_L1 ROUNDS)) Try.func9 (by kernel_rfl) (.cons flow_graph.ok .nil) [1] (by kernel_rfl) (.cons flow_Check_L1.ok .nil)
/-- function 10: the loop in block 2 -/
abbrev T_ref14_Check_L0_L2 : Type := Tc1 → Int → Int → (List Int) → (Int → Option Bool) → (Tc1 → Int → Option Bool) → Option Bool
noncomputable def ref14_Check_L0_L2.body (ref14_Check_L0_L2 : T_ref14_Check_L0_L2) : T_ref14_Check_L0_L2 := fun ts175 n176 n177 ns178 k1 k2 =>
  (cond_ (decide (n177 < (List.length ns178 : Int))) (cond_ ((decide ((0 : Int) ≤ n177)) && (decide (n177 < (List.length ns178 : Int)))) (cond_ (! (decide ((List.getD ns178 (Int.toNat n177) (0 : Int)) < (0 : Int)))) (cond_ ((decide ((0 : Int) ≤ n177)) && (decide (n177 < (List.length ns178 : Int)))) (cond_ (decide ((List.getD ns178 (Int.toNat n177) (0 : Int)) ≥ (List.length ts175 : Int))) (k1 (10 : Int)) (ref14_Check_L0_L2 ts175 n176 (IntKind.wrap .i64 (n177 + (1 : Int))) ns178 k1 k2)) none) (k1 (10 : Int))) none) (k2 ts175 n176))
noncomputable def ref14_Check_L0_L2 : Nat → T_ref14_Check_L0_L2
  | 0 => fun _ _ _ _ _ _ => none
  | n + 1 => ref14_Check_L0_L2.body (ref14_Check_L0_L2 n)
def ref14_Check_L0_L2.p : LPat := lp 2 41 [0, 3, 4, 5] (pl (pb 0 35 Ty1) (pl (pd (.int .i64)) (ps (pr [1, 0]) (pl (pd (.int .i64)) pz)))) (pl (po [1, 0] 3 1 (ed (.int .i64))) pz)
def ref14_Check_L0_L2.g (F : T_ref14_Check_L0_L2) (v : ref14_Check_L0_L2.p.T) (k : KE) : Option Bool := F v.1.1 v.1.2.1 v.1.2.2.1 v.2.1 (fun y0 => k .ret ⟨fillS 41 [2] [(.d ⟨(.int .i64), y0⟩)], [], 2⟩) (fun y0 y1 => k (.exit 2) ⟨fillS 41 [0, 3] [(.bv 0 35 Ty1 y0), (.d ⟨(.int .i64), y1⟩)], [], 2⟩)
theorem ref14_Check_L0_L2.step (S : T_ref14_Check_L0_L2) : ∀ v k, exR 10 Try.f10 2 ref14_Check_L0_L2.p [] [] [] (ref14_Check_L0_L2.g S) v k = ref14_Check_L0_L2.g (ref14_Check_L0_L2.body S) v k := fun v k => by kernel_rfl
theorem ref14_Check_L0_L2.ok : okL 10 Try.f10 0 2 ref14_Check_L0_L2.p (ref14_Check_L0_L2.g (ref14_Check_L0_L2 ROUNDS)) := loop2 (G := fun n => ref14_Check_L0_L2.g (ref14_Check_L0_L2 n)) (fun n => ref14_Check_L0_L2.step (ref14_Check_L0_L2 n)) .nil [] (by kernel_rfl) .nil (fun _ _ => rfl)
/-- function 10: the loop in block 0 -/
abbrev T_ref14_Check_L0 : Type := Tc1 → Int → (Int → Option Bool) → (Option Bool) → Option Bool
noncomputable def ref14_Check_L0.body (ref14_Check_L0 : T_ref14_Check_L0) (ref14_Next : T_ref14_Next) (ref14_Check_L0_L2 : T_ref14_Check_L0_L2) : T_ref14_Check_L0 := fun ts172 n173 k1 k2 =>
  (cond_ (decide (n173 < (List.length ts172 : Int))) (ref14_Next ts172 n173
  (fun ns174 => (ref14_Check_L0_L2 ts172 n173 (0 : Int) ns174
  (fun n179 => (k1 n179))
  (fun ts180 n181 => (ref14_Check_L0 ts180 (IntKind.wrap .i64 (n181 + (1 : Int))) k1 k2))))) (k2))
noncomputable def ref14_Check_L0 : Nat → T_ref14_Check_L0
  | 0 => fun _ _ _ _ => none
  | n + 1 => ref14_Check_L0.body (ref14_Check_L0 n) ref14_Next (ref14_Check_L0_L2 ROUNDS)
def ref14_Check_L0.p : LPat := lp 2 41 [0, 3] (pl (pb 0 35 Ty1) (pl (pd (.int .i64)) pz)) pz
def ref14_Check_L0.g (F : T_ref14_Check_L0) (v : ref14_Check_L0.p.T) (k : KE) : Option Bool := F v.1.1 v.1.2.1 (fun y0 => k .ret ⟨fillS 41 [2] [(.d ⟨(.int .i64), y0⟩)], [], 2⟩) (k (.exit 0) ⟨fillS 41 [] [], [], 2⟩)
theorem ref14_Check_L0.step (S : T_ref14_Check_L0) (F0 : T_ref14_Next) (L0 : T_ref14_Check_L0_L2) : ∀ v k, exR 10 Try.f10 0 ref14_Check_L0.p [⟨ref14_Next.p, ref14_Next.g F0⟩] [] [⟨2, ref14_Check_L0_L2.p, ref14_Check_L0_L2.g L0⟩] (ref14_Check_L0.g S) v k = ref14_Check_L0.g (ref14_Check_L0.body S F0 L0) v k := fun v k => by kernel_rfl
theorem ref14_Check_L0.ok : okL 10 Try.f10 4 0 ref14_Check_L0.p (ref14_Check_L0.g (ref14_Check_L0 ROUNDS)) := loop2 (G := fun n => ref14_Check_L0.g (ref14_Check_L0 n)) (fun n => ref14_Check_L0.step (ref14_Check_L0 n) ref14_Next (ref14_Check_L0_L2 ROUNDS)) (.cons ref14_Next.ok .nil) [2] (by kernel_rfl) (.cons ref14_Check_L0_L2.ok .nil) (fun _ _ => rfl)
/-- function 10: sheerleg/sheerlegref14.Check -/
abbrev T_ref14_Check : Type := Tc1 → (Int → Option Bool) → Option Bool
noncomputable def ref14_Check.body (ref14_Check_L0 : T_ref14_Check_L0) : T_ref14_Check := fun ts171 k1 =>
  (cond_ ((List.length ts171 : Int) == (0 : Int)) (k1 (3 : Int)) (cond_ (decide ((List.length ts171 : Int) > (64 : Int))) (k1 (6 : Int)) (ref14_Check_L0 ts171 (0 : Int)
  (fun n182 => (k1 n182))
  (k1 (0 : Int)))))
noncomputable def ref14_Check : T_ref14_Check := ref14_Check.body (ref14_Check_L0 ROUNDS)
def ref14_Check.p : FPat := fp 10 (pl (pb 0 35 Ty1) pz) pz
def ref14_Check.g (F : T_ref14_Check) (v : ref14_Check.p.T) (k : KR) : Option Bool := F v.1.1 (fun y0 => k (.d ⟨(.int .i64), y0⟩) [])
theorem ref14_Check.eq (L0 : T_ref14_Check_L0) : ∀ v k, exF Try.f10 ref14_Check.p [] [] [⟨0, ref14_Check_L0.p, ref14_Check_L0.g L0⟩] v k = ref14_Check.g (ref14_Check.body L0) v k := fun v k => by kernel_rfl
theorem ref14_Check.ok : okF 5 ref14_Check.p (ref14_Check.g ref14_Check) := fn2 (ref14_Check.eq (ref14_Check_L0 ROUNDS)) Try.func10 (by kernel_rfl) .nil [0] (by kernel_rfl) (.cons ref14_Check_L0.ok .nil)
/-- function 23: the loop in block 0 -/
abbrev T_digraph_Reach_L0 : Type := (List (List Int)) → (List Int) → Int → Int → (List Bool) → (List Int) → ((List (List Int)) → (List Bool) → (List Int) → Option Bool) → Option Bool
noncomputable def digraph_Reach_L0.body (digraph_Reach_L0 : T_digraph_Reach_L0) : T_digraph_Reach_L0 := fun ls231 ns232 n233 n234 bs235 ns236 k1 =>
  (cond_ (decide (n234 < n233)) (cond_ ((decide ((0 : Int) ≤ n234)) && (decide (n234 < (List.length ns232 : Int)))) (cond_ (decide ((List.getD ns232 (Int.toNat n234) (0 : Int)) ≥ (0 : Int))) (cond_ (decide ((List.getD ns232 (Int.toNat n234) (0 : Int)) < (List.length ls231 : Int))) (cond_ (Nat.ble (((List.length ns236) + (List.length ((List.getD ns232 (Int.toNat n234) (0 : Int)) :: []))) * (8 : Nat)) (140737488355328 : Nat)) (digraph_Reach_L0 ls231 ns232 n233 (IntKind.wrap .i64 (n234 + (1 : Int))) bs235 (ns236 ++ ((List.getD ns232 (Int.toNat n234) (0 : Int)) :: [])) k1) none) (digraph_Reach_L0 ls231 ns232 n233 (IntKind.wrap .i64 (n234 + (1 : Int))) bs235 ns236 k1)) (digraph_Reach_L0 ls231 ns232 n233 (IntKind.wrap .i64 (n234 + (1 : Int))) bs235 ns236 k1)) none) (k1 ls231 bs235 ns236))
noncomputable def digraph_Reach_L0 : Nat → T_digraph_Reach_L0
  | 0 => fun _ _ _ _ _ _ _ => none
  | n + 1 => digraph_Reach_L0.body (digraph_Reach_L0 n)
def digraph_Reach_L0.p : LPat := lp 2 63 [0, 5, 6, 10, 14, 15, 16, 57] (pl (pb 1 23 Ty0) (ps (pr [1, 0]) (ps (pq [1, 1] 0 0) (ps (pk 3) (pl (pb 2 3 (.int .i64)) (pl (pd (.int .i64)) (pl (pd (.int .i64)) (ps (pk 3) pz)))))))) (pl (po [1, 0] 4 1 (ed .bool)) (ps (po [1, 1] 23 1 (em (ps (pr [1, 2]) pz))) (pl (po [1, 2] 3 1 (ed (.int .i64))) pz)))
def digraph_Reach_L0.g (F : T_digraph_Reach_L0) (v : digraph_Reach_L0.p.T) (k : KE) : Option Bool := F v.1.1 v.1.2.1 v.1.2.2.1 v.1.2.2.2.1 v.2.1 v.2.2.1 (fun y0 y1 y2 => k (.exit 0) ⟨fillS 63 [0, 5, 6, 10, 57] [(.bv 1 23 Ty0 y0), (.ref [1, 0]), (.ptr [1, 1] 0 0), .undef, .undef], [([1, 0], ⟨4, 1, (.data .bool y1)⟩), ([1, 1], ⟨23, 1, (.mix [(.ref [1, 2])])⟩), ([1, 2], ⟨3, 1, (.data (.int .i64) y2)⟩)], 2⟩)
theorem digraph_Reach_L0.step (S : T_digraph_Reach_L0) : ∀ v k, exR 23 Try.f23 0 digraph_Reach_L0.p [] [] [] (digraph_Reach_L0.g S) v k = digraph_Reach_L0.g (digraph_Reach_L0.body S) v k := fun v k => by kernel_rfl
theorem digraph_Reach_L0.ok : okL 23 Try.f23 0 0 digraph_Reach_L0.p (digraph_Reach_L0.g (digraph_Reach_L0 ROUNDS)) := loop2 (G := fun n => digraph_Reach_L0.g (digraph_Reach_L0 n)) (fun n => digraph_Reach_L0.step (digraph_Reach_L0 n)) .nil [] (by kernel_rfl) .nil (fun _ _ => rfl)
/-- function 30: sheerleg/digraph.ends -/
abbrev T_digraph_ends : Type := (List (List Int)) → Int → ((List (List Int)) → Int → Option Bool) → Option Bool
noncomputable def digraph_ends.body : T_digraph_ends := fun ls243 n244 k1 =>
  (k1 ls243 n244)
noncomputable def digraph_ends : T_digraph_ends := digraph_ends.body
def digraph_ends.p : FPat := fp 30 (pl (pb 1 23 Ty0) (pl (pd (.int .i64)) pz)) pz
def digraph_ends.g (F : T_digraph_ends) (v : digraph_ends.p.T) (k : KR) : Option Bool := F v.1.1 v.1.2.1 (fun y0 y1 => k (.fn (.func 43) [] [(.ptr [1, 0] 0 0), (.ptr [1, 1] 0 0)]) [([1, 0], ⟨39, 1, (.mix [(.bv 1 23 Ty0 y0)])⟩), ([1, 1], ⟨3, 1, (.data (.int .i64) [y1])⟩)])
theorem digraph_ends.eq : ∀ v k, exF Try.f30 digraph_ends.p [] [] [] v k = digraph_ends.g (digraph_ends.body) v k := fun v k => by kernel_rfl
theorem digraph_ends.ok : okF 1 digraph_ends.p (digraph_ends.g digraph_ends) := fn2 (digraph_ends.eq) Try.func30 (by kernel_rfl) .nil [] (by kernel_rfl) .nil
/-- function 4296474628: sheerleg/digraph.Reach.round4 -/
abbrev T_digraph_Reach_round4 : Type := Int → Nat → (List Int) → (Bool → (List Int) → Option Bool) → Option Bool
noncomputable def digraph_Reach_round4.body : T_digraph_Reach_round4 := fun n258 m259 ns260 k1 =>
  (cond_ (Nat.ble (((List.length (List.take m259 ns260)) + (List.length (n258 :: []))) * (8 : Nat)) (140737488355328 : Nat)) (k1 true ((List.take m259 ns260) ++ (n258 :: []))) none)
noncomputable def digraph_Reach_round4 : T_digraph_Reach_round4 := digraph_Reach_round4.body
def digraph_Reach_round4.p : FPat := fp 4296474628 (pl (pd (.int .i64)) (ps (pk 4) (ps (pk 4) (ps (pk 4) (ps (pk 4) (ps (pk 4) (ps (pk 4) (ps (pq [0, 0] 0 0) (ps (pk 4) (ps (pk 4) (ps (pk 4) (ps (pk 3) (ps (pk 4) (ps (pk 4) (ps (pk 4) (ps (pk 4) (ps (pk 4) (ps (pk 4) (ps (pk 4) (ps (pk 4) (ps (pk 4) (ps (pk 4) (ps (pk 4) (ps (pk 4) (ps (pk 4) (ps (pk 4) (ps (pk 4) (ps (pk 4) (ps (pk 4) (ps (pk 4) (ps (pk 4) (ps (pk 4) (ps (pk 4) (ps (pk 4) (ps (pk 4) (ps (pk 4) (ps (pk 4) (ps (pk 4) (ps (pk 4) (ps (pk 4) (ps (pk 4) (ps (pk 4) (ps (pk 4) (ps (pk 4) (ps (pk 4) (ps (pk 4) (ps (pk 4) (ps (pk 4) (ps (pk 4) (ps (pk 4) (ps (pk 4) (ps (pk 4) (ps (pk 4) (ps (pk 4) (ps (pk 4) (ps (pk 4) (ps (pk 4) (ps (pk 4) (ps (pk 3) (ps (pk 4) (ps (pk 4) (ps (pk 4) (ps (pk 4) (ps (pk 4) pz)))))))))))))))))))))))))))))))))))))))))))))))))))))))))))))))) (pl (po [0, 0] 23 1 (em (pl (pc [0, 1] (nk 0) nv) pz))) (pl (po [0, 1] 3 1 (ed (.int .i64))) pz))
def digraph_Reach_round4.g (F : T_digraph_Reach_round4) (v : digraph_Reach_round4.p.T) (k : KR) : Option Bool := F v.1.1 v.2.1.1.2 v.2.2.1 (fun y0 y1 => k (.d ⟨.bool, y0⟩) [([0, 0], ⟨23, 1, (.mix [(.ref [1, 0])])⟩), ([1, 0], ⟨3, 1, (.data (.int .i64) y1)⟩)])
theorem digraph_Reach_round4.eq : ∀ v k, exB (rbAt Try.prog 1507332) digraph_Reach_round4.p [] [] [] v k = digraph_Reach_round4.g (digraph_Reach_round4.body) v k := fun v k => by kernel_rfl
theorem digraph_Reach_round4.ok : okF 1 digraph_Reach_round4.p (digraph_Reach_round4.g digraph_Reach_round4) := rnd2 (digraph_Reach_round4.eq) rfl (by kernel_rfl) .nil [] (by kernel_rfl) .nil
/-- function 4296474628: sheerleg/digraph.Reach.round4 -/
abbrev T_digraph_Reach_round4v1 : Type := Int → (List Int) → (Bool → (List Int) → Option Bool) → Option Bool
noncomputable def digraph_Reach_round4v1.body : T_digraph_Reach_round4v1 := fun n294 ns295 k1 =>
  (cond_ (Nat.ble (((List.length ns295) + (List.length (n294 :: []))) * (8 : Nat)) (140737488355328 : Nat)) (k1 true (ns295 ++ (n294 :: []))) none)
noncomputable def digraph_Reach_round4v1 : T_digraph_Reach_round4v1 := digraph_Reach_round4v1.body
def digraph_Reach_round4v1.p : FPat := fp 4296474628 (pl (pd (.int .i64)) (ps (pk 4) (ps (pk 4) (ps (pk 4) (ps (pk 4) (ps (pk 4) (ps (pk 4) (ps (pq [0, 0] 0 0) (ps (pk 4) (ps (pk 4) (ps (pk 4) (ps (pk 3) (ps (pk 4) (ps (pk 4) (ps (pk 4) (ps (pk 4) (ps (pk 4) (ps (pk 4) (ps (pk 4) (ps (pk 4) (ps (pk 4) (ps (pk 4) (ps (pk 4) (ps (pk 4) (ps (pk 4) (ps (pk 4) (ps (pk 4) (ps (pk 4) (ps (pk 4) (ps (pk 4) (ps (pk 4) (ps (pk 4) (ps (pk 4) (ps (pk 4) (ps (pk 4) (ps (pk 4) (ps (pk 4) (ps (pk 4) (ps (pk 4) (ps (pk 4) (ps (pk 4) (ps (pk 4) (ps (pk 4) (ps (pk 4) (ps (pk 4) (ps (pk 4) (ps (pk 4) (ps (pk 4) (ps (pk 4) (ps (pk 4) (ps (pk 4) (ps (pk 4) (ps (pk 4) (ps (pk 4) (ps (pk 4) (ps (pk 4) (ps (pk 4) (ps (pk 4) (ps (pk 3) (ps (pk 4) (ps (pk 4) (ps (pk 4) (ps (pk 4) (ps (pk 4) pz)))))))))))))))))))))))))))))))))))))))))))))))))))))))))))))))) (ps (po [0, 0] 23 1 (em (ps (pr [0, 1]) pz))) (pl (po [0, 1] 3 1 (ed (.int .i64))) pz))
def digraph_Reach_round4v1.g (F : T_digraph_Reach_round4v1) (v : digraph_Reach_round4v1.p.T) (k : KR) : Option Bool := F v.1.1 v.2.1 (fun y0 y1 => k (.d ⟨.bool, y0⟩) [([0, 0], ⟨23, 1, (.mix [(.ref [1, 0])])⟩), ([1, 0], ⟨3, 1, (.data (.int .i64) y1)⟩)])
theorem digraph_Reach_round4v1.eq : ∀ v k, exB (rbAt Try.prog 1507332) digraph_Reach_round4v1.p [] [] [] v k = digraph_Reach_round4v1.g (digraph_Reach_round4v1.body) v k := fun v k => by kernel_rfl
theorem digraph_Reach_round4v1.ok : okF 1 digraph_Reach_round4v1.p (digraph_Reach_round4v1.g digraph_Reach_round4v1) := rnd2 (digraph_Reach_round4v1.eq) rfl (by kernel_rfl) .nil [] (by kernel_rfl) .nil
/-- function 43: the loop in block 0 -/
abbrev T_digraph_endsfn1_L0 : Type := (List Int) → Int → Int → (List (List Int)) → Int → (List Int) → ((List (List Int)) → Int → (List Int) → Option Bool) → ((List (List Int)) → Int → (List Int) → Option Bool) → Option Bool
noncomputable def digraph_endsfn1_L0.body (digraph_endsfn1_L0 : T_digraph_endsfn1_L0) (digraph_Reach_round4v1 : T_digraph_Reach_round4v1) : T_digraph_endsfn1_L0 := fun l288 n289 n290 ls291 n292 ns293 k1 k2 =>
  (cond_ (decide (n290 < n289)) (cond_ ((decide ((0 : Int) ≤ n290)) && (decide (n290 < (List.length l288 : Int)))) (cond_ (decide ((List.getD l288 (Int.toNat n290) (0 : Int)) ≥ (0 : Int))) (cond_ (decide ((List.getD l288 (Int.toNat n290) (0 : Int)) < (List.length ls291 : Int))) (digraph_Reach_round4v1 (List.getD l288 (Int.toNat n290) (0 : Int)) ns293
  (fun b296 ns297 => (cond_ (! b296) (k1 ls291 n292 ns297) (digraph_endsfn1_L0 l288 n289 (IntKind.wrap .i64 (n290 + (1 : Int))) ls291 n292 ns297 k1 k2)))) (digraph_endsfn1_L0 l288 n289 (IntKind.wrap .i64 (n290 + (1 : Int))) ls291 n292 ns293 k1 k2)) (digraph_endsfn1_L0 l288 n289 (IntKind.wrap .i64 (n290 + (1 : Int))) ls291 n292 ns293 k1 k2)) none) (k2 ls291 n292 ns293))
noncomputable def digraph_endsfn1_L0 : Nat → T_digraph_endsfn1_L0
  | 0 => fun _ _ _ _ _ _ _ _ => none
  | n + 1 => digraph_endsfn1_L0.body (digraph_endsfn1_L0 n) digraph_Reach_round4v1
def digraph_endsfn1_L0.p : LPat := lp 2 30 [0, 1, 9, 10, 11] (ps (py 98784509952 (ps (pk 4) (ps (pk 4) (ps (pk 4) (ps (pk 4) (ps (pk 4) (ps (pk 4) (ps (pq [0, 0] 0 0) (ps (pk 4) (ps (pk 4) (ps (pk 4) (ps (pk 3) (ps (pk 4) (ps (pk 4) (ps (pk 4) (ps (pk 4) (ps (pk 4) (ps (pk 4) (ps (pk 4) (ps (pk 4) (ps (pk 4) (ps (pk 4) (ps (pk 4) (ps (pk 4) (ps (pk 4) (ps (pk 4) (ps (pk 4) (ps (pk 4) (ps (pk 4) (ps (pk 4) (ps (pk 4) (ps (pk 4) (ps (pk 4) (ps (pk 4) (ps (pk 4) (ps (pk 4) (ps (pk 4) (ps (pk 4) (ps (pk 4) (ps (pk 4) (ps (pk 4) (ps (pk 4) (ps (pk 4) (ps (pk 4) (ps (pk 4) (ps (pk 4) (ps (pk 4) (ps (pk 4) (ps (pk 4) (ps (pk 4) (ps (pk 4) (ps (pk 4) (ps (pk 4) (ps (pk 4) (ps (pk 4) (ps (pk 4) (ps (pk 4) (ps (pk 4) (ps (pk 3) (ps (pk 4) (ps (pk 4) (ps (pk 4) (ps (pk 4) (ps (pk 4) pz)))))))))))))))))))))))))))))))))))))))))))))))))))))))))))))))) (ps (pq [0, 2] 0 0) (pl (pd Ty0) (pl (pd (.int .i64)) (pl (pd (.int .i64)) pz))))) (ps (po [0, 0] 23 1 (em (ps (pr [1, 0]) pz))) (pl (po [0, 2] 39 1 (em (pl (pb 1 23 Ty0) pz))) (pl (po [0, 3] 3 1 (es (.int .i64) (pl eh pz))) (pl (po [1, 0] 3 1 (ed (.int .i64))) pz))))
def digraph_endsfn1_L0.g (F : T_digraph_endsfn1_L0) (v : digraph_endsfn1_L0.p.T) (k : KE) : Option Bool := F v.1.1 v.1.2.1 v.1.2.2.1 v.2.1.1 v.2.2.1.1 v.2.2.2.1 (fun y0 y1 y2 => k .ret ⟨fillS 30 [] [], [([0, 0], ⟨23, 1, (.mix [(.ref [1, 0])])⟩), ([0, 2], ⟨39, 1, (.mix [(.bv 1 23 Ty0 y0)])⟩), ([0, 3], ⟨3, 1, (.data (.int .i64) [y1])⟩), ([1, 0], ⟨3, 1, (.data (.int .i64) y2)⟩)], 2⟩) (fun y0 y1 y2 => k (.exit 0) ⟨fillS 30 [] [], [([0, 0], ⟨23, 1, (.mix [(.ref [1, 0])])⟩), ([0, 2], ⟨39, 1, (.mix [(.bv 1 23 Ty0 y0)])⟩), ([0, 3], ⟨3, 1, (.data (.int .i64) [y1])⟩), ([1, 0], ⟨3, 1, (.data (.int .i64) y2)⟩)], 2⟩)
theorem digraph_endsfn1_L0.step (S : T_digraph_endsfn1_L0) (F0 : T_digraph_Reach_round4v1) : ∀ v k, exR 43 Try.f43 0 digraph_endsfn1_L0.p [⟨digraph_Reach_round4v1.p, digraph_Reach_round4v1.g F0⟩] [] [] (digraph_endsfn1_L0.g S) v k = digraph_endsfn1_L0.g (digraph_endsfn1_L0.body S F0) v k := fun v k => by kernel_rfl
theorem digraph_endsfn1_L0.ok : okL 43 Try.f43 1 0 digraph_endsfn1_L0.p (digraph_endsfn1_L0.g (digraph_endsfn1_L0 ROUNDS)) := loop2 (G := fun n => digraph_endsfn1_L0.g (digraph_endsfn1_L0 n)) (fun n => digraph_endsfn1_L0.step (digraph_endsfn1_L0 n) digraph_Reach_round4v1) (.cons digraph_Reach_round4v1.ok .nil) [] (by kernel_rfl) .nil (fun _ _ => rfl)
/-- function 43: sheerleg/digraph.ends$1 -/
abbrev T_digraph_endsfn1 : Type := Nat → (List Int) → (List (List Int)) → Int → ((List (List Int)) → Int → (List Int) → Option Bool) → Option Bool
noncomputable def digraph_endsfn1.body (digraph_endsfn1_L0 : T_digraph_endsfn1_L0) : T_digraph_endsfn1 := fun m284 ns285 ls286 n287 k1 =>
  (cond_ ((decide ((0 : Int) ≤ n287)) && (decide (n287 < (List.length ls286 : Int)))) (digraph_endsfn1_L0 (List.getD ls286 (Int.toNat n287) []) (((List.length (List.getD ls286 (Int.toNat n287) [])) : Nat) : Int) (0 : Int) ls286 n287 (List.take m284 ns285)
  (fun ls298 n299 ns300 => (k1 ls298 n299 ns300))
  (fun ls301 n302 ns303 => (k1 ls301 n302 ns303))) none)
noncomputable def digraph_endsfn1 : T_digraph_endsfn1 := digraph_endsfn1.body (digraph_endsfn1_L0 ROUNDS)
def digraph_endsfn1.p : FPat := fp 43 (ps (py 98784509952 (ps (pk 4) (ps (pk 4) (ps (pk 4) (ps (pk 4) (ps (pk 4) (ps (pk 4) (ps (pq [0, 0] 0 0) (ps (pk 4) (ps (pk 4) (ps (pk 4) (ps (pk 3) (ps (pk 4) (ps (pk 4) (ps (pk 4) (ps (pk 4) (ps (pk 4) (ps (pk 4) (ps (pk 4) (ps (pk 4) (ps (pk 4) (ps (pk 4) (ps (pk 4) (ps (pk 4) (ps (pk 4) (ps (pk 4) (ps (pk 4) (ps (pk 4) (ps (pk 4) (ps (pk 4) (ps (pk 4) (ps (pk 4) (ps (pk 4) (ps (pk 4) (ps (pk 4) (ps (pk 4) (ps (pk 4) (ps (pk 4) (ps (pk 4) (ps (pk 4) (ps (pk 4) (ps (pk 4) (ps (pk 4) (ps (pk 4) (ps (pk 4) (ps (pk 4) (ps (pk 4) (ps (pk 4) (ps (pk 4) (ps (pk 4) (ps (pk 4) (ps (pk 4) (ps (pk 4) (ps (pk 4) (ps (pk 4) (ps (pk 4) (ps (pk 4) (ps (pk 4) (ps (pk 3) (ps (pk 4) (ps (pk 4) (ps (pk 4) (ps (pk 4) (ps (pk 4) pz)))))))))))))))))))))))))))))))))))))))))))))))))))))))))))))))) (ps (pq [0, 2] 0 0) (ps (pq [0, 3] 0 0) pz))) (pl (po [0, 0] 23 1 (em (pl (pc [0, 1] (nk 0) nv) pz))) (pl (po [0, 1] 3 1 (ed (.int .i64))) (pl (po [0, 2] 39 1 (em (pl (pb 1 23 Ty0) pz))) (pl (po [0, 3] 3 1 (es (.int .i64) (pl eh pz))) pz))))
def digraph_endsfn1.g (F : T_digraph_endsfn1) (v : digraph_endsfn1.p.T) (k : KR) : Option Bool := F v.2.1.1.2 v.2.2.1 v.2.2.2.1.1 v.2.2.2.2.1.1 (fun y0 y1 y2 => k (.tup []) [([0, 0], ⟨23, 1, (.mix [(.ref [1, 0])])⟩), ([0, 2], ⟨39, 1, (.mix [(.bv 1 23 Ty0 y0)])⟩), ([0, 3], ⟨3, 1, (.data (.int .i64) [y1])⟩), ([1, 0], ⟨3, 1, (.data (.int .i64) y2)⟩)])
theorem digraph_endsfn1.eq (L0 : T_digraph_endsfn1_L0) : ∀ v k, exF Try.f43 digraph_endsfn1.p [] [] [⟨0, digraph_endsfn1_L0.p, digraph_endsfn1_L0.g L0⟩] v k = digraph_endsfn1.g (digraph_endsfn1.body L0) v k := fun v k => by kernel_rfl
theorem digraph_endsfn1.ok : okF 2 digraph_endsfn1.p (digraph_endsfn1.g digraph_endsfn1) := fn2 (digraph_endsfn1.eq (digraph_endsfn1_L0 ROUNDS)) Try.func43 (by kernel_rfl) .nil [0] (by kernel_rfl) (.cons digraph_endsfn1_L0.ok .nil)
/-- function 23: the loop in block 2 -/
abbrev T_digraph_Reach_L2 : Type := (List (List Int)) → (List Bool) → (List Int) → ((List Bool) → Option Bool) → Option Bool
noncomputable def digraph_Reach_L2.body (digraph_Reach_L2 : T_digraph_Reach_L2) (digraph_ends : T_digraph_ends) (digraph_endsfn1 : T_digraph_endsfn1) : T_digraph_Reach_L2 := fun ls279 bs280 ns281 k1 =>
  (cond_ (decide ((List.length ns281 : Int) > (0 : Int))) (cond_ ((decide ((0 : Int) ≤ (IntKind.wrap .i64 ((List.length ns281 : Int) - (1 : Int))))) && (decide ((IntKind.wrap .i64 ((List.length ns281 : Int) - (1 : Int))) < (List.length ns281 : Int)))) (cond_ ((true && (decide ((0 : Int) ≤ (IntKind.wrap .i64 ((List.length ns281 : Int) - (1 : Int)))))) && (decide ((IntKind.wrap .i64 ((List.length ns281 : Int) - (1 : Int))) ≤ (List.length ns281 : Int)))) (cond_ ((decide ((0 : Int) ≤ (List.getD ns281 (Int.toNat (IntKind.wrap .i64 ((List.length ns281 : Int) - (1 : Int)))) (0 : Int)))) && (decide ((List.getD ns281 (Int.toNat (IntKind.wrap .i64 ((List.length ns281 : Int) - (1 : Int)))) (0 : Int)) < (List.length bs280 : Int)))) (cond_ (List.getD bs280 (Int.toNat (List.getD ns281 (Int.toNat (IntKind.wrap .i64 ((List.length ns281 : Int) - (1 : Int)))) (0 : Int))) false) (digraph_Reach_L2 ls279 bs280 (List.take (Int.toNat ((IntKind.wrap .i64 ((List.length ns281 : Int) - (1 : Int))) - (0 : Int))) ns281) k1) (cond_ ((decide ((0 : Int) ≤ (List.getD ns281 (Int.toNat (IntKind.wrap .i64 ((List.length ns281 : Int) - (1 : Int)))) (0 : Int)))) && (decide ((List.getD ns281 (Int.toNat (IntKind.wrap .i64 ((List.length ns281 : Int) - (1 : Int)))) (0 : Int)) < (List.length bs280 : Int)))) (digraph_ends ls279 (List.getD ns281 (Int.toNat (IntKind.wrap .i64 ((List.length ns281 : Int) - (1 : Int)))) (0 : Int))
  (fun ls282 n283 => (digraph_endsfn1 (Int.toNat ((IntKind.wrap .i64 ((List.length ns281 : Int) - (1 : Int))) - (0 : Int))) ns281 ls282 n283
  (fun ls304 n305 ns306 => (digraph_Reach_L2 ls279 (List.set bs280 (Int.toNat (List.getD ns281 (Int.toNat (IntKind.wrap .i64 ((List.length ns281 : Int) - (1 : Int)))) (0 : Int))) true) ns306 k1))))) none)) none) none) none) (k1 bs280))
noncomputable def digraph_Reach_L2 : Nat → T_digraph_Reach_L2
  | 0 => fun _ _ _ _ => none
  | n + 1 => digraph_Reach_L2.body (digraph_Reach_L2 n) digraph_ends digraph_endsfn1
def digraph_Reach_L2.p : LPat := lp 2 63 [0, 5, 6, 10, 57] (pl (pb 1 23 Ty0) (ps (pr [1, 0]) (ps (pq [1, 1] 0 0) (ps (pk 3) (ps (pk 3) pz))))) (pl (po [1, 0] 4 1 (ed .bool)) (ps (po [1, 1] 23 1 (em (ps (pr [1, 2]) pz))) (pl (po [1, 2] 3 1 (ed (.int .i64))) pz)))
def digraph_Reach_L2.g (F : T_digraph_Reach_L2) (v : digraph_Reach_L2.p.T) (k : KE) : Option Bool := F v.1.1 v.2.1 v.2.2.1 (fun y0 => k (.exit 2) ⟨fillS 63 [5] [(.ref [1, 0])], [([1, 0], ⟨4, 1, (.data .bool y0)⟩)], 2⟩)
theorem digraph_Reach_L2.step (S : T_digraph_Reach_L2) (F0 : T_digraph_ends) (F1 : T_digraph_endsfn1) : ∀ v k, exR 23 Try.f23 2 digraph_Reach_L2.p [⟨digraph_ends.p, digraph_ends.g F0⟩, ⟨digraph_endsfn1.p, digraph_endsfn1.g F1⟩] [] [] (digraph_Reach_L2.g S) v k = digraph_Reach_L2.g (digraph_Reach_L2.body S F0 F1) v k := fun v k => by kernel_rfl
theorem digraph_Reach_L2.ok : okL 23 Try.f23 2 2 digraph_Reach_L2.p (digraph_Reach_L2.g (digraph_Reach_L2 ROUNDS)) := loop2 (G := fun n => digraph_Reach_L2.g (digraph_Reach_L2 n)) (fun n => digraph_Reach_L2.step (digraph_Reach_L2 n) digraph_ends digraph_endsfn1) (.cons digraph_ends.ok (.cons digraph_endsfn1.ok .nil)) [] (by kernel_rfl) .nil (fun _ _ => rfl)
/-- function 23: sheerleg/digraph.Reach -/
abbrev T_digraph_Reach : Type := (List (List Int)) → (List Int) → ((List Bool) → Option Bool) → Option Bool
noncomputable def digraph_Reach.body (digraph_Reach_L0 : T_digraph_Reach_L0) (digraph_Reach_L2 : T_digraph_Reach_L2) : T_digraph_Reach := fun ls274 ns275 k1 =>
  (cond_ (((decide ((0 : Int) ≤ (List.length ls274 : Int))) && (decide ((List.length ls274 : Int) = (List.length ls274 : Int)))) && (Nat.ble ((Int.toNat (List.length ls274 : Int)) * (1 : Nat)) (140737488355328 : Nat))) (digraph_Reach_L0 ls274 ns275 (List.length ns275 : Int) (0 : Int) (List.replicate (Int.toNat (List.length ls274 : Int)) false) []
  (fun ls276 bs277 ns278 => (digraph_Reach_L2 ls276 bs277 ns278
  (fun bs307 => (k1 bs307))))) none)
noncomputable def digraph_Reach : T_digraph_Reach := digraph_Reach.body (digraph_Reach_L0 ROUNDS) (digraph_Reach_L2 ROUNDS)
def digraph_Reach.p : FPat := fp 23 (pl (pb 1 23 Ty0) (pl (pb 2 3 (.int .i64)) pz)) pz
def digraph_Reach.g (F : T_digraph_Reach) (v : digraph_Reach.p.T) (k : KR) : Option Bool := F v.1.1 v.1.2.1 (fun y0 => k (.ref [1, 0]) [([1, 0], ⟨4, 1, (.data .bool y0)⟩)])
theorem digraph_Reach.eq (L0 : T_digraph_Reach_L0) (L1 : T_digraph_Reach_L2) : ∀ v k, exF Try.f23 digraph_Reach.p [] [] [⟨0, digraph_Reach_L0.p, digraph_Reach_L0.g L0⟩, ⟨2, digraph_Reach_L2.p, digraph_Reach_L2.g L1⟩] v k = digraph_Reach.g (digraph_Reach.body L0 L1) v k := fun v k => by kernel_rfl
theorem digraph_Reach.ok : okF 3 digraph_Reach.p (digraph_Reach.g digraph_Reach) := fn2 (digraph_Reach.eq (digraph_Reach_L0 ROUNDS) (digraph_Reach_L2 ROUNDS)) Try.func23 (by kernel_rfl) .nil [0, 2] (by kernel_rfl) (.cons digraph_Reach_L0.ok (.cons digraph_Reach_L2.ok .nil))
/-- function 12: sheerleg/flow.Live -/
abbrev T_flow_Live : Type := Tc1 → ((List Bool) → Option Bool) → Option Bool
noncomputable def flow_Live.body (flow_graph : T_flow_graph) (digraph_Reach : T_digraph_Reach) : T_flow_Live := fun ts272 k1 =>
  (flow_graph ts272
  (fun ls273 => (digraph_Reach ls273 [(0 : Int)]
  (fun bs308 => (k1 bs308)))))
noncomputable def flow_Live : T_flow_Live := flow_Live.body flow_graph digraph_Reach
def flow_Live.p : FPat := fp 12 (pl (pb 0 35 Ty1) pz) pz
def flow_Live.g (F : T_flow_Live) (v : flow_Live.p.T) (k : KR) : Option Bool := F v.1.1 (fun y0 => k (.ref [1, 0]) [([1, 0], ⟨4, 1, (.data .bool y0)⟩)])
theorem flow_Live.eq (F0 : T_flow_graph) (F1 : T_digraph_Reach) : ∀ v k, exF Try.f12 flow_Live.p [⟨flow_graph.p, flow_graph.g F0⟩, ⟨digraph_Reach.p, digraph_Reach.g F1⟩] [] [] v k = flow_Live.g (flow_Live.body F0 F1) v k := fun v k => by kernel_rfl
theorem flow_Live.ok : okF 8 flow_Live.p (flow_Live.g flow_Live) := fn2 (flow_Live.eq flow_graph digraph_Reach) Try.func12 (by kernel_rfl) (.cons flow_graph.ok (.cons digraph_Reach.ok .nil)) [] (by kernel_rfl) .nil
/-- function 25: the loop in block 0 -/
abbrev T_ref14_Graph_L0 : Type := Tc1 → Int → (List (List Int)) → ((List (List Int)) → Option Bool) → Option Bool
noncomputable def ref14_Graph_L0.body (ref14_Graph_L0 : T_ref14_Graph_L0) (ref14_Next : T_ref14_Next) : T_ref14_Graph_L0 := fun ts327 n328 ls329 k1 =>
  (cond_ (decide (n328 < (List.length ts327 : Int))) (ref14_Next ts327 n328
  (fun ns330 => (cond_ (Nat.ble (((List.length ls329) + (List.length (ns330 :: []))) * (24 : Nat)) (140737488355328 : Nat)) (ref14_Graph_L0 ts327 (IntKind.wrap .i64 (n328 + (1 : Int))) (ls329 ++ (ns330 :: [])) k1) none))) (k1 ls329))
noncomputable def ref14_Graph_L0 : Nat → T_ref14_Graph_L0
  | 0 => fun _ _ _ _ => none
  | n + 1 => ref14_Graph_L0.body (ref14_Graph_L0 n) ref14_Next
def ref14_Graph_L0.p : LPat := lp 2 18 [0, 3, 4] (pl (pb 0 35 Ty1) (ps (pr [1, 0]) (pl (pd (.int .i64)) pz))) (pl (po [1, 0] 23 1 (ed Ty0)) pz)
def ref14_Graph_L0.g (F : T_ref14_Graph_L0) (v : ref14_Graph_L0.p.T) (k : KE) : Option Bool := F v.1.1 v.1.2.1 v.2.1 (fun y0 => k (.exit 0) ⟨fillS 18 [3] [(.ref [1, 0])], [([1, 0], ⟨23, 1, (.data Ty0 y0)⟩)], 2⟩)
theorem ref14_Graph_L0.step (S : T_ref14_Graph_L0) (F0 : T_ref14_Next) : ∀ v k, exR 25 Try.f25 0 ref14_Graph_L0.p [⟨ref14_Next.p, ref14_Next.g F0⟩] [] [] (ref14_Graph_L0.g S) v k = ref14_Graph_L0.g (ref14_Graph_L0.body S F0) v k := fun v k => by kernel_rfl
theorem ref14_Graph_L0.ok : okL 25 Try.f25 4 0 ref14_Graph_L0.p (ref14_Graph_L0.g (ref14_Graph_L0 ROUNDS)) := loop2 (G := fun n => ref14_Graph_L0.g (ref14_Graph_L0 n)) (fun n => ref14_Graph_L0.step (ref14_Graph_L0 n) ref14_Next) (.cons ref14_Next.ok .nil) [] (by kernel_rfl) .nil (fun _ _ => rfl)
/-- function 25: sheerleg/sheerlegref14.Graph -/
abbrev T_ref14_Graph : Type := Tc1 → ((List (List Int)) → Option Bool) → Option Bool
noncomputable def ref14_Graph.body (ref14_Graph_L0 : T_ref14_Graph_L0) : T_ref14_Graph := fun ts326 k1 =>
  (ref14_Graph_L0 ts326 (0 : Int) []
  (fun ls331 => (k1 ls331)))
noncomputable def ref14_Graph : T_ref14_Graph := ref14_Graph.body (ref14_Graph_L0 ROUNDS)
def ref14_Graph.p : FPat := fp 25 (pl (pb 0 35 Ty1) pz) pz
def ref14_Graph.g (F : T_ref14_Graph) (v : ref14_Graph.p.T) (k : KR) : Option Bool := F v.1.1 (fun y0 => k (.ref [1, 0]) [([1, 0], ⟨23, 1, (.data Ty0 y0)⟩)])
theorem ref14_Graph.eq (L0 : T_ref14_Graph_L0) : ∀ v k, exF Try.f25 ref14_Graph.p [] [] [⟨0, ref14_Graph_L0.p, ref14_Graph_L0.g L0⟩] v k = ref14_Graph.g (ref14_Graph.body L0) v k := fun v k => by kernel_rfl
theorem ref14_Graph.ok : okF 5 ref14_Graph.p (ref14_Graph.g ref14_Graph) := fn2 (ref14_Graph.eq (ref14_Graph_L0 ROUNDS)) Try.func25 (by kernel_rfl) .nil [0] (by kernel_rfl) (.cons ref14_Graph_L0.ok .nil)
/-- function 24: the loop in block 0 -/
abbrev T_ref10_Reach_L0 : Type := (List (List Int)) → (List Int) → Int → (List Bool) → ((List (List Int)) → (List Bool) → Option Bool) → Option Bool
noncomputable def ref10_Reach_L0.body (ref10_Reach_L0 : T_ref10_Reach_L0) : T_ref10_Reach_L0 := fun ls335 ns336 n337 bs338 k1 =>
  (cond_ (decide (n337 < (List.length ns336 : Int))) (cond_ ((decide ((0 : Int) ≤ n337)) && (decide (n337 < (List.length ns336 : Int)))) (cond_ (decide ((List.getD ns336 (Int.toNat n337) (0 : Int)) ≥ (0 : Int))) (cond_ ((decide ((0 : Int) ≤ n337)) && (decide (n337 < (List.length ns336 : Int)))) (cond_ (decide ((List.getD ns336 (Int.toNat n337) (0 : Int)) < (List.length ls335 : Int))) (cond_ ((decide ((0 : Int) ≤ n337)) && (decide (n337 < (List.length ns336 : Int)))) (cond_ ((decide ((0 : Int) ≤ (List.getD ns336 (Int.toNat n337) (0 : Int)))) && (decide ((List.getD ns336 (Int.toNat n337) (0 : Int)) < (List.length bs338 : Int)))) (ref10_Reach_L0 ls335 ns336 (IntKind.wrap .i64 (n337 + (1 : Int))) (List.set bs338 (Int.toNat (List.getD ns336 (Int.toNat n337) (0 : Int))) true) k1) none) none) (ref10_Reach_L0 ls335 ns336 (IntKind.wrap .i64 (n337 + (1 : Int))) bs338 k1)) none) (ref10_Reach_L0 ls335 ns336 (IntKind.wrap .i64 (n337 + (1 : Int))) bs338 k1)) none) (k1 ls335 bs338))
noncomputable def ref10_Reach_L0 : Nat → T_ref10_Reach_L0
  | 0 => fun _ _ _ _ _ => none
  | n + 1 => ref10_Reach_L0.body (ref10_Reach_L0 n)
def ref10_Reach_L0.p : LPat := lp 2 96 [0, 1, 5, 6] (pl (pb 1 23 Ty0) (pl (pb 2 3 (.int .i64)) (ps (pr [1, 0]) (pl (pd (.int .i64)) pz)))) (pl (po [1, 0] 4 1 (ed .bool)) pz)
def ref10_Reach_L0.g (F : T_ref10_Reach_L0) (v : ref10_Reach_L0.p.T) (k : KE) : Option Bool := F v.1.1 v.1.2.1 v.1.2.2.1 v.2.1 (fun y0 y1 => k (.exit 0) ⟨fillS 96 [0, 5] [(.bv 1 23 Ty0 y0), (.ref [1, 0])], [([1, 0], ⟨4, 1, (.data .bool y1)⟩)], 2⟩)
theorem ref10_Reach_L0.step (S : T_ref10_Reach_L0) : ∀ v k, exR 24 Try.f24 0 ref10_Reach_L0.p [] [] [] (ref10_Reach_L0.g S) v k = ref10_Reach_L0.g (ref10_Reach_L0.body S) v k := fun v k => by kernel_rfl
theorem ref10_Reach_L0.ok : okL 24 Try.f24 0 0 ref10_Reach_L0.p (ref10_Reach_L0.g (ref10_Reach_L0 ROUNDS)) := loop2 (G := fun n => ref10_Reach_L0.g (ref10_Reach_L0 n)) (fun n => ref10_Reach_L0.step (ref10_Reach_L0 n)) .nil [] (by kernel_rfl) .nil (fun _ _ => rfl)
/-- function 24: the loop in block 6 -/
abbrev T_ref10_Reach_L2_L4_L6 : Type := (List (List Int)) → Int → Int → Int → (List Bool) → ((List (List Int)) → Int → Int → (List Bool) → Option Bool) → Option Bool
noncomputable def ref10_Reach_L2_L4_L6.body (ref10_Reach_L2_L4_L6 : T_ref10_Reach_L2_L4_L6) : T_ref10_Reach_L2_L4_L6 := fun ls348 n349 n350 n351 bs352 k1 =>
  (cond_ ((decide ((0 : Int) ≤ n350)) && (decide (n350 < (List.length bs352 : Int)))) (cond_ (List.getD bs352 (Int.toNat n350) false) (cond_ ((decide ((0 : Int) ≤ n350)) && (decide (n350 < (List.length ls348 : Int)))) (cond_ (decide (n351 < (((List.length (List.getD ls348 (Int.toNat n350) [])) : Nat) : Int))) (cond_ ((decide ((0 : Int) ≤ n350)) && (decide (n350 < (List.length ls348 : Int)))) (cond_ ((decide ((0 : Int) ≤ n351)) && (decide (n351 < (((List.length (List.getD ls348 (Int.toNat n350) [])) : Nat) : Int)))) (cond_ (decide ((List.getD (List.getD ls348 (Int.toNat n350) []) (Int.toNat n351) (0 : Int)) ≥ (0 : Int))) (cond_ ((decide ((0 : Int) ≤ n350)) && (decide (n350 < (List.length ls348 : Int)))) (cond_ ((decide ((0 : Int) ≤ n351)) && (decide (n351 < (((List.length (List.getD ls348 (Int.toNat n350) [])) : Nat) : Int)))) (cond_ (decide ((List.getD (List.getD ls348 (Int.toNat n350) []) (Int.toNat n351) (0 : Int)) < (List.length ls348 : Int))) (cond_ ((decide ((0 : Int) ≤ n350)) && (decide (n350 < (List.length ls348 : Int)))) (cond_ ((decide ((0 : Int) ≤ n351)) && (decide (n351 < (((List.length (List.getD ls348 (Int.toNat n350) [])) : Nat) : Int)))) (cond_ ((decide ((0 : Int) ≤ (List.getD (List.getD ls348 (Int.toNat n350) []) (Int.toNat n351) (0 : Int)))) && (decide ((List.getD (List.getD ls348 (Int.toNat n350) []) (Int.toNat n351) (0 : Int)) < (List.length bs352 : Int)))) (ref10_Reach_L2_L4_L6 ls348 n349 n350 (IntKind.wrap .i64 (n351 + (1 : Int))) (List.set bs352 (Int.toNat (List.getD (List.getD ls348 (Int.toNat n350) []) (Int.toNat n351) (0 : Int))) true) k1) none) none) none) (ref10_Reach_L2_L4_L6 ls348 n349 n350 (IntKind.wrap .i64 (n351 + (1 : Int))) bs352 k1)) none) none) (ref10_Reach_L2_L4_L6 ls348 n349 n350 (IntKind.wrap .i64 (n351 + (1 : Int))) bs352 k1)) none) none) (k1 ls348 n349 n350 bs352)) none) (k1 ls348 n349 n350 bs352)) none)
noncomputable def ref10_Reach_L2_L4_L6 : Nat → T_ref10_Reach_L2_L4_L6
  | 0 => fun _ _ _ _ _ _ => none
  | n + 1 => ref10_Reach_L2_L4_L6.body (ref10_Reach_L2_L4_L6 n)
def ref10_Reach_L2_L4_L6.p : LPat := lp 2 96 [0, 5, 7, 8, 9] (pl (pb 1 23 Ty0) (ps (pr [1, 0]) (pl (pd (.int .i64)) (pl (pd (.int .i64)) (pl (pd (.int .i64)) pz))))) (pl (po [1, 0] 4 1 (ed .bool)) pz)
def ref10_Reach_L2_L4_L6.g (F : T_ref10_Reach_L2_L4_L6) (v : ref10_Reach_L2_L4_L6.p.T) (k : KE) : Option Bool := F v.1.1 v.1.2.1 v.1.2.2.1 v.1.2.2.2.1 v.2.1 (fun y0 y1 y2 y3 => k (.exit 6) ⟨fillS 96 [0, 5, 7, 8] [(.bv 1 23 Ty0 y0), (.ref [1, 0]), (.d ⟨(.int .i64), y1⟩), (.d ⟨(.int .i64), y2⟩)], [([1, 0], ⟨4, 1, (.data .bool y3)⟩)], 2⟩)
theorem ref10_Reach_L2_L4_L6.step (S : T_ref10_Reach_L2_L4_L6) : ∀ v k, exR 24 Try.f24 6 ref10_Reach_L2_L4_L6.p [] [] [] (ref10_Reach_L2_L4_L6.g S) v k = ref10_Reach_L2_L4_L6.g (ref10_Reach_L2_L4_L6.body S) v k := fun v k => by kernel_rfl
theorem ref10_Reach_L2_L4_L6.ok : okL 24 Try.f24 0 6 ref10_Reach_L2_L4_L6.p (ref10_Reach_L2_L4_L6.g (ref10_Reach_L2_L4_L6 ROUNDS)) := loop2 (G := fun n => ref10_Reach_L2_L4_L6.g (ref10_Reach_L2_L4_L6 n)) (fun n => ref10_Reach_L2_L4_L6.step (ref10_Reach_L2_L4_L6 n)) .nil [] (by kernel_rfl) .nil (fun _ _ => rfl)
/-- function 24: the loop in block 4 -/
abbrev T_ref10_Reach_L2_L4 : Type := (List (List Int)) → Int → Int → (List Bool) → ((List (List Int)) → Int → (List Bool) → Option Bool) → Option Bool
noncomputable def ref10_Reach_L2_L4.body (ref10_Reach_L2_L4 : T_ref10_Reach_L2_L4) (ref10_Reach_L2_L4_L6 : T_ref10_Reach_L2_L4_L6) : T_ref10_Reach_L2_L4 := fun ls344 n345 n346 bs347 k1 =>
  (cond_ (decide (n346 < (List.length ls344 : Int))) (ref10_Reach_L2_L4_L6 ls344 n345 n346 (0 : Int) bs347
  (fun ls353 n354 n355 bs356 => (ref10_Reach_L2_L4 ls353 n354 (IntKind.wrap .i64 (n355 + (1 : Int))) bs356 k1))) (k1 ls344 n345 bs347))
noncomputable def ref10_Reach_L2_L4 : Nat → T_ref10_Reach_L2_L4
  | 0 => fun _ _ _ _ _ => none
  | n + 1 => ref10_Reach_L2_L4.body (ref10_Reach_L2_L4 n) (ref10_Reach_L2_L4_L6 ROUNDS)
def ref10_Reach_L2_L4.p : LPat := lp 2 96 [0, 5, 7, 8] (pl (pb 1 23 Ty0) (ps (pr [1, 0]) (pl (pd (.int .i64)) (pl (pd (.int .i64)) pz)))) (pl (po [1, 0] 4 1 (ed .bool)) pz)
def ref10_Reach_L2_L4.g (F : T_ref10_Reach_L2_L4) (v : ref10_Reach_L2_L4.p.T) (k : KE) : Option Bool := F v.1.1 v.1.2.1 v.1.2.2.1 v.2.1 (fun y0 y1 y2 => k (.exit 4) ⟨fillS 96 [0, 5, 7] [(.bv 1 23 Ty0 y0), (.ref [1, 0]), (.d ⟨(.int .i64), y1⟩)], [([1, 0], ⟨4, 1, (.data .bool y2)⟩)], 2⟩)
theorem ref10_Reach_L2_L4.step (S : T_ref10_Reach_L2_L4) (L0 : T_ref10_Reach_L2_L4_L6) : ∀ v k, exR 24 Try.f24 4 ref10_Reach_L2_L4.p [] [] [⟨6, ref10_Reach_L2_L4_L6.p, ref10_Reach_L2_L4_L6.g L0⟩] (ref10_Reach_L2_L4.g S) v k = ref10_Reach_L2_L4.g (ref10_Reach_L2_L4.body S L0) v k := fun v k => by kernel_rfl
theorem ref10_Reach_L2_L4.ok : okL 24 Try.f24 0 4 ref10_Reach_L2_L4.p (ref10_Reach_L2_L4.g (ref10_Reach_L2_L4 ROUNDS)) := loop2 (G := fun n => ref10_Reach_L2_L4.g (ref10_Reach_L2_L4 n)) (fun n => ref10_Reach_L2_L4.step (ref10_Reach_L2_L4 n) (ref10_Reach_L2_L4_L6 ROUNDS)) .nil [6] (by kernel_rfl) (.cons ref10_Reach_L2_L4_L6.ok .nil) (fun _ _ => rfl)
/-- function 24: the loop in block 2 -/
abbrev T_ref10_Reach_L2 : Type := (List (List Int)) → Int → (List Bool) → ((List Bool) → Option Bool) → Option Bool
noncomputable def ref10_Reach_L2.body (ref10_Reach_L2 : T_ref10_Reach_L2) (ref10_Reach_L2_L4 : T_ref10_Reach_L2_L4) : T_ref10_Reach_L2 := fun ls341 n342 bs343 k1 =>
  (cond_ (decide (n342 < (List.length ls341 : Int))) (ref10_Reach_L2_L4 ls341 n342 (0 : Int) bs343
  (fun ls357 n358 bs359 => (ref10_Reach_L2 ls357 (IntKind.wrap .i64 (n358 + (1 : Int))) bs359 k1))) (k1 bs343))
noncomputable def ref10_Reach_L2 : Nat → T_ref10_Reach_L2
  | 0 => fun _ _ _ _ => none
  | n + 1 => ref10_Reach_L2.body (ref10_Reach_L2 n) (ref10_Reach_L2_L4 ROUNDS)
def ref10_Reach_L2.p : LPat := lp 2 96 [0, 5, 7] (pl (pb 1 23 Ty0) (ps (pr [1, 0]) (pl (pd (.int .i64)) pz))) (pl (po [1, 0] 4 1 (ed .bool)) pz)
def ref10_Reach_L2.g (F : T_ref10_Reach_L2) (v : ref10_Reach_L2.p.T) (k : KE) : Option Bool := F v.1.1 v.1.2.1 v.2.1 (fun y0 => k (.exit 2) ⟨fillS 96 [5] [(.ref [1, 0])], [([1, 0], ⟨4, 1, (.data .bool y0)⟩)], 2⟩)
theorem ref10_Reach_L2.step (S : T_ref10_Reach_L2) (L0 : T_ref10_Reach_L2_L4) : ∀ v k, exR 24 Try.f24 2 ref10_Reach_L2.p [] [] [⟨4, ref10_Reach_L2_L4.p, ref10_Reach_L2_L4.g L0⟩] (ref10_Reach_L2.g S) v k = ref10_Reach_L2.g (ref10_Reach_L2.body S L0) v k := fun v k => by kernel_rfl
theorem ref10_Reach_L2.ok : okL 24 Try.f24 0 2 ref10_Reach_L2.p (ref10_Reach_L2.g (ref10_Reach_L2 ROUNDS)) := loop2 (G := fun n => ref10_Reach_L2.g (ref10_Reach_L2 n)) (fun n => ref10_Reach_L2.step (ref10_Reach_L2 n) (ref10_Reach_L2_L4 ROUNDS)) .nil [4] (by kernel_rfl) (.cons ref10_Reach_L2_L4.ok .nil) (fun _ _ => rfl)
/-- function 24: sheerleg/sheerlegref10.Reach -/
abbrev T_ref10_Reach : Type := (List (List Int)) → (List Int) → ((List Bool) → Option Bool) → Option Bool
noncomputable def ref10_Reach.body (ref10_Reach_L0 : T_ref10_Reach_L0) (ref10_Reach_L2 : T_ref10_Reach_L2) : T_ref10_Reach := fun ls333 ns334 k1 =>
  (cond_ (((decide ((0 : Int) ≤ (List.length ls333 : Int))) && (decide ((List.length ls333 : Int) = (List.length ls333 : Int)))) && (Nat.ble ((Int.toNat (List.length ls333 : Int)) * (1 : Nat)) (140737488355328 : Nat))) (ref10_Reach_L0 ls333 ns334 (0 : Int) (List.replicate (Int.toNat (List.length ls333 : Int)) false)
  (fun ls339 bs340 => (ref10_Reach_L2 ls339 (0 : Int) bs340
  (fun bs360 => (k1 bs360))))) none)
noncomputable def ref10_Reach : T_ref10_Reach := ref10_Reach.body (ref10_Reach_L0 ROUNDS) (ref10_Reach_L2 ROUNDS)
def ref10_Reach.p : FPat := fp 24 (pl (pb 1 23 Ty0) (pl (pb 2 3 (.int .i64)) pz)) pz
def ref10_Reach.g (F : T_ref10_Reach) (v : ref10_Reach.p.T) (k : KR) : Option Bool := F v.1.1 v.1.2.1 (fun y0 => k (.ref [1, 0]) [([1, 0], ⟨4, 1, (.data .bool y0)⟩)])
theorem ref10_Reach.eq (L0 : T_ref10_Reach_L0) (L1 : T_ref10_Reach_L2) : ∀ v k, exF Try.f24 ref10_Reach.p [] [] [⟨0, ref10_Reach_L0.p, ref10_Reach_L0.g L0⟩, ⟨2, ref10_Reach_L2.p, ref10_Reach_L2.g L1⟩] v k = ref10_Reach.g (ref10_Reach.body L0 L1) v k := fun v k => by kernel_rfl
theorem ref10_Reach.ok : okF 1 ref10_Reach.p (ref10_Reach.g ref10_Reach) := fn2 (ref10_Reach.eq (ref10_Reach_L0 ROUNDS) (ref10_Reach_L2 ROUNDS)) Try.func24 (by kernel_rfl) .nil [0, 2] (by kernel_rfl) (.cons ref10_Reach_L0.ok (.cons ref10_Reach_L2.ok .nil))
/-- function 13: sheerleg/sheerlegref14.Live -/
abbrev T_ref14_Live : Type := Tc1 → ((List Bool) → Option Bool) → Option Bool
noncomputable def ref14_Live.body (ref14_Graph : T_ref14_Graph) (ref10_Reach : T_ref10_Reach) : T_ref14_Live := fun ts325 k1 =>
  (ref14_Graph ts325
  (fun ls332 => (ref10_Reach ls332 [(0 : Int)]
  (fun bs361 => (k1 bs361)))))
noncomputable def ref14_Live : T_ref14_Live := ref14_Live.body ref14_Graph ref10_Reach
def ref14_Live.p : FPat := fp 13 (pl (pb 0 35 Ty1) pz) pz
def ref14_Live.g (F : T_ref14_Live) (v : ref14_Live.p.T) (k : KR) : Option Bool := F v.1.1 (fun y0 => k (.ref [1, 0]) [([1, 0], ⟨4, 1, (.data .bool y0)⟩)])
theorem ref14_Live.eq (F0 : T_ref14_Graph) (F1 : T_ref10_Reach) : ∀ v k, exF Try.f13 ref14_Live.p [⟨ref14_Graph.p, ref14_Graph.g F0⟩, ⟨ref10_Reach.p, ref10_Reach.g F1⟩] [] [] v k = ref14_Live.g (ref14_Live.body F0 F1) v k := fun v k => by kernel_rfl
theorem ref14_Live.ok : okF 6 ref14_Live.p (ref14_Live.g ref14_Live) := fn2 (ref14_Live.eq ref14_Graph ref10_Reach) Try.func13 (by kernel_rfl) (.cons ref14_Graph.ok (.cons ref10_Reach.ok .nil)) [] (by kernel_rfl) .nil
/-- function 11: the loop in block 0 -/
abbrev T_ref01_Bools_L0 : Type := (List Bool) → (List Bool) → Int → (Bool → Option Bool) → (Option Bool) → Option Bool
noncomputable def ref01_Bools_L0.body (ref01_Bools_L0 : T_ref01_Bools_L0) : T_ref01_Bools_L0 := fun bs365 bs366 n367 k1 k2 =>
  (cond_ (decide (n367 < (List.length bs365 : Int))) (cond_ ((decide ((0 : Int) ≤ n367)) && (decide (n367 < (List.length bs365 : Int)))) (cond_ ((decide ((0 : Int) ≤ n367)) && (decide (n367 < (List.length bs366 : Int)))) (cond_ (! ((List.getD bs365 (Int.toNat n367) false) == (List.getD bs366 (Int.toNat n367) false))) (k1 false) (ref01_Bools_L0 bs365 bs366 (IntKind.wrap .i64 (n367 + (1 : Int))) k1 k2)) none) none) (k2))
noncomputable def ref01_Bools_L0 : Nat → T_ref01_Bools_L0
  | 0 => fun _ _ _ _ _ => none
  | n + 1 => ref01_Bools_L0.body (ref01_Bools_L0 n)
def ref01_Bools_L0.p : LPat := lp 2 26 [0, 1, 5] (pl (pb 1 4 .bool) (pl (pb 2 4 .bool) (pl (pd (.int .i64)) pz))) pz
def ref01_Bools_L0.g (F : T_ref01_Bools_L0) (v : ref01_Bools_L0.p.T) (k : KE) : Option Bool := F v.1.1 v.1.2.1 v.1.2.2.1 (fun y0 => k .ret ⟨fillS 26 [4] [(.d ⟨.bool, y0⟩)], [], 2⟩) (k (.exit 0) ⟨fillS 26 [] [], [], 2⟩)
theorem ref01_Bools_L0.step (S : T_ref01_Bools_L0) : ∀ v k, exR 11 Try.f11 0 ref01_Bools_L0.p [] [] [] (ref01_Bools_L0.g S) v k = ref01_Bools_L0.g (ref01_Bools_L0.body S) v k := fun v k => by kernel_rfl
theorem ref01_Bools_L0.ok : okL 11 Try.f11 0 0 ref01_Bools_L0.p (ref01_Bools_L0.g (ref01_Bools_L0 ROUNDS)) := loop2 (G := fun n => ref01_Bools_L0.g (ref01_Bools_L0 n)) (fun n => ref01_Bools_L0.step (ref01_Bools_L0 n)) .nil [] (by kernel_rfl) .nil (fun _ _ => rfl)
/-- function 11: sheerleg/sheerlegref01.Bools -/
abbrev T_ref01_Bools : Type := (List Bool) → (List Bool) → (Bool → Option Bool) → Option Bool
noncomputable def ref01_Bools.body (ref01_Bools_L0 : T_ref01_Bools_L0) : T_ref01_Bools := fun bs363 bs364 k1 =>
  (cond_ ((List.length bs363 : Int) != (List.length bs364 : Int)) (k1 false) (ref01_Bools_L0 bs363 bs364 (0 : Int)
  (fun b368 => (k1 b368))
  (k1 true)))
noncomputable def ref01_Bools : T_ref01_Bools := ref01_Bools.body (ref01_Bools_L0 ROUNDS)
def ref01_Bools.p : FPat := fp 11 (pl (pb 1 4 .bool) (pl (pb 2 4 .bool) pz)) pz
def ref01_Bools.g (F : T_ref01_Bools) (v : ref01_Bools.p.T) (k : KR) : Option Bool := F v.1.1 v.1.2.1 (fun y0 => k (.d ⟨.bool, y0⟩) [])
theorem ref01_Bools.eq (L0 : T_ref01_Bools_L0) : ∀ v k, exF Try.f11 ref01_Bools.p [] [] [⟨0, ref01_Bools_L0.p, ref01_Bools_L0.g L0⟩] v k = ref01_Bools.g (ref01_Bools.body L0) v k := fun v k => by kernel_rfl
theorem ref01_Bools.ok : okF 1 ref01_Bools.p (ref01_Bools.g ref01_Bools) := fn2 (ref01_Bools.eq (ref01_Bools_L0 ROUNDS)) Try.func11 (by kernel_rfl) .nil [0] (by kernel_rfl) (.cons ref01_Bools_L0.ok .nil)
/-- function 14: the loop in block 0 -/
abbrev T_flow_After_L0 : Type := Tc1 → (List Int) → Int → Int → (List Int) → (Tc1 → (List Int) → Option Bool) → Option Bool
noncomputable def flow_After_L0.body (flow_After_L0 : T_flow_After_L0) (flow_Next : T_flow_Next) : T_flow_After_L0 := fun ts391 ns392 n393 n394 ns395 k1 =>
  (cond_ (decide (n394 < n393)) (cond_ ((decide ((0 : Int) ≤ n394)) && (decide (n394 < (List.length ns392 : Int)))) (flow_Next ts391 (List.getD ns392 (Int.toNat n394) (0 : Int))
  (fun ns396 => (cond_ (Nat.ble (((List.length ns395) + (List.length ns396)) * (8 : Nat)) (140737488355328 : Nat)) (flow_After_L0 ts391 ns392 n393 (IntKind.wrap .i64 (n394 + (1 : Int))) (ns395 ++ ns396) k1) none))) none) (k1 ts391 ns395))
noncomputable def flow_After_L0 : Nat → T_flow_After_L0
  | 0 => fun _ _ _ _ _ _ => none
  | n + 1 => flow_After_L0.body (flow_After_L0 n) flow_Next
def flow_After_L0.p : LPat := lp 2 24 [0, 5, 8, 9, 10] (pl (pb 0 35 Ty1) (ps (pr [1, 0]) (pl (pb 0 3 (.int .i64)) (pl (pd (.int .i64)) (pl (pd (.int .i64)) pz))))) (pl (po [1, 0] 3 1 (ed (.int .i64))) pz)
def flow_After_L0.g (F : T_flow_After_L0) (v : flow_After_L0.p.T) (k : KE) : Option Bool := F v.1.1 v.1.2.1 v.1.2.2.1 v.1.2.2.2.1 v.2.1 (fun y0 y1 => k (.exit 0) ⟨fillS 24 [0, 5] [(.bv 0 35 Ty1 y0), (.ref [1, 0])], [([1, 0], ⟨3, 1, (.data (.int .i64) y1)⟩)], 2⟩)
theorem flow_After_L0.step (S : T_flow_After_L0) (F0 : T_flow_Next) : ∀ v k, exR 14 Try.f14 0 flow_After_L0.p [⟨flow_Next.p, flow_Next.g F0⟩] [] [] (flow_After_L0.g S) v k = flow_After_L0.g (flow_After_L0.body S F0) v k := fun v k => by kernel_rfl
theorem flow_After_L0.ok : okL 14 Try.f14 6 0 flow_After_L0.p (flow_After_L0.g (flow_After_L0 ROUNDS)) := loop2 (G := fun n => flow_After_L0.g (flow_After_L0 n)) (fun n => flow_After_L0.step (flow_After_L0 n) flow_Next) (.cons flow_Next.ok .nil) [] (by kernel_rfl) .nil (fun _ _ => rfl)
/-- function 14: sheerleg/flow.After -/
abbrev T_flow_After : Type := Tc1 → (List Int) → ((List Bool) → Option Bool) → Option Bool
noncomputable def flow_After.body (flow_graph : T_flow_graph) (digraph_Reach : T_digraph_Reach) (flow_After_L0 : T_flow_After_L0) : T_flow_After := fun ts389 ns390 k1 =>
  (flow_After_L0 ts389 ns390 (List.length ns390 : Int) (0 : Int) []
  (fun ts397 ns398 => (flow_graph ts397
  (fun ls399 => (digraph_Reach ls399 ns398
  (fun bs400 => (k1 bs400)))))))
noncomputable def flow_After : T_flow_After := flow_After.body flow_graph digraph_Reach (flow_After_L0 ROUNDS)
def flow_After.p : FPat := fp 14 (pl (pb 0 35 Ty1) (pl (pb 0 3 (.int .i64)) pz)) pz
def flow_After.g (F : T_flow_After) (v : flow_After.p.T) (k : KR) : Option Bool := F v.1.1 v.1.2.1 (fun y0 => k (.ref [1, 0]) [([1, 0], ⟨4, 1, (.data .bool y0)⟩)])
theorem flow_After.eq (F0 : T_flow_graph) (F1 : T_digraph_Reach) (L0 : T_flow_After_L0) : ∀ v k, exF Try.f14 flow_After.p [⟨flow_graph.p, flow_graph.g F0⟩, ⟨digraph_Reach.p, digraph_Reach.g F1⟩] [] [⟨0, flow_After_L0.p, flow_After_L0.g L0⟩] v k = flow_After.g (flow_After.body F0 F1 L0) v k := fun v k => by kernel_rfl
theorem flow_After.ok : okF 8 flow_After.p (flow_After.g flow_After) := fn2 (flow_After.eq flow_graph digraph_Reach (flow_After_L0 ROUNDS)) Try.func14 (by kernel_rfl) (.cons flow_graph.ok (.cons digraph_Reach.ok .nil)) [0] (by kernel_rfl) (.cons flow_After_L0.ok .nil)
/-- function 15: the loop in block 0 -/
abbrev T_ref14_After_L0 : Type := Tc1 → (List Int) → Int → (List Int) → (Tc1 → (List Int) → Option Bool) → Option Bool
noncomputable def ref14_After_L0.body (ref14_After_L0 : T_ref14_After_L0) (ref14_Next : T_ref14_Next) : T_ref14_After_L0 := fun ts423 ns424 n425 ns426 k1 =>
  (cond_ (decide (n425 < (List.length ns424 : Int))) (cond_ ((decide ((0 : Int) ≤ n425)) && (decide (n425 < (List.length ns424 : Int)))) (ref14_Next ts423 (List.getD ns424 (Int.toNat n425) (0 : Int))
  (fun ns427 => (cond_ (Nat.ble (((List.length ns426) + (List.length ns427)) * (8 : Nat)) (140737488355328 : Nat)) (ref14_After_L0 ts423 ns424 (IntKind.wrap .i64 (n425 + (1 : Int))) (ns426 ++ ns427) k1) none))) none) (k1 ts423 ns426))
noncomputable def ref14_After_L0 : Nat → T_ref14_After_L0
  | 0 => fun _ _ _ _ _ => none
  | n + 1 => ref14_After_L0.body (ref14_After_L0 n) ref14_Next
def ref14_After_L0.p : LPat := lp 2 25 [0, 1, 5, 6] (pl (pb 0 35 Ty1) (pl (pb 0 3 (.int .i64)) (ps (pr [1, 0]) (pl (pd (.int .i64)) pz)))) (pl (po [1, 0] 3 1 (ed (.int .i64))) pz)
def ref14_After_L0.g (F : T_ref14_After_L0) (v : ref14_After_L0.p.T) (k : KE) : Option Bool := F v.1.1 v.1.2.1 v.1.2.2.1 v.2.1 (fun y0 y1 => k (.exit 0) ⟨fillS 25 [0, 5] [(.bv 0 35 Ty1 y0), (.ref [1, 0])], [([1, 0], ⟨3, 1, (.data (.int .i64) y1)⟩)], 2⟩)
theorem ref14_After_L0.step (S : T_ref14_After_L0) (F0 : T_ref14_Next) : ∀ v k, exR 15 Try.f15 0 ref14_After_L0.p [⟨ref14_Next.p, ref14_Next.g F0⟩] [] [] (ref14_After_L0.g S) v k = ref14_After_L0.g (ref14_After_L0.body S F0) v k := fun v k => by kernel_rfl
theorem ref14_After_L0.ok : okL 15 Try.f15 4 0 ref14_After_L0.p (ref14_After_L0.g (ref14_After_L0 ROUNDS)) := loop2 (G := fun n => ref14_After_L0.g (ref14_After_L0 n)) (fun n => ref14_After_L0.step (ref14_After_L0 n) ref14_Next) (.cons ref14_Next.ok .nil) [] (by kernel_rfl) .nil (fun _ _ => rfl)
/-- function 15: sheerleg/sheerlegref14.After -/
abbrev T_ref14_After : Type := Tc1 → (List Int) → ((List Bool) → Option Bool) → Option Bool
noncomputable def ref14_After.body (ref14_Graph : T_ref14_Graph) (ref10_Reach : T_ref10_Reach) (ref14_After_L0 : T_ref14_After_L0) : T_ref14_After := fun ts421 ns422 k1 =>
  (ref14_After_L0 ts421 ns422 (0 : Int) []
  (fun ts428 ns429 => (ref14_Graph ts428
  (fun ls430 => (ref10_Reach ls430 ns429
  (fun bs431 => (k1 bs431)))))))
noncomputable def ref14_After : T_ref14_After := ref14_After.body ref14_Graph ref10_Reach (ref14_After_L0 ROUNDS)
def ref14_After.p : FPat := fp 15 (pl (pb 0 35 Ty1) (pl (pb 0 3 (.int .i64)) pz)) pz
def ref14_After.g (F : T_ref14_After) (v : ref14_After.p.T) (k : KR) : Option Bool := F v.1.1 v.1.2.1 (fun y0 => k (.ref [1, 0]) [([1, 0], ⟨4, 1, (.data .bool y0)⟩)])
theorem ref14_After.eq (F0 : T_ref14_Graph) (F1 : T_ref10_Reach) (L0 : T_ref14_After_L0) : ∀ v k, exF Try.f15 ref14_After.p [⟨ref14_Graph.p, ref14_Graph.g F0⟩, ⟨ref10_Reach.p, ref10_Reach.g F1⟩] [] [⟨0, ref14_After_L0.p, ref14_After_L0.g L0⟩] v k = ref14_After.g (ref14_After.body F0 F1 L0) v k := fun v k => by kernel_rfl
theorem ref14_After.ok : okF 6 ref14_After.p (ref14_After.g ref14_After) := fn2 (ref14_After.eq ref14_Graph ref10_Reach (ref14_After_L0 ROUNDS)) Try.func15 (by kernel_rfl) (.cons ref14_Graph.ok (.cons ref10_Reach.ok .nil)) [0] (by kernel_rfl) (.cons ref14_After_L0.ok .nil)
/-- function 3: sheerleg/sheerleglaw14.FlowTells -/
abbrev T_law14_FlowTells : Type := Tc1 → (List Int) → Int → (Bool → Option Bool) → Option Bool
noncomputable def law14_FlowTells.body (law14_known : T_law14_known) (flow_Next : T_flow_Next) (ref14_Next : T_ref14_Next) (ref01_Ints : T_ref01_Ints) (flow_Check : T_flow_Check) (ref14_Check : T_ref14_Check) (flow_Live : T_flow_Live) (ref14_Live : T_ref14_Live) (ref01_Bools : T_ref01_Bools) (flow_After : T_flow_After) (ref14_After : T_ref14_After) : T_law14_FlowTells := fun ts408 ns409 n410 k1 =>
  (cond_ (! (decide ((List.length ts408 : Int) > (80 : Int)))) (cond_ (decide ((List.length ns409 : Int) > (80 : Int))) (law14_known
  (fun b411 => (k1 b411))) (flow_Next ts408 n410
  (fun ns412 => (ref14_Next ts408 n410
  (fun ns413 => (ref01_Ints ns412 ns413
  (fun b414 => (cond_ b414 (flow_Check ts408
  (fun n415 => (ref14_Check ts408
  (fun n416 => (cond_ (n415 == n416) (flow_Live ts408
  (fun bs417 => (ref14_Live ts408
  (fun bs418 => (ref01_Bools bs417 bs418
  (fun b419 => (cond_ b419 (flow_After ts408 ns409
  (fun bs420 => (ref14_After ts408 ns409
  (fun bs432 => (ref01_Bools bs420 bs432
  (fun b433 => (cond_ b433 (law14_known
  (fun b434 => (k1 b434))) (k1 false)))))))) (k1 false)))))))) (k1 false)))))) (k1 false))))))))) (law14_known
  (fun b435 => (k1 b435))))
noncomputable def law14_FlowTells : T_law14_FlowTells := law14_FlowTells.body law14_known flow_Next ref14_Next ref01_Ints flow_Check ref14_Check flow_Live ref14_Live ref01_Bools flow_After ref14_After
def law14_FlowTells.p : FPat := fp 3 (pl (pb 0 35 Ty1) (pl (pb 0 3 (.int .i64)) (pl (pd (.int .i64)) pz))) pz
def law14_FlowTells.g (F : T_law14_FlowTells) (v : law14_FlowTells.p.T) (k : KR) : Option Bool := F v.1.1 v.1.2.1 v.1.2.2.1 (fun y0 => k (.d ⟨.bool, y0⟩) [])
theorem law14_FlowTells.eq (F0 : T_law14_known) (F1 : T_flow_Next) (F2 : T_ref14_Next) (F3 : T_ref01_Ints) (F4 : T_flow_Check) (F5 : T_ref14_Check) (F6 : T_flow_Live) (F7 : T_ref14_Live) (F8 : T_ref01_Bools) (F9 : T_flow_After) (F10 : T_ref14_After) : ∀ v k, exF Try.f3 law14_FlowTells.p [⟨law14_known.p, law14_known.g F0⟩, ⟨flow_Next.p, flow_Next.g F1⟩, ⟨ref14_Next.p, ref14_Next.g F2⟩, ⟨ref01_Ints.p, ref01_Ints.g F3⟩, ⟨flow_Check.p, flow_Check.g F4⟩, ⟨ref14_Check.p, ref14_Check.g F5⟩, ⟨flow_Live.p, flow_Live.g F6⟩, ⟨ref14_Live.p, ref14_Live.g F7⟩, ⟨ref01_Bools.p, ref01_Bools.g F8⟩, ⟨flow_After.p, flow_After.g F9⟩, ⟨ref14_After.p, ref14_After.g F10⟩] [] [] v k = law14_FlowTells.g (law14_FlowTells.body F0 F1 F2 F3 F4 F5 F6 F7 F8 F9 F10) v k := fun v k => by kernel_rfl
theorem law14_FlowTells.ok : okF 61 law14_FlowTells.p (law14_FlowTells.g law14_FlowTells) := fn2 (law14_FlowTells.eq law14_known flow_Next ref14_Next ref01_Ints flow_Check ref14_Check flow_Live ref14_Live ref01_Bools flow_After ref14_After) Try.func3 (by kernel_rfl) (.cons law14_known.ok (.cons flow_Next.ok (.cons ref14_Next.ok (.cons ref01_Ints.ok (.cons flow_Check.ok (.cons ref14_Check.ok (.cons flow_Live.ok (.cons ref14_Live.ok (.cons ref01_Bools.ok (.cons flow_After.ok (.cons ref14_After.ok .nil))))))))))) [] (by kernel_rfl) .nil
/-- function 14: the loop in block 0 -/
abbrev T_flow_Afterv1_L0 : Type := Tc1 → (List Int) → Int → Int → (List Int) → (Tc1 → (List Int) → Option Bool) → Option Bool
noncomputable def flow_Afterv1_L0.body (flow_Afterv1_L0 : T_flow_Afterv1_L0) (flow_Next : T_flow_Next) : T_flow_Afterv1_L0 := fun ts444 ns445 n446 n447 ns448 k1 =>
  (cond_ (decide (n447 < n446)) (cond_ ((decide ((0 : Int) ≤ n447)) && (decide (n447 < (List.length ns445 : Int)))) (flow_Next ts444 (List.getD ns445 (Int.toNat n447) (0 : Int))
  (fun ns449 => (cond_ (Nat.ble (((List.length ns448) + (List.length ns449)) * (8 : Nat)) (140737488355328 : Nat)) (flow_Afterv1_L0 ts444 ns445 n446 (IntKind.wrap .i64 (n447 + (1 : Int))) (ns448 ++ ns449) k1) none))) none) (k1 ts444 ns448))
noncomputable def flow_Afterv1_L0 : Nat → T_flow_Afterv1_L0
  | 0 => fun _ _ _ _ _ _ => none
  | n + 1 => flow_Afterv1_L0.body (flow_Afterv1_L0 n) flow_Next
def flow_Afterv1_L0.p : LPat := lp 2 24 [0, 5, 8, 9, 10] (pl (pb 0 35 Ty1) (ps (pr [1, 0]) (pl (pb 1 3 (.int .i64)) (pl (pd (.int .i64)) (pl (pd (.int .i64)) pz))))) (pl (po [1, 0] 3 1 (ed (.int .i64))) pz)
def flow_Afterv1_L0.g (F : T_flow_Afterv1_L0) (v : flow_Afterv1_L0.p.T) (k : KE) : Option Bool := F v.1.1 v.1.2.1 v.1.2.2.1 v.1.2.2.2.1 v.2.1 (fun y0 y1 => k (.exit 0) ⟨fillS 24 [0, 5] [(.bv 0 35 Ty1 y0), (.ref [1, 0])], [([1, 0], ⟨3, 1, (.data (.int .i64) y1)⟩)], 2⟩)
theorem flow_Afterv1_L0.step (S : T_flow_Afterv1_L0) (F0 : T_flow_Next) : ∀ v k, exR 14 Try.f14 0 flow_Afterv1_L0.p [⟨flow_Next.p, flow_Next.g F0⟩] [] [] (flow_Afterv1_L0.g S) v k = flow_Afterv1_L0.g (flow_Afterv1_L0.body S F0) v k := fun v k => by kernel_rfl
theorem flow_Afterv1_L0.ok : okL 14 Try.f14 6 0 flow_Afterv1_L0.p (flow_Afterv1_L0.g (flow_Afterv1_L0 ROUNDS)) := loop2 (G := fun n => flow_Afterv1_L0.g (flow_Afterv1_L0 n)) (fun n => flow_Afterv1_L0.step (flow_Afterv1_L0 n) flow_Next) (.cons flow_Next.ok .nil) [] (by kernel_rfl) .nil (fun _ _ => rfl)
/-- function 14: sheerleg/flow.After -/
abbrev T_flow_Afterv1 : Type := Tc1 → (List Int) → ((List Bool) → Option Bool) → Option Bool
noncomputable def flow_Afterv1.body (flow_graph : T_flow_graph) (digraph_Reach : T_digraph_Reach) (flow_Afterv1_L0 : T_flow_Afterv1_L0) : T_flow_Afterv1 := fun ts442 ns443 k1 =>
  (flow_Afterv1_L0 ts442 ns443 (List.length ns443 : Int) (0 : Int) []
  (fun ts450 ns451 => (flow_graph ts450
  (fun ls452 => (digraph_Reach ls452 ns451
  (fun bs453 => (k1 bs453)))))))
noncomputable def flow_Afterv1 : T_flow_Afterv1 := flow_Afterv1.body flow_graph digraph_Reach (flow_Afterv1_L0 ROUNDS)
def flow_Afterv1.p : FPat := fp 14 (pl (pb 0 35 Ty1) (pl (pb 1 3 (.int .i64)) pz)) pz
def flow_Afterv1.g (F : T_flow_Afterv1) (v : flow_Afterv1.p.T) (k : KR) : Option Bool := F v.1.1 v.1.2.1 (fun y0 => k (.ref [1, 0]) [([1, 0], ⟨4, 1, (.data .bool y0)⟩)])
theorem flow_Afterv1.eq (F0 : T_flow_graph) (F1 : T_digraph_Reach) (L0 : T_flow_Afterv1_L0) : ∀ v k, exF Try.f14 flow_Afterv1.p [⟨flow_graph.p, flow_graph.g F0⟩, ⟨digraph_Reach.p, digraph_Reach.g F1⟩] [] [⟨0, flow_Afterv1_L0.p, flow_Afterv1_L0.g L0⟩] v k = flow_Afterv1.g (flow_Afterv1.body F0 F1 L0) v k := fun v k => by kernel_rfl
theorem flow_Afterv1.ok : okF 8 flow_Afterv1.p (flow_Afterv1.g flow_Afterv1) := fn2 (flow_Afterv1.eq flow_graph digraph_Reach (flow_Afterv1_L0 ROUNDS)) Try.func14 (by kernel_rfl) (.cons flow_graph.ok (.cons digraph_Reach.ok .nil)) [0] (by kernel_rfl) (.cons flow_Afterv1_L0.ok .nil)
/-- function 4: the loop in block 0 -/
abbrev T_law14_FlowClosed_L0 : Type := Tc1 → (List Int) → Bool → Int → (List Bool) → (List Bool) → (List Bool) → (Tc1 → Bool → (List Bool) → (List Bool) → (List Bool) → Option Bool) → Option Bool
noncomputable def law14_FlowClosed_L0.body (law14_FlowClosed_L0 : T_law14_FlowClosed_L0) : T_law14_FlowClosed_L0 := fun ts455 ns456 b457 n458 bs459 bs460 bs461 k1 =>
  (cond_ (decide (n458 < (List.length ns456 : Int))) (cond_ b457 (cond_ ((decide ((0 : Int) ≤ n458)) && (decide (n458 < (List.length ns456 : Int)))) (cond_ (decide ((List.getD ns456 (Int.toNat n458) (0 : Int)) ≥ (0 : Int))) (cond_ ((decide ((0 : Int) ≤ n458)) && (decide (n458 < (List.length ns456 : Int)))) (cond_ (decide ((List.getD ns456 (Int.toNat n458) (0 : Int)) < (List.length ts455 : Int))) (cond_ ((decide ((0 : Int) ≤ n458)) && (decide (n458 < (List.length ns456 : Int)))) (cond_ ((decide ((0 : Int) ≤ (List.getD ns456 (Int.toNat n458) (0 : Int)))) && (decide ((List.getD ns456 (Int.toNat n458) (0 : Int)) < (List.length bs459 : Int)))) (law14_FlowClosed_L0 ts455 ns456 (List.getD bs459 (Int.toNat (List.getD ns456 (Int.toNat n458) (0 : Int))) false) (IntKind.wrap .i64 (n458 + (1 : Int))) bs459 bs460 bs461 k1) none) none) (law14_FlowClosed_L0 ts455 ns456 false (IntKind.wrap .i64 (n458 + (1 : Int))) bs459 bs460 bs461 k1)) none) (law14_FlowClosed_L0 ts455 ns456 false (IntKind.wrap .i64 (n458 + (1 : Int))) bs459 bs460 bs461 k1)) none) (law14_FlowClosed_L0 ts455 ns456 false (IntKind.wrap .i64 (n458 + (1 : Int))) bs459 bs460 bs461 k1)) (k1 ts455 b457 bs459 bs460 bs461))
noncomputable def law14_FlowClosed_L0 : Nat → T_law14_FlowClosed_L0
  | 0 => fun _ _ _ _ _ _ _ _ => none
  | n + 1 => law14_FlowClosed_L0.body (law14_FlowClosed_L0 n)
def law14_FlowClosed_L0.p : LPat := lp 2 184 [0, 1, 7, 8, 10, 11, 12] (pl (pb 0 35 Ty1) (pl (pb 0 3 (.int .i64)) (ps (pr [1, 0]) (ps (pr [1, 1]) (ps (pr [1, 2]) (pl (pd .bool) (pl (pd (.int .i64)) pz))))))) (pl (po [1, 0] 4 1 (ed .bool)) (pl (po [1, 1] 4 1 (ed .bool)) (pl (po [1, 2] 4 1 (ed .bool)) pz)))
def law14_FlowClosed_L0.g (F : T_law14_FlowClosed_L0) (v : law14_FlowClosed_L0.p.T) (k : KE) : Option Bool := F v.1.1 v.1.2.1 v.1.2.2.1 v.1.2.2.2.1 v.2.1 v.2.2.1 v.2.2.2.1 (fun y0 y1 y2 y3 y4 => k (.exit 0) ⟨fillS 184 [0, 7, 8, 10, 11] [(.bv 0 35 Ty1 y0), (.ref [1, 0]), (.ref [1, 1]), (.ref [1, 2]), (.d ⟨.bool, y1⟩)], [([1, 0], ⟨4, 1, (.data .bool y2)⟩), ([1, 1], ⟨4, 1, (.data .bool y3)⟩), ([1, 2], ⟨4, 1, (.data .bool y4)⟩)], 2⟩)
theorem law14_FlowClosed_L0.step (S : T_law14_FlowClosed_L0) : ∀ v k, exR 4 Try.f4 0 law14_FlowClosed_L0.p [] [] [] (law14_FlowClosed_L0.g S) v k = law14_FlowClosed_L0.g (law14_FlowClosed_L0.body S) v k := fun v k => by kernel_rfl
theorem law14_FlowClosed_L0.ok : okL 4 Try.f4 0 0 law14_FlowClosed_L0.p (law14_FlowClosed_L0.g (law14_FlowClosed_L0 ROUNDS)) := loop2 (G := fun n => law14_FlowClosed_L0.g (law14_FlowClosed_L0 n)) (fun n => law14_FlowClosed_L0.step (law14_FlowClosed_L0 n)) .nil [] (by kernel_rfl) .nil (fun _ _ => rfl)
/-- function 4: the loop in block 4 -/
abbrev T_law14_FlowClosed_L2_L4 : Type := Tc1 → Bool → Int → Int → (List Bool) → (List Bool) → (List Bool) → (List Int) → (Bool → Option Bool) → (Tc1 → Bool → Int → (List Bool) → (List Bool) → (List Bool) → Option Bool) → Option Bool
noncomputable def law14_FlowClosed_L2_L4.body (law14_FlowClosed_L2_L4 : T_law14_FlowClosed_L2_L4) : T_law14_FlowClosed_L2_L4 := fun ts474 b475 n476 n477 bs478 bs479 bs480 ns481 k1 k2 =>
  (cond_ (decide (n477 < (List.length ns481 : Int))) (cond_ ((decide ((0 : Int) ≤ n477)) && (decide (n477 < (List.length ns481 : Int)))) (cond_ (decide ((List.getD ns481 (Int.toNat n477) (0 : Int)) ≥ (0 : Int))) (cond_ ((decide ((0 : Int) ≤ n477)) && (decide (n477 < (List.length ns481 : Int)))) (cond_ (decide ((List.getD ns481 (Int.toNat n477) (0 : Int)) < (List.length ts474 : Int))) (cond_ ((decide ((0 : Int) ≤ n476)) && (decide (n476 < (List.length bs478 : Int)))) (cond_ (List.getD bs478 (Int.toNat n476) false) (cond_ ((decide ((0 : Int) ≤ n477)) && (decide (n477 < (List.length ns481 : Int)))) (cond_ ((decide ((0 : Int) ≤ (List.getD ns481 (Int.toNat n477) (0 : Int)))) && (decide ((List.getD ns481 (Int.toNat n477) (0 : Int)) < (List.length bs478 : Int)))) (cond_ (! (! (List.getD bs478 (Int.toNat (List.getD ns481 (Int.toNat n477) (0 : Int))) false))) (cond_ ((decide ((0 : Int) ≤ n476)) && (decide (n476 < (List.length bs479 : Int)))) (cond_ (List.getD bs479 (Int.toNat n476) false) (cond_ ((decide ((0 : Int) ≤ n477)) && (decide (n477 < (List.length ns481 : Int)))) (cond_ ((decide ((0 : Int) ≤ (List.getD ns481 (Int.toNat n477) (0 : Int)))) && (decide ((List.getD ns481 (Int.toNat n477) (0 : Int)) < (List.length bs479 : Int)))) (cond_ (! (List.getD bs479 (Int.toNat (List.getD ns481 (Int.toNat n477) (0 : Int))) false)) (k1 false) (law14_FlowClosed_L2_L4 ts474 b475 n476 (IntKind.wrap .i64 (n477 + (1 : Int))) bs478 bs479 bs480 ns481 k1 k2)) none) none) (law14_FlowClosed_L2_L4 ts474 b475 n476 (IntKind.wrap .i64 (n477 + (1 : Int))) bs478 bs479 bs480 ns481 k1 k2)) none) (k1 false)) none) none) (cond_ ((decide ((0 : Int) ≤ n476)) && (decide (n476 < (List.length bs479 : Int)))) (cond_ (List.getD bs479 (Int.toNat n476) false) (cond_ ((decide ((0 : Int) ≤ n477)) && (decide (n477 < (List.length ns481 : Int)))) (cond_ ((decide ((0 : Int) ≤ (List.getD ns481 (Int.toNat n477) (0 : Int)))) && (decide ((List.getD ns481 (Int.toNat n477) (0 : Int)) < (List.length bs479 : Int)))) (cond_ (! (List.getD bs479 (Int.toNat (List.getD ns481 (Int.toNat n477) (0 : Int))) false)) (k1 false) (law14_FlowClosed_L2_L4 ts474 b475 n476 (IntKind.wrap .i64 (n477 + (1 : Int))) bs478 bs479 bs480 ns481 k1 k2)) none) none) (law14_FlowClosed_L2_L4 ts474 b475 n476 (IntKind.wrap .i64 (n477 + (1 : Int))) bs478 bs479 bs480 ns481 k1 k2)) none)) none) (law14_FlowClosed_L2_L4 ts474 b475 n476 (IntKind.wrap .i64 (n477 + (1 : Int))) bs478 bs479 bs480 ns481 k1 k2)) none) (law14_FlowClosed_L2_L4 ts474 b475 n476 (IntKind.wrap .i64 (n477 + (1 : Int))) bs478 bs479 bs480 ns481 k1 k2)) none) (k2 ts474 b475 n476 bs478 bs479 bs480))
noncomputable def law14_FlowClosed_L2_L4 : Nat → T_law14_FlowClosed_L2_L4
  | 0 => fun _ _ _ _ _ _ _ _ _ _ => none
  | n + 1 => law14_FlowClosed_L2_L4.body (law14_FlowClosed_L2_L4 n)
def law14_FlowClosed_L2_L4.p : LPat := lp 2 184 [0, 7, 8, 10, 11, 13, 14, 15] (pl (pb 0 35 Ty1) (ps (pr [1, 0]) (ps (pr [1, 1]) (ps (pr [1, 2]) (pl (pd .bool) (pl (pd (.int .i64)) (ps (pr [1, 3]) (pl (pd (.int .i64)) pz)))))))) (pl (po [1, 0] 4 1 (ed .bool)) (pl (po [1, 1] 4 1 (ed .bool)) (pl (po [1, 2] 4 1 (ed .bool)) (pl (po [1, 3] 3 1 (ed (.int .i64))) pz))))
def law14_FlowClosed_L2_L4.g (F : T_law14_FlowClosed_L2_L4) (v : law14_FlowClosed_L2_L4.p.T) (k : KE) : Option Bool := F v.1.1 v.1.2.1 v.1.2.2.1 v.1.2.2.2.1 v.2.1 v.2.2.1 v.2.2.2.1 v.2.2.2.2.1 (fun y0 => k .ret ⟨fillS 184 [6] [(.d ⟨.bool, y0⟩)], [], 2⟩) (fun y0 y1 y2 y3 y4 y5 => k (.exit 4) ⟨fillS 184 [0, 7, 8, 10, 11, 13] [(.bv 0 35 Ty1 y0), (.ref [1, 0]), (.ref [1, 1]), (.ref [1, 2]), (.d ⟨.bool, y1⟩), (.d ⟨(.int .i64), y2⟩)], [([1, 0], ⟨4, 1, (.data .bool y3)⟩), ([1, 1], ⟨4, 1, (.data .bool y4)⟩), ([1, 2], ⟨4, 1, (.data .bool y5)⟩)], 2⟩)
theorem law14_FlowClosed_L2_L4.step (S : T_law14_FlowClosed_L2_L4) : ∀ v k, exR 4 Try.f4 4 law14_FlowClosed_L2_L4.p [] [] [] (law14_FlowClosed_L2_L4.g S) v k = law14_FlowClosed_L2_L4.g (law14_FlowClosed_L2_L4.body S) v k := fun v k => by kernel_rfl
theorem law14_FlowClosed_L2_L4.ok : okL 4 Try.f4 0 4 law14_FlowClosed_L2_L4.p (law14_FlowClosed_L2_L4.g (law14_FlowClosed_L2_L4 ROUNDS)) := loop2 (G := fun n => law14_FlowClosed_L2_L4.g (law14_FlowClosed_L2_L4 n)) (fun n => law14_FlowClosed_L2_L4.step (law14_FlowClosed_L2_L4 n)) .nil [] (by kernel_rfl) .nil (fun _ _ => rfl)
/-- function 4: the loop in block 2 -/
abbrev T_law14_FlowClosed_L2 : Type := Tc1 → Bool → Int → (List Bool) → (List Bool) → (List Bool) → (Bool → Option Bool) → (Tc1 → (List Bool) → Option Bool) → Option Bool
noncomputable def law14_FlowClosed_L2.body (law14_FlowClosed_L2 : T_law14_FlowClosed_L2) (ref14_Next : T_ref14_Next) (law14_FlowClosed_L2_L4 : T_law14_FlowClosed_L2_L4) : T_law14_FlowClosed_L2 := fun ts467 b468 n469 bs470 bs471 bs472 k1 k2 =>
  (cond_ (decide (n469 < (List.length ts467 : Int))) (ref14_Next ts467 n469
  (fun ns473 => (law14_FlowClosed_L2_L4 ts467 b468 n469 (0 : Int) bs470 bs471 bs472 ns473
  (fun b482 => (k1 b482))
  (fun ts483 b484 n485 bs486 bs487 bs488 => (cond_ ((decide ((0 : Int) ≤ n485)) && (decide (n485 < (List.length bs487 : Int)))) (cond_ (List.getD bs487 (Int.toNat n485) false) (cond_ ((decide ((0 : Int) ≤ n485)) && (decide (n485 < (List.length bs488 : Int)))) (cond_ (! (! (List.getD bs488 (Int.toNat n485) false))) (cond_ b484 (cond_ ((decide ((0 : Int) ≤ n485)) && (decide (n485 < (List.length bs486 : Int)))) (cond_ (! (List.getD bs486 (Int.toNat n485) false)) (k1 false) (law14_FlowClosed_L2 ts483 b484 (IntKind.wrap .i64 (n485 + (1 : Int))) bs486 bs487 bs488 k1 k2)) none) (law14_FlowClosed_L2 ts483 b484 (IntKind.wrap .i64 (n485 + (1 : Int))) bs486 bs487 bs488 k1 k2)) (k1 false)) none) (law14_FlowClosed_L2 ts483 b484 (IntKind.wrap .i64 (n485 + (1 : Int))) bs486 bs487 bs488 k1 k2)) none))))) (k2 ts467 bs470))
noncomputable def law14_FlowClosed_L2 : Nat → T_law14_FlowClosed_L2
  | 0 => fun _ _ _ _ _ _ _ _ => none
  | n + 1 => law14_FlowClosed_L2.body (law14_FlowClosed_L2 n) ref14_Next (law14_FlowClosed_L2_L4 ROUNDS)
def law14_FlowClosed_L2.p : LPat := lp 2 184 [0, 7, 8, 10, 11, 13] (pl (pb 0 35 Ty1) (ps (pr [1, 0]) (ps (pr [1, 1]) (ps (pr [1, 2]) (pl (pd .bool) (pl (pd (.int .i64)) pz)))))) (pl (po [1, 0] 4 1 (ed .bool)) (pl (po [1, 1] 4 1 (ed .bool)) (pl (po [1, 2] 4 1 (ed .bool)) pz)))
def law14_FlowClosed_L2.g (F : T_law14_FlowClosed_L2) (v : law14_FlowClosed_L2.p.T) (k : KE) : Option Bool := F v.1.1 v.1.2.1 v.1.2.2.1 v.2.1 v.2.2.1 v.2.2.2.1 (fun y0 => k .ret ⟨fillS 184 [6] [(.d ⟨.bool, y0⟩)], [], 2⟩) (fun y0 y1 => k (.exit 2) ⟨fillS 184 [0, 7] [(.bv 0 35 Ty1 y0), (.ref [1, 0])], [([1, 0], ⟨4, 1, (.data .bool y1)⟩)], 2⟩)
theorem law14_FlowClosed_L2.step (S : T_law14_FlowClosed_L2) (F0 : T_ref14_Next) (L0 : T_law14_FlowClosed_L2_L4) : ∀ v k, exR 4 Try.f4 2 law14_FlowClosed_L2.p [⟨ref14_Next.p, ref14_Next.g F0⟩] [] [⟨4, law14_FlowClosed_L2_L4.p, law14_FlowClosed_L2_L4.g L0⟩] (law14_FlowClosed_L2.g S) v k = law14_FlowClosed_L2.g (law14_FlowClosed_L2.body S F0 L0) v k := fun v k => by kernel_rfl
theorem law14_FlowClosed_L2.ok : okL 4 Try.f4 4 2 law14_FlowClosed_L2.p (law14_FlowClosed_L2.g (law14_FlowClosed_L2 ROUNDS)) := loop2 (G := fun n => law14_FlowClosed_L2.g (law14_FlowClosed_L2 n)) (fun n => law14_FlowClosed_L2.step (law14_FlowClosed_L2 n) ref14_Next (law14_FlowClosed_L2_L4 ROUNDS)) (.cons ref14_Next.ok .nil) [4] (by kernel_rfl) (.cons law14_FlowClosed_L2_L4.ok .nil) (fun _ _ => rfl)
/-- function 4: sheerleg/sheerleglaw14.FlowClosed -/
abbrev T_law14_FlowClosed : Type := Tc1 → (List Int) → Int → (Bool → Option Bool) → Option Bool
noncomputable def law14_FlowClosed.body (law14_known : T_law14_known) (flow_Live : T_flow_Live) (flow_After : T_flow_After) (flow_Afterv1 : T_flow_Afterv1) (law14_FlowClosed_L0 : T_law14_FlowClosed_L0) (law14_FlowClosed_L2 : T_law14_FlowClosed_L2) : T_law14_FlowClosed := fun ts436 ns437 n438 k1 =>
  (cond_ (! (decide ((List.length ts436 : Int) > (80 : Int)))) (cond_ (decide ((List.length ns437 : Int) > (80 : Int))) (law14_known
  (fun b439 => (k1 b439))) (flow_Live ts436
  (fun bs440 => (flow_After ts436 ns437
  (fun bs441 => (cond_ (Nat.ble ((List.length ns437) * (8 : Nat)) (140737488355328 : Nat)) (cond_ (Nat.ble (((List.length ns437) + (List.length (n438 :: []))) * (8 : Nat)) (140737488355328 : Nat)) (flow_Afterv1 ts436 (ns437 ++ (n438 :: []))
  (fun bs454 => (cond_ (! ((List.length bs440 : Int) != (List.length ts436 : Int))) (cond_ (! ((List.length bs441 : Int) != (List.length ts436 : Int))) (cond_ ((List.length bs454 : Int) != (List.length ts436 : Int)) (k1 false) (law14_FlowClosed_L0 ts436 ns437 true (0 : Int) bs440 bs441 bs454
  (fun ts462 b463 bs464 bs465 bs466 => (law14_FlowClosed_L2 ts462 b463 (0 : Int) bs464 bs465 bs466
  (fun b489 => (k1 b489))
  (fun ts490 bs491 => (cond_ (! ((List.length ts490 : Int) == (0 : Int))) (cond_ (true && (decide ((0 : Int) < (List.length bs491 : Int)))) (cond_ (List.getD bs491 (0 : Nat) false) (law14_known
  (fun b492 => (k1 b492))) (k1 false)) none) (law14_known
  (fun b493 => (k1 b493))))))))) (k1 false)) (k1 false)))) none) none)))))) (law14_known
  (fun b494 => (k1 b494))))
noncomputable def law14_FlowClosed : T_law14_FlowClosed := law14_FlowClosed.body law14_known flow_Live flow_After flow_Afterv1 (law14_FlowClosed_L0 ROUNDS) (law14_FlowClosed_L2 ROUNDS)
def law14_FlowClosed.p : FPat := fp 4 (pl (pb 0 35 Ty1) (pl (pb 0 3 (.int .i64)) (pl (pd (.int .i64)) pz))) pz
def law14_FlowClosed.g (F : T_law14_FlowClosed) (v : law14_FlowClosed.p.T) (k : KR) : Option Bool := F v.1.1 v.1.2.1 v.1.2.2.1 (fun y0 => k (.d ⟨.bool, y0⟩) [])
theorem law14_FlowClosed.eq (F0 : T_law14_known) (F1 : T_flow_Live) (F2 : T_flow_After) (F3 : T_flow_Afterv1) (L0 : T_law14_FlowClosed_L0) (L1 : T_law14_FlowClosed_L2) : ∀ v k, exF Try.f4 law14_FlowClosed.p [⟨law14_known.p, law14_known.g F0⟩, ⟨flow_Live.p, flow_Live.g F1⟩, ⟨flow_After.p, flow_After.g F2⟩, ⟨flow_Afterv1.p, flow_Afterv1.g F3⟩] [] [⟨0, law14_FlowClosed_L0.p, law14_FlowClosed_L0.g L0⟩, ⟨2, law14_FlowClosed_L2.p, law14_FlowClosed_L2.g L1⟩] v k = law14_FlowClosed.g (law14_FlowClosed.body F0 F1 F2 F3 L0 L1) v k := fun v k => by kernel_rfl
theorem law14_FlowClosed.ok : okF 61 law14_FlowClosed.p (law14_FlowClosed.g law14_FlowClosed) := fn2 (law14_FlowClosed.eq law14_known flow_Live flow_After flow_Afterv1 (law14_FlowClosed_L0 ROUNDS) (law14_FlowClosed_L2 ROUNDS)) Try.func4 (by kernel_rfl) (.cons law14_known.ok (.cons flow_Live.ok (.cons flow_After.ok (.cons flow_Afterv1.ok .nil)))) [0, 2] (by kernel_rfl) (.cons law14_FlowClosed_L0.ok (.cons law14_FlowClosed_L2.ok .nil))
-- LAWROW law14_FlowTells | 3 | 61 | Ty2 ¦ Ty0 ¦ (.int .i64)
-- LAWROW law14_FlowClosed | 4 | 61 | Ty2 ¦ Ty0 ¦ (.int .i64)
end Go.Proofs.Ytcbginlfeefpoaa.p
