/- What the functions come to that B reaches, as plain functions; written by a program of this work, each told by Lean. -/
import Derived.Test.YteanpakahlkhdaaA3
import Derived.Test.YteanpakahlkhdaaChecked
namespace Go.Proofs.Yteanpakahlkhdaa.b
open Go.AX
set_option linter.unusedVariables false
set_option maxRecDepth 100000
set_option maxHeartbeats 4000000
def ht : Hints := hintsOf [(12, [(0, ⟨[2, 3, 5], []⟩), (2, ⟨[2, 3, 6], []⟩), (2000000, ⟨[4], []⟩), (1000000, ⟨[2, 3], []⟩), (1000002, ⟨[], []⟩)]),
  (39, [(0, ⟨[0, 1, 5], []⟩), (2000000, ⟨[4], []⟩), (1000000, ⟨[], []⟩)]),
  (38, [(0, ⟨[0, 1, 5], []⟩), (2000000, ⟨[4], []⟩), (1000000, ⟨[], []⟩)]),
  (10, [(2000000, ⟨[2, 3], [(.giveP 2)]⟩)]),
  (26, [(0, ⟨[0, 1, 5, 6], [(.virtP 100001 1 3 1), (.virtP 100001 6 55 2), (.freshP 100001 6), (.virtP 200001 7 57 5), (.virtP 100001 8 60 3), (.freshP 100001 8)]⟩), (2000000, ⟨[], []⟩), (1000000, ⟨[], []⟩)]),
  (31, [(0, ⟨[0, 2, 4, 18], []⟩), (2000000, ⟨[2, 3], []⟩), (1000000, ⟨[0, 2, 4], []⟩)]),
  (62, [(0, ⟨[6, 7, 19, 20, 21], []⟩), (2000000, ⟨[4, 5], []⟩), (1000000, ⟨[6, 7], []⟩)]),
  (7, [(0, ⟨[3, 5, 48, 49, 50], []⟩), (2, ⟨[3, 5, 72, 73, 74], []⟩), (4, ⟨[5, 95, 96, 97], []⟩), (2000000, ⟨[4], []⟩), (1000000, ⟨[3, 5], []⟩), (1000002, ⟨[3, 5], []⟩), (1000004, ⟨[5], []⟩)]),
  (20, [(0, ⟨[0, 8, 9], []⟩), (2000000, ⟨[4], []⟩), (1000000, ⟨[0], []⟩)]),
  (18, [(0, ⟨[0, 1, 8, 9, 10], [(.freshP 0 0)]⟩), (2000000, ⟨[], []⟩), (1000000, ⟨[], []⟩)]),
  (45, [(0, ⟨[0, 1, 2, 7, 10], []⟩), (2000000, ⟨[6], []⟩), (1000000, ⟨[0, 2, 7], []⟩)]),
  (43, [(0, ⟨[1, 3, 7, 8, 9], [(.virt 3 3 1)]⟩), (2000000, ⟨[2], []⟩), (1000000, ⟨[1, 3], []⟩)]),
  (42, [(0, ⟨[1, 3, 11, 12, 13], [(.virt 3 3 1)]⟩), (2000000, ⟨[2], []⟩), (1000000, ⟨[1, 3], []⟩)]),
  (61, [(0, ⟨[0, 5, 8, 9, 10], []⟩), (2000000, ⟨[4], []⟩), (1000000, ⟨[], []⟩)]),
  (41, [(0, ⟨[14, 15, 16], []⟩), (2000000, ⟨[2], []⟩), (1000000, ⟨[], []⟩)]),
  (52, [(0, ⟨[1, 3, 14, 15, 16], []⟩), (2, ⟨[3, 6, 39, 40], []⟩), (2000000, ⟨[2], []⟩), (1000000, ⟨[1, 3], []⟩), (1000002, ⟨[], []⟩)]),
  (59, [(1, ⟨[1, 14, 15, 16], []⟩), (2000000, ⟨[2], []⟩), (1000001, ⟨[], []⟩)]),
  (78, [(0, ⟨[0, 1, 7, 8], []⟩), (2000000, ⟨[4], []⟩), (1000000, ⟨[], []⟩)]),
  (70, [(0, ⟨[0, 3, 6, 7], [(.virt 3 22 1)]⟩), (2000000, ⟨[2], []⟩), (1000000, ⟨[3], []⟩)]),
  (77, [(2000000, ⟨[4], [(.trim 4)]⟩)]),
  (81, [(0, ⟨[0, 3], []⟩), (2, ⟨[0, 3, 4, 5], []⟩), (2000000, ⟨[2], []⟩), (1000002, ⟨[0, 3], []⟩), (1000001, ⟨[0, 3], []⟩), (1000000, ⟨[0], []⟩)]),
  (82, [(0, ⟨[0, 1, 2, 3, 8, 9], []⟩), (2000000, ⟨[], []⟩), (1000000, ⟨[], []⟩)]),
  (84, [(0, ⟨[0, 1, 2, 6], []⟩), (2, ⟨[0, 1, 2, 6, 7], []⟩), (2000000, ⟨[], []⟩), (1000002, ⟨[0, 1, 2, 6], []⟩), (1000001, ⟨[0, 1, 2, 6], []⟩), (1000000, ⟨[], []⟩)]),
  (40, [(1, ⟨[3, 26, 27, 28], []⟩), (2000000, ⟨[2], []⟩), (1000001, ⟨[], []⟩)])]
abbrev okF := FnOk Try.prog ht
abbrev okL := LoopOk Try.prog ht
noncomputable abbrev exF := execF Try.prog ht
noncomputable abbrev exR := execR Try.prog ht
noncomputable abbrev exB := execB Try.prog ht
abbrev Tc0 : Type := List (Int × Int × Bool × Unit)
abbrev Tc1 : Type := Int × Int × Int × Int × Int × Unit
abbrev Tc2 : Type := List Tc1
abbrev Tc3 : Type := Int × (List Int) × Int × Bool × Int × Int × (List (Int × Int × Unit)) × Tc2 × Tc0 × Unit
abbrev Ty0 : Ty := (.sl 3 (.int .i64))
abbrev Ty1 : Ty := (.st [(.int .i64), (.int .i64)])
abbrev Ty2 : Ty := (.st [(.int .i64), (.int .i64), .bool])
abbrev Ty3 : Ty := (.sl 55 Ty1)
abbrev Ty4 : Ty := (.sl 60 Ty2)
abbrev Ty5 : Ty := (.st [(.int .i64), (.int .i64), (.int .i64), (.int .i64), (.int .i64)])
abbrev Ty6 : Ty := (.sl 57 Ty5)
abbrev Ty7 : Ty := (.st [(.int .i64), Ty0, (.int .i64), .bool, (.int .i64), (.int .i64), Ty3, Ty6, Ty4])
/-- function 5: sheerleg/sheerlegref16.Few -/
abbrev T_ref16_Few : Type := Tc3 → (Bool → Option Bool) → Option Bool
noncomputable def ref16_Few.body : T_ref16_Few := fun t3 k1 =>
  (cond_ (decide ((((List.length t3.2.1) : Nat) : Int) ≤ (100 : Int))) (cond_ (decide ((((List.length t3.2.2.2.2.2.2.1) : Nat) : Int) ≤ (100 : Int))) (cond_ (decide ((((List.length t3.2.2.2.2.2.2.2.1) : Nat) : Int) ≤ (100 : Int))) (k1 (decide ((((List.length t3.2.2.2.2.2.2.2.2.1) : Nat) : Int) ≤ (100 : Int)))) (k1 false)) (k1 false)) (k1 false))
noncomputable def ref16_Few : T_ref16_Few := ref16_Few.body
def ref16_Few.p : FPat := fp 5 (pl (pd Ty7) pz) pz
def ref16_Few.g (F : T_ref16_Few) (v : ref16_Few.p.T) (k : KR) : Option Bool := F v.1.1 (fun y0 => k (.d ⟨.bool, y0⟩) [])
theorem ref16_Few.eq : ∀ v k, exF Try.f5 ref16_Few.p [] [] [] v k = ref16_Few.g (ref16_Few.body) v k := fun v k => by kernel_rfl
theorem ref16_Few.ok : okF 1 ref16_Few.p (ref16_Few.g ref16_Few) := fn2 (ref16_Few.eq) Try.func5 (by kernel_rfl) .nil [] (by kernel_rfl) .nil
/-- function 57: sheerleg/sig.Is -/
abbrev T_sig_Is : Type := Int → (Bool → Option Bool) → Option Bool
noncomputable def sig_Is.body : T_sig_Is := fun n8 k1 =>
  (cond_ (decide (n8 ≥ (0 : Int))) (k1 (decide (n8 < (8 : Int)))) (k1 false))
noncomputable def sig_Is : T_sig_Is := sig_Is.body
def sig_Is.p : FPat := fp 57 (pl (pd (.int .i64)) pz) pz
def sig_Is.g (F : T_sig_Is) (v : sig_Is.p.T) (k : KR) : Option Bool := F v.1.1 (fun y0 => k (.d ⟨.bool, y0⟩) [])
theorem sig_Is.eq : ∀ v k, exF Try.f57 sig_Is.p [] [] [] v k = sig_Is.g (sig_Is.body) v k := fun v k => by kernel_rfl
theorem sig_Is.ok : okF 1 sig_Is.p (sig_Is.g sig_Is) := fn2 (sig_Is.eq) Try.func57 (by kernel_rfl) .nil [] (by kernel_rfl) .nil
/-- function 56: sheerleg/sig.Params -/
abbrev T_sig_Params : Type := Int → (Int → Option Bool) → Option Bool
noncomputable def sig_Params.body (sig_Is : T_sig_Is) : T_sig_Params := fun n7 k1 =>
  (sig_Is n7
  (fun b9 => (cond_ (! b9) (k1 (0 : Int)) (k1 (Int.fdiv n7 (2 : Int))))))
noncomputable def sig_Params : T_sig_Params := sig_Params.body sig_Is
def sig_Params.p : FPat := fp 56 (pl (pd (.int .i64)) pz) pz
def sig_Params.g (F : T_sig_Params) (v : sig_Params.p.T) (k : KR) : Option Bool := F v.1.1 (fun y0 => k (.d ⟨(.int .i64), y0⟩) [])
theorem sig_Params.eq (F0 : T_sig_Is) : ∀ v k, exF Try.f56 sig_Params.p [⟨sig_Is.p, sig_Is.g F0⟩] [] [] v k = sig_Params.g (sig_Params.body F0) v k := fun v k => by kernel_rfl
theorem sig_Params.ok : okF 2 sig_Params.p (sig_Params.g sig_Params) := fn2 (sig_Params.eq sig_Is) Try.func56 (by kernel_rfl) (.cons sig_Is.ok .nil) [] (by kernel_rfl) .nil
/-- function 69: sheerleg/sig.texts -/
abbrev T_sig_texts : Type := ((List ByteArray) → Option Bool) → Option Bool
noncomputable def sig_texts.body : T_sig_texts := fun k1 =>
  (k1 [(⟨#[110]⟩ : ByteArray), (⟨#[102, 48]⟩ : ByteArray), (⟨#[102, 48, 114]⟩ : ByteArray), (⟨#[102, 49]⟩ : ByteArray), (⟨#[102, 49, 114]⟩ : ByteArray), (⟨#[102, 50]⟩ : ByteArray), (⟨#[102, 50, 114]⟩ : ByteArray), (⟨#[102, 51]⟩ : ByteArray), (⟨#[102, 51, 114]⟩ : ByteArray)])
noncomputable def sig_texts : T_sig_texts := sig_texts.body
def sig_texts.p : FPat := fp 69 pz pz
def sig_texts.g (F : T_sig_texts) (v : sig_texts.p.T) (k : KR) : Option Bool := F (fun y0 => k (.ref [1, 0]) [([1, 0], ⟨9, 1, (.data .str y0)⟩)])
theorem sig_texts.eq : ∀ v k, exF Try.f69 sig_texts.p [] [] [] v k = sig_texts.g (sig_texts.body) v k := fun v k => by kernel_rfl
theorem sig_texts.ok : okF 1 sig_texts.p (sig_texts.g sig_texts) := fn2 (sig_texts.eq) Try.func69 (by kernel_rfl) .nil [] (by kernel_rfl) .nil
/-- function 58: sheerleg/sig.Text -/
abbrev T_sig_Text : Type := Int → (ByteArray → Option Bool) → Option Bool
noncomputable def sig_Text.body (sig_texts : T_sig_texts) : T_sig_Text := fun n16 k1 =>
  (sig_texts
  (fun ss17 => (cond_ (! (decide (n16 < (0 : Int)))) (cond_ (decide (n16 ≥ (List.length ss17 : Int))) (k1 (⟨#[]⟩ : ByteArray)) (cond_ ((decide ((0 : Int) ≤ n16)) && (decide (n16 < (List.length ss17 : Int)))) (k1 (List.getD ss17 (Int.toNat n16) (⟨#[]⟩ : ByteArray))) none)) (k1 (⟨#[]⟩ : ByteArray)))))
noncomputable def sig_Text : T_sig_Text := sig_Text.body sig_texts
def sig_Text.p : FPat := fp 58 (pl (pd (.int .i64)) pz) pz
def sig_Text.g (F : T_sig_Text) (v : sig_Text.p.T) (k : KR) : Option Bool := F v.1.1 (fun y0 => k (.d ⟨.str, y0⟩) [])
theorem sig_Text.eq (F0 : T_sig_texts) : ∀ v k, exF Try.f58 sig_Text.p [⟨sig_texts.p, sig_texts.g F0⟩] [] [] v k = sig_Text.g (sig_Text.body F0) v k := fun v k => by kernel_rfl
theorem sig_Text.ok : okF 2 sig_Text.p (sig_Text.g sig_Text) := fn2 (sig_Text.eq sig_texts) Try.func58 (by kernel_rfl) (.cons sig_texts.ok .nil) [] (by kernel_rfl) .nil
/-- function 40: the loop in block 1 -/
abbrev T_fun_slots_L1 : Type := Int → (List Int) → Int → Int → (Int → Option Bool) → (Option Bool) → Option Bool
noncomputable def fun_slots_L1.body (fun_slots_L1 : T_fun_slots_L1) (sig_Text : T_sig_Text) : T_fun_slots_L1 := fun n12 l13 n14 n15 k1 k2 =>
  (cond_ (decide (n15 < n14)) (cond_ ((decide ((0 : Int) ≤ n15)) && (decide (n15 < (List.length l13 : Int)))) (sig_Text (List.getD l13 (Int.toNat n15) (0 : Int))
  (fun s18 => (cond_ (! ((ByteArray.toList s18) == (ByteArray.toList (⟨#[]⟩ : ByteArray)))) (cond_ (decide (n15 < n12)) (cond_ ((List.getD l13 (Int.toNat n15) (0 : Int)) != (0 : Int)) (k1 (8 : Int)) (fun_slots_L1 n12 l13 n14 (IntKind.wrap .i64 (n15 + (1 : Int))) k1 k2)) (fun_slots_L1 n12 l13 n14 (IntKind.wrap .i64 (n15 + (1 : Int))) k1 k2)) (k1 (8 : Int))))) none) (k2))
noncomputable def fun_slots_L1 : Nat → T_fun_slots_L1
  | 0 => fun _ _ _ _ _ _ => none
  | n + 1 => fun_slots_L1.body (fun_slots_L1 n) sig_Text
def fun_slots_L1.p : LPat := lp 2 46 [3, 26, 27, 28] (pl (pd (.int .i64)) (pl (pd Ty0) (pl (pd (.int .i64)) (pl (pd (.int .i64)) pz)))) pz
def fun_slots_L1.g (F : T_fun_slots_L1) (v : fun_slots_L1.p.T) (k : KE) : Option Bool := F v.1.1 v.1.2.1 v.1.2.2.1 v.1.2.2.2.1 (fun y0 => k .ret ⟨fillS 46 [2] [(.d ⟨(.int .i64), y0⟩)], [], 2⟩) (k (.exit 1) ⟨fillS 46 [] [], [], 2⟩)
theorem fun_slots_L1.step (S : T_fun_slots_L1) (F0 : T_sig_Text) : ∀ v k, exR 40 Try.f40 1 fun_slots_L1.p [⟨sig_Text.p, sig_Text.g F0⟩] [] [] (fun_slots_L1.g S) v k = fun_slots_L1.g (fun_slots_L1.body S F0) v k := fun v k => by kernel_rfl
theorem fun_slots_L1.ok : okL 40 Try.f40 2 1 fun_slots_L1.p (fun_slots_L1.g (fun_slots_L1 ROUNDS)) := loop2 (G := fun n => fun_slots_L1.g (fun_slots_L1 n)) (fun n => fun_slots_L1.step (fun_slots_L1 n) sig_Text) (.cons sig_Text.ok .nil) [] (by kernel_rfl) .nil (fun _ _ => rfl)
/-- function 40: sheerleg/fun.slots -/
abbrev T_fun_slots : Type := Tc3 → (Int → Option Bool) → Option Bool
noncomputable def fun_slots.body (sig_Params : T_sig_Params) (sig_Is : T_sig_Is) (fun_slots_L1 : T_fun_slots_L1) : T_fun_slots := fun t6 k1 =>
  (sig_Params t6.1
  (fun n10 => (sig_Is t6.1
  (fun b11 => (cond_ (! b11) (k1 (14 : Int)) (cond_ (decide ((((List.length t6.2.1) : Nat) : Int) > (16 : Int))) (k1 (6 : Int)) (cond_ (decide ((((List.length t6.2.1) : Nat) : Int) < n10)) (k1 (2 : Int)) (fun_slots_L1 n10 t6.2.1 (((List.length t6.2.1) : Nat) : Int) (0 : Int)
  (fun n19 => (k1 n19))
  (k1 (0 : Int))))))))))
noncomputable def fun_slots : T_fun_slots := fun_slots.body sig_Params sig_Is (fun_slots_L1 ROUNDS)
def fun_slots.p : FPat := fp 40 (pl (pd Ty7) pz) pz
def fun_slots.g (F : T_fun_slots) (v : fun_slots.p.T) (k : KR) : Option Bool := F v.1.1 (fun y0 => k (.d ⟨(.int .i64), y0⟩) [])
theorem fun_slots.eq (F0 : T_sig_Params) (F1 : T_sig_Is) (L0 : T_fun_slots_L1) : ∀ v k, exF Try.f40 fun_slots.p [⟨sig_Params.p, sig_Params.g F0⟩, ⟨sig_Is.p, sig_Is.g F1⟩] [] [⟨1, fun_slots_L1.p, fun_slots_L1.g L0⟩] v k = fun_slots.g (fun_slots.body F0 F1 L0) v k := fun v k => by kernel_rfl
theorem fun_slots.ok : okF 3 fun_slots.p (fun_slots.g fun_slots) := fn2 (fun_slots.eq sig_Params sig_Is (fun_slots_L1 ROUNDS)) Try.func40 (by kernel_rfl) (.cons sig_Params.ok (.cons sig_Is.ok .nil)) [1] (by kernel_rfl) (.cons fun_slots_L1.ok .nil)
/-- function 94: math/bits.Len64 -/
abbrev T_math_bits_Len64 : Type := Int → (Int → Option Bool) → Option Bool
noncomputable def math_bits_Len64.body : T_math_bits_Len64 := fun n32 k1 =>
  (cond_ (decide (n32 ≥ (4294967296 : Int))) (cond_ (decide ((Int.fdiv n32 (4294967296 : Int)) ≥ (65536 : Int))) (cond_ (decide ((Int.fdiv (Int.fdiv n32 (4294967296 : Int)) (65536 : Int)) ≥ (256 : Int))) (cond_ ((decide ((0 : Int) ≤ (IntKind.wrap .u8 (Int.fdiv (Int.fdiv (Int.fdiv n32 (4294967296 : Int)) (65536 : Int)) (256 : Int))))) && (decide ((IntKind.wrap .u8 (Int.fdiv (Int.fdiv (Int.fdiv n32 (4294967296 : Int)) (65536 : Int)) (256 : Int))) < (256 : Int)))) (k1 (IntKind.wrap .i64 ((56 : Int) + (IntKind.wrap .i64 (((UInt8.toNat (List.getD (Array.toList (ByteArray.data (⟨#[0, 1, 2, 2, 3, 3, 3, 3, 4, 4, 4, 4, 4, 4, 4, 4, 5, 5, 5, 5, 5, 5, 5, 5, 5, 5, 5, 5, 5, 5, 5, 5, 6, 6, 6, 6, 6, 6, 6, 6, 6, 6, 6, 6, 6, 6, 6, 6, 6, 6, 6, 6, 6, 6, 6, 6, 6, 6, 6, 6, 6, 6, 6, 6, 7, 7, 7, 7, 7, 7, 7, 7, 7, 7, 7, 7, 7, 7, 7, 7, 7, 7, 7, 7, 7, 7, 7, 7, 7, 7, 7, 7, 7, 7, 7, 7, 7, 7, 7, 7, 7, 7, 7, 7, 7, 7, 7, 7, 7, 7, 7, 7, 7, 7, 7, 7, 7, 7, 7, 7, 7, 7, 7, 7, 7, 7, 7, 7, 8, 8, 8, 8, 8, 8, 8, 8, 8, 8, 8, 8, 8, 8, 8, 8, 8, 8, 8, 8, 8, 8, 8, 8, 8, 8, 8, 8, 8, 8, 8, 8, 8, 8, 8, 8, 8, 8, 8, 8, 8, 8, 8, 8, 8, 8, 8, 8, 8, 8, 8, 8, 8, 8, 8, 8, 8, 8, 8, 8, 8, 8, 8, 8, 8, 8, 8, 8, 8, 8, 8, 8, 8, 8, 8, 8, 8, 8, 8, 8, 8, 8, 8, 8, 8, 8, 8, 8, 8, 8, 8, 8, 8, 8, 8, 8, 8, 8, 8, 8, 8, 8, 8, 8, 8, 8, 8, 8, 8, 8, 8, 8, 8, 8, 8, 8, 8, 8, 8, 8, 8, 8, 8, 8, 8, 8, 8, 8]⟩ : ByteArray))) (Int.toNat (IntKind.wrap .u8 (Int.fdiv (Int.fdiv (Int.fdiv n32 (4294967296 : Int)) (65536 : Int)) (256 : Int)))) (0 : UInt8))) : Nat) : Int))))) none) (cond_ ((decide ((0 : Int) ≤ (IntKind.wrap .u8 (Int.fdiv (Int.fdiv n32 (4294967296 : Int)) (65536 : Int))))) && (decide ((IntKind.wrap .u8 (Int.fdiv (Int.fdiv n32 (4294967296 : Int)) (65536 : Int))) < (256 : Int)))) (k1 (IntKind.wrap .i64 ((48 : Int) + (IntKind.wrap .i64 (((UInt8.toNat (List.getD (Array.toList (ByteArray.data (⟨#[0, 1, 2, 2, 3, 3, 3, 3, 4, 4, 4, 4, 4, 4, 4, 4, 5, 5, 5, 5, 5, 5, 5, 5, 5, 5, 5, 5, 5, 5, 5, 5, 6, 6, 6, 6, 6, 6, 6, 6, 6, 6, 6, 6, 6, 6, 6, 6, 6, 6, 6, 6, 6, 6, 6, 6, 6, 6, 6, 6, 6, 6, 6, 6, 7, 7, 7, 7, 7, 7, 7, 7, 7, 7, 7, 7, 7, 7, 7, 7, 7, 7, 7, 7, 7, 7, 7, 7, 7, 7, 7, 7, 7, 7, 7, 7, 7, 7, 7, 7, 7, 7, 7, 7, 7, 7, 7, 7, 7, 7, 7, 7, 7, 7, 7, 7, 7, 7, 7, 7, 7, 7, 7, 7, 7, 7, 7, 7, 8, 8, 8, 8, 8, 8, 8, 8, 8, 8, 8, 8, 8, 8, 8, 8, 8, 8, 8, 8, 8, 8, 8, 8, 8, 8, 8, 8, 8, 8, 8, 8, 8, 8, 8, 8, 8, 8, 8, 8, 8, 8, 8, 8, 8, 8, 8, 8, 8, 8, 8, 8, 8, 8, 8, 8, 8, 8, 8, 8, 8, 8, 8, 8, 8, 8, 8, 8, 8, 8, 8, 8, 8, 8, 8, 8, 8, 8, 8, 8, 8, 8, 8, 8, 8, 8, 8, 8, 8, 8, 8, 8, 8, 8, 8, 8, 8, 8, 8, 8, 8, 8, 8, 8, 8, 8, 8, 8, 8, 8, 8, 8, 8, 8, 8, 8, 8, 8, 8, 8, 8, 8, 8, 8, 8, 8, 8, 8]⟩ : ByteArray))) (Int.toNat (IntKind.wrap .u8 (Int.fdiv (Int.fdiv n32 (4294967296 : Int)) (65536 : Int)))) (0 : UInt8))) : Nat) : Int))))) none)) (cond_ (decide ((Int.fdiv n32 (4294967296 : Int)) ≥ (256 : Int))) (cond_ ((decide ((0 : Int) ≤ (IntKind.wrap .u8 (Int.fdiv (Int.fdiv n32 (4294967296 : Int)) (256 : Int))))) && (decide ((IntKind.wrap .u8 (Int.fdiv (Int.fdiv n32 (4294967296 : Int)) (256 : Int))) < (256 : Int)))) (k1 (IntKind.wrap .i64 ((40 : Int) + (IntKind.wrap .i64 (((UInt8.toNat (List.getD (Array.toList (ByteArray.data (⟨#[0, 1, 2, 2, 3, 3, 3, 3, 4, 4, 4, 4, 4, 4, 4, 4, 5, 5, 5, 5, 5, 5, 5, 5, 5, 5, 5, 5, 5, 5, 5, 5, 6, 6, 6, 6, 6, 6, 6, 6, 6, 6, 6, 6, 6, 6, 6, 6, 6, 6, 6, 6, 6, 6, 6, 6, 6, 6, 6, 6, 6, 6, 6, 6, 7, 7, 7, 7, 7, 7, 7, 7, 7, 7, 7, 7, 7, 7, 7, 7, 7, 7, 7, 7, 7, 7, 7, 7, 7, 7, 7, 7, 7, 7, 7, 7, 7, 7, 7, 7, 7, 7, 7, 7, 7, 7, 7, 7, 7, 7, 7, 7, 7, 7, 7, 7, 7, 7, 7, 7, 7, 7, 7, 7, 7, 7, 7, 7, 8, 8, 8, 8, 8, 8, 8, 8, 8, 8, 8, 8, 8, 8, 8, 8, 8, 8, 8, 8, 8, 8, 8, 8, 8, 8, 8, 8, 8, 8, 8, 8, 8, 8, 8, 8, 8, 8, 8, 8, 8, 8, 8, 8, 8, 8, 8, 8, 8, 8, 8, 8, 8, 8, 8, 8, 8, 8, 8, 8, 8, 8, 8, 8, 8, 8, 8, 8, 8, 8, 8, 8, 8, 8, 8, 8, 8, 8, 8, 8, 8, 8, 8, 8, 8, 8, 8, 8, 8, 8, 8, 8, 8, 8, 8, 8, 8, 8, 8, 8, 8, 8, 8, 8, 8, 8, 8, 8, 8, 8, 8, 8, 8, 8, 8, 8, 8, 8, 8, 8, 8, 8, 8, 8, 8, 8, 8, 8]⟩ : ByteArray))) (Int.toNat (IntKind.wrap .u8 (Int.fdiv (Int.fdiv n32 (4294967296 : Int)) (256 : Int)))) (0 : UInt8))) : Nat) : Int))))) none) (cond_ ((decide ((0 : Int) ≤ (IntKind.wrap .u8 (Int.fdiv n32 (4294967296 : Int))))) && (decide ((IntKind.wrap .u8 (Int.fdiv n32 (4294967296 : Int))) < (256 : Int)))) (k1 (IntKind.wrap .i64 ((32 : Int) + (IntKind.wrap .i64 (((UInt8.toNat (List.getD (Array.toList (ByteArray.data (⟨#[0, 1, 2, 2, 3, 3, 3, 3, 4, 4, 4, 4, 4, 4, 4, 4, 5, 5, 5, 5, 5, 5, 5, 5, 5, 5, 5, 5, 5, 5, 5, 5, 6, 6, 6, 6, 6, 6, 6, 6, 6, 6, 6, 6, 6, 6, 6, 6, 6, 6, 6, 6, 6, 6, 6, 6, 6, 6, 6, 6, 6, 6, 6, 6, 7, 7, 7, 7, 7, 7, 7, 7, 7, 7, 7, 7, 7, 7, 7, 7, 7, 7, 7, 7, 7, 7, 7, 7, 7, 7, 7, 7, 7, 7, 7, 7, 7, 7, 7, 7, 7, 7, 7, 7, 7, 7, 7, 7, 7, 7, 7, 7, 7, 7, 7, 7, 7, 7, 7, 7, 7, 7, 7, 7, 7, 7, 7, 7, 8, 8, 8, 8, 8, 8, 8, 8, 8, 8, 8, 8, 8, 8, 8, 8, 8, 8, 8, 8, 8, 8, 8, 8, 8, 8, 8, 8, 8, 8, 8, 8, 8, 8, 8, 8, 8, 8, 8, 8, 8, 8, 8, 8, 8, 8, 8, 8, 8, 8, 8, 8, 8, 8, 8, 8, 8, 8, 8, 8, 8, 8, 8, 8, 8, 8, 8, 8, 8, 8, 8, 8, 8, 8, 8, 8, 8, 8, 8, 8, 8, 8, 8, 8, 8, 8, 8, 8, 8, 8, 8, 8, 8, 8, 8, 8, 8, 8, 8, 8, 8, 8, 8, 8, 8, 8, 8, 8, 8, 8, 8, 8, 8, 8, 8, 8, 8, 8, 8, 8, 8, 8, 8, 8, 8, 8, 8, 8]⟩ : ByteArray))) (Int.toNat (IntKind.wrap .u8 (Int.fdiv n32 (4294967296 : Int)))) (0 : UInt8))) : Nat) : Int))))) none))) (cond_ (decide (n32 ≥ (65536 : Int))) (cond_ (decide ((Int.fdiv n32 (65536 : Int)) ≥ (256 : Int))) (cond_ ((decide ((0 : Int) ≤ (IntKind.wrap .u8 (Int.fdiv (Int.fdiv n32 (65536 : Int)) (256 : Int))))) && (decide ((IntKind.wrap .u8 (Int.fdiv (Int.fdiv n32 (65536 : Int)) (256 : Int))) < (256 : Int)))) (k1 (IntKind.wrap .i64 ((24 : Int) + (IntKind.wrap .i64 (((UInt8.toNat (List.getD (Array.toList (ByteArray.data (⟨#[0, 1, 2, 2, 3, 3, 3, 3, 4, 4, 4, 4, 4, 4, 4, 4, 5, 5, 5, 5, 5, 5, 5, 5, 5, 5, 5, 5, 5, 5, 5, 5, 6, 6, 6, 6, 6, 6, 6, 6, 6, 6, 6, 6, 6, 6, 6, 6, 6, 6, 6, 6, 6, 6, 6, 6, 6, 6, 6, 6, 6, 6, 6, 6, 7, 7, 7, 7, 7, 7, 7, 7, 7, 7, 7, 7, 7, 7, 7, 7, 7, 7, 7, 7, 7, 7, 7, 7, 7, 7, 7, 7, 7, 7, 7, 7, 7, 7, 7, 7, 7, 7, 7, 7, 7, 7, 7, 7, 7, 7, 7, 7, 7, 7, 7, 7, 7, 7, 7, 7, 7, 7, 7, 7, 7, 7, 7, 7, 8, 8, 8, 8, 8, 8, 8, 8, 8, 8, 8, 8, 8, 8, 8, 8, 8, 8, 8, 8, 8, 8, 8, 8, 8, 8, 8, 8, 8, 8, 8, 8, 8, 8, 8, 8, 8, 8, 8, 8, 8, 8, 8, 8, 8, 8, 8, 8, 8, 8, 8, 8, 8, 8, 8, 8, 8, 8, 8, 8, 8, 8, 8, 8, 8, 8, 8, 8, 8, 8, 8, 8, 8, 8, 8, 8, 8, 8, 8, 8, 8, 8, 8, 8, 8, 8, 8, 8, 8, 8, 8, 8, 8, 8, 8, 8, 8, 8, 8, 8, 8, 8, 8, 8, 8, 8, 8, 8, 8, 8, 8, 8, 8, 8, 8, 8, 8, 8, 8, 8, 8, 8, 8, 8, 8, 8, 8, 8]⟩ : ByteArray))) (Int.toNat (IntKind.wrap .u8 (Int.fdiv (Int.fdiv n32 (65536 : Int)) (256 : Int)))) (0 : UInt8))) : Nat) : Int))))) none) (cond_ ((decide ((0 : Int) ≤ (IntKind.wrap .u8 (Int.fdiv n32 (65536 : Int))))) && (decide ((IntKind.wrap .u8 (Int.fdiv n32 (65536 : Int))) < (256 : Int)))) (k1 (IntKind.wrap .i64 ((16 : Int) + (IntKind.wrap .i64 (((UInt8.toNat (List.getD (Array.toList (ByteArray.data (⟨#[0, 1, 2, 2, 3, 3, 3, 3, 4, 4, 4, 4, 4, 4, 4, 4, 5, 5, 5, 5, 5, 5, 5, 5, 5, 5, 5, 5, 5, 5, 5, 5, 6, 6, 6, 6, 6, 6, 6, 6, 6, 6, 6, 6, 6, 6, 6, 6, 6, 6, 6, 6, 6, 6, 6, 6, 6, 6, 6, 6, 6, 6, 6, 6, 7, 7, 7, 7, 7, 7, 7, 7, 7, 7, 7, 7, 7, 7, 7, 7, 7, 7, 7, 7, 7, 7, 7, 7, 7, 7, 7, 7, 7, 7, 7, 7, 7, 7, 7, 7, 7, 7, 7, 7, 7, 7, 7, 7, 7, 7, 7, 7, 7, 7, 7, 7, 7, 7, 7, 7, 7, 7, 7, 7, 7, 7, 7, 7, 8, 8, 8, 8, 8, 8, 8, 8, 8, 8, 8, 8, 8, 8, 8, 8, 8, 8, 8, 8, 8, 8, 8, 8, 8, 8, 8, 8, 8, 8, 8, 8, 8, 8, 8, 8, 8, 8, 8, 8, 8, 8, 8, 8, 8, 8, 8, 8, 8, 8, 8, 8, 8, 8, 8, 8, 8, 8, 8, 8, 8, 8, 8, 8, 8, 8, 8, 8, 8, 8, 8, 8, 8, 8, 8, 8, 8, 8, 8, 8, 8, 8, 8, 8, 8, 8, 8, 8, 8, 8, 8, 8, 8, 8, 8, 8, 8, 8, 8, 8, 8, 8, 8, 8, 8, 8, 8, 8, 8, 8, 8, 8, 8, 8, 8, 8, 8, 8, 8, 8, 8, 8, 8, 8, 8, 8, 8, 8]⟩ : ByteArray))) (Int.toNat (IntKind.wrap .u8 (Int.fdiv n32 (65536 : Int)))) (0 : UInt8))) : Nat) : Int))))) none)) (cond_ (decide (n32 ≥ (256 : Int))) (cond_ ((decide ((0 : Int) ≤ (IntKind.wrap .u8 (Int.fdiv n32 (256 : Int))))) && (decide ((IntKind.wrap .u8 (Int.fdiv n32 (256 : Int))) < (256 : Int)))) (k1 (IntKind.wrap .i64 ((8 : Int) + (IntKind.wrap .i64 (((UInt8.toNat (List.getD (Array.toList (ByteArray.data (⟨#[0, 1, 2, 2, 3, 3, 3, 3, 4, 4, 4, 4, 4, 4, 4, 4, 5, 5, 5, 5, 5, 5, 5, 5, 5, 5, 5, 5, 5, 5, 5, 5, 6, 6, 6, 6, 6, 6, 6, 6, 6, 6, 6, 6, 6, 6, 6, 6, 6, 6, 6, 6, 6, 6, 6, 6, 6, 6, 6, 6, 6, 6, 6, 6, 7, 7, 7, 7, 7, 7, 7, 7, 7, 7, 7, 7, 7, 7, 7, 7, 7, 7, 7, 7, 7, 7, 7, 7, 7, 7, 7, 7, 7, 7, 7, 7, 7, 7, 7, 7, 7, 7, 7, 7, 7, 7, 7, 7, 7, 7, 7, 7, 7, 7, 7, 7, 7, 7, 7, 7, 7, 7, 7, 7, 7, 7, 7, 7, 8, 8, 8, 8, 8, 8, 8, 8, 8, 8, 8, 8, 8, 8, 8, 8, 8, 8, 8, 8, 8, 8, 8, 8, 8, 8, 8, 8, 8, 8, 8, 8, 8, 8, 8, 8, 8, 8, 8, 8, 8, 8, 8, 8, 8, 8, 8, 8, 8, 8, 8, 8, 8, 8, 8, 8, 8, 8, 8, 8, 8, 8, 8, 8, 8, 8, 8, 8, 8, 8, 8, 8, 8, 8, 8, 8, 8, 8, 8, 8, 8, 8, 8, 8, 8, 8, 8, 8, 8, 8, 8, 8, 8, 8, 8, 8, 8, 8, 8, 8, 8, 8, 8, 8, 8, 8, 8, 8, 8, 8, 8, 8, 8, 8, 8, 8, 8, 8, 8, 8, 8, 8, 8, 8, 8, 8, 8, 8]⟩ : ByteArray))) (Int.toNat (IntKind.wrap .u8 (Int.fdiv n32 (256 : Int)))) (0 : UInt8))) : Nat) : Int))))) none) (cond_ ((decide ((0 : Int) ≤ (IntKind.wrap .u8 n32))) && (decide ((IntKind.wrap .u8 n32) < (256 : Int)))) (k1 (IntKind.wrap .i64 ((0 : Int) + (IntKind.wrap .i64 (((UInt8.toNat (List.getD (Array.toList (ByteArray.data (⟨#[0, 1, 2, 2, 3, 3, 3, 3, 4, 4, 4, 4, 4, 4, 4, 4, 5, 5, 5, 5, 5, 5, 5, 5, 5, 5, 5, 5, 5, 5, 5, 5, 6, 6, 6, 6, 6, 6, 6, 6, 6, 6, 6, 6, 6, 6, 6, 6, 6, 6, 6, 6, 6, 6, 6, 6, 6, 6, 6, 6, 6, 6, 6, 6, 7, 7, 7, 7, 7, 7, 7, 7, 7, 7, 7, 7, 7, 7, 7, 7, 7, 7, 7, 7, 7, 7, 7, 7, 7, 7, 7, 7, 7, 7, 7, 7, 7, 7, 7, 7, 7, 7, 7, 7, 7, 7, 7, 7, 7, 7, 7, 7, 7, 7, 7, 7, 7, 7, 7, 7, 7, 7, 7, 7, 7, 7, 7, 7, 8, 8, 8, 8, 8, 8, 8, 8, 8, 8, 8, 8, 8, 8, 8, 8, 8, 8, 8, 8, 8, 8, 8, 8, 8, 8, 8, 8, 8, 8, 8, 8, 8, 8, 8, 8, 8, 8, 8, 8, 8, 8, 8, 8, 8, 8, 8, 8, 8, 8, 8, 8, 8, 8, 8, 8, 8, 8, 8, 8, 8, 8, 8, 8, 8, 8, 8, 8, 8, 8, 8, 8, 8, 8, 8, 8, 8, 8, 8, 8, 8, 8, 8, 8, 8, 8, 8, 8, 8, 8, 8, 8, 8, 8, 8, 8, 8, 8, 8, 8, 8, 8, 8, 8, 8, 8, 8, 8, 8, 8, 8, 8, 8, 8, 8, 8, 8, 8, 8, 8, 8, 8, 8, 8, 8, 8, 8, 8]⟩ : ByteArray))) (Int.toNat (IntKind.wrap .u8 n32)) (0 : UInt8))) : Nat) : Int))))) none))))
noncomputable def math_bits_Len64 : T_math_bits_Len64 := math_bits_Len64.body
def math_bits_Len64.p : FPat := fp 94 (pl (pd (.int .u64)) pz) pz
def math_bits_Len64.g (F : T_math_bits_Len64) (v : math_bits_Len64.p.T) (k : KR) : Option Bool := F v.1.1 (fun y0 => k (.d ⟨(.int .i64), y0⟩) [])
theorem math_bits_Len64.eq : ∀ v k, exF Try.f94 math_bits_Len64.p [] [] [] v k = math_bits_Len64.g (math_bits_Len64.body) v k := fun v k => by kernel_rfl
theorem math_bits_Len64.ok : okF 1 math_bits_Len64.p (math_bits_Len64.g math_bits_Len64) := fn2 (math_bits_Len64.eq) Try.func94 (by kernel_rfl) .nil [] (by kernel_rfl) .nil
/-- function 83: math/bits.Len -/
abbrev T_math_bits_Len : Type := Int → (Int → Option Bool) → Option Bool
noncomputable def math_bits_Len.body (math_bits_Len64 : T_math_bits_Len64) : T_math_bits_Len := fun n31 k1 =>
  (math_bits_Len64 n31
  (fun n33 => (k1 n33)))
noncomputable def math_bits_Len : T_math_bits_Len := math_bits_Len.body math_bits_Len64
def math_bits_Len.p : FPat := fp 83 (pl (pd (.int .u64)) pz) pz
def math_bits_Len.g (F : T_math_bits_Len) (v : math_bits_Len.p.T) (k : KR) : Option Bool := F v.1.1 (fun y0 => k (.d ⟨(.int .i64), y0⟩) [])
theorem math_bits_Len.eq (F0 : T_math_bits_Len64) : ∀ v k, exF Try.f83 math_bits_Len.p [⟨math_bits_Len64.p, math_bits_Len64.g F0⟩] [] [] v k = math_bits_Len.g (math_bits_Len.body F0) v k := fun v k => by kernel_rfl
theorem math_bits_Len.ok : okF 2 math_bits_Len.p (math_bits_Len.g math_bits_Len) := fn2 (math_bits_Len.eq math_bits_Len64) Try.func83 (by kernel_rfl) (.cons math_bits_Len64.ok .nil) [] (by kernel_rfl) .nil
/-- function 100: cmp.isNaN[int] -/
abbrev T_cmp_isNaN_int : Type := Int → (Bool → Option Bool) → Option Bool
noncomputable def cmp_isNaN_int.body : T_cmp_isNaN_int := fun n59 k1 =>
  (k1 (n59 != n59))
noncomputable def cmp_isNaN_int : T_cmp_isNaN_int := cmp_isNaN_int.body
def cmp_isNaN_int.p : FPat := fp 100 (pl (pd (.int .i64)) pz) pz
def cmp_isNaN_int.g (F : T_cmp_isNaN_int) (v : cmp_isNaN_int.p.T) (k : KR) : Option Bool := F v.1.1 (fun y0 => k (.d ⟨.bool, y0⟩) [])
theorem cmp_isNaN_int.eq : ∀ v k, exF Try.f100 cmp_isNaN_int.p [] [] [] v k = cmp_isNaN_int.g (cmp_isNaN_int.body) v k := fun v k => by kernel_rfl
theorem cmp_isNaN_int.ok : okF 1 cmp_isNaN_int.p (cmp_isNaN_int.g cmp_isNaN_int) := fn2 (cmp_isNaN_int.eq) Try.func100 (by kernel_rfl) .nil [] (by kernel_rfl) .nil
/-- function 90: cmp.Less[int] -/
abbrev T_cmp_Less_int : Type := Int → Int → (Bool → Option Bool) → Option Bool
noncomputable def cmp_Less_int.body (cmp_isNaN_int : T_cmp_isNaN_int) : T_cmp_Less_int := fun n57 n58 k1 =>
  (cmp_isNaN_int n57
  (fun b60 => (cond_ b60 (cmp_isNaN_int n58
  (fun b61 => (cond_ (! (! b61)) (k1 (decide (n57 < n58))) (k1 true)))) (k1 (decide (n57 < n58))))))
noncomputable def cmp_Less_int : T_cmp_Less_int := cmp_Less_int.body cmp_isNaN_int
def cmp_Less_int.p : FPat := fp 90 (pl (pd (.int .i64)) (pl (pd (.int .i64)) pz)) pz
def cmp_Less_int.g (F : T_cmp_Less_int) (v : cmp_Less_int.p.T) (k : KR) : Option Bool := F v.1.1 v.1.2.1 (fun y0 => k (.d ⟨.bool, y0⟩) [])
theorem cmp_Less_int.eq (F0 : T_cmp_isNaN_int) : ∀ v k, exF Try.f90 cmp_Less_int.p [⟨cmp_isNaN_int.p, cmp_isNaN_int.g F0⟩] [] [] v k = cmp_Less_int.g (cmp_Less_int.body F0) v k := fun v k => by kernel_rfl
theorem cmp_Less_int.ok : okF 2 cmp_Less_int.p (cmp_Less_int.g cmp_Less_int) := fn2 (cmp_Less_int.eq cmp_isNaN_int) Try.func90 (by kernel_rfl) (.cons cmp_isNaN_int.ok .nil) [] (by kernel_rfl) .nil
/-- function 84: the loop in block 2 -/
abbrev T_slices_insertionSortOrdered_int_L0_L2 : Type := Int → Int → Int → Int → (List Int) → (Int → Int → Int → (List Int) → Option Bool) → Option Bool
noncomputable def slices_insertionSortOrdered_int_L0_L2.body (slices_insertionSortOrdered_int_L0_L2 : T_slices_insertionSortOrdered_int_L0_L2) (cmp_Less_int : T_cmp_Less_int) : T_slices_insertionSortOrdered_int_L0_L2 := fun n52 n53 n54 n55 ns56 k1 =>
  (cond_ (decide (n55 > n52)) (cond_ ((decide ((0 : Int) ≤ n55)) && (decide (n55 < (List.length ns56 : Int)))) (cond_ ((decide ((0 : Int) ≤ (IntKind.wrap .i64 (n55 - (1 : Int))))) && (decide ((IntKind.wrap .i64 (n55 - (1 : Int))) < (List.length ns56 : Int)))) (cmp_Less_int (List.getD ns56 (Int.toNat n55) (0 : Int)) (List.getD ns56 (Int.toNat (IntKind.wrap .i64 (n55 - (1 : Int)))) (0 : Int))
  (fun b62 => (cond_ b62 (cond_ ((decide ((0 : Int) ≤ (IntKind.wrap .i64 (n55 - (1 : Int))))) && (decide ((IntKind.wrap .i64 (n55 - (1 : Int))) < (List.length ns56 : Int)))) (cond_ ((decide ((0 : Int) ≤ n55)) && (decide (n55 < (List.length ns56 : Int)))) (cond_ ((decide ((0 : Int) ≤ n55)) && (decide (n55 < (List.length ns56 : Int)))) (cond_ ((decide ((0 : Int) ≤ (IntKind.wrap .i64 (n55 - (1 : Int))))) && (decide ((IntKind.wrap .i64 (n55 - (1 : Int))) < (((List.length (List.set ns56 (Int.toNat n55) (List.getD ns56 (Int.toNat (IntKind.wrap .i64 (n55 - (1 : Int)))) (0 : Int)))) : Nat) : Int)))) (slices_insertionSortOrdered_int_L0_L2 n52 n53 n54 (IntKind.wrap .i64 (n55 - (1 : Int))) (List.set (List.set ns56 (Int.toNat n55) (List.getD ns56 (Int.toNat (IntKind.wrap .i64 (n55 - (1 : Int)))) (0 : Int))) (Int.toNat (IntKind.wrap .i64 (n55 - (1 : Int)))) (List.getD ns56 (Int.toNat n55) (0 : Int))) k1) none) none) none) none) (k1 n52 n53 n54 ns56)))) none) none) (k1 n52 n53 n54 ns56))
noncomputable def slices_insertionSortOrdered_int_L0_L2 : Nat → T_slices_insertionSortOrdered_int_L0_L2
  | 0 => fun _ _ _ _ _ _ => none
  | n + 1 => slices_insertionSortOrdered_int_L0_L2.body (slices_insertionSortOrdered_int_L0_L2 n) cmp_Less_int
def slices_insertionSortOrdered_int_L0_L2.p : LPat := lp 2 49 [0, 1, 2, 6, 7] (ps (pr [0, 0]) (pl (pd (.int .i64)) (pl (pd (.int .i64)) (pl (pd (.int .i64)) (pl (pd (.int .i64)) pz))))) (pl (po [0, 0] 3 1 (ed (.int .i64))) pz)
def slices_insertionSortOrdered_int_L0_L2.g (F : T_slices_insertionSortOrdered_int_L0_L2) (v : slices_insertionSortOrdered_int_L0_L2.p.T) (k : KE) : Option Bool := F v.1.1 v.1.2.1 v.1.2.2.1 v.1.2.2.2.1 v.2.1 (fun y0 y1 y2 y3 => k (.exit 2) ⟨fillS 49 [0, 1, 2, 6] [(.ref [0, 0]), (.d ⟨(.int .i64), y0⟩), (.d ⟨(.int .i64), y1⟩), (.d ⟨(.int .i64), y2⟩)], [([0, 0], ⟨3, 1, (.data (.int .i64) y3)⟩)], 2⟩)
theorem slices_insertionSortOrdered_int_L0_L2.step (S : T_slices_insertionSortOrdered_int_L0_L2) (F0 : T_cmp_Less_int) : ∀ v k, exR 84 Try.f84 2 slices_insertionSortOrdered_int_L0_L2.p [⟨cmp_Less_int.p, cmp_Less_int.g F0⟩] [] [] (slices_insertionSortOrdered_int_L0_L2.g S) v k = slices_insertionSortOrdered_int_L0_L2.g (slices_insertionSortOrdered_int_L0_L2.body S F0) v k := fun v k => by kernel_rfl
theorem slices_insertionSortOrdered_int_L0_L2.ok : okL 84 Try.f84 2 2 slices_insertionSortOrdered_int_L0_L2.p (slices_insertionSortOrdered_int_L0_L2.g (slices_insertionSortOrdered_int_L0_L2 ROUNDS)) := loop2 (G := fun n => slices_insertionSortOrdered_int_L0_L2.g (slices_insertionSortOrdered_int_L0_L2 n)) (fun n => slices_insertionSortOrdered_int_L0_L2.step (slices_insertionSortOrdered_int_L0_L2 n) cmp_Less_int) (.cons cmp_Less_int.ok .nil) [] (by kernel_rfl) .nil (fun _ _ => rfl)
/-- function 84: the loop in block 0 -/
abbrev T_slices_insertionSortOrdered_int_L0 : Type := Int → Int → Int → (List Int) → ((List Int) → Option Bool) → Option Bool
noncomputable def slices_insertionSortOrdered_int_L0.body (slices_insertionSortOrdered_int_L0 : T_slices_insertionSortOrdered_int_L0) (slices_insertionSortOrdered_int_L0_L2 : T_slices_insertionSortOrdered_int_L0_L2) : T_slices_insertionSortOrdered_int_L0 := fun n48 n49 n50 ns51 k1 =>
  (cond_ (decide (n50 < n49)) (slices_insertionSortOrdered_int_L0_L2 n48 n49 n50 n50 ns51
  (fun n63 n64 n65 ns66 => (slices_insertionSortOrdered_int_L0 n63 n64 (IntKind.wrap .i64 (n65 + (1 : Int))) ns66 k1))) (k1 ns51))
noncomputable def slices_insertionSortOrdered_int_L0 : Nat → T_slices_insertionSortOrdered_int_L0
  | 0 => fun _ _ _ _ _ => none
  | n + 1 => slices_insertionSortOrdered_int_L0.body (slices_insertionSortOrdered_int_L0 n) (slices_insertionSortOrdered_int_L0_L2 ROUNDS)
def slices_insertionSortOrdered_int_L0.p : LPat := lp 2 49 [0, 1, 2, 6] (ps (pr [0, 0]) (pl (pd (.int .i64)) (pl (pd (.int .i64)) (pl (pd (.int .i64)) pz)))) (pl (po [0, 0] 3 1 (ed (.int .i64))) pz)
def slices_insertionSortOrdered_int_L0.g (F : T_slices_insertionSortOrdered_int_L0) (v : slices_insertionSortOrdered_int_L0.p.T) (k : KE) : Option Bool := F v.1.1 v.1.2.1 v.1.2.2.1 v.2.1 (fun y0 => k (.exit 0) ⟨fillS 49 [] [], [([0, 0], ⟨3, 1, (.data (.int .i64) y0)⟩)], 2⟩)
theorem slices_insertionSortOrdered_int_L0.step (S : T_slices_insertionSortOrdered_int_L0) (L0 : T_slices_insertionSortOrdered_int_L0_L2) : ∀ v k, exR 84 Try.f84 0 slices_insertionSortOrdered_int_L0.p [] [] [⟨2, slices_insertionSortOrdered_int_L0_L2.p, slices_insertionSortOrdered_int_L0_L2.g L0⟩] (slices_insertionSortOrdered_int_L0.g S) v k = slices_insertionSortOrdered_int_L0.g (slices_insertionSortOrdered_int_L0.body S L0) v k := fun v k => by kernel_rfl
theorem slices_insertionSortOrdered_int_L0.ok : okL 84 Try.f84 2 0 slices_insertionSortOrdered_int_L0.p (slices_insertionSortOrdered_int_L0.g (slices_insertionSortOrdered_int_L0 ROUNDS)) := loop2 (G := fun n => slices_insertionSortOrdered_int_L0.g (slices_insertionSortOrdered_int_L0 n)) (fun n => slices_insertionSortOrdered_int_L0.step (slices_insertionSortOrdered_int_L0 n) (slices_insertionSortOrdered_int_L0_L2 ROUNDS)) .nil [2] (by kernel_rfl) (.cons slices_insertionSortOrdered_int_L0_L2.ok .nil) (fun _ _ => rfl)
/-- function 84: slices.insertionSortOrdered[int] -/
abbrev T_slices_insertionSortOrdered_int : Type := Int → Int → (List Int) → ((List Int) → Option Bool) → Option Bool
noncomputable def slices_insertionSortOrdered_int.body (slices_insertionSortOrdered_int_L0 : T_slices_insertionSortOrdered_int_L0) : T_slices_insertionSortOrdered_int := fun n45 n46 ns47 k1 =>
  (slices_insertionSortOrdered_int_L0 n45 n46 (IntKind.wrap .i64 (n45 + (1 : Int))) ns47
  (fun ns67 => (k1 ns67)))
noncomputable def slices_insertionSortOrdered_int : T_slices_insertionSortOrdered_int := slices_insertionSortOrdered_int.body (slices_insertionSortOrdered_int_L0 ROUNDS)
def slices_insertionSortOrdered_int.p : FPat := fp 84 (ps (pr [0, 0]) (pl (pd (.int .i64)) (pl (pd (.int .i64)) pz))) (pl (po [0, 0] 3 1 (ed (.int .i64))) pz)
def slices_insertionSortOrdered_int.g (F : T_slices_insertionSortOrdered_int) (v : slices_insertionSortOrdered_int.p.T) (k : KR) : Option Bool := F v.1.1 v.1.2.1 v.2.1 (fun y0 => k (.tup []) [([0, 0], ⟨3, 1, (.data (.int .i64) y0)⟩)])
theorem slices_insertionSortOrdered_int.eq (L0 : T_slices_insertionSortOrdered_int_L0) : ∀ v k, exF Try.f84 slices_insertionSortOrdered_int.p [] [] [⟨0, slices_insertionSortOrdered_int_L0.p, slices_insertionSortOrdered_int_L0.g L0⟩] v k = slices_insertionSortOrdered_int.g (slices_insertionSortOrdered_int.body L0) v k := fun v k => by kernel_rfl
theorem slices_insertionSortOrdered_int.ok : okF 3 slices_insertionSortOrdered_int.p (slices_insertionSortOrdered_int.g slices_insertionSortOrdered_int) := fn2 (slices_insertionSortOrdered_int.eq (slices_insertionSortOrdered_int_L0 ROUNDS)) Try.func84 (by kernel_rfl) .nil [0] (by kernel_rfl) (.cons slices_insertionSortOrdered_int_L0.ok .nil)
/-- function 82: the loop in block 0 -/
abbrev T_slices_pdqsortOrdered_int_L0 : Type := Int → Int → Int → Bool → Bool → (List Int) → ((List Int) → Option Bool) → Option Bool
noncomputable def slices_pdqsortOrdered_int_L0.body (slices_pdqsortOrdered_int_L0 : T_slices_pdqsortOrdered_int_L0) (slices_insertionSortOrdered_int : T_slices_insertionSortOrdered_int) : T_slices_pdqsortOrdered_int_L0 := fun n39 n40 n41 b42 b43 ns44 k1 =>
  (cond_ (decide ((IntKind.wrap .i64 (n40 - n39)) ≤ (12 : Int))) (slices_insertionSortOrdered_int n39 n40 ns44
  (fun ns68 => (k1 ns68))) (cond_ (n41 == (0 : Int)) none (cond_ (! b42) none none)))
noncomputable def slices_pdqsortOrdered_int_L0 : Nat → T_slices_pdqsortOrdered_int_L0
  | 0 => fun _ _ _ _ _ _ _ => none
  | n + 1 => slices_pdqsortOrdered_int_L0.body (slices_pdqsortOrdered_int_L0 n) slices_insertionSortOrdered_int
def slices_pdqsortOrdered_int_L0.p : LPat := lp 2 134 [0, 1, 2, 3, 8, 9] (ps (pr [0, 0]) (pl (pd (.int .i64)) (pl (pd (.int .i64)) (pl (pd (.int .i64)) (pl (pd .bool) (pl (pd .bool) pz)))))) (pl (po [0, 0] 3 1 (ed (.int .i64))) pz)
def slices_pdqsortOrdered_int_L0.g (F : T_slices_pdqsortOrdered_int_L0) (v : slices_pdqsortOrdered_int_L0.p.T) (k : KE) : Option Bool := F v.1.1 v.1.2.1 v.1.2.2.1 v.1.2.2.2.1 v.1.2.2.2.2.1 v.2.1 (fun y0 => k .ret ⟨fillS 134 [] [], [([0, 0], ⟨3, 1, (.data (.int .i64) y0)⟩)], 2⟩)
theorem slices_pdqsortOrdered_int_L0.step (S : T_slices_pdqsortOrdered_int_L0) (F0 : T_slices_insertionSortOrdered_int) : ∀ v k, exR 82 Try.f82 0 slices_pdqsortOrdered_int_L0.p [⟨slices_insertionSortOrdered_int.p, slices_insertionSortOrdered_int.g F0⟩] [] [] (slices_pdqsortOrdered_int_L0.g S) v k = slices_pdqsortOrdered_int_L0.g (slices_pdqsortOrdered_int_L0.body S F0) v k := fun v k => by kernel_rfl
theorem slices_pdqsortOrdered_int_L0.ok : okL 82 Try.f82 3 0 slices_pdqsortOrdered_int_L0.p (slices_pdqsortOrdered_int_L0.g (slices_pdqsortOrdered_int_L0 ROUNDS)) := loop2 (G := fun n => slices_pdqsortOrdered_int_L0.g (slices_pdqsortOrdered_int_L0 n)) (fun n => slices_pdqsortOrdered_int_L0.step (slices_pdqsortOrdered_int_L0 n) slices_insertionSortOrdered_int) (.cons slices_insertionSortOrdered_int.ok .nil) [] (by kernel_rfl) .nil (fun _ _ => rfl)
/-- function 82: slices.pdqsortOrdered[int] -/
abbrev T_slices_pdqsortOrdered_int : Type := Int → Int → Int → (List Int) → ((List Int) → Option Bool) → Option Bool
noncomputable def slices_pdqsortOrdered_int.body (slices_pdqsortOrdered_int_L0 : T_slices_pdqsortOrdered_int_L0) : T_slices_pdqsortOrdered_int := fun n35 n36 n37 ns38 k1 =>
  (slices_pdqsortOrdered_int_L0 n35 n36 n37 true true ns38
  (fun ns69 => (k1 ns69)))
noncomputable def slices_pdqsortOrdered_int : T_slices_pdqsortOrdered_int := slices_pdqsortOrdered_int.body (slices_pdqsortOrdered_int_L0 ROUNDS)
def slices_pdqsortOrdered_int.p : FPat := fp 82 (ps (pr [0, 0]) (pl (pd (.int .i64)) (pl (pd (.int .i64)) (pl (pd (.int .i64)) pz)))) (pl (po [0, 0] 3 1 (ed (.int .i64))) pz)
def slices_pdqsortOrdered_int.g (F : T_slices_pdqsortOrdered_int) (v : slices_pdqsortOrdered_int.p.T) (k : KR) : Option Bool := F v.1.1 v.1.2.1 v.1.2.2.1 v.2.1 (fun y0 => k (.tup []) [([0, 0], ⟨3, 1, (.data (.int .i64) y0)⟩)])
theorem slices_pdqsortOrdered_int.eq (L0 : T_slices_pdqsortOrdered_int_L0) : ∀ v k, exF Try.f82 slices_pdqsortOrdered_int.p [] [] [⟨0, slices_pdqsortOrdered_int_L0.p, slices_pdqsortOrdered_int_L0.g L0⟩] v k = slices_pdqsortOrdered_int.g (slices_pdqsortOrdered_int.body L0) v k := fun v k => by kernel_rfl
theorem slices_pdqsortOrdered_int.ok : okF 4 slices_pdqsortOrdered_int.p (slices_pdqsortOrdered_int.g slices_pdqsortOrdered_int) := fn2 (slices_pdqsortOrdered_int.eq (slices_pdqsortOrdered_int_L0 ROUNDS)) Try.func82 (by kernel_rfl) .nil [0] (by kernel_rfl) (.cons slices_pdqsortOrdered_int_L0.ok .nil)
/-- function 80: slices.Sort[[]int,int] -/
abbrev T_slices_Sort_int_int : Type := (List Int) → ((List Int) → Option Bool) → Option Bool
noncomputable def slices_Sort_int_int.body (math_bits_Len : T_math_bits_Len) (slices_pdqsortOrdered_int : T_slices_pdqsortOrdered_int) : T_slices_Sort_int_int := fun ns30 k1 =>
  (math_bits_Len (IntKind.wrap .u64 (List.length ns30 : Int))
  (fun n34 => (slices_pdqsortOrdered_int (0 : Int) (List.length ns30 : Int) n34 ns30
  (fun ns70 => (k1 ns70)))))
noncomputable def slices_Sort_int_int : T_slices_Sort_int_int := slices_Sort_int_int.body math_bits_Len slices_pdqsortOrdered_int
def slices_Sort_int_int.p : FPat := fp 80 (ps (pr [0, 0]) pz) (pl (po [0, 0] 3 1 (ed (.int .i64))) pz)
def slices_Sort_int_int.g (F : T_slices_Sort_int_int) (v : slices_Sort_int_int.p.T) (k : KR) : Option Bool := F v.2.1 (fun y0 => k (.tup []) [([0, 0], ⟨3, 1, (.data (.int .i64) y0)⟩)])
theorem slices_Sort_int_int.eq (F0 : T_math_bits_Len) (F1 : T_slices_pdqsortOrdered_int) : ∀ v k, exF Try.f80 slices_Sort_int_int.p [⟨math_bits_Len.p, math_bits_Len.g F0⟩, ⟨slices_pdqsortOrdered_int.p, slices_pdqsortOrdered_int.g F1⟩] [] [] v k = slices_Sort_int_int.g (slices_Sort_int_int.body F0 F1) v k := fun v k => by kernel_rfl
theorem slices_Sort_int_int.ok : okF 5 slices_Sort_int_int.p (slices_Sort_int_int.g slices_Sort_int_int) := fn2 (slices_Sort_int_int.eq math_bits_Len slices_pdqsortOrdered_int) Try.func80 (by kernel_rfl) (.cons math_bits_Len.ok (.cons slices_pdqsortOrdered_int.ok .nil)) [] (by kernel_rfl) .nil
/-- function 81: the loop in block 2 -/
abbrev T_slices_Compact_int_int_L0_L2 : Type := Int → Nat → Nat → Int → (List Int) → (Int → (List Int) → Option Bool) → Option Bool
noncomputable def slices_Compact_int_int_L0_L2.body (slices_Compact_int_int_L0_L2 : T_slices_Compact_int_int_L0_L2) : T_slices_Compact_int_int_L0_L2 := fun n75 m76 m77 n78 ns79 k1 =>
  (cond_ (decide (n78 < ((m77 : Nat) : Int))) (cond_ ((decide ((0 : Int) ≤ n78)) && (decide (n78 < ((m77 : Nat) : Int)))) (cond_ ((decide ((0 : Int) ≤ (IntKind.wrap .i64 (n78 - (1 : Int))))) && (decide ((IntKind.wrap .i64 (n78 - (1 : Int))) < ((m77 : Nat) : Int)))) (cond_ ((List.getD ns79 (m76 + (Int.toNat n78)) (0 : Int)) != (List.getD ns79 (m76 + (Int.toNat (IntKind.wrap .i64 (n78 - (1 : Int))))) (0 : Int))) (cond_ ((decide ((0 : Int) ≤ n78)) && (decide (n78 < ((m77 : Nat) : Int)))) (cond_ ((decide ((0 : Int) ≤ n75)) && (decide (n75 < (List.length ns79 : Int)))) (slices_Compact_int_int_L0_L2 (IntKind.wrap .i64 (n75 + (1 : Int))) m76 m77 (IntKind.wrap .i64 (n78 + (1 : Int))) (List.set ns79 (Int.toNat n75) (List.getD ns79 (m76 + (Int.toNat n78)) (0 : Int))) k1) none) none) (slices_Compact_int_int_L0_L2 n75 m76 m77 (IntKind.wrap .i64 (n78 + (1 : Int))) ns79 k1)) none) none) (k1 n75 ns79))
noncomputable def slices_Compact_int_int_L0_L2 : Nat → T_slices_Compact_int_int_L0_L2
  | 0 => fun _ _ _ _ _ _ => none
  | n + 1 => slices_Compact_int_int_L0_L2.body (slices_Compact_int_int_L0_L2 n)
def slices_Compact_int_int_L0_L2.p : LPat := lp 2 61 [0, 3, 4, 5] (ps (pr [0, 0]) (pl (pd (.int .i64)) (pl (pc [0, 0] nv nv) (pl (pd (.int .i64)) pz)))) (pl (po [0, 0] 3 1 (ed (.int .i64))) pz)
def slices_Compact_int_int_L0_L2.g (F : T_slices_Compact_int_int_L0_L2) (v : slices_Compact_int_int_L0_L2.p.T) (k : KE) : Option Bool := F v.1.1 v.1.2.1.1 v.1.2.1.2 v.1.2.2.1 v.2.1 (fun y0 y1 => k (.exit 2) ⟨fillS 61 [0, 3] [(.ref [0, 0]), (.d ⟨(.int .i64), y0⟩)], [([0, 0], ⟨3, 1, (.data (.int .i64) y1)⟩)], 2⟩)
theorem slices_Compact_int_int_L0_L2.step (S : T_slices_Compact_int_int_L0_L2) : ∀ v k, exR 81 Try.f81 2 slices_Compact_int_int_L0_L2.p [] [] [] (slices_Compact_int_int_L0_L2.g S) v k = slices_Compact_int_int_L0_L2.g (slices_Compact_int_int_L0_L2.body S) v k := fun v k => by kernel_rfl
theorem slices_Compact_int_int_L0_L2.ok : okL 81 Try.f81 0 2 slices_Compact_int_int_L0_L2.p (slices_Compact_int_int_L0_L2.g (slices_Compact_int_int_L0_L2 ROUNDS)) := loop2 (G := fun n => slices_Compact_int_int_L0_L2.g (slices_Compact_int_int_L0_L2 n)) (fun n => slices_Compact_int_int_L0_L2.step (slices_Compact_int_int_L0_L2 n)) .nil [] (by kernel_rfl) .nil (fun _ _ => rfl)
/-- function 81: the loop in block 0 -/
abbrev T_slices_Compact_int_int_L0 : Type := Int → (List Int) → (Nat → (List Int) → Option Bool) → ((List Int) → Option Bool) → Option Bool
noncomputable def slices_Compact_int_int_L0.body (slices_Compact_int_int_L0 : T_slices_Compact_int_int_L0) (slices_Compact_int_int_L0_L2 : T_slices_Compact_int_int_L0_L2) : T_slices_Compact_int_int_L0 := fun n73 ns74 k1 k2 =>
  (cond_ (decide (n73 < (List.length ns74 : Int))) (cond_ ((decide ((0 : Int) ≤ n73)) && (decide (n73 < (List.length ns74 : Int)))) (cond_ ((decide ((0 : Int) ≤ (IntKind.wrap .i64 (n73 - (1 : Int))))) && (decide ((IntKind.wrap .i64 (n73 - (1 : Int))) < (List.length ns74 : Int)))) (cond_ ((List.getD ns74 (Int.toNat n73) (0 : Int)) == (List.getD ns74 (Int.toNat (IntKind.wrap .i64 (n73 - (1 : Int)))) (0 : Int))) (cond_ ((decide ((0 : Int) ≤ n73)) && (decide (n73 ≤ (List.length ns74 : Int)))) (slices_Compact_int_int_L0_L2 n73 (Int.toNat n73) ((List.length ns74) - (Int.toNat n73)) (1 : Int) ns74
  (fun n80 ns81 => (cond_ ((decide ((0 : Int) ≤ n80)) && (decide (n80 ≤ (List.length ns81 : Int)))) (cond_ ((true && (decide ((0 : Int) ≤ n80))) && (decide (n80 ≤ (((List.length (setCells ns81 (Int.toNat n80) (List.replicate ((List.length ns81) - (Int.toNat n80)) (0 : Int)))) : Nat) : Int)))) (k1 (Int.toNat (n80 - (0 : Int))) (setCells ns81 (Int.toNat n80) (List.replicate ((List.length ns81) - (Int.toNat n80)) (0 : Int)))) none) none))) none) (slices_Compact_int_int_L0 (IntKind.wrap .i64 (n73 + (1 : Int))) ns74 k1 k2)) none) none) (k2 ns74))
noncomputable def slices_Compact_int_int_L0 : Nat → T_slices_Compact_int_int_L0
  | 0 => fun _ _ _ _ => none
  | n + 1 => slices_Compact_int_int_L0.body (slices_Compact_int_int_L0 n) (slices_Compact_int_int_L0_L2 ROUNDS)
def slices_Compact_int_int_L0.p : LPat := lp 2 61 [0, 3] (ps (pr [0, 0]) (pl (pd (.int .i64)) pz)) (pl (po [0, 0] 3 1 (ed (.int .i64))) pz)
def slices_Compact_int_int_L0.g (F : T_slices_Compact_int_int_L0) (v : slices_Compact_int_int_L0.p.T) (k : KE) : Option Bool := F v.1.1 v.2.1 (fun y0 y1 => k .ret ⟨fillS 61 [2] [(.cut [0, 0] 0 y0)], [([0, 0], ⟨3, 1, (.data (.int .i64) y1)⟩)], 2⟩) (fun y0 => k (.exit 0) ⟨fillS 61 [0] [(.ref [0, 0])], [([0, 0], ⟨3, 1, (.data (.int .i64) y0)⟩)], 2⟩)
theorem slices_Compact_int_int_L0.step (S : T_slices_Compact_int_int_L0) (L0 : T_slices_Compact_int_int_L0_L2) : ∀ v k, exR 81 Try.f81 0 slices_Compact_int_int_L0.p [] [] [⟨2, slices_Compact_int_int_L0_L2.p, slices_Compact_int_int_L0_L2.g L0⟩] (slices_Compact_int_int_L0.g S) v k = slices_Compact_int_int_L0.g (slices_Compact_int_int_L0.body S L0) v k := fun v k => by kernel_rfl
theorem slices_Compact_int_int_L0.ok : okL 81 Try.f81 0 0 slices_Compact_int_int_L0.p (slices_Compact_int_int_L0.g (slices_Compact_int_int_L0 ROUNDS)) := loop2 (G := fun n => slices_Compact_int_int_L0.g (slices_Compact_int_int_L0 n)) (fun n => slices_Compact_int_int_L0.step (slices_Compact_int_int_L0 n) (slices_Compact_int_int_L0_L2 ROUNDS)) .nil [2] (by kernel_rfl) (.cons slices_Compact_int_int_L0_L2.ok .nil) (fun _ _ => rfl)
/-- function 81: slices.Compact[[]int,int] -/
abbrev T_slices_Compact_int_int : Type := (List Int) → ((List Int) → Option Bool) → (Nat → (List Int) → Option Bool) → Option Bool
noncomputable def slices_Compact_int_int.body (slices_Compact_int_int_L0 : T_slices_Compact_int_int_L0) : T_slices_Compact_int_int := fun ns72 k1 k2 =>
  (cond_ (decide ((List.length ns72 : Int) < (2 : Int))) (k1 ns72) (slices_Compact_int_int_L0 (1 : Int) ns72
  (fun m82 ns83 => (k2 m82 ns83))
  (fun ns84 => (k1 ns84))))
noncomputable def slices_Compact_int_int : T_slices_Compact_int_int := slices_Compact_int_int.body (slices_Compact_int_int_L0 ROUNDS)
def slices_Compact_int_int.p : FPat := fp 81 (ps (pr [0, 0]) pz) (pl (po [0, 0] 3 1 (ed (.int .i64))) pz)
def slices_Compact_int_int.g (F : T_slices_Compact_int_int) (v : slices_Compact_int_int.p.T) (k : KR) : Option Bool := F v.2.1 (fun y0 => k (.ref [0, 0]) [([0, 0], ⟨3, 1, (.data (.int .i64) y0)⟩)]) (fun y0 y1 => k (.cut [0, 0] 0 y0) [([0, 0], ⟨3, 1, (.data (.int .i64) y1)⟩)])
theorem slices_Compact_int_int.eq (L0 : T_slices_Compact_int_int_L0) : ∀ v k, exF Try.f81 slices_Compact_int_int.p [] [] [⟨0, slices_Compact_int_int_L0.p, slices_Compact_int_int_L0.g L0⟩] v k = slices_Compact_int_int.g (slices_Compact_int_int.body L0) v k := fun v k => by kernel_rfl
theorem slices_Compact_int_int.ok : okF 1 slices_Compact_int_int.p (slices_Compact_int_int.g slices_Compact_int_int) := fn2 (slices_Compact_int_int.eq (slices_Compact_int_int_L0 ROUNDS)) Try.func81 (by kernel_rfl) .nil [0] (by kernel_rfl) (.cons slices_Compact_int_int_L0.ok .nil)
/-- function 79: sheerleg/op.Ends -/
abbrev T_op_Ends : Type := Int → (Bool → Option Bool) → Option Bool
noncomputable def op_Ends.body : T_op_Ends := fun n92 k1 =>
  (cond_ (! (n92 == (11 : Int))) (cond_ (! (n92 == (22 : Int))) (k1 (n92 == (24 : Int))) (k1 true)) (k1 true))
noncomputable def op_Ends : T_op_Ends := op_Ends.body
def op_Ends.p : FPat := fp 79 (pl (pd (.int .i64)) pz) pz
def op_Ends.g (F : T_op_Ends) (v : op_Ends.p.T) (k : KR) : Option Bool := F v.1.1 (fun y0 => k (.d ⟨.bool, y0⟩) [])
theorem op_Ends.eq : ∀ v k, exF Try.f79 op_Ends.p [] [] [] v k = op_Ends.g (op_Ends.body) v k := fun v k => by kernel_rfl
theorem op_Ends.ok : okF 1 op_Ends.p (op_Ends.g op_Ends) := fn2 (op_Ends.eq) Try.func79 (by kernel_rfl) .nil [] (by kernel_rfl) .nil
/-- function 84: the loop in block 2 -/
abbrev T_slices_insertionSortOrdered_intv1_L0_L2 : Type := Int → Int → Int → Int → (Int → Int → Int → Option Bool) → Option Bool
noncomputable def slices_insertionSortOrdered_intv1_L0_L2.body (slices_insertionSortOrdered_intv1_L0_L2 : T_slices_insertionSortOrdered_intv1_L0_L2) : T_slices_insertionSortOrdered_intv1_L0_L2 := fun n112 n113 n114 n115 k1 =>
  (cond_ (decide (n115 > n112)) none (k1 n112 n113 n114))
noncomputable def slices_insertionSortOrdered_intv1_L0_L2 : Nat → T_slices_insertionSortOrdered_intv1_L0_L2
  | 0 => fun _ _ _ _ _ => none
  | n + 1 => slices_insertionSortOrdered_intv1_L0_L2.body (slices_insertionSortOrdered_intv1_L0_L2 n)
def slices_insertionSortOrdered_intv1_L0_L2.p : LPat := lp 2 49 [0, 1, 2, 6, 7] (ps (pk 0) (pl (pd (.int .i64)) (pl (pd (.int .i64)) (pl (pd (.int .i64)) (pl (pd (.int .i64)) pz))))) pz
def slices_insertionSortOrdered_intv1_L0_L2.g (F : T_slices_insertionSortOrdered_intv1_L0_L2) (v : slices_insertionSortOrdered_intv1_L0_L2.p.T) (k : KE) : Option Bool := F v.1.1 v.1.2.1 v.1.2.2.1 v.1.2.2.2.1 (fun y0 y1 y2 => k (.exit 2) ⟨fillS 49 [0, 1, 2, 6] [.nils, (.d ⟨(.int .i64), y0⟩), (.d ⟨(.int .i64), y1⟩), (.d ⟨(.int .i64), y2⟩)], [], 2⟩)
theorem slices_insertionSortOrdered_intv1_L0_L2.step (S : T_slices_insertionSortOrdered_intv1_L0_L2) : ∀ v k, exR 84 Try.f84 2 slices_insertionSortOrdered_intv1_L0_L2.p [] [] [] (slices_insertionSortOrdered_intv1_L0_L2.g S) v k = slices_insertionSortOrdered_intv1_L0_L2.g (slices_insertionSortOrdered_intv1_L0_L2.body S) v k := fun v k => by kernel_rfl
theorem slices_insertionSortOrdered_intv1_L0_L2.ok : okL 84 Try.f84 0 2 slices_insertionSortOrdered_intv1_L0_L2.p (slices_insertionSortOrdered_intv1_L0_L2.g (slices_insertionSortOrdered_intv1_L0_L2 ROUNDS)) := loop2 (G := fun n => slices_insertionSortOrdered_intv1_L0_L2.g (slices_insertionSortOrdered_intv1_L0_L2 n)) (fun n => slices_insertionSortOrdered_intv1_L0_L2.step (slices_insertionSortOrdered_intv1_L0_L2 n)) .nil [] (by kernel_rfl) .nil (fun _ _ => rfl)
/-- function 84: the loop in block 0 -/
abbrev T_slices_insertionSortOrdered_intv1_L0 : Type := Int → Int → Int → (Option Bool) → Option Bool
noncomputable def slices_insertionSortOrdered_intv1_L0.body (slices_insertionSortOrdered_intv1_L0 : T_slices_insertionSortOrdered_intv1_L0) (slices_insertionSortOrdered_intv1_L0_L2 : T_slices_insertionSortOrdered_intv1_L0_L2) : T_slices_insertionSortOrdered_intv1_L0 := fun n109 n110 n111 k1 =>
  (cond_ (decide (n111 < n110)) (slices_insertionSortOrdered_intv1_L0_L2 n109 n110 n111 n111
  (fun n116 n117 n118 => (slices_insertionSortOrdered_intv1_L0 n116 n117 (IntKind.wrap .i64 (n118 + (1 : Int))) k1))) (k1))
noncomputable def slices_insertionSortOrdered_intv1_L0 : Nat → T_slices_insertionSortOrdered_intv1_L0
  | 0 => fun _ _ _ _ => none
  | n + 1 => slices_insertionSortOrdered_intv1_L0.body (slices_insertionSortOrdered_intv1_L0 n) (slices_insertionSortOrdered_intv1_L0_L2 ROUNDS)
def slices_insertionSortOrdered_intv1_L0.p : LPat := lp 2 49 [0, 1, 2, 6] (ps (pk 0) (pl (pd (.int .i64)) (pl (pd (.int .i64)) (pl (pd (.int .i64)) pz)))) pz
def slices_insertionSortOrdered_intv1_L0.g (F : T_slices_insertionSortOrdered_intv1_L0) (v : slices_insertionSortOrdered_intv1_L0.p.T) (k : KE) : Option Bool := F v.1.1 v.1.2.1 v.1.2.2.1 (k (.exit 0) ⟨fillS 49 [] [], [], 2⟩)
theorem slices_insertionSortOrdered_intv1_L0.step (S : T_slices_insertionSortOrdered_intv1_L0) (L0 : T_slices_insertionSortOrdered_intv1_L0_L2) : ∀ v k, exR 84 Try.f84 0 slices_insertionSortOrdered_intv1_L0.p [] [] [⟨2, slices_insertionSortOrdered_intv1_L0_L2.p, slices_insertionSortOrdered_intv1_L0_L2.g L0⟩] (slices_insertionSortOrdered_intv1_L0.g S) v k = slices_insertionSortOrdered_intv1_L0.g (slices_insertionSortOrdered_intv1_L0.body S L0) v k := fun v k => by kernel_rfl
theorem slices_insertionSortOrdered_intv1_L0.ok : okL 84 Try.f84 0 0 slices_insertionSortOrdered_intv1_L0.p (slices_insertionSortOrdered_intv1_L0.g (slices_insertionSortOrdered_intv1_L0 ROUNDS)) := loop2 (G := fun n => slices_insertionSortOrdered_intv1_L0.g (slices_insertionSortOrdered_intv1_L0 n)) (fun n => slices_insertionSortOrdered_intv1_L0.step (slices_insertionSortOrdered_intv1_L0 n) (slices_insertionSortOrdered_intv1_L0_L2 ROUNDS)) .nil [2] (by kernel_rfl) (.cons slices_insertionSortOrdered_intv1_L0_L2.ok .nil) (fun _ _ => rfl)
/-- function 84: slices.insertionSortOrdered[int] -/
abbrev T_slices_insertionSortOrdered_intv1 : Type := Int → Int → (Option Bool) → Option Bool
noncomputable def slices_insertionSortOrdered_intv1.body (slices_insertionSortOrdered_intv1_L0 : T_slices_insertionSortOrdered_intv1_L0) : T_slices_insertionSortOrdered_intv1 := fun n107 n108 k1 =>
  (slices_insertionSortOrdered_intv1_L0 n107 n108 (IntKind.wrap .i64 (n107 + (1 : Int)))
  (k1))
noncomputable def slices_insertionSortOrdered_intv1 : T_slices_insertionSortOrdered_intv1 := slices_insertionSortOrdered_intv1.body (slices_insertionSortOrdered_intv1_L0 ROUNDS)
def slices_insertionSortOrdered_intv1.p : FPat := fp 84 (ps (pk 0) (pl (pd (.int .i64)) (pl (pd (.int .i64)) pz))) pz
def slices_insertionSortOrdered_intv1.g (F : T_slices_insertionSortOrdered_intv1) (v : slices_insertionSortOrdered_intv1.p.T) (k : KR) : Option Bool := F v.1.1 v.1.2.1 (k (.tup []) [])
theorem slices_insertionSortOrdered_intv1.eq (L0 : T_slices_insertionSortOrdered_intv1_L0) : ∀ v k, exF Try.f84 slices_insertionSortOrdered_intv1.p [] [] [⟨0, slices_insertionSortOrdered_intv1_L0.p, slices_insertionSortOrdered_intv1_L0.g L0⟩] v k = slices_insertionSortOrdered_intv1.g (slices_insertionSortOrdered_intv1.body L0) v k := fun v k => by kernel_rfl
theorem slices_insertionSortOrdered_intv1.ok : okF 1 slices_insertionSortOrdered_intv1.p (slices_insertionSortOrdered_intv1.g slices_insertionSortOrdered_intv1) := fn2 (slices_insertionSortOrdered_intv1.eq (slices_insertionSortOrdered_intv1_L0 ROUNDS)) Try.func84 (by kernel_rfl) .nil [0] (by kernel_rfl) (.cons slices_insertionSortOrdered_intv1_L0.ok .nil)
/-- function 82: the loop in block 0 -/
abbrev T_slices_pdqsortOrdered_intv1_L0 : Type := Int → Int → Int → Bool → Bool → (Option Bool) → Option Bool
noncomputable def slices_pdqsortOrdered_intv1_L0.body (slices_pdqsortOrdered_intv1_L0 : T_slices_pdqsortOrdered_intv1_L0) (slices_insertionSortOrdered_intv1 : T_slices_insertionSortOrdered_intv1) : T_slices_pdqsortOrdered_intv1_L0 := fun n102 n103 n104 b105 b106 k1 =>
  (cond_ (decide ((IntKind.wrap .i64 (n103 - n102)) ≤ (12 : Int))) (slices_insertionSortOrdered_intv1 n102 n103
  (k1)) (cond_ (n104 == (0 : Int)) none (cond_ (! b105) none none)))
noncomputable def slices_pdqsortOrdered_intv1_L0 : Nat → T_slices_pdqsortOrdered_intv1_L0
  | 0 => fun _ _ _ _ _ _ => none
  | n + 1 => slices_pdqsortOrdered_intv1_L0.body (slices_pdqsortOrdered_intv1_L0 n) slices_insertionSortOrdered_intv1
def slices_pdqsortOrdered_intv1_L0.p : LPat := lp 2 134 [0, 1, 2, 3, 8, 9] (ps (pk 0) (pl (pd (.int .i64)) (pl (pd (.int .i64)) (pl (pd (.int .i64)) (pl (pd .bool) (pl (pd .bool) pz)))))) pz
def slices_pdqsortOrdered_intv1_L0.g (F : T_slices_pdqsortOrdered_intv1_L0) (v : slices_pdqsortOrdered_intv1_L0.p.T) (k : KE) : Option Bool := F v.1.1 v.1.2.1 v.1.2.2.1 v.1.2.2.2.1 v.1.2.2.2.2.1 (k .ret ⟨fillS 134 [] [], [], 2⟩)
theorem slices_pdqsortOrdered_intv1_L0.step (S : T_slices_pdqsortOrdered_intv1_L0) (F0 : T_slices_insertionSortOrdered_intv1) : ∀ v k, exR 82 Try.f82 0 slices_pdqsortOrdered_intv1_L0.p [⟨slices_insertionSortOrdered_intv1.p, slices_insertionSortOrdered_intv1.g F0⟩] [] [] (slices_pdqsortOrdered_intv1_L0.g S) v k = slices_pdqsortOrdered_intv1_L0.g (slices_pdqsortOrdered_intv1_L0.body S F0) v k := fun v k => by kernel_rfl
theorem slices_pdqsortOrdered_intv1_L0.ok : okL 82 Try.f82 1 0 slices_pdqsortOrdered_intv1_L0.p (slices_pdqsortOrdered_intv1_L0.g (slices_pdqsortOrdered_intv1_L0 ROUNDS)) := loop2 (G := fun n => slices_pdqsortOrdered_intv1_L0.g (slices_pdqsortOrdered_intv1_L0 n)) (fun n => slices_pdqsortOrdered_intv1_L0.step (slices_pdqsortOrdered_intv1_L0 n) slices_insertionSortOrdered_intv1) (.cons slices_insertionSortOrdered_intv1.ok .nil) [] (by kernel_rfl) .nil (fun _ _ => rfl)
/-- function 82: slices.pdqsortOrdered[int] -/
abbrev T_slices_pdqsortOrdered_intv1 : Type := Int → Int → Int → (Option Bool) → Option Bool
noncomputable def slices_pdqsortOrdered_intv1.body (slices_pdqsortOrdered_intv1_L0 : T_slices_pdqsortOrdered_intv1_L0) : T_slices_pdqsortOrdered_intv1 := fun n99 n100 n101 k1 =>
  (slices_pdqsortOrdered_intv1_L0 n99 n100 n101 true true
  (k1))
noncomputable def slices_pdqsortOrdered_intv1 : T_slices_pdqsortOrdered_intv1 := slices_pdqsortOrdered_intv1.body (slices_pdqsortOrdered_intv1_L0 ROUNDS)
def slices_pdqsortOrdered_intv1.p : FPat := fp 82 (ps (pk 0) (pl (pd (.int .i64)) (pl (pd (.int .i64)) (pl (pd (.int .i64)) pz)))) pz
def slices_pdqsortOrdered_intv1.g (F : T_slices_pdqsortOrdered_intv1) (v : slices_pdqsortOrdered_intv1.p.T) (k : KR) : Option Bool := F v.1.1 v.1.2.1 v.1.2.2.1 (k (.tup []) [])
theorem slices_pdqsortOrdered_intv1.eq (L0 : T_slices_pdqsortOrdered_intv1_L0) : ∀ v k, exF Try.f82 slices_pdqsortOrdered_intv1.p [] [] [⟨0, slices_pdqsortOrdered_intv1_L0.p, slices_pdqsortOrdered_intv1_L0.g L0⟩] v k = slices_pdqsortOrdered_intv1.g (slices_pdqsortOrdered_intv1.body L0) v k := fun v k => by kernel_rfl
theorem slices_pdqsortOrdered_intv1.ok : okF 2 slices_pdqsortOrdered_intv1.p (slices_pdqsortOrdered_intv1.g slices_pdqsortOrdered_intv1) := fn2 (slices_pdqsortOrdered_intv1.eq (slices_pdqsortOrdered_intv1_L0 ROUNDS)) Try.func82 (by kernel_rfl) .nil [0] (by kernel_rfl) (.cons slices_pdqsortOrdered_intv1_L0.ok .nil)
/-- function 80: slices.Sort[[]int,int] -/
abbrev T_slices_Sort_int_intv1 : Type := (Option Bool) → Option Bool
noncomputable def slices_Sort_int_intv1.body (math_bits_Len : T_math_bits_Len) (slices_pdqsortOrdered_intv1 : T_slices_pdqsortOrdered_intv1) : T_slices_Sort_int_intv1 := fun k1 =>
  (math_bits_Len (0 : Int)
  (fun n98 => (slices_pdqsortOrdered_intv1 (0 : Int) (0 : Int) n98
  (k1))))
noncomputable def slices_Sort_int_intv1 : T_slices_Sort_int_intv1 := slices_Sort_int_intv1.body math_bits_Len slices_pdqsortOrdered_intv1
def slices_Sort_int_intv1.p : FPat := fp 80 (ps (pk 0) pz) pz
def slices_Sort_int_intv1.g (F : T_slices_Sort_int_intv1) (v : slices_Sort_int_intv1.p.T) (k : KR) : Option Bool := F (k (.tup []) [])
theorem slices_Sort_int_intv1.eq (F0 : T_math_bits_Len) (F1 : T_slices_pdqsortOrdered_intv1) : ∀ v k, exF Try.f80 slices_Sort_int_intv1.p [⟨math_bits_Len.p, math_bits_Len.g F0⟩, ⟨slices_pdqsortOrdered_intv1.p, slices_pdqsortOrdered_intv1.g F1⟩] [] [] v k = slices_Sort_int_intv1.g (slices_Sort_int_intv1.body F0 F1) v k := fun v k => by kernel_rfl
theorem slices_Sort_int_intv1.ok : okF 3 slices_Sort_int_intv1.p (slices_Sort_int_intv1.g slices_Sort_int_intv1) := fn2 (slices_Sort_int_intv1.eq math_bits_Len slices_pdqsortOrdered_intv1) Try.func80 (by kernel_rfl) (.cons math_bits_Len.ok (.cons slices_pdqsortOrdered_intv1.ok .nil)) [] (by kernel_rfl) .nil
/-- function 81: slices.Compact[[]int,int] -/
abbrev T_slices_Compact_int_intv1 : Type := ((List Int) → Option Bool) → Option Bool
noncomputable def slices_Compact_int_intv1.body : T_slices_Compact_int_intv1 := fun k1 =>
  (k1 [])
noncomputable def slices_Compact_int_intv1 : T_slices_Compact_int_intv1 := slices_Compact_int_intv1.body
def slices_Compact_int_intv1.p : FPat := fp 81 (ps (pk 0) pz) pz
def slices_Compact_int_intv1.g (F : T_slices_Compact_int_intv1) (v : slices_Compact_int_intv1.p.T) (k : KR) : Option Bool := F (fun y0 => k (.ref [1, 0]) [([1, 0], ⟨3, 1, (.data (.int .i64) y0)⟩)])
theorem slices_Compact_int_intv1.eq : ∀ v k, exF Try.f81 slices_Compact_int_intv1.p [] [] [] v k = slices_Compact_int_intv1.g (slices_Compact_int_intv1.body) v k := fun v k => by kernel_rfl
theorem slices_Compact_int_intv1.ok : okF 1 slices_Compact_int_intv1.p (slices_Compact_int_intv1.g slices_Compact_int_intv1) := fn2 (slices_Compact_int_intv1.eq) Try.func81 (by kernel_rfl) .nil [] (by kernel_rfl) .nil
/-- function 77: sheerleg/flow.Next -/
abbrev T_flow_Next : Type := Tc2 → Int → ((List Int) → Option Bool) → Option Bool
noncomputable def flow_Next.body (slices_Sort_int_int : T_slices_Sort_int_int) (slices_Compact_int_int : T_slices_Compact_int_int) (op_Ends : T_op_Ends) (slices_Sort_int_intv1 : T_slices_Sort_int_intv1) (slices_Compact_int_intv1 : T_slices_Compact_int_intv1) : T_flow_Next := fun ts28 n29 k1 =>
  (cond_ (! (decide (n29 < (0 : Int)))) (cond_ (decide (n29 ≥ (List.length ts28 : Int))) (k1 []) (cond_ ((decide ((0 : Int) ≤ n29)) && (decide (n29 < (List.length ts28 : Int)))) (cond_ ((List.getD ts28 (Int.toNat n29) (0, (0, (0, (0, (0, ())))))).1 == (12 : Int)) (slices_Sort_int_int [(IntKind.wrap .i64 (n29 + (1 : Int))), (List.getD ts28 (Int.toNat n29) (0, (0, (0, (0, (0, ())))))).2.2.2.2.1]
  (fun ns71 => (slices_Compact_int_int ns71
  (fun ns85 => (k1 ns85))
  (fun m86 ns87 => (k1 (List.take m86 ns87)))))) (cond_ ((List.getD ts28 (Int.toNat n29) (0, (0, (0, (0, (0, ())))))).1 == (11 : Int)) (slices_Sort_int_int [(List.getD ts28 (Int.toNat n29) (0, (0, (0, (0, (0, ())))))).2.2.2.2.1]
  (fun ns88 => (slices_Compact_int_int ns88
  (fun ns89 => (k1 ns89))
  (fun m90 ns91 => (k1 (List.take m90 ns91)))))) (op_Ends (List.getD ts28 (Int.toNat n29) (0, (0, (0, (0, (0, ())))))).1
  (fun b93 => (cond_ (! b93) (slices_Sort_int_int [(IntKind.wrap .i64 (n29 + (1 : Int)))]
  (fun ns94 => (slices_Compact_int_int ns94
  (fun ns95 => (k1 ns95))
  (fun m96 ns97 => (k1 (List.take m96 ns97)))))) (slices_Sort_int_intv1
  (slices_Compact_int_intv1
  (fun ns119 => (k1 ns119))))))))) none)) (k1 []))
noncomputable def flow_Next : T_flow_Next := flow_Next.body slices_Sort_int_int slices_Compact_int_int op_Ends slices_Sort_int_intv1 slices_Compact_int_intv1
def flow_Next.p : FPat := fp 77 (pl (pb 0 57 Ty5) (pl (pd (.int .i64)) pz)) pz
def flow_Next.g (F : T_flow_Next) (v : flow_Next.p.T) (k : KR) : Option Bool := F v.1.1 v.1.2.1 (fun y0 => k (.ref [1, 0]) [([1, 0], ⟨3, 1, (.data (.int .i64) y0)⟩)])
theorem flow_Next.eq (F0 : T_slices_Sort_int_int) (F1 : T_slices_Compact_int_int) (F2 : T_op_Ends) (F3 : T_slices_Sort_int_intv1) (F4 : T_slices_Compact_int_intv1) : ∀ v k, exF Try.f77 flow_Next.p [⟨slices_Sort_int_int.p, slices_Sort_int_int.g F0⟩, ⟨slices_Compact_int_int.p, slices_Compact_int_int.g F1⟩, ⟨op_Ends.p, op_Ends.g F2⟩, ⟨slices_Sort_int_intv1.p, slices_Sort_int_intv1.g F3⟩, ⟨slices_Compact_int_intv1.p, slices_Compact_int_intv1.g F4⟩] [] [] v k = flow_Next.g (flow_Next.body F0 F1 F2 F3 F4) v k := fun v k => by kernel_rfl
theorem flow_Next.ok : okF 6 flow_Next.p (flow_Next.g flow_Next) := fn2 (flow_Next.eq slices_Sort_int_int slices_Compact_int_int op_Ends slices_Sort_int_intv1 slices_Compact_int_intv1) Try.func77 (by kernel_rfl) (.cons slices_Sort_int_int.ok (.cons slices_Compact_int_int.ok (.cons op_Ends.ok (.cons slices_Sort_int_intv1.ok (.cons slices_Compact_int_intv1.ok .nil))))) [] (by kernel_rfl) .nil
/-- function 70: the loop in block 0 -/
abbrev T_flow_graph_L0 : Type := Tc2 → Int → Int → (List (List Int)) → ((List (List Int)) → Option Bool) → Option Bool
noncomputable def flow_graph_L0.body (flow_graph_L0 : T_flow_graph_L0) (flow_Next : T_flow_Next) : T_flow_graph_L0 := fun ts24 n25 n26 ls27 k1 =>
  (cond_ (decide (n26 < n25)) (flow_Next ts24 n26
  (fun ns120 => (cond_ (Nat.ble (((List.length ls27) + (List.length (ns120 :: []))) * (24 : Nat)) (140737488355328 : Nat)) (flow_graph_L0 ts24 n25 (IntKind.wrap .i64 (n26 + (1 : Int))) (ls27 ++ (ns120 :: [])) k1) none))) (k1 ls27))
noncomputable def flow_graph_L0 : Nat → T_flow_graph_L0
  | 0 => fun _ _ _ _ _ => none
  | n + 1 => flow_graph_L0.body (flow_graph_L0 n) flow_Next
def flow_graph_L0.p : LPat := lp 2 18 [0, 3, 6, 7] (pl (pb 0 57 Ty5) (ps (pr [1, 0]) (pl (pd (.int .i64)) (pl (pd (.int .i64)) pz)))) (pl (po [1, 0] 22 1 (ed Ty0)) pz)
def flow_graph_L0.g (F : T_flow_graph_L0) (v : flow_graph_L0.p.T) (k : KE) : Option Bool := F v.1.1 v.1.2.1 v.1.2.2.1 v.2.1 (fun y0 => k (.exit 0) ⟨fillS 18 [3] [(.ref [1, 0])], [([1, 0], ⟨22, 1, (.data Ty0 y0)⟩)], 2⟩)
theorem flow_graph_L0.step (S : T_flow_graph_L0) (F0 : T_flow_Next) : ∀ v k, exR 70 Try.f70 0 flow_graph_L0.p [⟨flow_Next.p, flow_Next.g F0⟩] [] [] (flow_graph_L0.g S) v k = flow_graph_L0.g (flow_graph_L0.body S F0) v k := fun v k => by kernel_rfl
theorem flow_graph_L0.ok : okL 70 Try.f70 6 0 flow_graph_L0.p (flow_graph_L0.g (flow_graph_L0 ROUNDS)) := loop2 (G := fun n => flow_graph_L0.g (flow_graph_L0 n)) (fun n => flow_graph_L0.step (flow_graph_L0 n) flow_Next) (.cons flow_Next.ok .nil) [] (by kernel_rfl) .nil (fun _ _ => rfl)
/-- function 70: sheerleg/flow.graph -/
abbrev T_flow_graph : Type := Tc2 → ((List (List Int)) → Option Bool) → Option Bool
noncomputable def flow_graph.body (flow_graph_L0 : T_flow_graph_L0) : T_flow_graph := fun ts23 k1 =>
  (flow_graph_L0 ts23 (List.length ts23 : Int) (0 : Int) []
  (fun ls121 => (k1 ls121)))
noncomputable def flow_graph : T_flow_graph := flow_graph.body (flow_graph_L0 ROUNDS)
def flow_graph.p : FPat := fp 70 (pl (pb 0 57 Ty5) pz) pz
def flow_graph.g (F : T_flow_graph) (v : flow_graph.p.T) (k : KR) : Option Bool := F v.1.1 (fun y0 => k (.ref [1, 0]) [([1, 0], ⟨22, 1, (.data Ty0 y0)⟩)])
theorem flow_graph.eq (L0 : T_flow_graph_L0) : ∀ v k, exF Try.f70 flow_graph.p [] [] [⟨0, flow_graph_L0.p, flow_graph_L0.g L0⟩] v k = flow_graph.g (flow_graph.body L0) v k := fun v k => by kernel_rfl
theorem flow_graph.ok : okF 7 flow_graph.p (flow_graph.g flow_graph) := fn2 (flow_graph.eq (flow_graph_L0 ROUNDS)) Try.func70 (by kernel_rfl) .nil [0] (by kernel_rfl) (.cons flow_graph_L0.ok .nil)
/-- function 72: sheerleg/flow.Check$1 -/
abbrev T_flow_Checkfn1 : Type := Int → Tc2 → (Bool → Tc2 → Option Bool) → Option Bool
noncomputable def flow_Checkfn1.body : T_flow_Checkfn1 := fun n135 l136 k1 =>
  (cond_ (! (decide (n135 < (0 : Int)))) (k1 (decide (n135 ≥ (List.length l136 : Int))) l136) (k1 true l136))
noncomputable def flow_Checkfn1 : T_flow_Checkfn1 := flow_Checkfn1.body
def flow_Checkfn1.p : FPat := fp 72 (pl (pd (.int .i64)) (ps (pq [0, 0] 0 0) pz)) (pl (po [0, 0] 24 1 (es Ty6 (pl eh pz))) pz)
def flow_Checkfn1.g (F : T_flow_Checkfn1) (v : flow_Checkfn1.p.T) (k : KR) : Option Bool := F v.1.1 v.2.1.1 (fun y0 y1 => k (.d ⟨.bool, y0⟩) [([0, 0], ⟨24, 1, (.data Ty6 [y1])⟩)])
theorem flow_Checkfn1.eq : ∀ v k, exF Try.f72 flow_Checkfn1.p [] [] [] v k = flow_Checkfn1.g (flow_Checkfn1.body) v k := fun v k => by kernel_rfl
theorem flow_Checkfn1.ok : okF 1 flow_Checkfn1.p (flow_Checkfn1.g flow_Checkfn1) := fn2 (flow_Checkfn1.eq) Try.func72 (by kernel_rfl) .nil [] (by kernel_rfl) .nil
/-- function 78: the loop in block 0 -/
abbrev T_slices_IndexFunc_int_int_L0 : Type := (List Int) → Int → Int → Tc2 → (Int → Tc2 → Option Bool) → (Tc2 → Option Bool) → Option Bool
noncomputable def slices_IndexFunc_int_int_L0.body (slices_IndexFunc_int_int_L0 : T_slices_IndexFunc_int_int_L0) (flow_Checkfn1 : T_flow_Checkfn1) : T_slices_IndexFunc_int_int_L0 := fun ns131 n132 n133 l134 k1 k2 =>
  (cond_ (decide (n133 < n132)) (cond_ ((decide ((0 : Int) ≤ n133)) && (decide (n133 < (List.length ns131 : Int)))) (flow_Checkfn1 (List.getD ns131 (Int.toNat n133) (0 : Int)) l134
  (fun b137 l138 => (cond_ b137 (k1 n133 l138) (slices_IndexFunc_int_int_L0 ns131 n132 (IntKind.wrap .i64 (n133 + (1 : Int))) l138 k1 k2)))) none) (k2 l134))
noncomputable def slices_IndexFunc_int_int_L0 : Nat → T_slices_IndexFunc_int_int_L0
  | 0 => fun _ _ _ _ _ _ => none
  | n + 1 => slices_IndexFunc_int_int_L0.body (slices_IndexFunc_int_int_L0 n) flow_Checkfn1
def slices_IndexFunc_int_int_L0.p : LPat := lp 2 19 [0, 1, 7, 8] (pl (pb 0 3 (.int .i64)) (pl (pf 72 pz (ps (pq [0, 0] 0 0) pz)) (pl (pd (.int .i64)) (pl (pd (.int .i64)) pz)))) (pl (po [0, 0] 24 1 (es Ty6 (pl eh pz))) pz)
def slices_IndexFunc_int_int_L0.g (F : T_slices_IndexFunc_int_int_L0) (v : slices_IndexFunc_int_int_L0.p.T) (k : KE) : Option Bool := F v.1.1 v.1.2.2.1 v.1.2.2.2.1 v.2.1.1 (fun y0 y1 => k .ret ⟨fillS 19 [4] [(.d ⟨(.int .i64), y0⟩)], [([0, 0], ⟨24, 1, (.data Ty6 [y1])⟩)], 2⟩) (fun y0 => k (.exit 0) ⟨fillS 19 [] [], [([0, 0], ⟨24, 1, (.data Ty6 [y0])⟩)], 2⟩)
theorem slices_IndexFunc_int_int_L0.step (S : T_slices_IndexFunc_int_int_L0) (F0 : T_flow_Checkfn1) : ∀ v k, exR 78 Try.f78 0 slices_IndexFunc_int_int_L0.p [⟨flow_Checkfn1.p, flow_Checkfn1.g F0⟩] [] [] (slices_IndexFunc_int_int_L0.g S) v k = slices_IndexFunc_int_int_L0.g (slices_IndexFunc_int_int_L0.body S F0) v k := fun v k => by kernel_rfl
theorem slices_IndexFunc_int_int_L0.ok : okL 78 Try.f78 1 0 slices_IndexFunc_int_int_L0.p (slices_IndexFunc_int_int_L0.g (slices_IndexFunc_int_int_L0 ROUNDS)) := loop2 (G := fun n => slices_IndexFunc_int_int_L0.g (slices_IndexFunc_int_int_L0 n)) (fun n => slices_IndexFunc_int_int_L0.step (slices_IndexFunc_int_int_L0 n) flow_Checkfn1) (.cons flow_Checkfn1.ok .nil) [] (by kernel_rfl) .nil (fun _ _ => rfl)
/-- function 78: slices.IndexFunc[[]int,int] -/
abbrev T_slices_IndexFunc_int_int : Type := (List Int) → Tc2 → (Int → Tc2 → Option Bool) → Option Bool
noncomputable def slices_IndexFunc_int_int.body (slices_IndexFunc_int_int_L0 : T_slices_IndexFunc_int_int_L0) : T_slices_IndexFunc_int_int := fun ns129 l130 k1 =>
  (slices_IndexFunc_int_int_L0 ns129 (List.length ns129 : Int) (0 : Int) l130
  (fun n139 l140 => (k1 n139 l140))
  (fun l141 => (k1 (-1 : Int) l141)))
noncomputable def slices_IndexFunc_int_int : T_slices_IndexFunc_int_int := slices_IndexFunc_int_int.body (slices_IndexFunc_int_int_L0 ROUNDS)
def slices_IndexFunc_int_int.p : FPat := fp 78 (pl (pb 0 3 (.int .i64)) (pl (pf 72 pz (ps (pq [0, 0] 0 0) pz)) pz)) (pl (po [0, 0] 24 1 (es Ty6 (pl eh pz))) pz)
def slices_IndexFunc_int_int.g (F : T_slices_IndexFunc_int_int) (v : slices_IndexFunc_int_int.p.T) (k : KR) : Option Bool := F v.1.1 v.2.1.1 (fun y0 y1 => k (.d ⟨(.int .i64), y0⟩) [([0, 0], ⟨24, 1, (.data Ty6 [y1])⟩)])
theorem slices_IndexFunc_int_int.eq (L0 : T_slices_IndexFunc_int_int_L0) : ∀ v k, exF Try.f78 slices_IndexFunc_int_int.p [] [] [⟨0, slices_IndexFunc_int_int_L0.p, slices_IndexFunc_int_int_L0.g L0⟩] v k = slices_IndexFunc_int_int.g (slices_IndexFunc_int_int.body L0) v k := fun v k => by kernel_rfl
theorem slices_IndexFunc_int_int.ok : okF 2 slices_IndexFunc_int_int.p (slices_IndexFunc_int_int.g slices_IndexFunc_int_int) := fn2 (slices_IndexFunc_int_int.eq (slices_IndexFunc_int_int_L0 ROUNDS)) Try.func78 (by kernel_rfl) .nil [0] (by kernel_rfl) (.cons slices_IndexFunc_int_int_L0.ok .nil)
/-- function 71: slices.ContainsFunc[[]int,int] -/
abbrev T_slices_ContainsFunc_int_int : Type := (List Int) → Tc2 → (Bool → Tc2 → Option Bool) → Option Bool
noncomputable def slices_ContainsFunc_int_int.body (slices_IndexFunc_int_int : T_slices_IndexFunc_int_int) : T_slices_ContainsFunc_int_int := fun ns127 l128 k1 =>
  (slices_IndexFunc_int_int ns127 l128
  (fun n142 l143 => (k1 (decide (n142 ≥ (0 : Int))) l143)))
noncomputable def slices_ContainsFunc_int_int : T_slices_ContainsFunc_int_int := slices_ContainsFunc_int_int.body slices_IndexFunc_int_int
def slices_ContainsFunc_int_int.p : FPat := fp 71 (pl (pb 0 3 (.int .i64)) (pl (pf 72 pz (ps (pq [0, 0] 0 0) pz)) pz)) (pl (po [0, 0] 24 1 (es Ty6 (pl eh pz))) pz)
def slices_ContainsFunc_int_int.g (F : T_slices_ContainsFunc_int_int) (v : slices_ContainsFunc_int_int.p.T) (k : KR) : Option Bool := F v.1.1 v.2.1.1 (fun y0 y1 => k (.d ⟨.bool, y0⟩) [([0, 0], ⟨24, 1, (.data Ty6 [y1])⟩)])
theorem slices_ContainsFunc_int_int.eq (F0 : T_slices_IndexFunc_int_int) : ∀ v k, exF Try.f71 slices_ContainsFunc_int_int.p [⟨slices_IndexFunc_int_int.p, slices_IndexFunc_int_int.g F0⟩] [] [] v k = slices_ContainsFunc_int_int.g (slices_ContainsFunc_int_int.body F0) v k := fun v k => by kernel_rfl
theorem slices_ContainsFunc_int_int.ok : okF 3 slices_ContainsFunc_int_int.p (slices_ContainsFunc_int_int.g slices_ContainsFunc_int_int) := fn2 (slices_ContainsFunc_int_int.eq slices_IndexFunc_int_int) Try.func71 (by kernel_rfl) (.cons slices_IndexFunc_int_int.ok .nil) [] (by kernel_rfl) .nil
/-- function 59: the loop in block 1 -/
abbrev T_flow_Check_L1 : Type := Int → Int → Tc2 → (List (List Int)) → (Int → Option Bool) → (Option Bool) → Option Bool
noncomputable def flow_Check_L1.body (flow_Check_L1 : T_flow_Check_L1) (slices_ContainsFunc_int_int : T_slices_ContainsFunc_int_int) : T_flow_Check_L1 := fun n123 n124 l125 ls126 k1 k2 =>
  (cond_ (decide (n124 < n123)) (cond_ ((decide ((0 : Int) ≤ n124)) && (decide (n124 < (List.length ls126 : Int)))) (slices_ContainsFunc_int_int (List.getD ls126 (Int.toNat n124) []) l125
  (fun b144 l145 => (cond_ b144 (k1 (10 : Int)) (flow_Check_L1 n123 (IntKind.wrap .i64 (n124 + (1 : Int))) l145 ls126 k1 k2)))) none) (k2))
noncomputable def flow_Check_L1 : Nat → T_flow_Check_L1
  | 0 => fun _ _ _ _ _ _ => none
  | n + 1 => flow_Check_L1.body (flow_Check_L1 n) slices_ContainsFunc_int_int
def flow_Check_L1.p : LPat := lp 2 24 [1, 14, 15, 16] (ps (pq [1, 0] 0 0) (ps (pr [1, 1]) (pl (pd (.int .i64)) (pl (pd (.int .i64)) pz)))) (pl (po [1, 0] 24 1 (es Ty6 (pl eh pz))) (pl (po [1, 1] 22 1 (ed Ty0)) pz))
def flow_Check_L1.g (F : T_flow_Check_L1) (v : flow_Check_L1.p.T) (k : KE) : Option Bool := F v.1.1 v.1.2.1 v.2.1.1 v.2.2.1 (fun y0 => k .ret ⟨fillS 24 [2] [(.d ⟨(.int .i64), y0⟩)], [], 2⟩) (k (.exit 1) ⟨fillS 24 [] [], [], 2⟩)
theorem flow_Check_L1.step (S : T_flow_Check_L1) (F0 : T_slices_ContainsFunc_int_int) : ∀ v k, exR 59 Try.f59 1 flow_Check_L1.p [⟨slices_ContainsFunc_int_int.p, slices_ContainsFunc_int_int.g F0⟩] [] [] (flow_Check_L1.g S) v k = flow_Check_L1.g (flow_Check_L1.body S F0) v k := fun v k => by kernel_rfl
theorem flow_Check_L1.ok : okL 59 Try.f59 3 1 flow_Check_L1.p (flow_Check_L1.g (flow_Check_L1 ROUNDS)) := loop2 (G := fun n => flow_Check_L1.g (flow_Check_L1 n)) (fun n => flow_Check_L1.step (flow_Check_L1 n) slices_ContainsFunc_int_int) (.cons slices_ContainsFunc_int_int.ok .nil) [] (by kernel_rfl) .nil (fun _ _ => rfl)
/-- function 59: sheerleg/flow.Check -/
abbrev T_flow_Check : Type := Tc2 → (Int → Option Bool) → Option Bool
noncomputable def flow_Check.body (flow_graph : T_flow_graph) (flow_Check_L1 : T_flow_Check_L1) : T_flow_Check := fun ts22 k1 =>
  (cond_ ((List.length ts22 : Int) == (0 : Int)) (k1 (3 : Int)) (cond_ (decide ((List.length ts22 : Int) > (64 : Int))) (k1 (6 : Int)) (flow_graph ts22
  (fun ls122 => (flow_Check_L1 (List.length ls122 : Int) (0 : Int) ts22 ls122
  (fun n146 => (k1 n146))
  (k1 (0 : Int)))))))
noncomputable def flow_Check : T_flow_Check := flow_Check.body flow_graph (flow_Check_L1 ROUNDS)
def flow_Check.p : FPat := fp 59 (pl (pb 0 57 Ty5) pz) pz
def flow_Check.g (F : T_flow_Check) (v : flow_Check.p.T) (k : KR) : Option Bool := F v.1.1 (fun y0 => k (.d ⟨(.int .i64), y0⟩) [])
theorem flow_Check.eq (F0 : T_flow_graph) (L0 : T_flow_Check_L1) : ∀ v k, exF Try.f59 flow_Check.p [⟨flow_graph.p, flow_graph.g F0⟩] [] [⟨1, flow_Check_L1.p, flow_Check_L1.g L0⟩] v k = flow_Check.g (flow_Check.body F0 L0) v k := fun v k => by kernel_rfl
theorem flow_Check.ok : okF 8 flow_Check.p (flow_Check.g flow_Check) := fn2 (flow_Check.eq flow_graph (flow_Check_L1 ROUNDS)) Try.func59 (by kernel_rfl) (.cons flow_graph.ok .nil) [1] (by kernel_rfl) (.cons flow_Check_L1.ok .nil)
/-- function 74: sheerleg/op.names -/
abbrev T_op_names : Type := ((ByteArray × ByteArray × ByteArray × ByteArray × ByteArray × ByteArray × ByteArray × ByteArray × ByteArray × ByteArray × ByteArray × ByteArray × ByteArray × ByteArray × ByteArray × ByteArray × ByteArray × ByteArray × ByteArray × ByteArray × ByteArray × ByteArray × ByteArray × ByteArray × ByteArray × ByteArray × ByteArray × ByteArray × Unit) → Option Bool) → Option Bool
noncomputable def op_names.body : T_op_names := fun k1 =>
  (k1 ((⟨#[110, 111, 112]⟩ : ByteArray), ((⟨#[115, 101, 116]⟩ : ByteArray), ((⟨#[109, 111, 118, 101]⟩ : ByteArray), ((⟨#[97, 100, 100]⟩ : ByteArray), ((⟨#[115, 117, 98]⟩ : ByteArray), ((⟨#[109, 117, 108]⟩ : ByteArray), ((⟨#[100, 105, 118]⟩ : ByteArray), ((⟨#[109, 111, 100]⟩ : ByteArray), ((⟨#[108, 101, 115, 115]⟩ : ByteArray), ((⟨#[115, 97, 109, 101]⟩ : ByteArray), ((⟨#[106, 117, 109, 112]⟩ : ByteArray), ((⟨#[122, 101, 114, 111]⟩ : ByteArray), ((⟨#[105, 110]⟩ : ByteArray), ((⟨#[111, 117, 116]⟩ : ByteArray), ((⟨#[108, 111, 97, 100]⟩ : ByteArray), ((⟨#[115, 116, 111, 114, 101]⟩ : ByteArray), ((⟨#[102, 117, 110, 99]⟩ : ByteArray), ((⟨#[112, 105, 99, 107]⟩ : ByteArray), ((⟨#[99, 97, 108, 108]⟩ : ByteArray), ((⟨#[118, 105, 97]⟩ : ByteArray), ((⟨#[100, 101, 102, 101, 114]⟩ : ByteArray), ((⟨#[112, 97, 110, 105, 99]⟩ : ByteArray), ((⟨#[114, 101, 99, 111, 118, 101, 114]⟩ : ByteArray), ((⟨#[114, 101, 116, 117, 114, 110]⟩ : ByteArray), ((⟨#[99, 104, 101, 99, 107]⟩ : ByteArray), ((⟨#[101, 110, 116, 101, 114]⟩ : ByteArray), ((⟨#[98, 111, 116, 116, 111, 109]⟩ : ByteArray), ((⟨#[100, 114, 105, 118, 101, 114]⟩ : ByteArray), ())))))))))))))))))))))))))))))
noncomputable def op_names : T_op_names := op_names.body
def op_names.p : FPat := fp 74 pz pz
def op_names.g (F : T_op_names) (v : op_names.p.T) (k : KR) : Option Bool := F (fun y0 => k (.d ⟨(.st [.str, .str, .str, .str, .str, .str, .str, .str, .str, .str, .str, .str, .str, .str, .str, .str, .str, .str, .str, .str, .str, .str, .str, .str, .str, .str, .str, .str]), y0⟩) [])
theorem op_names.eq : ∀ v k, exF Try.f74 op_names.p [] [] [] v k = op_names.g (op_names.body) v k := fun v k => by kernel_rfl
theorem op_names.ok : okF 1 op_names.p (op_names.g op_names) := fn2 (op_names.eq) Try.func74 (by kernel_rfl) .nil [] (by kernel_rfl) .nil
/-- function 64: sheerleg/op.Name -/
abbrev T_op_Name : Type := Int → (ByteArray → Option Bool) → Option Bool
noncomputable def op_Name.body (op_names : T_op_names) : T_op_Name := fun n152 k1 =>
  (op_names
  (fun t153 => (cond_ (! (decide (n152 < (1 : Int)))) (cond_ (decide (n152 > (28 : Int))) (k1 (⟨#[]⟩ : ByteArray)) (cond_ ((decide ((0 : Int) ≤ (IntKind.wrap .i64 (n152 - (1 : Int))))) && (decide ((IntKind.wrap .i64 (n152 - (1 : Int))) < (28 : Int)))) (k1 (List.getD (t153.1 :: (t153.2.1 :: (t153.2.2.1 :: (t153.2.2.2.1 :: (t153.2.2.2.2.1 :: (t153.2.2.2.2.2.1 :: (t153.2.2.2.2.2.2.1 :: (t153.2.2.2.2.2.2.2.1 :: (t153.2.2.2.2.2.2.2.2.1 :: (t153.2.2.2.2.2.2.2.2.2.1 :: (t153.2.2.2.2.2.2.2.2.2.2.1 :: (t153.2.2.2.2.2.2.2.2.2.2.2.1 :: (t153.2.2.2.2.2.2.2.2.2.2.2.2.1 :: (t153.2.2.2.2.2.2.2.2.2.2.2.2.2.1 :: (t153.2.2.2.2.2.2.2.2.2.2.2.2.2.2.1 :: (t153.2.2.2.2.2.2.2.2.2.2.2.2.2.2.2.1 :: (t153.2.2.2.2.2.2.2.2.2.2.2.2.2.2.2.2.1 :: (t153.2.2.2.2.2.2.2.2.2.2.2.2.2.2.2.2.2.1 :: (t153.2.2.2.2.2.2.2.2.2.2.2.2.2.2.2.2.2.2.1 :: (t153.2.2.2.2.2.2.2.2.2.2.2.2.2.2.2.2.2.2.2.1 :: (t153.2.2.2.2.2.2.2.2.2.2.2.2.2.2.2.2.2.2.2.2.1 :: (t153.2.2.2.2.2.2.2.2.2.2.2.2.2.2.2.2.2.2.2.2.2.1 :: (t153.2.2.2.2.2.2.2.2.2.2.2.2.2.2.2.2.2.2.2.2.2.2.1 :: (t153.2.2.2.2.2.2.2.2.2.2.2.2.2.2.2.2.2.2.2.2.2.2.2.1 :: (t153.2.2.2.2.2.2.2.2.2.2.2.2.2.2.2.2.2.2.2.2.2.2.2.2.1 :: (t153.2.2.2.2.2.2.2.2.2.2.2.2.2.2.2.2.2.2.2.2.2.2.2.2.2.1 :: (t153.2.2.2.2.2.2.2.2.2.2.2.2.2.2.2.2.2.2.2.2.2.2.2.2.2.2.1 :: (t153.2.2.2.2.2.2.2.2.2.2.2.2.2.2.2.2.2.2.2.2.2.2.2.2.2.2.2.1 :: [])))))))))))))))))))))))))))) (Int.toNat (IntKind.wrap .i64 (n152 - (1 : Int)))) (⟨#[]⟩ : ByteArray))) none)) (k1 (⟨#[]⟩ : ByteArray)))))
noncomputable def op_Name : T_op_Name := op_Name.body op_names
def op_Name.p : FPat := fp 64 (pl (pd (.int .i64)) pz) pz
def op_Name.g (F : T_op_Name) (v : op_Name.p.T) (k : KR) : Option Bool := F v.1.1 (fun y0 => k (.d ⟨.str, y0⟩) [])
theorem op_Name.eq (F0 : T_op_names) : ∀ v k, exF Try.f64 op_Name.p [⟨op_names.p, op_names.g F0⟩] [] [] v k = op_Name.g (op_Name.body F0) v k := fun v k => by kernel_rfl
theorem op_Name.ok : okF 2 op_Name.p (op_Name.g op_Name) := fn2 (op_Name.eq op_names) Try.func64 (by kernel_rfl) (.cons op_names.ok .nil) [] (by kernel_rfl) .nil
/-- function 46: sheerleg/instr.numbers -/
abbrev T_instr_numbers : Type := Tc1 → (Tc1 → Option Bool) → Option Bool
noncomputable def instr_numbers.body : T_instr_numbers := fun t155 k1 =>
  (k1 (t155.1, (t155.2.1, (t155.2.2.1, (t155.2.2.2.1, (t155.2.2.2.2.1, ()))))))
noncomputable def instr_numbers : T_instr_numbers := instr_numbers.body
def instr_numbers.p : FPat := fp 46 (pl (pd Ty5) pz) pz
def instr_numbers.g (F : T_instr_numbers) (v : instr_numbers.p.T) (k : KR) : Option Bool := F v.1.1 (fun y0 => k (.d ⟨Ty5, y0⟩) [])
theorem instr_numbers.eq : ∀ v k, exF Try.f46 instr_numbers.p [] [] [] v k = instr_numbers.g (instr_numbers.body) v k := fun v k => by kernel_rfl
theorem instr_numbers.ok : okF 1 instr_numbers.p (instr_numbers.g instr_numbers) := fn2 (instr_numbers.eq) Try.func46 (by kernel_rfl) .nil [] (by kernel_rfl) .nil
/-- function 52: the loop in block 0 -/
abbrev T_instr_Check_L0 : Type := Int → Int → Tc1 → Int → Int → Int → Int → Int → (Int → Option Bool) → (Tc1 → Int → Int → Int → Int → Int → Option Bool) → Option Bool
noncomputable def instr_Check_L0.body (instr_Check_L0 : T_instr_Check_L0) : T_instr_Check_L0 := fun n157 n158 t159 n160 n161 n162 n163 n164 k1 k2 =>
  (cond_ (decide (n158 < n157)) (cond_ ((decide ((0 : Int) ≤ n158)) && (decide (n158 < (3 : Int)))) (cond_ (! (decide ((List.getD (n160 :: (n161 :: (n162 :: (n163 :: (n164 :: []))))) ((1 : Nat) + (Int.toNat n158)) (0 : Int)) < (0 : Int)))) (cond_ (decide ((List.getD (n160 :: (n161 :: (n162 :: (n163 :: (n164 :: []))))) ((1 : Nat) + (Int.toNat n158)) (0 : Int)) > (255 : Int))) (k1 (9 : Int)) (instr_Check_L0 n157 (IntKind.wrap .i64 (n158 + (1 : Int))) t159 n160 n161 n162 n163 n164 k1 k2)) (k1 (9 : Int))) none) (k2 t159 n160 n161 n162 n163 n164))
noncomputable def instr_Check_L0 : Nat → T_instr_Check_L0
  | 0 => fun _ _ _ _ _ _ _ _ _ _ => none
  | n + 1 => instr_Check_L0.body (instr_Check_L0 n)
def instr_Check_L0.p : LPat := lp 2 55 [1, 3, 14, 15, 16] (ps (pq [1, 0] 0 0) (ps (pq [1, 1] 0 0) (pl (pc [1, 1] (nk 1) (nk 3)) (pl (pd (.int .i64)) (pl (pd (.int .i64)) pz))))) (pl (po [1, 0] 57 5 (es Ty5 (pl eh pz))) (pl (po [1, 1] 82 1 (es (.int .i64) (pl eh (pl eh (pl eh (pl eh (pl eh pz))))))) pz))
def instr_Check_L0.g (F : T_instr_Check_L0) (v : instr_Check_L0.p.T) (k : KE) : Option Bool := F v.1.2.1 v.1.2.2.1 v.2.1.1 v.2.2.1.1 v.2.2.1.2.1 v.2.2.1.2.2.1 v.2.2.1.2.2.2.1 v.2.2.1.2.2.2.2.1 (fun y0 => k .ret ⟨fillS 55 [2] [(.d ⟨(.int .i64), y0⟩)], [], 2⟩) (fun y0 y1 y2 y3 y4 y5 => k (.exit 0) ⟨fillS 55 [1, 3] [(.ptr [1, 0] 0 0), (.ptr [1, 1] 0 0)], [([1, 0], ⟨57, 5, (.data Ty5 [y0])⟩), ([1, 1], ⟨82, 1, (.data (.int .i64) [y1, y2, y3, y4, y5])⟩)], 2⟩)
theorem instr_Check_L0.step (S : T_instr_Check_L0) : ∀ v k, exR 52 Try.f52 0 instr_Check_L0.p [] [] [] (instr_Check_L0.g S) v k = instr_Check_L0.g (instr_Check_L0.body S) v k := fun v k => by kernel_rfl
theorem instr_Check_L0.ok : okL 52 Try.f52 0 0 instr_Check_L0.p (instr_Check_L0.g (instr_Check_L0 ROUNDS)) := loop2 (G := fun n => instr_Check_L0.g (instr_Check_L0 n)) (fun n => instr_Check_L0.step (instr_Check_L0 n)) .nil [] (by kernel_rfl) .nil (fun _ _ => rfl)
/-- function 60: sheerleg/op.Own -/
abbrev T_op_Own : Type := Int → (Bool → Option Bool) → Option Bool
noncomputable def op_Own.body : T_op_Own := fun n173 k1 =>
  (cond_ (decide (n173 ≥ (1 : Int))) (k1 (decide (n173 ≤ (24 : Int)))) (k1 false))
noncomputable def op_Own : T_op_Own := op_Own.body
def op_Own.p : FPat := fp 60 (pl (pd (.int .i64)) pz) pz
def op_Own.g (F : T_op_Own) (v : op_Own.p.T) (k : KR) : Option Bool := F v.1.1 (fun y0 => k (.d ⟨.bool, y0⟩) [])
theorem op_Own.eq : ∀ v k, exF Try.f60 op_Own.p [] [] [] v k = op_Own.g (op_Own.body) v k := fun v k => by kernel_rfl
theorem op_Own.ok : okF 1 op_Own.p (op_Own.g op_Own) := fn2 (op_Own.eq) Try.func60 (by kernel_rfl) .nil [] (by kernel_rfl) .nil
/-- function 75: sheerleg/op.shapes -/
abbrev T_op_shapes : Type := ((ByteArray × ByteArray × ByteArray × ByteArray × ByteArray × ByteArray × ByteArray × ByteArray × ByteArray × ByteArray × ByteArray × ByteArray × ByteArray × ByteArray × ByteArray × ByteArray × ByteArray × ByteArray × ByteArray × ByteArray × ByteArray × ByteArray × ByteArray × ByteArray × Unit) → Option Bool) → Option Bool
noncomputable def op_shapes.body : T_op_shapes := fun k1 =>
  (k1 ((⟨#[45, 45, 45, 45]⟩ : ByteArray), ((⟨#[119, 45, 45, 110]⟩ : ByteArray), ((⟨#[119, 114, 45, 45]⟩ : ByteArray), ((⟨#[119, 114, 114, 45]⟩ : ByteArray), ((⟨#[119, 114, 114, 45]⟩ : ByteArray), ((⟨#[119, 114, 114, 45]⟩ : ByteArray), ((⟨#[119, 114, 114, 45]⟩ : ByteArray), ((⟨#[119, 114, 114, 45]⟩ : ByteArray), ((⟨#[119, 114, 114, 45]⟩ : ByteArray), ((⟨#[119, 114, 114, 45]⟩ : ByteArray), ((⟨#[45, 45, 45, 116]⟩ : ByteArray), ((⟨#[114, 45, 45, 116]⟩ : ByteArray), ((⟨#[119, 45, 45, 45]⟩ : ByteArray), ((⟨#[114, 45, 45, 45]⟩ : ByteArray), ((⟨#[119, 114, 45, 45]⟩ : ByteArray), ((⟨#[114, 114, 45, 45]⟩ : ByteArray), ((⟨#[103, 45, 45, 45]⟩ : ByteArray), ((⟨#[103, 114, 45, 45]⟩ : ByteArray), ((⟨#[99, 45, 45, 45]⟩ : ByteArray), ((⟨#[99, 102, 107, 45]⟩ : ByteArray), ((⟨#[100, 45, 45, 45]⟩ : ByteArray), ((⟨#[114, 45, 45, 45]⟩ : ByteArray), ((⟨#[119, 119, 45, 45]⟩ : ByteArray), ((⟨#[118, 45, 45, 45]⟩ : ByteArray), ())))))))))))))))))))))))))
noncomputable def op_shapes : T_op_shapes := op_shapes.body
def op_shapes.p : FPat := fp 75 pz pz
def op_shapes.g (F : T_op_shapes) (v : op_shapes.p.T) (k : KR) : Option Bool := F (fun y0 => k (.d ⟨(.st [.str, .str, .str, .str, .str, .str, .str, .str, .str, .str, .str, .str, .str, .str, .str, .str, .str, .str, .str, .str, .str, .str, .str, .str]), y0⟩) [])
theorem op_shapes.eq : ∀ v k, exF Try.f75 op_shapes.p [] [] [] v k = op_shapes.g (op_shapes.body) v k := fun v k => by kernel_rfl
theorem op_shapes.ok : okF 1 op_shapes.p (op_shapes.g op_shapes) := fn2 (op_shapes.eq) Try.func75 (by kernel_rfl) .nil [] (by kernel_rfl) .nil
/-- function 65: sheerleg/op.Shape -/
abbrev T_op_Shape : Type := Int → (ByteArray → Option Bool) → Option Bool
noncomputable def op_Shape.body (op_Own : T_op_Own) (op_shapes : T_op_shapes) : T_op_Shape := fun n172 k1 =>
  (op_Own n172
  (fun b174 => (cond_ (! b174) (k1 (⟨#[]⟩ : ByteArray)) (op_shapes
  (fun t175 => (cond_ ((decide ((0 : Int) ≤ (IntKind.wrap .i64 (n172 - (1 : Int))))) && (decide ((IntKind.wrap .i64 (n172 - (1 : Int))) < (24 : Int)))) (k1 (List.getD (t175.1 :: (t175.2.1 :: (t175.2.2.1 :: (t175.2.2.2.1 :: (t175.2.2.2.2.1 :: (t175.2.2.2.2.2.1 :: (t175.2.2.2.2.2.2.1 :: (t175.2.2.2.2.2.2.2.1 :: (t175.2.2.2.2.2.2.2.2.1 :: (t175.2.2.2.2.2.2.2.2.2.1 :: (t175.2.2.2.2.2.2.2.2.2.2.1 :: (t175.2.2.2.2.2.2.2.2.2.2.2.1 :: (t175.2.2.2.2.2.2.2.2.2.2.2.2.1 :: (t175.2.2.2.2.2.2.2.2.2.2.2.2.2.1 :: (t175.2.2.2.2.2.2.2.2.2.2.2.2.2.2.1 :: (t175.2.2.2.2.2.2.2.2.2.2.2.2.2.2.2.1 :: (t175.2.2.2.2.2.2.2.2.2.2.2.2.2.2.2.2.1 :: (t175.2.2.2.2.2.2.2.2.2.2.2.2.2.2.2.2.2.1 :: (t175.2.2.2.2.2.2.2.2.2.2.2.2.2.2.2.2.2.2.1 :: (t175.2.2.2.2.2.2.2.2.2.2.2.2.2.2.2.2.2.2.2.1 :: (t175.2.2.2.2.2.2.2.2.2.2.2.2.2.2.2.2.2.2.2.2.1 :: (t175.2.2.2.2.2.2.2.2.2.2.2.2.2.2.2.2.2.2.2.2.2.1 :: (t175.2.2.2.2.2.2.2.2.2.2.2.2.2.2.2.2.2.2.2.2.2.2.1 :: (t175.2.2.2.2.2.2.2.2.2.2.2.2.2.2.2.2.2.2.2.2.2.2.2.1 :: [])))))))))))))))))))))))) (Int.toNat (IntKind.wrap .i64 (n172 - (1 : Int)))) (⟨#[]⟩ : ByteArray))) none))))))
noncomputable def op_Shape : T_op_Shape := op_Shape.body op_Own op_shapes
def op_Shape.p : FPat := fp 65 (pl (pd (.int .i64)) pz) pz
def op_Shape.g (F : T_op_Shape) (v : op_Shape.p.T) (k : KR) : Option Bool := F v.1.1 (fun y0 => k (.d ⟨.str, y0⟩) [])
theorem op_Shape.eq (F0 : T_op_Own) (F1 : T_op_shapes) : ∀ v k, exF Try.f65 op_Shape.p [⟨op_Own.p, op_Own.g F0⟩, ⟨op_shapes.p, op_shapes.g F1⟩] [] [] v k = op_Shape.g (op_Shape.body F0 F1) v k := fun v k => by kernel_rfl
theorem op_Shape.ok : okF 2 op_Shape.p (op_Shape.g op_Shape) := fn2 (op_Shape.eq op_Own op_shapes) Try.func65 (by kernel_rfl) (.cons op_Own.ok (.cons op_shapes.ok .nil)) [] (by kernel_rfl) .nil
/-- function 52: the loop in block 2 -/
abbrev T_instr_Check_L2 : Type := ByteArray → Int → Int → Int → Int → Int → Int → Int → (Int → Option Bool) → (Option Bool) → Option Bool
noncomputable def instr_Check_L2.body (instr_Check_L2 : T_instr_Check_L2) : T_instr_Check_L2 := fun s177 n178 n179 n180 n181 n182 n183 n184 k1 k2 =>
  (cond_ (decide (n179 < n178)) (cond_ ((decide ((0 : Int) ≤ n179)) && (decide (n179 < (((ByteArray.size s177) : Nat) : Int)))) (cond_ ((((UInt8.toNat (List.getD (Array.toList (ByteArray.data s177)) (Int.toNat n179) (0 : UInt8))) : Nat) : Int) == (45 : Int)) (cond_ ((decide ((0 : Int) ≤ (IntKind.wrap .i64 ((1 : Int) + n179)))) && (decide ((IntKind.wrap .i64 ((1 : Int) + n179)) < (5 : Int)))) (cond_ ((List.getD (n180 :: (n181 :: (n182 :: (n183 :: (n184 :: []))))) (Int.toNat (IntKind.wrap .i64 ((1 : Int) + n179))) (0 : Int)) != (0 : Int)) (k1 (2 : Int)) (instr_Check_L2 s177 n178 (IntKind.wrap .i64 (n179 + (1 : Int))) n180 n181 n182 n183 n184 k1 k2)) none) (instr_Check_L2 s177 n178 (IntKind.wrap .i64 (n179 + (1 : Int))) n180 n181 n182 n183 n184 k1 k2)) none) (k2))
noncomputable def instr_Check_L2 : Nat → T_instr_Check_L2
  | 0 => fun _ _ _ _ _ _ _ _ _ _ => none
  | n + 1 => instr_Check_L2.body (instr_Check_L2 n)
def instr_Check_L2.p : LPat := lp 2 55 [3, 6, 39, 40] (ps (pq [1, 0] 0 0) (pl (pd .str) (pl (pd (.int .i64)) (pl (pd (.int .i64)) pz)))) (pl (po [1, 0] 82 1 (es (.int .i64) (pl eh (pl eh (pl eh (pl eh (pl eh pz))))))) pz)
def instr_Check_L2.g (F : T_instr_Check_L2) (v : instr_Check_L2.p.T) (k : KE) : Option Bool := F v.1.1 v.1.2.1 v.1.2.2.1 v.2.1.1 v.2.1.2.1 v.2.1.2.2.1 v.2.1.2.2.2.1 v.2.1.2.2.2.2.1 (fun y0 => k .ret ⟨fillS 55 [2] [(.d ⟨(.int .i64), y0⟩)], [], 2⟩) (k (.exit 2) ⟨fillS 55 [] [], [], 2⟩)
theorem instr_Check_L2.step (S : T_instr_Check_L2) : ∀ v k, exR 52 Try.f52 2 instr_Check_L2.p [] [] [] (instr_Check_L2.g S) v k = instr_Check_L2.g (instr_Check_L2.body S) v k := fun v k => by kernel_rfl
theorem instr_Check_L2.ok : okL 52 Try.f52 0 2 instr_Check_L2.p (instr_Check_L2.g (instr_Check_L2 ROUNDS)) := loop2 (G := fun n => instr_Check_L2.g (instr_Check_L2 n)) (fun n => instr_Check_L2.step (instr_Check_L2 n)) .nil [] (by kernel_rfl) .nil (fun _ _ => rfl)
/-- function 52: sheerleg/instr.Check -/
abbrev T_instr_Check : Type := Tc1 → (Int → Option Bool) → Option Bool
noncomputable def instr_Check.body (op_Name : T_op_Name) (instr_numbers : T_instr_numbers) (op_Shape : T_op_Shape) (instr_Check_L0 : T_instr_Check_L0) (instr_Check_L2 : T_instr_Check_L2) : T_instr_Check := fun t151 k1 =>
  (op_Name t151.1
  (fun s154 => (cond_ ((ByteArray.toList s154) == (ByteArray.toList (⟨#[]⟩ : ByteArray))) (k1 (8 : Int)) (instr_numbers t151
  (fun t156 => (instr_Check_L0 (3 : Int) (0 : Int) t151 t156.1 t156.2.1 t156.2.2.1 t156.2.2.2.1 t156.2.2.2.2.1
  (fun n165 => (k1 n165))
  (fun t166 n167 n168 n169 n170 n171 => (cond_ (! (decide (t166.2.2.2.2.1 < (-2147483648 : Int)))) (cond_ (decide (t166.2.2.2.2.1 > (2147483647 : Int))) (k1 (9 : Int)) (op_Shape t166.1
  (fun s176 => (instr_Check_L2 s176 (((ByteArray.size s176) : Nat) : Int) (0 : Int) n167 n168 n169 n170 n171
  (fun n185 => (k1 n185))
  (k1 (0 : Int)))))) (k1 (9 : Int))))))))))
noncomputable def instr_Check : T_instr_Check := instr_Check.body op_Name instr_numbers op_Shape (instr_Check_L0 ROUNDS) (instr_Check_L2 ROUNDS)
def instr_Check.p : FPat := fp 52 (pl (pd Ty5) pz) pz
def instr_Check.g (F : T_instr_Check) (v : instr_Check.p.T) (k : KR) : Option Bool := F v.1.1 (fun y0 => k (.d ⟨(.int .i64), y0⟩) [])
theorem instr_Check.eq (F0 : T_op_Name) (F1 : T_instr_numbers) (F2 : T_op_Shape) (L0 : T_instr_Check_L0) (L1 : T_instr_Check_L2) : ∀ v k, exF Try.f52 instr_Check.p [⟨op_Name.p, op_Name.g F0⟩, ⟨instr_numbers.p, instr_numbers.g F1⟩, ⟨op_Shape.p, op_Shape.g F2⟩] [] [⟨0, instr_Check_L0.p, instr_Check_L0.g L0⟩, ⟨2, instr_Check_L2.p, instr_Check_L2.g L1⟩] v k = instr_Check.g (instr_Check.body F0 F1 F2 L0 L1) v k := fun v k => by kernel_rfl
theorem instr_Check.ok : okF 3 instr_Check.p (instr_Check.g instr_Check) := fn2 (instr_Check.eq op_Name instr_numbers op_Shape (instr_Check_L0 ROUNDS) (instr_Check_L2 ROUNDS)) Try.func52 (by kernel_rfl) (.cons op_Name.ok (.cons instr_numbers.ok (.cons op_Shape.ok .nil))) [0, 2] (by kernel_rfl) (.cons instr_Check_L0.ok (.cons instr_Check_L2.ok .nil))
/-- function 41: the loop in block 0 -/
abbrev T_fun_code_L0 : Type := Tc2 → Int → Int → (Int → Option Bool) → (Option Bool) → Option Bool
noncomputable def fun_code_L0.body (fun_code_L0 : T_fun_code_L0) (instr_Check : T_instr_Check) (op_Own : T_op_Own) : T_fun_code_L0 := fun l148 n149 n150 k1 k2 =>
  (cond_ (decide (n150 < n149)) (cond_ ((decide ((0 : Int) ≤ n150)) && (decide (n150 < (List.length l148 : Int)))) (instr_Check (List.getD l148 (Int.toNat n150) (0, (0, (0, (0, (0, ()))))))
  (fun n186 => (cond_ (n186 != (0 : Int)) (k1 n186) (op_Own (List.getD l148 (Int.toNat n150) (0, (0, (0, (0, (0, ())))))).1
  (fun b187 => (cond_ (! b187) (k1 (8 : Int)) (fun_code_L0 l148 n149 (IntKind.wrap .i64 (n150 + (1 : Int))) k1 k2))))))) none) (k2))
noncomputable def fun_code_L0 : Nat → T_fun_code_L0
  | 0 => fun _ _ _ _ _ => none
  | n + 1 => fun_code_L0.body (fun_code_L0 n) instr_Check op_Own
def fun_code_L0.p : LPat := lp 2 30 [14, 15, 16] (pl (pd Ty6) (pl (pd (.int .i64)) (pl (pd (.int .i64)) pz))) pz
def fun_code_L0.g (F : T_fun_code_L0) (v : fun_code_L0.p.T) (k : KE) : Option Bool := F v.1.1 v.1.2.1 v.1.2.2.1 (fun y0 => k .ret ⟨fillS 30 [2] [(.d ⟨(.int .i64), y0⟩)], [], 2⟩) (k (.exit 0) ⟨fillS 30 [] [], [], 2⟩)
theorem fun_code_L0.step (S : T_fun_code_L0) (F0 : T_instr_Check) (F1 : T_op_Own) : ∀ v k, exR 41 Try.f41 0 fun_code_L0.p [⟨instr_Check.p, instr_Check.g F0⟩, ⟨op_Own.p, op_Own.g F1⟩] [] [] (fun_code_L0.g S) v k = fun_code_L0.g (fun_code_L0.body S F0 F1) v k := fun v k => by kernel_rfl
theorem fun_code_L0.ok : okL 41 Try.f41 3 0 fun_code_L0.p (fun_code_L0.g (fun_code_L0 ROUNDS)) := loop2 (G := fun n => fun_code_L0.g (fun_code_L0 n)) (fun n => fun_code_L0.step (fun_code_L0 n) instr_Check op_Own) (.cons instr_Check.ok (.cons op_Own.ok .nil)) [] (by kernel_rfl) .nil (fun _ _ => rfl)
/-- function 41: sheerleg/fun.code -/
abbrev T_fun_code : Type := Tc3 → (Int → Option Bool) → Option Bool
noncomputable def fun_code.body (flow_Check : T_flow_Check) (fun_code_L0 : T_fun_code_L0) : T_fun_code := fun t21 k1 =>
  (flow_Check t21.2.2.2.2.2.2.2.1
  (fun n147 => (cond_ (n147 != (0 : Int)) (k1 n147) (fun_code_L0 t21.2.2.2.2.2.2.2.1 (((List.length t21.2.2.2.2.2.2.2.1) : Nat) : Int) (0 : Int)
  (fun n188 => (k1 n188))
  (k1 (0 : Int))))))
noncomputable def fun_code : T_fun_code := fun_code.body flow_Check (fun_code_L0 ROUNDS)
def fun_code.p : FPat := fp 41 (pl (pd Ty7) pz) pz
def fun_code.g (F : T_fun_code) (v : fun_code.p.T) (k : KR) : Option Bool := F v.1.1 (fun y0 => k (.d ⟨(.int .i64), y0⟩) [])
theorem fun_code.eq (F0 : T_flow_Check) (L0 : T_fun_code_L0) : ∀ v k, exF Try.f41 fun_code.p [⟨flow_Check.p, flow_Check.g F0⟩] [] [⟨0, fun_code_L0.p, fun_code_L0.g L0⟩] v k = fun_code.g (fun_code.body F0 L0) v k := fun v k => by kernel_rfl
theorem fun_code.ok : okF 9 fun_code.p (fun_code.g fun_code) := fn2 (fun_code.eq flow_Check (fun_code_L0 ROUNDS)) Try.func41 (by kernel_rfl) (.cons flow_Check.ok .nil) [0] (by kernel_rfl) (.cons fun_code_L0.ok .nil)
/-- function 42: the loop in block 0 -/
abbrev T_fun_lines_L0 : Type := (List (Int × Int × Unit)) → Int → Int → Tc3 → (List Int) → (Int → Option Bool) → (Tc3 → (List Int) → Option Bool) → Option Bool
noncomputable def fun_lines_L0.body (fun_lines_L0 : T_fun_lines_L0) : T_fun_lines_L0 := fun l191 n192 n193 t194 ns195 k1 k2 =>
  (cond_ (decide (n193 < n192)) (cond_ ((decide ((0 : Int) ≤ n193)) && (decide (n193 < (List.length l191 : Int)))) (cond_ (! (decide ((List.getD l191 (Int.toNat n193) (0, (0, ()))).2.1 < (0 : Int)))) (cond_ (decide ((List.getD l191 (Int.toNat n193) (0, (0, ()))).2.1 > (65535 : Int))) (k1 (9 : Int)) (cond_ (Nat.ble (((List.length ns195) + (List.length ((List.getD l191 (Int.toNat n193) (0, (0, ()))).1 :: []))) * (8 : Nat)) (140737488355328 : Nat)) (fun_lines_L0 l191 n192 (IntKind.wrap .i64 (n193 + (1 : Int))) t194 (ns195 ++ ((List.getD l191 (Int.toNat n193) (0, (0, ()))).1 :: [])) k1 k2) none)) (k1 (9 : Int))) none) (k2 t194 ns195))
noncomputable def fun_lines_L0 : Nat → T_fun_lines_L0
  | 0 => fun _ _ _ _ _ _ _ => none
  | n + 1 => fun_lines_L0.body (fun_lines_L0 n)
def fun_lines_L0.p : LPat := lp 2 48 [1, 3, 11, 12, 13] (ps (pq [1, 0] 0 0) (ps (pr [1, 1]) (pl (pd Ty3) (pl (pd (.int .i64)) (pl (pd (.int .i64)) pz))))) (pl (po [1, 0] 27 9 (es Ty7 (pl eh pz))) (pl (po [1, 1] 3 1 (ed (.int .i64))) pz))
def fun_lines_L0.g (F : T_fun_lines_L0) (v : fun_lines_L0.p.T) (k : KE) : Option Bool := F v.1.1 v.1.2.1 v.1.2.2.1 v.2.1.1 v.2.2.1 (fun y0 => k .ret ⟨fillS 48 [2] [(.d ⟨(.int .i64), y0⟩)], [], 2⟩) (fun y0 y1 => k (.exit 0) ⟨fillS 48 [1, 3] [(.ptr [1, 0] 0 0), (.ref [1, 1])], [([1, 0], ⟨27, 9, (.data Ty7 [y0])⟩), ([1, 1], ⟨3, 1, (.data (.int .i64) y1)⟩)], 2⟩)
theorem fun_lines_L0.step (S : T_fun_lines_L0) : ∀ v k, exR 42 Try.f42 0 fun_lines_L0.p [] [] [] (fun_lines_L0.g S) v k = fun_lines_L0.g (fun_lines_L0.body S) v k := fun v k => by kernel_rfl
theorem fun_lines_L0.ok : okL 42 Try.f42 0 0 fun_lines_L0.p (fun_lines_L0.g (fun_lines_L0 ROUNDS)) := loop2 (G := fun n => fun_lines_L0.g (fun_lines_L0 n)) (fun n => fun_lines_L0.step (fun_lines_L0 n)) .nil [] (by kernel_rfl) .nil (fun _ _ => rfl)
/-- function 61: the loop in block 0 -/
abbrev T_fun_rising_L0 : Type := Int → Int → (List Int) → Int → Int → (Bool → Option Bool) → (Option Bool) → Option Bool
noncomputable def fun_rising_L0.body (fun_rising_L0 : T_fun_rising_L0) : T_fun_rising_L0 := fun n201 n202 ns203 n204 n205 k1 k2 =>
  (cond_ (decide (n205 < n204)) (cond_ ((decide ((0 : Int) ≤ n205)) && (decide (n205 < (List.length ns203 : Int)))) (cond_ (! (decide ((List.getD ns203 (Int.toNat n205) (0 : Int)) ≤ n202))) (cond_ (decide ((List.getD ns203 (Int.toNat n205) (0 : Int)) ≥ n201)) (k1 false) (fun_rising_L0 n201 (List.getD ns203 (Int.toNat n205) (0 : Int)) ns203 n204 (IntKind.wrap .i64 (n205 + (1 : Int))) k1 k2)) (k1 false)) none) (k2))
noncomputable def fun_rising_L0 : Nat → T_fun_rising_L0
  | 0 => fun _ _ _ _ _ _ _ => none
  | n + 1 => fun_rising_L0.body (fun_rising_L0 n)
def fun_rising_L0.p : LPat := lp 2 24 [0, 5, 8, 9, 10] (pl (pd (.int .i64)) (pl (pd (.int .i64)) (pl (pb 1 3 (.int .i64)) (pl (pd (.int .i64)) (pl (pd (.int .i64)) pz))))) pz
def fun_rising_L0.g (F : T_fun_rising_L0) (v : fun_rising_L0.p.T) (k : KE) : Option Bool := F v.1.1 v.1.2.1 v.1.2.2.1 v.1.2.2.2.1 v.1.2.2.2.2.1 (fun y0 => k .ret ⟨fillS 24 [4] [(.d ⟨.bool, y0⟩)], [], 2⟩) (k (.exit 0) ⟨fillS 24 [] [], [], 2⟩)
theorem fun_rising_L0.step (S : T_fun_rising_L0) : ∀ v k, exR 61 Try.f61 0 fun_rising_L0.p [] [] [] (fun_rising_L0.g S) v k = fun_rising_L0.g (fun_rising_L0.body S) v k := fun v k => by kernel_rfl
theorem fun_rising_L0.ok : okL 61 Try.f61 0 0 fun_rising_L0.p (fun_rising_L0.g (fun_rising_L0 ROUNDS)) := loop2 (G := fun n => fun_rising_L0.g (fun_rising_L0 n)) (fun n => fun_rising_L0.step (fun_rising_L0 n)) .nil [] (by kernel_rfl) .nil (fun _ _ => rfl)
/-- function 61: sheerleg/fun.rising -/
abbrev T_fun_rising : Type := Int → (List Int) → (Bool → Option Bool) → Option Bool
noncomputable def fun_rising.body (fun_rising_L0 : T_fun_rising_L0) : T_fun_rising := fun n199 ns200 k1 =>
  (fun_rising_L0 n199 (-1 : Int) ns200 (List.length ns200 : Int) (0 : Int)
  (fun b206 => (k1 b206))
  (k1 true))
noncomputable def fun_rising : T_fun_rising := fun_rising.body (fun_rising_L0 ROUNDS)
def fun_rising.p : FPat := fp 61 (pl (pd (.int .i64)) (pl (pb 1 3 (.int .i64)) pz)) pz
def fun_rising.g (F : T_fun_rising) (v : fun_rising.p.T) (k : KR) : Option Bool := F v.1.1 v.1.2.1 (fun y0 => k (.d ⟨.bool, y0⟩) [])
theorem fun_rising.eq (L0 : T_fun_rising_L0) : ∀ v k, exF Try.f61 fun_rising.p [] [] [⟨0, fun_rising_L0.p, fun_rising_L0.g L0⟩] v k = fun_rising.g (fun_rising.body L0) v k := fun v k => by kernel_rfl
theorem fun_rising.ok : okF 1 fun_rising.p (fun_rising.g fun_rising) := fn2 (fun_rising.eq (fun_rising_L0 ROUNDS)) Try.func61 (by kernel_rfl) .nil [0] (by kernel_rfl) (.cons fun_rising_L0.ok .nil)
/-- function 42: sheerleg/fun.lines -/
abbrev T_fun_lines : Type := Tc3 → (Int → Option Bool) → Option Bool
noncomputable def fun_lines.body (fun_rising : T_fun_rising) (fun_lines_L0 : T_fun_lines_L0) : T_fun_lines := fun t190 k1 =>
  (cond_ (decide ((((List.length t190.2.2.2.2.2.2.1) : Nat) : Int) > (16 : Int))) (k1 (6 : Int)) (fun_lines_L0 t190.2.2.2.2.2.2.1 (((List.length t190.2.2.2.2.2.2.1) : Nat) : Int) (0 : Int) t190 []
  (fun n196 => (k1 n196))
  (fun t197 ns198 => (cond_ (decide ((List.length ns198 : Int) > (0 : Int))) (cond_ (true && (decide ((0 : Int) < (List.length ns198 : Int)))) (cond_ (! ((List.getD ns198 (0 : Nat) (0 : Int)) != (0 : Int))) (fun_rising (((List.length t197.2.2.2.2.2.2.2.1) : Nat) : Int) ns198
  (fun b207 => (cond_ (! b207) (k1 (9 : Int)) (k1 (0 : Int))))) (k1 (9 : Int))) none) (fun_rising (((List.length t197.2.2.2.2.2.2.2.1) : Nat) : Int) ns198
  (fun b208 => (cond_ (! b208) (k1 (9 : Int)) (k1 (0 : Int)))))))))
noncomputable def fun_lines : T_fun_lines := fun_lines.body fun_rising (fun_lines_L0 ROUNDS)
def fun_lines.p : FPat := fp 42 (pl (pd Ty7) pz) pz
def fun_lines.g (F : T_fun_lines) (v : fun_lines.p.T) (k : KR) : Option Bool := F v.1.1 (fun y0 => k (.d ⟨(.int .i64), y0⟩) [])
theorem fun_lines.eq (F0 : T_fun_rising) (L0 : T_fun_lines_L0) : ∀ v k, exF Try.f42 fun_lines.p [⟨fun_rising.p, fun_rising.g F0⟩] [] [⟨0, fun_lines_L0.p, fun_lines_L0.g L0⟩] v k = fun_lines.g (fun_lines.body F0 L0) v k := fun v k => by kernel_rfl
theorem fun_lines.ok : okF 2 fun_lines.p (fun_lines.g fun_lines) := fn2 (fun_lines.eq fun_rising (fun_lines_L0 ROUNDS)) Try.func42 (by kernel_rfl) (.cons fun_rising.ok .nil) [0] (by kernel_rfl) (.cons fun_lines_L0.ok .nil)
/-- function 43: the loop in block 0 -/
abbrev T_fun_relocs_L0 : Type := Tc0 → Int → Int → Tc3 → (List Int) → (Int → Option Bool) → (Tc3 → (List Int) → Option Bool) → Option Bool
noncomputable def fun_relocs_L0.body (fun_relocs_L0 : T_fun_relocs_L0) : T_fun_relocs_L0 := fun l211 n212 n213 t214 ns215 k1 k2 =>
  (cond_ (decide (n213 < n212)) (cond_ ((decide ((0 : Int) ≤ n213)) && (decide (n213 < (List.length l211 : Int)))) (cond_ (! (decide ((List.getD l211 (Int.toNat n213) (0, (0, (false, ())))).2.1 < (0 : Int)))) (cond_ (decide ((List.getD l211 (Int.toNat n213) (0, (0, (false, ())))).2.1 ≥ (32 : Int))) (k1 (11 : Int)) (cond_ (Nat.ble (((List.length ns215) + (List.length ((List.getD l211 (Int.toNat n213) (0, (0, (false, ())))).1 :: []))) * (8 : Nat)) (140737488355328 : Nat)) (fun_relocs_L0 l211 n212 (IntKind.wrap .i64 (n213 + (1 : Int))) t214 (ns215 ++ ((List.getD l211 (Int.toNat n213) (0, (0, (false, ())))).1 :: [])) k1 k2) none)) (k1 (11 : Int))) none) (k2 t214 ns215))
noncomputable def fun_relocs_L0 : Nat → T_fun_relocs_L0
  | 0 => fun _ _ _ _ _ _ _ => none
  | n + 1 => fun_relocs_L0.body (fun_relocs_L0 n)
def fun_relocs_L0.p : LPat := lp 2 33 [1, 3, 7, 8, 9] (ps (pq [1, 0] 0 0) (ps (pr [1, 1]) (pl (pd Ty4) (pl (pd (.int .i64)) (pl (pd (.int .i64)) pz))))) (pl (po [1, 0] 27 9 (es Ty7 (pl eh pz))) (pl (po [1, 1] 3 1 (ed (.int .i64))) pz))
def fun_relocs_L0.g (F : T_fun_relocs_L0) (v : fun_relocs_L0.p.T) (k : KE) : Option Bool := F v.1.1 v.1.2.1 v.1.2.2.1 v.2.1.1 v.2.2.1 (fun y0 => k .ret ⟨fillS 33 [2] [(.d ⟨(.int .i64), y0⟩)], [], 2⟩) (fun y0 y1 => k (.exit 0) ⟨fillS 33 [1, 3] [(.ptr [1, 0] 0 0), (.ref [1, 1])], [([1, 0], ⟨27, 9, (.data Ty7 [y0])⟩), ([1, 1], ⟨3, 1, (.data (.int .i64) y1)⟩)], 2⟩)
theorem fun_relocs_L0.step (S : T_fun_relocs_L0) : ∀ v k, exR 43 Try.f43 0 fun_relocs_L0.p [] [] [] (fun_relocs_L0.g S) v k = fun_relocs_L0.g (fun_relocs_L0.body S) v k := fun v k => by kernel_rfl
theorem fun_relocs_L0.ok : okL 43 Try.f43 0 0 fun_relocs_L0.p (fun_relocs_L0.g (fun_relocs_L0 ROUNDS)) := loop2 (G := fun n => fun_relocs_L0.g (fun_relocs_L0 n)) (fun n => fun_relocs_L0.step (fun_relocs_L0 n)) .nil [] (by kernel_rfl) .nil (fun _ _ => rfl)
/-- function 43: sheerleg/fun.relocs -/
abbrev T_fun_relocs : Type := Tc3 → (Int → Option Bool) → Option Bool
noncomputable def fun_relocs.body (fun_rising : T_fun_rising) (fun_relocs_L0 : T_fun_relocs_L0) : T_fun_relocs := fun t210 k1 =>
  (fun_relocs_L0 t210.2.2.2.2.2.2.2.2.1 (((List.length t210.2.2.2.2.2.2.2.2.1) : Nat) : Int) (0 : Int) t210 []
  (fun n216 => (k1 n216))
  (fun t217 ns218 => (fun_rising (((List.length t217.2.2.2.2.2.2.2.1) : Nat) : Int) ns218
  (fun b219 => (cond_ (! b219) (k1 (11 : Int)) (k1 (0 : Int)))))))
noncomputable def fun_relocs : T_fun_relocs := fun_relocs.body fun_rising (fun_relocs_L0 ROUNDS)
def fun_relocs.p : FPat := fp 43 (pl (pd Ty7) pz) pz
def fun_relocs.g (F : T_fun_relocs) (v : fun_relocs.p.T) (k : KR) : Option Bool := F v.1.1 (fun y0 => k (.d ⟨(.int .i64), y0⟩) [])
theorem fun_relocs.eq (F0 : T_fun_rising) (L0 : T_fun_relocs_L0) : ∀ v k, exF Try.f43 fun_relocs.p [⟨fun_rising.p, fun_rising.g F0⟩] [] [⟨0, fun_relocs_L0.p, fun_relocs_L0.g L0⟩] v k = fun_relocs.g (fun_relocs.body F0 L0) v k := fun v k => by kernel_rfl
theorem fun_relocs.ok : okF 2 fun_relocs.p (fun_relocs.g fun_relocs) := fn2 (fun_relocs.eq fun_rising (fun_relocs_L0 ROUNDS)) Try.func43 (by kernel_rfl) (.cons fun_rising.ok .nil) [0] (by kernel_rfl) (.cons fun_relocs_L0.ok .nil)
/-- function 14: sheerleg/fun.Check -/
abbrev T_fun_Check : Type := Tc3 → (Int → Option Bool) → Option Bool
noncomputable def fun_Check.body (fun_slots : T_fun_slots) (fun_code : T_fun_code) (fun_lines : T_fun_lines) (fun_relocs : T_fun_relocs) : T_fun_Check := fun t5 k1 =>
  (fun_slots t5
  (fun n20 => (cond_ (n20 != (0 : Int)) (k1 n20) (cond_ (! (decide (t5.2.2.1 < (0 : Int)))) (cond_ (decide (t5.2.2.1 > (4096 : Int))) (k1 (9 : Int)) (fun_code t5
  (fun n189 => (cond_ (n189 != (0 : Int)) (k1 n189) (cond_ (! (decide (t5.2.2.2.2.1 < (0 : Int)))) (cond_ (! (decide (t5.2.2.2.2.2.1 < t5.2.2.2.2.1))) (cond_ (decide (t5.2.2.2.2.2.1 > (((List.length t5.2.2.2.2.2.2.2.1) : Nat) : Int))) (k1 (9 : Int)) (fun_lines t5
  (fun n209 => (cond_ (n209 != (0 : Int)) (k1 n209) (fun_relocs t5
  (fun n220 => (k1 n220))))))) (k1 (9 : Int))) (k1 (9 : Int))))))) (k1 (9 : Int))))))
noncomputable def fun_Check : T_fun_Check := fun_Check.body fun_slots fun_code fun_lines fun_relocs
def fun_Check.p : FPat := fp 14 (pl (pd Ty7) pz) pz
def fun_Check.g (F : T_fun_Check) (v : fun_Check.p.T) (k : KR) : Option Bool := F v.1.1 (fun y0 => k (.d ⟨(.int .i64), y0⟩) [])
theorem fun_Check.eq (F0 : T_fun_slots) (F1 : T_fun_code) (F2 : T_fun_lines) (F3 : T_fun_relocs) : ∀ v k, exF Try.f14 fun_Check.p [⟨fun_slots.p, fun_slots.g F0⟩, ⟨fun_code.p, fun_code.g F1⟩, ⟨fun_lines.p, fun_lines.g F2⟩, ⟨fun_relocs.p, fun_relocs.g F3⟩] [] [] v k = fun_Check.g (fun_Check.body F0 F1 F2 F3) v k := fun v k => by kernel_rfl
theorem fun_Check.ok : okF 10 fun_Check.p (fun_Check.g fun_Check) := fn2 (fun_Check.eq fun_slots fun_code fun_lines fun_relocs) Try.func14 (by kernel_rfl) (.cons fun_slots.ok (.cons fun_code.ok (.cons fun_lines.ok (.cons fun_relocs.ok .nil)))) [] (by kernel_rfl) .nil
/-- function 6: sheerleg/sheerleglaw16.known, all of it at once -/
abbrev T_law16_known : Type := (Bool → Option Bool) → Option Bool
def law16_known : T_law16_known := fun k1 => k1 true
def law16_known.p : FPat := fp 6 pz pz
def law16_known.g (F : T_law16_known) (v : law16_known.p.T) (k : KR) : Option Bool := F (fun y => k (.d ⟨.bool, y⟩) [])
set_option maxRecDepth 100000 in
theorem law16_known.all (k : KR) : callK Try.prog ht 60 6 [] [] k = k (.d ⟨.bool, true⟩) [] := by kernel_rfl
theorem law16_known.ok : okF 60 law16_known.p (law16_known.g law16_known) := all2 fun _ k => law16_known.all k
/-- function 45: sheerleg/octet.Put -/
abbrev T_octet_Put : Type := (List Int) → Int → Int → ((List Int) → Option Bool) → Option Bool
noncomputable def octet_Put.body : T_octet_Put := fun ns262 n263 n264 k1 =>
  (cond_ (Nat.ble (((0 : Nat) + (List.length ns262)) * (1 : Nat)) (140737488355328 : Nat)) (cond_ (! (decide (n264 < (1 : Int)))) (cond_ (decide (n264 > (8 : Int))) (k1 ([] ++ ns262)) (cond_ (((decide ((0 : Int) ≤ (IntKind.wrap .i64 ((8 : Int) - n264)))) && (decide ((IntKind.wrap .i64 ((8 : Int) - n264)) ≤ (8 : Int)))) && true) (cond_ (Nat.ble (((List.length ([] ++ ns262)) + (List.length (List.take (Int.toNat ((8 : Int) - (IntKind.wrap .i64 ((8 : Int) - n264)))) (List.drop (Int.toNat (IntKind.wrap .i64 ((8 : Int) - n264))) ((IntKind.wrap .u8 (Int.fdiv n263 (72057594037927936 : Int))) :: ((IntKind.wrap .u8 (Int.fdiv n263 (281474976710656 : Int))) :: ((IntKind.wrap .u8 (Int.fdiv n263 (1099511627776 : Int))) :: ((IntKind.wrap .u8 (Int.fdiv n263 (4294967296 : Int))) :: ((IntKind.wrap .u8 (Int.fdiv n263 (16777216 : Int))) :: ((IntKind.wrap .u8 (Int.fdiv n263 (65536 : Int))) :: ((IntKind.wrap .u8 (Int.fdiv n263 (256 : Int))) :: ((IntKind.wrap .u8 (Int.fdiv n263 (1 : Int))) :: [])))))))))))) * (1 : Nat)) (140737488355328 : Nat)) (k1 (([] ++ ns262) ++ (List.take (Int.toNat ((8 : Int) - (IntKind.wrap .i64 ((8 : Int) - n264)))) (List.drop (Int.toNat (IntKind.wrap .i64 ((8 : Int) - n264))) ((IntKind.wrap .u8 (Int.fdiv n263 (72057594037927936 : Int))) :: ((IntKind.wrap .u8 (Int.fdiv n263 (281474976710656 : Int))) :: ((IntKind.wrap .u8 (Int.fdiv n263 (1099511627776 : Int))) :: ((IntKind.wrap .u8 (Int.fdiv n263 (4294967296 : Int))) :: ((IntKind.wrap .u8 (Int.fdiv n263 (16777216 : Int))) :: ((IntKind.wrap .u8 (Int.fdiv n263 (65536 : Int))) :: ((IntKind.wrap .u8 (Int.fdiv n263 (256 : Int))) :: ((IntKind.wrap .u8 (Int.fdiv n263 (1 : Int))) :: [])))))))))))) none) none)) (k1 ([] ++ ns262))) none)
noncomputable def octet_Put : T_octet_Put := octet_Put.body
def octet_Put.p : FPat := fp 45 (pl (pb 1 5 (.int .u8)) (pl (pd (.int .i64)) (pl (pd (.int .i64)) pz))) pz
def octet_Put.g (F : T_octet_Put) (v : octet_Put.p.T) (k : KR) : Option Bool := F v.1.1 v.1.2.1 v.1.2.2.1 (fun y0 => k (.ref [1, 0]) [([1, 0], ⟨5, 1, (.data (.int .u8) y0)⟩)])
theorem octet_Put.eq : ∀ v k, exF Try.f45 octet_Put.p [] [0] [] v k = octet_Put.g (octet_Put.body) v k := fun v k => by kernel_rfl
theorem octet_Put.ok : okF 1 octet_Put.p (octet_Put.g octet_Put) := fn2 (octet_Put.eq) Try.func45 (by kernel_rfl) .nil [] (by kernel_rfl) .nil
/-- function 18: the loop in block 0 -/
abbrev T_fun_writer_put_L0 : Type := Int → (List Int) → Int → Int → (List Int) → ((List Int) → Option Bool) → Option Bool
noncomputable def fun_writer_put_L0.body (fun_writer_put_L0 : T_fun_writer_put_L0) (octet_Put : T_octet_Put) : T_fun_writer_put_L0 := fun n276 ns277 n278 n279 ns280 k1 =>
  (cond_ (decide (n279 < n278)) (cond_ ((decide ((0 : Int) ≤ n279)) && (decide (n279 < (List.length ns277 : Int)))) (octet_Put ns280 (List.getD ns277 (Int.toNat n279) (0 : Int)) n276
  (fun ns281 => (fun_writer_put_L0 n276 ns277 n278 (IntKind.wrap .i64 (n279 + (1 : Int))) ns281 k1))) none) (k1 ns280))
noncomputable def fun_writer_put_L0 : Nat → T_fun_writer_put_L0
  | 0 => fun _ _ _ _ _ _ => none
  | n + 1 => fun_writer_put_L0.body (fun_writer_put_L0 n) octet_Put
def fun_writer_put_L0.p : LPat := lp 2 25 [0, 1, 8, 9, 10] (ps (pq [0, 0] 0 0) (pl (pd (.int .i64)) (pl (pb 1 3 (.int .i64)) (pl (pd (.int .i64)) (pl (pd (.int .i64)) pz))))) (ps (po [0, 0] 51 1 (em (ps (pr [1, 0]) pz))) (pl (po [1, 0] 5 1 (ed (.int .u8))) pz))
def fun_writer_put_L0.g (F : T_fun_writer_put_L0) (v : fun_writer_put_L0.p.T) (k : KE) : Option Bool := F v.1.1 v.1.2.1 v.1.2.2.1 v.1.2.2.2.1 v.2.1 (fun y0 => k (.exit 0) ⟨fillS 25 [] [], [([0, 0], ⟨51, 1, (.mix [(.ref [1, 0])])⟩), ([1, 0], ⟨5, 1, (.data (.int .u8) y0)⟩)], 2⟩)
theorem fun_writer_put_L0.step (S : T_fun_writer_put_L0) (F0 : T_octet_Put) : ∀ v k, exR 18 Try.f18 0 fun_writer_put_L0.p [⟨octet_Put.p, octet_Put.g F0⟩] [] [] (fun_writer_put_L0.g S) v k = fun_writer_put_L0.g (fun_writer_put_L0.body S F0) v k := fun v k => by kernel_rfl
theorem fun_writer_put_L0.ok : okL 18 Try.f18 1 0 fun_writer_put_L0.p (fun_writer_put_L0.g (fun_writer_put_L0 ROUNDS)) := loop2 (G := fun n => fun_writer_put_L0.g (fun_writer_put_L0 n)) (fun n => fun_writer_put_L0.step (fun_writer_put_L0 n) octet_Put) (.cons octet_Put.ok .nil) [] (by kernel_rfl) .nil (fun _ _ => rfl)
/-- function 18: (*sheerleg/fun.writer).put -/
abbrev T_fun_writer_put : Type := Int → (List Int) → (List Int) → ((List Int) → Option Bool) → Option Bool
noncomputable def fun_writer_put.body (fun_writer_put_L0 : T_fun_writer_put_L0) : T_fun_writer_put := fun n273 ns274 ns275 k1 =>
  (fun_writer_put_L0 n273 ns274 (List.length ns274 : Int) (0 : Int) ns275
  (fun ns282 => (k1 ns282)))
noncomputable def fun_writer_put : T_fun_writer_put := fun_writer_put.body (fun_writer_put_L0 ROUNDS)
def fun_writer_put.p : FPat := fp 18 (ps (pq [0, 0] 0 0) (pl (pd (.int .i64)) (pl (pb 1 3 (.int .i64)) pz))) (ps (po [0, 0] 51 1 (em (ps (pr [0, 1]) pz))) (pl (po [0, 1] 5 1 (ed (.int .u8))) pz))
def fun_writer_put.g (F : T_fun_writer_put) (v : fun_writer_put.p.T) (k : KR) : Option Bool := F v.1.1 v.1.2.1 v.2.1 (fun y0 => k (.tup []) [([0, 0], ⟨51, 1, (.mix [(.ref [1, 0])])⟩), ([1, 0], ⟨5, 1, (.data (.int .u8) y0)⟩)])
theorem fun_writer_put.eq (L0 : T_fun_writer_put_L0) : ∀ v k, exF Try.f18 fun_writer_put.p [] [] [⟨0, fun_writer_put_L0.p, fun_writer_put_L0.g L0⟩] v k = fun_writer_put.g (fun_writer_put.body L0) v k := fun v k => by kernel_rfl
theorem fun_writer_put.ok : okF 2 fun_writer_put.p (fun_writer_put.g fun_writer_put) := fn2 (fun_writer_put.eq (fun_writer_put_L0 ROUNDS)) Try.func18 (by kernel_rfl) .nil [0] (by kernel_rfl) (.cons fun_writer_put_L0.ok .nil)
/-- function 18: the loop in block 0 -/
abbrev T_fun_writer_putv1_L0 : Type := Int → (List Int) → Int → Int → (List Int) → ((List Int) → Option Bool) → Option Bool
noncomputable def fun_writer_putv1_L0.body (fun_writer_putv1_L0 : T_fun_writer_putv1_L0) (octet_Put : T_octet_Put) : T_fun_writer_putv1_L0 := fun n287 ns288 n289 n290 ns291 k1 =>
  (cond_ (decide (n290 < n289)) (cond_ ((decide ((0 : Int) ≤ n290)) && (decide (n290 < (List.length ns288 : Int)))) (octet_Put ns291 (List.getD ns288 (Int.toNat n290) (0 : Int)) n287
  (fun ns292 => (fun_writer_putv1_L0 n287 ns288 n289 (IntKind.wrap .i64 (n290 + (1 : Int))) ns292 k1))) none) (k1 ns291))
noncomputable def fun_writer_putv1_L0 : Nat → T_fun_writer_putv1_L0
  | 0 => fun _ _ _ _ _ _ => none
  | n + 1 => fun_writer_putv1_L0.body (fun_writer_putv1_L0 n) octet_Put
def fun_writer_putv1_L0.p : LPat := lp 2 25 [0, 1, 8, 9, 10] (ps (pq [0, 0] 0 0) (pl (pd (.int .i64)) (pl (pb 0 3 (.int .i64)) (pl (pd (.int .i64)) (pl (pd (.int .i64)) pz))))) (ps (po [0, 0] 51 1 (em (ps (pr [1, 0]) pz))) (pl (po [1, 0] 5 1 (ed (.int .u8))) pz))
def fun_writer_putv1_L0.g (F : T_fun_writer_putv1_L0) (v : fun_writer_putv1_L0.p.T) (k : KE) : Option Bool := F v.1.1 v.1.2.1 v.1.2.2.1 v.1.2.2.2.1 v.2.1 (fun y0 => k (.exit 0) ⟨fillS 25 [] [], [([0, 0], ⟨51, 1, (.mix [(.ref [1, 0])])⟩), ([1, 0], ⟨5, 1, (.data (.int .u8) y0)⟩)], 2⟩)
theorem fun_writer_putv1_L0.step (S : T_fun_writer_putv1_L0) (F0 : T_octet_Put) : ∀ v k, exR 18 Try.f18 0 fun_writer_putv1_L0.p [⟨octet_Put.p, octet_Put.g F0⟩] [] [] (fun_writer_putv1_L0.g S) v k = fun_writer_putv1_L0.g (fun_writer_putv1_L0.body S F0) v k := fun v k => by kernel_rfl
theorem fun_writer_putv1_L0.ok : okL 18 Try.f18 1 0 fun_writer_putv1_L0.p (fun_writer_putv1_L0.g (fun_writer_putv1_L0 ROUNDS)) := loop2 (G := fun n => fun_writer_putv1_L0.g (fun_writer_putv1_L0 n)) (fun n => fun_writer_putv1_L0.step (fun_writer_putv1_L0 n) octet_Put) (.cons octet_Put.ok .nil) [] (by kernel_rfl) .nil (fun _ _ => rfl)
/-- function 18: (*sheerleg/fun.writer).put -/
abbrev T_fun_writer_putv1 : Type := Int → (List Int) → (List Int) → ((List Int) → Option Bool) → Option Bool
noncomputable def fun_writer_putv1.body (fun_writer_putv1_L0 : T_fun_writer_putv1_L0) : T_fun_writer_putv1 := fun n284 ns285 ns286 k1 =>
  (fun_writer_putv1_L0 n284 ns285 (List.length ns285 : Int) (0 : Int) ns286
  (fun ns293 => (k1 ns293)))
noncomputable def fun_writer_putv1 : T_fun_writer_putv1 := fun_writer_putv1.body (fun_writer_putv1_L0 ROUNDS)
def fun_writer_putv1.p : FPat := fp 18 (ps (pq [0, 0] 0 0) (pl (pd (.int .i64)) (pl (pb 0 3 (.int .i64)) pz))) (ps (po [0, 0] 51 1 (em (ps (pr [0, 1]) pz))) (pl (po [0, 1] 5 1 (ed (.int .u8))) pz))
def fun_writer_putv1.g (F : T_fun_writer_putv1) (v : fun_writer_putv1.p.T) (k : KR) : Option Bool := F v.1.1 v.1.2.1 v.2.1 (fun y0 => k (.tup []) [([0, 0], ⟨51, 1, (.mix [(.ref [1, 0])])⟩), ([1, 0], ⟨5, 1, (.data (.int .u8) y0)⟩)])
theorem fun_writer_putv1.eq (L0 : T_fun_writer_putv1_L0) : ∀ v k, exF Try.f18 fun_writer_putv1.p [] [] [⟨0, fun_writer_putv1_L0.p, fun_writer_putv1_L0.g L0⟩] v k = fun_writer_putv1.g (fun_writer_putv1.body L0) v k := fun v k => by kernel_rfl
theorem fun_writer_putv1.ok : okF 2 fun_writer_putv1.p (fun_writer_putv1.g fun_writer_putv1) := fn2 (fun_writer_putv1.eq (fun_writer_putv1_L0 ROUNDS)) Try.func18 (by kernel_rfl) .nil [0] (by kernel_rfl) (.cons fun_writer_putv1_L0.ok .nil)
/-- function 19: sheerleg/fun.flag -/
abbrev T_fun_flag : Type := Bool → (Int → Option Bool) → Option Bool
noncomputable def fun_flag.body : T_fun_flag := fun b296 k1 =>
  (cond_ b296 (k1 (1 : Int)) (k1 (0 : Int)))
noncomputable def fun_flag : T_fun_flag := fun_flag.body
def fun_flag.p : FPat := fp 19 (pl (pd .bool) pz) pz
def fun_flag.g (F : T_fun_flag) (v : fun_flag.p.T) (k : KR) : Option Bool := F v.1.1 (fun y0 => k (.d ⟨(.int .i64), y0⟩) [])
theorem fun_flag.eq : ∀ v k, exF Try.f19 fun_flag.p [] [] [] v k = fun_flag.g (fun_flag.body) v k := fun v k => by kernel_rfl
theorem fun_flag.ok : okF 1 fun_flag.p (fun_flag.g fun_flag) := fn2 (fun_flag.eq) Try.func19 (by kernel_rfl) .nil [] (by kernel_rfl) .nil
/-- function 7: the loop in block 0 -/
abbrev T_fun_Put_L0 : Type := (List (Int × Int × Unit)) → Int → Int → Tc3 → (List Int) → (Tc3 → (List Int) → Option Bool) → Option Bool
noncomputable def fun_Put_L0.body (fun_Put_L0 : T_fun_Put_L0) (fun_writer_put : T_fun_writer_put) : T_fun_Put_L0 := fun l299 n300 n301 t302 ns303 k1 =>
  (cond_ (decide (n301 < n300)) (cond_ ((decide ((0 : Int) ≤ n301)) && (decide (n301 < (List.length l299 : Int)))) (fun_writer_put (1 : Int) [(List.getD l299 (Int.toNat n301) (0, (0, ()))).1] ns303
  (fun ns304 => (fun_writer_put (2 : Int) [(List.getD l299 (Int.toNat n301) (0, (0, ()))).2.1] ns304
  (fun ns305 => (fun_Put_L0 l299 n300 (IntKind.wrap .i64 (n301 + (1 : Int))) t302 ns305 k1))))) none) (k1 t302 ns303))
noncomputable def fun_Put_L0 : Nat → T_fun_Put_L0
  | 0 => fun _ _ _ _ _ _ => none
  | n + 1 => fun_Put_L0.body (fun_Put_L0 n) fun_writer_put
def fun_Put_L0.p : LPat := lp 2 116 [3, 5, 48, 49, 50] (ps (pq [1, 0] 0 0) (ps (pq [1, 1] 0 0) (pl (pd Ty3) (pl (pd (.int .i64)) (pl (pd (.int .i64)) pz))))) (pl (po [1, 0] 27 9 (es Ty7 (pl eh pz))) (ps (po [1, 1] 51 1 (em (ps (pr [1, 2]) pz))) (pl (po [1, 2] 5 1 (ed (.int .u8))) pz)))
def fun_Put_L0.g (F : T_fun_Put_L0) (v : fun_Put_L0.p.T) (k : KE) : Option Bool := F v.1.1 v.1.2.1 v.1.2.2.1 v.2.1.1 v.2.2.1 (fun y0 y1 => k (.exit 0) ⟨fillS 116 [3, 5] [(.ptr [1, 0] 0 0), (.ptr [1, 1] 0 0)], [([1, 0], ⟨27, 9, (.data Ty7 [y0])⟩), ([1, 1], ⟨51, 1, (.mix [(.ref [1, 2])])⟩), ([1, 2], ⟨5, 1, (.data (.int .u8) y1)⟩)], 2⟩)
theorem fun_Put_L0.step (S : T_fun_Put_L0) (F0 : T_fun_writer_put) : ∀ v k, exR 7 Try.f7 0 fun_Put_L0.p [⟨fun_writer_put.p, fun_writer_put.g F0⟩] [] [] (fun_Put_L0.g S) v k = fun_Put_L0.g (fun_Put_L0.body S F0) v k := fun v k => by kernel_rfl
theorem fun_Put_L0.ok : okL 7 Try.f7 2 0 fun_Put_L0.p (fun_Put_L0.g (fun_Put_L0 ROUNDS)) := loop2 (G := fun n => fun_Put_L0.g (fun_Put_L0 n)) (fun n => fun_Put_L0.step (fun_Put_L0 n) fun_writer_put) (.cons fun_writer_put.ok .nil) [] (by kernel_rfl) .nil (fun _ _ => rfl)
/-- function 20: sheerleg/instr.Put -/
abbrev T_instr_Put : Type := (List Int) → Tc1 → ((List Int) → Option Bool) → Option Bool
noncomputable def instr_Put.body (instr_numbers : T_instr_numbers) (octet_Put : T_octet_Put) : T_instr_Put := fun ns314 t315 k1 =>
  (instr_numbers t315
  (fun t316 => (octet_Put ns314 t316.1 (1 : Int)
  (fun ns317 => (octet_Put ns317 t316.2.1 (1 : Int)
  (fun ns318 => (octet_Put ns318 t316.2.2.1 (1 : Int)
  (fun ns319 => (octet_Put ns319 t316.2.2.2.1 (1 : Int)
  (fun ns320 => (octet_Put ns320 t316.2.2.2.2.1 (4 : Int)
  (fun ns321 => (k1 ns321)))))))))))))
noncomputable def instr_Put : T_instr_Put := instr_Put.body instr_numbers octet_Put
def instr_Put.p : FPat := fp 20 (pl (pb 1 5 (.int .u8)) (pl (pd Ty5) pz)) pz
def instr_Put.g (F : T_instr_Put) (v : instr_Put.p.T) (k : KR) : Option Bool := F v.1.1 v.1.2.1 (fun y0 => k (.ref [1, 0]) [([1, 0], ⟨5, 1, (.data (.int .u8) y0)⟩)])
theorem instr_Put.eq (F0 : T_instr_numbers) (F1 : T_octet_Put) : ∀ v k, exF Try.f20 instr_Put.p [⟨instr_numbers.p, instr_numbers.g F0⟩, ⟨octet_Put.p, octet_Put.g F1⟩] [0] [] v k = instr_Put.g (instr_Put.body F0 F1) v k := fun v k => by kernel_rfl
theorem instr_Put.ok : okF 2 instr_Put.p (instr_Put.g instr_Put) := fn2 (instr_Put.eq instr_numbers octet_Put) Try.func20 (by kernel_rfl) (.cons instr_numbers.ok (.cons octet_Put.ok .nil)) [] (by kernel_rfl) .nil
/-- function 7: the loop in block 2 -/
abbrev T_fun_Put_L2 : Type := Tc2 → Int → Int → Tc3 → (List Int) → (Tc3 → (List Int) → Option Bool) → Option Bool
noncomputable def fun_Put_L2.body (fun_Put_L2 : T_fun_Put_L2) (instr_Put : T_instr_Put) : T_fun_Put_L2 := fun l309 n310 n311 t312 ns313 k1 =>
  (cond_ (decide (n311 < n310)) (cond_ ((decide ((0 : Int) ≤ n311)) && (decide (n311 < (List.length l309 : Int)))) (instr_Put ns313 (List.getD l309 (Int.toNat n311) (0, (0, (0, (0, (0, ()))))))
  (fun ns322 => (fun_Put_L2 l309 n310 (IntKind.wrap .i64 (n311 + (1 : Int))) t312 ns322 k1))) none) (k1 t312 ns313))
noncomputable def fun_Put_L2 : Nat → T_fun_Put_L2
  | 0 => fun _ _ _ _ _ _ => none
  | n + 1 => fun_Put_L2.body (fun_Put_L2 n) instr_Put
def fun_Put_L2.p : LPat := lp 2 116 [3, 5, 72, 73, 74] (ps (pq [1, 0] 0 0) (ps (pq [1, 1] 0 0) (pl (pd Ty6) (pl (pd (.int .i64)) (pl (pd (.int .i64)) pz))))) (pl (po [1, 0] 27 9 (es Ty7 (pl eh pz))) (ps (po [1, 1] 51 1 (em (ps (pr [1, 2]) pz))) (pl (po [1, 2] 5 1 (ed (.int .u8))) pz)))
def fun_Put_L2.g (F : T_fun_Put_L2) (v : fun_Put_L2.p.T) (k : KE) : Option Bool := F v.1.1 v.1.2.1 v.1.2.2.1 v.2.1.1 v.2.2.1 (fun y0 y1 => k (.exit 2) ⟨fillS 116 [3, 5] [(.ptr [1, 0] 0 0), (.ptr [1, 1] 0 0)], [([1, 0], ⟨27, 9, (.data Ty7 [y0])⟩), ([1, 1], ⟨51, 1, (.mix [(.ref [1, 2])])⟩), ([1, 2], ⟨5, 1, (.data (.int .u8) y1)⟩)], 2⟩)
theorem fun_Put_L2.step (S : T_fun_Put_L2) (F0 : T_instr_Put) : ∀ v k, exR 7 Try.f7 2 fun_Put_L2.p [⟨instr_Put.p, instr_Put.g F0⟩] [] [] (fun_Put_L2.g S) v k = fun_Put_L2.g (fun_Put_L2.body S F0) v k := fun v k => by kernel_rfl
theorem fun_Put_L2.ok : okL 7 Try.f7 2 2 fun_Put_L2.p (fun_Put_L2.g (fun_Put_L2 ROUNDS)) := loop2 (G := fun n => fun_Put_L2.g (fun_Put_L2 n)) (fun n => fun_Put_L2.step (fun_Put_L2 n) instr_Put) (.cons instr_Put.ok .nil) [] (by kernel_rfl) .nil (fun _ _ => rfl)
/-- function 7: the loop in block 4 -/
abbrev T_fun_Put_L4 : Type := Tc0 → Int → Int → (List Int) → ((List Int) → Option Bool) → Option Bool
noncomputable def fun_Put_L4.body (fun_Put_L4 : T_fun_Put_L4) (fun_flag : T_fun_flag) (fun_writer_put : T_fun_writer_put) : T_fun_Put_L4 := fun l326 n327 n328 ns329 k1 =>
  (cond_ (decide (n328 < n327)) (cond_ ((decide ((0 : Int) ≤ n328)) && (decide (n328 < (List.length l326 : Int)))) (fun_flag (List.getD l326 (Int.toNat n328) (0, (0, (false, ())))).2.2.1
  (fun n330 => (fun_writer_put (1 : Int) [(List.getD l326 (Int.toNat n328) (0, (0, (false, ())))).1, (List.getD l326 (Int.toNat n328) (0, (0, (false, ())))).2.1, n330] ns329
  (fun ns331 => (fun_Put_L4 l326 n327 (IntKind.wrap .i64 (n328 + (1 : Int))) ns331 k1))))) none) (k1 ns329))
noncomputable def fun_Put_L4 : Nat → T_fun_Put_L4
  | 0 => fun _ _ _ _ _ => none
  | n + 1 => fun_Put_L4.body (fun_Put_L4 n) fun_flag fun_writer_put
def fun_Put_L4.p : LPat := lp 2 116 [5, 95, 96, 97] (ps (pq [1, 0] 0 0) (pl (pd Ty4) (pl (pd (.int .i64)) (pl (pd (.int .i64)) pz)))) (ps (po [1, 0] 51 1 (em (ps (pr [1, 1]) pz))) (pl (po [1, 1] 5 1 (ed (.int .u8))) pz))
def fun_Put_L4.g (F : T_fun_Put_L4) (v : fun_Put_L4.p.T) (k : KE) : Option Bool := F v.1.1 v.1.2.1 v.1.2.2.1 v.2.1 (fun y0 => k (.exit 4) ⟨fillS 116 [5] [(.ptr [1, 0] 0 0)], [([1, 0], ⟨51, 1, (.mix [(.ref [1, 1])])⟩), ([1, 1], ⟨5, 1, (.data (.int .u8) y0)⟩)], 2⟩)
theorem fun_Put_L4.step (S : T_fun_Put_L4) (F0 : T_fun_flag) (F1 : T_fun_writer_put) : ∀ v k, exR 7 Try.f7 4 fun_Put_L4.p [⟨fun_flag.p, fun_flag.g F0⟩, ⟨fun_writer_put.p, fun_writer_put.g F1⟩] [] [] (fun_Put_L4.g S) v k = fun_Put_L4.g (fun_Put_L4.body S F0 F1) v k := fun v k => by kernel_rfl
theorem fun_Put_L4.ok : okL 7 Try.f7 2 4 fun_Put_L4.p (fun_Put_L4.g (fun_Put_L4 ROUNDS)) := loop2 (G := fun n => fun_Put_L4.g (fun_Put_L4 n)) (fun n => fun_Put_L4.step (fun_Put_L4 n) fun_flag fun_writer_put) (.cons fun_flag.ok (.cons fun_writer_put.ok .nil)) [] (by kernel_rfl) .nil (fun _ _ => rfl)
/-- function 7: sheerleg/fun.Put -/
abbrev T_fun_Put : Type := Tc3 → ((List Int) → Option Bool) → Option Bool
noncomputable def fun_Put.body (fun_writer_put : T_fun_writer_put) (fun_writer_putv1 : T_fun_writer_putv1) (fun_flag : T_fun_flag) (fun_Put_L0 : T_fun_Put_L0) (fun_Put_L2 : T_fun_Put_L2) (fun_Put_L4 : T_fun_Put_L4) : T_fun_Put := fun t272 k1 =>
  (fun_writer_put (1 : Int) [t272.1, (((List.length t272.2.1) : Nat) : Int)] []
  (fun ns283 => (fun_writer_putv1 (1 : Int) t272.2.1 ns283
  (fun ns294 => (fun_writer_put (2 : Int) [t272.2.2.1] ns294
  (fun ns295 => (fun_flag t272.2.2.2.1
  (fun n297 => (fun_writer_put (1 : Int) [n297, t272.2.2.2.2.1, t272.2.2.2.2.2.1, (((List.length t272.2.2.2.2.2.2.1) : Nat) : Int)] ns295
  (fun ns298 => (fun_Put_L0 t272.2.2.2.2.2.2.1 (((List.length t272.2.2.2.2.2.2.1) : Nat) : Int) (0 : Int) t272 ns298
  (fun t306 ns307 => (fun_writer_put (1 : Int) [(((List.length t306.2.2.2.2.2.2.2.1) : Nat) : Int)] ns307
  (fun ns308 => (fun_Put_L2 t306.2.2.2.2.2.2.2.1 (((List.length t306.2.2.2.2.2.2.2.1) : Nat) : Int) (0 : Int) t306 ns308
  (fun t323 ns324 => (fun_writer_put (1 : Int) [(((List.length t323.2.2.2.2.2.2.2.2.1) : Nat) : Int)] ns324
  (fun ns325 => (fun_Put_L4 t323.2.2.2.2.2.2.2.2.1 (((List.length t323.2.2.2.2.2.2.2.2.1) : Nat) : Int) (0 : Int) ns325
  (fun ns332 => (k1 ns332)))))))))))))))))))))
noncomputable def fun_Put : T_fun_Put := fun_Put.body fun_writer_put fun_writer_putv1 fun_flag (fun_Put_L0 ROUNDS) (fun_Put_L2 ROUNDS) (fun_Put_L4 ROUNDS)
def fun_Put.p : FPat := fp 7 (ps (pk 0) (pl (pd Ty7) pz)) pz
def fun_Put.g (F : T_fun_Put) (v : fun_Put.p.T) (k : KR) : Option Bool := F v.1.1 (fun y0 => k (.ref [1, 0]) [([1, 0], ⟨5, 1, (.data (.int .u8) y0)⟩)])
theorem fun_Put.eq (F0 : T_fun_writer_put) (F1 : T_fun_writer_putv1) (F2 : T_fun_flag) (L0 : T_fun_Put_L0) (L1 : T_fun_Put_L2) (L2 : T_fun_Put_L4) : ∀ v k, exF Try.f7 fun_Put.p [⟨fun_writer_put.p, fun_writer_put.g F0⟩, ⟨fun_writer_putv1.p, fun_writer_putv1.g F1⟩, ⟨fun_flag.p, fun_flag.g F2⟩] [] [⟨0, fun_Put_L0.p, fun_Put_L0.g L0⟩, ⟨2, fun_Put_L2.p, fun_Put_L2.g L1⟩, ⟨4, fun_Put_L4.p, fun_Put_L4.g L2⟩] v k = fun_Put.g (fun_Put.body F0 F1 F2 L0 L1 L2) v k := fun v k => by kernel_rfl
theorem fun_Put.ok : okF 3 fun_Put.p (fun_Put.g fun_Put) := fn2 (fun_Put.eq fun_writer_put fun_writer_putv1 fun_flag (fun_Put_L0 ROUNDS) (fun_Put_L2 ROUNDS) (fun_Put_L4 ROUNDS)) Try.func7 (by kernel_rfl) (.cons fun_writer_put.ok (.cons fun_writer_putv1.ok (.cons fun_flag.ok .nil))) [0, 2, 4] (by kernel_rfl) (.cons fun_Put_L0.ok (.cons fun_Put_L2.ok (.cons fun_Put_L4.ok .nil)))
/-- function 9: sheerleg/octet.New -/
abbrev T_octet_New : Type := (List Int) → (Int → Bool → Bool → (List Int) → Option Bool) → Option Bool
noncomputable def octet_New.body : T_octet_New := fun ns334 k1 =>
  (cond_ (Nat.ble (((0 : Nat) + (List.length ns334)) * (1 : Nat)) (140737488355328 : Nat)) (k1 (0 : Int) true false ([] ++ ns334)) none)
noncomputable def octet_New : T_octet_New := octet_New.body
def octet_New.p : FPat := fp 9 (pl (pb 1 5 (.int .u8)) pz) pz
def octet_New.g (F : T_octet_New) (v : octet_New.p.T) (k : KR) : Option Bool := F v.1.1 (fun y0 y1 y2 y3 => k (.ptr [1, 0] 0 0) [([1, 0], ⟨64, 4, (.mix [(.agg [(.ref [1, 1]), (.d ⟨(.int .i64), y0⟩), (.d ⟨.bool, y1⟩), (.d ⟨.bool, y2⟩)])])⟩), ([1, 1], ⟨5, 1, (.data (.int .u8) y3)⟩)])
theorem octet_New.eq : ∀ v k, exF Try.f9 octet_New.p [] [] [] v k = octet_New.g (octet_New.body) v k := fun v k => by kernel_rfl
theorem octet_New.ok : okF 1 octet_New.p (octet_New.g octet_New) := fn2 (octet_New.eq) Try.func9 (by kernel_rfl) .nil [] (by kernel_rfl) .nil
/-- function 48: (*sheerleg/octet.Reader).Bad -/
abbrev T_octet_Reader_Bad : Type := Int → Bool → Bool → (List Int) → (Bool → Int → Bool → Bool → (List Int) → Option Bool) → Option Bool
noncomputable def octet_Reader_Bad.body : T_octet_Reader_Bad := fun n364 b365 b366 ns367 k1 =>
  (cond_ (! (! b365)) (k1 b366 n364 b365 b366 ns367) (k1 true n364 b365 b366 ns367))
noncomputable def octet_Reader_Bad : T_octet_Reader_Bad := octet_Reader_Bad.body
def octet_Reader_Bad.p : FPat := fp 48 (ps (pq [0, 0] 0 0) pz) (pl (po [0, 0] 64 4 (em (pl (pa (ps (pr [0, 1]) (pl (pd (.int .i64)) (pl (pd .bool) (pl (pd .bool) pz))))) pz))) (pl (po [0, 1] 5 1 (ed (.int .u8))) pz))
def octet_Reader_Bad.g (F : T_octet_Reader_Bad) (v : octet_Reader_Bad.p.T) (k : KR) : Option Bool := F v.2.1.1.1 v.2.1.1.2.1 v.2.1.1.2.2.1 v.2.2.1 (fun y0 y1 y2 y3 y4 => k (.d ⟨.bool, y0⟩) [([0, 0], ⟨64, 4, (.mix [(.agg [(.ref [0, 1]), (.d ⟨(.int .i64), y1⟩), (.d ⟨.bool, y2⟩), (.d ⟨.bool, y3⟩)])])⟩), ([0, 1], ⟨5, 1, (.data (.int .u8) y4)⟩)])
theorem octet_Reader_Bad.eq : ∀ v k, exF Try.f48 octet_Reader_Bad.p [] [] [] v k = octet_Reader_Bad.g (octet_Reader_Bad.body) v k := fun v k => by kernel_rfl
theorem octet_Reader_Bad.ok : okF 1 octet_Reader_Bad.p (octet_Reader_Bad.g octet_Reader_Bad) := fn2 (octet_Reader_Bad.eq) Try.func48 (by kernel_rfl) .nil [] (by kernel_rfl) .nil
/-- function 49: (*sheerleg/octet.Reader).Left -/
abbrev T_octet_Reader_Left : Type := Int → Bool → Bool → (List Int) → (Int → Int → Bool → Bool → (List Int) → Option Bool) → Option Bool
noncomputable def octet_Reader_Left.body : T_octet_Reader_Left := fun n373 b374 b375 ns376 k1 =>
  (k1 (IntKind.wrap .i64 ((List.length ns376 : Int) - n373)) n373 b374 b375 ns376)
noncomputable def octet_Reader_Left : T_octet_Reader_Left := octet_Reader_Left.body
def octet_Reader_Left.p : FPat := fp 49 (ps (pq [0, 0] 0 0) pz) (pl (po [0, 0] 64 4 (em (pl (pa (ps (pr [0, 1]) (pl (pd (.int .i64)) (pl (pd .bool) (pl (pd .bool) pz))))) pz))) (pl (po [0, 1] 5 1 (ed (.int .u8))) pz))
def octet_Reader_Left.g (F : T_octet_Reader_Left) (v : octet_Reader_Left.p.T) (k : KR) : Option Bool := F v.2.1.1.1 v.2.1.1.2.1 v.2.1.1.2.2.1 v.2.2.1 (fun y0 y1 y2 y3 y4 => k (.d ⟨(.int .i64), y0⟩) [([0, 0], ⟨64, 4, (.mix [(.agg [(.ref [0, 1]), (.d ⟨(.int .i64), y1⟩), (.d ⟨.bool, y2⟩), (.d ⟨.bool, y3⟩)])])⟩), ([0, 1], ⟨5, 1, (.data (.int .u8) y4)⟩)])
theorem octet_Reader_Left.eq : ∀ v k, exF Try.f49 octet_Reader_Left.p [] [] [] v k = octet_Reader_Left.g (octet_Reader_Left.body) v k := fun v k => by kernel_rfl
theorem octet_Reader_Left.ok : okF 1 octet_Reader_Left.p (octet_Reader_Left.g octet_Reader_Left) := fn2 (octet_Reader_Left.eq) Try.func49 (by kernel_rfl) .nil [] (by kernel_rfl) .nil
/-- function 73: (*sheerleg/octet.Reader).spoil -/
abbrev T_octet_Reader_spoil : Type := Int → Bool → Bool → (List Int) → (Int → Bool → Bool → (List Int) → Option Bool) → Option Bool
noncomputable def octet_Reader_spoil.body : T_octet_Reader_spoil := fun n382 b383 b384 ns385 k1 =>
  (k1 n382 b383 true ns385)
noncomputable def octet_Reader_spoil : T_octet_Reader_spoil := octet_Reader_spoil.body
def octet_Reader_spoil.p : FPat := fp 73 (ps (pq [0, 0] 0 0) pz) (pl (po [0, 0] 64 4 (em (pl (pa (ps (pr [0, 1]) (pl (pd (.int .i64)) (pl (pd .bool) (pl (pd .bool) pz))))) pz))) (pl (po [0, 1] 5 1 (ed (.int .u8))) pz))
def octet_Reader_spoil.g (F : T_octet_Reader_spoil) (v : octet_Reader_spoil.p.T) (k : KR) : Option Bool := F v.2.1.1.1 v.2.1.1.2.1 v.2.1.1.2.2.1 v.2.2.1 (fun y0 y1 y2 y3 => k (.tup []) [([0, 0], ⟨64, 4, (.mix [(.agg [(.ref [0, 1]), (.d ⟨(.int .i64), y0⟩), (.d ⟨.bool, y1⟩), (.d ⟨.bool, y2⟩)])])⟩), ([0, 1], ⟨5, 1, (.data (.int .u8) y3)⟩)])
theorem octet_Reader_spoil.eq : ∀ v k, exF Try.f73 octet_Reader_spoil.p [] [] [] v k = octet_Reader_spoil.g (octet_Reader_spoil.body) v k := fun v k => by kernel_rfl
theorem octet_Reader_spoil.ok : okF 1 octet_Reader_spoil.p (octet_Reader_spoil.g octet_Reader_spoil) := fn2 (octet_Reader_spoil.eq) Try.func73 (by kernel_rfl) .nil [] (by kernel_rfl) .nil
/-- function 63: (*sheerleg/octet.Reader).take -/
abbrev T_octet_Reader_take : Type := Int → Int → Bool → Bool → (List Int) → (Int → Bool → Bool → (List Int) → (List Int) → Option Bool) → (Nat → Nat → Int → Bool → Bool → (List Int) → Option Bool) → Option Bool
noncomputable def octet_Reader_take.body (octet_Reader_Bad : T_octet_Reader_Bad) (octet_Reader_Left : T_octet_Reader_Left) (octet_Reader_spoil : T_octet_Reader_spoil) : T_octet_Reader_take := fun n359 n360 b361 b362 ns363 k1 k2 =>
  (octet_Reader_Bad n360 b361 b362 ns363
  (fun b368 n369 b370 b371 ns372 => (cond_ (! b368) (cond_ (! (decide (n359 < (0 : Int)))) (octet_Reader_Left n369 b370 b371 ns372
  (fun n377 n378 b379 b380 ns381 => (cond_ (decide (n359 > n377)) (octet_Reader_spoil n378 b379 b380 ns381
  (fun n386 b387 b388 ns389 => (k1 n386 b387 b388 ns389 []))) (cond_ (((decide ((0 : Int) ≤ (IntKind.wrap .i64 ((IntKind.wrap .i64 (n378 + n359)) - n359)))) && (decide ((IntKind.wrap .i64 ((IntKind.wrap .i64 (n378 + n359)) - n359)) ≤ (IntKind.wrap .i64 (n378 + n359))))) && (decide ((IntKind.wrap .i64 (n378 + n359)) ≤ (List.length ns381 : Int)))) (k2 (Int.toNat (IntKind.wrap .i64 ((IntKind.wrap .i64 (n378 + n359)) - n359))) (Int.toNat ((IntKind.wrap .i64 (n378 + n359)) - (IntKind.wrap .i64 ((IntKind.wrap .i64 (n378 + n359)) - n359)))) (IntKind.wrap .i64 (n378 + n359)) b379 b380 ns381) none)))) (octet_Reader_spoil n369 b370 b371 ns372
  (fun n390 b391 b392 ns393 => (k1 n390 b391 b392 ns393 [])))) (octet_Reader_spoil n369 b370 b371 ns372
  (fun n394 b395 b396 ns397 => (k1 n394 b395 b396 ns397 []))))))
noncomputable def octet_Reader_take : T_octet_Reader_take := octet_Reader_take.body octet_Reader_Bad octet_Reader_Left octet_Reader_spoil
def octet_Reader_take.p : FPat := fp 63 (ps (pq [0, 0] 0 0) (pl (pd (.int .i64)) pz)) (pl (po [0, 0] 64 4 (em (pl (pa (ps (pr [0, 1]) (pl (pd (.int .i64)) (pl (pd .bool) (pl (pd .bool) pz))))) pz))) (pl (po [0, 1] 5 1 (ed (.int .u8))) pz))
def octet_Reader_take.g (F : T_octet_Reader_take) (v : octet_Reader_take.p.T) (k : KR) : Option Bool := F v.1.1 v.2.1.1.1 v.2.1.1.2.1 v.2.1.1.2.2.1 v.2.2.1 (fun y0 y1 y2 y3 y4 => k (.ref [1, 0]) [([0, 0], ⟨64, 4, (.mix [(.agg [(.ref [0, 1]), (.d ⟨(.int .i64), y0⟩), (.d ⟨.bool, y1⟩), (.d ⟨.bool, y2⟩)])])⟩), ([0, 1], ⟨5, 1, (.data (.int .u8) y3)⟩), ([1, 0], ⟨5, 1, (.data (.int .u8) y4)⟩)]) (fun y0 y1 y2 y3 y4 y5 => k (.cut [0, 1] y0 y1) [([0, 0], ⟨64, 4, (.mix [(.agg [(.ref [0, 1]), (.d ⟨(.int .i64), y2⟩), (.d ⟨.bool, y3⟩), (.d ⟨.bool, y4⟩)])])⟩), ([0, 1], ⟨5, 1, (.data (.int .u8) y5)⟩)])
theorem octet_Reader_take.eq (F0 : T_octet_Reader_Bad) (F1 : T_octet_Reader_Left) (F2 : T_octet_Reader_spoil) : ∀ v k, exF Try.f63 octet_Reader_take.p [⟨octet_Reader_Bad.p, octet_Reader_Bad.g F0⟩, ⟨octet_Reader_Left.p, octet_Reader_Left.g F1⟩, ⟨octet_Reader_spoil.p, octet_Reader_spoil.g F2⟩] [] [] v k = octet_Reader_take.g (octet_Reader_take.body F0 F1 F2) v k := fun v k => by kernel_rfl
theorem octet_Reader_take.ok : okF 2 octet_Reader_take.p (octet_Reader_take.g octet_Reader_take) := fn2 (octet_Reader_take.eq octet_Reader_Bad octet_Reader_Left octet_Reader_spoil) Try.func63 (by kernel_rfl) (.cons octet_Reader_Bad.ok (.cons octet_Reader_Left.ok (.cons octet_Reader_spoil.ok .nil))) [] (by kernel_rfl) .nil
/-- function 62: the loop in block 0 -/
abbrev T_octet_number_L0 : Type := Int → Int → Int → Int → Bool → Bool → (List Int) → (List Int) → (Int → Int → Bool → Bool → (List Int) → (List Int) → Option Bool) → Option Bool
noncomputable def octet_number_L0.body (octet_number_L0 : T_octet_number_L0) : T_octet_number_L0 := fun n403 n404 n405 n406 b407 b408 ns409 ns410 k1 =>
  (cond_ (decide (n405 < n404)) (cond_ ((decide ((0 : Int) ≤ n405)) && (decide (n405 < (List.length ns410 : Int)))) (octet_number_L0 (IntKind.wrap .i64 (((@BitVec.toNat (64 : Nat) ((@BitVec.ofInt (64 : Nat) (IntKind.wrap .i64 (n403 * (256 : Int)))) ||| (@BitVec.ofInt (64 : Nat) (IntKind.wrap .i64 (List.getD ns410 (Int.toNat n405) (0 : Int)))))) : Nat) : Int)) n404 (IntKind.wrap .i64 (n405 + (1 : Int))) n406 b407 b408 ns409 ns410 k1) none) (k1 n403 n406 b407 b408 ns409 ns410))
noncomputable def octet_number_L0 : Nat → T_octet_number_L0
  | 0 => fun _ _ _ _ _ _ _ _ _ => none
  | n + 1 => octet_number_L0.body (octet_number_L0 n)
def octet_number_L0.p : LPat := lp 2 33 [6, 7, 19, 20, 21] (pl (pd (.int .i64)) (ps (pr [1, 0]) (ps (pr [1, 0]) (pl (pd (.int .i64)) (pl (pd (.int .i64)) pz))))) (pl (po [0, 0] 64 4 (em (pl (pa (ps (pr [0, 1]) (pl (pd (.int .i64)) (pl (pd .bool) (pl (pd .bool) pz))))) pz))) (pl (po [0, 1] 5 1 (ed (.int .u8))) (pl (po [1, 0] 5 1 (ed (.int .u8))) pz)))
def octet_number_L0.g (F : T_octet_number_L0) (v : octet_number_L0.p.T) (k : KE) : Option Bool := F v.1.1 v.1.2.1 v.1.2.2.1 v.2.1.1.1 v.2.1.1.2.1 v.2.1.1.2.2.1 v.2.2.1 v.2.2.2.1 (fun y0 y1 y2 y3 y4 y5 => k (.exit 0) ⟨fillS 33 [6, 7] [(.d ⟨(.int .i64), y0⟩), (.ref [1, 0])], [([0, 0], ⟨64, 4, (.mix [(.agg [(.ref [0, 1]), (.d ⟨(.int .i64), y1⟩), (.d ⟨.bool, y2⟩), (.d ⟨.bool, y3⟩)])])⟩), ([0, 1], ⟨5, 1, (.data (.int .u8) y4)⟩), ([1, 0], ⟨5, 1, (.data (.int .u8) y5)⟩)], 2⟩)
theorem octet_number_L0.step (S : T_octet_number_L0) : ∀ v k, exR 62 Try.f62 0 octet_number_L0.p [] [] [] (octet_number_L0.g S) v k = octet_number_L0.g (octet_number_L0.body S) v k := fun v k => by kernel_rfl
theorem octet_number_L0.ok : okL 62 Try.f62 0 0 octet_number_L0.p (octet_number_L0.g (octet_number_L0 ROUNDS)) := loop2 (G := fun n => octet_number_L0.g (octet_number_L0 n)) (fun n => octet_number_L0.step (octet_number_L0 n)) .nil [] (by kernel_rfl) .nil (fun _ _ => rfl)
/-- function 62: the loop in block 0 -/
abbrev T_octet_number_L0v1 : Type := Int → Nat → Nat → Nat → Nat → Int → Int → Int → Bool → Bool → (List Int) → (Int → Nat → Nat → Int → Bool → Bool → (List Int) → Option Bool) → Option Bool
noncomputable def octet_number_L0v1.body (octet_number_L0v1 : T_octet_number_L0v1) : T_octet_number_L0v1 := fun n423 m424 m425 m426 m427 n428 n429 n430 b431 b432 ns433 k1 =>
  (cond_ (decide (n429 < n428)) (cond_ ((decide ((0 : Int) ≤ n429)) && (decide (n429 < ((m427 : Nat) : Int)))) (octet_number_L0v1 (IntKind.wrap .i64 (((@BitVec.toNat (64 : Nat) ((@BitVec.ofInt (64 : Nat) (IntKind.wrap .i64 (n423 * (256 : Int)))) ||| (@BitVec.ofInt (64 : Nat) (IntKind.wrap .i64 (List.getD ns433 (m426 + (Int.toNat n429)) (0 : Int)))))) : Nat) : Int)) m424 m425 m426 m427 n428 (IntKind.wrap .i64 (n429 + (1 : Int))) n430 b431 b432 ns433 k1) none) (k1 n423 m424 m425 n430 b431 b432 ns433))
noncomputable def octet_number_L0v1 : Nat → T_octet_number_L0v1
  | 0 => fun _ _ _ _ _ _ _ _ _ _ _ _ => none
  | n + 1 => octet_number_L0v1.body (octet_number_L0v1 n)
def octet_number_L0v1.p : LPat := lp 2 33 [6, 7, 19, 20, 21] (pl (pd (.int .i64)) (pl (pc [0, 1] nv nv) (pl (pc [0, 1] nv nv) (pl (pd (.int .i64)) (pl (pd (.int .i64)) pz))))) (pl (po [0, 0] 64 4 (em (pl (pa (ps (pr [0, 1]) (pl (pd (.int .i64)) (pl (pd .bool) (pl (pd .bool) pz))))) pz))) (pl (po [0, 1] 5 1 (ed (.int .u8))) pz))
def octet_number_L0v1.g (F : T_octet_number_L0v1) (v : octet_number_L0v1.p.T) (k : KE) : Option Bool := F v.1.1 v.1.2.1.1 v.1.2.1.2 v.1.2.2.1.1 v.1.2.2.1.2 v.1.2.2.2.1 v.1.2.2.2.2.1 v.2.1.1.1 v.2.1.1.2.1 v.2.1.1.2.2.1 v.2.2.1 (fun y0 y1 y2 y3 y4 y5 y6 => k (.exit 0) ⟨fillS 33 [6, 7] [(.d ⟨(.int .i64), y0⟩), (.cut [0, 1] y1 y2)], [([0, 0], ⟨64, 4, (.mix [(.agg [(.ref [0, 1]), (.d ⟨(.int .i64), y3⟩), (.d ⟨.bool, y4⟩), (.d ⟨.bool, y5⟩)])])⟩), ([0, 1], ⟨5, 1, (.data (.int .u8) y6)⟩)], 2⟩)
theorem octet_number_L0v1.step (S : T_octet_number_L0v1) : ∀ v k, exR 62 Try.f62 0 octet_number_L0v1.p [] [] [] (octet_number_L0v1.g S) v k = octet_number_L0v1.g (octet_number_L0v1.body S) v k := fun v k => by kernel_rfl
theorem octet_number_L0v1.ok : okL 62 Try.f62 0 0 octet_number_L0v1.p (octet_number_L0v1.g (octet_number_L0v1 ROUNDS)) := loop2 (G := fun n => octet_number_L0v1.g (octet_number_L0v1 n)) (fun n => octet_number_L0v1.step (octet_number_L0v1 n)) .nil [] (by kernel_rfl) .nil (fun _ _ => rfl)
/-- function 62: sheerleg/octet.number -/
abbrev T_octet_number : Type := Int → Int → Bool → Bool → (List Int) → (Int → Int → Bool → Bool → (List Int) → (List Int) → Option Bool) → (Int → Nat → Nat → Int → Bool → Bool → (List Int) → Option Bool) → Option Bool
noncomputable def octet_number.body (octet_Reader_take : T_octet_Reader_take) (octet_number_L0 : T_octet_number_L0) (octet_number_L0v1 : T_octet_number_L0v1) : T_octet_number := fun n354 n355 b356 b357 ns358 k1 k2 =>
  (cond_ (! (decide (n354 < (1 : Int)))) (cond_ (decide (n354 > (8 : Int))) (octet_Reader_take (-1 : Int) n355 b356 b357 ns358
  (fun n398 b399 b400 ns401 ns402 => (octet_number_L0 (0 : Int) (List.length ns402 : Int) (0 : Int) n398 b399 b400 ns401 ns402
  (fun n411 n412 b413 b414 ns415 ns416 => (k1 n411 n412 b413 b414 ns415 ns416))))
  (fun m417 m418 n419 b420 b421 ns422 => (octet_number_L0v1 (0 : Int) m417 m418 m417 m418 ((m418 : Nat) : Int) (0 : Int) n419 b420 b421 ns422
  (fun n434 m435 m436 n437 b438 b439 ns440 => (k2 n434 m435 m436 n437 b438 b439 ns440))))) (octet_Reader_take n354 n355 b356 b357 ns358
  (fun n441 b442 b443 ns444 ns445 => (octet_number_L0 (0 : Int) (List.length ns445 : Int) (0 : Int) n441 b442 b443 ns444 ns445
  (fun n446 n447 b448 b449 ns450 ns451 => (k1 n446 n447 b448 b449 ns450 ns451))))
  (fun m452 m453 n454 b455 b456 ns457 => (octet_number_L0v1 (0 : Int) m452 m453 m452 m453 ((m453 : Nat) : Int) (0 : Int) n454 b455 b456 ns457
  (fun n458 m459 m460 n461 b462 b463 ns464 => (k2 n458 m459 m460 n461 b462 b463 ns464)))))) (octet_Reader_take (-1 : Int) n355 b356 b357 ns358
  (fun n465 b466 b467 ns468 ns469 => (octet_number_L0 (0 : Int) (List.length ns469 : Int) (0 : Int) n465 b466 b467 ns468 ns469
  (fun n470 n471 b472 b473 ns474 ns475 => (k1 n470 n471 b472 b473 ns474 ns475))))
  (fun m476 m477 n478 b479 b480 ns481 => (octet_number_L0v1 (0 : Int) m476 m477 m476 m477 ((m477 : Nat) : Int) (0 : Int) n478 b479 b480 ns481
  (fun n482 m483 m484 n485 b486 b487 ns488 => (k2 n482 m483 m484 n485 b486 b487 ns488))))))
noncomputable def octet_number : T_octet_number := octet_number.body octet_Reader_take (octet_number_L0 ROUNDS) (octet_number_L0v1 ROUNDS)
def octet_number.p : FPat := fp 62 (pl (pf 63 (ps (pq [0, 0] 0 0) pz) pz) (pl (pd (.int .i64)) pz)) (pl (po [0, 0] 64 4 (em (pl (pa (ps (pr [0, 1]) (pl (pd (.int .i64)) (pl (pd .bool) (pl (pd .bool) pz))))) pz))) (pl (po [0, 1] 5 1 (ed (.int .u8))) pz))
def octet_number.g (F : T_octet_number) (v : octet_number.p.T) (k : KR) : Option Bool := F v.1.2.1 v.2.1.1.1 v.2.1.1.2.1 v.2.1.1.2.2.1 v.2.2.1 (fun y0 y1 y2 y3 y4 y5 => k (.tup [(.d ⟨(.int .i64), y0⟩), (.ref [1, 0])]) [([0, 0], ⟨64, 4, (.mix [(.agg [(.ref [0, 1]), (.d ⟨(.int .i64), y1⟩), (.d ⟨.bool, y2⟩), (.d ⟨.bool, y3⟩)])])⟩), ([0, 1], ⟨5, 1, (.data (.int .u8) y4)⟩), ([1, 0], ⟨5, 1, (.data (.int .u8) y5)⟩)]) (fun y0 y1 y2 y3 y4 y5 y6 => k (.tup [(.d ⟨(.int .i64), y0⟩), (.cut [0, 1] y1 y2)]) [([0, 0], ⟨64, 4, (.mix [(.agg [(.ref [0, 1]), (.d ⟨(.int .i64), y3⟩), (.d ⟨.bool, y4⟩), (.d ⟨.bool, y5⟩)])])⟩), ([0, 1], ⟨5, 1, (.data (.int .u8) y6)⟩)])
theorem octet_number.eq (F0 : T_octet_Reader_take) (L0 : T_octet_number_L0) (L1 : T_octet_number_L0v1) : ∀ v k, exF Try.f62 octet_number.p [⟨octet_Reader_take.p, octet_Reader_take.g F0⟩] [] [⟨0, octet_number_L0.p, octet_number_L0.g L0⟩, ⟨0, octet_number_L0v1.p, octet_number_L0v1.g L1⟩] v k = octet_number.g (octet_number.body F0 L0 L1) v k := fun v k => by kernel_rfl
theorem octet_number.ok : okF 3 octet_number.p (octet_number.g octet_number) := fn2 (octet_number.eq octet_Reader_take (octet_number_L0 ROUNDS) (octet_number_L0v1 ROUNDS)) Try.func62 (by kernel_rfl) (.cons octet_Reader_take.ok .nil) [0] (by kernel_rfl) (.cons octet_number_L0.ok (.cons octet_number_L0v1.ok .nil))
/-- function 47: (*sheerleg/octet.Reader).Num -/
abbrev T_octet_Reader_Num : Type := Int → Int → Bool → Bool → (List Int) → (Int → Int → Bool → Bool → (List Int) → Option Bool) → Option Bool
noncomputable def octet_Reader_Num.body (octet_number : T_octet_number) : T_octet_Reader_Num := fun n349 n350 b351 b352 ns353 k1 =>
  (octet_number n349 n350 b351 b352 ns353
  (fun n489 n490 b491 b492 ns493 ns494 => (k1 n489 n490 b491 b492 ns493))
  (fun n495 m496 m497 n498 b499 b500 ns501 => (k1 n495 n498 b499 b500 ns501)))
noncomputable def octet_Reader_Num : T_octet_Reader_Num := octet_Reader_Num.body octet_number
def octet_Reader_Num.p : FPat := fp 47 (ps (pq [0, 0] 0 0) (pl (pd (.int .i64)) pz)) (pl (po [0, 0] 64 4 (em (pl (pa (ps (pr [0, 1]) (pl (pd (.int .i64)) (pl (pd .bool) (pl (pd .bool) pz))))) pz))) (pl (po [0, 1] 5 1 (ed (.int .u8))) pz))
def octet_Reader_Num.g (F : T_octet_Reader_Num) (v : octet_Reader_Num.p.T) (k : KR) : Option Bool := F v.1.1 v.2.1.1.1 v.2.1.1.2.1 v.2.1.1.2.2.1 v.2.2.1 (fun y0 y1 y2 y3 y4 => k (.d ⟨(.int .i64), y0⟩) [([0, 0], ⟨64, 4, (.mix [(.agg [(.ref [0, 1]), (.d ⟨(.int .i64), y1⟩), (.d ⟨.bool, y2⟩), (.d ⟨.bool, y3⟩)])])⟩), ([0, 1], ⟨5, 1, (.data (.int .u8) y4)⟩)])
theorem octet_Reader_Num.eq (F0 : T_octet_number) : ∀ v k, exF Try.f47 octet_Reader_Num.p [⟨octet_number.p, octet_number.g F0⟩] [] [] v k = octet_Reader_Num.g (octet_Reader_Num.body F0) v k := fun v k => by kernel_rfl
theorem octet_Reader_Num.ok : okF 4 octet_Reader_Num.p (octet_Reader_Num.g octet_Reader_Num) := fn2 (octet_Reader_Num.eq octet_number) Try.func47 (by kernel_rfl) (.cons octet_number.ok .nil) [] (by kernel_rfl) .nil
/-- function 32: (*sheerleg/fun.reader).fail -/
abbrev T_fun_reader_fail : Type := Int → Int → Int → Bool → Bool → (List Int) → (Int → Int → Bool → Bool → (List Int) → Option Bool) → Option Bool
noncomputable def fun_reader_fail.body : T_fun_reader_fail := fun n512 n513 n514 b515 b516 ns517 k1 =>
  (cond_ (n513 == (0 : Int)) (k1 n512 n514 b515 b516 ns517) (k1 n513 n514 b515 b516 ns517))
noncomputable def fun_reader_fail : T_fun_reader_fail := fun_reader_fail.body
def fun_reader_fail.p : FPat := fp 32 (ps (pq [0, 0] 0 0) (pl (pd (.int .i64)) pz)) (pl (po [0, 0] 67 2 (em (pl (pa (ps (pq [0, 1] 0 0) (pl (pd (.int .i64)) pz))) pz))) (pl (po [0, 1] 64 4 (em (pl (pa (ps (pr [0, 2]) (pl (pd (.int .i64)) (pl (pd .bool) (pl (pd .bool) pz))))) pz))) (pl (po [0, 2] 5 1 (ed (.int .u8))) pz)))
def fun_reader_fail.g (F : T_fun_reader_fail) (v : fun_reader_fail.p.T) (k : KR) : Option Bool := F v.1.1 v.2.1.1.1 v.2.2.1.1.1 v.2.2.1.1.2.1 v.2.2.1.1.2.2.1 v.2.2.2.1 (fun y0 y1 y2 y3 y4 => k (.tup []) [([0, 0], ⟨67, 2, (.mix [(.agg [(.ptr [0, 1] 0 0), (.d ⟨(.int .i64), y0⟩)])])⟩), ([0, 1], ⟨64, 4, (.mix [(.agg [(.ref [0, 2]), (.d ⟨(.int .i64), y1⟩), (.d ⟨.bool, y2⟩), (.d ⟨.bool, y3⟩)])])⟩), ([0, 2], ⟨5, 1, (.data (.int .u8) y4)⟩)])
theorem fun_reader_fail.eq : ∀ v k, exF Try.f32 fun_reader_fail.p [] [] [] v k = fun_reader_fail.g (fun_reader_fail.body) v k := fun v k => by kernel_rfl
theorem fun_reader_fail.ok : okF 1 fun_reader_fail.p (fun_reader_fail.g fun_reader_fail) := fn2 (fun_reader_fail.eq) Try.func32 (by kernel_rfl) .nil [] (by kernel_rfl) .nil
/-- function 25: (*sheerleg/fun.reader).num -/
abbrev T_fun_reader_num : Type := Int → Int → Int → Bool → Bool → (List Int) → (Int → Int → Int → Bool → Bool → (List Int) → Option Bool) → Option Bool
noncomputable def fun_reader_num.body (octet_Reader_Num : T_octet_Reader_Num) (octet_Reader_Bad : T_octet_Reader_Bad) (fun_reader_fail : T_fun_reader_fail) : T_fun_reader_num := fun n343 n344 n345 b346 b347 ns348 k1 =>
  (octet_Reader_Num n343 n345 b346 b347 ns348
  (fun n502 n503 b504 b505 ns506 => (octet_Reader_Bad n503 b504 b505 ns506
  (fun b507 n508 b509 b510 ns511 => (cond_ b507 (fun_reader_fail (5 : Int) n344 n508 b509 b510 ns511
  (fun n518 n519 b520 b521 ns522 => (k1 n502 n518 n519 b520 b521 ns522))) (k1 n502 n344 n508 b509 b510 ns511))))))
noncomputable def fun_reader_num : T_fun_reader_num := fun_reader_num.body octet_Reader_Num octet_Reader_Bad fun_reader_fail
def fun_reader_num.p : FPat := fp 25 (ps (pq [0, 0] 0 0) (pl (pd (.int .i64)) pz)) (pl (po [0, 0] 67 2 (em (pl (pa (ps (pq [0, 1] 0 0) (pl (pd (.int .i64)) pz))) pz))) (pl (po [0, 1] 64 4 (em (pl (pa (ps (pr [0, 2]) (pl (pd (.int .i64)) (pl (pd .bool) (pl (pd .bool) pz))))) pz))) (pl (po [0, 2] 5 1 (ed (.int .u8))) pz)))
def fun_reader_num.g (F : T_fun_reader_num) (v : fun_reader_num.p.T) (k : KR) : Option Bool := F v.1.1 v.2.1.1.1 v.2.2.1.1.1 v.2.2.1.1.2.1 v.2.2.1.1.2.2.1 v.2.2.2.1 (fun y0 y1 y2 y3 y4 y5 => k (.d ⟨(.int .i64), y0⟩) [([0, 0], ⟨67, 2, (.mix [(.agg [(.ptr [0, 1] 0 0), (.d ⟨(.int .i64), y1⟩)])])⟩), ([0, 1], ⟨64, 4, (.mix [(.agg [(.ref [0, 2]), (.d ⟨(.int .i64), y2⟩), (.d ⟨.bool, y3⟩), (.d ⟨.bool, y4⟩)])])⟩), ([0, 2], ⟨5, 1, (.data (.int .u8) y5)⟩)])
theorem fun_reader_num.eq (F0 : T_octet_Reader_Num) (F1 : T_octet_Reader_Bad) (F2 : T_fun_reader_fail) : ∀ v k, exF Try.f25 fun_reader_num.p [⟨octet_Reader_Num.p, octet_Reader_Num.g F0⟩, ⟨octet_Reader_Bad.p, octet_Reader_Bad.g F1⟩, ⟨fun_reader_fail.p, fun_reader_fail.g F2⟩] [] [] v k = fun_reader_num.g (fun_reader_num.body F0 F1 F2) v k := fun v k => by kernel_rfl
theorem fun_reader_num.ok : okF 5 fun_reader_num.p (fun_reader_num.g fun_reader_num) := fn2 (fun_reader_num.eq octet_Reader_Num octet_Reader_Bad fun_reader_fail) Try.func25 (by kernel_rfl) (.cons octet_Reader_Num.ok (.cons octet_Reader_Bad.ok (.cons fun_reader_fail.ok .nil))) [] (by kernel_rfl) .nil
/-- function 27: sheerleg/fun.Get$1 -/
abbrev T_fun_Getfn1 : Type := Int → Int → Bool → Int → Int → (List Int) → (List (Int × Int × Unit)) → Tc0 → Int → Int → Bool → Bool → (List Int) → (Int → Int → Bool → Int → Int → (List (Int × Int × Unit)) → Tc0 → Int → Int → Bool → Bool → (List Int) → (List Int) → Option Bool) → Option Bool
noncomputable def fun_Getfn1.body (fun_reader_num : T_fun_reader_num) : T_fun_Getfn1 := fun n560 n561 b562 n563 n564 ns565 ts566 ts567 n568 n569 b570 b571 ns572 k1 =>
  (fun_reader_num (1 : Int) n568 n569 b570 b571 ns572
  (fun n573 n574 n575 b576 b577 ns578 => (cond_ (Nat.ble (((List.length ns565) + (List.length (n573 :: []))) * (8 : Nat)) (140737488355328 : Nat)) (k1 n560 n561 b562 n563 n564 ts566 ts567 n574 n575 b576 b577 ns578 (ns565 ++ (n573 :: []))) none)))
noncomputable def fun_Getfn1 : T_fun_Getfn1 := fun_Getfn1.body fun_reader_num
def fun_Getfn1.p : FPat := fp 27 (ps (pq [0, 0] 0 0) (ps (pq [0, 4] 0 0) pz)) (pl (po [0, 0] 27 9 (em (pl (pa (pl (pd (.int .i64)) (ps (pr [0, 1]) (pl (pd (.int .i64)) (pl (pd .bool) (pl (pd (.int .i64)) (pl (pd (.int .i64)) (ps (pr [0, 2]) (ps (pk 0) (ps (pr [0, 3]) pz)))))))))) pz))) (pl (po [0, 1] 3 1 (ed (.int .i64))) (pl (po [0, 2] 55 2 (ed Ty1)) (pl (po [0, 3] 60 3 (ed Ty2)) (ps (po [0, 4] 65 1 (em (ps (pq [0, 5] 0 0) pz))) (pl (po [0, 5] 67 2 (em (pl (pa (ps (pq [0, 6] 0 0) (pl (pd (.int .i64)) pz))) pz))) (pl (po [0, 6] 64 4 (em (pl (pa (ps (pr [0, 7]) (pl (pd (.int .i64)) (pl (pd .bool) (pl (pd .bool) pz))))) pz))) (pl (po [0, 7] 5 1 (ed (.int .u8))) pz))))))))
def fun_Getfn1.g (F : T_fun_Getfn1) (v : fun_Getfn1.p.T) (k : KR) : Option Bool := F v.2.1.1.1 v.2.1.1.2.1 v.2.1.1.2.2.1 v.2.1.1.2.2.2.1 v.2.1.1.2.2.2.2.1 v.2.2.1 v.2.2.2.1 v.2.2.2.2.1 v.2.2.2.2.2.1.1.1 v.2.2.2.2.2.2.1.1.1 v.2.2.2.2.2.2.1.1.2.1 v.2.2.2.2.2.2.1.1.2.2.1 v.2.2.2.2.2.2.2.1 (fun y0 y1 y2 y3 y4 y5 y6 y7 y8 y9 y10 y11 y12 => k (.tup []) [([0, 0], ⟨27, 9, (.mix [(.agg [(.d ⟨(.int .i64), y0⟩), (.ref [1, 0]), (.d ⟨(.int .i64), y1⟩), (.d ⟨.bool, y2⟩), (.d ⟨(.int .i64), y3⟩), (.d ⟨(.int .i64), y4⟩), (.ref [0, 2]), .nils, (.ref [0, 3])])])⟩), ([0, 2], ⟨55, 2, (.data Ty1 y5)⟩), ([0, 3], ⟨60, 3, (.data Ty2 y6)⟩), ([0, 4], ⟨65, 1, (.mix [(.ptr [0, 5] 0 0)])⟩), ([0, 5], ⟨67, 2, (.mix [(.agg [(.ptr [0, 6] 0 0), (.d ⟨(.int .i64), y7⟩)])])⟩), ([0, 6], ⟨64, 4, (.mix [(.agg [(.ref [0, 7]), (.d ⟨(.int .i64), y8⟩), (.d ⟨.bool, y9⟩), (.d ⟨.bool, y10⟩)])])⟩), ([0, 7], ⟨5, 1, (.data (.int .u8) y11)⟩), ([1, 0], ⟨3, 1, (.data (.int .i64) y12)⟩)])
theorem fun_Getfn1.eq (F0 : T_fun_reader_num) : ∀ v k, exF Try.f27 fun_Getfn1.p [⟨fun_reader_num.p, fun_reader_num.g F0⟩] [] [] v k = fun_Getfn1.g (fun_Getfn1.body F0) v k := fun v k => by kernel_rfl
theorem fun_Getfn1.ok : okF 6 fun_Getfn1.p (fun_Getfn1.g fun_Getfn1) := fn2 (fun_Getfn1.eq fun_reader_num) Try.func27 (by kernel_rfl) (.cons fun_reader_num.ok .nil) [] (by kernel_rfl) .nil
/-- function 26: the loop in block 0 -/
abbrev T_fun_reader_many_L0 : Type := Int → Int → Int → Int → Bool → Bool → (List Int) → Int → Int → Bool → Int → Int → (List Int) → (List (Int × Int × Unit)) → Tc0 → (Int → Int → Bool → Bool → (List Int) → Int → Int → Bool → Int → Int → (List Int) → (List (Int × Int × Unit)) → Tc0 → Option Bool) → (Int → Int → Bool → Bool → (List Int) → Int → Int → Bool → Int → Int → (List Int) → (List (Int × Int × Unit)) → Tc0 → Option Bool) → Option Bool
noncomputable def fun_reader_many_L0.body (fun_reader_many_L0 : T_fun_reader_many_L0) (fun_Getfn1 : T_fun_Getfn1) : T_fun_reader_many_L0 := fun n545 n546 n547 n548 b549 b550 ns551 n552 n553 b554 n555 n556 ns557 ts558 ts559 k1 k2 =>
  (cond_ (decide (n546 < n545)) (cond_ (n547 != (0 : Int)) (k1 n547 n548 b549 b550 ns551 n552 n553 b554 n555 n556 ns557 ts558 ts559) (fun_Getfn1 n552 n553 b554 n555 n556 ns557 ts558 ts559 n547 n548 b549 b550 ns551
  (fun n579 n580 b581 n582 n583 ts584 ts585 n586 n587 b588 b589 ns590 ns591 => (fun_reader_many_L0 n545 (IntKind.wrap .i64 (n546 + (1 : Int))) n586 n587 b588 b589 ns590 n579 n580 b581 n582 n583 ns591 ts584 ts585 k1 k2)))) (k2 n547 n548 b549 b550 ns551 n552 n553 b554 n555 n556 ns557 ts558 ts559))
noncomputable def fun_reader_many_L0 : Nat → T_fun_reader_many_L0
  | 0 => fun _ _ _ _ _ _ _ _ _ _ _ _ _ _ _ _ _ => none
  | n + 1 => fun_reader_many_L0.body (fun_reader_many_L0 n) fun_Getfn1
def fun_reader_many_L0.p : LPat := lp 2 16 [0, 1, 5, 6] (ps (pq [0, 0] 0 0) (pl (pf 27 pz (ps (pq [0, 3] 0 0) (ps (pq [0, 4] 0 0) pz))) (pl (pd (.int .i64)) (pl (pd (.int .i64)) pz)))) (pl (po [0, 0] 67 2 (em (pl (pa (ps (pq [0, 1] 0 0) (pl (pd (.int .i64)) pz))) pz))) (pl (po [0, 1] 64 4 (em (pl (pa (ps (pr [0, 2]) (pl (pd (.int .i64)) (pl (pd .bool) (pl (pd .bool) pz))))) pz))) (pl (po [0, 2] 5 1 (ed (.int .u8))) (pl (po [0, 3] 27 9 (em (pl (pa (pl (pd (.int .i64)) (ps (pr [1, 0]) (pl (pd (.int .i64)) (pl (pd .bool) (pl (pd (.int .i64)) (pl (pd (.int .i64)) (ps (pr [1, 1]) (ps (pk 0) (ps (pr [1, 2]) pz)))))))))) pz))) (ps (po [0, 4] 65 1 (em (ps (pq [0, 0] 0 0) pz))) (pl (po [1, 0] 3 1 (ed (.int .i64))) (pl (po [1, 1] 55 2 (ed Ty1)) (pl (po [1, 2] 60 3 (ed Ty2)) pz))))))))
def fun_reader_many_L0.g (F : T_fun_reader_many_L0) (v : fun_reader_many_L0.p.T) (k : KE) : Option Bool := F v.1.2.1 v.1.2.2.1 v.2.1.1.1 v.2.2.1.1.1 v.2.2.1.1.2.1 v.2.2.1.1.2.2.1 v.2.2.2.1 v.2.2.2.2.1.1.1 v.2.2.2.2.1.1.2.1 v.2.2.2.2.1.1.2.2.1 v.2.2.2.2.1.1.2.2.2.1 v.2.2.2.2.1.1.2.2.2.2.1 v.2.2.2.2.2.1 v.2.2.2.2.2.2.1 v.2.2.2.2.2.2.2.1 (fun y0 y1 y2 y3 y4 y5 y6 y7 y8 y9 y10 y11 y12 => k .ret ⟨fillS 16 [] [], [([0, 0], ⟨67, 2, (.mix [(.agg [(.ptr [0, 1] 0 0), (.d ⟨(.int .i64), y0⟩)])])⟩), ([0, 1], ⟨64, 4, (.mix [(.agg [(.ref [0, 2]), (.d ⟨(.int .i64), y1⟩), (.d ⟨.bool, y2⟩), (.d ⟨.bool, y3⟩)])])⟩), ([0, 2], ⟨5, 1, (.data (.int .u8) y4)⟩), ([0, 3], ⟨27, 9, (.mix [(.agg [(.d ⟨(.int .i64), y5⟩), (.ref [1, 0]), (.d ⟨(.int .i64), y6⟩), (.d ⟨.bool, y7⟩), (.d ⟨(.int .i64), y8⟩), (.d ⟨(.int .i64), y9⟩), (.ref [1, 1]), .nils, (.ref [1, 2])])])⟩), ([0, 4], ⟨65, 1, (.mix [(.ptr [0, 0] 0 0)])⟩), ([1, 0], ⟨3, 1, (.data (.int .i64) y10)⟩), ([1, 1], ⟨55, 2, (.data Ty1 y11)⟩), ([1, 2], ⟨60, 3, (.data Ty2 y12)⟩)], 2⟩) (fun y0 y1 y2 y3 y4 y5 y6 y7 y8 y9 y10 y11 y12 => k (.exit 0) ⟨fillS 16 [] [], [([0, 0], ⟨67, 2, (.mix [(.agg [(.ptr [0, 1] 0 0), (.d ⟨(.int .i64), y0⟩)])])⟩), ([0, 1], ⟨64, 4, (.mix [(.agg [(.ref [0, 2]), (.d ⟨(.int .i64), y1⟩), (.d ⟨.bool, y2⟩), (.d ⟨.bool, y3⟩)])])⟩), ([0, 2], ⟨5, 1, (.data (.int .u8) y4)⟩), ([0, 3], ⟨27, 9, (.mix [(.agg [(.d ⟨(.int .i64), y5⟩), (.ref [1, 0]), (.d ⟨(.int .i64), y6⟩), (.d ⟨.bool, y7⟩), (.d ⟨(.int .i64), y8⟩), (.d ⟨(.int .i64), y9⟩), (.ref [1, 1]), .nils, (.ref [1, 2])])])⟩), ([0, 4], ⟨65, 1, (.mix [(.ptr [0, 0] 0 0)])⟩), ([1, 0], ⟨3, 1, (.data (.int .i64) y10)⟩), ([1, 1], ⟨55, 2, (.data Ty1 y11)⟩), ([1, 2], ⟨60, 3, (.data Ty2 y12)⟩)], 2⟩)
theorem fun_reader_many_L0.step (S : T_fun_reader_many_L0) (F0 : T_fun_Getfn1) : ∀ v k, exR 26 Try.f26 0 fun_reader_many_L0.p [⟨fun_Getfn1.p, fun_Getfn1.g F0⟩] [] [] (fun_reader_many_L0.g S) v k = fun_reader_many_L0.g (fun_reader_many_L0.body S F0) v k := fun v k => by kernel_rfl
theorem fun_reader_many_L0.ok : okL 26 Try.f26 6 0 fun_reader_many_L0.p (fun_reader_many_L0.g (fun_reader_many_L0 ROUNDS)) := loop2 (G := fun n => fun_reader_many_L0.g (fun_reader_many_L0 n)) (fun n => fun_reader_many_L0.step (fun_reader_many_L0 n) fun_Getfn1) (.cons fun_Getfn1.ok .nil) [] (by kernel_rfl) .nil (fun _ _ => rfl)
/-- function 26: (*sheerleg/fun.reader).many -/
abbrev T_fun_reader_many : Type := Int → Int → Bool → Bool → (List Int) → Int → Int → Bool → Int → Int → (Int → Int → Bool → Bool → (List Int) → Int → Int → Bool → Int → Int → (List Int) → (List (Int × Int × Unit)) → Tc0 → Option Bool) → Option Bool
noncomputable def fun_reader_many.body (fun_reader_num : T_fun_reader_num) (fun_reader_many_L0 : T_fun_reader_many_L0) : T_fun_reader_many := fun n529 n530 b531 b532 ns533 n534 n535 b536 n537 n538 k1 =>
  (fun_reader_num (1 : Int) n529 n530 b531 b532 ns533
  (fun n539 n540 n541 b542 b543 ns544 => (fun_reader_many_L0 n539 (0 : Int) n540 n541 b542 b543 ns544 n534 n535 b536 n537 n538 [] [] []
  (fun n592 n593 b594 b595 ns596 n597 n598 b599 n600 n601 ns602 ts603 ts604 => (k1 n592 n593 b594 b595 ns596 n597 n598 b599 n600 n601 ns602 ts603 ts604))
  (fun n605 n606 b607 b608 ns609 n610 n611 b612 n613 n614 ns615 ts616 ts617 => (k1 n605 n606 b607 b608 ns609 n610 n611 b612 n613 n614 ns615 ts616 ts617)))))
noncomputable def fun_reader_many : T_fun_reader_many := fun_reader_many.body fun_reader_num (fun_reader_many_L0 ROUNDS)
def fun_reader_many.p : FPat := fp 26 (ps (pq [0, 0] 0 0) (pl (pf 27 pz (ps (pq [0, 3] 0 0) (ps (pq [0, 4] 0 0) pz))) pz)) (pl (po [0, 0] 67 2 (em (pl (pa (ps (pq [0, 1] 0 0) (pl (pd (.int .i64)) pz))) pz))) (pl (po [0, 1] 64 4 (em (pl (pa (ps (pr [0, 2]) (pl (pd (.int .i64)) (pl (pd .bool) (pl (pd .bool) pz))))) pz))) (pl (po [0, 2] 5 1 (ed (.int .u8))) (pl (po [0, 3] 27 9 (em (pl (pa (pl (pd (.int .i64)) (ps (pk 0) (pl (pd (.int .i64)) (pl (pd .bool) (pl (pd (.int .i64)) (pl (pd (.int .i64)) (ps (pk 0) (ps (pk 0) (ps (pk 0) pz)))))))))) pz))) (ps (po [0, 4] 65 1 (em (ps (pq [0, 0] 0 0) pz))) pz)))))
def fun_reader_many.g (F : T_fun_reader_many) (v : fun_reader_many.p.T) (k : KR) : Option Bool := F v.2.1.1.1 v.2.2.1.1.1 v.2.2.1.1.2.1 v.2.2.1.1.2.2.1 v.2.2.2.1 v.2.2.2.2.1.1.1 v.2.2.2.2.1.1.2.1 v.2.2.2.2.1.1.2.2.1 v.2.2.2.2.1.1.2.2.2.1 v.2.2.2.2.1.1.2.2.2.2.1 (fun y0 y1 y2 y3 y4 y5 y6 y7 y8 y9 y10 y11 y12 => k (.tup []) [([0, 0], ⟨67, 2, (.mix [(.agg [(.ptr [0, 1] 0 0), (.d ⟨(.int .i64), y0⟩)])])⟩), ([0, 1], ⟨64, 4, (.mix [(.agg [(.ref [0, 2]), (.d ⟨(.int .i64), y1⟩), (.d ⟨.bool, y2⟩), (.d ⟨.bool, y3⟩)])])⟩), ([0, 2], ⟨5, 1, (.data (.int .u8) y4)⟩), ([0, 3], ⟨27, 9, (.mix [(.agg [(.d ⟨(.int .i64), y5⟩), (.ref [1, 0]), (.d ⟨(.int .i64), y6⟩), (.d ⟨.bool, y7⟩), (.d ⟨(.int .i64), y8⟩), (.d ⟨(.int .i64), y9⟩), (.ref [1, 1]), .nils, (.ref [1, 2])])])⟩), ([0, 4], ⟨65, 1, (.mix [(.ptr [0, 0] 0 0)])⟩), ([1, 0], ⟨3, 1, (.data (.int .i64) y10)⟩), ([1, 1], ⟨55, 2, (.data Ty1 y11)⟩), ([1, 2], ⟨60, 3, (.data Ty2 y12)⟩)])
theorem fun_reader_many.eq (F0 : T_fun_reader_num) (L0 : T_fun_reader_many_L0) : ∀ v k, exF Try.f26 fun_reader_many.p [⟨fun_reader_num.p, fun_reader_num.g F0⟩] [] [⟨0, fun_reader_many_L0.p, fun_reader_many_L0.g L0⟩] v k = fun_reader_many.g (fun_reader_many.body F0 L0) v k := fun v k => by kernel_rfl
theorem fun_reader_many.ok : okF 7 fun_reader_many.p (fun_reader_many.g fun_reader_many) := fn2 (fun_reader_many.eq fun_reader_num (fun_reader_many_L0 ROUNDS)) Try.func26 (by kernel_rfl) (.cons fun_reader_num.ok .nil) [0] (by kernel_rfl) (.cons fun_reader_many_L0.ok .nil)
/-- function 28: (*sheerleg/fun.reader).yes -/
abbrev T_fun_reader_yes : Type := Int → Int → Bool → Bool → (List Int) → (Bool → Int → Int → Bool → Bool → (List Int) → Option Bool) → Option Bool
noncomputable def fun_reader_yes.body (fun_reader_num : T_fun_reader_num) (fun_reader_fail : T_fun_reader_fail) : T_fun_reader_yes := fun n637 n638 b639 b640 ns641 k1 =>
  (fun_reader_num (1 : Int) n637 n638 b639 b640 ns641
  (fun n642 n643 n644 b645 b646 ns647 => (cond_ (decide (n642 > (1 : Int))) (fun_reader_fail (3 : Int) n643 n644 b645 b646 ns647
  (fun n648 n649 b650 b651 ns652 => (k1 (n642 == (1 : Int)) n648 n649 b650 b651 ns652))) (k1 (n642 == (1 : Int)) n643 n644 b645 b646 ns647))))
noncomputable def fun_reader_yes : T_fun_reader_yes := fun_reader_yes.body fun_reader_num fun_reader_fail
def fun_reader_yes.p : FPat := fp 28 (ps (pq [0, 0] 0 0) pz) (pl (po [0, 0] 67 2 (em (pl (pa (ps (pq [0, 1] 0 0) (pl (pd (.int .i64)) pz))) pz))) (pl (po [0, 1] 64 4 (em (pl (pa (ps (pr [0, 2]) (pl (pd (.int .i64)) (pl (pd .bool) (pl (pd .bool) pz))))) pz))) (pl (po [0, 2] 5 1 (ed (.int .u8))) pz)))
def fun_reader_yes.g (F : T_fun_reader_yes) (v : fun_reader_yes.p.T) (k : KR) : Option Bool := F v.2.1.1.1 v.2.2.1.1.1 v.2.2.1.1.2.1 v.2.2.1.1.2.2.1 v.2.2.2.1 (fun y0 y1 y2 y3 y4 y5 => k (.d ⟨.bool, y0⟩) [([0, 0], ⟨67, 2, (.mix [(.agg [(.ptr [0, 1] 0 0), (.d ⟨(.int .i64), y1⟩)])])⟩), ([0, 1], ⟨64, 4, (.mix [(.agg [(.ref [0, 2]), (.d ⟨(.int .i64), y2⟩), (.d ⟨.bool, y3⟩), (.d ⟨.bool, y4⟩)])])⟩), ([0, 2], ⟨5, 1, (.data (.int .u8) y5)⟩)])
theorem fun_reader_yes.eq (F0 : T_fun_reader_num) (F1 : T_fun_reader_fail) : ∀ v k, exF Try.f28 fun_reader_yes.p [⟨fun_reader_num.p, fun_reader_num.g F0⟩, ⟨fun_reader_fail.p, fun_reader_fail.g F1⟩] [] [] v k = fun_reader_yes.g (fun_reader_yes.body F0 F1) v k := fun v k => by kernel_rfl
theorem fun_reader_yes.ok : okF 6 fun_reader_yes.p (fun_reader_yes.g fun_reader_yes) := fn2 (fun_reader_yes.eq fun_reader_num fun_reader_fail) Try.func28 (by kernel_rfl) (.cons fun_reader_num.ok (.cons fun_reader_fail.ok .nil)) [] (by kernel_rfl) .nil
/-- function 29: sheerleg/fun.Get$2 -/
abbrev T_fun_Getfn2 : Type := Int → Int → Bool → Int → Int → (List Int) → (List (Int × Int × Unit)) → Tc0 → Int → Int → Bool → Bool → (List Int) → (Int → Int → Bool → Int → Int → (List Int) → Tc0 → Int → Int → Bool → Bool → (List Int) → (List (Int × Int × Unit)) → Option Bool) → Option Bool
noncomputable def fun_Getfn2.body (fun_reader_num : T_fun_reader_num) : T_fun_Getfn2 := fun n705 n706 b707 n708 n709 ns710 ts711 ts712 n713 n714 b715 b716 ns717 k1 =>
  (fun_reader_num (1 : Int) n713 n714 b715 b716 ns717
  (fun n718 n719 n720 b721 b722 ns723 => (fun_reader_num (2 : Int) n719 n720 b721 b722 ns723
  (fun n724 n725 n726 b727 b728 ns729 => (cond_ (Nat.ble (((List.length ts711) + (List.length ((n718, (n724, ())) :: []))) * (16 : Nat)) (140737488355328 : Nat)) (k1 n705 n706 b707 n708 n709 ns710 ts712 n725 n726 b727 b728 ns729 (ts711 ++ ((n718, (n724, ())) :: []))) none)))))
noncomputable def fun_Getfn2 : T_fun_Getfn2 := fun_Getfn2.body fun_reader_num
def fun_Getfn2.p : FPat := fp 29 (ps (pq [0, 0] 0 0) (ps (pq [0, 4] 0 0) pz)) (pl (po [0, 0] 27 9 (em (pl (pa (pl (pd (.int .i64)) (ps (pr [0, 1]) (pl (pd (.int .i64)) (pl (pd .bool) (pl (pd (.int .i64)) (pl (pd (.int .i64)) (ps (pr [0, 2]) (ps (pk 0) (ps (pr [0, 3]) pz)))))))))) pz))) (pl (po [0, 1] 3 1 (ed (.int .i64))) (pl (po [0, 2] 55 2 (ed Ty1)) (pl (po [0, 3] 60 3 (ed Ty2)) (ps (po [0, 4] 65 1 (em (ps (pq [0, 5] 0 0) pz))) (pl (po [0, 5] 67 2 (em (pl (pa (ps (pq [0, 6] 0 0) (pl (pd (.int .i64)) pz))) pz))) (pl (po [0, 6] 64 4 (em (pl (pa (ps (pr [0, 7]) (pl (pd (.int .i64)) (pl (pd .bool) (pl (pd .bool) pz))))) pz))) (pl (po [0, 7] 5 1 (ed (.int .u8))) pz))))))))
def fun_Getfn2.g (F : T_fun_Getfn2) (v : fun_Getfn2.p.T) (k : KR) : Option Bool := F v.2.1.1.1 v.2.1.1.2.1 v.2.1.1.2.2.1 v.2.1.1.2.2.2.1 v.2.1.1.2.2.2.2.1 v.2.2.1 v.2.2.2.1 v.2.2.2.2.1 v.2.2.2.2.2.1.1.1 v.2.2.2.2.2.2.1.1.1 v.2.2.2.2.2.2.1.1.2.1 v.2.2.2.2.2.2.1.1.2.2.1 v.2.2.2.2.2.2.2.1 (fun y0 y1 y2 y3 y4 y5 y6 y7 y8 y9 y10 y11 y12 => k (.tup []) [([0, 0], ⟨27, 9, (.mix [(.agg [(.d ⟨(.int .i64), y0⟩), (.ref [0, 1]), (.d ⟨(.int .i64), y1⟩), (.d ⟨.bool, y2⟩), (.d ⟨(.int .i64), y3⟩), (.d ⟨(.int .i64), y4⟩), (.ref [1, 0]), .nils, (.ref [0, 3])])])⟩), ([0, 1], ⟨3, 1, (.data (.int .i64) y5)⟩), ([0, 3], ⟨60, 3, (.data Ty2 y6)⟩), ([0, 4], ⟨65, 1, (.mix [(.ptr [0, 5] 0 0)])⟩), ([0, 5], ⟨67, 2, (.mix [(.agg [(.ptr [0, 6] 0 0), (.d ⟨(.int .i64), y7⟩)])])⟩), ([0, 6], ⟨64, 4, (.mix [(.agg [(.ref [0, 7]), (.d ⟨(.int .i64), y8⟩), (.d ⟨.bool, y9⟩), (.d ⟨.bool, y10⟩)])])⟩), ([0, 7], ⟨5, 1, (.data (.int .u8) y11)⟩), ([1, 0], ⟨55, 2, (.data Ty1 y12)⟩)])
theorem fun_Getfn2.eq (F0 : T_fun_reader_num) : ∀ v k, exF Try.f29 fun_Getfn2.p [⟨fun_reader_num.p, fun_reader_num.g F0⟩] [] [] v k = fun_Getfn2.g (fun_Getfn2.body F0) v k := fun v k => by kernel_rfl
theorem fun_Getfn2.ok : okF 6 fun_Getfn2.p (fun_Getfn2.g fun_Getfn2) := fn2 (fun_Getfn2.eq fun_reader_num) Try.func29 (by kernel_rfl) (.cons fun_reader_num.ok .nil) [] (by kernel_rfl) .nil
/-- function 26: the loop in block 0 -/
abbrev T_fun_reader_manyv1_L0 : Type := Int → Int → Int → Int → Bool → Bool → (List Int) → Int → Int → Bool → Int → Int → (List Int) → (List (Int × Int × Unit)) → Tc0 → (Int → Int → Bool → Bool → (List Int) → Int → Int → Bool → Int → Int → (List Int) → (List (Int × Int × Unit)) → Tc0 → Option Bool) → (Int → Int → Bool → Bool → (List Int) → Int → Int → Bool → Int → Int → (List Int) → (List (Int × Int × Unit)) → Tc0 → Option Bool) → Option Bool
noncomputable def fun_reader_manyv1_L0.body (fun_reader_manyv1_L0 : T_fun_reader_manyv1_L0) (fun_Getfn2 : T_fun_Getfn2) : T_fun_reader_manyv1_L0 := fun n690 n691 n692 n693 b694 b695 ns696 n697 n698 b699 n700 n701 ns702 ts703 ts704 k1 k2 =>
  (cond_ (decide (n691 < n690)) (cond_ (n692 != (0 : Int)) (k1 n692 n693 b694 b695 ns696 n697 n698 b699 n700 n701 ns702 ts703 ts704) (fun_Getfn2 n697 n698 b699 n700 n701 ns702 ts703 ts704 n692 n693 b694 b695 ns696
  (fun n730 n731 b732 n733 n734 ns735 ts736 n737 n738 b739 b740 ns741 ts742 => (fun_reader_manyv1_L0 n690 (IntKind.wrap .i64 (n691 + (1 : Int))) n737 n738 b739 b740 ns741 n730 n731 b732 n733 n734 ns735 ts742 ts736 k1 k2)))) (k2 n692 n693 b694 b695 ns696 n697 n698 b699 n700 n701 ns702 ts703 ts704))
noncomputable def fun_reader_manyv1_L0 : Nat → T_fun_reader_manyv1_L0
  | 0 => fun _ _ _ _ _ _ _ _ _ _ _ _ _ _ _ _ _ => none
  | n + 1 => fun_reader_manyv1_L0.body (fun_reader_manyv1_L0 n) fun_Getfn2
def fun_reader_manyv1_L0.p : LPat := lp 2 16 [0, 1, 5, 6] (ps (pq [0, 0] 0 0) (pl (pf 29 pz (ps (pq [0, 3] 0 0) (ps (pq [0, 7] 0 0) pz))) (pl (pd (.int .i64)) (pl (pd (.int .i64)) pz)))) (pl (po [0, 0] 67 2 (em (pl (pa (ps (pq [0, 1] 0 0) (pl (pd (.int .i64)) pz))) pz))) (pl (po [0, 1] 64 4 (em (pl (pa (ps (pr [0, 2]) (pl (pd (.int .i64)) (pl (pd .bool) (pl (pd .bool) pz))))) pz))) (pl (po [0, 2] 5 1 (ed (.int .u8))) (pl (po [0, 3] 27 9 (em (pl (pa (pl (pd (.int .i64)) (ps (pr [0, 4]) (pl (pd (.int .i64)) (pl (pd .bool) (pl (pd (.int .i64)) (pl (pd (.int .i64)) (ps (pr [1, 0]) (ps (pk 0) (ps (pr [1, 1]) pz)))))))))) pz))) (pl (po [0, 4] 3 1 (ed (.int .i64))) (ps (po [0, 7] 65 1 (em (ps (pq [0, 0] 0 0) pz))) (pl (po [1, 0] 55 2 (ed Ty1)) (pl (po [1, 1] 60 3 (ed Ty2)) pz))))))))
def fun_reader_manyv1_L0.g (F : T_fun_reader_manyv1_L0) (v : fun_reader_manyv1_L0.p.T) (k : KE) : Option Bool := F v.1.2.1 v.1.2.2.1 v.2.1.1.1 v.2.2.1.1.1 v.2.2.1.1.2.1 v.2.2.1.1.2.2.1 v.2.2.2.1 v.2.2.2.2.1.1.1 v.2.2.2.2.1.1.2.1 v.2.2.2.2.1.1.2.2.1 v.2.2.2.2.1.1.2.2.2.1 v.2.2.2.2.1.1.2.2.2.2.1 v.2.2.2.2.2.1 v.2.2.2.2.2.2.1 v.2.2.2.2.2.2.2.1 (fun y0 y1 y2 y3 y4 y5 y6 y7 y8 y9 y10 y11 y12 => k .ret ⟨fillS 16 [] [], [([0, 0], ⟨67, 2, (.mix [(.agg [(.ptr [0, 1] 0 0), (.d ⟨(.int .i64), y0⟩)])])⟩), ([0, 1], ⟨64, 4, (.mix [(.agg [(.ref [0, 2]), (.d ⟨(.int .i64), y1⟩), (.d ⟨.bool, y2⟩), (.d ⟨.bool, y3⟩)])])⟩), ([0, 2], ⟨5, 1, (.data (.int .u8) y4)⟩), ([0, 3], ⟨27, 9, (.mix [(.agg [(.d ⟨(.int .i64), y5⟩), (.ref [0, 4]), (.d ⟨(.int .i64), y6⟩), (.d ⟨.bool, y7⟩), (.d ⟨(.int .i64), y8⟩), (.d ⟨(.int .i64), y9⟩), (.ref [1, 0]), .nils, (.ref [1, 1])])])⟩), ([0, 4], ⟨3, 1, (.data (.int .i64) y10)⟩), ([0, 7], ⟨65, 1, (.mix [(.ptr [0, 0] 0 0)])⟩), ([1, 0], ⟨55, 2, (.data Ty1 y11)⟩), ([1, 1], ⟨60, 3, (.data Ty2 y12)⟩)], 2⟩) (fun y0 y1 y2 y3 y4 y5 y6 y7 y8 y9 y10 y11 y12 => k (.exit 0) ⟨fillS 16 [] [], [([0, 0], ⟨67, 2, (.mix [(.agg [(.ptr [0, 1] 0 0), (.d ⟨(.int .i64), y0⟩)])])⟩), ([0, 1], ⟨64, 4, (.mix [(.agg [(.ref [0, 2]), (.d ⟨(.int .i64), y1⟩), (.d ⟨.bool, y2⟩), (.d ⟨.bool, y3⟩)])])⟩), ([0, 2], ⟨5, 1, (.data (.int .u8) y4)⟩), ([0, 3], ⟨27, 9, (.mix [(.agg [(.d ⟨(.int .i64), y5⟩), (.ref [0, 4]), (.d ⟨(.int .i64), y6⟩), (.d ⟨.bool, y7⟩), (.d ⟨(.int .i64), y8⟩), (.d ⟨(.int .i64), y9⟩), (.ref [1, 0]), .nils, (.ref [1, 1])])])⟩), ([0, 4], ⟨3, 1, (.data (.int .i64) y10)⟩), ([0, 7], ⟨65, 1, (.mix [(.ptr [0, 0] 0 0)])⟩), ([1, 0], ⟨55, 2, (.data Ty1 y11)⟩), ([1, 1], ⟨60, 3, (.data Ty2 y12)⟩)], 2⟩)
theorem fun_reader_manyv1_L0.step (S : T_fun_reader_manyv1_L0) (F0 : T_fun_Getfn2) : ∀ v k, exR 26 Try.f26 0 fun_reader_manyv1_L0.p [⟨fun_Getfn2.p, fun_Getfn2.g F0⟩] [] [] (fun_reader_manyv1_L0.g S) v k = fun_reader_manyv1_L0.g (fun_reader_manyv1_L0.body S F0) v k := fun v k => by kernel_rfl
theorem fun_reader_manyv1_L0.ok : okL 26 Try.f26 6 0 fun_reader_manyv1_L0.p (fun_reader_manyv1_L0.g (fun_reader_manyv1_L0 ROUNDS)) := loop2 (G := fun n => fun_reader_manyv1_L0.g (fun_reader_manyv1_L0 n)) (fun n => fun_reader_manyv1_L0.step (fun_reader_manyv1_L0 n) fun_Getfn2) (.cons fun_Getfn2.ok .nil) [] (by kernel_rfl) .nil (fun _ _ => rfl)
/-- function 26: (*sheerleg/fun.reader).many -/
abbrev T_fun_reader_manyv1 : Type := Int → Int → Bool → Bool → (List Int) → Int → Int → Bool → Int → Int → (List Int) → (List (Int × Int × Unit)) → Tc0 → (Int → Int → Bool → Bool → (List Int) → Int → Int → Bool → Int → Int → (List Int) → (List (Int × Int × Unit)) → Tc0 → Option Bool) → Option Bool
noncomputable def fun_reader_manyv1.body (fun_reader_num : T_fun_reader_num) (fun_reader_manyv1_L0 : T_fun_reader_manyv1_L0) : T_fun_reader_manyv1 := fun n671 n672 b673 b674 ns675 n676 n677 b678 n679 n680 ns681 ts682 ts683 k1 =>
  (fun_reader_num (1 : Int) n671 n672 b673 b674 ns675
  (fun n684 n685 n686 b687 b688 ns689 => (fun_reader_manyv1_L0 n684 (0 : Int) n685 n686 b687 b688 ns689 n676 n677 b678 n679 n680 ns681 ts682 ts683
  (fun n743 n744 b745 b746 ns747 n748 n749 b750 n751 n752 ns753 ts754 ts755 => (k1 n743 n744 b745 b746 ns747 n748 n749 b750 n751 n752 ns753 ts754 ts755))
  (fun n756 n757 b758 b759 ns760 n761 n762 b763 n764 n765 ns766 ts767 ts768 => (k1 n756 n757 b758 b759 ns760 n761 n762 b763 n764 n765 ns766 ts767 ts768)))))
noncomputable def fun_reader_manyv1 : T_fun_reader_manyv1 := fun_reader_manyv1.body fun_reader_num (fun_reader_manyv1_L0 ROUNDS)
def fun_reader_manyv1.p : FPat := fp 26 (ps (pq [0, 0] 0 0) (pl (pf 29 pz (ps (pq [0, 3] 0 0) (ps (pq [0, 7] 0 0) pz))) pz)) (pl (po [0, 0] 67 2 (em (pl (pa (ps (pq [0, 1] 0 0) (pl (pd (.int .i64)) pz))) pz))) (pl (po [0, 1] 64 4 (em (pl (pa (ps (pr [0, 2]) (pl (pd (.int .i64)) (pl (pd .bool) (pl (pd .bool) pz))))) pz))) (pl (po [0, 2] 5 1 (ed (.int .u8))) (pl (po [0, 3] 27 9 (em (pl (pa (pl (pd (.int .i64)) (ps (pr [0, 4]) (pl (pd (.int .i64)) (pl (pd .bool) (pl (pd (.int .i64)) (pl (pd (.int .i64)) (ps (pr [0, 5]) (ps (pk 0) (ps (pr [0, 6]) pz)))))))))) pz))) (pl (po [0, 4] 3 1 (ed (.int .i64))) (pl (po [0, 5] 55 2 (ed Ty1)) (pl (po [0, 6] 60 3 (ed Ty2)) (ps (po [0, 7] 65 1 (em (ps (pq [0, 0] 0 0) pz))) pz))))))))
def fun_reader_manyv1.g (F : T_fun_reader_manyv1) (v : fun_reader_manyv1.p.T) (k : KR) : Option Bool := F v.2.1.1.1 v.2.2.1.1.1 v.2.2.1.1.2.1 v.2.2.1.1.2.2.1 v.2.2.2.1 v.2.2.2.2.1.1.1 v.2.2.2.2.1.1.2.1 v.2.2.2.2.1.1.2.2.1 v.2.2.2.2.1.1.2.2.2.1 v.2.2.2.2.1.1.2.2.2.2.1 v.2.2.2.2.2.1 v.2.2.2.2.2.2.1 v.2.2.2.2.2.2.2.1 (fun y0 y1 y2 y3 y4 y5 y6 y7 y8 y9 y10 y11 y12 => k (.tup []) [([0, 0], ⟨67, 2, (.mix [(.agg [(.ptr [0, 1] 0 0), (.d ⟨(.int .i64), y0⟩)])])⟩), ([0, 1], ⟨64, 4, (.mix [(.agg [(.ref [0, 2]), (.d ⟨(.int .i64), y1⟩), (.d ⟨.bool, y2⟩), (.d ⟨.bool, y3⟩)])])⟩), ([0, 2], ⟨5, 1, (.data (.int .u8) y4)⟩), ([0, 3], ⟨27, 9, (.mix [(.agg [(.d ⟨(.int .i64), y5⟩), (.ref [0, 4]), (.d ⟨(.int .i64), y6⟩), (.d ⟨.bool, y7⟩), (.d ⟨(.int .i64), y8⟩), (.d ⟨(.int .i64), y9⟩), (.ref [1, 0]), .nils, (.ref [1, 1])])])⟩), ([0, 4], ⟨3, 1, (.data (.int .i64) y10)⟩), ([0, 7], ⟨65, 1, (.mix [(.ptr [0, 0] 0 0)])⟩), ([1, 0], ⟨55, 2, (.data Ty1 y11)⟩), ([1, 1], ⟨60, 3, (.data Ty2 y12)⟩)])
theorem fun_reader_manyv1.eq (F0 : T_fun_reader_num) (L0 : T_fun_reader_manyv1_L0) : ∀ v k, exF Try.f26 fun_reader_manyv1.p [⟨fun_reader_num.p, fun_reader_num.g F0⟩] [] [⟨0, fun_reader_manyv1_L0.p, fun_reader_manyv1_L0.g L0⟩] v k = fun_reader_manyv1.g (fun_reader_manyv1.body F0 L0) v k := fun v k => by kernel_rfl
theorem fun_reader_manyv1.ok : okF 7 fun_reader_manyv1.p (fun_reader_manyv1.g fun_reader_manyv1) := fn2 (fun_reader_manyv1.eq fun_reader_num (fun_reader_manyv1_L0 ROUNDS)) Try.func26 (by kernel_rfl) (.cons fun_reader_num.ok .nil) [0] (by kernel_rfl) (.cons fun_reader_manyv1_L0.ok .nil)
/-- function 50: sheerleg/instr.read -/
abbrev T_instr_read : Type := Int → Int → Bool → Bool → (List Int) → (Int → Int → Bool → Bool → (List Int) → Option Bool) → Option Bool
noncomputable def instr_read.body (octet_Reader_Num : T_octet_Reader_Num) : T_instr_read := fun n860 n861 b862 b863 ns864 k1 =>
  (octet_Reader_Num n860 n861 b862 b863 ns864
  (fun n865 n866 b867 b868 ns869 => (k1 n865 n866 b867 b868 ns869)))
noncomputable def instr_read : T_instr_read := instr_read.body octet_Reader_Num
def instr_read.p : FPat := fp 50 (ps (pq [0, 0] 0 0) (pl (pd (.int .i64)) (pl (pf 47 pz pz) pz))) (pl (po [0, 0] 64 4 (em (pl (pa (ps (pr [0, 1]) (pl (pd (.int .i64)) (pl (pd .bool) (pl (pd .bool) pz))))) pz))) (pl (po [0, 1] 5 1 (ed (.int .u8))) pz))
def instr_read.g (F : T_instr_read) (v : instr_read.p.T) (k : KR) : Option Bool := F v.1.1 v.2.1.1.1 v.2.1.1.2.1 v.2.1.1.2.2.1 v.2.2.1 (fun y0 y1 y2 y3 y4 => k (.d ⟨(.int .i64), y0⟩) [([0, 0], ⟨64, 4, (.mix [(.agg [(.ref [0, 1]), (.d ⟨(.int .i64), y1⟩), (.d ⟨.bool, y2⟩), (.d ⟨.bool, y3⟩)])])⟩), ([0, 1], ⟨5, 1, (.data (.int .u8) y4)⟩)])
theorem instr_read.eq (F0 : T_octet_Reader_Num) : ∀ v k, exF Try.f50 instr_read.p [⟨octet_Reader_Num.p, octet_Reader_Num.g F0⟩] [] [] v k = instr_read.g (instr_read.body F0) v k := fun v k => by kernel_rfl
theorem instr_read.ok : okF 5 instr_read.p (instr_read.g instr_read) := fn2 (instr_read.eq octet_Reader_Num) Try.func50 (by kernel_rfl) (.cons octet_Reader_Num.ok .nil) [] (by kernel_rfl) .nil
/-- function 51: (*sheerleg/octet.Reader).Signed -/
abbrev T_octet_Reader_Signed : Type := Int → Int → Bool → Bool → (List Int) → (Int → Int → Bool → Bool → (List Int) → Option Bool) → Option Bool
noncomputable def octet_Reader_Signed.body (octet_number : T_octet_number) : T_octet_Reader_Signed := fun n1039 n1040 b1041 b1042 ns1043 k1 =>
  (octet_number n1039 n1040 b1041 b1042 ns1043
  (fun n1044 n1045 b1046 b1047 ns1048 ns1049 => (cond_ ((List.length ns1049 : Int) == (0 : Int)) (k1 (0 : Int) n1045 b1046 b1047 ns1048) (cond_ (decide ((0 : Int) ≤ (IntKind.wrap .u64 ((8 : Int) * (IntKind.wrap .u64 (IntKind.wrap .i64 ((8 : Int) - (List.length ns1049 : Int)))))))) (cond_ (decide ((0 : Int) ≤ (IntKind.wrap .u64 ((8 : Int) * (IntKind.wrap .u64 (IntKind.wrap .i64 ((8 : Int) - (List.length ns1049 : Int)))))))) (k1 (Int.fdiv (IntKind.wrap .i64 (n1044 * ((2 : Int) ^ (min (Int.toNat (IntKind.wrap .u64 ((8 : Int) * (IntKind.wrap .u64 (IntKind.wrap .i64 ((8 : Int) - (List.length ns1049 : Int))))))) (64 : Nat))))) ((2 : Int) ^ (min (Int.toNat (IntKind.wrap .u64 ((8 : Int) * (IntKind.wrap .u64 (IntKind.wrap .i64 ((8 : Int) - (List.length ns1049 : Int))))))) (64 : Nat)))) n1045 b1046 b1047 ns1048) none) none)))
  (fun n1050 m1051 m1052 n1053 b1054 b1055 ns1056 => (cond_ (((m1052 : Nat) : Int) == (0 : Int)) (k1 (0 : Int) n1053 b1054 b1055 ns1056) (cond_ (decide ((0 : Int) ≤ (IntKind.wrap .u64 ((8 : Int) * (IntKind.wrap .u64 (IntKind.wrap .i64 ((8 : Int) - ((m1052 : Nat) : Int)))))))) (cond_ (decide ((0 : Int) ≤ (IntKind.wrap .u64 ((8 : Int) * (IntKind.wrap .u64 (IntKind.wrap .i64 ((8 : Int) - ((m1052 : Nat) : Int)))))))) (k1 (Int.fdiv (IntKind.wrap .i64 (n1050 * ((2 : Int) ^ (min (Int.toNat (IntKind.wrap .u64 ((8 : Int) * (IntKind.wrap .u64 (IntKind.wrap .i64 ((8 : Int) - ((m1052 : Nat) : Int))))))) (64 : Nat))))) ((2 : Int) ^ (min (Int.toNat (IntKind.wrap .u64 ((8 : Int) * (IntKind.wrap .u64 (IntKind.wrap .i64 ((8 : Int) - ((m1052 : Nat) : Int))))))) (64 : Nat)))) n1053 b1054 b1055 ns1056) none) none))))
noncomputable def octet_Reader_Signed : T_octet_Reader_Signed := octet_Reader_Signed.body octet_number
def octet_Reader_Signed.p : FPat := fp 51 (ps (pq [0, 0] 0 0) (pl (pd (.int .i64)) pz)) (pl (po [0, 0] 64 4 (em (pl (pa (ps (pr [0, 1]) (pl (pd (.int .i64)) (pl (pd .bool) (pl (pd .bool) pz))))) pz))) (pl (po [0, 1] 5 1 (ed (.int .u8))) pz))
def octet_Reader_Signed.g (F : T_octet_Reader_Signed) (v : octet_Reader_Signed.p.T) (k : KR) : Option Bool := F v.1.1 v.2.1.1.1 v.2.1.1.2.1 v.2.1.1.2.2.1 v.2.2.1 (fun y0 y1 y2 y3 y4 => k (.d ⟨(.int .i64), y0⟩) [([0, 0], ⟨64, 4, (.mix [(.agg [(.ref [0, 1]), (.d ⟨(.int .i64), y1⟩), (.d ⟨.bool, y2⟩), (.d ⟨.bool, y3⟩)])])⟩), ([0, 1], ⟨5, 1, (.data (.int .u8) y4)⟩)])
theorem octet_Reader_Signed.eq (F0 : T_octet_number) : ∀ v k, exF Try.f51 octet_Reader_Signed.p [⟨octet_number.p, octet_number.g F0⟩] [] [] v k = octet_Reader_Signed.g (octet_Reader_Signed.body F0) v k := fun v k => by kernel_rfl
theorem octet_Reader_Signed.ok : okF 4 octet_Reader_Signed.p (octet_Reader_Signed.g octet_Reader_Signed) := fn2 (octet_Reader_Signed.eq octet_number) Try.func51 (by kernel_rfl) (.cons octet_number.ok .nil) [] (by kernel_rfl) .nil
/-- function 50: sheerleg/instr.read -/
abbrev T_instr_readv1 : Type := Int → Int → Bool → Bool → (List Int) → (Int → Int → Bool → Bool → (List Int) → Option Bool) → Option Bool
noncomputable def instr_readv1.body (octet_Reader_Signed : T_octet_Reader_Signed) : T_instr_readv1 := fun n1034 n1035 b1036 b1037 ns1038 k1 =>
  (octet_Reader_Signed n1034 n1035 b1036 b1037 ns1038
  (fun n1057 n1058 b1059 b1060 ns1061 => (k1 n1057 n1058 b1059 b1060 ns1061)))
noncomputable def instr_readv1 : T_instr_readv1 := instr_readv1.body octet_Reader_Signed
def instr_readv1.p : FPat := fp 50 (ps (pq [0, 0] 0 0) (pl (pd (.int .i64)) (pl (pf 51 pz pz) pz))) (pl (po [0, 0] 64 4 (em (pl (pa (ps (pr [0, 1]) (pl (pd (.int .i64)) (pl (pd .bool) (pl (pd .bool) pz))))) pz))) (pl (po [0, 1] 5 1 (ed (.int .u8))) pz))
def instr_readv1.g (F : T_instr_readv1) (v : instr_readv1.p.T) (k : KR) : Option Bool := F v.1.1 v.2.1.1.1 v.2.1.1.2.1 v.2.1.1.2.2.1 v.2.2.1 (fun y0 y1 y2 y3 y4 => k (.d ⟨(.int .i64), y0⟩) [([0, 0], ⟨64, 4, (.mix [(.agg [(.ref [0, 1]), (.d ⟨(.int .i64), y1⟩), (.d ⟨.bool, y2⟩), (.d ⟨.bool, y3⟩)])])⟩), ([0, 1], ⟨5, 1, (.data (.int .u8) y4)⟩)])
theorem instr_readv1.eq (F0 : T_octet_Reader_Signed) : ∀ v k, exF Try.f50 instr_readv1.p [⟨octet_Reader_Signed.p, octet_Reader_Signed.g F0⟩] [] [] v k = instr_readv1.g (instr_readv1.body F0) v k := fun v k => by kernel_rfl
theorem instr_readv1.ok : okF 5 instr_readv1.p (instr_readv1.g instr_readv1) := fn2 (instr_readv1.eq octet_Reader_Signed) Try.func50 (by kernel_rfl) (.cons octet_Reader_Signed.ok .nil) [] (by kernel_rfl) .nil
/-- function 31: sheerleg/instr.Get -/
abbrev T_instr_Get : Type := Int → Bool → Bool → (List Int) → (Tc1 → Int → Int → Bool → Bool → (List Int) → Option Bool) → Option Bool
noncomputable def instr_Get.body (octet_Reader_Left : T_octet_Reader_Left) (octet_Reader_Bad : T_octet_Reader_Bad) (octet_Reader_Num : T_octet_Reader_Num) (instr_read : T_instr_read) (instr_readv1 : T_instr_readv1) (instr_Check : T_instr_Check) : T_instr_Get := fun n995 b996 b997 ns998 k1 =>
  (octet_Reader_Left n995 b996 b997 ns998
  (fun n999 n1000 b1001 b1002 ns1003 => (cond_ (! (decide (n999 < (8 : Int)))) (octet_Reader_Bad n1000 b1001 b1002 ns1003
  (fun b1004 n1005 b1006 b1007 ns1008 => (cond_ b1004 (octet_Reader_Num (0 : Int) n1005 b1006 b1007 ns1008
  (fun n1009 n1010 b1011 b1012 ns1013 => (k1 (0, (0, (0, (0, (0, ()))))) (5 : Int) n1010 b1011 b1012 ns1013))) (instr_read (1 : Int) n1005 b1006 b1007 ns1008
  (fun n1014 n1015 b1016 b1017 ns1018 => (instr_read (1 : Int) n1015 b1016 b1017 ns1018
  (fun n1019 n1020 b1021 b1022 ns1023 => (instr_read (1 : Int) n1020 b1021 b1022 ns1023
  (fun n1024 n1025 b1026 b1027 ns1028 => (instr_read (1 : Int) n1025 b1026 b1027 ns1028
  (fun n1029 n1030 b1031 b1032 ns1033 => (instr_readv1 (4 : Int) n1030 b1031 b1032 ns1033
  (fun n1062 n1063 b1064 b1065 ns1066 => (instr_Check (n1014, (n1019, (n1024, (n1029, (n1062, ())))))
  (fun n1067 => (cond_ (n1067 != (0 : Int)) (k1 (0, (0, (0, (0, (0, ()))))) n1067 n1063 b1064 b1065 ns1066) (k1 (n1014, (n1019, (n1024, (n1029, (n1062, ()))))) (0 : Int) n1063 b1064 b1065 ns1066))))))))))))))))) (octet_Reader_Num (0 : Int) n1000 b1001 b1002 ns1003
  (fun n1068 n1069 b1070 b1071 ns1072 => (k1 (0, (0, (0, (0, (0, ()))))) (5 : Int) n1069 b1070 b1071 ns1072))))))
noncomputable def instr_Get : T_instr_Get := instr_Get.body octet_Reader_Left octet_Reader_Bad octet_Reader_Num instr_read instr_readv1 instr_Check
def instr_Get.p : FPat := fp 31 (ps (pq [0, 0] 0 0) pz) (pl (po [0, 0] 64 4 (em (pl (pa (ps (pr [0, 1]) (pl (pd (.int .i64)) (pl (pd .bool) (pl (pd .bool) pz))))) pz))) (pl (po [0, 1] 5 1 (ed (.int .u8))) pz))
def instr_Get.g (F : T_instr_Get) (v : instr_Get.p.T) (k : KR) : Option Bool := F v.2.1.1.1 v.2.1.1.2.1 v.2.1.1.2.2.1 v.2.2.1 (fun y0 y1 y2 y3 y4 y5 => k (.tup [(.d ⟨Ty5, y0⟩), (.d ⟨(.int .i64), y1⟩)]) [([0, 0], ⟨64, 4, (.mix [(.agg [(.ref [0, 1]), (.d ⟨(.int .i64), y2⟩), (.d ⟨.bool, y3⟩), (.d ⟨.bool, y4⟩)])])⟩), ([0, 1], ⟨5, 1, (.data (.int .u8) y5)⟩)])
theorem instr_Get.eq (F0 : T_octet_Reader_Left) (F1 : T_octet_Reader_Bad) (F2 : T_octet_Reader_Num) (F3 : T_instr_read) (F4 : T_instr_readv1) (F5 : T_instr_Check) : ∀ v k, exF Try.f31 instr_Get.p [⟨octet_Reader_Left.p, octet_Reader_Left.g F0⟩, ⟨octet_Reader_Bad.p, octet_Reader_Bad.g F1⟩, ⟨octet_Reader_Num.p, octet_Reader_Num.g F2⟩, ⟨instr_read.p, instr_read.g F3⟩, ⟨instr_readv1.p, instr_readv1.g F4⟩, ⟨instr_Check.p, instr_Check.g F5⟩] [0] [] v k = instr_Get.g (instr_Get.body F0 F1 F2 F3 F4 F5) v k := fun v k => by kernel_rfl
theorem instr_Get.ok : okF 6 instr_Get.p (instr_Get.g instr_Get) := fn2 (instr_Get.eq octet_Reader_Left octet_Reader_Bad octet_Reader_Num instr_read instr_readv1 instr_Check) Try.func31 (by kernel_rfl) (.cons octet_Reader_Left.ok (.cons octet_Reader_Bad.ok (.cons octet_Reader_Num.ok (.cons instr_read.ok (.cons instr_readv1.ok (.cons instr_Check.ok .nil)))))) [] (by kernel_rfl) .nil
/-- function 30: sheerleg/fun.Get$3 -/
abbrev T_fun_Getfn3 : Type := Int → Bool → Bool → (List Int) → Int → Int → Bool → Int → Int → (List Int) → (List (Int × Int × Unit)) → Tc2 → Tc0 → Int → (Int → Bool → Bool → (List Int) → Int → Int → Bool → Int → Int → (List Int) → (List (Int × Int × Unit)) → Tc0 → Int → Tc2 → Option Bool) → Option Bool
noncomputable def fun_Getfn3.body (instr_Get : T_instr_Get) (fun_reader_fail : T_fun_reader_fail) : T_fun_Getfn3 := fun n981 b982 b983 ns984 n985 n986 b987 n988 n989 ns990 ts991 ts992 ts993 n994 k1 =>
  (instr_Get n981 b982 b983 ns984
  (fun t1073 n1074 n1075 b1076 b1077 ns1078 => (cond_ (Nat.ble (((List.length ts992) + (List.length ((t1073.1, (t1073.2.1, (t1073.2.2.1, (t1073.2.2.2.1, (t1073.2.2.2.2.1, ()))))) :: []))) * (40 : Nat)) (140737488355328 : Nat)) (cond_ (n1074 != (0 : Int)) (fun_reader_fail n1074 n994 n1075 b1076 b1077 ns1078
  (fun n1079 n1080 b1081 b1082 ns1083 => (k1 n1080 b1081 b1082 ns1083 n985 n986 b987 n988 n989 ns990 ts991 ts993 n1079 (ts992 ++ ((t1073.1, (t1073.2.1, (t1073.2.2.1, (t1073.2.2.2.1, (t1073.2.2.2.2.1, ()))))) :: []))))) (k1 n1075 b1076 b1077 ns1078 n985 n986 b987 n988 n989 ns990 ts991 ts993 n994 (ts992 ++ ((t1073.1, (t1073.2.1, (t1073.2.2.1, (t1073.2.2.2.1, (t1073.2.2.2.2.1, ()))))) :: [])))) none)))
noncomputable def fun_Getfn3 : T_fun_Getfn3 := fun_Getfn3.body instr_Get fun_reader_fail
def fun_Getfn3.p : FPat := fp 30 (ps (pq [0, 0] 0 0) (ps (pq [0, 3] 0 0) (ps (pq [0, 8] 0 0) pz))) (ps (po [0, 0] 32 1 (em (ps (pq [0, 1] 0 0) pz))) (pl (po [0, 1] 64 4 (em (pl (pa (ps (pr [0, 2]) (pl (pd (.int .i64)) (pl (pd .bool) (pl (pd .bool) pz))))) pz))) (pl (po [0, 2] 5 1 (ed (.int .u8))) (pl (po [0, 3] 27 9 (em (pl (pa (pl (pd (.int .i64)) (ps (pr [0, 4]) (pl (pd (.int .i64)) (pl (pd .bool) (pl (pd (.int .i64)) (pl (pd (.int .i64)) (ps (pr [0, 5]) (ps (pr [0, 6]) (ps (pr [0, 7]) pz)))))))))) pz))) (pl (po [0, 4] 3 1 (ed (.int .i64))) (pl (po [0, 5] 55 2 (ed Ty1)) (pl (po [0, 6] 57 5 (ed Ty5)) (pl (po [0, 7] 60 3 (ed Ty2)) (ps (po [0, 8] 65 1 (em (ps (pq [0, 9] 0 0) pz))) (pl (po [0, 9] 67 2 (em (pl (pa (ps (pq [0, 1] 0 0) (pl (pd (.int .i64)) pz))) pz))) pz))))))))))
def fun_Getfn3.g (F : T_fun_Getfn3) (v : fun_Getfn3.p.T) (k : KR) : Option Bool := F v.2.1.1.1 v.2.1.1.2.1 v.2.1.1.2.2.1 v.2.2.1 v.2.2.2.1.1.1 v.2.2.2.1.1.2.1 v.2.2.2.1.1.2.2.1 v.2.2.2.1.1.2.2.2.1 v.2.2.2.1.1.2.2.2.2.1 v.2.2.2.2.1 v.2.2.2.2.2.1 v.2.2.2.2.2.2.1 v.2.2.2.2.2.2.2.1 v.2.2.2.2.2.2.2.2.1.1.1 (fun y0 y1 y2 y3 y4 y5 y6 y7 y8 y9 y10 y11 y12 y13 => k (.tup []) [([0, 0], ⟨32, 1, (.mix [(.ptr [0, 1] 0 0)])⟩), ([0, 1], ⟨64, 4, (.mix [(.agg [(.ref [0, 2]), (.d ⟨(.int .i64), y0⟩), (.d ⟨.bool, y1⟩), (.d ⟨.bool, y2⟩)])])⟩), ([0, 2], ⟨5, 1, (.data (.int .u8) y3)⟩), ([0, 3], ⟨27, 9, (.mix [(.agg [(.d ⟨(.int .i64), y4⟩), (.ref [0, 4]), (.d ⟨(.int .i64), y5⟩), (.d ⟨.bool, y6⟩), (.d ⟨(.int .i64), y7⟩), (.d ⟨(.int .i64), y8⟩), (.ref [0, 5]), (.ref [1, 0]), (.ref [0, 7])])])⟩), ([0, 4], ⟨3, 1, (.data (.int .i64) y9)⟩), ([0, 5], ⟨55, 2, (.data Ty1 y10)⟩), ([0, 7], ⟨60, 3, (.data Ty2 y11)⟩), ([0, 8], ⟨65, 1, (.mix [(.ptr [0, 9] 0 0)])⟩), ([0, 9], ⟨67, 2, (.mix [(.agg [(.ptr [0, 1] 0 0), (.d ⟨(.int .i64), y12⟩)])])⟩), ([1, 0], ⟨57, 5, (.data Ty5 y13)⟩)])
theorem fun_Getfn3.eq (F0 : T_instr_Get) (F1 : T_fun_reader_fail) : ∀ v k, exF Try.f30 fun_Getfn3.p [⟨instr_Get.p, instr_Get.g F0⟩, ⟨fun_reader_fail.p, fun_reader_fail.g F1⟩] [] [] v k = fun_Getfn3.g (fun_Getfn3.body F0 F1) v k := fun v k => by kernel_rfl
theorem fun_Getfn3.ok : okF 7 fun_Getfn3.p (fun_Getfn3.g fun_Getfn3) := fn2 (fun_Getfn3.eq instr_Get fun_reader_fail) Try.func30 (by kernel_rfl) (.cons instr_Get.ok (.cons fun_reader_fail.ok .nil)) [] (by kernel_rfl) .nil
/-- function 26: the loop in block 0 -/
abbrev T_fun_reader_manyv2_L0 : Type := Int → Int → Int → Int → Bool → Bool → (List Int) → Int → Int → Bool → Int → Int → (List Int) → (List (Int × Int × Unit)) → Tc0 → Tc2 → (Int → Int → Bool → Bool → (List Int) → Int → Int → Bool → Int → Int → (List Int) → (List (Int × Int × Unit)) → Tc0 → Tc2 → Option Bool) → (Int → Int → Bool → Bool → (List Int) → Int → Int → Bool → Int → Int → (List Int) → (List (Int × Int × Unit)) → Tc0 → Tc2 → Option Bool) → Option Bool
noncomputable def fun_reader_manyv2_L0.body (fun_reader_manyv2_L0 : T_fun_reader_manyv2_L0) (fun_Getfn3 : T_fun_Getfn3) : T_fun_reader_manyv2_L0 := fun n965 n966 n967 n968 b969 b970 ns971 n972 n973 b974 n975 n976 ns977 ts978 ts979 ts980 k1 k2 =>
  (cond_ (decide (n966 < n965)) (cond_ (n967 != (0 : Int)) (k1 n967 n968 b969 b970 ns971 n972 n973 b974 n975 n976 ns977 ts978 ts979 ts980) (fun_Getfn3 n968 b969 b970 ns971 n972 n973 b974 n975 n976 ns977 ts978 ts980 ts979 n967
  (fun n1084 b1085 b1086 ns1087 n1088 n1089 b1090 n1091 n1092 ns1093 ts1094 ts1095 n1096 ts1097 => (fun_reader_manyv2_L0 n965 (IntKind.wrap .i64 (n966 + (1 : Int))) n1096 n1084 b1085 b1086 ns1087 n1088 n1089 b1090 n1091 n1092 ns1093 ts1094 ts1095 ts1097 k1 k2)))) (k2 n967 n968 b969 b970 ns971 n972 n973 b974 n975 n976 ns977 ts978 ts979 ts980))
noncomputable def fun_reader_manyv2_L0 : Nat → T_fun_reader_manyv2_L0
  | 0 => fun _ _ _ _ _ _ _ _ _ _ _ _ _ _ _ _ _ _ => none
  | n + 1 => fun_reader_manyv2_L0.body (fun_reader_manyv2_L0 n) fun_Getfn3
def fun_reader_manyv2_L0.p : LPat := lp 2 16 [0, 1, 5, 6] (ps (pq [0, 0] 0 0) (pl (pf 30 pz (ps (pq [0, 3] 0 0) (ps (pq [0, 4] 0 0) (ps (pq [0, 8] 0 0) pz)))) (pl (pd (.int .i64)) (pl (pd (.int .i64)) pz)))) (pl (po [0, 0] 67 2 (em (pl (pa (ps (pq [0, 1] 0 0) (pl (pd (.int .i64)) pz))) pz))) (pl (po [0, 1] 64 4 (em (pl (pa (ps (pr [0, 2]) (pl (pd (.int .i64)) (pl (pd .bool) (pl (pd .bool) pz))))) pz))) (pl (po [0, 2] 5 1 (ed (.int .u8))) (ps (po [0, 3] 32 1 (em (ps (pq [0, 1] 0 0) pz))) (pl (po [0, 4] 27 9 (em (pl (pa (pl (pd (.int .i64)) (ps (pr [0, 5]) (pl (pd (.int .i64)) (pl (pd .bool) (pl (pd (.int .i64)) (pl (pd (.int .i64)) (ps (pr [0, 6]) (ps (pr [1, 0]) (ps (pr [0, 7]) pz)))))))))) pz))) (pl (po [0, 5] 3 1 (ed (.int .i64))) (pl (po [0, 6] 55 2 (ed Ty1)) (pl (po [0, 7] 60 3 (ed Ty2)) (ps (po [0, 8] 65 1 (em (ps (pq [0, 0] 0 0) pz))) (pl (po [1, 0] 57 5 (ed Ty5)) pz))))))))))
def fun_reader_manyv2_L0.g (F : T_fun_reader_manyv2_L0) (v : fun_reader_manyv2_L0.p.T) (k : KE) : Option Bool := F v.1.2.1 v.1.2.2.1 v.2.1.1.1 v.2.2.1.1.1 v.2.2.1.1.2.1 v.2.2.1.1.2.2.1 v.2.2.2.1 v.2.2.2.2.1.1.1 v.2.2.2.2.1.1.2.1 v.2.2.2.2.1.1.2.2.1 v.2.2.2.2.1.1.2.2.2.1 v.2.2.2.2.1.1.2.2.2.2.1 v.2.2.2.2.2.1 v.2.2.2.2.2.2.1 v.2.2.2.2.2.2.2.1 v.2.2.2.2.2.2.2.2.1 (fun y0 y1 y2 y3 y4 y5 y6 y7 y8 y9 y10 y11 y12 y13 => k .ret ⟨fillS 16 [] [], [([0, 0], ⟨67, 2, (.mix [(.agg [(.ptr [0, 1] 0 0), (.d ⟨(.int .i64), y0⟩)])])⟩), ([0, 1], ⟨64, 4, (.mix [(.agg [(.ref [0, 2]), (.d ⟨(.int .i64), y1⟩), (.d ⟨.bool, y2⟩), (.d ⟨.bool, y3⟩)])])⟩), ([0, 2], ⟨5, 1, (.data (.int .u8) y4)⟩), ([0, 3], ⟨32, 1, (.mix [(.ptr [0, 1] 0 0)])⟩), ([0, 4], ⟨27, 9, (.mix [(.agg [(.d ⟨(.int .i64), y5⟩), (.ref [0, 5]), (.d ⟨(.int .i64), y6⟩), (.d ⟨.bool, y7⟩), (.d ⟨(.int .i64), y8⟩), (.d ⟨(.int .i64), y9⟩), (.ref [0, 6]), (.ref [1, 0]), (.ref [0, 7])])])⟩), ([0, 5], ⟨3, 1, (.data (.int .i64) y10)⟩), ([0, 6], ⟨55, 2, (.data Ty1 y11)⟩), ([0, 7], ⟨60, 3, (.data Ty2 y12)⟩), ([0, 8], ⟨65, 1, (.mix [(.ptr [0, 0] 0 0)])⟩), ([1, 0], ⟨57, 5, (.data Ty5 y13)⟩)], 2⟩) (fun y0 y1 y2 y3 y4 y5 y6 y7 y8 y9 y10 y11 y12 y13 => k (.exit 0) ⟨fillS 16 [] [], [([0, 0], ⟨67, 2, (.mix [(.agg [(.ptr [0, 1] 0 0), (.d ⟨(.int .i64), y0⟩)])])⟩), ([0, 1], ⟨64, 4, (.mix [(.agg [(.ref [0, 2]), (.d ⟨(.int .i64), y1⟩), (.d ⟨.bool, y2⟩), (.d ⟨.bool, y3⟩)])])⟩), ([0, 2], ⟨5, 1, (.data (.int .u8) y4)⟩), ([0, 3], ⟨32, 1, (.mix [(.ptr [0, 1] 0 0)])⟩), ([0, 4], ⟨27, 9, (.mix [(.agg [(.d ⟨(.int .i64), y5⟩), (.ref [0, 5]), (.d ⟨(.int .i64), y6⟩), (.d ⟨.bool, y7⟩), (.d ⟨(.int .i64), y8⟩), (.d ⟨(.int .i64), y9⟩), (.ref [0, 6]), (.ref [1, 0]), (.ref [0, 7])])])⟩), ([0, 5], ⟨3, 1, (.data (.int .i64) y10)⟩), ([0, 6], ⟨55, 2, (.data Ty1 y11)⟩), ([0, 7], ⟨60, 3, (.data Ty2 y12)⟩), ([0, 8], ⟨65, 1, (.mix [(.ptr [0, 0] 0 0)])⟩), ([1, 0], ⟨57, 5, (.data Ty5 y13)⟩)], 2⟩)
theorem fun_reader_manyv2_L0.step (S : T_fun_reader_manyv2_L0) (F0 : T_fun_Getfn3) : ∀ v k, exR 26 Try.f26 0 fun_reader_manyv2_L0.p [⟨fun_Getfn3.p, fun_Getfn3.g F0⟩] [] [] (fun_reader_manyv2_L0.g S) v k = fun_reader_manyv2_L0.g (fun_reader_manyv2_L0.body S F0) v k := fun v k => by kernel_rfl
theorem fun_reader_manyv2_L0.ok : okL 26 Try.f26 7 0 fun_reader_manyv2_L0.p (fun_reader_manyv2_L0.g (fun_reader_manyv2_L0 ROUNDS)) := loop2 (G := fun n => fun_reader_manyv2_L0.g (fun_reader_manyv2_L0 n)) (fun n => fun_reader_manyv2_L0.step (fun_reader_manyv2_L0 n) fun_Getfn3) (.cons fun_Getfn3.ok .nil) [] (by kernel_rfl) .nil (fun _ _ => rfl)
/-- function 26: (*sheerleg/fun.reader).many -/
abbrev T_fun_reader_manyv2 : Type := Int → Int → Bool → Bool → (List Int) → Int → Int → Bool → Int → Int → (List Int) → (List (Int × Int × Unit)) → Tc0 → (Int → Int → Bool → Bool → (List Int) → Int → Int → Bool → Int → Int → (List Int) → (List (Int × Int × Unit)) → Tc0 → Tc2 → Option Bool) → Option Bool
noncomputable def fun_reader_manyv2.body (fun_reader_num : T_fun_reader_num) (fun_reader_manyv2_L0 : T_fun_reader_manyv2_L0) : T_fun_reader_manyv2 := fun n946 n947 b948 b949 ns950 n951 n952 b953 n954 n955 ns956 ts957 ts958 k1 =>
  (fun_reader_num (1 : Int) n946 n947 b948 b949 ns950
  (fun n959 n960 n961 b962 b963 ns964 => (fun_reader_manyv2_L0 n959 (0 : Int) n960 n961 b962 b963 ns964 n951 n952 b953 n954 n955 ns956 ts957 ts958 []
  (fun n1098 n1099 b1100 b1101 ns1102 n1103 n1104 b1105 n1106 n1107 ns1108 ts1109 ts1110 ts1111 => (k1 n1098 n1099 b1100 b1101 ns1102 n1103 n1104 b1105 n1106 n1107 ns1108 ts1109 ts1110 ts1111))
  (fun n1112 n1113 b1114 b1115 ns1116 n1117 n1118 b1119 n1120 n1121 ns1122 ts1123 ts1124 ts1125 => (k1 n1112 n1113 b1114 b1115 ns1116 n1117 n1118 b1119 n1120 n1121 ns1122 ts1123 ts1124 ts1125)))))
noncomputable def fun_reader_manyv2 : T_fun_reader_manyv2 := fun_reader_manyv2.body fun_reader_num (fun_reader_manyv2_L0 ROUNDS)
def fun_reader_manyv2.p : FPat := fp 26 (ps (pq [0, 0] 0 0) (pl (pf 30 pz (ps (pq [0, 3] 0 0) (ps (pq [0, 4] 0 0) (ps (pq [0, 8] 0 0) pz)))) pz)) (pl (po [0, 0] 67 2 (em (pl (pa (ps (pq [0, 1] 0 0) (pl (pd (.int .i64)) pz))) pz))) (pl (po [0, 1] 64 4 (em (pl (pa (ps (pr [0, 2]) (pl (pd (.int .i64)) (pl (pd .bool) (pl (pd .bool) pz))))) pz))) (pl (po [0, 2] 5 1 (ed (.int .u8))) (ps (po [0, 3] 32 1 (em (ps (pq [0, 1] 0 0) pz))) (pl (po [0, 4] 27 9 (em (pl (pa (pl (pd (.int .i64)) (ps (pr [0, 5]) (pl (pd (.int .i64)) (pl (pd .bool) (pl (pd (.int .i64)) (pl (pd (.int .i64)) (ps (pr [0, 6]) (ps (pk 0) (ps (pr [0, 7]) pz)))))))))) pz))) (pl (po [0, 5] 3 1 (ed (.int .i64))) (pl (po [0, 6] 55 2 (ed Ty1)) (pl (po [0, 7] 60 3 (ed Ty2)) (ps (po [0, 8] 65 1 (em (ps (pq [0, 0] 0 0) pz))) pz)))))))))
def fun_reader_manyv2.g (F : T_fun_reader_manyv2) (v : fun_reader_manyv2.p.T) (k : KR) : Option Bool := F v.2.1.1.1 v.2.2.1.1.1 v.2.2.1.1.2.1 v.2.2.1.1.2.2.1 v.2.2.2.1 v.2.2.2.2.1.1.1 v.2.2.2.2.1.1.2.1 v.2.2.2.2.1.1.2.2.1 v.2.2.2.2.1.1.2.2.2.1 v.2.2.2.2.1.1.2.2.2.2.1 v.2.2.2.2.2.1 v.2.2.2.2.2.2.1 v.2.2.2.2.2.2.2.1 (fun y0 y1 y2 y3 y4 y5 y6 y7 y8 y9 y10 y11 y12 y13 => k (.tup []) [([0, 0], ⟨67, 2, (.mix [(.agg [(.ptr [0, 1] 0 0), (.d ⟨(.int .i64), y0⟩)])])⟩), ([0, 1], ⟨64, 4, (.mix [(.agg [(.ref [0, 2]), (.d ⟨(.int .i64), y1⟩), (.d ⟨.bool, y2⟩), (.d ⟨.bool, y3⟩)])])⟩), ([0, 2], ⟨5, 1, (.data (.int .u8) y4)⟩), ([0, 3], ⟨32, 1, (.mix [(.ptr [0, 1] 0 0)])⟩), ([0, 4], ⟨27, 9, (.mix [(.agg [(.d ⟨(.int .i64), y5⟩), (.ref [0, 5]), (.d ⟨(.int .i64), y6⟩), (.d ⟨.bool, y7⟩), (.d ⟨(.int .i64), y8⟩), (.d ⟨(.int .i64), y9⟩), (.ref [0, 6]), (.ref [1, 0]), (.ref [0, 7])])])⟩), ([0, 5], ⟨3, 1, (.data (.int .i64) y10)⟩), ([0, 6], ⟨55, 2, (.data Ty1 y11)⟩), ([0, 7], ⟨60, 3, (.data Ty2 y12)⟩), ([0, 8], ⟨65, 1, (.mix [(.ptr [0, 0] 0 0)])⟩), ([1, 0], ⟨57, 5, (.data Ty5 y13)⟩)])
theorem fun_reader_manyv2.eq (F0 : T_fun_reader_num) (L0 : T_fun_reader_manyv2_L0) : ∀ v k, exF Try.f26 fun_reader_manyv2.p [⟨fun_reader_num.p, fun_reader_num.g F0⟩] [] [⟨0, fun_reader_manyv2_L0.p, fun_reader_manyv2_L0.g L0⟩] v k = fun_reader_manyv2.g (fun_reader_manyv2.body F0 L0) v k := fun v k => by kernel_rfl
theorem fun_reader_manyv2.ok : okF 8 fun_reader_manyv2.p (fun_reader_manyv2.g fun_reader_manyv2) := fn2 (fun_reader_manyv2.eq fun_reader_num (fun_reader_manyv2_L0 ROUNDS)) Try.func26 (by kernel_rfl) (.cons fun_reader_num.ok .nil) [0] (by kernel_rfl) (.cons fun_reader_manyv2_L0.ok .nil)
/-- function 33: sheerleg/fun.Get$4 -/
abbrev T_fun_Getfn4 : Type := Int → Int → Bool → Int → Int → (List Int) → (List (Int × Int × Unit)) → Tc2 → Tc0 → Int → Int → Bool → Bool → (List Int) → (Int → Int → Bool → Int → Int → (List Int) → (List (Int × Int × Unit)) → Tc2 → Int → Int → Bool → Bool → (List Int) → Tc0 → Option Bool) → Option Bool
noncomputable def fun_Getfn4.body (fun_reader_num : T_fun_reader_num) (fun_reader_yes : T_fun_reader_yes) : T_fun_Getfn4 := fun n1176 n1177 b1178 n1179 n1180 ns1181 ts1182 ts1183 ts1184 n1185 n1186 b1187 b1188 ns1189 k1 =>
  (fun_reader_num (1 : Int) n1185 n1186 b1187 b1188 ns1189
  (fun n1190 n1191 n1192 b1193 b1194 ns1195 => (fun_reader_num (1 : Int) n1191 n1192 b1193 b1194 ns1195
  (fun n1196 n1197 n1198 b1199 b1200 ns1201 => (fun_reader_yes n1197 n1198 b1199 b1200 ns1201
  (fun b1202 n1203 n1204 b1205 b1206 ns1207 => (cond_ (Nat.ble (((List.length ts1184) + (List.length ((n1190, (n1196, (b1202, ()))) :: []))) * (24 : Nat)) (140737488355328 : Nat)) (k1 n1176 n1177 b1178 n1179 n1180 ns1181 ts1182 ts1183 n1203 n1204 b1205 b1206 ns1207 (ts1184 ++ ((n1190, (n1196, (b1202, ()))) :: []))) none)))))))
noncomputable def fun_Getfn4 : T_fun_Getfn4 := fun_Getfn4.body fun_reader_num fun_reader_yes
def fun_Getfn4.p : FPat := fp 33 (ps (pq [0, 0] 0 0) (ps (pq [0, 5] 0 0) pz)) (pl (po [0, 0] 27 9 (em (pl (pa (pl (pd (.int .i64)) (ps (pr [0, 1]) (pl (pd (.int .i64)) (pl (pd .bool) (pl (pd (.int .i64)) (pl (pd (.int .i64)) (ps (pr [0, 2]) (ps (pr [0, 3]) (ps (pr [0, 4]) pz)))))))))) pz))) (pl (po [0, 1] 3 1 (ed (.int .i64))) (pl (po [0, 2] 55 2 (ed Ty1)) (pl (po [0, 3] 57 5 (ed Ty5)) (pl (po [0, 4] 60 3 (ed Ty2)) (ps (po [0, 5] 65 1 (em (ps (pq [0, 6] 0 0) pz))) (pl (po [0, 6] 67 2 (em (pl (pa (ps (pq [0, 7] 0 0) (pl (pd (.int .i64)) pz))) pz))) (pl (po [0, 7] 64 4 (em (pl (pa (ps (pr [0, 8]) (pl (pd (.int .i64)) (pl (pd .bool) (pl (pd .bool) pz))))) pz))) (pl (po [0, 8] 5 1 (ed (.int .u8))) pz)))))))))
def fun_Getfn4.g (F : T_fun_Getfn4) (v : fun_Getfn4.p.T) (k : KR) : Option Bool := F v.2.1.1.1 v.2.1.1.2.1 v.2.1.1.2.2.1 v.2.1.1.2.2.2.1 v.2.1.1.2.2.2.2.1 v.2.2.1 v.2.2.2.1 v.2.2.2.2.1 v.2.2.2.2.2.1 v.2.2.2.2.2.2.1.1.1 v.2.2.2.2.2.2.2.1.1.1 v.2.2.2.2.2.2.2.1.1.2.1 v.2.2.2.2.2.2.2.1.1.2.2.1 v.2.2.2.2.2.2.2.2.1 (fun y0 y1 y2 y3 y4 y5 y6 y7 y8 y9 y10 y11 y12 y13 => k (.tup []) [([0, 0], ⟨27, 9, (.mix [(.agg [(.d ⟨(.int .i64), y0⟩), (.ref [0, 1]), (.d ⟨(.int .i64), y1⟩), (.d ⟨.bool, y2⟩), (.d ⟨(.int .i64), y3⟩), (.d ⟨(.int .i64), y4⟩), (.ref [0, 2]), (.ref [0, 3]), (.ref [1, 0])])])⟩), ([0, 1], ⟨3, 1, (.data (.int .i64) y5)⟩), ([0, 2], ⟨55, 2, (.data Ty1 y6)⟩), ([0, 3], ⟨57, 5, (.data Ty5 y7)⟩), ([0, 5], ⟨65, 1, (.mix [(.ptr [0, 6] 0 0)])⟩), ([0, 6], ⟨67, 2, (.mix [(.agg [(.ptr [0, 7] 0 0), (.d ⟨(.int .i64), y8⟩)])])⟩), ([0, 7], ⟨64, 4, (.mix [(.agg [(.ref [0, 8]), (.d ⟨(.int .i64), y9⟩), (.d ⟨.bool, y10⟩), (.d ⟨.bool, y11⟩)])])⟩), ([0, 8], ⟨5, 1, (.data (.int .u8) y12)⟩), ([1, 0], ⟨60, 3, (.data Ty2 y13)⟩)])
theorem fun_Getfn4.eq (F0 : T_fun_reader_num) (F1 : T_fun_reader_yes) : ∀ v k, exF Try.f33 fun_Getfn4.p [⟨fun_reader_num.p, fun_reader_num.g F0⟩, ⟨fun_reader_yes.p, fun_reader_yes.g F1⟩] [] [] v k = fun_Getfn4.g (fun_Getfn4.body F0 F1) v k := fun v k => by kernel_rfl
theorem fun_Getfn4.ok : okF 7 fun_Getfn4.p (fun_Getfn4.g fun_Getfn4) := fn2 (fun_Getfn4.eq fun_reader_num fun_reader_yes) Try.func33 (by kernel_rfl) (.cons fun_reader_num.ok (.cons fun_reader_yes.ok .nil)) [] (by kernel_rfl) .nil
/-- function 26: the loop in block 0 -/
abbrev T_fun_reader_manyv3_L0 : Type := Int → Int → Int → Int → Bool → Bool → (List Int) → Int → Int → Bool → Int → Int → (List Int) → Tc2 → (List (Int × Int × Unit)) → Tc0 → (Int → Int → Bool → Bool → (List Int) → Int → Int → Bool → Int → Int → (List Int) → Tc2 → (List (Int × Int × Unit)) → Tc0 → Option Bool) → (Int → Int → Bool → Bool → (List Int) → Int → Int → Bool → Int → Int → (List Int) → Tc2 → (List (Int × Int × Unit)) → Tc0 → Option Bool) → Option Bool
noncomputable def fun_reader_manyv3_L0.body (fun_reader_manyv3_L0 : T_fun_reader_manyv3_L0) (fun_Getfn4 : T_fun_Getfn4) : T_fun_reader_manyv3_L0 := fun n1160 n1161 n1162 n1163 b1164 b1165 ns1166 n1167 n1168 b1169 n1170 n1171 ns1172 ts1173 ts1174 ts1175 k1 k2 =>
  (cond_ (decide (n1161 < n1160)) (cond_ (n1162 != (0 : Int)) (k1 n1162 n1163 b1164 b1165 ns1166 n1167 n1168 b1169 n1170 n1171 ns1172 ts1173 ts1174 ts1175) (fun_Getfn4 n1167 n1168 b1169 n1170 n1171 ns1172 ts1174 ts1173 ts1175 n1162 n1163 b1164 b1165 ns1166
  (fun n1208 n1209 b1210 n1211 n1212 ns1213 ts1214 ts1215 n1216 n1217 b1218 b1219 ns1220 ts1221 => (fun_reader_manyv3_L0 n1160 (IntKind.wrap .i64 (n1161 + (1 : Int))) n1216 n1217 b1218 b1219 ns1220 n1208 n1209 b1210 n1211 n1212 ns1213 ts1215 ts1214 ts1221 k1 k2)))) (k2 n1162 n1163 b1164 b1165 ns1166 n1167 n1168 b1169 n1170 n1171 ns1172 ts1173 ts1174 ts1175))
noncomputable def fun_reader_manyv3_L0 : Nat → T_fun_reader_manyv3_L0
  | 0 => fun _ _ _ _ _ _ _ _ _ _ _ _ _ _ _ _ _ _ => none
  | n + 1 => fun_reader_manyv3_L0.body (fun_reader_manyv3_L0 n) fun_Getfn4
def fun_reader_manyv3_L0.p : LPat := lp 2 16 [0, 1, 5, 6] (ps (pq [0, 0] 0 0) (pl (pf 33 pz (ps (pq [0, 3] 0 0) (ps (pq [0, 8] 0 0) pz))) (pl (pd (.int .i64)) (pl (pd (.int .i64)) pz)))) (pl (po [0, 0] 67 2 (em (pl (pa (ps (pq [0, 1] 0 0) (pl (pd (.int .i64)) pz))) pz))) (pl (po [0, 1] 64 4 (em (pl (pa (ps (pr [0, 2]) (pl (pd (.int .i64)) (pl (pd .bool) (pl (pd .bool) pz))))) pz))) (pl (po [0, 2] 5 1 (ed (.int .u8))) (pl (po [0, 3] 27 9 (em (pl (pa (pl (pd (.int .i64)) (ps (pr [0, 4]) (pl (pd (.int .i64)) (pl (pd .bool) (pl (pd (.int .i64)) (pl (pd (.int .i64)) (ps (pr [1, 0]) (ps (pr [0, 6]) (ps (pr [1, 1]) pz)))))))))) pz))) (pl (po [0, 4] 3 1 (ed (.int .i64))) (pl (po [0, 6] 57 5 (ed Ty5)) (ps (po [0, 8] 65 1 (em (ps (pq [0, 0] 0 0) pz))) (pl (po [1, 0] 55 2 (ed Ty1)) (pl (po [1, 1] 60 3 (ed Ty2)) pz)))))))))
def fun_reader_manyv3_L0.g (F : T_fun_reader_manyv3_L0) (v : fun_reader_manyv3_L0.p.T) (k : KE) : Option Bool := F v.1.2.1 v.1.2.2.1 v.2.1.1.1 v.2.2.1.1.1 v.2.2.1.1.2.1 v.2.2.1.1.2.2.1 v.2.2.2.1 v.2.2.2.2.1.1.1 v.2.2.2.2.1.1.2.1 v.2.2.2.2.1.1.2.2.1 v.2.2.2.2.1.1.2.2.2.1 v.2.2.2.2.1.1.2.2.2.2.1 v.2.2.2.2.2.1 v.2.2.2.2.2.2.1 v.2.2.2.2.2.2.2.1 v.2.2.2.2.2.2.2.2.1 (fun y0 y1 y2 y3 y4 y5 y6 y7 y8 y9 y10 y11 y12 y13 => k .ret ⟨fillS 16 [] [], [([0, 0], ⟨67, 2, (.mix [(.agg [(.ptr [0, 1] 0 0), (.d ⟨(.int .i64), y0⟩)])])⟩), ([0, 1], ⟨64, 4, (.mix [(.agg [(.ref [0, 2]), (.d ⟨(.int .i64), y1⟩), (.d ⟨.bool, y2⟩), (.d ⟨.bool, y3⟩)])])⟩), ([0, 2], ⟨5, 1, (.data (.int .u8) y4)⟩), ([0, 3], ⟨27, 9, (.mix [(.agg [(.d ⟨(.int .i64), y5⟩), (.ref [0, 4]), (.d ⟨(.int .i64), y6⟩), (.d ⟨.bool, y7⟩), (.d ⟨(.int .i64), y8⟩), (.d ⟨(.int .i64), y9⟩), (.ref [1, 0]), (.ref [0, 6]), (.ref [1, 1])])])⟩), ([0, 4], ⟨3, 1, (.data (.int .i64) y10)⟩), ([0, 6], ⟨57, 5, (.data Ty5 y11)⟩), ([0, 8], ⟨65, 1, (.mix [(.ptr [0, 0] 0 0)])⟩), ([1, 0], ⟨55, 2, (.data Ty1 y12)⟩), ([1, 1], ⟨60, 3, (.data Ty2 y13)⟩)], 2⟩) (fun y0 y1 y2 y3 y4 y5 y6 y7 y8 y9 y10 y11 y12 y13 => k (.exit 0) ⟨fillS 16 [] [], [([0, 0], ⟨67, 2, (.mix [(.agg [(.ptr [0, 1] 0 0), (.d ⟨(.int .i64), y0⟩)])])⟩), ([0, 1], ⟨64, 4, (.mix [(.agg [(.ref [0, 2]), (.d ⟨(.int .i64), y1⟩), (.d ⟨.bool, y2⟩), (.d ⟨.bool, y3⟩)])])⟩), ([0, 2], ⟨5, 1, (.data (.int .u8) y4)⟩), ([0, 3], ⟨27, 9, (.mix [(.agg [(.d ⟨(.int .i64), y5⟩), (.ref [0, 4]), (.d ⟨(.int .i64), y6⟩), (.d ⟨.bool, y7⟩), (.d ⟨(.int .i64), y8⟩), (.d ⟨(.int .i64), y9⟩), (.ref [1, 0]), (.ref [0, 6]), (.ref [1, 1])])])⟩), ([0, 4], ⟨3, 1, (.data (.int .i64) y10)⟩), ([0, 6], ⟨57, 5, (.data Ty5 y11)⟩), ([0, 8], ⟨65, 1, (.mix [(.ptr [0, 0] 0 0)])⟩), ([1, 0], ⟨55, 2, (.data Ty1 y12)⟩), ([1, 1], ⟨60, 3, (.data Ty2 y13)⟩)], 2⟩)
theorem fun_reader_manyv3_L0.step (S : T_fun_reader_manyv3_L0) (F0 : T_fun_Getfn4) : ∀ v k, exR 26 Try.f26 0 fun_reader_manyv3_L0.p [⟨fun_Getfn4.p, fun_Getfn4.g F0⟩] [] [] (fun_reader_manyv3_L0.g S) v k = fun_reader_manyv3_L0.g (fun_reader_manyv3_L0.body S F0) v k := fun v k => by kernel_rfl
theorem fun_reader_manyv3_L0.ok : okL 26 Try.f26 7 0 fun_reader_manyv3_L0.p (fun_reader_manyv3_L0.g (fun_reader_manyv3_L0 ROUNDS)) := loop2 (G := fun n => fun_reader_manyv3_L0.g (fun_reader_manyv3_L0 n)) (fun n => fun_reader_manyv3_L0.step (fun_reader_manyv3_L0 n) fun_Getfn4) (.cons fun_Getfn4.ok .nil) [] (by kernel_rfl) .nil (fun _ _ => rfl)
/-- function 26: (*sheerleg/fun.reader).many -/
abbrev T_fun_reader_manyv3 : Type := Int → Int → Bool → Bool → (List Int) → Int → Int → Bool → Int → Int → (List Int) → (List (Int × Int × Unit)) → Tc2 → Tc0 → (Int → Int → Bool → Bool → (List Int) → Int → Int → Bool → Int → Int → (List Int) → Tc2 → (List (Int × Int × Unit)) → Tc0 → Option Bool) → Option Bool
noncomputable def fun_reader_manyv3.body (fun_reader_num : T_fun_reader_num) (fun_reader_manyv3_L0 : T_fun_reader_manyv3_L0) : T_fun_reader_manyv3 := fun n1140 n1141 b1142 b1143 ns1144 n1145 n1146 b1147 n1148 n1149 ns1150 ts1151 ts1152 ts1153 k1 =>
  (fun_reader_num (1 : Int) n1140 n1141 b1142 b1143 ns1144
  (fun n1154 n1155 n1156 b1157 b1158 ns1159 => (fun_reader_manyv3_L0 n1154 (0 : Int) n1155 n1156 b1157 b1158 ns1159 n1145 n1146 b1147 n1148 n1149 ns1150 ts1152 ts1151 ts1153
  (fun n1222 n1223 b1224 b1225 ns1226 n1227 n1228 b1229 n1230 n1231 ns1232 ts1233 ts1234 ts1235 => (k1 n1222 n1223 b1224 b1225 ns1226 n1227 n1228 b1229 n1230 n1231 ns1232 ts1233 ts1234 ts1235))
  (fun n1236 n1237 b1238 b1239 ns1240 n1241 n1242 b1243 n1244 n1245 ns1246 ts1247 ts1248 ts1249 => (k1 n1236 n1237 b1238 b1239 ns1240 n1241 n1242 b1243 n1244 n1245 ns1246 ts1247 ts1248 ts1249)))))
noncomputable def fun_reader_manyv3 : T_fun_reader_manyv3 := fun_reader_manyv3.body fun_reader_num (fun_reader_manyv3_L0 ROUNDS)
def fun_reader_manyv3.p : FPat := fp 26 (ps (pq [0, 0] 0 0) (pl (pf 33 pz (ps (pq [0, 3] 0 0) (ps (pq [0, 8] 0 0) pz))) pz)) (pl (po [0, 0] 67 2 (em (pl (pa (ps (pq [0, 1] 0 0) (pl (pd (.int .i64)) pz))) pz))) (pl (po [0, 1] 64 4 (em (pl (pa (ps (pr [0, 2]) (pl (pd (.int .i64)) (pl (pd .bool) (pl (pd .bool) pz))))) pz))) (pl (po [0, 2] 5 1 (ed (.int .u8))) (pl (po [0, 3] 27 9 (em (pl (pa (pl (pd (.int .i64)) (ps (pr [0, 4]) (pl (pd (.int .i64)) (pl (pd .bool) (pl (pd (.int .i64)) (pl (pd (.int .i64)) (ps (pr [0, 5]) (ps (pr [0, 6]) (ps (pr [0, 7]) pz)))))))))) pz))) (pl (po [0, 4] 3 1 (ed (.int .i64))) (pl (po [0, 5] 55 2 (ed Ty1)) (pl (po [0, 6] 57 5 (ed Ty5)) (pl (po [0, 7] 60 3 (ed Ty2)) (ps (po [0, 8] 65 1 (em (ps (pq [0, 0] 0 0) pz))) pz)))))))))
def fun_reader_manyv3.g (F : T_fun_reader_manyv3) (v : fun_reader_manyv3.p.T) (k : KR) : Option Bool := F v.2.1.1.1 v.2.2.1.1.1 v.2.2.1.1.2.1 v.2.2.1.1.2.2.1 v.2.2.2.1 v.2.2.2.2.1.1.1 v.2.2.2.2.1.1.2.1 v.2.2.2.2.1.1.2.2.1 v.2.2.2.2.1.1.2.2.2.1 v.2.2.2.2.1.1.2.2.2.2.1 v.2.2.2.2.2.1 v.2.2.2.2.2.2.1 v.2.2.2.2.2.2.2.1 v.2.2.2.2.2.2.2.2.1 (fun y0 y1 y2 y3 y4 y5 y6 y7 y8 y9 y10 y11 y12 y13 => k (.tup []) [([0, 0], ⟨67, 2, (.mix [(.agg [(.ptr [0, 1] 0 0), (.d ⟨(.int .i64), y0⟩)])])⟩), ([0, 1], ⟨64, 4, (.mix [(.agg [(.ref [0, 2]), (.d ⟨(.int .i64), y1⟩), (.d ⟨.bool, y2⟩), (.d ⟨.bool, y3⟩)])])⟩), ([0, 2], ⟨5, 1, (.data (.int .u8) y4)⟩), ([0, 3], ⟨27, 9, (.mix [(.agg [(.d ⟨(.int .i64), y5⟩), (.ref [0, 4]), (.d ⟨(.int .i64), y6⟩), (.d ⟨.bool, y7⟩), (.d ⟨(.int .i64), y8⟩), (.d ⟨(.int .i64), y9⟩), (.ref [1, 0]), (.ref [0, 6]), (.ref [1, 1])])])⟩), ([0, 4], ⟨3, 1, (.data (.int .i64) y10)⟩), ([0, 6], ⟨57, 5, (.data Ty5 y11)⟩), ([0, 8], ⟨65, 1, (.mix [(.ptr [0, 0] 0 0)])⟩), ([1, 0], ⟨55, 2, (.data Ty1 y12)⟩), ([1, 1], ⟨60, 3, (.data Ty2 y13)⟩)])
theorem fun_reader_manyv3.eq (F0 : T_fun_reader_num) (L0 : T_fun_reader_manyv3_L0) : ∀ v k, exF Try.f26 fun_reader_manyv3.p [⟨fun_reader_num.p, fun_reader_num.g F0⟩] [] [⟨0, fun_reader_manyv3_L0.p, fun_reader_manyv3_L0.g L0⟩] v k = fun_reader_manyv3.g (fun_reader_manyv3.body F0 L0) v k := fun v k => by kernel_rfl
theorem fun_reader_manyv3.ok : okF 8 fun_reader_manyv3.p (fun_reader_manyv3.g fun_reader_manyv3) := fn2 (fun_reader_manyv3.eq fun_reader_num (fun_reader_manyv3_L0 ROUNDS)) Try.func26 (by kernel_rfl) (.cons fun_reader_num.ok .nil) [0] (by kernel_rfl) (.cons fun_reader_manyv3_L0.ok .nil)
/-- function 10: sheerleg/fun.Get -/
abbrev T_fun_Get : Type := Int → Bool → Bool → (List Int) → (Tc3 → Int → Int → Bool → Bool → (List Int) → Option Bool) → Option Bool
noncomputable def fun_Get.body (fun_reader_num : T_fun_reader_num) (fun_reader_many : T_fun_reader_many) (fun_reader_yes : T_fun_reader_yes) (fun_reader_manyv1 : T_fun_reader_manyv1) (fun_reader_manyv2 : T_fun_reader_manyv2) (fun_reader_manyv3 : T_fun_reader_manyv3) : T_fun_Get := fun n886 b887 b888 ns889 k1 =>
  (fun_reader_num (1 : Int) (0 : Int) n886 b887 b888 ns889
  (fun n890 n891 n892 b893 b894 ns895 => (fun_reader_many n891 n892 b893 b894 ns895 n890 (0 : Int) false (0 : Int) (0 : Int)
  (fun n896 n897 b898 b899 ns900 n901 n902 b903 n904 n905 ns906 ts907 ts908 => (fun_reader_num (2 : Int) n896 n897 b898 b899 ns900
  (fun n909 n910 n911 b912 b913 ns914 => (fun_reader_yes n910 n911 b912 b913 ns914
  (fun b915 n916 n917 b918 b919 ns920 => (fun_reader_num (1 : Int) n916 n917 b918 b919 ns920
  (fun n921 n922 n923 b924 b925 ns926 => (fun_reader_num (1 : Int) n922 n923 b924 b925 ns926
  (fun n927 n928 n929 b930 b931 ns932 => (fun_reader_manyv1 n928 n929 b930 b931 ns932 n901 n909 b915 n921 n927 ns906 ts907 ts908
  (fun n933 n934 b935 b936 ns937 n938 n939 b940 n941 n942 ns943 ts944 ts945 => (fun_reader_manyv2 n933 n934 b935 b936 ns937 n938 n939 b940 n941 n942 ns943 ts944 ts945
  (fun n1126 n1127 b1128 b1129 ns1130 n1131 n1132 b1133 n1134 n1135 ns1136 ts1137 ts1138 ts1139 => (fun_reader_manyv3 n1126 n1127 b1128 b1129 ns1130 n1131 n1132 b1133 n1134 n1135 ns1136 ts1137 ts1139 ts1138
  (fun n1250 n1251 b1252 b1253 ns1254 n1255 n1256 b1257 n1258 n1259 ns1260 ts1261 ts1262 ts1263 => (cond_ (n1250 != (0 : Int)) (k1 (0, ([], (0, (false, (0, (0, ([], ([], ([], ()))))))))) n1250 n1251 b1252 b1253 ns1254) (k1 (n1255, (ns1260, (n1256, (b1257, (n1258, (n1259, (ts1262, (ts1261, (ts1263, ()))))))))) (0 : Int) n1251 b1252 b1253 ns1254))))))))))))))))))))
noncomputable def fun_Get : T_fun_Get := fun_Get.body fun_reader_num fun_reader_many fun_reader_yes fun_reader_manyv1 fun_reader_manyv2 fun_reader_manyv3
def fun_Get.p : FPat := fp 10 (ps (pq [0, 0] 0 0) pz) (pl (po [0, 0] 64 4 (em (pl (pa (ps (pr [0, 1]) (pl (pd (.int .i64)) (pl (pd .bool) (pl (pd .bool) pz))))) pz))) (pl (po [0, 1] 5 1 (ed (.int .u8))) pz))
def fun_Get.g (F : T_fun_Get) (v : fun_Get.p.T) (k : KR) : Option Bool := F v.2.1.1.1 v.2.1.1.2.1 v.2.1.1.2.2.1 v.2.2.1 (fun y0 y1 y2 y3 y4 y5 => k (.tup [(.d ⟨Ty7, y0⟩), (.d ⟨(.int .i64), y1⟩)]) [([0, 0], ⟨64, 4, (.mix [(.agg [(.ref [0, 1]), (.d ⟨(.int .i64), y2⟩), (.d ⟨.bool, y3⟩), (.d ⟨.bool, y4⟩)])])⟩), ([0, 1], ⟨5, 1, (.data (.int .u8) y5)⟩)])
theorem fun_Get.eq (F0 : T_fun_reader_num) (F1 : T_fun_reader_many) (F2 : T_fun_reader_yes) (F3 : T_fun_reader_manyv1) (F4 : T_fun_reader_manyv2) (F5 : T_fun_reader_manyv3) : ∀ v k, exF Try.f10 fun_Get.p [⟨fun_reader_num.p, fun_reader_num.g F0⟩, ⟨fun_reader_many.p, fun_reader_many.g F1⟩, ⟨fun_reader_yes.p, fun_reader_yes.g F2⟩, ⟨fun_reader_manyv1.p, fun_reader_manyv1.g F3⟩, ⟨fun_reader_manyv2.p, fun_reader_manyv2.g F4⟩, ⟨fun_reader_manyv3.p, fun_reader_manyv3.g F5⟩] [] [] v k = fun_Get.g (fun_Get.body F0 F1 F2 F3 F4 F5) v k := fun v k => by kernel_rfl
theorem fun_Get.ok : okF 9 fun_Get.p (fun_Get.g fun_Get) := fn2 (fun_Get.eq fun_reader_num fun_reader_many fun_reader_yes fun_reader_manyv1 fun_reader_manyv2 fun_reader_manyv3) Try.func10 (by kernel_rfl) (.cons fun_reader_num.ok (.cons fun_reader_many.ok (.cons fun_reader_yes.ok (.cons fun_reader_manyv1.ok (.cons fun_reader_manyv2.ok (.cons fun_reader_manyv3.ok .nil)))))) [] (by kernel_rfl) .nil
/-- function 38: the loop in block 0 -/
abbrev T_ref01_Ints_L0 : Type := (List Int) → Int → (Option Bool) → Option Bool
noncomputable def ref01_Ints_L0.body (ref01_Ints_L0 : T_ref01_Ints_L0) : T_ref01_Ints_L0 := fun ns1277 n1278 k1 =>
  (cond_ (decide (n1278 < (List.length ns1277 : Int))) (cond_ ((decide ((0 : Int) ≤ n1278)) && (decide (n1278 < (List.length ns1277 : Int)))) none none) (k1))
noncomputable def ref01_Ints_L0 : Nat → T_ref01_Ints_L0
  | 0 => fun _ _ _ => none
  | n + 1 => ref01_Ints_L0.body (ref01_Ints_L0 n)
def ref01_Ints_L0.p : LPat := lp 2 26 [0, 1, 5] (pl (pb 0 3 (.int .i64)) (ps (pk 0) (pl (pd (.int .i64)) pz))) pz
def ref01_Ints_L0.g (F : T_ref01_Ints_L0) (v : ref01_Ints_L0.p.T) (k : KE) : Option Bool := F v.1.1 v.1.2.1 (k (.exit 0) ⟨fillS 26 [] [], [], 2⟩)
theorem ref01_Ints_L0.step (S : T_ref01_Ints_L0) : ∀ v k, exR 38 Try.f38 0 ref01_Ints_L0.p [] [] [] (ref01_Ints_L0.g S) v k = ref01_Ints_L0.g (ref01_Ints_L0.body S) v k := fun v k => by kernel_rfl
theorem ref01_Ints_L0.ok : okL 38 Try.f38 0 0 ref01_Ints_L0.p (ref01_Ints_L0.g (ref01_Ints_L0 ROUNDS)) := loop2 (G := fun n => ref01_Ints_L0.g (ref01_Ints_L0 n)) (fun n => ref01_Ints_L0.step (ref01_Ints_L0 n)) .nil [] (by kernel_rfl) .nil (fun _ _ => rfl)
/-- function 38: sheerleg/sheerlegref01.Ints -/
abbrev T_ref01_Ints : Type := (List Int) → (Bool → Option Bool) → Option Bool
noncomputable def ref01_Ints.body (ref01_Ints_L0 : T_ref01_Ints_L0) : T_ref01_Ints := fun ns1276 k1 =>
  (cond_ ((List.length ns1276 : Int) != (0 : Int)) (k1 false) (ref01_Ints_L0 ns1276 (0 : Int)
  (k1 true)))
noncomputable def ref01_Ints : T_ref01_Ints := ref01_Ints.body (ref01_Ints_L0 ROUNDS)
def ref01_Ints.p : FPat := fp 38 (pl (pb 0 3 (.int .i64)) (ps (pk 0) pz)) pz
def ref01_Ints.g (F : T_ref01_Ints) (v : ref01_Ints.p.T) (k : KR) : Option Bool := F v.1.1 (fun y0 => k (.d ⟨.bool, y0⟩) [])
theorem ref01_Ints.eq (L0 : T_ref01_Ints_L0) : ∀ v k, exF Try.f38 ref01_Ints.p [] [] [⟨0, ref01_Ints_L0.p, ref01_Ints_L0.g L0⟩] v k = ref01_Ints.g (ref01_Ints.body L0) v k := fun v k => by kernel_rfl
theorem ref01_Ints.ok : okF 1 ref01_Ints.p (ref01_Ints.g ref01_Ints) := fn2 (ref01_Ints.eq (ref01_Ints_L0 ROUNDS)) Try.func38 (by kernel_rfl) .nil [0] (by kernel_rfl) (.cons ref01_Ints_L0.ok .nil)
/-- function 39: the loop in block 0 -/
abbrev T_ref15_SameRelocs_L0 : Type := Tc0 → Int → (Option Bool) → Option Bool
noncomputable def ref15_SameRelocs_L0.body (ref15_SameRelocs_L0 : T_ref15_SameRelocs_L0) : T_ref15_SameRelocs_L0 := fun ts1281 n1282 k1 =>
  (cond_ (decide (n1282 < (List.length ts1281 : Int))) (cond_ ((decide ((0 : Int) ≤ n1282)) && (decide (n1282 < (List.length ts1281 : Int)))) none none) (k1))
noncomputable def ref15_SameRelocs_L0 : Nat → T_ref15_SameRelocs_L0
  | 0 => fun _ _ _ => none
  | n + 1 => ref15_SameRelocs_L0.body (ref15_SameRelocs_L0 n)
def ref15_SameRelocs_L0.p : LPat := lp 2 26 [0, 1, 5] (pl (pb 0 60 Ty2) (ps (pk 0) (pl (pd (.int .i64)) pz))) pz
def ref15_SameRelocs_L0.g (F : T_ref15_SameRelocs_L0) (v : ref15_SameRelocs_L0.p.T) (k : KE) : Option Bool := F v.1.1 v.1.2.1 (k (.exit 0) ⟨fillS 26 [] [], [], 2⟩)
theorem ref15_SameRelocs_L0.step (S : T_ref15_SameRelocs_L0) : ∀ v k, exR 39 Try.f39 0 ref15_SameRelocs_L0.p [] [] [] (ref15_SameRelocs_L0.g S) v k = ref15_SameRelocs_L0.g (ref15_SameRelocs_L0.body S) v k := fun v k => by kernel_rfl
theorem ref15_SameRelocs_L0.ok : okL 39 Try.f39 0 0 ref15_SameRelocs_L0.p (ref15_SameRelocs_L0.g (ref15_SameRelocs_L0 ROUNDS)) := loop2 (G := fun n => ref15_SameRelocs_L0.g (ref15_SameRelocs_L0 n)) (fun n => ref15_SameRelocs_L0.step (ref15_SameRelocs_L0 n)) .nil [] (by kernel_rfl) .nil (fun _ _ => rfl)
/-- function 39: sheerleg/sheerlegref15.SameRelocs -/
abbrev T_ref15_SameRelocs : Type := Tc0 → (Bool → Option Bool) → Option Bool
noncomputable def ref15_SameRelocs.body (ref15_SameRelocs_L0 : T_ref15_SameRelocs_L0) : T_ref15_SameRelocs := fun ts1280 k1 =>
  (cond_ ((List.length ts1280 : Int) != (0 : Int)) (k1 false) (ref15_SameRelocs_L0 ts1280 (0 : Int)
  (k1 true)))
noncomputable def ref15_SameRelocs : T_ref15_SameRelocs := ref15_SameRelocs.body (ref15_SameRelocs_L0 ROUNDS)
def ref15_SameRelocs.p : FPat := fp 39 (pl (pb 0 60 Ty2) (ps (pk 0) pz)) pz
def ref15_SameRelocs.g (F : T_ref15_SameRelocs) (v : ref15_SameRelocs.p.T) (k : KR) : Option Bool := F v.1.1 (fun y0 => k (.d ⟨.bool, y0⟩) [])
theorem ref15_SameRelocs.eq (L0 : T_ref15_SameRelocs_L0) : ∀ v k, exF Try.f39 ref15_SameRelocs.p [] [] [⟨0, ref15_SameRelocs_L0.p, ref15_SameRelocs_L0.g L0⟩] v k = ref15_SameRelocs.g (ref15_SameRelocs.body L0) v k := fun v k => by kernel_rfl
theorem ref15_SameRelocs.ok : okF 1 ref15_SameRelocs.p (ref15_SameRelocs.g ref15_SameRelocs) := fn2 (ref15_SameRelocs.eq (ref15_SameRelocs_L0 ROUNDS)) Try.func39 (by kernel_rfl) .nil [0] (by kernel_rfl) (.cons ref15_SameRelocs_L0.ok .nil)
/-- function 12: the loop in block 0 -/
abbrev T_ref16_Same_L0 : Type := Int → Tc3 → Int → Int → Bool → Int → Int → (Tc3 → Int → Int → Bool → Int → Int → Option Bool) → Option Bool
noncomputable def ref16_Same_L0.body (ref16_Same_L0 : T_ref16_Same_L0) : T_ref16_Same_L0 := fun n1284 t1285 n1286 n1287 b1288 n1289 n1290 k1 =>
  (cond_ (decide (n1284 < (((List.length t1285.2.2.2.2.2.2.1) : Nat) : Int))) (cond_ ((decide ((0 : Int) ≤ n1284)) && (decide (n1284 < (((List.length t1285.2.2.2.2.2.2.1) : Nat) : Int)))) none none) (k1 t1285 n1286 n1287 b1288 n1289 n1290))
noncomputable def ref16_Same_L0 : Nat → T_ref16_Same_L0
  | 0 => fun _ _ _ _ _ _ _ _ => none
  | n + 1 => ref16_Same_L0.body (ref16_Same_L0 n)
def ref16_Same_L0.p : LPat := lp 2 110 [2, 3, 5] (ps (pq [1, 0] 0 0) (ps (pq [1, 1] 0 0) (pl (pd (.int .i64)) pz))) (pl (po [1, 0] 27 9 (es Ty7 (pl eh pz))) (pl (po [1, 1] 27 9 (em (pl (pa (pl (pd (.int .i64)) (ps (pk 0) (pl (pd (.int .i64)) (pl (pd .bool) (pl (pd (.int .i64)) (pl (pd (.int .i64)) (ps (pk 0) (ps (pk 0) (ps (pk 0) pz)))))))))) pz))) pz))
def ref16_Same_L0.g (F : T_ref16_Same_L0) (v : ref16_Same_L0.p.T) (k : KE) : Option Bool := F v.1.1 v.2.1.1 v.2.2.1.1.1 v.2.2.1.1.2.1 v.2.2.1.1.2.2.1 v.2.2.1.1.2.2.2.1 v.2.2.1.1.2.2.2.2.1 (fun y0 y1 y2 y3 y4 y5 => k (.exit 0) ⟨fillS 110 [2, 3] [(.ptr [1, 0] 0 0), (.ptr [1, 1] 0 0)], [([1, 0], ⟨27, 9, (.data Ty7 [y0])⟩), ([1, 1], ⟨27, 9, (.mix [(.agg [(.d ⟨(.int .i64), y1⟩), .nils, (.d ⟨(.int .i64), y2⟩), (.d ⟨.bool, y3⟩), (.d ⟨(.int .i64), y4⟩), (.d ⟨(.int .i64), y5⟩), .nils, .nils, .nils])])⟩)], 2⟩)
theorem ref16_Same_L0.step (S : T_ref16_Same_L0) : ∀ v k, exR 12 Try.f12 0 ref16_Same_L0.p [] [] [] (ref16_Same_L0.g S) v k = ref16_Same_L0.g (ref16_Same_L0.body S) v k := fun v k => by kernel_rfl
theorem ref16_Same_L0.ok : okL 12 Try.f12 0 0 ref16_Same_L0.p (ref16_Same_L0.g (ref16_Same_L0 ROUNDS)) := loop2 (G := fun n => ref16_Same_L0.g (ref16_Same_L0 n)) (fun n => ref16_Same_L0.step (ref16_Same_L0 n)) .nil [] (by kernel_rfl) .nil (fun _ _ => rfl)
/-- function 12: the loop in block 2 -/
abbrev T_ref16_Same_L2 : Type := Int → Tc3 → Int → Int → Bool → Int → Int → (Option Bool) → Option Bool
noncomputable def ref16_Same_L2.body (ref16_Same_L2 : T_ref16_Same_L2) : T_ref16_Same_L2 := fun n1297 t1298 n1299 n1300 b1301 n1302 n1303 k1 =>
  (cond_ (decide (n1297 < (((List.length t1298.2.2.2.2.2.2.2.1) : Nat) : Int))) (cond_ ((decide ((0 : Int) ≤ n1297)) && (decide (n1297 < (((List.length t1298.2.2.2.2.2.2.2.1) : Nat) : Int)))) none none) (k1))
noncomputable def ref16_Same_L2 : Nat → T_ref16_Same_L2
  | 0 => fun _ _ _ _ _ _ _ _ => none
  | n + 1 => ref16_Same_L2.body (ref16_Same_L2 n)
def ref16_Same_L2.p : LPat := lp 2 110 [2, 3, 6] (ps (pq [1, 0] 0 0) (ps (pq [1, 1] 0 0) (pl (pd (.int .i64)) pz))) (pl (po [1, 0] 27 9 (es Ty7 (pl eh pz))) (pl (po [1, 1] 27 9 (em (pl (pa (pl (pd (.int .i64)) (ps (pk 0) (pl (pd (.int .i64)) (pl (pd .bool) (pl (pd (.int .i64)) (pl (pd (.int .i64)) (ps (pk 0) (ps (pk 0) (ps (pk 0) pz)))))))))) pz))) pz))
def ref16_Same_L2.g (F : T_ref16_Same_L2) (v : ref16_Same_L2.p.T) (k : KE) : Option Bool := F v.1.1 v.2.1.1 v.2.2.1.1.1 v.2.2.1.1.2.1 v.2.2.1.1.2.2.1 v.2.2.1.1.2.2.2.1 v.2.2.1.1.2.2.2.2.1 (k (.exit 2) ⟨fillS 110 [] [], [], 2⟩)
theorem ref16_Same_L2.step (S : T_ref16_Same_L2) : ∀ v k, exR 12 Try.f12 2 ref16_Same_L2.p [] [] [] (ref16_Same_L2.g S) v k = ref16_Same_L2.g (ref16_Same_L2.body S) v k := fun v k => by kernel_rfl
theorem ref16_Same_L2.ok : okL 12 Try.f12 0 2 ref16_Same_L2.p (ref16_Same_L2.g (ref16_Same_L2 ROUNDS)) := loop2 (G := fun n => ref16_Same_L2.g (ref16_Same_L2 n)) (fun n => ref16_Same_L2.step (ref16_Same_L2 n)) .nil [] (by kernel_rfl) .nil (fun _ _ => rfl)
/-- function 12: sheerleg/sheerlegref16.Same -/
abbrev T_ref16_Same : Type := Tc3 → Int → Int → Bool → Int → Int → (Bool → Option Bool) → Option Bool
noncomputable def ref16_Same.body (ref01_Ints : T_ref01_Ints) (ref15_SameRelocs : T_ref15_SameRelocs) (ref16_Same_L0 : T_ref16_Same_L0) (ref16_Same_L2 : T_ref16_Same_L2) : T_ref16_Same := fun t1270 n1271 n1272 b1273 n1274 n1275 k1 =>
  (cond_ (! (t1270.1 != n1271)) (ref01_Ints t1270.2.1
  (fun b1279 => (cond_ (! (! b1279)) (cond_ (! (t1270.2.2.1 != n1272)) (cond_ (! (! (t1270.2.2.2.1 == b1273))) (cond_ (! (t1270.2.2.2.2.1 != n1274)) (cond_ (! (t1270.2.2.2.2.2.1 != n1275)) (cond_ (! ((((List.length t1270.2.2.2.2.2.2.1) : Nat) : Int) != (0 : Int))) (cond_ (! ((((List.length t1270.2.2.2.2.2.2.2.1) : Nat) : Int) != (0 : Int))) (ref15_SameRelocs t1270.2.2.2.2.2.2.2.2.1
  (fun b1283 => (cond_ (! b1283) (k1 false) (ref16_Same_L0 (0 : Int) t1270 n1271 n1272 b1273 n1274 n1275
  (fun t1291 n1292 n1293 b1294 n1295 n1296 => (ref16_Same_L2 (0 : Int) t1291 n1292 n1293 b1294 n1295 n1296
  (k1 true))))))) (k1 false)) (k1 false)) (k1 false)) (k1 false)) (k1 false)) (k1 false)) (k1 false)))) (k1 false))
noncomputable def ref16_Same : T_ref16_Same := ref16_Same.body ref01_Ints ref15_SameRelocs (ref16_Same_L0 ROUNDS) (ref16_Same_L2 ROUNDS)
def ref16_Same.p : FPat := fp 12 (pl (pd Ty7) (pl (pa (pl (pd (.int .i64)) (ps (pk 0) (pl (pd (.int .i64)) (pl (pd .bool) (pl (pd (.int .i64)) (pl (pd (.int .i64)) (ps (pk 0) (ps (pk 0) (ps (pk 0) pz)))))))))) pz)) pz
def ref16_Same.g (F : T_ref16_Same) (v : ref16_Same.p.T) (k : KR) : Option Bool := F v.1.1 v.1.2.1.1 v.1.2.1.2.1 v.1.2.1.2.2.1 v.1.2.1.2.2.2.1 v.1.2.1.2.2.2.2.1 (fun y0 => k (.d ⟨.bool, y0⟩) [])
theorem ref16_Same.eq (F0 : T_ref01_Ints) (F1 : T_ref15_SameRelocs) (L0 : T_ref16_Same_L0) (L1 : T_ref16_Same_L2) : ∀ v k, exF Try.f12 ref16_Same.p [⟨ref01_Ints.p, ref01_Ints.g F0⟩, ⟨ref15_SameRelocs.p, ref15_SameRelocs.g F1⟩] [] [⟨0, ref16_Same_L0.p, ref16_Same_L0.g L0⟩, ⟨2, ref16_Same_L2.p, ref16_Same_L2.g L1⟩] v k = ref16_Same.g (ref16_Same.body F0 F1 L0 L1) v k := fun v k => by kernel_rfl
theorem ref16_Same.ok : okF 2 ref16_Same.p (ref16_Same.g ref16_Same) := fn2 (ref16_Same.eq ref01_Ints ref15_SameRelocs (ref16_Same_L0 ROUNDS) (ref16_Same_L2 ROUNDS)) Try.func12 (by kernel_rfl) (.cons ref01_Ints.ok (.cons ref15_SameRelocs.ok .nil)) [0, 2] (by kernel_rfl) (.cons ref16_Same_L0.ok (.cons ref16_Same_L2.ok .nil))
/-- function 38: the loop in block 0 -/
abbrev T_ref01_Intsv1_L0 : Type := (List Int) → (List Int) → Int → (Bool → Option Bool) → (Option Bool) → Option Bool
noncomputable def ref01_Intsv1_L0.body (ref01_Intsv1_L0 : T_ref01_Intsv1_L0) : T_ref01_Intsv1_L0 := fun ns1319 ns1320 n1321 k1 k2 =>
  (cond_ (decide (n1321 < (List.length ns1319 : Int))) (cond_ ((decide ((0 : Int) ≤ n1321)) && (decide (n1321 < (List.length ns1319 : Int)))) (cond_ ((decide ((0 : Int) ≤ n1321)) && (decide (n1321 < (List.length ns1320 : Int)))) (cond_ ((List.getD ns1319 (Int.toNat n1321) (0 : Int)) != (List.getD ns1320 (Int.toNat n1321) (0 : Int))) (k1 false) (ref01_Intsv1_L0 ns1319 ns1320 (IntKind.wrap .i64 (n1321 + (1 : Int))) k1 k2)) none) none) (k2))
noncomputable def ref01_Intsv1_L0 : Nat → T_ref01_Intsv1_L0
  | 0 => fun _ _ _ _ _ => none
  | n + 1 => ref01_Intsv1_L0.body (ref01_Intsv1_L0 n)
def ref01_Intsv1_L0.p : LPat := lp 2 26 [0, 1, 5] (pl (pb 0 3 (.int .i64)) (pl (pb 0 3 (.int .i64)) (pl (pd (.int .i64)) pz))) pz
def ref01_Intsv1_L0.g (F : T_ref01_Intsv1_L0) (v : ref01_Intsv1_L0.p.T) (k : KE) : Option Bool := F v.1.1 v.1.2.1 v.1.2.2.1 (fun y0 => k .ret ⟨fillS 26 [4] [(.d ⟨.bool, y0⟩)], [], 2⟩) (k (.exit 0) ⟨fillS 26 [] [], [], 2⟩)
theorem ref01_Intsv1_L0.step (S : T_ref01_Intsv1_L0) : ∀ v k, exR 38 Try.f38 0 ref01_Intsv1_L0.p [] [] [] (ref01_Intsv1_L0.g S) v k = ref01_Intsv1_L0.g (ref01_Intsv1_L0.body S) v k := fun v k => by kernel_rfl
theorem ref01_Intsv1_L0.ok : okL 38 Try.f38 0 0 ref01_Intsv1_L0.p (ref01_Intsv1_L0.g (ref01_Intsv1_L0 ROUNDS)) := loop2 (G := fun n => ref01_Intsv1_L0.g (ref01_Intsv1_L0 n)) (fun n => ref01_Intsv1_L0.step (ref01_Intsv1_L0 n)) .nil [] (by kernel_rfl) .nil (fun _ _ => rfl)
/-- function 38: sheerleg/sheerlegref01.Ints -/
abbrev T_ref01_Intsv1 : Type := (List Int) → (List Int) → (Bool → Option Bool) → Option Bool
noncomputable def ref01_Intsv1.body (ref01_Intsv1_L0 : T_ref01_Intsv1_L0) : T_ref01_Intsv1 := fun ns1317 ns1318 k1 =>
  (cond_ ((List.length ns1317 : Int) != (List.length ns1318 : Int)) (k1 false) (ref01_Intsv1_L0 ns1317 ns1318 (0 : Int)
  (fun b1322 => (k1 b1322))
  (k1 true)))
noncomputable def ref01_Intsv1 : T_ref01_Intsv1 := ref01_Intsv1.body (ref01_Intsv1_L0 ROUNDS)
def ref01_Intsv1.p : FPat := fp 38 (pl (pb 0 3 (.int .i64)) (pl (pb 0 3 (.int .i64)) pz)) pz
def ref01_Intsv1.g (F : T_ref01_Intsv1) (v : ref01_Intsv1.p.T) (k : KR) : Option Bool := F v.1.1 v.1.2.1 (fun y0 => k (.d ⟨.bool, y0⟩) [])
theorem ref01_Intsv1.eq (L0 : T_ref01_Intsv1_L0) : ∀ v k, exF Try.f38 ref01_Intsv1.p [] [] [⟨0, ref01_Intsv1_L0.p, ref01_Intsv1_L0.g L0⟩] v k = ref01_Intsv1.g (ref01_Intsv1.body L0) v k := fun v k => by kernel_rfl
theorem ref01_Intsv1.ok : okF 1 ref01_Intsv1.p (ref01_Intsv1.g ref01_Intsv1) := fn2 (ref01_Intsv1.eq (ref01_Intsv1_L0 ROUNDS)) Try.func38 (by kernel_rfl) .nil [0] (by kernel_rfl) (.cons ref01_Intsv1_L0.ok .nil)
/-- function 39: the loop in block 0 -/
abbrev T_ref15_SameRelocsv1_L0 : Type := Tc0 → Tc0 → Int → (Bool → Option Bool) → (Option Bool) → Option Bool
noncomputable def ref15_SameRelocsv1_L0.body (ref15_SameRelocsv1_L0 : T_ref15_SameRelocsv1_L0) : T_ref15_SameRelocsv1_L0 := fun ts1326 ts1327 n1328 k1 k2 =>
  (cond_ (decide (n1328 < (List.length ts1326 : Int))) (cond_ ((decide ((0 : Int) ≤ n1328)) && (decide (n1328 < (List.length ts1326 : Int)))) (cond_ ((decide ((0 : Int) ≤ n1328)) && (decide (n1328 < (List.length ts1327 : Int)))) (cond_ (! (((List.getD ts1326 (Int.toNat n1328) (0, (0, (false, ())))).1 == (List.getD ts1327 (Int.toNat n1328) (0, (0, (false, ())))).1) && (((List.getD ts1326 (Int.toNat n1328) (0, (0, (false, ())))).2.1 == (List.getD ts1327 (Int.toNat n1328) (0, (0, (false, ())))).2.1) && (((List.getD ts1326 (Int.toNat n1328) (0, (0, (false, ())))).2.2.1 == (List.getD ts1327 (Int.toNat n1328) (0, (0, (false, ())))).2.2.1) && true)))) (k1 false) (ref15_SameRelocsv1_L0 ts1326 ts1327 (IntKind.wrap .i64 (n1328 + (1 : Int))) k1 k2)) none) none) (k2))
noncomputable def ref15_SameRelocsv1_L0 : Nat → T_ref15_SameRelocsv1_L0
  | 0 => fun _ _ _ _ _ => none
  | n + 1 => ref15_SameRelocsv1_L0.body (ref15_SameRelocsv1_L0 n)
def ref15_SameRelocsv1_L0.p : LPat := lp 2 26 [0, 1, 5] (pl (pb 0 60 Ty2) (pl (pb 0 60 Ty2) (pl (pd (.int .i64)) pz))) pz
def ref15_SameRelocsv1_L0.g (F : T_ref15_SameRelocsv1_L0) (v : ref15_SameRelocsv1_L0.p.T) (k : KE) : Option Bool := F v.1.1 v.1.2.1 v.1.2.2.1 (fun y0 => k .ret ⟨fillS 26 [4] [(.d ⟨.bool, y0⟩)], [], 2⟩) (k (.exit 0) ⟨fillS 26 [] [], [], 2⟩)
theorem ref15_SameRelocsv1_L0.step (S : T_ref15_SameRelocsv1_L0) : ∀ v k, exR 39 Try.f39 0 ref15_SameRelocsv1_L0.p [] [] [] (ref15_SameRelocsv1_L0.g S) v k = ref15_SameRelocsv1_L0.g (ref15_SameRelocsv1_L0.body S) v k := fun v k => by kernel_rfl
theorem ref15_SameRelocsv1_L0.ok : okL 39 Try.f39 0 0 ref15_SameRelocsv1_L0.p (ref15_SameRelocsv1_L0.g (ref15_SameRelocsv1_L0 ROUNDS)) := loop2 (G := fun n => ref15_SameRelocsv1_L0.g (ref15_SameRelocsv1_L0 n)) (fun n => ref15_SameRelocsv1_L0.step (ref15_SameRelocsv1_L0 n)) .nil [] (by kernel_rfl) .nil (fun _ _ => rfl)
/-- function 39: sheerleg/sheerlegref15.SameRelocs -/
abbrev T_ref15_SameRelocsv1 : Type := Tc0 → Tc0 → (Bool → Option Bool) → Option Bool
noncomputable def ref15_SameRelocsv1.body (ref15_SameRelocsv1_L0 : T_ref15_SameRelocsv1_L0) : T_ref15_SameRelocsv1 := fun ts1324 ts1325 k1 =>
  (cond_ ((List.length ts1324 : Int) != (List.length ts1325 : Int)) (k1 false) (ref15_SameRelocsv1_L0 ts1324 ts1325 (0 : Int)
  (fun b1329 => (k1 b1329))
  (k1 true)))
noncomputable def ref15_SameRelocsv1 : T_ref15_SameRelocsv1 := ref15_SameRelocsv1.body (ref15_SameRelocsv1_L0 ROUNDS)
def ref15_SameRelocsv1.p : FPat := fp 39 (pl (pb 0 60 Ty2) (pl (pb 0 60 Ty2) pz)) pz
def ref15_SameRelocsv1.g (F : T_ref15_SameRelocsv1) (v : ref15_SameRelocsv1.p.T) (k : KR) : Option Bool := F v.1.1 v.1.2.1 (fun y0 => k (.d ⟨.bool, y0⟩) [])
theorem ref15_SameRelocsv1.eq (L0 : T_ref15_SameRelocsv1_L0) : ∀ v k, exF Try.f39 ref15_SameRelocsv1.p [] [] [⟨0, ref15_SameRelocsv1_L0.p, ref15_SameRelocsv1_L0.g L0⟩] v k = ref15_SameRelocsv1.g (ref15_SameRelocsv1.body L0) v k := fun v k => by kernel_rfl
theorem ref15_SameRelocsv1.ok : okF 1 ref15_SameRelocsv1.p (ref15_SameRelocsv1.g ref15_SameRelocsv1) := fn2 (ref15_SameRelocsv1.eq (ref15_SameRelocsv1_L0 ROUNDS)) Try.func39 (by kernel_rfl) .nil [0] (by kernel_rfl) (.cons ref15_SameRelocsv1_L0.ok .nil)
/-- function 12: the loop in block 0 -/
abbrev T_ref16_Samev1_L0 : Type := Int → Tc3 → Tc3 → (Bool → Option Bool) → (Tc3 → Tc3 → Option Bool) → Option Bool
noncomputable def ref16_Samev1_L0.body (ref16_Samev1_L0 : T_ref16_Samev1_L0) : T_ref16_Samev1_L0 := fun n1331 t1332 t1333 k1 k2 =>
  (cond_ (decide (n1331 < (((List.length t1332.2.2.2.2.2.2.1) : Nat) : Int))) (cond_ ((decide ((0 : Int) ≤ n1331)) && (decide (n1331 < (((List.length t1332.2.2.2.2.2.2.1) : Nat) : Int)))) (cond_ ((decide ((0 : Int) ≤ n1331)) && (decide (n1331 < (((List.length t1333.2.2.2.2.2.2.1) : Nat) : Int)))) (cond_ (! (((List.getD t1332.2.2.2.2.2.2.1 (Int.toNat n1331) (0, (0, ()))).1 == (List.getD t1333.2.2.2.2.2.2.1 (Int.toNat n1331) (0, (0, ()))).1) && (((List.getD t1332.2.2.2.2.2.2.1 (Int.toNat n1331) (0, (0, ()))).2.1 == (List.getD t1333.2.2.2.2.2.2.1 (Int.toNat n1331) (0, (0, ()))).2.1) && true))) (k1 false) (ref16_Samev1_L0 (IntKind.wrap .i64 (n1331 + (1 : Int))) t1332 t1333 k1 k2)) none) none) (k2 t1332 t1333))
noncomputable def ref16_Samev1_L0 : Nat → T_ref16_Samev1_L0
  | 0 => fun _ _ _ _ _ => none
  | n + 1 => ref16_Samev1_L0.body (ref16_Samev1_L0 n)
def ref16_Samev1_L0.p : LPat := lp 2 110 [2, 3, 5] (ps (pq [1, 0] 0 0) (ps (pq [1, 1] 0 0) (pl (pd (.int .i64)) pz))) (pl (po [1, 0] 27 9 (es Ty7 (pl eh pz))) (pl (po [1, 1] 27 9 (es Ty7 (pl eh pz))) pz))
def ref16_Samev1_L0.g (F : T_ref16_Samev1_L0) (v : ref16_Samev1_L0.p.T) (k : KE) : Option Bool := F v.1.1 v.2.1.1 v.2.2.1.1 (fun y0 => k .ret ⟨fillS 110 [4] [(.d ⟨.bool, y0⟩)], [], 2⟩) (fun y0 y1 => k (.exit 0) ⟨fillS 110 [2, 3] [(.ptr [1, 0] 0 0), (.ptr [1, 1] 0 0)], [([1, 0], ⟨27, 9, (.data Ty7 [y0])⟩), ([1, 1], ⟨27, 9, (.data Ty7 [y1])⟩)], 2⟩)
theorem ref16_Samev1_L0.step (S : T_ref16_Samev1_L0) : ∀ v k, exR 12 Try.f12 0 ref16_Samev1_L0.p [] [] [] (ref16_Samev1_L0.g S) v k = ref16_Samev1_L0.g (ref16_Samev1_L0.body S) v k := fun v k => by kernel_rfl
theorem ref16_Samev1_L0.ok : okL 12 Try.f12 0 0 ref16_Samev1_L0.p (ref16_Samev1_L0.g (ref16_Samev1_L0 ROUNDS)) := loop2 (G := fun n => ref16_Samev1_L0.g (ref16_Samev1_L0 n)) (fun n => ref16_Samev1_L0.step (ref16_Samev1_L0 n)) .nil [] (by kernel_rfl) .nil (fun _ _ => rfl)
/-- function 12: the loop in block 2 -/
abbrev T_ref16_Samev1_L2 : Type := Int → Tc3 → Tc3 → (Bool → Option Bool) → (Option Bool) → Option Bool
noncomputable def ref16_Samev1_L2.body (ref16_Samev1_L2 : T_ref16_Samev1_L2) : T_ref16_Samev1_L2 := fun n1337 t1338 t1339 k1 k2 =>
  (cond_ (decide (n1337 < (((List.length t1338.2.2.2.2.2.2.2.1) : Nat) : Int))) (cond_ ((decide ((0 : Int) ≤ n1337)) && (decide (n1337 < (((List.length t1338.2.2.2.2.2.2.2.1) : Nat) : Int)))) (cond_ ((decide ((0 : Int) ≤ n1337)) && (decide (n1337 < (((List.length t1339.2.2.2.2.2.2.2.1) : Nat) : Int)))) (cond_ (! (((List.getD t1338.2.2.2.2.2.2.2.1 (Int.toNat n1337) (0, (0, (0, (0, (0, ())))))).1 == (List.getD t1339.2.2.2.2.2.2.2.1 (Int.toNat n1337) (0, (0, (0, (0, (0, ())))))).1) && (((List.getD t1338.2.2.2.2.2.2.2.1 (Int.toNat n1337) (0, (0, (0, (0, (0, ())))))).2.1 == (List.getD t1339.2.2.2.2.2.2.2.1 (Int.toNat n1337) (0, (0, (0, (0, (0, ())))))).2.1) && (((List.getD t1338.2.2.2.2.2.2.2.1 (Int.toNat n1337) (0, (0, (0, (0, (0, ())))))).2.2.1 == (List.getD t1339.2.2.2.2.2.2.2.1 (Int.toNat n1337) (0, (0, (0, (0, (0, ())))))).2.2.1) && (((List.getD t1338.2.2.2.2.2.2.2.1 (Int.toNat n1337) (0, (0, (0, (0, (0, ())))))).2.2.2.1 == (List.getD t1339.2.2.2.2.2.2.2.1 (Int.toNat n1337) (0, (0, (0, (0, (0, ())))))).2.2.2.1) && (((List.getD t1338.2.2.2.2.2.2.2.1 (Int.toNat n1337) (0, (0, (0, (0, (0, ())))))).2.2.2.2.1 == (List.getD t1339.2.2.2.2.2.2.2.1 (Int.toNat n1337) (0, (0, (0, (0, (0, ())))))).2.2.2.2.1) && true)))))) (k1 false) (ref16_Samev1_L2 (IntKind.wrap .i64 (n1337 + (1 : Int))) t1338 t1339 k1 k2)) none) none) (k2))
noncomputable def ref16_Samev1_L2 : Nat → T_ref16_Samev1_L2
  | 0 => fun _ _ _ _ _ => none
  | n + 1 => ref16_Samev1_L2.body (ref16_Samev1_L2 n)
def ref16_Samev1_L2.p : LPat := lp 2 110 [2, 3, 6] (ps (pq [1, 0] 0 0) (ps (pq [1, 1] 0 0) (pl (pd (.int .i64)) pz))) (pl (po [1, 0] 27 9 (es Ty7 (pl eh pz))) (pl (po [1, 1] 27 9 (es Ty7 (pl eh pz))) pz))
def ref16_Samev1_L2.g (F : T_ref16_Samev1_L2) (v : ref16_Samev1_L2.p.T) (k : KE) : Option Bool := F v.1.1 v.2.1.1 v.2.2.1.1 (fun y0 => k .ret ⟨fillS 110 [4] [(.d ⟨.bool, y0⟩)], [], 2⟩) (k (.exit 2) ⟨fillS 110 [] [], [], 2⟩)
theorem ref16_Samev1_L2.step (S : T_ref16_Samev1_L2) : ∀ v k, exR 12 Try.f12 2 ref16_Samev1_L2.p [] [] [] (ref16_Samev1_L2.g S) v k = ref16_Samev1_L2.g (ref16_Samev1_L2.body S) v k := fun v k => by kernel_rfl
theorem ref16_Samev1_L2.ok : okL 12 Try.f12 0 2 ref16_Samev1_L2.p (ref16_Samev1_L2.g (ref16_Samev1_L2 ROUNDS)) := loop2 (G := fun n => ref16_Samev1_L2.g (ref16_Samev1_L2 n)) (fun n => ref16_Samev1_L2.step (ref16_Samev1_L2 n)) .nil [] (by kernel_rfl) .nil (fun _ _ => rfl)
/-- function 12: sheerleg/sheerlegref16.Same -/
abbrev T_ref16_Samev1 : Type := Tc3 → Tc3 → (Bool → Option Bool) → Option Bool
noncomputable def ref16_Samev1.body (ref01_Intsv1 : T_ref01_Intsv1) (ref15_SameRelocsv1 : T_ref15_SameRelocsv1) (ref16_Samev1_L0 : T_ref16_Samev1_L0) (ref16_Samev1_L2 : T_ref16_Samev1_L2) : T_ref16_Samev1 := fun t1315 t1316 k1 =>
  (cond_ (! (t1315.1 != t1316.1)) (ref01_Intsv1 t1315.2.1 t1316.2.1
  (fun b1323 => (cond_ (! (! b1323)) (cond_ (! (t1315.2.2.1 != t1316.2.2.1)) (cond_ (! (! (t1315.2.2.2.1 == t1316.2.2.2.1))) (cond_ (! (t1315.2.2.2.2.1 != t1316.2.2.2.2.1)) (cond_ (! (t1315.2.2.2.2.2.1 != t1316.2.2.2.2.2.1)) (cond_ (! ((((List.length t1315.2.2.2.2.2.2.1) : Nat) : Int) != (((List.length t1316.2.2.2.2.2.2.1) : Nat) : Int))) (cond_ (! ((((List.length t1315.2.2.2.2.2.2.2.1) : Nat) : Int) != (((List.length t1316.2.2.2.2.2.2.2.1) : Nat) : Int))) (ref15_SameRelocsv1 t1315.2.2.2.2.2.2.2.2.1 t1316.2.2.2.2.2.2.2.2.1
  (fun b1330 => (cond_ (! b1330) (k1 false) (ref16_Samev1_L0 (0 : Int) t1315 t1316
  (fun b1334 => (k1 b1334))
  (fun t1335 t1336 => (ref16_Samev1_L2 (0 : Int) t1335 t1336
  (fun b1340 => (k1 b1340))
  (k1 true))))))) (k1 false)) (k1 false)) (k1 false)) (k1 false)) (k1 false)) (k1 false)) (k1 false)))) (k1 false))
noncomputable def ref16_Samev1 : T_ref16_Samev1 := ref16_Samev1.body ref01_Intsv1 ref15_SameRelocsv1 (ref16_Samev1_L0 ROUNDS) (ref16_Samev1_L2 ROUNDS)
def ref16_Samev1.p : FPat := fp 12 (pl (pd Ty7) (pl (pd Ty7) pz)) pz
def ref16_Samev1.g (F : T_ref16_Samev1) (v : ref16_Samev1.p.T) (k : KR) : Option Bool := F v.1.1 v.1.2.1 (fun y0 => k (.d ⟨.bool, y0⟩) [])
theorem ref16_Samev1.eq (F0 : T_ref01_Intsv1) (F1 : T_ref15_SameRelocsv1) (L0 : T_ref16_Samev1_L0) (L1 : T_ref16_Samev1_L2) : ∀ v k, exF Try.f12 ref16_Samev1.p [⟨ref01_Intsv1.p, ref01_Intsv1.g F0⟩, ⟨ref15_SameRelocsv1.p, ref15_SameRelocsv1.g F1⟩] [] [⟨0, ref16_Samev1_L0.p, ref16_Samev1_L0.g L0⟩, ⟨2, ref16_Samev1_L2.p, ref16_Samev1_L2.g L1⟩] v k = ref16_Samev1.g (ref16_Samev1.body F0 F1 L0 L1) v k := fun v k => by kernel_rfl
theorem ref16_Samev1.ok : okF 2 ref16_Samev1.p (ref16_Samev1.g ref16_Samev1) := fn2 (ref16_Samev1.eq ref01_Intsv1 ref15_SameRelocsv1 (ref16_Samev1_L0 ROUNDS) (ref16_Samev1_L2 ROUNDS)) Try.func12 (by kernel_rfl) (.cons ref01_Intsv1.ok (.cons ref15_SameRelocsv1.ok .nil)) [0, 2] (by kernel_rfl) (.cons ref16_Samev1_L0.ok (.cons ref16_Samev1_L2.ok .nil))
/-- function 13: (*sheerleg/octet.Reader).At -/
abbrev T_octet_Reader_At : Type := Int → Bool → Bool → (List Int) → (Int → Int → Bool → Bool → (List Int) → Option Bool) → Option Bool
noncomputable def octet_Reader_At.body : T_octet_Reader_At := fun n1342 b1343 b1344 ns1345 k1 =>
  (k1 n1342 n1342 b1343 b1344 ns1345)
noncomputable def octet_Reader_At : T_octet_Reader_At := octet_Reader_At.body
def octet_Reader_At.p : FPat := fp 13 (ps (pq [0, 0] 0 0) pz) (pl (po [0, 0] 64 4 (em (pl (pa (ps (pr [0, 1]) (pl (pd (.int .i64)) (pl (pd .bool) (pl (pd .bool) pz))))) pz))) (pl (po [0, 1] 5 1 (ed (.int .u8))) pz))
def octet_Reader_At.g (F : T_octet_Reader_At) (v : octet_Reader_At.p.T) (k : KR) : Option Bool := F v.2.1.1.1 v.2.1.1.2.1 v.2.1.1.2.2.1 v.2.2.1 (fun y0 y1 y2 y3 y4 => k (.d ⟨(.int .i64), y0⟩) [([0, 0], ⟨64, 4, (.mix [(.agg [(.ref [0, 1]), (.d ⟨(.int .i64), y1⟩), (.d ⟨.bool, y2⟩), (.d ⟨.bool, y3⟩)])])⟩), ([0, 1], ⟨5, 1, (.data (.int .u8) y4)⟩)])
theorem octet_Reader_At.eq : ∀ v k, exF Try.f13 octet_Reader_At.p [] [] [] v k = octet_Reader_At.g (octet_Reader_At.body) v k := fun v k => by kernel_rfl
theorem octet_Reader_At.ok : okF 1 octet_Reader_At.p (octet_Reader_At.g octet_Reader_At) := fn2 (octet_Reader_At.eq) Try.func13 (by kernel_rfl) .nil [] (by kernel_rfl) .nil
/-- function 4: sheerleg/sheerleglaw16.FunBack -/
abbrev T_law16_FunBack : Type := Tc3 → (List Int) → Int → (Bool → Option Bool) → Option Bool
noncomputable def law16_FunBack.body (ref16_Few : T_ref16_Few) (fun_Check : T_fun_Check) (law16_known : T_law16_known) (fun_Put : T_fun_Put) (octet_New : T_octet_New) (fun_Get : T_fun_Get) (ref16_Same : T_ref16_Same) (ref16_Samev1 : T_ref16_Samev1) (octet_Reader_At : T_octet_Reader_At) : T_law16_FunBack := fun t875 ns876 n877 k1 =>
  (ref16_Few t875
  (fun b878 => (cond_ (! (! b878)) (cond_ (! (decide ((List.length ns876 : Int) > (100 : Int)))) (fun_Check t875
  (fun n879 => (cond_ (n879 != (0 : Int)) (law16_known
  (fun b880 => (k1 b880))) (fun_Put t875
  (fun ns881 => (cond_ (decide (n877 ≥ (0 : Int))) (cond_ (decide (n877 < (List.length ns881 : Int))) (cond_ ((true && (decide ((0 : Int) ≤ n877))) && (decide (n877 ≤ (List.length ns881 : Int)))) (octet_New (List.take (Int.toNat (n877 - (0 : Int))) (List.drop (0 : Nat) ns881))
  (fun n882 b883 b884 ns885 => (fun_Get n882 b883 b884 ns885
  (fun t1264 n1265 n1266 b1267 b1268 ns1269 => (cond_ (! (n1265 != (5 : Int))) (ref16_Same (t1264.1, (t1264.2.1, (t1264.2.2.1, (t1264.2.2.2.1, (t1264.2.2.2.2.1, (t1264.2.2.2.2.2.1, (t1264.2.2.2.2.2.2.1, (t1264.2.2.2.2.2.2.2.1, (t1264.2.2.2.2.2.2.2.2.1, ()))))))))) (0 : Int) (0 : Int) false (0 : Int) (0 : Int)
  (fun b1304 => (cond_ (! b1304) (k1 false) (cond_ (Nat.ble (((List.length ns881) + (List.length ns876)) * (1 : Nat)) (140737488355328 : Nat)) (octet_New (ns881 ++ ns876)
  (fun n1305 b1306 b1307 ns1308 => (fun_Get n1305 b1306 b1307 ns1308
  (fun t1309 n1310 n1311 b1312 b1313 ns1314 => (ref16_Samev1 (t1309.1, (t1309.2.1, (t1309.2.2.1, (t1309.2.2.2.1, (t1309.2.2.2.2.1, (t1309.2.2.2.2.2.1, (t1309.2.2.2.2.2.2.1, (t1309.2.2.2.2.2.2.2.1, (t1309.2.2.2.2.2.2.2.2.1, ()))))))))) t875
  (fun b1341 => (cond_ b1341 (cond_ (n1310 == (0 : Int)) (octet_Reader_At n1311 b1312 b1313 ns1314
  (fun n1346 n1347 b1348 b1349 ns1350 => (cond_ (n1346 == (List.length ns881 : Int)) (law16_known
  (fun b1351 => (k1 b1351))) (k1 false)))) (k1 false)) (k1 false)))))))) none)))) (k1 false)))))) none) (cond_ (Nat.ble (((List.length ns881) + (List.length ns876)) * (1 : Nat)) (140737488355328 : Nat)) (octet_New (ns881 ++ ns876)
  (fun n1352 b1353 b1354 ns1355 => (fun_Get n1352 b1353 b1354 ns1355
  (fun t1356 n1357 n1358 b1359 b1360 ns1361 => (ref16_Samev1 (t1356.1, (t1356.2.1, (t1356.2.2.1, (t1356.2.2.2.1, (t1356.2.2.2.2.1, (t1356.2.2.2.2.2.1, (t1356.2.2.2.2.2.2.1, (t1356.2.2.2.2.2.2.2.1, (t1356.2.2.2.2.2.2.2.2.1, ()))))))))) t875
  (fun b1362 => (cond_ b1362 (cond_ (n1357 == (0 : Int)) (octet_Reader_At n1358 b1359 b1360 ns1361
  (fun n1363 n1364 b1365 b1366 ns1367 => (cond_ (n1363 == (List.length ns881 : Int)) (law16_known
  (fun b1368 => (k1 b1368))) (k1 false)))) (k1 false)) (k1 false)))))))) none)) (cond_ (Nat.ble (((List.length ns881) + (List.length ns876)) * (1 : Nat)) (140737488355328 : Nat)) (octet_New (ns881 ++ ns876)
  (fun n1369 b1370 b1371 ns1372 => (fun_Get n1369 b1370 b1371 ns1372
  (fun t1373 n1374 n1375 b1376 b1377 ns1378 => (ref16_Samev1 (t1373.1, (t1373.2.1, (t1373.2.2.1, (t1373.2.2.2.1, (t1373.2.2.2.2.1, (t1373.2.2.2.2.2.1, (t1373.2.2.2.2.2.2.1, (t1373.2.2.2.2.2.2.2.1, (t1373.2.2.2.2.2.2.2.2.1, ()))))))))) t875
  (fun b1379 => (cond_ b1379 (cond_ (n1374 == (0 : Int)) (octet_Reader_At n1375 b1376 b1377 ns1378
  (fun n1380 n1381 b1382 b1383 ns1384 => (cond_ (n1380 == (List.length ns881 : Int)) (law16_known
  (fun b1385 => (k1 b1385))) (k1 false)))) (k1 false)) (k1 false)))))))) none))))))) (law16_known
  (fun b1386 => (k1 b1386)))) (law16_known
  (fun b1387 => (k1 b1387))))))
noncomputable def law16_FunBack : T_law16_FunBack := law16_FunBack.body ref16_Few fun_Check law16_known fun_Put octet_New fun_Get ref16_Same ref16_Samev1 octet_Reader_At
def law16_FunBack.p : FPat := fp 4 (pl (pd Ty7) (pl (pb 0 5 (.int .u8)) (pl (pd (.int .i64)) pz))) pz
def law16_FunBack.g (F : T_law16_FunBack) (v : law16_FunBack.p.T) (k : KR) : Option Bool := F v.1.1 v.1.2.1 v.1.2.2.1 (fun y0 => k (.d ⟨.bool, y0⟩) [])
theorem law16_FunBack.eq (F0 : T_ref16_Few) (F1 : T_fun_Check) (F2 : T_law16_known) (F3 : T_fun_Put) (F4 : T_octet_New) (F5 : T_fun_Get) (F6 : T_ref16_Same) (F7 : T_ref16_Samev1) (F8 : T_octet_Reader_At) : ∀ v k, exF Try.f4 law16_FunBack.p [⟨ref16_Few.p, ref16_Few.g F0⟩, ⟨fun_Check.p, fun_Check.g F1⟩, ⟨law16_known.p, law16_known.g F2⟩, ⟨fun_Put.p, fun_Put.g F3⟩, ⟨octet_New.p, octet_New.g F4⟩, ⟨fun_Get.p, fun_Get.g F5⟩, ⟨ref16_Same.p, ref16_Same.g F6⟩, ⟨ref16_Samev1.p, ref16_Samev1.g F7⟩, ⟨octet_Reader_At.p, octet_Reader_At.g F8⟩] [] [] v k = law16_FunBack.g (law16_FunBack.body F0 F1 F2 F3 F4 F5 F6 F7 F8) v k := fun v k => by kernel_rfl
theorem law16_FunBack.ok : okF 61 law16_FunBack.p (law16_FunBack.g law16_FunBack) := fn2 (law16_FunBack.eq ref16_Few fun_Check law16_known fun_Put octet_New fun_Get ref16_Same ref16_Samev1 octet_Reader_At) Try.func4 (by kernel_rfl) (.cons ref16_Few.ok (.cons fun_Check.ok (.cons law16_known.ok (.cons fun_Put.ok (.cons octet_New.ok (.cons fun_Get.ok (.cons ref16_Same.ok (.cons ref16_Samev1.ok (.cons octet_Reader_At.ok .nil))))))))) [] (by kernel_rfl) .nil
-- LAWROW law16_FunBack | 4 | 61 | Ty7 ¦ (.sl 5 (.int .u8)) ¦ (.int .i64)
end Go.Proofs.Yteanpakahlkhdaa.b
