/- What the functions come to that C reaches, as plain functions; written by a program of this work, each told by Lean. -/
import Derived.Test.YteanpakahlkhdaaGreatA3
import Derived.Test.YteanpakahlkhdaaGreatChecked
namespace Go.Proofs.YteanpakahlkhdaaGreat.c
open Go.AX
set_option linter.unusedVariables false
set_option maxRecDepth 100000
set_option maxHeartbeats 4000000
def ht : Hints := hintsOf [(11, [(0, ⟨[1, 2, 5, 6], []⟩), (2000000, ⟨[4], []⟩), (1000000, ⟨[5], []⟩)]),
  (10, [(0, ⟨[1, 5, 9, 10, 11], []⟩), (2000000, ⟨[4], []⟩), (1000000, ⟨[5], []⟩)]),
  (7, [(0, ⟨[1, 6], []⟩), (2000000, ⟨[2], []⟩), (1000000, ⟨[], []⟩)]),
  (23, [(0, ⟨[1, 3], []⟩), (2000000, ⟨[2], []⟩), (1000000, ⟨[], []⟩)]),
  (22, [(0, ⟨[1, 4], []⟩), (2000000, ⟨[2], []⟩), (1000000, ⟨[], []⟩)]),
  (51, [(0, ⟨[1, 3], []⟩), (2, ⟨[1, 4, 5], []⟩), (2000000, ⟨[2], []⟩), (1000000, ⟨[1], []⟩), (1000002, ⟨[], []⟩)]),
  (50, [(0, ⟨[0, 3], []⟩), (2, ⟨[0, 3, 4, 5], []⟩), (2000000, ⟨[2], []⟩), (1000002, ⟨[0, 3], []⟩), (1000001, ⟨[0, 3], []⟩), (1000000, ⟨[], []⟩)]),
  (21, [(0, ⟨[1, 3], []⟩), (2000000, ⟨[2], []⟩), (1000000, ⟨[], []⟩)]),
  (67, [(0, ⟨[0, 3, 4], []⟩), (2000000, ⟨[2], []⟩), (1000000, ⟨[0, 3], []⟩)]),
  (20, [(0, ⟨[1, 3, 7, 8, 9], [(.virt 3 3 1)]⟩), (2000000, ⟨[2], []⟩), (1000000, ⟨[1, 3], []⟩)]),
  (19, [(0, ⟨[1, 3, 11, 12, 13], [(.virt 3 3 1)]⟩), (2000000, ⟨[2], []⟩), (1000000, ⟨[1, 3], []⟩)]),
  (46, [(0, ⟨[0, 5, 8, 9, 10], []⟩), (2000000, ⟨[4], []⟩), (1000000, ⟨[], []⟩)]),
  (18, [(0, ⟨[14, 15, 16], []⟩), (2000000, ⟨[2], []⟩), (1000000, ⟨[], []⟩)]),
  (44, [(0, ⟨[1, 3, 14, 15, 16], []⟩), (2, ⟨[3, 6, 39, 40], []⟩), (2000000, ⟨[2], []⟩), (1000000, ⟨[1, 3], []⟩), (1000002, ⟨[], []⟩)]),
  (43, [(1, ⟨[1, 14, 15, 16], []⟩), (2000000, ⟨[2], []⟩), (1000001, ⟨[], []⟩)]),
  (75, [(0, ⟨[0, 1, 7, 8], []⟩), (2000000, ⟨[4], []⟩), (1000000, ⟨[], []⟩)]),
  (61, [(0, ⟨[0, 3, 6, 7], [(.virt 3 22 1)]⟩), (2000000, ⟨[2], []⟩), (1000000, ⟨[3], []⟩)]),
  (74, [(2000000, ⟨[4], [(.trim 4)]⟩)]),
  (83, [(0, ⟨[0, 3], []⟩), (2, ⟨[0, 3, 4, 5], []⟩), (2000000, ⟨[2], []⟩), (1000002, ⟨[0, 3], []⟩), (1000001, ⟨[0, 3], []⟩), (1000000, ⟨[0], []⟩)]),
  (84, [(0, ⟨[0, 1, 2, 3, 8, 9], []⟩), (2000000, ⟨[], []⟩), (1000000, ⟨[], []⟩)]),
  (86, [(0, ⟨[0, 1, 2, 6], []⟩), (2, ⟨[0, 1, 2, 6, 7], []⟩), (2000000, ⟨[], []⟩), (1000002, ⟨[0, 1, 2, 6], []⟩), (1000001, ⟨[0, 1, 2, 6], []⟩), (1000000, ⟨[], []⟩)]),
  (17, [(1, ⟨[3, 26, 27, 28], []⟩), (2000000, ⟨[2], []⟩), (1000001, ⟨[], []⟩)])]
abbrev okF := FnOk Tryz.prog ht
abbrev okL := LoopOk Tryz.prog ht
noncomputable abbrev exF := execF Tryz.prog ht
noncomputable abbrev exR := execR Tryz.prog ht
noncomputable abbrev exB := execB Tryz.prog ht
abbrev Tc0 : Type := List (Int × Int × Bool × Unit)
abbrev Tc1 : Type := Int × Int × Int × Int × Int × Unit
abbrev Tc2 : Type := List Tc1
abbrev Tc3 : Type := Int × (List Int) × Int × Bool × Int × Int × (List (Int × Int × Unit)) × Tc2 × Tc0 × Unit
abbrev Ty0 : Ty := (.sl 3 (.int .i64))
abbrev Ty1 : Ty := (.st [(.int .i64), (.int .i64)])
abbrev Ty2 : Ty := (.st [(.int .i64), (.int .i64), .bool])
abbrev Ty3 : Ty := (.sl 47 Ty1)
abbrev Ty4 : Ty := (.sl 44 Ty2)
abbrev Ty5 : Ty := (.st [(.int .i64), (.int .i64), (.int .i64), (.int .i64), (.int .i64)])
abbrev Ty6 : Ty := (.sl 49 Ty5)
abbrev Ty7 : Ty := (.st [(.int .i64), Ty0, (.int .i64), .bool, (.int .i64), (.int .i64), Ty3, Ty6, Ty4])
/-- function 4: sheerleg/sheerlegref16.Few -/
abbrev T_ref16_Few : Type := Tc3 → (Bool → Option Bool) → Option Bool
noncomputable def ref16_Few.body : T_ref16_Few := fun t2 k1 =>
  (cond_ (decide ((((List.length t2.2.1) : Nat) : Int) ≤ (100 : Int))) (cond_ (decide ((((List.length t2.2.2.2.2.2.2.1) : Nat) : Int) ≤ (100 : Int))) (cond_ (decide ((((List.length t2.2.2.2.2.2.2.2.1) : Nat) : Int) ≤ (100 : Int))) (k1 (decide ((((List.length t2.2.2.2.2.2.2.2.2.1) : Nat) : Int) ≤ (100 : Int)))) (k1 false)) (k1 false)) (k1 false))
noncomputable def ref16_Few : T_ref16_Few := ref16_Few.body
def ref16_Few.p : FPat := fp 4 (pl (pd Ty7) pz) pz
def ref16_Few.g (F : T_ref16_Few) (v : ref16_Few.p.T) (k : KR) : Option Bool := F v.1.1 (fun y0 => k (.d ⟨.bool, y0⟩) [])
theorem ref16_Few.eq : ∀ v k, exF Tryz.f4 ref16_Few.p [] [] [] v k = ref16_Few.g (ref16_Few.body) v k := fun v k => by kernel_rfl
theorem ref16_Few.ok : okF 1 ref16_Few.p (ref16_Few.g ref16_Few) := fn2 (ref16_Few.eq) Tryz.func4 (by kernel_rfl) .nil [] (by kernel_rfl) .nil
/-- function 5: sheerleg/sheerleglaw16.known, all of it at once -/
abbrev T_law16_known : Type := (Bool → Option Bool) → Option Bool
def law16_known : T_law16_known := fun k1 => k1 true
def law16_known.p : FPat := fp 5 pz pz
def law16_known.g (F : T_law16_known) (v : law16_known.p.T) (k : KR) : Option Bool := F (fun y => k (.d ⟨.bool, y⟩) [])
set_option maxRecDepth 100000 in
theorem law16_known.all (k : KR) : callK Tryz.prog ht 60 5 [] [] k = k (.d ⟨.bool, true⟩) [] := by kernel_rfl
theorem law16_known.ok : okF 60 law16_known.p (law16_known.g law16_known) := all2 fun _ k => law16_known.all k
/-- function 41: sheerleg/sig.Is -/
abbrev T_sig_Is : Type := Int → (Bool → Option Bool) → Option Bool
noncomputable def sig_Is.body : T_sig_Is := fun n8 k1 =>
  (cond_ (decide (n8 ≥ (0 : Int))) (k1 (decide (n8 < (8 : Int)))) (k1 false))
noncomputable def sig_Is : T_sig_Is := sig_Is.body
def sig_Is.p : FPat := fp 41 (pl (pd (.int .i64)) pz) pz
def sig_Is.g (F : T_sig_Is) (v : sig_Is.p.T) (k : KR) : Option Bool := F v.1.1 (fun y0 => k (.d ⟨.bool, y0⟩) [])
theorem sig_Is.eq : ∀ v k, exF Tryz.f41 sig_Is.p [] [] [] v k = sig_Is.g (sig_Is.body) v k := fun v k => by kernel_rfl
theorem sig_Is.ok : okF 1 sig_Is.p (sig_Is.g sig_Is) := fn2 (sig_Is.eq) Tryz.func41 (by kernel_rfl) .nil [] (by kernel_rfl) .nil
/-- function 40: sheerleg/sig.Params -/
abbrev T_sig_Params : Type := Int → (Int → Option Bool) → Option Bool
noncomputable def sig_Params.body (sig_Is : T_sig_Is) : T_sig_Params := fun n7 k1 =>
  (sig_Is n7
  (fun b9 => (cond_ (! b9) (k1 (0 : Int)) (k1 (Int.fdiv n7 (2 : Int))))))
noncomputable def sig_Params : T_sig_Params := sig_Params.body sig_Is
def sig_Params.p : FPat := fp 40 (pl (pd (.int .i64)) pz) pz
def sig_Params.g (F : T_sig_Params) (v : sig_Params.p.T) (k : KR) : Option Bool := F v.1.1 (fun y0 => k (.d ⟨(.int .i64), y0⟩) [])
theorem sig_Params.eq (F0 : T_sig_Is) : ∀ v k, exF Tryz.f40 sig_Params.p [⟨sig_Is.p, sig_Is.g F0⟩] [] [] v k = sig_Params.g (sig_Params.body F0) v k := fun v k => by kernel_rfl
theorem sig_Params.ok : okF 2 sig_Params.p (sig_Params.g sig_Params) := fn2 (sig_Params.eq sig_Is) Tryz.func40 (by kernel_rfl) (.cons sig_Is.ok .nil) [] (by kernel_rfl) .nil
/-- function 60: sheerleg/sig.texts -/
abbrev T_sig_texts : Type := ((List ByteArray) → Option Bool) → Option Bool
noncomputable def sig_texts.body : T_sig_texts := fun k1 =>
  (k1 [(⟨#[110]⟩ : ByteArray), (⟨#[102, 48]⟩ : ByteArray), (⟨#[102, 48, 114]⟩ : ByteArray), (⟨#[102, 49]⟩ : ByteArray), (⟨#[102, 49, 114]⟩ : ByteArray), (⟨#[102, 50]⟩ : ByteArray), (⟨#[102, 50, 114]⟩ : ByteArray), (⟨#[102, 51]⟩ : ByteArray), (⟨#[102, 51, 114]⟩ : ByteArray)])
noncomputable def sig_texts : T_sig_texts := sig_texts.body
def sig_texts.p : FPat := fp 60 pz pz
def sig_texts.g (F : T_sig_texts) (v : sig_texts.p.T) (k : KR) : Option Bool := F (fun y0 => k (.ref [1, 0]) [([1, 0], ⟨9, 1, (.data .str y0)⟩)])
theorem sig_texts.eq : ∀ v k, exF Tryz.f60 sig_texts.p [] [] [] v k = sig_texts.g (sig_texts.body) v k := fun v k => by kernel_rfl
theorem sig_texts.ok : okF 1 sig_texts.p (sig_texts.g sig_texts) := fn2 (sig_texts.eq) Tryz.func60 (by kernel_rfl) .nil [] (by kernel_rfl) .nil
/-- function 42: sheerleg/sig.Text -/
abbrev T_sig_Text : Type := Int → (ByteArray → Option Bool) → Option Bool
noncomputable def sig_Text.body (sig_texts : T_sig_texts) : T_sig_Text := fun n16 k1 =>
  (sig_texts
  (fun ss17 => (cond_ (! (decide (n16 < (0 : Int)))) (cond_ (decide (n16 ≥ (List.length ss17 : Int))) (k1 (⟨#[]⟩ : ByteArray)) (cond_ ((decide ((0 : Int) ≤ n16)) && (decide (n16 < (List.length ss17 : Int)))) (k1 (List.getD ss17 (Int.toNat n16) (⟨#[]⟩ : ByteArray))) none)) (k1 (⟨#[]⟩ : ByteArray)))))
noncomputable def sig_Text : T_sig_Text := sig_Text.body sig_texts
def sig_Text.p : FPat := fp 42 (pl (pd (.int .i64)) pz) pz
def sig_Text.g (F : T_sig_Text) (v : sig_Text.p.T) (k : KR) : Option Bool := F v.1.1 (fun y0 => k (.d ⟨.str, y0⟩) [])
theorem sig_Text.eq (F0 : T_sig_texts) : ∀ v k, exF Tryz.f42 sig_Text.p [⟨sig_texts.p, sig_texts.g F0⟩] [] [] v k = sig_Text.g (sig_Text.body F0) v k := fun v k => by kernel_rfl
theorem sig_Text.ok : okF 2 sig_Text.p (sig_Text.g sig_Text) := fn2 (sig_Text.eq sig_texts) Tryz.func42 (by kernel_rfl) (.cons sig_texts.ok .nil) [] (by kernel_rfl) .nil
/-- function 17: the loop in block 1 -/
abbrev T_fun_slots_L1 : Type := Int → (List Int) → Int → Int → (Int → Option Bool) → (Option Bool) → Option Bool
noncomputable def fun_slots_L1.body (fun_slots_L1 : T_fun_slots_L1) (sig_Text : T_sig_Text) : T_fun_slots_L1 := fun n12 l13 n14 n15 k1 k2 =>
  (cond_ (decide (n15 < n14)) (cond_ ((decide ((0 : Int) ≤ n15)) && (decide (n15 < (List.length l13 : Int)))) (sig_Text (List.getD l13 (Int.toNat n15) (0 : Int))
  (fun s18 => (cond_ (! ((ByteArray.toList s18) == (ByteArray.toList (⟨#[]⟩ : ByteArray)))) (cond_ (decide (n15 < n12)) (cond_ ((List.getD l13 (Int.toNat n15) (0 : Int)) != (0 : Int)) (k1 (8 : Int)) (fun_slots_L1 n12 l13 n14 (IntKind.wrap .i64 (n15 + (1 : Int))) k1 k2)) (fun_slots_L1 n12 l13 n14 (IntKind.wrap .i64 (n15 + (1 : Int))) k1 k2)) (k1 (8 : Int))))) none) (k2))
noncomputable def fun_slots_L1 : Nat → T_fun_slots_L1
  | 0 => fun _ _ _ _ _ _ => none
  | n + 1 => fun_slots_L1.body (fun_slots_L1 n) sig_Text
def fun_slots_L1.p : LPat := lp 2 46 [3, 26, 27, 28] (pl (pd (.int .i64)) (pl (pd Ty0) (pl (pd (.int .i64)) (pl (pd (.int .i64)) pz)))) pz
def fun_slots_L1.g (F : T_fun_slots_L1) (v : fun_slots_L1.p.T) (k : KE) : Option Bool := F v.1.1 v.1.2.1 v.1.2.2.1 v.1.2.2.2.1 (fun y0 => k .ret ⟨fillS 46 [2] [(.d ⟨(.int .i64), y0⟩)], [], 2⟩) (k (.exit 1) ⟨fillS 46 [] [], [], 2⟩)
theorem fun_slots_L1.step (S : T_fun_slots_L1) (F0 : T_sig_Text) : ∀ v k, exR 17 Tryz.f17 1 fun_slots_L1.p [⟨sig_Text.p, sig_Text.g F0⟩] [] [] (fun_slots_L1.g S) v k = fun_slots_L1.g (fun_slots_L1.body S F0) v k := fun v k => by kernel_rfl
theorem fun_slots_L1.ok : okL 17 Tryz.f17 2 1 fun_slots_L1.p (fun_slots_L1.g (fun_slots_L1 ROUNDS)) := loop2 (G := fun n => fun_slots_L1.g (fun_slots_L1 n)) (fun n => fun_slots_L1.step (fun_slots_L1 n) sig_Text) (.cons sig_Text.ok .nil) [] (by kernel_rfl) .nil (fun _ _ => rfl)
/-- function 17: sheerleg/fun.slots -/
abbrev T_fun_slots : Type := Tc3 → (Int → Option Bool) → Option Bool
noncomputable def fun_slots.body (sig_Params : T_sig_Params) (sig_Is : T_sig_Is) (fun_slots_L1 : T_fun_slots_L1) : T_fun_slots := fun t6 k1 =>
  (sig_Params t6.1
  (fun n10 => (sig_Is t6.1
  (fun b11 => (cond_ (! b11) (k1 (14 : Int)) (cond_ (decide ((((List.length t6.2.1) : Nat) : Int) > (16 : Int))) (k1 (6 : Int)) (cond_ (decide ((((List.length t6.2.1) : Nat) : Int) < n10)) (k1 (2 : Int)) (fun_slots_L1 n10 t6.2.1 (((List.length t6.2.1) : Nat) : Int) (0 : Int)
  (fun n19 => (k1 n19))
  (k1 (0 : Int))))))))))
noncomputable def fun_slots : T_fun_slots := fun_slots.body sig_Params sig_Is (fun_slots_L1 ROUNDS)
def fun_slots.p : FPat := fp 17 (pl (pd Ty7) pz) pz
def fun_slots.g (F : T_fun_slots) (v : fun_slots.p.T) (k : KR) : Option Bool := F v.1.1 (fun y0 => k (.d ⟨(.int .i64), y0⟩) [])
theorem fun_slots.eq (F0 : T_sig_Params) (F1 : T_sig_Is) (L0 : T_fun_slots_L1) : ∀ v k, exF Tryz.f17 fun_slots.p [⟨sig_Params.p, sig_Params.g F0⟩, ⟨sig_Is.p, sig_Is.g F1⟩] [] [⟨1, fun_slots_L1.p, fun_slots_L1.g L0⟩] v k = fun_slots.g (fun_slots.body F0 F1 L0) v k := fun v k => by kernel_rfl
theorem fun_slots.ok : okF 3 fun_slots.p (fun_slots.g fun_slots) := fn2 (fun_slots.eq sig_Params sig_Is (fun_slots_L1 ROUNDS)) Tryz.func17 (by kernel_rfl) (.cons sig_Params.ok (.cons sig_Is.ok .nil)) [1] (by kernel_rfl) (.cons fun_slots_L1.ok .nil)
/-- function 96: math/bits.Len64 -/
abbrev T_math_bits_Len64 : Type := Int → (Int → Option Bool) → Option Bool
noncomputable def math_bits_Len64.body : T_math_bits_Len64 := fun n31 k1 =>
  (cond_ (decide (n31 ≥ (4294967296 : Int))) (cond_ (decide ((Int.fdiv n31 (4294967296 : Int)) ≥ (65536 : Int))) (cond_ (decide ((Int.fdiv (Int.fdiv n31 (4294967296 : Int)) (65536 : Int)) ≥ (256 : Int))) (cond_ ((decide ((0 : Int) ≤ (IntKind.wrap .u8 (Int.fdiv (Int.fdiv (Int.fdiv n31 (4294967296 : Int)) (65536 : Int)) (256 : Int))))) && (decide ((IntKind.wrap .u8 (Int.fdiv (Int.fdiv (Int.fdiv n31 (4294967296 : Int)) (65536 : Int)) (256 : Int))) < (256 : Int)))) (k1 (IntKind.wrap .i64 ((56 : Int) + (IntKind.wrap .i64 (((UInt8.toNat (List.getD (Array.toList (ByteArray.data (⟨#[0, 1, 2, 2, 3, 3, 3, 3, 4, 4, 4, 4, 4, 4, 4, 4, 5, 5, 5, 5, 5, 5, 5, 5, 5, 5, 5, 5, 5, 5, 5, 5, 6, 6, 6, 6, 6, 6, 6, 6, 6, 6, 6, 6, 6, 6, 6, 6, 6, 6, 6, 6, 6, 6, 6, 6, 6, 6, 6, 6, 6, 6, 6, 6, 7, 7, 7, 7, 7, 7, 7, 7, 7, 7, 7, 7, 7, 7, 7, 7, 7, 7, 7, 7, 7, 7, 7, 7, 7, 7, 7, 7, 7, 7, 7, 7, 7, 7, 7, 7, 7, 7, 7, 7, 7, 7, 7, 7, 7, 7, 7, 7, 7, 7, 7, 7, 7, 7, 7, 7, 7, 7, 7, 7, 7, 7, 7, 7, 8, 8, 8, 8, 8, 8, 8, 8, 8, 8, 8, 8, 8, 8, 8, 8, 8, 8, 8, 8, 8, 8, 8, 8, 8, 8, 8, 8, 8, 8, 8, 8, 8, 8, 8, 8, 8, 8, 8, 8, 8, 8, 8, 8, 8, 8, 8, 8, 8, 8, 8, 8, 8, 8, 8, 8, 8, 8, 8, 8, 8, 8, 8, 8, 8, 8, 8, 8, 8, 8, 8, 8, 8, 8, 8, 8, 8, 8, 8, 8, 8, 8, 8, 8, 8, 8, 8, 8, 8, 8, 8, 8, 8, 8, 8, 8, 8, 8, 8, 8, 8, 8, 8, 8, 8, 8, 8, 8, 8, 8, 8, 8, 8, 8, 8, 8, 8, 8, 8, 8, 8, 8, 8, 8, 8, 8, 8, 8]⟩ : ByteArray))) (Int.toNat (IntKind.wrap .u8 (Int.fdiv (Int.fdiv (Int.fdiv n31 (4294967296 : Int)) (65536 : Int)) (256 : Int)))) (0 : UInt8))) : Nat) : Int))))) none) (cond_ ((decide ((0 : Int) ≤ (IntKind.wrap .u8 (Int.fdiv (Int.fdiv n31 (4294967296 : Int)) (65536 : Int))))) && (decide ((IntKind.wrap .u8 (Int.fdiv (Int.fdiv n31 (4294967296 : Int)) (65536 : Int))) < (256 : Int)))) (k1 (IntKind.wrap .i64 ((48 : Int) + (IntKind.wrap .i64 (((UInt8.toNat (List.getD (Array.toList (ByteArray.data (⟨#[0, 1, 2, 2, 3, 3, 3, 3, 4, 4, 4, 4, 4, 4, 4, 4, 5, 5, 5, 5, 5, 5, 5, 5, 5, 5, 5, 5, 5, 5, 5, 5, 6, 6, 6, 6, 6, 6, 6, 6, 6, 6, 6, 6, 6, 6, 6, 6, 6, 6, 6, 6, 6, 6, 6, 6, 6, 6, 6, 6, 6, 6, 6, 6, 7, 7, 7, 7, 7, 7, 7, 7, 7, 7, 7, 7, 7, 7, 7, 7, 7, 7, 7, 7, 7, 7, 7, 7, 7, 7, 7, 7, 7, 7, 7, 7, 7, 7, 7, 7, 7, 7, 7, 7, 7, 7, 7, 7, 7, 7, 7, 7, 7, 7, 7, 7, 7, 7, 7, 7, 7, 7, 7, 7, 7, 7, 7, 7, 8, 8, 8, 8, 8, 8, 8, 8, 8, 8, 8, 8, 8, 8, 8, 8, 8, 8, 8, 8, 8, 8, 8, 8, 8, 8, 8, 8, 8, 8, 8, 8, 8, 8, 8, 8, 8, 8, 8, 8, 8, 8, 8, 8, 8, 8, 8, 8, 8, 8, 8, 8, 8, 8, 8, 8, 8, 8, 8, 8, 8, 8, 8, 8, 8, 8, 8, 8, 8, 8, 8, 8, 8, 8, 8, 8, 8, 8, 8, 8, 8, 8, 8, 8, 8, 8, 8, 8, 8, 8, 8, 8, 8, 8, 8, 8, 8, 8, 8, 8, 8, 8, 8, 8, 8, 8, 8, 8, 8, 8, 8, 8, 8, 8, 8, 8, 8, 8, 8, 8, 8, 8, 8, 8, 8, 8, 8, 8]⟩ : ByteArray))) (Int.toNat (IntKind.wrap .u8 (Int.fdiv (Int.fdiv n31 (4294967296 : Int)) (65536 : Int)))) (0 : UInt8))) : Nat) : Int))))) none)) (cond_ (decide ((Int.fdiv n31 (4294967296 : Int)) ≥ (256 : Int))) (cond_ ((decide ((0 : Int) ≤ (IntKind.wrap .u8 (Int.fdiv (Int.fdiv n31 (4294967296 : Int)) (256 : Int))))) && (decide ((IntKind.wrap .u8 (Int.fdiv (Int.fdiv n31 (4294967296 : Int)) (256 : Int))) < (256 : Int)))) (k1 (IntKind.wrap .i64 ((40 : Int) + (IntKind.wrap .i64 (((UInt8.toNat (List.getD (Array.toList (ByteArray.data (⟨#[0, 1, 2, 2, 3, 3, 3, 3, 4, 4, 4, 4, 4, 4, 4, 4, 5, 5, 5, 5, 5, 5, 5, 5, 5, 5, 5, 5, 5, 5, 5, 5, 6, 6, 6, 6, 6, 6, 6, 6, 6, 6, 6, 6, 6, 6, 6, 6, 6, 6, 6, 6, 6, 6, 6, 6, 6, 6, 6, 6, 6, 6, 6, 6, 7, 7, 7, 7, 7, 7, 7, 7, 7, 7, 7, 7, 7, 7, 7, 7, 7, 7, 7, 7, 7, 7, 7, 7, 7, 7, 7, 7, 7, 7, 7, 7, 7, 7, 7, 7, 7, 7, 7, 7, 7, 7, 7, 7, 7, 7, 7, 7, 7, 7, 7, 7, 7, 7, 7, 7, 7, 7, 7, 7, 7, 7, 7, 7, 8, 8, 8, 8, 8, 8, 8, 8, 8, 8, 8, 8, 8, 8, 8, 8, 8, 8, 8, 8, 8, 8, 8, 8, 8, 8, 8, 8, 8, 8, 8, 8, 8, 8, 8, 8, 8, 8, 8, 8, 8, 8, 8, 8, 8, 8, 8, 8, 8, 8, 8, 8, 8, 8, 8, 8, 8, 8, 8, 8, 8, 8, 8, 8, 8, 8, 8, 8, 8, 8, 8, 8, 8, 8, 8, 8, 8, 8, 8, 8, 8, 8, 8, 8, 8, 8, 8, 8, 8, 8, 8, 8, 8, 8, 8, 8, 8, 8, 8, 8, 8, 8, 8, 8, 8, 8, 8, 8, 8, 8, 8, 8, 8, 8, 8, 8, 8, 8, 8, 8, 8, 8, 8, 8, 8, 8, 8, 8]⟩ : ByteArray))) (Int.toNat (IntKind.wrap .u8 (Int.fdiv (Int.fdiv n31 (4294967296 : Int)) (256 : Int)))) (0 : UInt8))) : Nat) : Int))))) none) (cond_ ((decide ((0 : Int) ≤ (IntKind.wrap .u8 (Int.fdiv n31 (4294967296 : Int))))) && (decide ((IntKind.wrap .u8 (Int.fdiv n31 (4294967296 : Int))) < (256 : Int)))) (k1 (IntKind.wrap .i64 ((32 : Int) + (IntKind.wrap .i64 (((UInt8.toNat (List.getD (Array.toList (ByteArray.data (⟨#[0, 1, 2, 2, 3, 3, 3, 3, 4, 4, 4, 4, 4, 4, 4, 4, 5, 5, 5, 5, 5, 5, 5, 5, 5, 5, 5, 5, 5, 5, 5, 5, 6, 6, 6, 6, 6, 6, 6, 6, 6, 6, 6, 6, 6, 6, 6, 6, 6, 6, 6, 6, 6, 6, 6, 6, 6, 6, 6, 6, 6, 6, 6, 6, 7, 7, 7, 7, 7, 7, 7, 7, 7, 7, 7, 7, 7, 7, 7, 7, 7, 7, 7, 7, 7, 7, 7, 7, 7, 7, 7, 7, 7, 7, 7, 7, 7, 7, 7, 7, 7, 7, 7, 7, 7, 7, 7, 7, 7, 7, 7, 7, 7, 7, 7, 7, 7, 7, 7, 7, 7, 7, 7, 7, 7, 7, 7, 7, 8, 8, 8, 8, 8, 8, 8, 8, 8, 8, 8, 8, 8, 8, 8, 8, 8, 8, 8, 8, 8, 8, 8, 8, 8, 8, 8, 8, 8, 8, 8, 8, 8, 8, 8, 8, 8, 8, 8, 8, 8, 8, 8, 8, 8, 8, 8, 8, 8, 8, 8, 8, 8, 8, 8, 8, 8, 8, 8, 8, 8, 8, 8, 8, 8, 8, 8, 8, 8, 8, 8, 8, 8, 8, 8, 8, 8, 8, 8, 8, 8, 8, 8, 8, 8, 8, 8, 8, 8, 8, 8, 8, 8, 8, 8, 8, 8, 8, 8, 8, 8, 8, 8, 8, 8, 8, 8, 8, 8, 8, 8, 8, 8, 8, 8, 8, 8, 8, 8, 8, 8, 8, 8, 8, 8, 8, 8, 8]⟩ : ByteArray))) (Int.toNat (IntKind.wrap .u8 (Int.fdiv n31 (4294967296 : Int)))) (0 : UInt8))) : Nat) : Int))))) none))) (cond_ (decide (n31 ≥ (65536 : Int))) (cond_ (decide ((Int.fdiv n31 (65536 : Int)) ≥ (256 : Int))) (cond_ ((decide ((0 : Int) ≤ (IntKind.wrap .u8 (Int.fdiv (Int.fdiv n31 (65536 : Int)) (256 : Int))))) && (decide ((IntKind.wrap .u8 (Int.fdiv (Int.fdiv n31 (65536 : Int)) (256 : Int))) < (256 : Int)))) (k1 (IntKind.wrap .i64 ((24 : Int) + (IntKind.wrap .i64 (((UInt8.toNat (List.getD (Array.toList (ByteArray.data (⟨#[0, 1, 2, 2, 3, 3, 3, 3, 4, 4, 4, 4, 4, 4, 4, 4, 5, 5, 5, 5, 5, 5, 5, 5, 5, 5, 5, 5, 5, 5, 5, 5, 6, 6, 6, 6, 6, 6, 6, 6, 6, 6, 6, 6, 6, 6, 6, 6, 6, 6, 6, 6, 6, 6, 6, 6, 6, 6, 6, 6, 6, 6, 6, 6, 7, 7, 7, 7, 7, 7, 7, 7, 7, 7, 7, 7, 7, 7, 7, 7, 7, 7, 7, 7, 7, 7, 7, 7, 7, 7, 7, 7, 7, 7, 7, 7, 7, 7, 7, 7, 7, 7, 7, 7, 7, 7, 7, 7, 7, 7, 7, 7, 7, 7, 7, 7, 7, 7, 7, 7, 7, 7, 7, 7, 7, 7, 7, 7, 8, 8, 8, 8, 8, 8, 8, 8, 8, 8, 8, 8, 8, 8, 8, 8, 8, 8, 8, 8, 8, 8, 8, 8, 8, 8, 8, 8, 8, 8, 8, 8, 8, 8, 8, 8, 8, 8, 8, 8, 8, 8, 8, 8, 8, 8, 8, 8, 8, 8, 8, 8, 8, 8, 8, 8, 8, 8, 8, 8, 8, 8, 8, 8, 8, 8, 8, 8, 8, 8, 8, 8, 8, 8, 8, 8, 8, 8, 8, 8, 8, 8, 8, 8, 8, 8, 8, 8, 8, 8, 8, 8, 8, 8, 8, 8, 8, 8, 8, 8, 8, 8, 8, 8, 8, 8, 8, 8, 8, 8, 8, 8, 8, 8, 8, 8, 8, 8, 8, 8, 8, 8, 8, 8, 8, 8, 8, 8]⟩ : ByteArray))) (Int.toNat (IntKind.wrap .u8 (Int.fdiv (Int.fdiv n31 (65536 : Int)) (256 : Int)))) (0 : UInt8))) : Nat) : Int))))) none) (cond_ ((decide ((0 : Int) ≤ (IntKind.wrap .u8 (Int.fdiv n31 (65536 : Int))))) && (decide ((IntKind.wrap .u8 (Int.fdiv n31 (65536 : Int))) < (256 : Int)))) (k1 (IntKind.wrap .i64 ((16 : Int) + (IntKind.wrap .i64 (((UInt8.toNat (List.getD (Array.toList (ByteArray.data (⟨#[0, 1, 2, 2, 3, 3, 3, 3, 4, 4, 4, 4, 4, 4, 4, 4, 5, 5, 5, 5, 5, 5, 5, 5, 5, 5, 5, 5, 5, 5, 5, 5, 6, 6, 6, 6, 6, 6, 6, 6, 6, 6, 6, 6, 6, 6, 6, 6, 6, 6, 6, 6, 6, 6, 6, 6, 6, 6, 6, 6, 6, 6, 6, 6, 7, 7, 7, 7, 7, 7, 7, 7, 7, 7, 7, 7, 7, 7, 7, 7, 7, 7, 7, 7, 7, 7, 7, 7, 7, 7, 7, 7, 7, 7, 7, 7, 7, 7, 7, 7, 7, 7, 7, 7, 7, 7, 7, 7, 7, 7, 7, 7, 7, 7, 7, 7, 7, 7, 7, 7, 7, 7, 7, 7, 7, 7, 7, 7, 8, 8, 8, 8, 8, 8, 8, 8, 8, 8, 8, 8, 8, 8, 8, 8, 8, 8, 8, 8, 8, 8, 8, 8, 8, 8, 8, 8, 8, 8, 8, 8, 8, 8, 8, 8, 8, 8, 8, 8, 8, 8, 8, 8, 8, 8, 8, 8, 8, 8, 8, 8, 8, 8, 8, 8, 8, 8, 8, 8, 8, 8, 8, 8, 8, 8, 8, 8, 8, 8, 8, 8, 8, 8, 8, 8, 8, 8, 8, 8, 8, 8, 8, 8, 8, 8, 8, 8, 8, 8, 8, 8, 8, 8, 8, 8, 8, 8, 8, 8, 8, 8, 8, 8, 8, 8, 8, 8, 8, 8, 8, 8, 8, 8, 8, 8, 8, 8, 8, 8, 8, 8, 8, 8, 8, 8, 8, 8]⟩ : ByteArray))) (Int.toNat (IntKind.wrap .u8 (Int.fdiv n31 (65536 : Int)))) (0 : UInt8))) : Nat) : Int))))) none)) (cond_ (decide (n31 ≥ (256 : Int))) (cond_ ((decide ((0 : Int) ≤ (IntKind.wrap .u8 (Int.fdiv n31 (256 : Int))))) && (decide ((IntKind.wrap .u8 (Int.fdiv n31 (256 : Int))) < (256 : Int)))) (k1 (IntKind.wrap .i64 ((8 : Int) + (IntKind.wrap .i64 (((UInt8.toNat (List.getD (Array.toList (ByteArray.data (⟨#[0, 1, 2, 2, 3, 3, 3, 3, 4, 4, 4, 4, 4, 4, 4, 4, 5, 5, 5, 5, 5, 5, 5, 5, 5, 5, 5, 5, 5, 5, 5, 5, 6, 6, 6, 6, 6, 6, 6, 6, 6, 6, 6, 6, 6, 6, 6, 6, 6, 6, 6, 6, 6, 6, 6, 6, 6, 6, 6, 6, 6, 6, 6, 6, 7, 7, 7, 7, 7, 7, 7, 7, 7, 7, 7, 7, 7, 7, 7, 7, 7, 7, 7, 7, 7, 7, 7, 7, 7, 7, 7, 7, 7, 7, 7, 7, 7, 7, 7, 7, 7, 7, 7, 7, 7, 7, 7, 7, 7, 7, 7, 7, 7, 7, 7, 7, 7, 7, 7, 7, 7, 7, 7, 7, 7, 7, 7, 7, 8, 8, 8, 8, 8, 8, 8, 8, 8, 8, 8, 8, 8, 8, 8, 8, 8, 8, 8, 8, 8, 8, 8, 8, 8, 8, 8, 8, 8, 8, 8, 8, 8, 8, 8, 8, 8, 8, 8, 8, 8, 8, 8, 8, 8, 8, 8, 8, 8, 8, 8, 8, 8, 8, 8, 8, 8, 8, 8, 8, 8, 8, 8, 8, 8, 8, 8, 8, 8, 8, 8, 8, 8, 8, 8, 8, 8, 8, 8, 8, 8, 8, 8, 8, 8, 8, 8, 8, 8, 8, 8, 8, 8, 8, 8, 8, 8, 8, 8, 8, 8, 8, 8, 8, 8, 8, 8, 8, 8, 8, 8, 8, 8, 8, 8, 8, 8, 8, 8, 8, 8, 8, 8, 8, 8, 8, 8, 8]⟩ : ByteArray))) (Int.toNat (IntKind.wrap .u8 (Int.fdiv n31 (256 : Int)))) (0 : UInt8))) : Nat) : Int))))) none) (cond_ ((decide ((0 : Int) ≤ (IntKind.wrap .u8 n31))) && (decide ((IntKind.wrap .u8 n31) < (256 : Int)))) (k1 (IntKind.wrap .i64 ((0 : Int) + (IntKind.wrap .i64 (((UInt8.toNat (List.getD (Array.toList (ByteArray.data (⟨#[0, 1, 2, 2, 3, 3, 3, 3, 4, 4, 4, 4, 4, 4, 4, 4, 5, 5, 5, 5, 5, 5, 5, 5, 5, 5, 5, 5, 5, 5, 5, 5, 6, 6, 6, 6, 6, 6, 6, 6, 6, 6, 6, 6, 6, 6, 6, 6, 6, 6, 6, 6, 6, 6, 6, 6, 6, 6, 6, 6, 6, 6, 6, 6, 7, 7, 7, 7, 7, 7, 7, 7, 7, 7, 7, 7, 7, 7, 7, 7, 7, 7, 7, 7, 7, 7, 7, 7, 7, 7, 7, 7, 7, 7, 7, 7, 7, 7, 7, 7, 7, 7, 7, 7, 7, 7, 7, 7, 7, 7, 7, 7, 7, 7, 7, 7, 7, 7, 7, 7, 7, 7, 7, 7, 7, 7, 7, 7, 8, 8, 8, 8, 8, 8, 8, 8, 8, 8, 8, 8, 8, 8, 8, 8, 8, 8, 8, 8, 8, 8, 8, 8, 8, 8, 8, 8, 8, 8, 8, 8, 8, 8, 8, 8, 8, 8, 8, 8, 8, 8, 8, 8, 8, 8, 8, 8, 8, 8, 8, 8, 8, 8, 8, 8, 8, 8, 8, 8, 8, 8, 8, 8, 8, 8, 8, 8, 8, 8, 8, 8, 8, 8, 8, 8, 8, 8, 8, 8, 8, 8, 8, 8, 8, 8, 8, 8, 8, 8, 8, 8, 8, 8, 8, 8, 8, 8, 8, 8, 8, 8, 8, 8, 8, 8, 8, 8, 8, 8, 8, 8, 8, 8, 8, 8, 8, 8, 8, 8, 8, 8, 8, 8, 8, 8, 8, 8]⟩ : ByteArray))) (Int.toNat (IntKind.wrap .u8 n31)) (0 : UInt8))) : Nat) : Int))))) none))))
noncomputable def math_bits_Len64 : T_math_bits_Len64 := math_bits_Len64.body
def math_bits_Len64.p : FPat := fp 96 (pl (pd (.int .u64)) pz) pz
def math_bits_Len64.g (F : T_math_bits_Len64) (v : math_bits_Len64.p.T) (k : KR) : Option Bool := F v.1.1 (fun y0 => k (.d ⟨(.int .i64), y0⟩) [])
theorem math_bits_Len64.eq : ∀ v k, exF Tryz.f96 math_bits_Len64.p [] [] [] v k = math_bits_Len64.g (math_bits_Len64.body) v k := fun v k => by kernel_rfl
theorem math_bits_Len64.ok : okF 1 math_bits_Len64.p (math_bits_Len64.g math_bits_Len64) := fn2 (math_bits_Len64.eq) Tryz.func96 (by kernel_rfl) .nil [] (by kernel_rfl) .nil
/-- function 85: math/bits.Len -/
abbrev T_math_bits_Len : Type := Int → (Int → Option Bool) → Option Bool
noncomputable def math_bits_Len.body (math_bits_Len64 : T_math_bits_Len64) : T_math_bits_Len := fun n30 k1 =>
  (math_bits_Len64 n30
  (fun n32 => (k1 n32)))
noncomputable def math_bits_Len : T_math_bits_Len := math_bits_Len.body math_bits_Len64
def math_bits_Len.p : FPat := fp 85 (pl (pd (.int .u64)) pz) pz
def math_bits_Len.g (F : T_math_bits_Len) (v : math_bits_Len.p.T) (k : KR) : Option Bool := F v.1.1 (fun y0 => k (.d ⟨(.int .i64), y0⟩) [])
theorem math_bits_Len.eq (F0 : T_math_bits_Len64) : ∀ v k, exF Tryz.f85 math_bits_Len.p [⟨math_bits_Len64.p, math_bits_Len64.g F0⟩] [] [] v k = math_bits_Len.g (math_bits_Len.body F0) v k := fun v k => by kernel_rfl
theorem math_bits_Len.ok : okF 2 math_bits_Len.p (math_bits_Len.g math_bits_Len) := fn2 (math_bits_Len.eq math_bits_Len64) Tryz.func85 (by kernel_rfl) (.cons math_bits_Len64.ok .nil) [] (by kernel_rfl) .nil
/-- function 102: cmp.isNaN[int] -/
abbrev T_cmp_isNaN_int : Type := Int → (Bool → Option Bool) → Option Bool
noncomputable def cmp_isNaN_int.body : T_cmp_isNaN_int := fun n58 k1 =>
  (k1 (n58 != n58))
noncomputable def cmp_isNaN_int : T_cmp_isNaN_int := cmp_isNaN_int.body
def cmp_isNaN_int.p : FPat := fp 102 (pl (pd (.int .i64)) pz) pz
def cmp_isNaN_int.g (F : T_cmp_isNaN_int) (v : cmp_isNaN_int.p.T) (k : KR) : Option Bool := F v.1.1 (fun y0 => k (.d ⟨.bool, y0⟩) [])
theorem cmp_isNaN_int.eq : ∀ v k, exF Tryz.f102 cmp_isNaN_int.p [] [] [] v k = cmp_isNaN_int.g (cmp_isNaN_int.body) v k := fun v k => by kernel_rfl
theorem cmp_isNaN_int.ok : okF 1 cmp_isNaN_int.p (cmp_isNaN_int.g cmp_isNaN_int) := fn2 (cmp_isNaN_int.eq) Tryz.func102 (by kernel_rfl) .nil [] (by kernel_rfl) .nil
/-- function 92: cmp.Less[int] -/
abbrev T_cmp_Less_int : Type := Int → Int → (Bool → Option Bool) → Option Bool
noncomputable def cmp_Less_int.body (cmp_isNaN_int : T_cmp_isNaN_int) : T_cmp_Less_int := fun n56 n57 k1 =>
  (cmp_isNaN_int n56
  (fun b59 => (cond_ b59 (cmp_isNaN_int n57
  (fun b60 => (cond_ (! (! b60)) (k1 (decide (n56 < n57))) (k1 true)))) (k1 (decide (n56 < n57))))))
noncomputable def cmp_Less_int : T_cmp_Less_int := cmp_Less_int.body cmp_isNaN_int
def cmp_Less_int.p : FPat := fp 92 (pl (pd (.int .i64)) (pl (pd (.int .i64)) pz)) pz
def cmp_Less_int.g (F : T_cmp_Less_int) (v : cmp_Less_int.p.T) (k : KR) : Option Bool := F v.1.1 v.1.2.1 (fun y0 => k (.d ⟨.bool, y0⟩) [])
theorem cmp_Less_int.eq (F0 : T_cmp_isNaN_int) : ∀ v k, exF Tryz.f92 cmp_Less_int.p [⟨cmp_isNaN_int.p, cmp_isNaN_int.g F0⟩] [] [] v k = cmp_Less_int.g (cmp_Less_int.body F0) v k := fun v k => by kernel_rfl
theorem cmp_Less_int.ok : okF 2 cmp_Less_int.p (cmp_Less_int.g cmp_Less_int) := fn2 (cmp_Less_int.eq cmp_isNaN_int) Tryz.func92 (by kernel_rfl) (.cons cmp_isNaN_int.ok .nil) [] (by kernel_rfl) .nil
/-- function 86: the loop in block 2 -/
abbrev T_slices_insertionSortOrdered_int_L0_L2 : Type := Int → Int → Int → Int → (List Int) → (Int → Int → Int → (List Int) → Option Bool) → Option Bool
noncomputable def slices_insertionSortOrdered_int_L0_L2.body (slices_insertionSortOrdered_int_L0_L2 : T_slices_insertionSortOrdered_int_L0_L2) (cmp_Less_int : T_cmp_Less_int) : T_slices_insertionSortOrdered_int_L0_L2 := fun n51 n52 n53 n54 ns55 k1 =>
  (cond_ (decide (n54 > n51)) (cond_ ((decide ((0 : Int) ≤ n54)) && (decide (n54 < (List.length ns55 : Int)))) (cond_ ((decide ((0 : Int) ≤ (IntKind.wrap .i64 (n54 - (1 : Int))))) && (decide ((IntKind.wrap .i64 (n54 - (1 : Int))) < (List.length ns55 : Int)))) (cmp_Less_int (List.getD ns55 (Int.toNat n54) (0 : Int)) (List.getD ns55 (Int.toNat (IntKind.wrap .i64 (n54 - (1 : Int)))) (0 : Int))
  (fun b61 => (cond_ b61 (cond_ ((decide ((0 : Int) ≤ (IntKind.wrap .i64 (n54 - (1 : Int))))) && (decide ((IntKind.wrap .i64 (n54 - (1 : Int))) < (List.length ns55 : Int)))) (cond_ ((decide ((0 : Int) ≤ n54)) && (decide (n54 < (List.length ns55 : Int)))) (cond_ ((decide ((0 : Int) ≤ n54)) && (decide (n54 < (List.length ns55 : Int)))) (cond_ ((decide ((0 : Int) ≤ (IntKind.wrap .i64 (n54 - (1 : Int))))) && (decide ((IntKind.wrap .i64 (n54 - (1 : Int))) < (((List.length (List.set ns55 (Int.toNat n54) (List.getD ns55 (Int.toNat (IntKind.wrap .i64 (n54 - (1 : Int)))) (0 : Int)))) : Nat) : Int)))) (slices_insertionSortOrdered_int_L0_L2 n51 n52 n53 (IntKind.wrap .i64 (n54 - (1 : Int))) (List.set (List.set ns55 (Int.toNat n54) (List.getD ns55 (Int.toNat (IntKind.wrap .i64 (n54 - (1 : Int)))) (0 : Int))) (Int.toNat (IntKind.wrap .i64 (n54 - (1 : Int)))) (List.getD ns55 (Int.toNat n54) (0 : Int))) k1) none) none) none) none) (k1 n51 n52 n53 ns55)))) none) none) (k1 n51 n52 n53 ns55))
noncomputable def slices_insertionSortOrdered_int_L0_L2 : Nat → T_slices_insertionSortOrdered_int_L0_L2
  | 0 => fun _ _ _ _ _ _ => none
  | n + 1 => slices_insertionSortOrdered_int_L0_L2.body (slices_insertionSortOrdered_int_L0_L2 n) cmp_Less_int
def slices_insertionSortOrdered_int_L0_L2.p : LPat := lp 2 49 [0, 1, 2, 6, 7] (ps (pr [0, 0]) (pl (pd (.int .i64)) (pl (pd (.int .i64)) (pl (pd (.int .i64)) (pl (pd (.int .i64)) pz))))) (pl (po [0, 0] 3 1 (ed (.int .i64))) pz)
def slices_insertionSortOrdered_int_L0_L2.g (F : T_slices_insertionSortOrdered_int_L0_L2) (v : slices_insertionSortOrdered_int_L0_L2.p.T) (k : KE) : Option Bool := F v.1.1 v.1.2.1 v.1.2.2.1 v.1.2.2.2.1 v.2.1 (fun y0 y1 y2 y3 => k (.exit 2) ⟨fillS 49 [0, 1, 2, 6] [(.ref [0, 0]), (.d ⟨(.int .i64), y0⟩), (.d ⟨(.int .i64), y1⟩), (.d ⟨(.int .i64), y2⟩)], [([0, 0], ⟨3, 1, (.data (.int .i64) y3)⟩)], 2⟩)
theorem slices_insertionSortOrdered_int_L0_L2.step (S : T_slices_insertionSortOrdered_int_L0_L2) (F0 : T_cmp_Less_int) : ∀ v k, exR 86 Tryz.f86 2 slices_insertionSortOrdered_int_L0_L2.p [⟨cmp_Less_int.p, cmp_Less_int.g F0⟩] [] [] (slices_insertionSortOrdered_int_L0_L2.g S) v k = slices_insertionSortOrdered_int_L0_L2.g (slices_insertionSortOrdered_int_L0_L2.body S F0) v k := fun v k => by kernel_rfl
theorem slices_insertionSortOrdered_int_L0_L2.ok : okL 86 Tryz.f86 2 2 slices_insertionSortOrdered_int_L0_L2.p (slices_insertionSortOrdered_int_L0_L2.g (slices_insertionSortOrdered_int_L0_L2 ROUNDS)) := loop2 (G := fun n => slices_insertionSortOrdered_int_L0_L2.g (slices_insertionSortOrdered_int_L0_L2 n)) (fun n => slices_insertionSortOrdered_int_L0_L2.step (slices_insertionSortOrdered_int_L0_L2 n) cmp_Less_int) (.cons cmp_Less_int.ok .nil) [] (by kernel_rfl) .nil (fun _ _ => rfl)
/-- function 86: the loop in block 0 -/
abbrev T_slices_insertionSortOrdered_int_L0 : Type := Int → Int → Int → (List Int) → ((List Int) → Option Bool) → Option Bool
noncomputable def slices_insertionSortOrdered_int_L0.body (slices_insertionSortOrdered_int_L0 : T_slices_insertionSortOrdered_int_L0) (slices_insertionSortOrdered_int_L0_L2 : T_slices_insertionSortOrdered_int_L0_L2) : T_slices_insertionSortOrdered_int_L0 := fun n47 n48 n49 ns50 k1 =>
  (cond_ (decide (n49 < n48)) (slices_insertionSortOrdered_int_L0_L2 n47 n48 n49 n49 ns50
  (fun n62 n63 n64 ns65 => (slices_insertionSortOrdered_int_L0 n62 n63 (IntKind.wrap .i64 (n64 + (1 : Int))) ns65 k1))) (k1 ns50))
noncomputable def slices_insertionSortOrdered_int_L0 : Nat → T_slices_insertionSortOrdered_int_L0
  | 0 => fun _ _ _ _ _ => none
  | n + 1 => slices_insertionSortOrdered_int_L0.body (slices_insertionSortOrdered_int_L0 n) (slices_insertionSortOrdered_int_L0_L2 ROUNDS)
def slices_insertionSortOrdered_int_L0.p : LPat := lp 2 49 [0, 1, 2, 6] (ps (pr [0, 0]) (pl (pd (.int .i64)) (pl (pd (.int .i64)) (pl (pd (.int .i64)) pz)))) (pl (po [0, 0] 3 1 (ed (.int .i64))) pz)
def slices_insertionSortOrdered_int_L0.g (F : T_slices_insertionSortOrdered_int_L0) (v : slices_insertionSortOrdered_int_L0.p.T) (k : KE) : Option Bool := F v.1.1 v.1.2.1 v.1.2.2.1 v.2.1 (fun y0 => k (.exit 0) ⟨fillS 49 [] [], [([0, 0], ⟨3, 1, (.data (.int .i64) y0)⟩)], 2⟩)
theorem slices_insertionSortOrdered_int_L0.step (S : T_slices_insertionSortOrdered_int_L0) (L0 : T_slices_insertionSortOrdered_int_L0_L2) : ∀ v k, exR 86 Tryz.f86 0 slices_insertionSortOrdered_int_L0.p [] [] [⟨2, slices_insertionSortOrdered_int_L0_L2.p, slices_insertionSortOrdered_int_L0_L2.g L0⟩] (slices_insertionSortOrdered_int_L0.g S) v k = slices_insertionSortOrdered_int_L0.g (slices_insertionSortOrdered_int_L0.body S L0) v k := fun v k => by kernel_rfl
theorem slices_insertionSortOrdered_int_L0.ok : okL 86 Tryz.f86 2 0 slices_insertionSortOrdered_int_L0.p (slices_insertionSortOrdered_int_L0.g (slices_insertionSortOrdered_int_L0 ROUNDS)) := loop2 (G := fun n => slices_insertionSortOrdered_int_L0.g (slices_insertionSortOrdered_int_L0 n)) (fun n => slices_insertionSortOrdered_int_L0.step (slices_insertionSortOrdered_int_L0 n) (slices_insertionSortOrdered_int_L0_L2 ROUNDS)) .nil [2] (by kernel_rfl) (.cons slices_insertionSortOrdered_int_L0_L2.ok .nil) (fun _ _ => rfl)
/-- function 86: slices.insertionSortOrdered[int] -/
abbrev T_slices_insertionSortOrdered_int : Type := Int → Int → (List Int) → ((List Int) → Option Bool) → Option Bool
noncomputable def slices_insertionSortOrdered_int.body (slices_insertionSortOrdered_int_L0 : T_slices_insertionSortOrdered_int_L0) : T_slices_insertionSortOrdered_int := fun n44 n45 ns46 k1 =>
  (slices_insertionSortOrdered_int_L0 n44 n45 (IntKind.wrap .i64 (n44 + (1 : Int))) ns46
  (fun ns66 => (k1 ns66)))
noncomputable def slices_insertionSortOrdered_int : T_slices_insertionSortOrdered_int := slices_insertionSortOrdered_int.body (slices_insertionSortOrdered_int_L0 ROUNDS)
def slices_insertionSortOrdered_int.p : FPat := fp 86 (ps (pr [0, 0]) (pl (pd (.int .i64)) (pl (pd (.int .i64)) pz))) (pl (po [0, 0] 3 1 (ed (.int .i64))) pz)
def slices_insertionSortOrdered_int.g (F : T_slices_insertionSortOrdered_int) (v : slices_insertionSortOrdered_int.p.T) (k : KR) : Option Bool := F v.1.1 v.1.2.1 v.2.1 (fun y0 => k (.tup []) [([0, 0], ⟨3, 1, (.data (.int .i64) y0)⟩)])
theorem slices_insertionSortOrdered_int.eq (L0 : T_slices_insertionSortOrdered_int_L0) : ∀ v k, exF Tryz.f86 slices_insertionSortOrdered_int.p [] [] [⟨0, slices_insertionSortOrdered_int_L0.p, slices_insertionSortOrdered_int_L0.g L0⟩] v k = slices_insertionSortOrdered_int.g (slices_insertionSortOrdered_int.body L0) v k := fun v k => by kernel_rfl
theorem slices_insertionSortOrdered_int.ok : okF 3 slices_insertionSortOrdered_int.p (slices_insertionSortOrdered_int.g slices_insertionSortOrdered_int) := fn2 (slices_insertionSortOrdered_int.eq (slices_insertionSortOrdered_int_L0 ROUNDS)) Tryz.func86 (by kernel_rfl) .nil [0] (by kernel_rfl) (.cons slices_insertionSortOrdered_int_L0.ok .nil)
/-- function 84: the loop in block 0 -/
abbrev T_slices_pdqsortOrdered_int_L0 : Type := Int → Int → Int → Bool → Bool → (List Int) → ((List Int) → Option Bool) → Option Bool
noncomputable def slices_pdqsortOrdered_int_L0.body (slices_pdqsortOrdered_int_L0 : T_slices_pdqsortOrdered_int_L0) (slices_insertionSortOrdered_int : T_slices_insertionSortOrdered_int) : T_slices_pdqsortOrdered_int_L0 := fun n38 n39 n40 b41 b42 ns43 k1 =>
  (cond_ (decide ((IntKind.wrap .i64 (n39 - n38)) ≤ (12 : Int))) (slices_insertionSortOrdered_int n38 n39 ns43
  (fun ns67 => (k1 ns67))) (cond_ (n40 == (0 : Int)) none (cond_ (! b41) none none)))
noncomputable def slices_pdqsortOrdered_int_L0 : Nat → T_slices_pdqsortOrdered_int_L0
  | 0 => fun _ _ _ _ _ _ _ => none
  | n + 1 => slices_pdqsortOrdered_int_L0.body (slices_pdqsortOrdered_int_L0 n) slices_insertionSortOrdered_int
def slices_pdqsortOrdered_int_L0.p : LPat := lp 2 134 [0, 1, 2, 3, 8, 9] (ps (pr [0, 0]) (pl (pd (.int .i64)) (pl (pd (.int .i64)) (pl (pd (.int .i64)) (pl (pd .bool) (pl (pd .bool) pz)))))) (pl (po [0, 0] 3 1 (ed (.int .i64))) pz)
def slices_pdqsortOrdered_int_L0.g (F : T_slices_pdqsortOrdered_int_L0) (v : slices_pdqsortOrdered_int_L0.p.T) (k : KE) : Option Bool := F v.1.1 v.1.2.1 v.1.2.2.1 v.1.2.2.2.1 v.1.2.2.2.2.1 v.2.1 (fun y0 => k .ret ⟨fillS 134 [] [], [([0, 0], ⟨3, 1, (.data (.int .i64) y0)⟩)], 2⟩)
theorem slices_pdqsortOrdered_int_L0.step (S : T_slices_pdqsortOrdered_int_L0) (F0 : T_slices_insertionSortOrdered_int) : ∀ v k, exR 84 Tryz.f84 0 slices_pdqsortOrdered_int_L0.p [⟨slices_insertionSortOrdered_int.p, slices_insertionSortOrdered_int.g F0⟩] [] [] (slices_pdqsortOrdered_int_L0.g S) v k = slices_pdqsortOrdered_int_L0.g (slices_pdqsortOrdered_int_L0.body S F0) v k := fun v k => by kernel_rfl
theorem slices_pdqsortOrdered_int_L0.ok : okL 84 Tryz.f84 3 0 slices_pdqsortOrdered_int_L0.p (slices_pdqsortOrdered_int_L0.g (slices_pdqsortOrdered_int_L0 ROUNDS)) := loop2 (G := fun n => slices_pdqsortOrdered_int_L0.g (slices_pdqsortOrdered_int_L0 n)) (fun n => slices_pdqsortOrdered_int_L0.step (slices_pdqsortOrdered_int_L0 n) slices_insertionSortOrdered_int) (.cons slices_insertionSortOrdered_int.ok .nil) [] (by kernel_rfl) .nil (fun _ _ => rfl)
/-- function 84: slices.pdqsortOrdered[int] -/
abbrev T_slices_pdqsortOrdered_int : Type := Int → Int → Int → (List Int) → ((List Int) → Option Bool) → Option Bool
noncomputable def slices_pdqsortOrdered_int.body (slices_pdqsortOrdered_int_L0 : T_slices_pdqsortOrdered_int_L0) : T_slices_pdqsortOrdered_int := fun n34 n35 n36 ns37 k1 =>
  (slices_pdqsortOrdered_int_L0 n34 n35 n36 true true ns37
  (fun ns68 => (k1 ns68)))
noncomputable def slices_pdqsortOrdered_int : T_slices_pdqsortOrdered_int := slices_pdqsortOrdered_int.body (slices_pdqsortOrdered_int_L0 ROUNDS)
def slices_pdqsortOrdered_int.p : FPat := fp 84 (ps (pr [0, 0]) (pl (pd (.int .i64)) (pl (pd (.int .i64)) (pl (pd (.int .i64)) pz)))) (pl (po [0, 0] 3 1 (ed (.int .i64))) pz)
def slices_pdqsortOrdered_int.g (F : T_slices_pdqsortOrdered_int) (v : slices_pdqsortOrdered_int.p.T) (k : KR) : Option Bool := F v.1.1 v.1.2.1 v.1.2.2.1 v.2.1 (fun y0 => k (.tup []) [([0, 0], ⟨3, 1, (.data (.int .i64) y0)⟩)])
theorem slices_pdqsortOrdered_int.eq (L0 : T_slices_pdqsortOrdered_int_L0) : ∀ v k, exF Tryz.f84 slices_pdqsortOrdered_int.p [] [] [⟨0, slices_pdqsortOrdered_int_L0.p, slices_pdqsortOrdered_int_L0.g L0⟩] v k = slices_pdqsortOrdered_int.g (slices_pdqsortOrdered_int.body L0) v k := fun v k => by kernel_rfl
theorem slices_pdqsortOrdered_int.ok : okF 4 slices_pdqsortOrdered_int.p (slices_pdqsortOrdered_int.g slices_pdqsortOrdered_int) := fn2 (slices_pdqsortOrdered_int.eq (slices_pdqsortOrdered_int_L0 ROUNDS)) Tryz.func84 (by kernel_rfl) .nil [0] (by kernel_rfl) (.cons slices_pdqsortOrdered_int_L0.ok .nil)
/-- function 82: slices.Sort[[]int,int] -/
abbrev T_slices_Sort_int_int : Type := (List Int) → ((List Int) → Option Bool) → Option Bool
noncomputable def slices_Sort_int_int.body (math_bits_Len : T_math_bits_Len) (slices_pdqsortOrdered_int : T_slices_pdqsortOrdered_int) : T_slices_Sort_int_int := fun ns29 k1 =>
  (math_bits_Len (IntKind.wrap .u64 (List.length ns29 : Int))
  (fun n33 => (slices_pdqsortOrdered_int (0 : Int) (List.length ns29 : Int) n33 ns29
  (fun ns69 => (k1 ns69)))))
noncomputable def slices_Sort_int_int : T_slices_Sort_int_int := slices_Sort_int_int.body math_bits_Len slices_pdqsortOrdered_int
def slices_Sort_int_int.p : FPat := fp 82 (ps (pr [0, 0]) pz) (pl (po [0, 0] 3 1 (ed (.int .i64))) pz)
def slices_Sort_int_int.g (F : T_slices_Sort_int_int) (v : slices_Sort_int_int.p.T) (k : KR) : Option Bool := F v.2.1 (fun y0 => k (.tup []) [([0, 0], ⟨3, 1, (.data (.int .i64) y0)⟩)])
theorem slices_Sort_int_int.eq (F0 : T_math_bits_Len) (F1 : T_slices_pdqsortOrdered_int) : ∀ v k, exF Tryz.f82 slices_Sort_int_int.p [⟨math_bits_Len.p, math_bits_Len.g F0⟩, ⟨slices_pdqsortOrdered_int.p, slices_pdqsortOrdered_int.g F1⟩] [] [] v k = slices_Sort_int_int.g (slices_Sort_int_int.body F0 F1) v k := fun v k => by kernel_rfl
theorem slices_Sort_int_int.ok : okF 5 slices_Sort_int_int.p (slices_Sort_int_int.g slices_Sort_int_int) := fn2 (slices_Sort_int_int.eq math_bits_Len slices_pdqsortOrdered_int) Tryz.func82 (by kernel_rfl) (.cons math_bits_Len.ok (.cons slices_pdqsortOrdered_int.ok .nil)) [] (by kernel_rfl) .nil
/-- function 83: the loop in block 2 -/
abbrev T_slices_Compact_int_int_L0_L2 : Type := Int → Nat → Nat → Int → (List Int) → (Int → (List Int) → Option Bool) → Option Bool
noncomputable def slices_Compact_int_int_L0_L2.body (slices_Compact_int_int_L0_L2 : T_slices_Compact_int_int_L0_L2) : T_slices_Compact_int_int_L0_L2 := fun n74 m75 m76 n77 ns78 k1 =>
  (cond_ (decide (n77 < ((m76 : Nat) : Int))) (cond_ ((decide ((0 : Int) ≤ n77)) && (decide (n77 < ((m76 : Nat) : Int)))) (cond_ ((decide ((0 : Int) ≤ (IntKind.wrap .i64 (n77 - (1 : Int))))) && (decide ((IntKind.wrap .i64 (n77 - (1 : Int))) < ((m76 : Nat) : Int)))) (cond_ ((List.getD ns78 (m75 + (Int.toNat n77)) (0 : Int)) != (List.getD ns78 (m75 + (Int.toNat (IntKind.wrap .i64 (n77 - (1 : Int))))) (0 : Int))) (cond_ ((decide ((0 : Int) ≤ n77)) && (decide (n77 < ((m76 : Nat) : Int)))) (cond_ ((decide ((0 : Int) ≤ n74)) && (decide (n74 < (List.length ns78 : Int)))) (slices_Compact_int_int_L0_L2 (IntKind.wrap .i64 (n74 + (1 : Int))) m75 m76 (IntKind.wrap .i64 (n77 + (1 : Int))) (List.set ns78 (Int.toNat n74) (List.getD ns78 (m75 + (Int.toNat n77)) (0 : Int))) k1) none) none) (slices_Compact_int_int_L0_L2 n74 m75 m76 (IntKind.wrap .i64 (n77 + (1 : Int))) ns78 k1)) none) none) (k1 n74 ns78))
noncomputable def slices_Compact_int_int_L0_L2 : Nat → T_slices_Compact_int_int_L0_L2
  | 0 => fun _ _ _ _ _ _ => none
  | n + 1 => slices_Compact_int_int_L0_L2.body (slices_Compact_int_int_L0_L2 n)
def slices_Compact_int_int_L0_L2.p : LPat := lp 2 61 [0, 3, 4, 5] (ps (pr [0, 0]) (pl (pd (.int .i64)) (pl (pc [0, 0] nv nv) (pl (pd (.int .i64)) pz)))) (pl (po [0, 0] 3 1 (ed (.int .i64))) pz)
def slices_Compact_int_int_L0_L2.g (F : T_slices_Compact_int_int_L0_L2) (v : slices_Compact_int_int_L0_L2.p.T) (k : KE) : Option Bool := F v.1.1 v.1.2.1.1 v.1.2.1.2 v.1.2.2.1 v.2.1 (fun y0 y1 => k (.exit 2) ⟨fillS 61 [0, 3] [(.ref [0, 0]), (.d ⟨(.int .i64), y0⟩)], [([0, 0], ⟨3, 1, (.data (.int .i64) y1)⟩)], 2⟩)
theorem slices_Compact_int_int_L0_L2.step (S : T_slices_Compact_int_int_L0_L2) : ∀ v k, exR 83 Tryz.f83 2 slices_Compact_int_int_L0_L2.p [] [] [] (slices_Compact_int_int_L0_L2.g S) v k = slices_Compact_int_int_L0_L2.g (slices_Compact_int_int_L0_L2.body S) v k := fun v k => by kernel_rfl
theorem slices_Compact_int_int_L0_L2.ok : okL 83 Tryz.f83 0 2 slices_Compact_int_int_L0_L2.p (slices_Compact_int_int_L0_L2.g (slices_Compact_int_int_L0_L2 ROUNDS)) := loop2 (G := fun n => slices_Compact_int_int_L0_L2.g (slices_Compact_int_int_L0_L2 n)) (fun n => slices_Compact_int_int_L0_L2.step (slices_Compact_int_int_L0_L2 n)) .nil [] (by kernel_rfl) .nil (fun _ _ => rfl)
/-- function 83: the loop in block 0 -/
abbrev T_slices_Compact_int_int_L0 : Type := Int → (List Int) → (Nat → (List Int) → Option Bool) → ((List Int) → Option Bool) → Option Bool
noncomputable def slices_Compact_int_int_L0.body (slices_Compact_int_int_L0 : T_slices_Compact_int_int_L0) (slices_Compact_int_int_L0_L2 : T_slices_Compact_int_int_L0_L2) : T_slices_Compact_int_int_L0 := fun n72 ns73 k1 k2 =>
  (cond_ (decide (n72 < (List.length ns73 : Int))) (cond_ ((decide ((0 : Int) ≤ n72)) && (decide (n72 < (List.length ns73 : Int)))) (cond_ ((decide ((0 : Int) ≤ (IntKind.wrap .i64 (n72 - (1 : Int))))) && (decide ((IntKind.wrap .i64 (n72 - (1 : Int))) < (List.length ns73 : Int)))) (cond_ ((List.getD ns73 (Int.toNat n72) (0 : Int)) == (List.getD ns73 (Int.toNat (IntKind.wrap .i64 (n72 - (1 : Int)))) (0 : Int))) (cond_ ((decide ((0 : Int) ≤ n72)) && (decide (n72 ≤ (List.length ns73 : Int)))) (slices_Compact_int_int_L0_L2 n72 (Int.toNat n72) ((List.length ns73) - (Int.toNat n72)) (1 : Int) ns73
  (fun n79 ns80 => (cond_ ((decide ((0 : Int) ≤ n79)) && (decide (n79 ≤ (List.length ns80 : Int)))) (cond_ ((true && (decide ((0 : Int) ≤ n79))) && (decide (n79 ≤ (((List.length (setCells ns80 (Int.toNat n79) (List.replicate ((List.length ns80) - (Int.toNat n79)) (0 : Int)))) : Nat) : Int)))) (k1 (Int.toNat (n79 - (0 : Int))) (setCells ns80 (Int.toNat n79) (List.replicate ((List.length ns80) - (Int.toNat n79)) (0 : Int)))) none) none))) none) (slices_Compact_int_int_L0 (IntKind.wrap .i64 (n72 + (1 : Int))) ns73 k1 k2)) none) none) (k2 ns73))
noncomputable def slices_Compact_int_int_L0 : Nat → T_slices_Compact_int_int_L0
  | 0 => fun _ _ _ _ => none
  | n + 1 => slices_Compact_int_int_L0.body (slices_Compact_int_int_L0 n) (slices_Compact_int_int_L0_L2 ROUNDS)
def slices_Compact_int_int_L0.p : LPat := lp 2 61 [0, 3] (ps (pr [0, 0]) (pl (pd (.int .i64)) pz)) (pl (po [0, 0] 3 1 (ed (.int .i64))) pz)
def slices_Compact_int_int_L0.g (F : T_slices_Compact_int_int_L0) (v : slices_Compact_int_int_L0.p.T) (k : KE) : Option Bool := F v.1.1 v.2.1 (fun y0 y1 => k .ret ⟨fillS 61 [2] [(.cut [0, 0] 0 y0)], [([0, 0], ⟨3, 1, (.data (.int .i64) y1)⟩)], 2⟩) (fun y0 => k (.exit 0) ⟨fillS 61 [0] [(.ref [0, 0])], [([0, 0], ⟨3, 1, (.data (.int .i64) y0)⟩)], 2⟩)
theorem slices_Compact_int_int_L0.step (S : T_slices_Compact_int_int_L0) (L0 : T_slices_Compact_int_int_L0_L2) : ∀ v k, exR 83 Tryz.f83 0 slices_Compact_int_int_L0.p [] [] [⟨2, slices_Compact_int_int_L0_L2.p, slices_Compact_int_int_L0_L2.g L0⟩] (slices_Compact_int_int_L0.g S) v k = slices_Compact_int_int_L0.g (slices_Compact_int_int_L0.body S L0) v k := fun v k => by kernel_rfl
theorem slices_Compact_int_int_L0.ok : okL 83 Tryz.f83 0 0 slices_Compact_int_int_L0.p (slices_Compact_int_int_L0.g (slices_Compact_int_int_L0 ROUNDS)) := loop2 (G := fun n => slices_Compact_int_int_L0.g (slices_Compact_int_int_L0 n)) (fun n => slices_Compact_int_int_L0.step (slices_Compact_int_int_L0 n) (slices_Compact_int_int_L0_L2 ROUNDS)) .nil [2] (by kernel_rfl) (.cons slices_Compact_int_int_L0_L2.ok .nil) (fun _ _ => rfl)
/-- function 83: slices.Compact[[]int,int] -/
abbrev T_slices_Compact_int_int : Type := (List Int) → ((List Int) → Option Bool) → (Nat → (List Int) → Option Bool) → Option Bool
noncomputable def slices_Compact_int_int.body (slices_Compact_int_int_L0 : T_slices_Compact_int_int_L0) : T_slices_Compact_int_int := fun ns71 k1 k2 =>
  (cond_ (decide ((List.length ns71 : Int) < (2 : Int))) (k1 ns71) (slices_Compact_int_int_L0 (1 : Int) ns71
  (fun m81 ns82 => (k2 m81 ns82))
  (fun ns83 => (k1 ns83))))
noncomputable def slices_Compact_int_int : T_slices_Compact_int_int := slices_Compact_int_int.body (slices_Compact_int_int_L0 ROUNDS)
def slices_Compact_int_int.p : FPat := fp 83 (ps (pr [0, 0]) pz) (pl (po [0, 0] 3 1 (ed (.int .i64))) pz)
def slices_Compact_int_int.g (F : T_slices_Compact_int_int) (v : slices_Compact_int_int.p.T) (k : KR) : Option Bool := F v.2.1 (fun y0 => k (.ref [0, 0]) [([0, 0], ⟨3, 1, (.data (.int .i64) y0)⟩)]) (fun y0 y1 => k (.cut [0, 0] 0 y0) [([0, 0], ⟨3, 1, (.data (.int .i64) y1)⟩)])
theorem slices_Compact_int_int.eq (L0 : T_slices_Compact_int_int_L0) : ∀ v k, exF Tryz.f83 slices_Compact_int_int.p [] [] [⟨0, slices_Compact_int_int_L0.p, slices_Compact_int_int_L0.g L0⟩] v k = slices_Compact_int_int.g (slices_Compact_int_int.body L0) v k := fun v k => by kernel_rfl
theorem slices_Compact_int_int.ok : okF 1 slices_Compact_int_int.p (slices_Compact_int_int.g slices_Compact_int_int) := fn2 (slices_Compact_int_int.eq (slices_Compact_int_int_L0 ROUNDS)) Tryz.func83 (by kernel_rfl) .nil [0] (by kernel_rfl) (.cons slices_Compact_int_int_L0.ok .nil)
/-- function 81: sheerleg/op.Ends -/
abbrev T_op_Ends : Type := Int → (Bool → Option Bool) → Option Bool
noncomputable def op_Ends.body : T_op_Ends := fun n109 k1 =>
  (cond_ (! (n109 == (11 : Int))) (cond_ (! (n109 == (22 : Int))) (k1 (n109 == (24 : Int))) (k1 true)) (k1 true))
noncomputable def op_Ends : T_op_Ends := op_Ends.body
def op_Ends.p : FPat := fp 81 (pl (pd (.int .i64)) pz) pz
def op_Ends.g (F : T_op_Ends) (v : op_Ends.p.T) (k : KR) : Option Bool := F v.1.1 (fun y0 => k (.d ⟨.bool, y0⟩) [])
theorem op_Ends.eq : ∀ v k, exF Tryz.f81 op_Ends.p [] [] [] v k = op_Ends.g (op_Ends.body) v k := fun v k => by kernel_rfl
theorem op_Ends.ok : okF 1 op_Ends.p (op_Ends.g op_Ends) := fn2 (op_Ends.eq) Tryz.func81 (by kernel_rfl) .nil [] (by kernel_rfl) .nil
/-- function 86: the loop in block 2 -/
abbrev T_slices_insertionSortOrdered_intv1_L0_L2 : Type := Int → Int → Int → Int → (Int → Int → Int → Option Bool) → Option Bool
noncomputable def slices_insertionSortOrdered_intv1_L0_L2.body (slices_insertionSortOrdered_intv1_L0_L2 : T_slices_insertionSortOrdered_intv1_L0_L2) : T_slices_insertionSortOrdered_intv1_L0_L2 := fun n129 n130 n131 n132 k1 =>
  (cond_ (decide (n132 > n129)) none (k1 n129 n130 n131))
noncomputable def slices_insertionSortOrdered_intv1_L0_L2 : Nat → T_slices_insertionSortOrdered_intv1_L0_L2
  | 0 => fun _ _ _ _ _ => none
  | n + 1 => slices_insertionSortOrdered_intv1_L0_L2.body (slices_insertionSortOrdered_intv1_L0_L2 n)
def slices_insertionSortOrdered_intv1_L0_L2.p : LPat := lp 2 49 [0, 1, 2, 6, 7] (ps (pk 0) (pl (pd (.int .i64)) (pl (pd (.int .i64)) (pl (pd (.int .i64)) (pl (pd (.int .i64)) pz))))) pz
def slices_insertionSortOrdered_intv1_L0_L2.g (F : T_slices_insertionSortOrdered_intv1_L0_L2) (v : slices_insertionSortOrdered_intv1_L0_L2.p.T) (k : KE) : Option Bool := F v.1.1 v.1.2.1 v.1.2.2.1 v.1.2.2.2.1 (fun y0 y1 y2 => k (.exit 2) ⟨fillS 49 [0, 1, 2, 6] [.nils, (.d ⟨(.int .i64), y0⟩), (.d ⟨(.int .i64), y1⟩), (.d ⟨(.int .i64), y2⟩)], [], 2⟩)
theorem slices_insertionSortOrdered_intv1_L0_L2.step (S : T_slices_insertionSortOrdered_intv1_L0_L2) : ∀ v k, exR 86 Tryz.f86 2 slices_insertionSortOrdered_intv1_L0_L2.p [] [] [] (slices_insertionSortOrdered_intv1_L0_L2.g S) v k = slices_insertionSortOrdered_intv1_L0_L2.g (slices_insertionSortOrdered_intv1_L0_L2.body S) v k := fun v k => by kernel_rfl
theorem slices_insertionSortOrdered_intv1_L0_L2.ok : okL 86 Tryz.f86 0 2 slices_insertionSortOrdered_intv1_L0_L2.p (slices_insertionSortOrdered_intv1_L0_L2.g (slices_insertionSortOrdered_intv1_L0_L2 ROUNDS)) := loop2 (G := fun n => slices_insertionSortOrdered_intv1_L0_L2.g (slices_insertionSortOrdered_intv1_L0_L2 n)) (fun n => slices_insertionSortOrdered_intv1_L0_L2.step (slices_insertionSortOrdered_intv1_L0_L2 n)) .nil [] (by kernel_rfl) .nil (fun _ _ => rfl)
/-- function 86: the loop in block 0 -/
abbrev T_slices_insertionSortOrdered_intv1_L0 : Type := Int → Int → Int → (Option Bool) → Option Bool
noncomputable def slices_insertionSortOrdered_intv1_L0.body (slices_insertionSortOrdered_intv1_L0 : T_slices_insertionSortOrdered_intv1_L0) (slices_insertionSortOrdered_intv1_L0_L2 : T_slices_insertionSortOrdered_intv1_L0_L2) : T_slices_insertionSortOrdered_intv1_L0 := fun n126 n127 n128 k1 =>
  (cond_ (decide (n128 < n127)) (slices_insertionSortOrdered_intv1_L0_L2 n126 n127 n128 n128
  (fun n133 n134 n135 => (slices_insertionSortOrdered_intv1_L0 n133 n134 (IntKind.wrap .i64 (n135 + (1 : Int))) k1))) (k1))
noncomputable def slices_insertionSortOrdered_intv1_L0 : Nat → T_slices_insertionSortOrdered_intv1_L0
  | 0 => fun _ _ _ _ => none
  | n + 1 => slices_insertionSortOrdered_intv1_L0.body (slices_insertionSortOrdered_intv1_L0 n) (slices_insertionSortOrdered_intv1_L0_L2 ROUNDS)
def slices_insertionSortOrdered_intv1_L0.p : LPat := lp 2 49 [0, 1, 2, 6] (ps (pk 0) (pl (pd (.int .i64)) (pl (pd (.int .i64)) (pl (pd (.int .i64)) pz)))) pz
def slices_insertionSortOrdered_intv1_L0.g (F : T_slices_insertionSortOrdered_intv1_L0) (v : slices_insertionSortOrdered_intv1_L0.p.T) (k : KE) : Option Bool := F v.1.1 v.1.2.1 v.1.2.2.1 (k (.exit 0) ⟨fillS 49 [] [], [], 2⟩)
theorem slices_insertionSortOrdered_intv1_L0.step (S : T_slices_insertionSortOrdered_intv1_L0) (L0 : T_slices_insertionSortOrdered_intv1_L0_L2) : ∀ v k, exR 86 Tryz.f86 0 slices_insertionSortOrdered_intv1_L0.p [] [] [⟨2, slices_insertionSortOrdered_intv1_L0_L2.p, slices_insertionSortOrdered_intv1_L0_L2.g L0⟩] (slices_insertionSortOrdered_intv1_L0.g S) v k = slices_insertionSortOrdered_intv1_L0.g (slices_insertionSortOrdered_intv1_L0.body S L0) v k := fun v k => by kernel_rfl
theorem slices_insertionSortOrdered_intv1_L0.ok : okL 86 Tryz.f86 0 0 slices_insertionSortOrdered_intv1_L0.p (slices_insertionSortOrdered_intv1_L0.g (slices_insertionSortOrdered_intv1_L0 ROUNDS)) := loop2 (G := fun n => slices_insertionSortOrdered_intv1_L0.g (slices_insertionSortOrdered_intv1_L0 n)) (fun n => slices_insertionSortOrdered_intv1_L0.step (slices_insertionSortOrdered_intv1_L0 n) (slices_insertionSortOrdered_intv1_L0_L2 ROUNDS)) .nil [2] (by kernel_rfl) (.cons slices_insertionSortOrdered_intv1_L0_L2.ok .nil) (fun _ _ => rfl)
/-- function 86: slices.insertionSortOrdered[int] -/
abbrev T_slices_insertionSortOrdered_intv1 : Type := Int → Int → (Option Bool) → Option Bool
noncomputable def slices_insertionSortOrdered_intv1.body (slices_insertionSortOrdered_intv1_L0 : T_slices_insertionSortOrdered_intv1_L0) : T_slices_insertionSortOrdered_intv1 := fun n124 n125 k1 =>
  (slices_insertionSortOrdered_intv1_L0 n124 n125 (IntKind.wrap .i64 (n124 + (1 : Int)))
  (k1))
noncomputable def slices_insertionSortOrdered_intv1 : T_slices_insertionSortOrdered_intv1 := slices_insertionSortOrdered_intv1.body (slices_insertionSortOrdered_intv1_L0 ROUNDS)
def slices_insertionSortOrdered_intv1.p : FPat := fp 86 (ps (pk 0) (pl (pd (.int .i64)) (pl (pd (.int .i64)) pz))) pz
def slices_insertionSortOrdered_intv1.g (F : T_slices_insertionSortOrdered_intv1) (v : slices_insertionSortOrdered_intv1.p.T) (k : KR) : Option Bool := F v.1.1 v.1.2.1 (k (.tup []) [])
theorem slices_insertionSortOrdered_intv1.eq (L0 : T_slices_insertionSortOrdered_intv1_L0) : ∀ v k, exF Tryz.f86 slices_insertionSortOrdered_intv1.p [] [] [⟨0, slices_insertionSortOrdered_intv1_L0.p, slices_insertionSortOrdered_intv1_L0.g L0⟩] v k = slices_insertionSortOrdered_intv1.g (slices_insertionSortOrdered_intv1.body L0) v k := fun v k => by kernel_rfl
theorem slices_insertionSortOrdered_intv1.ok : okF 1 slices_insertionSortOrdered_intv1.p (slices_insertionSortOrdered_intv1.g slices_insertionSortOrdered_intv1) := fn2 (slices_insertionSortOrdered_intv1.eq (slices_insertionSortOrdered_intv1_L0 ROUNDS)) Tryz.func86 (by kernel_rfl) .nil [0] (by kernel_rfl) (.cons slices_insertionSortOrdered_intv1_L0.ok .nil)
/-- function 84: the loop in block 0 -/
abbrev T_slices_pdqsortOrdered_intv1_L0 : Type := Int → Int → Int → Bool → Bool → (Option Bool) → Option Bool
noncomputable def slices_pdqsortOrdered_intv1_L0.body (slices_pdqsortOrdered_intv1_L0 : T_slices_pdqsortOrdered_intv1_L0) (slices_insertionSortOrdered_intv1 : T_slices_insertionSortOrdered_intv1) : T_slices_pdqsortOrdered_intv1_L0 := fun n119 n120 n121 b122 b123 k1 =>
  (cond_ (decide ((IntKind.wrap .i64 (n120 - n119)) ≤ (12 : Int))) (slices_insertionSortOrdered_intv1 n119 n120
  (k1)) (cond_ (n121 == (0 : Int)) none (cond_ (! b122) none none)))
noncomputable def slices_pdqsortOrdered_intv1_L0 : Nat → T_slices_pdqsortOrdered_intv1_L0
  | 0 => fun _ _ _ _ _ _ => none
  | n + 1 => slices_pdqsortOrdered_intv1_L0.body (slices_pdqsortOrdered_intv1_L0 n) slices_insertionSortOrdered_intv1
def slices_pdqsortOrdered_intv1_L0.p : LPat := lp 2 134 [0, 1, 2, 3, 8, 9] (ps (pk 0) (pl (pd (.int .i64)) (pl (pd (.int .i64)) (pl (pd (.int .i64)) (pl (pd .bool) (pl (pd .bool) pz)))))) pz
def slices_pdqsortOrdered_intv1_L0.g (F : T_slices_pdqsortOrdered_intv1_L0) (v : slices_pdqsortOrdered_intv1_L0.p.T) (k : KE) : Option Bool := F v.1.1 v.1.2.1 v.1.2.2.1 v.1.2.2.2.1 v.1.2.2.2.2.1 (k .ret ⟨fillS 134 [] [], [], 2⟩)
theorem slices_pdqsortOrdered_intv1_L0.step (S : T_slices_pdqsortOrdered_intv1_L0) (F0 : T_slices_insertionSortOrdered_intv1) : ∀ v k, exR 84 Tryz.f84 0 slices_pdqsortOrdered_intv1_L0.p [⟨slices_insertionSortOrdered_intv1.p, slices_insertionSortOrdered_intv1.g F0⟩] [] [] (slices_pdqsortOrdered_intv1_L0.g S) v k = slices_pdqsortOrdered_intv1_L0.g (slices_pdqsortOrdered_intv1_L0.body S F0) v k := fun v k => by kernel_rfl
theorem slices_pdqsortOrdered_intv1_L0.ok : okL 84 Tryz.f84 1 0 slices_pdqsortOrdered_intv1_L0.p (slices_pdqsortOrdered_intv1_L0.g (slices_pdqsortOrdered_intv1_L0 ROUNDS)) := loop2 (G := fun n => slices_pdqsortOrdered_intv1_L0.g (slices_pdqsortOrdered_intv1_L0 n)) (fun n => slices_pdqsortOrdered_intv1_L0.step (slices_pdqsortOrdered_intv1_L0 n) slices_insertionSortOrdered_intv1) (.cons slices_insertionSortOrdered_intv1.ok .nil) [] (by kernel_rfl) .nil (fun _ _ => rfl)
/-- function 84: slices.pdqsortOrdered[int] -/
abbrev T_slices_pdqsortOrdered_intv1 : Type := Int → Int → Int → (Option Bool) → Option Bool
noncomputable def slices_pdqsortOrdered_intv1.body (slices_pdqsortOrdered_intv1_L0 : T_slices_pdqsortOrdered_intv1_L0) : T_slices_pdqsortOrdered_intv1 := fun n116 n117 n118 k1 =>
  (slices_pdqsortOrdered_intv1_L0 n116 n117 n118 true true
  (k1))
noncomputable def slices_pdqsortOrdered_intv1 : T_slices_pdqsortOrdered_intv1 := slices_pdqsortOrdered_intv1.body (slices_pdqsortOrdered_intv1_L0 ROUNDS)
def slices_pdqsortOrdered_intv1.p : FPat := fp 84 (ps (pk 0) (pl (pd (.int .i64)) (pl (pd (.int .i64)) (pl (pd (.int .i64)) pz)))) pz
def slices_pdqsortOrdered_intv1.g (F : T_slices_pdqsortOrdered_intv1) (v : slices_pdqsortOrdered_intv1.p.T) (k : KR) : Option Bool := F v.1.1 v.1.2.1 v.1.2.2.1 (k (.tup []) [])
theorem slices_pdqsortOrdered_intv1.eq (L0 : T_slices_pdqsortOrdered_intv1_L0) : ∀ v k, exF Tryz.f84 slices_pdqsortOrdered_intv1.p [] [] [⟨0, slices_pdqsortOrdered_intv1_L0.p, slices_pdqsortOrdered_intv1_L0.g L0⟩] v k = slices_pdqsortOrdered_intv1.g (slices_pdqsortOrdered_intv1.body L0) v k := fun v k => by kernel_rfl
theorem slices_pdqsortOrdered_intv1.ok : okF 2 slices_pdqsortOrdered_intv1.p (slices_pdqsortOrdered_intv1.g slices_pdqsortOrdered_intv1) := fn2 (slices_pdqsortOrdered_intv1.eq (slices_pdqsortOrdered_intv1_L0 ROUNDS)) Tryz.func84 (by kernel_rfl) .nil [0] (by kernel_rfl) (.cons slices_pdqsortOrdered_intv1_L0.ok .nil)
/-- function 82: slices.Sort[[]int,int] -/
abbrev T_slices_Sort_int_intv1 : Type := (Option Bool) → Option Bool
noncomputable def slices_Sort_int_intv1.body (math_bits_Len : T_math_bits_Len) (slices_pdqsortOrdered_intv1 : T_slices_pdqsortOrdered_intv1) : T_slices_Sort_int_intv1 := fun k1 =>
  (math_bits_Len (0 : Int)
  (fun n115 => (slices_pdqsortOrdered_intv1 (0 : Int) (0 : Int) n115
  (k1))))
noncomputable def slices_Sort_int_intv1 : T_slices_Sort_int_intv1 := slices_Sort_int_intv1.body math_bits_Len slices_pdqsortOrdered_intv1
def slices_Sort_int_intv1.p : FPat := fp 82 (ps (pk 0) pz) pz
def slices_Sort_int_intv1.g (F : T_slices_Sort_int_intv1) (v : slices_Sort_int_intv1.p.T) (k : KR) : Option Bool := F (k (.tup []) [])
theorem slices_Sort_int_intv1.eq (F0 : T_math_bits_Len) (F1 : T_slices_pdqsortOrdered_intv1) : ∀ v k, exF Tryz.f82 slices_Sort_int_intv1.p [⟨math_bits_Len.p, math_bits_Len.g F0⟩, ⟨slices_pdqsortOrdered_intv1.p, slices_pdqsortOrdered_intv1.g F1⟩] [] [] v k = slices_Sort_int_intv1.g (slices_Sort_int_intv1.body F0 F1) v k := fun v k => by kernel_rfl
theorem slices_Sort_int_intv1.ok : okF 3 slices_Sort_int_intv1.p (slices_Sort_int_intv1.g slices_Sort_int_intv1) := fn2 (slices_Sort_int_intv1.eq math_bits_Len slices_pdqsortOrdered_intv1) Tryz.func82 (by kernel_rfl) (.cons math_bits_Len.ok (.cons slices_pdqsortOrdered_intv1.ok .nil)) [] (by kernel_rfl) .nil
/-- function 83: slices.Compact[[]int,int] -/
abbrev T_slices_Compact_int_intv1 : Type := ((List Int) → Option Bool) → Option Bool
noncomputable def slices_Compact_int_intv1.body : T_slices_Compact_int_intv1 := fun k1 =>
  (k1 [])
noncomputable def slices_Compact_int_intv1 : T_slices_Compact_int_intv1 := slices_Compact_int_intv1.body
def slices_Compact_int_intv1.p : FPat := fp 83 (ps (pk 0) pz) pz
def slices_Compact_int_intv1.g (F : T_slices_Compact_int_intv1) (v : slices_Compact_int_intv1.p.T) (k : KR) : Option Bool := F (fun y0 => k (.ref [1, 0]) [([1, 0], ⟨3, 1, (.data (.int .i64) y0)⟩)])
theorem slices_Compact_int_intv1.eq : ∀ v k, exF Tryz.f83 slices_Compact_int_intv1.p [] [] [] v k = slices_Compact_int_intv1.g (slices_Compact_int_intv1.body) v k := fun v k => by kernel_rfl
theorem slices_Compact_int_intv1.ok : okF 1 slices_Compact_int_intv1.p (slices_Compact_int_intv1.g slices_Compact_int_intv1) := fn2 (slices_Compact_int_intv1.eq) Tryz.func83 (by kernel_rfl) .nil [] (by kernel_rfl) .nil
/-- function 74: sheerleg/flow.Next -/
abbrev T_flow_Next : Type := Tc2 → Int → ((List Int) → Option Bool) → Option Bool
noncomputable def flow_Next.body (slices_Sort_int_int : T_slices_Sort_int_int) (slices_Compact_int_int : T_slices_Compact_int_int) (op_Ends : T_op_Ends) (slices_Sort_int_intv1 : T_slices_Sort_int_intv1) (slices_Compact_int_intv1 : T_slices_Compact_int_intv1) : T_flow_Next := fun ts99 n100 k1 =>
  (cond_ (! (decide (n100 < (0 : Int)))) (cond_ (decide (n100 ≥ (List.length ts99 : Int))) (k1 []) (cond_ ((decide ((0 : Int) ≤ n100)) && (decide (n100 < (List.length ts99 : Int)))) (cond_ ((List.getD ts99 (Int.toNat n100) (0, (0, (0, (0, (0, ())))))).1 == (12 : Int)) (slices_Sort_int_int [(IntKind.wrap .i64 (n100 + (1 : Int))), (List.getD ts99 (Int.toNat n100) (0, (0, (0, (0, (0, ())))))).2.2.2.2.1]
  (fun ns101 => (slices_Compact_int_int ns101
  (fun ns102 => (k1 ns102))
  (fun m103 ns104 => (k1 (List.take m103 ns104)))))) (cond_ ((List.getD ts99 (Int.toNat n100) (0, (0, (0, (0, (0, ())))))).1 == (11 : Int)) (slices_Sort_int_int [(List.getD ts99 (Int.toNat n100) (0, (0, (0, (0, (0, ())))))).2.2.2.2.1]
  (fun ns105 => (slices_Compact_int_int ns105
  (fun ns106 => (k1 ns106))
  (fun m107 ns108 => (k1 (List.take m107 ns108)))))) (op_Ends (List.getD ts99 (Int.toNat n100) (0, (0, (0, (0, (0, ())))))).1
  (fun b110 => (cond_ (! b110) (slices_Sort_int_int [(IntKind.wrap .i64 (n100 + (1 : Int)))]
  (fun ns111 => (slices_Compact_int_int ns111
  (fun ns112 => (k1 ns112))
  (fun m113 ns114 => (k1 (List.take m113 ns114)))))) (slices_Sort_int_intv1
  (slices_Compact_int_intv1
  (fun ns136 => (k1 ns136))))))))) none)) (k1 []))
noncomputable def flow_Next : T_flow_Next := flow_Next.body slices_Sort_int_int slices_Compact_int_int op_Ends slices_Sort_int_intv1 slices_Compact_int_intv1
def flow_Next.p : FPat := fp 74 (pl (pb 0 49 Ty5) (pl (pd (.int .i64)) pz)) pz
def flow_Next.g (F : T_flow_Next) (v : flow_Next.p.T) (k : KR) : Option Bool := F v.1.1 v.1.2.1 (fun y0 => k (.ref [1, 0]) [([1, 0], ⟨3, 1, (.data (.int .i64) y0)⟩)])
theorem flow_Next.eq (F0 : T_slices_Sort_int_int) (F1 : T_slices_Compact_int_int) (F2 : T_op_Ends) (F3 : T_slices_Sort_int_intv1) (F4 : T_slices_Compact_int_intv1) : ∀ v k, exF Tryz.f74 flow_Next.p [⟨slices_Sort_int_int.p, slices_Sort_int_int.g F0⟩, ⟨slices_Compact_int_int.p, slices_Compact_int_int.g F1⟩, ⟨op_Ends.p, op_Ends.g F2⟩, ⟨slices_Sort_int_intv1.p, slices_Sort_int_intv1.g F3⟩, ⟨slices_Compact_int_intv1.p, slices_Compact_int_intv1.g F4⟩] [] [] v k = flow_Next.g (flow_Next.body F0 F1 F2 F3 F4) v k := fun v k => by kernel_rfl
theorem flow_Next.ok : okF 6 flow_Next.p (flow_Next.g flow_Next) := fn2 (flow_Next.eq slices_Sort_int_int slices_Compact_int_int op_Ends slices_Sort_int_intv1 slices_Compact_int_intv1) Tryz.func74 (by kernel_rfl) (.cons slices_Sort_int_int.ok (.cons slices_Compact_int_int.ok (.cons op_Ends.ok (.cons slices_Sort_int_intv1.ok (.cons slices_Compact_int_intv1.ok .nil))))) [] (by kernel_rfl) .nil
/-- function 61: the loop in block 0 -/
abbrev T_flow_graph_L0 : Type := Tc2 → Int → Int → (List (List Int)) → ((List (List Int)) → Option Bool) → Option Bool
noncomputable def flow_graph_L0.body (flow_graph_L0 : T_flow_graph_L0) (flow_Next : T_flow_Next) : T_flow_graph_L0 := fun ts147 n148 n149 ls150 k1 =>
  (cond_ (decide (n149 < n148)) (flow_Next ts147 n149
  (fun ns151 => (cond_ (Nat.ble (((List.length ls150) + (List.length (ns151 :: []))) * (24 : Nat)) (140737488355328 : Nat)) (flow_graph_L0 ts147 n148 (IntKind.wrap .i64 (n149 + (1 : Int))) (ls150 ++ (ns151 :: [])) k1) none))) (k1 ls150))
noncomputable def flow_graph_L0 : Nat → T_flow_graph_L0
  | 0 => fun _ _ _ _ _ => none
  | n + 1 => flow_graph_L0.body (flow_graph_L0 n) flow_Next
def flow_graph_L0.p : LPat := lp 2 18 [0, 3, 6, 7] (pl (pb 0 49 Ty5) (ps (pr [1, 0]) (pl (pd (.int .i64)) (pl (pd (.int .i64)) pz)))) (pl (po [1, 0] 22 1 (ed Ty0)) pz)
def flow_graph_L0.g (F : T_flow_graph_L0) (v : flow_graph_L0.p.T) (k : KE) : Option Bool := F v.1.1 v.1.2.1 v.1.2.2.1 v.2.1 (fun y0 => k (.exit 0) ⟨fillS 18 [3] [(.ref [1, 0])], [([1, 0], ⟨22, 1, (.data Ty0 y0)⟩)], 2⟩)
theorem flow_graph_L0.step (S : T_flow_graph_L0) (F0 : T_flow_Next) : ∀ v k, exR 61 Tryz.f61 0 flow_graph_L0.p [⟨flow_Next.p, flow_Next.g F0⟩] [] [] (flow_graph_L0.g S) v k = flow_graph_L0.g (flow_graph_L0.body S F0) v k := fun v k => by kernel_rfl
theorem flow_graph_L0.ok : okL 61 Tryz.f61 6 0 flow_graph_L0.p (flow_graph_L0.g (flow_graph_L0 ROUNDS)) := loop2 (G := fun n => flow_graph_L0.g (flow_graph_L0 n)) (fun n => flow_graph_L0.step (flow_graph_L0 n) flow_Next) (.cons flow_Next.ok .nil) [] (by kernel_rfl) .nil (fun _ _ => rfl)
/-- function 61: sheerleg/flow.graph -/
abbrev T_flow_graph : Type := Tc2 → ((List (List Int)) → Option Bool) → Option Bool
noncomputable def flow_graph.body (flow_graph_L0 : T_flow_graph_L0) : T_flow_graph := fun ts146 k1 =>
  (flow_graph_L0 ts146 (List.length ts146 : Int) (0 : Int) []
  (fun ls152 => (k1 ls152)))
noncomputable def flow_graph : T_flow_graph := flow_graph.body (flow_graph_L0 ROUNDS)
def flow_graph.p : FPat := fp 61 (pl (pb 0 49 Ty5) pz) pz
def flow_graph.g (F : T_flow_graph) (v : flow_graph.p.T) (k : KR) : Option Bool := F v.1.1 (fun y0 => k (.ref [1, 0]) [([1, 0], ⟨22, 1, (.data Ty0 y0)⟩)])
theorem flow_graph.eq (L0 : T_flow_graph_L0) : ∀ v k, exF Tryz.f61 flow_graph.p [] [] [⟨0, flow_graph_L0.p, flow_graph_L0.g L0⟩] v k = flow_graph.g (flow_graph.body L0) v k := fun v k => by kernel_rfl
theorem flow_graph.ok : okF 7 flow_graph.p (flow_graph.g flow_graph) := fn2 (flow_graph.eq (flow_graph_L0 ROUNDS)) Tryz.func61 (by kernel_rfl) .nil [0] (by kernel_rfl) (.cons flow_graph_L0.ok .nil)
/-- function 63: sheerleg/flow.Check$1 -/
abbrev T_flow_Checkfn1 : Type := Int → Tc2 → (Bool → Tc2 → Option Bool) → Option Bool
noncomputable def flow_Checkfn1.body : T_flow_Checkfn1 := fun n166 l167 k1 =>
  (cond_ (! (decide (n166 < (0 : Int)))) (k1 (decide (n166 ≥ (List.length l167 : Int))) l167) (k1 true l167))
noncomputable def flow_Checkfn1 : T_flow_Checkfn1 := flow_Checkfn1.body
def flow_Checkfn1.p : FPat := fp 63 (pl (pd (.int .i64)) (ps (pq [0, 0] 0 0) pz)) (pl (po [0, 0] 24 1 (es Ty6 (pl eh pz))) pz)
def flow_Checkfn1.g (F : T_flow_Checkfn1) (v : flow_Checkfn1.p.T) (k : KR) : Option Bool := F v.1.1 v.2.1.1 (fun y0 y1 => k (.d ⟨.bool, y0⟩) [([0, 0], ⟨24, 1, (.data Ty6 [y1])⟩)])
theorem flow_Checkfn1.eq : ∀ v k, exF Tryz.f63 flow_Checkfn1.p [] [] [] v k = flow_Checkfn1.g (flow_Checkfn1.body) v k := fun v k => by kernel_rfl
theorem flow_Checkfn1.ok : okF 1 flow_Checkfn1.p (flow_Checkfn1.g flow_Checkfn1) := fn2 (flow_Checkfn1.eq) Tryz.func63 (by kernel_rfl) .nil [] (by kernel_rfl) .nil
/-- function 75: the loop in block 0 -/
abbrev T_slices_IndexFunc_int_int_L0 : Type := (List Int) → Int → Int → Tc2 → (Int → Tc2 → Option Bool) → (Tc2 → Option Bool) → Option Bool
noncomputable def slices_IndexFunc_int_int_L0.body (slices_IndexFunc_int_int_L0 : T_slices_IndexFunc_int_int_L0) (flow_Checkfn1 : T_flow_Checkfn1) : T_slices_IndexFunc_int_int_L0 := fun ns162 n163 n164 l165 k1 k2 =>
  (cond_ (decide (n164 < n163)) (cond_ ((decide ((0 : Int) ≤ n164)) && (decide (n164 < (List.length ns162 : Int)))) (flow_Checkfn1 (List.getD ns162 (Int.toNat n164) (0 : Int)) l165
  (fun b168 l169 => (cond_ b168 (k1 n164 l169) (slices_IndexFunc_int_int_L0 ns162 n163 (IntKind.wrap .i64 (n164 + (1 : Int))) l169 k1 k2)))) none) (k2 l165))
noncomputable def slices_IndexFunc_int_int_L0 : Nat → T_slices_IndexFunc_int_int_L0
  | 0 => fun _ _ _ _ _ _ => none
  | n + 1 => slices_IndexFunc_int_int_L0.body (slices_IndexFunc_int_int_L0 n) flow_Checkfn1
def slices_IndexFunc_int_int_L0.p : LPat := lp 2 19 [0, 1, 7, 8] (pl (pb 0 3 (.int .i64)) (pl (pf 63 pz (ps (pq [0, 0] 0 0) pz)) (pl (pd (.int .i64)) (pl (pd (.int .i64)) pz)))) (pl (po [0, 0] 24 1 (es Ty6 (pl eh pz))) pz)
def slices_IndexFunc_int_int_L0.g (F : T_slices_IndexFunc_int_int_L0) (v : slices_IndexFunc_int_int_L0.p.T) (k : KE) : Option Bool := F v.1.1 v.1.2.2.1 v.1.2.2.2.1 v.2.1.1 (fun y0 y1 => k .ret ⟨fillS 19 [4] [(.d ⟨(.int .i64), y0⟩)], [([0, 0], ⟨24, 1, (.data Ty6 [y1])⟩)], 2⟩) (fun y0 => k (.exit 0) ⟨fillS 19 [] [], [([0, 0], ⟨24, 1, (.data Ty6 [y0])⟩)], 2⟩)
theorem slices_IndexFunc_int_int_L0.step (S : T_slices_IndexFunc_int_int_L0) (F0 : T_flow_Checkfn1) : ∀ v k, exR 75 Tryz.f75 0 slices_IndexFunc_int_int_L0.p [⟨flow_Checkfn1.p, flow_Checkfn1.g F0⟩] [] [] (slices_IndexFunc_int_int_L0.g S) v k = slices_IndexFunc_int_int_L0.g (slices_IndexFunc_int_int_L0.body S F0) v k := fun v k => by kernel_rfl
theorem slices_IndexFunc_int_int_L0.ok : okL 75 Tryz.f75 1 0 slices_IndexFunc_int_int_L0.p (slices_IndexFunc_int_int_L0.g (slices_IndexFunc_int_int_L0 ROUNDS)) := loop2 (G := fun n => slices_IndexFunc_int_int_L0.g (slices_IndexFunc_int_int_L0 n)) (fun n => slices_IndexFunc_int_int_L0.step (slices_IndexFunc_int_int_L0 n) flow_Checkfn1) (.cons flow_Checkfn1.ok .nil) [] (by kernel_rfl) .nil (fun _ _ => rfl)
/-- function 75: slices.IndexFunc[[]int,int] -/
abbrev T_slices_IndexFunc_int_int : Type := (List Int) → Tc2 → (Int → Tc2 → Option Bool) → Option Bool
noncomputable def slices_IndexFunc_int_int.body (slices_IndexFunc_int_int_L0 : T_slices_IndexFunc_int_int_L0) : T_slices_IndexFunc_int_int := fun ns160 l161 k1 =>
  (slices_IndexFunc_int_int_L0 ns160 (List.length ns160 : Int) (0 : Int) l161
  (fun n170 l171 => (k1 n170 l171))
  (fun l172 => (k1 (-1 : Int) l172)))
noncomputable def slices_IndexFunc_int_int : T_slices_IndexFunc_int_int := slices_IndexFunc_int_int.body (slices_IndexFunc_int_int_L0 ROUNDS)
def slices_IndexFunc_int_int.p : FPat := fp 75 (pl (pb 0 3 (.int .i64)) (pl (pf 63 pz (ps (pq [0, 0] 0 0) pz)) pz)) (pl (po [0, 0] 24 1 (es Ty6 (pl eh pz))) pz)
def slices_IndexFunc_int_int.g (F : T_slices_IndexFunc_int_int) (v : slices_IndexFunc_int_int.p.T) (k : KR) : Option Bool := F v.1.1 v.2.1.1 (fun y0 y1 => k (.d ⟨(.int .i64), y0⟩) [([0, 0], ⟨24, 1, (.data Ty6 [y1])⟩)])
theorem slices_IndexFunc_int_int.eq (L0 : T_slices_IndexFunc_int_int_L0) : ∀ v k, exF Tryz.f75 slices_IndexFunc_int_int.p [] [] [⟨0, slices_IndexFunc_int_int_L0.p, slices_IndexFunc_int_int_L0.g L0⟩] v k = slices_IndexFunc_int_int.g (slices_IndexFunc_int_int.body L0) v k := fun v k => by kernel_rfl
theorem slices_IndexFunc_int_int.ok : okF 2 slices_IndexFunc_int_int.p (slices_IndexFunc_int_int.g slices_IndexFunc_int_int) := fn2 (slices_IndexFunc_int_int.eq (slices_IndexFunc_int_int_L0 ROUNDS)) Tryz.func75 (by kernel_rfl) .nil [0] (by kernel_rfl) (.cons slices_IndexFunc_int_int_L0.ok .nil)
/-- function 62: slices.ContainsFunc[[]int,int] -/
abbrev T_slices_ContainsFunc_int_int : Type := (List Int) → Tc2 → (Bool → Tc2 → Option Bool) → Option Bool
noncomputable def slices_ContainsFunc_int_int.body (slices_IndexFunc_int_int : T_slices_IndexFunc_int_int) : T_slices_ContainsFunc_int_int := fun ns158 l159 k1 =>
  (slices_IndexFunc_int_int ns158 l159
  (fun n173 l174 => (k1 (decide (n173 ≥ (0 : Int))) l174)))
noncomputable def slices_ContainsFunc_int_int : T_slices_ContainsFunc_int_int := slices_ContainsFunc_int_int.body slices_IndexFunc_int_int
def slices_ContainsFunc_int_int.p : FPat := fp 62 (pl (pb 0 3 (.int .i64)) (pl (pf 63 pz (ps (pq [0, 0] 0 0) pz)) pz)) (pl (po [0, 0] 24 1 (es Ty6 (pl eh pz))) pz)
def slices_ContainsFunc_int_int.g (F : T_slices_ContainsFunc_int_int) (v : slices_ContainsFunc_int_int.p.T) (k : KR) : Option Bool := F v.1.1 v.2.1.1 (fun y0 y1 => k (.d ⟨.bool, y0⟩) [([0, 0], ⟨24, 1, (.data Ty6 [y1])⟩)])
theorem slices_ContainsFunc_int_int.eq (F0 : T_slices_IndexFunc_int_int) : ∀ v k, exF Tryz.f62 slices_ContainsFunc_int_int.p [⟨slices_IndexFunc_int_int.p, slices_IndexFunc_int_int.g F0⟩] [] [] v k = slices_ContainsFunc_int_int.g (slices_ContainsFunc_int_int.body F0) v k := fun v k => by kernel_rfl
theorem slices_ContainsFunc_int_int.ok : okF 3 slices_ContainsFunc_int_int.p (slices_ContainsFunc_int_int.g slices_ContainsFunc_int_int) := fn2 (slices_ContainsFunc_int_int.eq slices_IndexFunc_int_int) Tryz.func62 (by kernel_rfl) (.cons slices_IndexFunc_int_int.ok .nil) [] (by kernel_rfl) .nil
/-- function 43: the loop in block 1 -/
abbrev T_flow_Check_L1 : Type := Int → Int → Tc2 → (List (List Int)) → (Int → Option Bool) → (Option Bool) → Option Bool
noncomputable def flow_Check_L1.body (flow_Check_L1 : T_flow_Check_L1) (slices_ContainsFunc_int_int : T_slices_ContainsFunc_int_int) : T_flow_Check_L1 := fun n154 n155 l156 ls157 k1 k2 =>
  (cond_ (decide (n155 < n154)) (cond_ ((decide ((0 : Int) ≤ n155)) && (decide (n155 < (List.length ls157 : Int)))) (slices_ContainsFunc_int_int (List.getD ls157 (Int.toNat n155) []) l156
  (fun b175 l176 => (cond_ b175 (k1 (10 : Int)) (flow_Check_L1 n154 (IntKind.wrap .i64 (n155 + (1 : Int))) l176 ls157 k1 k2)))) none) (k2))
noncomputable def flow_Check_L1 : Nat → T_flow_Check_L1
  | 0 => fun _ _ _ _ _ _ => none
  | n + 1 => flow_Check_L1.body (flow_Check_L1 n) slices_ContainsFunc_int_int
def flow_Check_L1.p : LPat := lp 2 24 [1, 14, 15, 16] (ps (pq [1, 0] 0 0) (ps (pr [1, 1]) (pl (pd (.int .i64)) (pl (pd (.int .i64)) pz)))) (pl (po [1, 0] 24 1 (es Ty6 (pl eh pz))) (pl (po [1, 1] 22 1 (ed Ty0)) pz))
def flow_Check_L1.g (F : T_flow_Check_L1) (v : flow_Check_L1.p.T) (k : KE) : Option Bool := F v.1.1 v.1.2.1 v.2.1.1 v.2.2.1 (fun y0 => k .ret ⟨fillS 24 [2] [(.d ⟨(.int .i64), y0⟩)], [], 2⟩) (k (.exit 1) ⟨fillS 24 [] [], [], 2⟩)
theorem flow_Check_L1.step (S : T_flow_Check_L1) (F0 : T_slices_ContainsFunc_int_int) : ∀ v k, exR 43 Tryz.f43 1 flow_Check_L1.p [⟨slices_ContainsFunc_int_int.p, slices_ContainsFunc_int_int.g F0⟩] [] [] (flow_Check_L1.g S) v k = flow_Check_L1.g (flow_Check_L1.body S F0) v k := fun v k => by kernel_rfl
theorem flow_Check_L1.ok : okL 43 Tryz.f43 3 1 flow_Check_L1.p (flow_Check_L1.g (flow_Check_L1 ROUNDS)) := loop2 (G := fun n => flow_Check_L1.g (flow_Check_L1 n)) (fun n => flow_Check_L1.step (flow_Check_L1 n) slices_ContainsFunc_int_int) (.cons slices_ContainsFunc_int_int.ok .nil) [] (by kernel_rfl) .nil (fun _ _ => rfl)
/-- function 43: sheerleg/flow.Check -/
abbrev T_flow_Check : Type := Tc2 → (Int → Option Bool) → Option Bool
noncomputable def flow_Check.body (flow_graph : T_flow_graph) (flow_Check_L1 : T_flow_Check_L1) : T_flow_Check := fun ts145 k1 =>
  (cond_ ((List.length ts145 : Int) == (0 : Int)) (k1 (3 : Int)) (cond_ (decide ((List.length ts145 : Int) > (64 : Int))) (k1 (6 : Int)) (flow_graph ts145
  (fun ls153 => (flow_Check_L1 (List.length ls153 : Int) (0 : Int) ts145 ls153
  (fun n177 => (k1 n177))
  (k1 (0 : Int)))))))
noncomputable def flow_Check : T_flow_Check := flow_Check.body flow_graph (flow_Check_L1 ROUNDS)
def flow_Check.p : FPat := fp 43 (pl (pb 0 49 Ty5) pz) pz
def flow_Check.g (F : T_flow_Check) (v : flow_Check.p.T) (k : KR) : Option Bool := F v.1.1 (fun y0 => k (.d ⟨(.int .i64), y0⟩) [])
theorem flow_Check.eq (F0 : T_flow_graph) (L0 : T_flow_Check_L1) : ∀ v k, exF Tryz.f43 flow_Check.p [⟨flow_graph.p, flow_graph.g F0⟩] [] [⟨1, flow_Check_L1.p, flow_Check_L1.g L0⟩] v k = flow_Check.g (flow_Check.body F0 L0) v k := fun v k => by kernel_rfl
theorem flow_Check.ok : okF 8 flow_Check.p (flow_Check.g flow_Check) := fn2 (flow_Check.eq flow_graph (flow_Check_L1 ROUNDS)) Tryz.func43 (by kernel_rfl) (.cons flow_graph.ok .nil) [1] (by kernel_rfl) (.cons flow_Check_L1.ok .nil)
/-- function 76: sheerleg/op.names -/
abbrev T_op_names : Type := ((ByteArray × ByteArray × ByteArray × ByteArray × ByteArray × ByteArray × ByteArray × ByteArray × ByteArray × ByteArray × ByteArray × ByteArray × ByteArray × ByteArray × ByteArray × ByteArray × ByteArray × ByteArray × ByteArray × ByteArray × ByteArray × ByteArray × ByteArray × ByteArray × ByteArray × ByteArray × ByteArray × ByteArray × Unit) → Option Bool) → Option Bool
noncomputable def op_names.body : T_op_names := fun k1 =>
  (k1 ((⟨#[110, 111, 112]⟩ : ByteArray), ((⟨#[115, 101, 116]⟩ : ByteArray), ((⟨#[109, 111, 118, 101]⟩ : ByteArray), ((⟨#[97, 100, 100]⟩ : ByteArray), ((⟨#[115, 117, 98]⟩ : ByteArray), ((⟨#[109, 117, 108]⟩ : ByteArray), ((⟨#[100, 105, 118]⟩ : ByteArray), ((⟨#[109, 111, 100]⟩ : ByteArray), ((⟨#[108, 101, 115, 115]⟩ : ByteArray), ((⟨#[115, 97, 109, 101]⟩ : ByteArray), ((⟨#[106, 117, 109, 112]⟩ : ByteArray), ((⟨#[122, 101, 114, 111]⟩ : ByteArray), ((⟨#[105, 110]⟩ : ByteArray), ((⟨#[111, 117, 116]⟩ : ByteArray), ((⟨#[108, 111, 97, 100]⟩ : ByteArray), ((⟨#[115, 116, 111, 114, 101]⟩ : ByteArray), ((⟨#[102, 117, 110, 99]⟩ : ByteArray), ((⟨#[112, 105, 99, 107]⟩ : ByteArray), ((⟨#[99, 97, 108, 108]⟩ : ByteArray), ((⟨#[118, 105, 97]⟩ : ByteArray), ((⟨#[100, 101, 102, 101, 114]⟩ : ByteArray), ((⟨#[112, 97, 110, 105, 99]⟩ : ByteArray), ((⟨#[114, 101, 99, 111, 118, 101, 114]⟩ : ByteArray), ((⟨#[114, 101, 116, 117, 114, 110]⟩ : ByteArray), ((⟨#[99, 104, 101, 99, 107]⟩ : ByteArray), ((⟨#[101, 110, 116, 101, 114]⟩ : ByteArray), ((⟨#[98, 111, 116, 116, 111, 109]⟩ : ByteArray), ((⟨#[100, 114, 105, 118, 101, 114]⟩ : ByteArray), ())))))))))))))))))))))))))))))
noncomputable def op_names : T_op_names := op_names.body
def op_names.p : FPat := fp 76 pz pz
def op_names.g (F : T_op_names) (v : op_names.p.T) (k : KR) : Option Bool := F (fun y0 => k (.d ⟨(.st [.str, .str, .str, .str, .str, .str, .str, .str, .str, .str, .str, .str, .str, .str, .str, .str, .str, .str, .str, .str, .str, .str, .str, .str, .str, .str, .str, .str]), y0⟩) [])
theorem op_names.eq : ∀ v k, exF Tryz.f76 op_names.p [] [] [] v k = op_names.g (op_names.body) v k := fun v k => by kernel_rfl
theorem op_names.ok : okF 1 op_names.p (op_names.g op_names) := fn2 (op_names.eq) Tryz.func76 (by kernel_rfl) .nil [] (by kernel_rfl) .nil
/-- function 64: sheerleg/op.Name -/
abbrev T_op_Name : Type := Int → (ByteArray → Option Bool) → Option Bool
noncomputable def op_Name.body (op_names : T_op_names) : T_op_Name := fun n183 k1 =>
  (op_names
  (fun t184 => (cond_ (! (decide (n183 < (1 : Int)))) (cond_ (decide (n183 > (28 : Int))) (k1 (⟨#[]⟩ : ByteArray)) (cond_ ((decide ((0 : Int) ≤ (IntKind.wrap .i64 (n183 - (1 : Int))))) && (decide ((IntKind.wrap .i64 (n183 - (1 : Int))) < (28 : Int)))) (k1 (List.getD (t184.1 :: (t184.2.1 :: (t184.2.2.1 :: (t184.2.2.2.1 :: (t184.2.2.2.2.1 :: (t184.2.2.2.2.2.1 :: (t184.2.2.2.2.2.2.1 :: (t184.2.2.2.2.2.2.2.1 :: (t184.2.2.2.2.2.2.2.2.1 :: (t184.2.2.2.2.2.2.2.2.2.1 :: (t184.2.2.2.2.2.2.2.2.2.2.1 :: (t184.2.2.2.2.2.2.2.2.2.2.2.1 :: (t184.2.2.2.2.2.2.2.2.2.2.2.2.1 :: (t184.2.2.2.2.2.2.2.2.2.2.2.2.2.1 :: (t184.2.2.2.2.2.2.2.2.2.2.2.2.2.2.1 :: (t184.2.2.2.2.2.2.2.2.2.2.2.2.2.2.2.1 :: (t184.2.2.2.2.2.2.2.2.2.2.2.2.2.2.2.2.1 :: (t184.2.2.2.2.2.2.2.2.2.2.2.2.2.2.2.2.2.1 :: (t184.2.2.2.2.2.2.2.2.2.2.2.2.2.2.2.2.2.2.1 :: (t184.2.2.2.2.2.2.2.2.2.2.2.2.2.2.2.2.2.2.2.1 :: (t184.2.2.2.2.2.2.2.2.2.2.2.2.2.2.2.2.2.2.2.2.1 :: (t184.2.2.2.2.2.2.2.2.2.2.2.2.2.2.2.2.2.2.2.2.2.1 :: (t184.2.2.2.2.2.2.2.2.2.2.2.2.2.2.2.2.2.2.2.2.2.2.1 :: (t184.2.2.2.2.2.2.2.2.2.2.2.2.2.2.2.2.2.2.2.2.2.2.2.1 :: (t184.2.2.2.2.2.2.2.2.2.2.2.2.2.2.2.2.2.2.2.2.2.2.2.2.1 :: (t184.2.2.2.2.2.2.2.2.2.2.2.2.2.2.2.2.2.2.2.2.2.2.2.2.2.1 :: (t184.2.2.2.2.2.2.2.2.2.2.2.2.2.2.2.2.2.2.2.2.2.2.2.2.2.2.1 :: (t184.2.2.2.2.2.2.2.2.2.2.2.2.2.2.2.2.2.2.2.2.2.2.2.2.2.2.2.1 :: [])))))))))))))))))))))))))))) (Int.toNat (IntKind.wrap .i64 (n183 - (1 : Int)))) (⟨#[]⟩ : ByteArray))) none)) (k1 (⟨#[]⟩ : ByteArray)))))
noncomputable def op_Name : T_op_Name := op_Name.body op_names
def op_Name.p : FPat := fp 64 (pl (pd (.int .i64)) pz) pz
def op_Name.g (F : T_op_Name) (v : op_Name.p.T) (k : KR) : Option Bool := F v.1.1 (fun y0 => k (.d ⟨.str, y0⟩) [])
theorem op_Name.eq (F0 : T_op_names) : ∀ v k, exF Tryz.f64 op_Name.p [⟨op_names.p, op_names.g F0⟩] [] [] v k = op_Name.g (op_Name.body F0) v k := fun v k => by kernel_rfl
theorem op_Name.ok : okF 2 op_Name.p (op_Name.g op_Name) := fn2 (op_Name.eq op_names) Tryz.func64 (by kernel_rfl) (.cons op_names.ok .nil) [] (by kernel_rfl) .nil
/-- function 59: sheerleg/instr.numbers -/
abbrev T_instr_numbers : Type := Tc1 → (Tc1 → Option Bool) → Option Bool
noncomputable def instr_numbers.body : T_instr_numbers := fun t186 k1 =>
  (k1 (t186.1, (t186.2.1, (t186.2.2.1, (t186.2.2.2.1, (t186.2.2.2.2.1, ()))))))
noncomputable def instr_numbers : T_instr_numbers := instr_numbers.body
def instr_numbers.p : FPat := fp 59 (pl (pd Ty5) pz) pz
def instr_numbers.g (F : T_instr_numbers) (v : instr_numbers.p.T) (k : KR) : Option Bool := F v.1.1 (fun y0 => k (.d ⟨Ty5, y0⟩) [])
theorem instr_numbers.eq : ∀ v k, exF Tryz.f59 instr_numbers.p [] [] [] v k = instr_numbers.g (instr_numbers.body) v k := fun v k => by kernel_rfl
theorem instr_numbers.ok : okF 1 instr_numbers.p (instr_numbers.g instr_numbers) := fn2 (instr_numbers.eq) Tryz.func59 (by kernel_rfl) .nil [] (by kernel_rfl) .nil
/-- function 44: the loop in block 0 -/
abbrev T_instr_Check_L0 : Type := Int → Int → Tc1 → Int → Int → Int → Int → Int → (Int → Option Bool) → (Tc1 → Int → Int → Int → Int → Int → Option Bool) → Option Bool
noncomputable def instr_Check_L0.body (instr_Check_L0 : T_instr_Check_L0) : T_instr_Check_L0 := fun n188 n189 t190 n191 n192 n193 n194 n195 k1 k2 =>
  (cond_ (decide (n189 < n188)) (cond_ ((decide ((0 : Int) ≤ n189)) && (decide (n189 < (3 : Int)))) (cond_ (! (decide ((List.getD (n191 :: (n192 :: (n193 :: (n194 :: (n195 :: []))))) ((1 : Nat) + (Int.toNat n189)) (0 : Int)) < (0 : Int)))) (cond_ (decide ((List.getD (n191 :: (n192 :: (n193 :: (n194 :: (n195 :: []))))) ((1 : Nat) + (Int.toNat n189)) (0 : Int)) > (255 : Int))) (k1 (9 : Int)) (instr_Check_L0 n188 (IntKind.wrap .i64 (n189 + (1 : Int))) t190 n191 n192 n193 n194 n195 k1 k2)) (k1 (9 : Int))) none) (k2 t190 n191 n192 n193 n194 n195))
noncomputable def instr_Check_L0 : Nat → T_instr_Check_L0
  | 0 => fun _ _ _ _ _ _ _ _ _ _ => none
  | n + 1 => instr_Check_L0.body (instr_Check_L0 n)
def instr_Check_L0.p : LPat := lp 2 55 [1, 3, 14, 15, 16] (ps (pq [1, 0] 0 0) (ps (pq [1, 1] 0 0) (pl (pc [1, 1] (nk 1) (nk 3)) (pl (pd (.int .i64)) (pl (pd (.int .i64)) pz))))) (pl (po [1, 0] 49 5 (es Ty5 (pl eh pz))) (pl (po [1, 1] 79 1 (es (.int .i64) (pl eh (pl eh (pl eh (pl eh (pl eh pz))))))) pz))
def instr_Check_L0.g (F : T_instr_Check_L0) (v : instr_Check_L0.p.T) (k : KE) : Option Bool := F v.1.2.1 v.1.2.2.1 v.2.1.1 v.2.2.1.1 v.2.2.1.2.1 v.2.2.1.2.2.1 v.2.2.1.2.2.2.1 v.2.2.1.2.2.2.2.1 (fun y0 => k .ret ⟨fillS 55 [2] [(.d ⟨(.int .i64), y0⟩)], [], 2⟩) (fun y0 y1 y2 y3 y4 y5 => k (.exit 0) ⟨fillS 55 [1, 3] [(.ptr [1, 0] 0 0), (.ptr [1, 1] 0 0)], [([1, 0], ⟨49, 5, (.data Ty5 [y0])⟩), ([1, 1], ⟨79, 1, (.data (.int .i64) [y1, y2, y3, y4, y5])⟩)], 2⟩)
theorem instr_Check_L0.step (S : T_instr_Check_L0) : ∀ v k, exR 44 Tryz.f44 0 instr_Check_L0.p [] [] [] (instr_Check_L0.g S) v k = instr_Check_L0.g (instr_Check_L0.body S) v k := fun v k => by kernel_rfl
theorem instr_Check_L0.ok : okL 44 Tryz.f44 0 0 instr_Check_L0.p (instr_Check_L0.g (instr_Check_L0 ROUNDS)) := loop2 (G := fun n => instr_Check_L0.g (instr_Check_L0 n)) (fun n => instr_Check_L0.step (instr_Check_L0 n)) .nil [] (by kernel_rfl) .nil (fun _ _ => rfl)
/-- function 45: sheerleg/op.Own -/
abbrev T_op_Own : Type := Int → (Bool → Option Bool) → Option Bool
noncomputable def op_Own.body : T_op_Own := fun n204 k1 =>
  (cond_ (decide (n204 ≥ (1 : Int))) (k1 (decide (n204 ≤ (24 : Int)))) (k1 false))
noncomputable def op_Own : T_op_Own := op_Own.body
def op_Own.p : FPat := fp 45 (pl (pd (.int .i64)) pz) pz
def op_Own.g (F : T_op_Own) (v : op_Own.p.T) (k : KR) : Option Bool := F v.1.1 (fun y0 => k (.d ⟨.bool, y0⟩) [])
theorem op_Own.eq : ∀ v k, exF Tryz.f45 op_Own.p [] [] [] v k = op_Own.g (op_Own.body) v k := fun v k => by kernel_rfl
theorem op_Own.ok : okF 1 op_Own.p (op_Own.g op_Own) := fn2 (op_Own.eq) Tryz.func45 (by kernel_rfl) .nil [] (by kernel_rfl) .nil
/-- function 77: sheerleg/op.shapes -/
abbrev T_op_shapes : Type := ((ByteArray × ByteArray × ByteArray × ByteArray × ByteArray × ByteArray × ByteArray × ByteArray × ByteArray × ByteArray × ByteArray × ByteArray × ByteArray × ByteArray × ByteArray × ByteArray × ByteArray × ByteArray × ByteArray × ByteArray × ByteArray × ByteArray × ByteArray × ByteArray × Unit) → Option Bool) → Option Bool
noncomputable def op_shapes.body : T_op_shapes := fun k1 =>
  (k1 ((⟨#[45, 45, 45, 45]⟩ : ByteArray), ((⟨#[119, 45, 45, 110]⟩ : ByteArray), ((⟨#[119, 114, 45, 45]⟩ : ByteArray), ((⟨#[119, 114, 114, 45]⟩ : ByteArray), ((⟨#[119, 114, 114, 45]⟩ : ByteArray), ((⟨#[119, 114, 114, 45]⟩ : ByteArray), ((⟨#[119, 114, 114, 45]⟩ : ByteArray), ((⟨#[119, 114, 114, 45]⟩ : ByteArray), ((⟨#[119, 114, 114, 45]⟩ : ByteArray), ((⟨#[119, 114, 114, 45]⟩ : ByteArray), ((⟨#[45, 45, 45, 116]⟩ : ByteArray), ((⟨#[114, 45, 45, 116]⟩ : ByteArray), ((⟨#[119, 45, 45, 45]⟩ : ByteArray), ((⟨#[114, 45, 45, 45]⟩ : ByteArray), ((⟨#[119, 114, 45, 45]⟩ : ByteArray), ((⟨#[114, 114, 45, 45]⟩ : ByteArray), ((⟨#[103, 45, 45, 45]⟩ : ByteArray), ((⟨#[103, 114, 45, 45]⟩ : ByteArray), ((⟨#[99, 45, 45, 45]⟩ : ByteArray), ((⟨#[99, 102, 107, 45]⟩ : ByteArray), ((⟨#[100, 45, 45, 45]⟩ : ByteArray), ((⟨#[114, 45, 45, 45]⟩ : ByteArray), ((⟨#[119, 119, 45, 45]⟩ : ByteArray), ((⟨#[118, 45, 45, 45]⟩ : ByteArray), ())))))))))))))))))))))))))
noncomputable def op_shapes : T_op_shapes := op_shapes.body
def op_shapes.p : FPat := fp 77 pz pz
def op_shapes.g (F : T_op_shapes) (v : op_shapes.p.T) (k : KR) : Option Bool := F (fun y0 => k (.d ⟨(.st [.str, .str, .str, .str, .str, .str, .str, .str, .str, .str, .str, .str, .str, .str, .str, .str, .str, .str, .str, .str, .str, .str, .str, .str]), y0⟩) [])
theorem op_shapes.eq : ∀ v k, exF Tryz.f77 op_shapes.p [] [] [] v k = op_shapes.g (op_shapes.body) v k := fun v k => by kernel_rfl
theorem op_shapes.ok : okF 1 op_shapes.p (op_shapes.g op_shapes) := fn2 (op_shapes.eq) Tryz.func77 (by kernel_rfl) .nil [] (by kernel_rfl) .nil
/-- function 65: sheerleg/op.Shape -/
abbrev T_op_Shape : Type := Int → (ByteArray → Option Bool) → Option Bool
noncomputable def op_Shape.body (op_Own : T_op_Own) (op_shapes : T_op_shapes) : T_op_Shape := fun n203 k1 =>
  (op_Own n203
  (fun b205 => (cond_ (! b205) (k1 (⟨#[]⟩ : ByteArray)) (op_shapes
  (fun t206 => (cond_ ((decide ((0 : Int) ≤ (IntKind.wrap .i64 (n203 - (1 : Int))))) && (decide ((IntKind.wrap .i64 (n203 - (1 : Int))) < (24 : Int)))) (k1 (List.getD (t206.1 :: (t206.2.1 :: (t206.2.2.1 :: (t206.2.2.2.1 :: (t206.2.2.2.2.1 :: (t206.2.2.2.2.2.1 :: (t206.2.2.2.2.2.2.1 :: (t206.2.2.2.2.2.2.2.1 :: (t206.2.2.2.2.2.2.2.2.1 :: (t206.2.2.2.2.2.2.2.2.2.1 :: (t206.2.2.2.2.2.2.2.2.2.2.1 :: (t206.2.2.2.2.2.2.2.2.2.2.2.1 :: (t206.2.2.2.2.2.2.2.2.2.2.2.2.1 :: (t206.2.2.2.2.2.2.2.2.2.2.2.2.2.1 :: (t206.2.2.2.2.2.2.2.2.2.2.2.2.2.2.1 :: (t206.2.2.2.2.2.2.2.2.2.2.2.2.2.2.2.1 :: (t206.2.2.2.2.2.2.2.2.2.2.2.2.2.2.2.2.1 :: (t206.2.2.2.2.2.2.2.2.2.2.2.2.2.2.2.2.2.1 :: (t206.2.2.2.2.2.2.2.2.2.2.2.2.2.2.2.2.2.2.1 :: (t206.2.2.2.2.2.2.2.2.2.2.2.2.2.2.2.2.2.2.2.1 :: (t206.2.2.2.2.2.2.2.2.2.2.2.2.2.2.2.2.2.2.2.2.1 :: (t206.2.2.2.2.2.2.2.2.2.2.2.2.2.2.2.2.2.2.2.2.2.1 :: (t206.2.2.2.2.2.2.2.2.2.2.2.2.2.2.2.2.2.2.2.2.2.2.1 :: (t206.2.2.2.2.2.2.2.2.2.2.2.2.2.2.2.2.2.2.2.2.2.2.2.1 :: [])))))))))))))))))))))))) (Int.toNat (IntKind.wrap .i64 (n203 - (1 : Int)))) (⟨#[]⟩ : ByteArray))) none))))))
noncomputable def op_Shape : T_op_Shape := op_Shape.body op_Own op_shapes
def op_Shape.p : FPat := fp 65 (pl (pd (.int .i64)) pz) pz
def op_Shape.g (F : T_op_Shape) (v : op_Shape.p.T) (k : KR) : Option Bool := F v.1.1 (fun y0 => k (.d ⟨.str, y0⟩) [])
theorem op_Shape.eq (F0 : T_op_Own) (F1 : T_op_shapes) : ∀ v k, exF Tryz.f65 op_Shape.p [⟨op_Own.p, op_Own.g F0⟩, ⟨op_shapes.p, op_shapes.g F1⟩] [] [] v k = op_Shape.g (op_Shape.body F0 F1) v k := fun v k => by kernel_rfl
theorem op_Shape.ok : okF 2 op_Shape.p (op_Shape.g op_Shape) := fn2 (op_Shape.eq op_Own op_shapes) Tryz.func65 (by kernel_rfl) (.cons op_Own.ok (.cons op_shapes.ok .nil)) [] (by kernel_rfl) .nil
/-- function 44: the loop in block 2 -/
abbrev T_instr_Check_L2 : Type := ByteArray → Int → Int → Int → Int → Int → Int → Int → (Int → Option Bool) → (Option Bool) → Option Bool
noncomputable def instr_Check_L2.body (instr_Check_L2 : T_instr_Check_L2) : T_instr_Check_L2 := fun s208 n209 n210 n211 n212 n213 n214 n215 k1 k2 =>
  (cond_ (decide (n210 < n209)) (cond_ ((decide ((0 : Int) ≤ n210)) && (decide (n210 < (((ByteArray.size s208) : Nat) : Int)))) (cond_ ((((UInt8.toNat (List.getD (Array.toList (ByteArray.data s208)) (Int.toNat n210) (0 : UInt8))) : Nat) : Int) == (45 : Int)) (cond_ ((decide ((0 : Int) ≤ (IntKind.wrap .i64 ((1 : Int) + n210)))) && (decide ((IntKind.wrap .i64 ((1 : Int) + n210)) < (5 : Int)))) (cond_ ((List.getD (n211 :: (n212 :: (n213 :: (n214 :: (n215 :: []))))) (Int.toNat (IntKind.wrap .i64 ((1 : Int) + n210))) (0 : Int)) != (0 : Int)) (k1 (2 : Int)) (instr_Check_L2 s208 n209 (IntKind.wrap .i64 (n210 + (1 : Int))) n211 n212 n213 n214 n215 k1 k2)) none) (instr_Check_L2 s208 n209 (IntKind.wrap .i64 (n210 + (1 : Int))) n211 n212 n213 n214 n215 k1 k2)) none) (k2))
noncomputable def instr_Check_L2 : Nat → T_instr_Check_L2
  | 0 => fun _ _ _ _ _ _ _ _ _ _ => none
  | n + 1 => instr_Check_L2.body (instr_Check_L2 n)
def instr_Check_L2.p : LPat := lp 2 55 [3, 6, 39, 40] (ps (pq [1, 0] 0 0) (pl (pd .str) (pl (pd (.int .i64)) (pl (pd (.int .i64)) pz)))) (pl (po [1, 0] 79 1 (es (.int .i64) (pl eh (pl eh (pl eh (pl eh (pl eh pz))))))) pz)
def instr_Check_L2.g (F : T_instr_Check_L2) (v : instr_Check_L2.p.T) (k : KE) : Option Bool := F v.1.1 v.1.2.1 v.1.2.2.1 v.2.1.1 v.2.1.2.1 v.2.1.2.2.1 v.2.1.2.2.2.1 v.2.1.2.2.2.2.1 (fun y0 => k .ret ⟨fillS 55 [2] [(.d ⟨(.int .i64), y0⟩)], [], 2⟩) (k (.exit 2) ⟨fillS 55 [] [], [], 2⟩)
theorem instr_Check_L2.step (S : T_instr_Check_L2) : ∀ v k, exR 44 Tryz.f44 2 instr_Check_L2.p [] [] [] (instr_Check_L2.g S) v k = instr_Check_L2.g (instr_Check_L2.body S) v k := fun v k => by kernel_rfl
theorem instr_Check_L2.ok : okL 44 Tryz.f44 0 2 instr_Check_L2.p (instr_Check_L2.g (instr_Check_L2 ROUNDS)) := loop2 (G := fun n => instr_Check_L2.g (instr_Check_L2 n)) (fun n => instr_Check_L2.step (instr_Check_L2 n)) .nil [] (by kernel_rfl) .nil (fun _ _ => rfl)
/-- function 44: sheerleg/instr.Check -/
abbrev T_instr_Check : Type := Tc1 → (Int → Option Bool) → Option Bool
noncomputable def instr_Check.body (op_Name : T_op_Name) (instr_numbers : T_instr_numbers) (op_Shape : T_op_Shape) (instr_Check_L0 : T_instr_Check_L0) (instr_Check_L2 : T_instr_Check_L2) : T_instr_Check := fun t182 k1 =>
  (op_Name t182.1
  (fun s185 => (cond_ ((ByteArray.toList s185) == (ByteArray.toList (⟨#[]⟩ : ByteArray))) (k1 (8 : Int)) (instr_numbers t182
  (fun t187 => (instr_Check_L0 (3 : Int) (0 : Int) t182 t187.1 t187.2.1 t187.2.2.1 t187.2.2.2.1 t187.2.2.2.2.1
  (fun n196 => (k1 n196))
  (fun t197 n198 n199 n200 n201 n202 => (cond_ (! (decide (t197.2.2.2.2.1 < (-2147483648 : Int)))) (cond_ (decide (t197.2.2.2.2.1 > (2147483647 : Int))) (k1 (9 : Int)) (op_Shape t197.1
  (fun s207 => (instr_Check_L2 s207 (((ByteArray.size s207) : Nat) : Int) (0 : Int) n198 n199 n200 n201 n202
  (fun n216 => (k1 n216))
  (k1 (0 : Int)))))) (k1 (9 : Int))))))))))
noncomputable def instr_Check : T_instr_Check := instr_Check.body op_Name instr_numbers op_Shape (instr_Check_L0 ROUNDS) (instr_Check_L2 ROUNDS)
def instr_Check.p : FPat := fp 44 (pl (pd Ty5) pz) pz
def instr_Check.g (F : T_instr_Check) (v : instr_Check.p.T) (k : KR) : Option Bool := F v.1.1 (fun y0 => k (.d ⟨(.int .i64), y0⟩) [])
theorem instr_Check.eq (F0 : T_op_Name) (F1 : T_instr_numbers) (F2 : T_op_Shape) (L0 : T_instr_Check_L0) (L1 : T_instr_Check_L2) : ∀ v k, exF Tryz.f44 instr_Check.p [⟨op_Name.p, op_Name.g F0⟩, ⟨instr_numbers.p, instr_numbers.g F1⟩, ⟨op_Shape.p, op_Shape.g F2⟩] [] [⟨0, instr_Check_L0.p, instr_Check_L0.g L0⟩, ⟨2, instr_Check_L2.p, instr_Check_L2.g L1⟩] v k = instr_Check.g (instr_Check.body F0 F1 F2 L0 L1) v k := fun v k => by kernel_rfl
theorem instr_Check.ok : okF 3 instr_Check.p (instr_Check.g instr_Check) := fn2 (instr_Check.eq op_Name instr_numbers op_Shape (instr_Check_L0 ROUNDS) (instr_Check_L2 ROUNDS)) Tryz.func44 (by kernel_rfl) (.cons op_Name.ok (.cons instr_numbers.ok (.cons op_Shape.ok .nil))) [0, 2] (by kernel_rfl) (.cons instr_Check_L0.ok (.cons instr_Check_L2.ok .nil))
/-- function 18: the loop in block 0 -/
abbrev T_fun_code_L0 : Type := Tc2 → Int → Int → (Int → Option Bool) → (Option Bool) → Option Bool
noncomputable def fun_code_L0.body (fun_code_L0 : T_fun_code_L0) (instr_Check : T_instr_Check) (op_Own : T_op_Own) : T_fun_code_L0 := fun l179 n180 n181 k1 k2 =>
  (cond_ (decide (n181 < n180)) (cond_ ((decide ((0 : Int) ≤ n181)) && (decide (n181 < (List.length l179 : Int)))) (instr_Check (List.getD l179 (Int.toNat n181) (0, (0, (0, (0, (0, ()))))))
  (fun n217 => (cond_ (n217 != (0 : Int)) (k1 n217) (op_Own (List.getD l179 (Int.toNat n181) (0, (0, (0, (0, (0, ())))))).1
  (fun b218 => (cond_ (! b218) (k1 (8 : Int)) (fun_code_L0 l179 n180 (IntKind.wrap .i64 (n181 + (1 : Int))) k1 k2))))))) none) (k2))
noncomputable def fun_code_L0 : Nat → T_fun_code_L0
  | 0 => fun _ _ _ _ _ => none
  | n + 1 => fun_code_L0.body (fun_code_L0 n) instr_Check op_Own
def fun_code_L0.p : LPat := lp 2 30 [14, 15, 16] (pl (pd Ty6) (pl (pd (.int .i64)) (pl (pd (.int .i64)) pz))) pz
def fun_code_L0.g (F : T_fun_code_L0) (v : fun_code_L0.p.T) (k : KE) : Option Bool := F v.1.1 v.1.2.1 v.1.2.2.1 (fun y0 => k .ret ⟨fillS 30 [2] [(.d ⟨(.int .i64), y0⟩)], [], 2⟩) (k (.exit 0) ⟨fillS 30 [] [], [], 2⟩)
theorem fun_code_L0.step (S : T_fun_code_L0) (F0 : T_instr_Check) (F1 : T_op_Own) : ∀ v k, exR 18 Tryz.f18 0 fun_code_L0.p [⟨instr_Check.p, instr_Check.g F0⟩, ⟨op_Own.p, op_Own.g F1⟩] [] [] (fun_code_L0.g S) v k = fun_code_L0.g (fun_code_L0.body S F0 F1) v k := fun v k => by kernel_rfl
theorem fun_code_L0.ok : okL 18 Tryz.f18 3 0 fun_code_L0.p (fun_code_L0.g (fun_code_L0 ROUNDS)) := loop2 (G := fun n => fun_code_L0.g (fun_code_L0 n)) (fun n => fun_code_L0.step (fun_code_L0 n) instr_Check op_Own) (.cons instr_Check.ok (.cons op_Own.ok .nil)) [] (by kernel_rfl) .nil (fun _ _ => rfl)
/-- function 18: sheerleg/fun.code -/
abbrev T_fun_code : Type := Tc3 → (Int → Option Bool) → Option Bool
noncomputable def fun_code.body (flow_Check : T_flow_Check) (fun_code_L0 : T_fun_code_L0) : T_fun_code := fun t144 k1 =>
  (flow_Check t144.2.2.2.2.2.2.2.1
  (fun n178 => (cond_ (n178 != (0 : Int)) (k1 n178) (fun_code_L0 t144.2.2.2.2.2.2.2.1 (((List.length t144.2.2.2.2.2.2.2.1) : Nat) : Int) (0 : Int)
  (fun n219 => (k1 n219))
  (k1 (0 : Int))))))
noncomputable def fun_code : T_fun_code := fun_code.body flow_Check (fun_code_L0 ROUNDS)
def fun_code.p : FPat := fp 18 (pl (pd Ty7) pz) pz
def fun_code.g (F : T_fun_code) (v : fun_code.p.T) (k : KR) : Option Bool := F v.1.1 (fun y0 => k (.d ⟨(.int .i64), y0⟩) [])
theorem fun_code.eq (F0 : T_flow_Check) (L0 : T_fun_code_L0) : ∀ v k, exF Tryz.f18 fun_code.p [⟨flow_Check.p, flow_Check.g F0⟩] [] [⟨0, fun_code_L0.p, fun_code_L0.g L0⟩] v k = fun_code.g (fun_code.body F0 L0) v k := fun v k => by kernel_rfl
theorem fun_code.ok : okF 9 fun_code.p (fun_code.g fun_code) := fn2 (fun_code.eq flow_Check (fun_code_L0 ROUNDS)) Tryz.func18 (by kernel_rfl) (.cons flow_Check.ok .nil) [0] (by kernel_rfl) (.cons fun_code_L0.ok .nil)
/-- function 19: the loop in block 0 -/
abbrev T_fun_lines_L0 : Type := (List (Int × Int × Unit)) → Int → Int → Tc3 → (List Int) → (Int → Option Bool) → (Tc3 → (List Int) → Option Bool) → Option Bool
noncomputable def fun_lines_L0.body (fun_lines_L0 : T_fun_lines_L0) : T_fun_lines_L0 := fun l234 n235 n236 t237 ns238 k1 k2 =>
  (cond_ (decide (n236 < n235)) (cond_ ((decide ((0 : Int) ≤ n236)) && (decide (n236 < (List.length l234 : Int)))) (cond_ (! (decide ((List.getD l234 (Int.toNat n236) (0, (0, ()))).2.1 < (0 : Int)))) (cond_ (decide ((List.getD l234 (Int.toNat n236) (0, (0, ()))).2.1 > (65535 : Int))) (k1 (9 : Int)) (cond_ (Nat.ble (((List.length ns238) + (List.length ((List.getD l234 (Int.toNat n236) (0, (0, ()))).1 :: []))) * (8 : Nat)) (140737488355328 : Nat)) (fun_lines_L0 l234 n235 (IntKind.wrap .i64 (n236 + (1 : Int))) t237 (ns238 ++ ((List.getD l234 (Int.toNat n236) (0, (0, ()))).1 :: [])) k1 k2) none)) (k1 (9 : Int))) none) (k2 t237 ns238))
noncomputable def fun_lines_L0 : Nat → T_fun_lines_L0
  | 0 => fun _ _ _ _ _ _ _ => none
  | n + 1 => fun_lines_L0.body (fun_lines_L0 n)
def fun_lines_L0.p : LPat := lp 2 48 [1, 3, 11, 12, 13] (ps (pq [1, 0] 0 0) (ps (pr [1, 1]) (pl (pd Ty3) (pl (pd (.int .i64)) (pl (pd (.int .i64)) pz))))) (pl (po [1, 0] 27 9 (es Ty7 (pl eh pz))) (pl (po [1, 1] 3 1 (ed (.int .i64))) pz))
def fun_lines_L0.g (F : T_fun_lines_L0) (v : fun_lines_L0.p.T) (k : KE) : Option Bool := F v.1.1 v.1.2.1 v.1.2.2.1 v.2.1.1 v.2.2.1 (fun y0 => k .ret ⟨fillS 48 [2] [(.d ⟨(.int .i64), y0⟩)], [], 2⟩) (fun y0 y1 => k (.exit 0) ⟨fillS 48 [1, 3] [(.ptr [1, 0] 0 0), (.ref [1, 1])], [([1, 0], ⟨27, 9, (.data Ty7 [y0])⟩), ([1, 1], ⟨3, 1, (.data (.int .i64) y1)⟩)], 2⟩)
theorem fun_lines_L0.step (S : T_fun_lines_L0) : ∀ v k, exR 19 Tryz.f19 0 fun_lines_L0.p [] [] [] (fun_lines_L0.g S) v k = fun_lines_L0.g (fun_lines_L0.body S) v k := fun v k => by kernel_rfl
theorem fun_lines_L0.ok : okL 19 Tryz.f19 0 0 fun_lines_L0.p (fun_lines_L0.g (fun_lines_L0 ROUNDS)) := loop2 (G := fun n => fun_lines_L0.g (fun_lines_L0 n)) (fun n => fun_lines_L0.step (fun_lines_L0 n)) .nil [] (by kernel_rfl) .nil (fun _ _ => rfl)
/-- function 46: the loop in block 0 -/
abbrev T_fun_rising_L0 : Type := Int → Int → (List Int) → Int → Int → (Bool → Option Bool) → (Option Bool) → Option Bool
noncomputable def fun_rising_L0.body (fun_rising_L0 : T_fun_rising_L0) : T_fun_rising_L0 := fun n244 n245 ns246 n247 n248 k1 k2 =>
  (cond_ (decide (n248 < n247)) (cond_ ((decide ((0 : Int) ≤ n248)) && (decide (n248 < (List.length ns246 : Int)))) (cond_ (! (decide ((List.getD ns246 (Int.toNat n248) (0 : Int)) ≤ n245))) (cond_ (decide ((List.getD ns246 (Int.toNat n248) (0 : Int)) ≥ n244)) (k1 false) (fun_rising_L0 n244 (List.getD ns246 (Int.toNat n248) (0 : Int)) ns246 n247 (IntKind.wrap .i64 (n248 + (1 : Int))) k1 k2)) (k1 false)) none) (k2))
noncomputable def fun_rising_L0 : Nat → T_fun_rising_L0
  | 0 => fun _ _ _ _ _ _ _ => none
  | n + 1 => fun_rising_L0.body (fun_rising_L0 n)
def fun_rising_L0.p : LPat := lp 2 24 [0, 5, 8, 9, 10] (pl (pd (.int .i64)) (pl (pd (.int .i64)) (pl (pb 1 3 (.int .i64)) (pl (pd (.int .i64)) (pl (pd (.int .i64)) pz))))) pz
def fun_rising_L0.g (F : T_fun_rising_L0) (v : fun_rising_L0.p.T) (k : KE) : Option Bool := F v.1.1 v.1.2.1 v.1.2.2.1 v.1.2.2.2.1 v.1.2.2.2.2.1 (fun y0 => k .ret ⟨fillS 24 [4] [(.d ⟨.bool, y0⟩)], [], 2⟩) (k (.exit 0) ⟨fillS 24 [] [], [], 2⟩)
theorem fun_rising_L0.step (S : T_fun_rising_L0) : ∀ v k, exR 46 Tryz.f46 0 fun_rising_L0.p [] [] [] (fun_rising_L0.g S) v k = fun_rising_L0.g (fun_rising_L0.body S) v k := fun v k => by kernel_rfl
theorem fun_rising_L0.ok : okL 46 Tryz.f46 0 0 fun_rising_L0.p (fun_rising_L0.g (fun_rising_L0 ROUNDS)) := loop2 (G := fun n => fun_rising_L0.g (fun_rising_L0 n)) (fun n => fun_rising_L0.step (fun_rising_L0 n)) .nil [] (by kernel_rfl) .nil (fun _ _ => rfl)
/-- function 46: sheerleg/fun.rising -/
abbrev T_fun_rising : Type := Int → (List Int) → (Bool → Option Bool) → Option Bool
noncomputable def fun_rising.body (fun_rising_L0 : T_fun_rising_L0) : T_fun_rising := fun n242 ns243 k1 =>
  (fun_rising_L0 n242 (-1 : Int) ns243 (List.length ns243 : Int) (0 : Int)
  (fun b249 => (k1 b249))
  (k1 true))
noncomputable def fun_rising : T_fun_rising := fun_rising.body (fun_rising_L0 ROUNDS)
def fun_rising.p : FPat := fp 46 (pl (pd (.int .i64)) (pl (pb 1 3 (.int .i64)) pz)) pz
def fun_rising.g (F : T_fun_rising) (v : fun_rising.p.T) (k : KR) : Option Bool := F v.1.1 v.1.2.1 (fun y0 => k (.d ⟨.bool, y0⟩) [])
theorem fun_rising.eq (L0 : T_fun_rising_L0) : ∀ v k, exF Tryz.f46 fun_rising.p [] [] [⟨0, fun_rising_L0.p, fun_rising_L0.g L0⟩] v k = fun_rising.g (fun_rising.body L0) v k := fun v k => by kernel_rfl
theorem fun_rising.ok : okF 1 fun_rising.p (fun_rising.g fun_rising) := fn2 (fun_rising.eq (fun_rising_L0 ROUNDS)) Tryz.func46 (by kernel_rfl) .nil [0] (by kernel_rfl) (.cons fun_rising_L0.ok .nil)
/-- function 19: sheerleg/fun.lines -/
abbrev T_fun_lines : Type := Tc3 → (Int → Option Bool) → Option Bool
noncomputable def fun_lines.body (fun_rising : T_fun_rising) (fun_lines_L0 : T_fun_lines_L0) : T_fun_lines := fun t233 k1 =>
  (cond_ (decide ((((List.length t233.2.2.2.2.2.2.1) : Nat) : Int) > (16 : Int))) (k1 (6 : Int)) (fun_lines_L0 t233.2.2.2.2.2.2.1 (((List.length t233.2.2.2.2.2.2.1) : Nat) : Int) (0 : Int) t233 []
  (fun n239 => (k1 n239))
  (fun t240 ns241 => (cond_ (decide ((List.length ns241 : Int) > (0 : Int))) (cond_ (true && (decide ((0 : Int) < (List.length ns241 : Int)))) (cond_ (! ((List.getD ns241 (0 : Nat) (0 : Int)) != (0 : Int))) (fun_rising (((List.length t240.2.2.2.2.2.2.2.1) : Nat) : Int) ns241
  (fun b250 => (cond_ (! b250) (k1 (9 : Int)) (k1 (0 : Int))))) (k1 (9 : Int))) none) (fun_rising (((List.length t240.2.2.2.2.2.2.2.1) : Nat) : Int) ns241
  (fun b251 => (cond_ (! b251) (k1 (9 : Int)) (k1 (0 : Int)))))))))
noncomputable def fun_lines : T_fun_lines := fun_lines.body fun_rising (fun_lines_L0 ROUNDS)
def fun_lines.p : FPat := fp 19 (pl (pd Ty7) pz) pz
def fun_lines.g (F : T_fun_lines) (v : fun_lines.p.T) (k : KR) : Option Bool := F v.1.1 (fun y0 => k (.d ⟨(.int .i64), y0⟩) [])
theorem fun_lines.eq (F0 : T_fun_rising) (L0 : T_fun_lines_L0) : ∀ v k, exF Tryz.f19 fun_lines.p [⟨fun_rising.p, fun_rising.g F0⟩] [] [⟨0, fun_lines_L0.p, fun_lines_L0.g L0⟩] v k = fun_lines.g (fun_lines.body F0 L0) v k := fun v k => by kernel_rfl
theorem fun_lines.ok : okF 2 fun_lines.p (fun_lines.g fun_lines) := fn2 (fun_lines.eq fun_rising (fun_lines_L0 ROUNDS)) Tryz.func19 (by kernel_rfl) (.cons fun_rising.ok .nil) [0] (by kernel_rfl) (.cons fun_lines_L0.ok .nil)
/-- function 20: the loop in block 0 -/
abbrev T_fun_relocs_L0 : Type := Tc0 → Int → Int → Tc3 → (List Int) → (Int → Option Bool) → (Tc3 → (List Int) → Option Bool) → Option Bool
noncomputable def fun_relocs_L0.body (fun_relocs_L0 : T_fun_relocs_L0) : T_fun_relocs_L0 := fun l267 n268 n269 t270 ns271 k1 k2 =>
  (cond_ (decide (n269 < n268)) (cond_ ((decide ((0 : Int) ≤ n269)) && (decide (n269 < (List.length l267 : Int)))) (cond_ (! (decide ((List.getD l267 (Int.toNat n269) (0, (0, (false, ())))).2.1 < (0 : Int)))) (cond_ (decide ((List.getD l267 (Int.toNat n269) (0, (0, (false, ())))).2.1 ≥ (32 : Int))) (k1 (11 : Int)) (cond_ (Nat.ble (((List.length ns271) + (List.length ((List.getD l267 (Int.toNat n269) (0, (0, (false, ())))).1 :: []))) * (8 : Nat)) (140737488355328 : Nat)) (fun_relocs_L0 l267 n268 (IntKind.wrap .i64 (n269 + (1 : Int))) t270 (ns271 ++ ((List.getD l267 (Int.toNat n269) (0, (0, (false, ())))).1 :: [])) k1 k2) none)) (k1 (11 : Int))) none) (k2 t270 ns271))
noncomputable def fun_relocs_L0 : Nat → T_fun_relocs_L0
  | 0 => fun _ _ _ _ _ _ _ => none
  | n + 1 => fun_relocs_L0.body (fun_relocs_L0 n)
def fun_relocs_L0.p : LPat := lp 2 33 [1, 3, 7, 8, 9] (ps (pq [1, 0] 0 0) (ps (pr [1, 1]) (pl (pd Ty4) (pl (pd (.int .i64)) (pl (pd (.int .i64)) pz))))) (pl (po [1, 0] 27 9 (es Ty7 (pl eh pz))) (pl (po [1, 1] 3 1 (ed (.int .i64))) pz))
def fun_relocs_L0.g (F : T_fun_relocs_L0) (v : fun_relocs_L0.p.T) (k : KE) : Option Bool := F v.1.1 v.1.2.1 v.1.2.2.1 v.2.1.1 v.2.2.1 (fun y0 => k .ret ⟨fillS 33 [2] [(.d ⟨(.int .i64), y0⟩)], [], 2⟩) (fun y0 y1 => k (.exit 0) ⟨fillS 33 [1, 3] [(.ptr [1, 0] 0 0), (.ref [1, 1])], [([1, 0], ⟨27, 9, (.data Ty7 [y0])⟩), ([1, 1], ⟨3, 1, (.data (.int .i64) y1)⟩)], 2⟩)
theorem fun_relocs_L0.step (S : T_fun_relocs_L0) : ∀ v k, exR 20 Tryz.f20 0 fun_relocs_L0.p [] [] [] (fun_relocs_L0.g S) v k = fun_relocs_L0.g (fun_relocs_L0.body S) v k := fun v k => by kernel_rfl
theorem fun_relocs_L0.ok : okL 20 Tryz.f20 0 0 fun_relocs_L0.p (fun_relocs_L0.g (fun_relocs_L0 ROUNDS)) := loop2 (G := fun n => fun_relocs_L0.g (fun_relocs_L0 n)) (fun n => fun_relocs_L0.step (fun_relocs_L0 n)) .nil [] (by kernel_rfl) .nil (fun _ _ => rfl)
/-- function 20: sheerleg/fun.relocs -/
abbrev T_fun_relocs : Type := Tc3 → (Int → Option Bool) → Option Bool
noncomputable def fun_relocs.body (fun_rising : T_fun_rising) (fun_relocs_L0 : T_fun_relocs_L0) : T_fun_relocs := fun t266 k1 =>
  (fun_relocs_L0 t266.2.2.2.2.2.2.2.2.1 (((List.length t266.2.2.2.2.2.2.2.2.1) : Nat) : Int) (0 : Int) t266 []
  (fun n272 => (k1 n272))
  (fun t273 ns274 => (fun_rising (((List.length t273.2.2.2.2.2.2.2.1) : Nat) : Int) ns274
  (fun b275 => (cond_ (! b275) (k1 (11 : Int)) (k1 (0 : Int)))))))
noncomputable def fun_relocs : T_fun_relocs := fun_relocs.body fun_rising (fun_relocs_L0 ROUNDS)
def fun_relocs.p : FPat := fp 20 (pl (pd Ty7) pz) pz
def fun_relocs.g (F : T_fun_relocs) (v : fun_relocs.p.T) (k : KR) : Option Bool := F v.1.1 (fun y0 => k (.d ⟨(.int .i64), y0⟩) [])
theorem fun_relocs.eq (F0 : T_fun_rising) (L0 : T_fun_relocs_L0) : ∀ v k, exF Tryz.f20 fun_relocs.p [⟨fun_rising.p, fun_rising.g F0⟩] [] [⟨0, fun_relocs_L0.p, fun_relocs_L0.g L0⟩] v k = fun_relocs.g (fun_relocs.body F0 L0) v k := fun v k => by kernel_rfl
theorem fun_relocs.ok : okF 2 fun_relocs.p (fun_relocs.g fun_relocs) := fn2 (fun_relocs.eq fun_rising (fun_relocs_L0 ROUNDS)) Tryz.func20 (by kernel_rfl) (.cons fun_rising.ok .nil) [0] (by kernel_rfl) (.cons fun_relocs_L0.ok .nil)
/-- function 6: sheerleg/fun.Check -/
abbrev T_fun_Check : Type := Tc3 → (Int → Option Bool) → Option Bool
noncomputable def fun_Check.body (fun_slots : T_fun_slots) (fun_code : T_fun_code) (fun_lines : T_fun_lines) (fun_relocs : T_fun_relocs) : T_fun_Check := fun t262 k1 =>
  (fun_slots t262
  (fun n263 => (cond_ (n263 != (0 : Int)) (k1 n263) (cond_ (! (decide (t262.2.2.1 < (0 : Int)))) (cond_ (decide (t262.2.2.1 > (4096 : Int))) (k1 (9 : Int)) (fun_code t262
  (fun n264 => (cond_ (n264 != (0 : Int)) (k1 n264) (cond_ (! (decide (t262.2.2.2.2.1 < (0 : Int)))) (cond_ (! (decide (t262.2.2.2.2.2.1 < t262.2.2.2.2.1))) (cond_ (decide (t262.2.2.2.2.2.1 > (((List.length t262.2.2.2.2.2.2.2.1) : Nat) : Int))) (k1 (9 : Int)) (fun_lines t262
  (fun n265 => (cond_ (n265 != (0 : Int)) (k1 n265) (fun_relocs t262
  (fun n276 => (k1 n276))))))) (k1 (9 : Int))) (k1 (9 : Int))))))) (k1 (9 : Int))))))
noncomputable def fun_Check : T_fun_Check := fun_Check.body fun_slots fun_code fun_lines fun_relocs
def fun_Check.p : FPat := fp 6 (pl (pd Ty7) pz) pz
def fun_Check.g (F : T_fun_Check) (v : fun_Check.p.T) (k : KR) : Option Bool := F v.1.1 (fun y0 => k (.d ⟨(.int .i64), y0⟩) [])
theorem fun_Check.eq (F0 : T_fun_slots) (F1 : T_fun_code) (F2 : T_fun_lines) (F3 : T_fun_relocs) : ∀ v k, exF Tryz.f6 fun_Check.p [⟨fun_slots.p, fun_slots.g F0⟩, ⟨fun_code.p, fun_code.g F1⟩, ⟨fun_lines.p, fun_lines.g F2⟩, ⟨fun_relocs.p, fun_relocs.g F3⟩] [] [] v k = fun_Check.g (fun_Check.body F0 F1 F2 F3) v k := fun v k => by kernel_rfl
theorem fun_Check.ok : okF 10 fun_Check.p (fun_Check.g fun_Check) := fn2 (fun_Check.eq fun_slots fun_code fun_lines fun_relocs) Tryz.func6 (by kernel_rfl) (.cons fun_slots.ok (.cons fun_code.ok (.cons fun_lines.ok (.cons fun_relocs.ok .nil)))) [] (by kernel_rfl) .nil
/-- function 47: sheerleg/sheerlegref05.Is -/
abbrev T_ref05_Is : Type := Int → (Bool → Option Bool) → Option Bool
noncomputable def ref05_Is.body : T_ref05_Is := fun n280 k1 =>
  (cond_ (decide (n280 ≥ (0 : Int))) (k1 (decide (n280 ≤ (7 : Int)))) (k1 false))
noncomputable def ref05_Is : T_ref05_Is := ref05_Is.body
def ref05_Is.p : FPat := fp 47 (pl (pd (.int .i64)) pz) pz
def ref05_Is.g (F : T_ref05_Is) (v : ref05_Is.p.T) (k : KR) : Option Bool := F v.1.1 (fun y0 => k (.d ⟨.bool, y0⟩) [])
theorem ref05_Is.eq : ∀ v k, exF Tryz.f47 ref05_Is.p [] [] [] v k = ref05_Is.g (ref05_Is.body) v k := fun v k => by kernel_rfl
theorem ref05_Is.ok : okF 1 ref05_Is.p (ref05_Is.g ref05_Is) := fn2 (ref05_Is.eq) Tryz.func47 (by kernel_rfl) .nil [] (by kernel_rfl) .nil
/-- function 48: sheerleg/sheerlegref05.Params -/
abbrev T_ref05_Params : Type := Int → (Int → Option Bool) → Option Bool
noncomputable def ref05_Params.body (ref05_Is : T_ref05_Is) : T_ref05_Params := fun n282 k1 =>
  (ref05_Is n282
  (fun b283 => (cond_ (! b283) (k1 (0 : Int)) (k1 (IntKind.wrap .i64 (Int.tdiv n282 (2 : Int)))))))
noncomputable def ref05_Params : T_ref05_Params := ref05_Params.body ref05_Is
def ref05_Params.p : FPat := fp 48 (pl (pd (.int .i64)) pz) pz
def ref05_Params.g (F : T_ref05_Params) (v : ref05_Params.p.T) (k : KR) : Option Bool := F v.1.1 (fun y0 => k (.d ⟨(.int .i64), y0⟩) [])
theorem ref05_Params.eq (F0 : T_ref05_Is) : ∀ v k, exF Tryz.f48 ref05_Params.p [⟨ref05_Is.p, ref05_Is.g F0⟩] [] [] v k = ref05_Params.g (ref05_Params.body F0) v k := fun v k => by kernel_rfl
theorem ref05_Params.ok : okF 2 ref05_Params.p (ref05_Params.g ref05_Params) := fn2 (ref05_Params.eq ref05_Is) Tryz.func48 (by kernel_rfl) (.cons ref05_Is.ok .nil) [] (by kernel_rfl) .nil
/-- function 66: sheerleg/sheerlegref05.Class -/
abbrev T_ref05_Class : Type := Int → (Int → Bool → Option Bool) → Option Bool
noncomputable def ref05_Class.body (ref05_Is : T_ref05_Is) : T_ref05_Class := fun n288 k1 =>
  (ref05_Is (IntKind.wrap .i64 (n288 - (1 : Int)))
  (fun b289 => (cond_ (! b289) (k1 (0 : Int) false) (k1 (IntKind.wrap .i64 (n288 - (1 : Int))) true))))
noncomputable def ref05_Class : T_ref05_Class := ref05_Class.body ref05_Is
def ref05_Class.p : FPat := fp 66 (pl (pd (.int .i64)) pz) pz
def ref05_Class.g (F : T_ref05_Class) (v : ref05_Class.p.T) (k : KR) : Option Bool := F v.1.1 (fun y0 y1 => k (.tup [(.d ⟨(.int .i64), y0⟩), (.d ⟨.bool, y1⟩)]) [])
theorem ref05_Class.eq (F0 : T_ref05_Is) : ∀ v k, exF Tryz.f66 ref05_Class.p [⟨ref05_Is.p, ref05_Is.g F0⟩] [] [] v k = ref05_Class.g (ref05_Class.body F0) v k := fun v k => by kernel_rfl
theorem ref05_Class.ok : okF 2 ref05_Class.p (ref05_Class.g ref05_Class) := fn2 (ref05_Class.eq ref05_Is) Tryz.func66 (by kernel_rfl) (.cons ref05_Is.ok .nil) [] (by kernel_rfl) .nil
/-- function 67: the loop in block 0 -/
abbrev T_ref01_Digits_L0 : Type := Int → ByteArray → Int → (Int → ByteArray → Option Bool) → Option Bool
noncomputable def ref01_Digits_L0.body (ref01_Digits_L0 : T_ref01_Digits_L0) : T_ref01_Digits_L0 := fun n293 s294 n295 k1 =>
  (cond_ (n295 != (0 : Int)) (cond_ (decide ((Int.tmod n295 (10 : Int)) < (0 : Int))) (cond_ (Nat.ble ((ByteArray.size (strOf ((IntKind.wrap .u8 (IntKind.wrap .i64 ((48 : Int) + (IntKind.wrap .i64 ((0 : Int) - (Int.tmod n295 (10 : Int))))))) :: []))) + (ByteArray.size s294)) (9223372036854775807 : Nat)) (ref01_Digits_L0 n293 ((strOf ((IntKind.wrap .u8 (IntKind.wrap .i64 ((48 : Int) + (IntKind.wrap .i64 ((0 : Int) - (Int.tmod n295 (10 : Int))))))) :: [])) ++ s294) (IntKind.wrap .i64 (Int.tdiv n295 (10 : Int))) k1) none) (cond_ (Nat.ble ((ByteArray.size (strOf ((IntKind.wrap .u8 (IntKind.wrap .i64 ((48 : Int) + (Int.tmod n295 (10 : Int))))) :: []))) + (ByteArray.size s294)) (9223372036854775807 : Nat)) (ref01_Digits_L0 n293 ((strOf ((IntKind.wrap .u8 (IntKind.wrap .i64 ((48 : Int) + (Int.tmod n295 (10 : Int))))) :: [])) ++ s294) (IntKind.wrap .i64 (Int.tdiv n295 (10 : Int))) k1) none)) (k1 n293 s294))
noncomputable def ref01_Digits_L0 : Nat → T_ref01_Digits_L0
  | 0 => fun _ _ _ _ => none
  | n + 1 => ref01_Digits_L0.body (ref01_Digits_L0 n)
def ref01_Digits_L0.p : LPat := lp 2 31 [0, 3, 4] (pl (pd (.int .i64)) (pl (pd .str) (pl (pd (.int .i64)) pz))) pz
def ref01_Digits_L0.g (F : T_ref01_Digits_L0) (v : ref01_Digits_L0.p.T) (k : KE) : Option Bool := F v.1.1 v.1.2.1 v.1.2.2.1 (fun y0 y1 => k (.exit 0) ⟨fillS 31 [0, 3] [(.d ⟨(.int .i64), y0⟩), (.d ⟨.str, y1⟩)], [], 2⟩)
theorem ref01_Digits_L0.step (S : T_ref01_Digits_L0) : ∀ v k, exR 67 Tryz.f67 0 ref01_Digits_L0.p [] [] [] (ref01_Digits_L0.g S) v k = ref01_Digits_L0.g (ref01_Digits_L0.body S) v k := fun v k => by kernel_rfl
theorem ref01_Digits_L0.ok : okL 67 Tryz.f67 0 0 ref01_Digits_L0.p (ref01_Digits_L0.g (ref01_Digits_L0 ROUNDS)) := loop2 (G := fun n => ref01_Digits_L0.g (ref01_Digits_L0 n)) (fun n => ref01_Digits_L0.step (ref01_Digits_L0 n)) .nil [] (by kernel_rfl) .nil (fun _ _ => rfl)
/-- function 67: sheerleg/sheerlegref01.Digits -/
abbrev T_ref01_Digits : Type := Int → (ByteArray → Option Bool) → Option Bool
noncomputable def ref01_Digits.body (ref01_Digits_L0 : T_ref01_Digits_L0) : T_ref01_Digits := fun n292 k1 =>
  (cond_ (n292 == (0 : Int)) (k1 (⟨#[48]⟩ : ByteArray)) (ref01_Digits_L0 n292 (⟨#[]⟩ : ByteArray) n292
  (fun n296 s297 => (cond_ (decide (n296 < (0 : Int))) (cond_ (Nat.ble ((1 : Nat) + (ByteArray.size s297)) (9223372036854775807 : Nat)) (k1 ((⟨#[45]⟩ : ByteArray) ++ s297)) none) (k1 s297)))))
noncomputable def ref01_Digits : T_ref01_Digits := ref01_Digits.body (ref01_Digits_L0 ROUNDS)
def ref01_Digits.p : FPat := fp 67 (pl (pd (.int .i64)) pz) pz
def ref01_Digits.g (F : T_ref01_Digits) (v : ref01_Digits.p.T) (k : KR) : Option Bool := F v.1.1 (fun y0 => k (.d ⟨.str, y0⟩) [])
theorem ref01_Digits.eq (L0 : T_ref01_Digits_L0) : ∀ v k, exF Tryz.f67 ref01_Digits.p [] [] [⟨0, ref01_Digits_L0.p, ref01_Digits_L0.g L0⟩] v k = ref01_Digits.g (ref01_Digits.body L0) v k := fun v k => by kernel_rfl
theorem ref01_Digits.ok : okF 1 ref01_Digits.p (ref01_Digits.g ref01_Digits) := fn2 (ref01_Digits.eq (ref01_Digits_L0 ROUNDS)) Tryz.func67 (by kernel_rfl) .nil [0] (by kernel_rfl) (.cons ref01_Digits_L0.ok .nil)
/-- function 49: sheerleg/sheerlegref05.Text -/
abbrev T_ref05_Text : Type := Int → (ByteArray → Option Bool) → Option Bool
noncomputable def ref05_Text.body (ref05_Class : T_ref05_Class) (ref01_Digits : T_ref01_Digits) : T_ref05_Text := fun n287 k1 =>
  (cond_ (n287 == (0 : Int)) (k1 (⟨#[110]⟩ : ByteArray)) (ref05_Class n287
  (fun n290 b291 => (cond_ (! b291) (k1 (⟨#[]⟩ : ByteArray)) (ref01_Digits (IntKind.wrap .i64 (Int.tdiv n290 (2 : Int)))
  (fun s298 => (cond_ (Nat.ble ((1 : Nat) + (ByteArray.size s298)) (9223372036854775807 : Nat)) (cond_ ((Int.tmod n290 (2 : Int)) == (1 : Int)) (cond_ (Nat.ble ((ByteArray.size ((⟨#[102]⟩ : ByteArray) ++ s298)) + (1 : Nat)) (9223372036854775807 : Nat)) (k1 (((⟨#[102]⟩ : ByteArray) ++ s298) ++ (⟨#[114]⟩ : ByteArray))) none) (k1 ((⟨#[102]⟩ : ByteArray) ++ s298))) none)))))))
noncomputable def ref05_Text : T_ref05_Text := ref05_Text.body ref05_Class ref01_Digits
def ref05_Text.p : FPat := fp 49 (pl (pd (.int .i64)) pz) pz
def ref05_Text.g (F : T_ref05_Text) (v : ref05_Text.p.T) (k : KR) : Option Bool := F v.1.1 (fun y0 => k (.d ⟨.str, y0⟩) [])
theorem ref05_Text.eq (F0 : T_ref05_Class) (F1 : T_ref01_Digits) : ∀ v k, exF Tryz.f49 ref05_Text.p [⟨ref05_Class.p, ref05_Class.g F0⟩, ⟨ref01_Digits.p, ref01_Digits.g F1⟩] [] [] v k = ref05_Text.g (ref05_Text.body F0 F1) v k := fun v k => by kernel_rfl
theorem ref05_Text.ok : okF 3 ref05_Text.p (ref05_Text.g ref05_Text) := fn2 (ref05_Text.eq ref05_Class ref01_Digits) Tryz.func49 (by kernel_rfl) (.cons ref05_Class.ok (.cons ref01_Digits.ok .nil)) [] (by kernel_rfl) .nil
/-- function 21: the loop in block 0 -/
abbrev T_ref16_slots_L0 : Type := Int → Tc3 → (Int → Option Bool) → (Option Bool) → Option Bool
noncomputable def ref16_slots_L0.body (ref16_slots_L0 : T_ref16_slots_L0) (ref05_Text : T_ref05_Text) (ref05_Params : T_ref05_Params) : T_ref16_slots_L0 := fun n285 t286 k1 k2 =>
  (cond_ (decide (n285 < (((List.length t286.2.1) : Nat) : Int))) (cond_ ((decide ((0 : Int) ≤ n285)) && (decide (n285 < (((List.length t286.2.1) : Nat) : Int)))) (ref05_Text (List.getD t286.2.1 (Int.toNat n285) (0 : Int))
  (fun s299 => (cond_ (! ((ByteArray.toList s299) == (ByteArray.toList (⟨#[]⟩ : ByteArray)))) (ref05_Params t286.1
  (fun n300 => (cond_ (decide (n285 < n300)) (cond_ ((decide ((0 : Int) ≤ n285)) && (decide (n285 < (((List.length t286.2.1) : Nat) : Int)))) (cond_ ((List.getD t286.2.1 (Int.toNat n285) (0 : Int)) != (0 : Int)) (k1 (8 : Int)) (ref16_slots_L0 (IntKind.wrap .i64 (n285 + (1 : Int))) t286 k1 k2)) none) (ref16_slots_L0 (IntKind.wrap .i64 (n285 + (1 : Int))) t286 k1 k2)))) (k1 (8 : Int))))) none) (k2))
noncomputable def ref16_slots_L0 : Nat → T_ref16_slots_L0
  | 0 => fun _ _ _ _ => none
  | n + 1 => ref16_slots_L0.body (ref16_slots_L0 n) ref05_Text ref05_Params
def ref16_slots_L0.p : LPat := lp 2 48 [1, 3] (ps (pq [1, 0] 0 0) (pl (pd (.int .i64)) pz)) (pl (po [1, 0] 27 9 (es Ty7 (pl eh pz))) pz)
def ref16_slots_L0.g (F : T_ref16_slots_L0) (v : ref16_slots_L0.p.T) (k : KE) : Option Bool := F v.1.1 v.2.1.1 (fun y0 => k .ret ⟨fillS 48 [2] [(.d ⟨(.int .i64), y0⟩)], [], 2⟩) (k (.exit 0) ⟨fillS 48 [] [], [], 2⟩)
theorem ref16_slots_L0.step (S : T_ref16_slots_L0) (F0 : T_ref05_Text) (F1 : T_ref05_Params) : ∀ v k, exR 21 Tryz.f21 0 ref16_slots_L0.p [⟨ref05_Text.p, ref05_Text.g F0⟩, ⟨ref05_Params.p, ref05_Params.g F1⟩] [] [] (ref16_slots_L0.g S) v k = ref16_slots_L0.g (ref16_slots_L0.body S F0 F1) v k := fun v k => by kernel_rfl
theorem ref16_slots_L0.ok : okL 21 Tryz.f21 3 0 ref16_slots_L0.p (ref16_slots_L0.g (ref16_slots_L0 ROUNDS)) := loop2 (G := fun n => ref16_slots_L0.g (ref16_slots_L0 n)) (fun n => ref16_slots_L0.step (ref16_slots_L0 n) ref05_Text ref05_Params) (.cons ref05_Text.ok (.cons ref05_Params.ok .nil)) [] (by kernel_rfl) .nil (fun _ _ => rfl)
/-- function 21: sheerleg/sheerlegref16.slots -/
abbrev T_ref16_slots : Type := Tc3 → (Int → Option Bool) → Option Bool
noncomputable def ref16_slots.body (ref05_Is : T_ref05_Is) (ref05_Params : T_ref05_Params) (ref16_slots_L0 : T_ref16_slots_L0) : T_ref16_slots := fun t279 k1 =>
  (ref05_Is t279.1
  (fun b281 => (cond_ (! b281) (k1 (14 : Int)) (cond_ (decide ((((List.length t279.2.1) : Nat) : Int) > (16 : Int))) (k1 (6 : Int)) (ref05_Params t279.1
  (fun n284 => (cond_ (decide ((((List.length t279.2.1) : Nat) : Int) < n284)) (k1 (2 : Int)) (ref16_slots_L0 (0 : Int) t279
  (fun n301 => (k1 n301))
  (k1 (0 : Int))))))))))
noncomputable def ref16_slots : T_ref16_slots := ref16_slots.body ref05_Is ref05_Params (ref16_slots_L0 ROUNDS)
def ref16_slots.p : FPat := fp 21 (pl (pd Ty7) pz) pz
def ref16_slots.g (F : T_ref16_slots) (v : ref16_slots.p.T) (k : KR) : Option Bool := F v.1.1 (fun y0 => k (.d ⟨(.int .i64), y0⟩) [])
theorem ref16_slots.eq (F0 : T_ref05_Is) (F1 : T_ref05_Params) (L0 : T_ref16_slots_L0) : ∀ v k, exF Tryz.f21 ref16_slots.p [⟨ref05_Is.p, ref05_Is.g F0⟩, ⟨ref05_Params.p, ref05_Params.g F1⟩] [] [⟨0, ref16_slots_L0.p, ref16_slots_L0.g L0⟩] v k = ref16_slots.g (ref16_slots.body F0 F1 L0) v k := fun v k => by kernel_rfl
theorem ref16_slots.ok : okF 4 ref16_slots.p (ref16_slots.g ref16_slots) := fn2 (ref16_slots.eq ref05_Is ref05_Params (ref16_slots_L0 ROUNDS)) Tryz.func21 (by kernel_rfl) (.cons ref05_Is.ok (.cons ref05_Params.ok .nil)) [0] (by kernel_rfl) (.cons ref16_slots_L0.ok .nil)
/-- function 79: sheerleg/sheerlegref07.names -/
abbrev T_ref07_names : Type := ((List ByteArray) → Option Bool) → Option Bool
noncomputable def ref07_names.body : T_ref07_names := fun k1 =>
  (k1 [(⟨#[110, 111, 112]⟩ : ByteArray), (⟨#[115, 101, 116]⟩ : ByteArray), (⟨#[109, 111, 118, 101]⟩ : ByteArray), (⟨#[97, 100, 100]⟩ : ByteArray), (⟨#[115, 117, 98]⟩ : ByteArray), (⟨#[109, 117, 108]⟩ : ByteArray), (⟨#[100, 105, 118]⟩ : ByteArray), (⟨#[109, 111, 100]⟩ : ByteArray), (⟨#[108, 101, 115, 115]⟩ : ByteArray), (⟨#[115, 97, 109, 101]⟩ : ByteArray), (⟨#[106, 117, 109, 112]⟩ : ByteArray), (⟨#[122, 101, 114, 111]⟩ : ByteArray), (⟨#[105, 110]⟩ : ByteArray), (⟨#[111, 117, 116]⟩ : ByteArray), (⟨#[108, 111, 97, 100]⟩ : ByteArray), (⟨#[115, 116, 111, 114, 101]⟩ : ByteArray), (⟨#[102, 117, 110, 99]⟩ : ByteArray), (⟨#[112, 105, 99, 107]⟩ : ByteArray), (⟨#[99, 97, 108, 108]⟩ : ByteArray), (⟨#[118, 105, 97]⟩ : ByteArray), (⟨#[100, 101, 102, 101, 114]⟩ : ByteArray), (⟨#[112, 97, 110, 105, 99]⟩ : ByteArray), (⟨#[114, 101, 99, 111, 118, 101, 114]⟩ : ByteArray), (⟨#[114, 101, 116, 117, 114, 110]⟩ : ByteArray), (⟨#[99, 104, 101, 99, 107]⟩ : ByteArray), (⟨#[101, 110, 116, 101, 114]⟩ : ByteArray), (⟨#[98, 111, 116, 116, 111, 109]⟩ : ByteArray), (⟨#[100, 114, 105, 118, 101, 114]⟩ : ByteArray)])
noncomputable def ref07_names : T_ref07_names := ref07_names.body
def ref07_names.p : FPat := fp 79 pz pz
def ref07_names.g (F : T_ref07_names) (v : ref07_names.p.T) (k : KR) : Option Bool := F (fun y0 => k (.ref [1, 0]) [([1, 0], ⟨9, 1, (.data .str y0)⟩)])
theorem ref07_names.eq : ∀ v k, exF Tryz.f79 ref07_names.p [] [] [] v k = ref07_names.g (ref07_names.body) v k := fun v k => by kernel_rfl
theorem ref07_names.ok : okF 1 ref07_names.p (ref07_names.g ref07_names) := fn2 (ref07_names.eq) Tryz.func79 (by kernel_rfl) .nil [] (by kernel_rfl) .nil
/-- function 69: sheerleg/sheerlegref07.Name -/
abbrev T_ref07_Name : Type := Int → (ByteArray → Option Bool) → Option Bool
noncomputable def ref07_Name.body (ref07_names : T_ref07_names) : T_ref07_Name := fun n310 k1 =>
  (ref07_names
  (fun ss311 => (cond_ (! (decide (n310 < (1 : Int)))) (cond_ (decide (n310 > (List.length ss311 : Int))) (k1 (⟨#[]⟩ : ByteArray)) (cond_ ((decide ((0 : Int) ≤ (IntKind.wrap .i64 (n310 - (1 : Int))))) && (decide ((IntKind.wrap .i64 (n310 - (1 : Int))) < (List.length ss311 : Int)))) (k1 (List.getD ss311 (Int.toNat (IntKind.wrap .i64 (n310 - (1 : Int)))) (⟨#[]⟩ : ByteArray))) none)) (k1 (⟨#[]⟩ : ByteArray)))))
noncomputable def ref07_Name : T_ref07_Name := ref07_Name.body ref07_names
def ref07_Name.p : FPat := fp 69 (pl (pd (.int .i64)) pz) pz
def ref07_Name.g (F : T_ref07_Name) (v : ref07_Name.p.T) (k : KR) : Option Bool := F v.1.1 (fun y0 => k (.d ⟨.str, y0⟩) [])
theorem ref07_Name.eq (F0 : T_ref07_names) : ∀ v k, exF Tryz.f69 ref07_Name.p [⟨ref07_names.p, ref07_names.g F0⟩] [] [] v k = ref07_Name.g (ref07_Name.body F0) v k := fun v k => by kernel_rfl
theorem ref07_Name.ok : okF 2 ref07_Name.p (ref07_Name.g ref07_Name) := fn2 (ref07_Name.eq ref07_names) Tryz.func69 (by kernel_rfl) (.cons ref07_names.ok .nil) [] (by kernel_rfl) .nil
/-- function 78: sheerleg/sheerlegref07.Ends -/
abbrev T_ref07_Ends : Type := Int → (Bool → Option Bool) → Option Bool
noncomputable def ref07_Ends.body (ref07_Name : T_ref07_Name) : T_ref07_Ends := fun n309 k1 =>
  (ref07_Name n309
  (fun s312 => (cond_ (! ((ByteArray.toList s312) == (ByteArray.toList (⟨#[106, 117, 109, 112]⟩ : ByteArray)))) (ref07_Name n309
  (fun s313 => (cond_ (! ((ByteArray.toList s313) == (ByteArray.toList (⟨#[112, 97, 110, 105, 99]⟩ : ByteArray)))) (ref07_Name n309
  (fun s314 => (k1 ((ByteArray.toList s314) == (ByteArray.toList (⟨#[114, 101, 116, 117, 114, 110]⟩ : ByteArray)))))) (k1 true)))) (k1 true))))
noncomputable def ref07_Ends : T_ref07_Ends := ref07_Ends.body ref07_Name
def ref07_Ends.p : FPat := fp 78 (pl (pd (.int .i64)) pz) pz
def ref07_Ends.g (F : T_ref07_Ends) (v : ref07_Ends.p.T) (k : KR) : Option Bool := F v.1.1 (fun y0 => k (.d ⟨.bool, y0⟩) [])
theorem ref07_Ends.eq (F0 : T_ref07_Name) : ∀ v k, exF Tryz.f78 ref07_Ends.p [⟨ref07_Name.p, ref07_Name.g F0⟩] [] [] v k = ref07_Ends.g (ref07_Ends.body F0) v k := fun v k => by kernel_rfl
theorem ref07_Ends.ok : okF 3 ref07_Ends.p (ref07_Ends.g ref07_Ends) := fn2 (ref07_Ends.eq ref07_Name) Tryz.func78 (by kernel_rfl) (.cons ref07_Name.ok .nil) [] (by kernel_rfl) .nil
/-- function 68: sheerleg/sheerlegref14.Next -/
abbrev T_ref14_Next : Type := Tc2 → Int → ((List Int) → Option Bool) → Option Bool
noncomputable def ref14_Next.body (ref07_Ends : T_ref07_Ends) : T_ref14_Next := fun ts307 n308 k1 =>
  (cond_ (! (decide (n308 < (0 : Int)))) (cond_ (decide (n308 ≥ (List.length ts307 : Int))) (k1 []) (cond_ ((decide ((0 : Int) ≤ n308)) && (decide (n308 < (List.length ts307 : Int)))) (cond_ ((List.getD ts307 (Int.toNat n308) (0, (0, (0, (0, (0, ())))))).1 == (11 : Int)) (k1 [(List.getD ts307 (Int.toNat n308) (0, (0, (0, (0, (0, ())))))).2.2.2.2.1]) (ref07_Ends (List.getD ts307 (Int.toNat n308) (0, (0, (0, (0, (0, ())))))).1
  (fun b315 => (cond_ b315 (k1 []) (cond_ (! ((List.getD ts307 (Int.toNat n308) (0, (0, (0, (0, (0, ())))))).1 != (12 : Int))) (cond_ ((List.getD ts307 (Int.toNat n308) (0, (0, (0, (0, (0, ())))))).2.2.2.2.1 == (IntKind.wrap .i64 (n308 + (1 : Int)))) (k1 [(IntKind.wrap .i64 (n308 + (1 : Int)))]) (cond_ (decide ((List.getD ts307 (Int.toNat n308) (0, (0, (0, (0, (0, ())))))).2.2.2.2.1 < (IntKind.wrap .i64 (n308 + (1 : Int))))) (k1 [(List.getD ts307 (Int.toNat n308) (0, (0, (0, (0, (0, ())))))).2.2.2.2.1, (IntKind.wrap .i64 (n308 + (1 : Int)))]) (k1 [(IntKind.wrap .i64 (n308 + (1 : Int))), (List.getD ts307 (Int.toNat n308) (0, (0, (0, (0, (0, ())))))).2.2.2.2.1]))) (k1 [(IntKind.wrap .i64 (n308 + (1 : Int)))])))))) none)) (k1 []))
noncomputable def ref14_Next : T_ref14_Next := ref14_Next.body ref07_Ends
def ref14_Next.p : FPat := fp 68 (pl (pb 0 49 Ty5) (pl (pd (.int .i64)) pz)) pz
def ref14_Next.g (F : T_ref14_Next) (v : ref14_Next.p.T) (k : KR) : Option Bool := F v.1.1 v.1.2.1 (fun y0 => k (.ref [1, 0]) [([1, 0], ⟨3, 1, (.data (.int .i64) y0)⟩)])
theorem ref14_Next.eq (F0 : T_ref07_Ends) : ∀ v k, exF Tryz.f68 ref14_Next.p [⟨ref07_Ends.p, ref07_Ends.g F0⟩] [] [] v k = ref14_Next.g (ref14_Next.body F0) v k := fun v k => by kernel_rfl
theorem ref14_Next.ok : okF 4 ref14_Next.p (ref14_Next.g ref14_Next) := fn2 (ref14_Next.eq ref07_Ends) Tryz.func68 (by kernel_rfl) (.cons ref07_Ends.ok .nil) [] (by kernel_rfl) .nil
/-- function 50: the loop in block 2 -/
abbrev T_ref14_Check_L0_L2 : Type := Tc2 → Int → Int → (List Int) → (Int → Option Bool) → (Tc2 → Int → Option Bool) → Option Bool
noncomputable def ref14_Check_L0_L2.body (ref14_Check_L0_L2 : T_ref14_Check_L0_L2) : T_ref14_Check_L0_L2 := fun ts317 n318 n319 ns320 k1 k2 =>
  (cond_ (decide (n319 < (List.length ns320 : Int))) (cond_ ((decide ((0 : Int) ≤ n319)) && (decide (n319 < (List.length ns320 : Int)))) (cond_ (! (decide ((List.getD ns320 (Int.toNat n319) (0 : Int)) < (0 : Int)))) (cond_ ((decide ((0 : Int) ≤ n319)) && (decide (n319 < (List.length ns320 : Int)))) (cond_ (decide ((List.getD ns320 (Int.toNat n319) (0 : Int)) ≥ (List.length ts317 : Int))) (k1 (10 : Int)) (ref14_Check_L0_L2 ts317 n318 (IntKind.wrap .i64 (n319 + (1 : Int))) ns320 k1 k2)) none) (k1 (10 : Int))) none) (k2 ts317 n318))
noncomputable def ref14_Check_L0_L2 : Nat → T_ref14_Check_L0_L2
  | 0 => fun _ _ _ _ _ _ => none
  | n + 1 => ref14_Check_L0_L2.body (ref14_Check_L0_L2 n)
def ref14_Check_L0_L2.p : LPat := lp 2 41 [0, 3, 4, 5] (pl (pb 0 49 Ty5) (pl (pd (.int .i64)) (ps (pr [1, 0]) (pl (pd (.int .i64)) pz)))) (pl (po [1, 0] 3 1 (ed (.int .i64))) pz)
def ref14_Check_L0_L2.g (F : T_ref14_Check_L0_L2) (v : ref14_Check_L0_L2.p.T) (k : KE) : Option Bool := F v.1.1 v.1.2.1 v.1.2.2.1 v.2.1 (fun y0 => k .ret ⟨fillS 41 [2] [(.d ⟨(.int .i64), y0⟩)], [], 2⟩) (fun y0 y1 => k (.exit 2) ⟨fillS 41 [0, 3] [(.bv 0 49 Ty5 y0), (.d ⟨(.int .i64), y1⟩)], [], 2⟩)
theorem ref14_Check_L0_L2.step (S : T_ref14_Check_L0_L2) : ∀ v k, exR 50 Tryz.f50 2 ref14_Check_L0_L2.p [] [] [] (ref14_Check_L0_L2.g S) v k = ref14_Check_L0_L2.g (ref14_Check_L0_L2.body S) v k := fun v k => by kernel_rfl
theorem ref14_Check_L0_L2.ok : okL 50 Tryz.f50 0 2 ref14_Check_L0_L2.p (ref14_Check_L0_L2.g (ref14_Check_L0_L2 ROUNDS)) := loop2 (G := fun n => ref14_Check_L0_L2.g (ref14_Check_L0_L2 n)) (fun n => ref14_Check_L0_L2.step (ref14_Check_L0_L2 n)) .nil [] (by kernel_rfl) .nil (fun _ _ => rfl)
/-- function 50: the loop in block 0 -/
abbrev T_ref14_Check_L0 : Type := Tc2 → Int → (Int → Option Bool) → (Option Bool) → Option Bool
noncomputable def ref14_Check_L0.body (ref14_Check_L0 : T_ref14_Check_L0) (ref14_Next : T_ref14_Next) (ref14_Check_L0_L2 : T_ref14_Check_L0_L2) : T_ref14_Check_L0 := fun ts305 n306 k1 k2 =>
  (cond_ (decide (n306 < (List.length ts305 : Int))) (ref14_Next ts305 n306
  (fun ns316 => (ref14_Check_L0_L2 ts305 n306 (0 : Int) ns316
  (fun n321 => (k1 n321))
  (fun ts322 n323 => (ref14_Check_L0 ts322 (IntKind.wrap .i64 (n323 + (1 : Int))) k1 k2))))) (k2))
noncomputable def ref14_Check_L0 : Nat → T_ref14_Check_L0
  | 0 => fun _ _ _ _ => none
  | n + 1 => ref14_Check_L0.body (ref14_Check_L0 n) ref14_Next (ref14_Check_L0_L2 ROUNDS)
def ref14_Check_L0.p : LPat := lp 2 41 [0, 3] (pl (pb 0 49 Ty5) (pl (pd (.int .i64)) pz)) pz
def ref14_Check_L0.g (F : T_ref14_Check_L0) (v : ref14_Check_L0.p.T) (k : KE) : Option Bool := F v.1.1 v.1.2.1 (fun y0 => k .ret ⟨fillS 41 [2] [(.d ⟨(.int .i64), y0⟩)], [], 2⟩) (k (.exit 0) ⟨fillS 41 [] [], [], 2⟩)
theorem ref14_Check_L0.step (S : T_ref14_Check_L0) (F0 : T_ref14_Next) (L0 : T_ref14_Check_L0_L2) : ∀ v k, exR 50 Tryz.f50 0 ref14_Check_L0.p [⟨ref14_Next.p, ref14_Next.g F0⟩] [] [⟨2, ref14_Check_L0_L2.p, ref14_Check_L0_L2.g L0⟩] (ref14_Check_L0.g S) v k = ref14_Check_L0.g (ref14_Check_L0.body S F0 L0) v k := fun v k => by kernel_rfl
theorem ref14_Check_L0.ok : okL 50 Tryz.f50 4 0 ref14_Check_L0.p (ref14_Check_L0.g (ref14_Check_L0 ROUNDS)) := loop2 (G := fun n => ref14_Check_L0.g (ref14_Check_L0 n)) (fun n => ref14_Check_L0.step (ref14_Check_L0 n) ref14_Next (ref14_Check_L0_L2 ROUNDS)) (.cons ref14_Next.ok .nil) [2] (by kernel_rfl) (.cons ref14_Check_L0_L2.ok .nil) (fun _ _ => rfl)
/-- function 50: sheerleg/sheerlegref14.Check -/
abbrev T_ref14_Check : Type := Tc2 → (Int → Option Bool) → Option Bool
noncomputable def ref14_Check.body (ref14_Check_L0 : T_ref14_Check_L0) : T_ref14_Check := fun ts304 k1 =>
  (cond_ ((List.length ts304 : Int) == (0 : Int)) (k1 (3 : Int)) (cond_ (decide ((List.length ts304 : Int) > (64 : Int))) (k1 (6 : Int)) (ref14_Check_L0 ts304 (0 : Int)
  (fun n324 => (k1 n324))
  (k1 (0 : Int)))))
noncomputable def ref14_Check : T_ref14_Check := ref14_Check.body (ref14_Check_L0 ROUNDS)
def ref14_Check.p : FPat := fp 50 (pl (pb 0 49 Ty5) pz) pz
def ref14_Check.g (F : T_ref14_Check) (v : ref14_Check.p.T) (k : KR) : Option Bool := F v.1.1 (fun y0 => k (.d ⟨(.int .i64), y0⟩) [])
theorem ref14_Check.eq (L0 : T_ref14_Check_L0) : ∀ v k, exF Tryz.f50 ref14_Check.p [] [] [⟨0, ref14_Check_L0.p, ref14_Check_L0.g L0⟩] v k = ref14_Check.g (ref14_Check.body L0) v k := fun v k => by kernel_rfl
theorem ref14_Check.ok : okF 5 ref14_Check.p (ref14_Check.g ref14_Check) := fn2 (ref14_Check.eq (ref14_Check_L0 ROUNDS)) Tryz.func50 (by kernel_rfl) .nil [0] (by kernel_rfl) (.cons ref14_Check_L0.ok .nil)
/-- function 70: sheerleg/sheerlegref08.Operand -/
abbrev T_ref08_Operand : Type := Tc1 → Int → (Int → Option Bool) → Option Bool
noncomputable def ref08_Operand.body : T_ref08_Operand := fun t332 n333 k1 =>
  (cond_ (n333 == (0 : Int)) (k1 t332.2.1) (cond_ (n333 == (1 : Int)) (k1 t332.2.2.1) (cond_ (n333 == (2 : Int)) (k1 t332.2.2.2.1) (cond_ (n333 == (3 : Int)) (k1 t332.2.2.2.2.1) (k1 (0 : Int))))))
noncomputable def ref08_Operand : T_ref08_Operand := ref08_Operand.body
def ref08_Operand.p : FPat := fp 70 (pl (pd Ty5) (pl (pd (.int .i64)) pz)) pz
def ref08_Operand.g (F : T_ref08_Operand) (v : ref08_Operand.p.T) (k : KR) : Option Bool := F v.1.1 v.1.2.1 (fun y0 => k (.d ⟨(.int .i64), y0⟩) [])
theorem ref08_Operand.eq : ∀ v k, exF Tryz.f70 ref08_Operand.p [] [] [] v k = ref08_Operand.g (ref08_Operand.body) v k := fun v k => by kernel_rfl
theorem ref08_Operand.ok : okF 1 ref08_Operand.p (ref08_Operand.g ref08_Operand) := fn2 (ref08_Operand.eq) Tryz.func70 (by kernel_rfl) .nil [] (by kernel_rfl) .nil
/-- function 51: the loop in block 0 -/
abbrev T_ref08_Check_L0 : Type := Int → Tc1 → (Int → Option Bool) → (Tc1 → Option Bool) → Option Bool
noncomputable def ref08_Check_L0.body (ref08_Check_L0 : T_ref08_Check_L0) (ref08_Operand : T_ref08_Operand) : T_ref08_Check_L0 := fun n330 t331 k1 k2 =>
  (cond_ (decide (n330 < (3 : Int))) (ref08_Operand t331 n330
  (fun n334 => (cond_ (! (decide (n334 < (0 : Int)))) (ref08_Operand t331 n330
  (fun n335 => (cond_ (decide (n335 > (255 : Int))) (k1 (9 : Int)) (ref08_Check_L0 (IntKind.wrap .i64 (n330 + (1 : Int))) t331 k1 k2)))) (k1 (9 : Int))))) (k2 t331))
noncomputable def ref08_Check_L0 : Nat → T_ref08_Check_L0
  | 0 => fun _ _ _ _ => none
  | n + 1 => ref08_Check_L0.body (ref08_Check_L0 n) ref08_Operand
def ref08_Check_L0.p : LPat := lp 2 51 [1, 3] (ps (pq [1, 0] 0 0) (pl (pd (.int .i64)) pz)) (pl (po [1, 0] 49 5 (es Ty5 (pl eh pz))) pz)
def ref08_Check_L0.g (F : T_ref08_Check_L0) (v : ref08_Check_L0.p.T) (k : KE) : Option Bool := F v.1.1 v.2.1.1 (fun y0 => k .ret ⟨fillS 51 [2] [(.d ⟨(.int .i64), y0⟩)], [], 2⟩) (fun y0 => k (.exit 0) ⟨fillS 51 [1] [(.ptr [1, 0] 0 0)], [([1, 0], ⟨49, 5, (.data Ty5 [y0])⟩)], 2⟩)
theorem ref08_Check_L0.step (S : T_ref08_Check_L0) (F0 : T_ref08_Operand) : ∀ v k, exR 51 Tryz.f51 0 ref08_Check_L0.p [⟨ref08_Operand.p, ref08_Operand.g F0⟩] [] [] (ref08_Check_L0.g S) v k = ref08_Check_L0.g (ref08_Check_L0.body S F0) v k := fun v k => by kernel_rfl
theorem ref08_Check_L0.ok : okL 51 Tryz.f51 1 0 ref08_Check_L0.p (ref08_Check_L0.g (ref08_Check_L0 ROUNDS)) := loop2 (G := fun n => ref08_Check_L0.g (ref08_Check_L0 n)) (fun n => ref08_Check_L0.step (ref08_Check_L0 n) ref08_Operand) (.cons ref08_Operand.ok .nil) [] (by kernel_rfl) .nil (fun _ _ => rfl)
/-- function 71: sheerleg/sheerlegref07.Shape -/
abbrev T_ref07_Shape : Type := Int → (ByteArray → Option Bool) → Option Bool
noncomputable def ref07_Shape.body (ref07_Name : T_ref07_Name) : T_ref07_Shape := fun n338 k1 =>
  (cond_ (decide (n338 ≥ (4 : Int))) (cond_ (decide (n338 ≤ (10 : Int))) (k1 (⟨#[119, 114, 114, 45]⟩ : ByteArray)) (ref07_Name n338
  (fun s339 => (cond_ ((ByteArray.toList s339) == (ByteArray.toList (⟨#[110, 111, 112]⟩ : ByteArray))) (k1 (⟨#[45, 45, 45, 45]⟩ : ByteArray)) (cond_ ((ByteArray.toList s339) == (ByteArray.toList (⟨#[115, 101, 116]⟩ : ByteArray))) (k1 (⟨#[119, 45, 45, 110]⟩ : ByteArray)) (cond_ ((ByteArray.toList s339) == (ByteArray.toList (⟨#[109, 111, 118, 101]⟩ : ByteArray))) (cond_ ((ByteArray.toList s339) == (ByteArray.toList (⟨#[109, 111, 118, 101]⟩ : ByteArray))) (k1 (⟨#[119, 114, 45, 45]⟩ : ByteArray)) (cond_ ((ByteArray.toList s339) == (ByteArray.toList (⟨#[106, 117, 109, 112]⟩ : ByteArray))) (k1 (⟨#[45, 45, 45, 116]⟩ : ByteArray)) (cond_ ((ByteArray.toList s339) == (ByteArray.toList (⟨#[122, 101, 114, 111]⟩ : ByteArray))) (k1 (⟨#[114, 45, 45, 116]⟩ : ByteArray)) (cond_ ((ByteArray.toList s339) == (ByteArray.toList (⟨#[105, 110]⟩ : ByteArray))) (k1 (⟨#[119, 45, 45, 45]⟩ : ByteArray)) (cond_ ((ByteArray.toList s339) == (ByteArray.toList (⟨#[111, 117, 116]⟩ : ByteArray))) (cond_ ((ByteArray.toList s339) == (ByteArray.toList (⟨#[111, 117, 116]⟩ : ByteArray))) (k1 (⟨#[114, 45, 45, 45]⟩ : ByteArray)) (cond_ ((ByteArray.toList s339) == (ByteArray.toList (⟨#[115, 116, 111, 114, 101]⟩ : ByteArray))) (k1 (⟨#[114, 114, 45, 45]⟩ : ByteArray)) (cond_ ((ByteArray.toList s339) == (ByteArray.toList (⟨#[102, 117, 110, 99]⟩ : ByteArray))) (k1 (⟨#[103, 45, 45, 45]⟩ : ByteArray)) (cond_ ((ByteArray.toList s339) == (ByteArray.toList (⟨#[112, 105, 99, 107]⟩ : ByteArray))) (k1 (⟨#[103, 114, 45, 45]⟩ : ByteArray)) (cond_ ((ByteArray.toList s339) == (ByteArray.toList (⟨#[99, 97, 108, 108]⟩ : ByteArray))) (k1 (⟨#[99, 45, 45, 45]⟩ : ByteArray)) (cond_ ((ByteArray.toList s339) == (ByteArray.toList (⟨#[118, 105, 97]⟩ : ByteArray))) (k1 (⟨#[99, 102, 107, 45]⟩ : ByteArray)) (cond_ ((ByteArray.toList s339) == (ByteArray.toList (⟨#[100, 101, 102, 101, 114]⟩ : ByteArray))) (k1 (⟨#[100, 45, 45, 45]⟩ : ByteArray)) (cond_ ((ByteArray.toList s339) == (ByteArray.toList (⟨#[114, 101, 99, 111, 118, 101, 114]⟩ : ByteArray))) (k1 (⟨#[119, 119, 45, 45]⟩ : ByteArray)) (cond_ ((ByteArray.toList s339) == (ByteArray.toList (⟨#[114, 101, 116, 117, 114, 110]⟩ : ByteArray))) (k1 (⟨#[118, 45, 45, 45]⟩ : ByteArray)) (k1 (⟨#[]⟩ : ByteArray))))))))))) (cond_ ((ByteArray.toList s339) == (ByteArray.toList (⟨#[112, 97, 110, 105, 99]⟩ : ByteArray))) (k1 (⟨#[114, 45, 45, 45]⟩ : ByteArray)) (cond_ ((ByteArray.toList s339) == (ByteArray.toList (⟨#[115, 116, 111, 114, 101]⟩ : ByteArray))) (k1 (⟨#[114, 114, 45, 45]⟩ : ByteArray)) (cond_ ((ByteArray.toList s339) == (ByteArray.toList (⟨#[102, 117, 110, 99]⟩ : ByteArray))) (k1 (⟨#[103, 45, 45, 45]⟩ : ByteArray)) (cond_ ((ByteArray.toList s339) == (ByteArray.toList (⟨#[112, 105, 99, 107]⟩ : ByteArray))) (k1 (⟨#[103, 114, 45, 45]⟩ : ByteArray)) (cond_ ((ByteArray.toList s339) == (ByteArray.toList (⟨#[99, 97, 108, 108]⟩ : ByteArray))) (k1 (⟨#[99, 45, 45, 45]⟩ : ByteArray)) (cond_ ((ByteArray.toList s339) == (ByteArray.toList (⟨#[118, 105, 97]⟩ : ByteArray))) (k1 (⟨#[99, 102, 107, 45]⟩ : ByteArray)) (cond_ ((ByteArray.toList s339) == (ByteArray.toList (⟨#[100, 101, 102, 101, 114]⟩ : ByteArray))) (k1 (⟨#[100, 45, 45, 45]⟩ : ByteArray)) (cond_ ((ByteArray.toList s339) == (ByteArray.toList (⟨#[114, 101, 99, 111, 118, 101, 114]⟩ : ByteArray))) (k1 (⟨#[119, 119, 45, 45]⟩ : ByteArray)) (cond_ ((ByteArray.toList s339) == (ByteArray.toList (⟨#[114, 101, 116, 117, 114, 110]⟩ : ByteArray))) (k1 (⟨#[118, 45, 45, 45]⟩ : ByteArray)) (k1 (⟨#[]⟩ : ByteArray)))))))))))))))) (cond_ ((ByteArray.toList s339) == (ByteArray.toList (⟨#[108, 111, 97, 100]⟩ : ByteArray))) (k1 (⟨#[119, 114, 45, 45]⟩ : ByteArray)) (cond_ ((ByteArray.toList s339) == (ByteArray.toList (⟨#[106, 117, 109, 112]⟩ : ByteArray))) (k1 (⟨#[45, 45, 45, 116]⟩ : ByteArray)) (cond_ ((ByteArray.toList s339) == (ByteArray.toList (⟨#[122, 101, 114, 111]⟩ : ByteArray))) (k1 (⟨#[114, 45, 45, 116]⟩ : ByteArray)) (cond_ ((ByteArray.toList s339) == (ByteArray.toList (⟨#[105, 110]⟩ : ByteArray))) (k1 (⟨#[119, 45, 45, 45]⟩ : ByteArray)) (cond_ ((ByteArray.toList s339) == (ByteArray.toList (⟨#[111, 117, 116]⟩ : ByteArray))) (cond_ ((ByteArray.toList s339) == (ByteArray.toList (⟨#[111, 117, 116]⟩ : ByteArray))) (k1 (⟨#[114, 45, 45, 45]⟩ : ByteArray)) (cond_ ((ByteArray.toList s339) == (ByteArray.toList (⟨#[115, 116, 111, 114, 101]⟩ : ByteArray))) (k1 (⟨#[114, 114, 45, 45]⟩ : ByteArray)) (cond_ ((ByteArray.toList s339) == (ByteArray.toList (⟨#[102, 117, 110, 99]⟩ : ByteArray))) (k1 (⟨#[103, 45, 45, 45]⟩ : ByteArray)) (cond_ ((ByteArray.toList s339) == (ByteArray.toList (⟨#[112, 105, 99, 107]⟩ : ByteArray))) (k1 (⟨#[103, 114, 45, 45]⟩ : ByteArray)) (cond_ ((ByteArray.toList s339) == (ByteArray.toList (⟨#[99, 97, 108, 108]⟩ : ByteArray))) (k1 (⟨#[99, 45, 45, 45]⟩ : ByteArray)) (cond_ ((ByteArray.toList s339) == (ByteArray.toList (⟨#[118, 105, 97]⟩ : ByteArray))) (k1 (⟨#[99, 102, 107, 45]⟩ : ByteArray)) (cond_ ((ByteArray.toList s339) == (ByteArray.toList (⟨#[100, 101, 102, 101, 114]⟩ : ByteArray))) (k1 (⟨#[100, 45, 45, 45]⟩ : ByteArray)) (cond_ ((ByteArray.toList s339) == (ByteArray.toList (⟨#[114, 101, 99, 111, 118, 101, 114]⟩ : ByteArray))) (k1 (⟨#[119, 119, 45, 45]⟩ : ByteArray)) (cond_ ((ByteArray.toList s339) == (ByteArray.toList (⟨#[114, 101, 116, 117, 114, 110]⟩ : ByteArray))) (k1 (⟨#[118, 45, 45, 45]⟩ : ByteArray)) (k1 (⟨#[]⟩ : ByteArray))))))))))) (cond_ ((ByteArray.toList s339) == (ByteArray.toList (⟨#[112, 97, 110, 105, 99]⟩ : ByteArray))) (k1 (⟨#[114, 45, 45, 45]⟩ : ByteArray)) (cond_ ((ByteArray.toList s339) == (ByteArray.toList (⟨#[115, 116, 111, 114, 101]⟩ : ByteArray))) (k1 (⟨#[114, 114, 45, 45]⟩ : ByteArray)) (cond_ ((ByteArray.toList s339) == (ByteArray.toList (⟨#[102, 117, 110, 99]⟩ : ByteArray))) (k1 (⟨#[103, 45, 45, 45]⟩ : ByteArray)) (cond_ ((ByteArray.toList s339) == (ByteArray.toList (⟨#[112, 105, 99, 107]⟩ : ByteArray))) (k1 (⟨#[103, 114, 45, 45]⟩ : ByteArray)) (cond_ ((ByteArray.toList s339) == (ByteArray.toList (⟨#[99, 97, 108, 108]⟩ : ByteArray))) (k1 (⟨#[99, 45, 45, 45]⟩ : ByteArray)) (cond_ ((ByteArray.toList s339) == (ByteArray.toList (⟨#[118, 105, 97]⟩ : ByteArray))) (k1 (⟨#[99, 102, 107, 45]⟩ : ByteArray)) (cond_ ((ByteArray.toList s339) == (ByteArray.toList (⟨#[100, 101, 102, 101, 114]⟩ : ByteArray))) (k1 (⟨#[100, 45, 45, 45]⟩ : ByteArray)) (cond_ ((ByteArray.toList s339) == (ByteArray.toList (⟨#[114, 101, 99, 111, 118, 101, 114]⟩ : ByteArray))) (k1 (⟨#[119, 119, 45, 45]⟩ : ByteArray)) (cond_ ((ByteArray.toList s339) == (ByteArray.toList (⟨#[114, 101, 116, 117, 114, 110]⟩ : ByteArray))) (k1 (⟨#[118, 45, 45, 45]⟩ : ByteArray)) (k1 (⟨#[]⟩ : ByteArray)))))))))))))))))))))) (ref07_Name n338
  (fun s340 => (cond_ ((ByteArray.toList s340) == (ByteArray.toList (⟨#[110, 111, 112]⟩ : ByteArray))) (k1 (⟨#[45, 45, 45, 45]⟩ : ByteArray)) (cond_ ((ByteArray.toList s340) == (ByteArray.toList (⟨#[115, 101, 116]⟩ : ByteArray))) (k1 (⟨#[119, 45, 45, 110]⟩ : ByteArray)) (cond_ ((ByteArray.toList s340) == (ByteArray.toList (⟨#[109, 111, 118, 101]⟩ : ByteArray))) (cond_ ((ByteArray.toList s340) == (ByteArray.toList (⟨#[109, 111, 118, 101]⟩ : ByteArray))) (k1 (⟨#[119, 114, 45, 45]⟩ : ByteArray)) (cond_ ((ByteArray.toList s340) == (ByteArray.toList (⟨#[106, 117, 109, 112]⟩ : ByteArray))) (k1 (⟨#[45, 45, 45, 116]⟩ : ByteArray)) (cond_ ((ByteArray.toList s340) == (ByteArray.toList (⟨#[122, 101, 114, 111]⟩ : ByteArray))) (k1 (⟨#[114, 45, 45, 116]⟩ : ByteArray)) (cond_ ((ByteArray.toList s340) == (ByteArray.toList (⟨#[105, 110]⟩ : ByteArray))) (k1 (⟨#[119, 45, 45, 45]⟩ : ByteArray)) (cond_ ((ByteArray.toList s340) == (ByteArray.toList (⟨#[111, 117, 116]⟩ : ByteArray))) (cond_ ((ByteArray.toList s340) == (ByteArray.toList (⟨#[111, 117, 116]⟩ : ByteArray))) (k1 (⟨#[114, 45, 45, 45]⟩ : ByteArray)) (cond_ ((ByteArray.toList s340) == (ByteArray.toList (⟨#[115, 116, 111, 114, 101]⟩ : ByteArray))) (k1 (⟨#[114, 114, 45, 45]⟩ : ByteArray)) (cond_ ((ByteArray.toList s340) == (ByteArray.toList (⟨#[102, 117, 110, 99]⟩ : ByteArray))) (k1 (⟨#[103, 45, 45, 45]⟩ : ByteArray)) (cond_ ((ByteArray.toList s340) == (ByteArray.toList (⟨#[112, 105, 99, 107]⟩ : ByteArray))) (k1 (⟨#[103, 114, 45, 45]⟩ : ByteArray)) (cond_ ((ByteArray.toList s340) == (ByteArray.toList (⟨#[99, 97, 108, 108]⟩ : ByteArray))) (k1 (⟨#[99, 45, 45, 45]⟩ : ByteArray)) (cond_ ((ByteArray.toList s340) == (ByteArray.toList (⟨#[118, 105, 97]⟩ : ByteArray))) (k1 (⟨#[99, 102, 107, 45]⟩ : ByteArray)) (cond_ ((ByteArray.toList s340) == (ByteArray.toList (⟨#[100, 101, 102, 101, 114]⟩ : ByteArray))) (k1 (⟨#[100, 45, 45, 45]⟩ : ByteArray)) (cond_ ((ByteArray.toList s340) == (ByteArray.toList (⟨#[114, 101, 99, 111, 118, 101, 114]⟩ : ByteArray))) (k1 (⟨#[119, 119, 45, 45]⟩ : ByteArray)) (cond_ ((ByteArray.toList s340) == (ByteArray.toList (⟨#[114, 101, 116, 117, 114, 110]⟩ : ByteArray))) (k1 (⟨#[118, 45, 45, 45]⟩ : ByteArray)) (k1 (⟨#[]⟩ : ByteArray))))))))))) (cond_ ((ByteArray.toList s340) == (ByteArray.toList (⟨#[112, 97, 110, 105, 99]⟩ : ByteArray))) (k1 (⟨#[114, 45, 45, 45]⟩ : ByteArray)) (cond_ ((ByteArray.toList s340) == (ByteArray.toList (⟨#[115, 116, 111, 114, 101]⟩ : ByteArray))) (k1 (⟨#[114, 114, 45, 45]⟩ : ByteArray)) (cond_ ((ByteArray.toList s340) == (ByteArray.toList (⟨#[102, 117, 110, 99]⟩ : ByteArray))) (k1 (⟨#[103, 45, 45, 45]⟩ : ByteArray)) (cond_ ((ByteArray.toList s340) == (ByteArray.toList (⟨#[112, 105, 99, 107]⟩ : ByteArray))) (k1 (⟨#[103, 114, 45, 45]⟩ : ByteArray)) (cond_ ((ByteArray.toList s340) == (ByteArray.toList (⟨#[99, 97, 108, 108]⟩ : ByteArray))) (k1 (⟨#[99, 45, 45, 45]⟩ : ByteArray)) (cond_ ((ByteArray.toList s340) == (ByteArray.toList (⟨#[118, 105, 97]⟩ : ByteArray))) (k1 (⟨#[99, 102, 107, 45]⟩ : ByteArray)) (cond_ ((ByteArray.toList s340) == (ByteArray.toList (⟨#[100, 101, 102, 101, 114]⟩ : ByteArray))) (k1 (⟨#[100, 45, 45, 45]⟩ : ByteArray)) (cond_ ((ByteArray.toList s340) == (ByteArray.toList (⟨#[114, 101, 99, 111, 118, 101, 114]⟩ : ByteArray))) (k1 (⟨#[119, 119, 45, 45]⟩ : ByteArray)) (cond_ ((ByteArray.toList s340) == (ByteArray.toList (⟨#[114, 101, 116, 117, 114, 110]⟩ : ByteArray))) (k1 (⟨#[118, 45, 45, 45]⟩ : ByteArray)) (k1 (⟨#[]⟩ : ByteArray)))))))))))))))) (cond_ ((ByteArray.toList s340) == (ByteArray.toList (⟨#[108, 111, 97, 100]⟩ : ByteArray))) (k1 (⟨#[119, 114, 45, 45]⟩ : ByteArray)) (cond_ ((ByteArray.toList s340) == (ByteArray.toList (⟨#[106, 117, 109, 112]⟩ : ByteArray))) (k1 (⟨#[45, 45, 45, 116]⟩ : ByteArray)) (cond_ ((ByteArray.toList s340) == (ByteArray.toList (⟨#[122, 101, 114, 111]⟩ : ByteArray))) (k1 (⟨#[114, 45, 45, 116]⟩ : ByteArray)) (cond_ ((ByteArray.toList s340) == (ByteArray.toList (⟨#[105, 110]⟩ : ByteArray))) (k1 (⟨#[119, 45, 45, 45]⟩ : ByteArray)) (cond_ ((ByteArray.toList s340) == (ByteArray.toList (⟨#[111, 117, 116]⟩ : ByteArray))) (cond_ ((ByteArray.toList s340) == (ByteArray.toList (⟨#[111, 117, 116]⟩ : ByteArray))) (k1 (⟨#[114, 45, 45, 45]⟩ : ByteArray)) (cond_ ((ByteArray.toList s340) == (ByteArray.toList (⟨#[115, 116, 111, 114, 101]⟩ : ByteArray))) (k1 (⟨#[114, 114, 45, 45]⟩ : ByteArray)) (cond_ ((ByteArray.toList s340) == (ByteArray.toList (⟨#[102, 117, 110, 99]⟩ : ByteArray))) (k1 (⟨#[103, 45, 45, 45]⟩ : ByteArray)) (cond_ ((ByteArray.toList s340) == (ByteArray.toList (⟨#[112, 105, 99, 107]⟩ : ByteArray))) (k1 (⟨#[103, 114, 45, 45]⟩ : ByteArray)) (cond_ ((ByteArray.toList s340) == (ByteArray.toList (⟨#[99, 97, 108, 108]⟩ : ByteArray))) (k1 (⟨#[99, 45, 45, 45]⟩ : ByteArray)) (cond_ ((ByteArray.toList s340) == (ByteArray.toList (⟨#[118, 105, 97]⟩ : ByteArray))) (k1 (⟨#[99, 102, 107, 45]⟩ : ByteArray)) (cond_ ((ByteArray.toList s340) == (ByteArray.toList (⟨#[100, 101, 102, 101, 114]⟩ : ByteArray))) (k1 (⟨#[100, 45, 45, 45]⟩ : ByteArray)) (cond_ ((ByteArray.toList s340) == (ByteArray.toList (⟨#[114, 101, 99, 111, 118, 101, 114]⟩ : ByteArray))) (k1 (⟨#[119, 119, 45, 45]⟩ : ByteArray)) (cond_ ((ByteArray.toList s340) == (ByteArray.toList (⟨#[114, 101, 116, 117, 114, 110]⟩ : ByteArray))) (k1 (⟨#[118, 45, 45, 45]⟩ : ByteArray)) (k1 (⟨#[]⟩ : ByteArray))))))))))) (cond_ ((ByteArray.toList s340) == (ByteArray.toList (⟨#[112, 97, 110, 105, 99]⟩ : ByteArray))) (k1 (⟨#[114, 45, 45, 45]⟩ : ByteArray)) (cond_ ((ByteArray.toList s340) == (ByteArray.toList (⟨#[115, 116, 111, 114, 101]⟩ : ByteArray))) (k1 (⟨#[114, 114, 45, 45]⟩ : ByteArray)) (cond_ ((ByteArray.toList s340) == (ByteArray.toList (⟨#[102, 117, 110, 99]⟩ : ByteArray))) (k1 (⟨#[103, 45, 45, 45]⟩ : ByteArray)) (cond_ ((ByteArray.toList s340) == (ByteArray.toList (⟨#[112, 105, 99, 107]⟩ : ByteArray))) (k1 (⟨#[103, 114, 45, 45]⟩ : ByteArray)) (cond_ ((ByteArray.toList s340) == (ByteArray.toList (⟨#[99, 97, 108, 108]⟩ : ByteArray))) (k1 (⟨#[99, 45, 45, 45]⟩ : ByteArray)) (cond_ ((ByteArray.toList s340) == (ByteArray.toList (⟨#[118, 105, 97]⟩ : ByteArray))) (k1 (⟨#[99, 102, 107, 45]⟩ : ByteArray)) (cond_ ((ByteArray.toList s340) == (ByteArray.toList (⟨#[100, 101, 102, 101, 114]⟩ : ByteArray))) (k1 (⟨#[100, 45, 45, 45]⟩ : ByteArray)) (cond_ ((ByteArray.toList s340) == (ByteArray.toList (⟨#[114, 101, 99, 111, 118, 101, 114]⟩ : ByteArray))) (k1 (⟨#[119, 119, 45, 45]⟩ : ByteArray)) (cond_ ((ByteArray.toList s340) == (ByteArray.toList (⟨#[114, 101, 116, 117, 114, 110]⟩ : ByteArray))) (k1 (⟨#[118, 45, 45, 45]⟩ : ByteArray)) (k1 (⟨#[]⟩ : ByteArray))))))))))))))))))))))
noncomputable def ref07_Shape : T_ref07_Shape := ref07_Shape.body ref07_Name
def ref07_Shape.p : FPat := fp 71 (pl (pd (.int .i64)) pz) pz
def ref07_Shape.g (F : T_ref07_Shape) (v : ref07_Shape.p.T) (k : KR) : Option Bool := F v.1.1 (fun y0 => k (.d ⟨.str, y0⟩) [])
theorem ref07_Shape.eq (F0 : T_ref07_Name) : ∀ v k, exF Tryz.f71 ref07_Shape.p [⟨ref07_Name.p, ref07_Name.g F0⟩] [] [] v k = ref07_Shape.g (ref07_Shape.body F0) v k := fun v k => by kernel_rfl
theorem ref07_Shape.ok : okF 3 ref07_Shape.p (ref07_Shape.g ref07_Shape) := fn2 (ref07_Shape.eq ref07_Name) Tryz.func71 (by kernel_rfl) (.cons ref07_Name.ok .nil) [] (by kernel_rfl) .nil
/-- function 51: the loop in block 2 -/
abbrev T_ref08_Check_L2 : Type := ByteArray → Int → Tc1 → (Int → Option Bool) → (Option Bool) → Option Bool
noncomputable def ref08_Check_L2.body (ref08_Check_L2 : T_ref08_Check_L2) (ref08_Operand : T_ref08_Operand) : T_ref08_Check_L2 := fun s342 n343 t344 k1 k2 =>
  (cond_ (decide (n343 < (((ByteArray.size s342) : Nat) : Int))) (cond_ ((decide ((0 : Int) ≤ n343)) && (decide (n343 < (((ByteArray.size s342) : Nat) : Int)))) (cond_ ((((UInt8.toNat (List.getD (Array.toList (ByteArray.data s342)) (Int.toNat n343) (0 : UInt8))) : Nat) : Int) == (45 : Int)) (ref08_Operand t344 n343
  (fun n345 => (cond_ (n345 != (0 : Int)) (k1 (2 : Int)) (ref08_Check_L2 s342 (IntKind.wrap .i64 (n343 + (1 : Int))) t344 k1 k2)))) (ref08_Check_L2 s342 (IntKind.wrap .i64 (n343 + (1 : Int))) t344 k1 k2)) none) (k2))
noncomputable def ref08_Check_L2 : Nat → T_ref08_Check_L2
  | 0 => fun _ _ _ _ _ => none
  | n + 1 => ref08_Check_L2.body (ref08_Check_L2 n) ref08_Operand
def ref08_Check_L2.p : LPat := lp 2 51 [1, 4, 5] (ps (pq [1, 0] 0 0) (pl (pd .str) (pl (pd (.int .i64)) pz))) (pl (po [1, 0] 49 5 (es Ty5 (pl eh pz))) pz)
def ref08_Check_L2.g (F : T_ref08_Check_L2) (v : ref08_Check_L2.p.T) (k : KE) : Option Bool := F v.1.1 v.1.2.1 v.2.1.1 (fun y0 => k .ret ⟨fillS 51 [2] [(.d ⟨(.int .i64), y0⟩)], [], 2⟩) (k (.exit 2) ⟨fillS 51 [] [], [], 2⟩)
theorem ref08_Check_L2.step (S : T_ref08_Check_L2) (F0 : T_ref08_Operand) : ∀ v k, exR 51 Tryz.f51 2 ref08_Check_L2.p [⟨ref08_Operand.p, ref08_Operand.g F0⟩] [] [] (ref08_Check_L2.g S) v k = ref08_Check_L2.g (ref08_Check_L2.body S F0) v k := fun v k => by kernel_rfl
theorem ref08_Check_L2.ok : okL 51 Tryz.f51 1 2 ref08_Check_L2.p (ref08_Check_L2.g (ref08_Check_L2 ROUNDS)) := loop2 (G := fun n => ref08_Check_L2.g (ref08_Check_L2 n)) (fun n => ref08_Check_L2.step (ref08_Check_L2 n) ref08_Operand) (.cons ref08_Operand.ok .nil) [] (by kernel_rfl) .nil (fun _ _ => rfl)
/-- function 51: sheerleg/sheerlegref08.Check -/
abbrev T_ref08_Check : Type := Tc1 → (Int → Option Bool) → Option Bool
noncomputable def ref08_Check.body (ref07_Name : T_ref07_Name) (ref07_Shape : T_ref07_Shape) (ref08_Check_L0 : T_ref08_Check_L0) (ref08_Check_L2 : T_ref08_Check_L2) : T_ref08_Check := fun t328 k1 =>
  (ref07_Name t328.1
  (fun s329 => (cond_ ((ByteArray.toList s329) == (ByteArray.toList (⟨#[]⟩ : ByteArray))) (k1 (8 : Int)) (ref08_Check_L0 (0 : Int) t328
  (fun n336 => (k1 n336))
  (fun t337 => (cond_ (! (decide (t337.2.2.2.2.1 < (-2147483648 : Int)))) (cond_ (decide (t337.2.2.2.2.1 > (2147483647 : Int))) (k1 (9 : Int)) (ref07_Shape t337.1
  (fun s341 => (ref08_Check_L2 s341 (0 : Int) t337
  (fun n346 => (k1 n346))
  (k1 (0 : Int)))))) (k1 (9 : Int))))))))
noncomputable def ref08_Check : T_ref08_Check := ref08_Check.body ref07_Name ref07_Shape (ref08_Check_L0 ROUNDS) (ref08_Check_L2 ROUNDS)
def ref08_Check.p : FPat := fp 51 (pl (pd Ty5) pz) pz
def ref08_Check.g (F : T_ref08_Check) (v : ref08_Check.p.T) (k : KR) : Option Bool := F v.1.1 (fun y0 => k (.d ⟨(.int .i64), y0⟩) [])
theorem ref08_Check.eq (F0 : T_ref07_Name) (F1 : T_ref07_Shape) (L0 : T_ref08_Check_L0) (L1 : T_ref08_Check_L2) : ∀ v k, exF Tryz.f51 ref08_Check.p [⟨ref07_Name.p, ref07_Name.g F0⟩, ⟨ref07_Shape.p, ref07_Shape.g F1⟩] [] [⟨0, ref08_Check_L0.p, ref08_Check_L0.g L0⟩, ⟨2, ref08_Check_L2.p, ref08_Check_L2.g L1⟩] v k = ref08_Check.g (ref08_Check.body F0 F1 L0 L1) v k := fun v k => by kernel_rfl
theorem ref08_Check.ok : okF 4 ref08_Check.p (ref08_Check.g ref08_Check) := fn2 (ref08_Check.eq ref07_Name ref07_Shape (ref08_Check_L0 ROUNDS) (ref08_Check_L2 ROUNDS)) Tryz.func51 (by kernel_rfl) (.cons ref07_Name.ok (.cons ref07_Shape.ok .nil)) [0, 2] (by kernel_rfl) (.cons ref08_Check_L0.ok (.cons ref08_Check_L2.ok .nil))
/-- function 52: sheerleg/sheerlegref07.Own -/
abbrev T_ref07_Own : Type := Int → (Bool → Option Bool) → Option Bool
noncomputable def ref07_Own.body : T_ref07_Own := fun n348 k1 =>
  (cond_ (decide (n348 ≥ (1 : Int))) (k1 (decide (n348 ≤ (24 : Int)))) (k1 false))
noncomputable def ref07_Own : T_ref07_Own := ref07_Own.body
def ref07_Own.p : FPat := fp 52 (pl (pd (.int .i64)) pz) pz
def ref07_Own.g (F : T_ref07_Own) (v : ref07_Own.p.T) (k : KR) : Option Bool := F v.1.1 (fun y0 => k (.d ⟨.bool, y0⟩) [])
theorem ref07_Own.eq : ∀ v k, exF Tryz.f52 ref07_Own.p [] [] [] v k = ref07_Own.g (ref07_Own.body) v k := fun v k => by kernel_rfl
theorem ref07_Own.ok : okF 1 ref07_Own.p (ref07_Own.g ref07_Own) := fn2 (ref07_Own.eq) Tryz.func52 (by kernel_rfl) .nil [] (by kernel_rfl) .nil
/-- function 22: the loop in block 0 -/
abbrev T_ref16_code_L0 : Type := Int → Tc3 → (Int → Option Bool) → (Option Bool) → Option Bool
noncomputable def ref16_code_L0.body (ref16_code_L0 : T_ref16_code_L0) (ref08_Check : T_ref08_Check) (ref07_Own : T_ref07_Own) : T_ref16_code_L0 := fun n326 t327 k1 k2 =>
  (cond_ (decide (n326 < (((List.length t327.2.2.2.2.2.2.2.1) : Nat) : Int))) (cond_ ((decide ((0 : Int) ≤ n326)) && (decide (n326 < (((List.length t327.2.2.2.2.2.2.2.1) : Nat) : Int)))) (ref08_Check (List.getD t327.2.2.2.2.2.2.2.1 (Int.toNat n326) (0, (0, (0, (0, (0, ()))))))
  (fun n347 => (cond_ (n347 != (0 : Int)) (k1 n347) (cond_ ((decide ((0 : Int) ≤ n326)) && (decide (n326 < (((List.length t327.2.2.2.2.2.2.2.1) : Nat) : Int)))) (ref07_Own (List.getD t327.2.2.2.2.2.2.2.1 (Int.toNat n326) (0, (0, (0, (0, (0, ())))))).1
  (fun b349 => (cond_ (! b349) (k1 (8 : Int)) (ref16_code_L0 (IntKind.wrap .i64 (n326 + (1 : Int))) t327 k1 k2)))) none)))) none) (k2))
noncomputable def ref16_code_L0 : Nat → T_ref16_code_L0
  | 0 => fun _ _ _ _ => none
  | n + 1 => ref16_code_L0.body (ref16_code_L0 n) ref08_Check ref07_Own
def ref16_code_L0.p : LPat := lp 2 36 [1, 4] (ps (pq [1, 0] 0 0) (pl (pd (.int .i64)) pz)) (pl (po [1, 0] 27 9 (es Ty7 (pl eh pz))) pz)
def ref16_code_L0.g (F : T_ref16_code_L0) (v : ref16_code_L0.p.T) (k : KE) : Option Bool := F v.1.1 v.2.1.1 (fun y0 => k .ret ⟨fillS 36 [2] [(.d ⟨(.int .i64), y0⟩)], [], 2⟩) (k (.exit 0) ⟨fillS 36 [] [], [], 2⟩)
theorem ref16_code_L0.step (S : T_ref16_code_L0) (F0 : T_ref08_Check) (F1 : T_ref07_Own) : ∀ v k, exR 22 Tryz.f22 0 ref16_code_L0.p [⟨ref08_Check.p, ref08_Check.g F0⟩, ⟨ref07_Own.p, ref07_Own.g F1⟩] [] [] (ref16_code_L0.g S) v k = ref16_code_L0.g (ref16_code_L0.body S F0 F1) v k := fun v k => by kernel_rfl
theorem ref16_code_L0.ok : okL 22 Tryz.f22 4 0 ref16_code_L0.p (ref16_code_L0.g (ref16_code_L0 ROUNDS)) := loop2 (G := fun n => ref16_code_L0.g (ref16_code_L0 n)) (fun n => ref16_code_L0.step (ref16_code_L0 n) ref08_Check ref07_Own) (.cons ref08_Check.ok (.cons ref07_Own.ok .nil)) [] (by kernel_rfl) .nil (fun _ _ => rfl)
/-- function 22: sheerleg/sheerlegref16.code -/
abbrev T_ref16_code : Type := Tc3 → (Int → Option Bool) → Option Bool
noncomputable def ref16_code.body (ref14_Check : T_ref14_Check) (ref16_code_L0 : T_ref16_code_L0) : T_ref16_code := fun t303 k1 =>
  (ref14_Check t303.2.2.2.2.2.2.2.1
  (fun n325 => (cond_ (n325 != (0 : Int)) (k1 n325) (ref16_code_L0 (0 : Int) t303
  (fun n350 => (k1 n350))
  (k1 (0 : Int))))))
noncomputable def ref16_code : T_ref16_code := ref16_code.body ref14_Check (ref16_code_L0 ROUNDS)
def ref16_code.p : FPat := fp 22 (pl (pd Ty7) pz) pz
def ref16_code.g (F : T_ref16_code) (v : ref16_code.p.T) (k : KR) : Option Bool := F v.1.1 (fun y0 => k (.d ⟨(.int .i64), y0⟩) [])
theorem ref16_code.eq (F0 : T_ref14_Check) (L0 : T_ref16_code_L0) : ∀ v k, exF Tryz.f22 ref16_code.p [⟨ref14_Check.p, ref14_Check.g F0⟩] [] [⟨0, ref16_code_L0.p, ref16_code_L0.g L0⟩] v k = ref16_code.g (ref16_code.body F0 L0) v k := fun v k => by kernel_rfl
theorem ref16_code.ok : okF 6 ref16_code.p (ref16_code.g ref16_code) := fn2 (ref16_code.eq ref14_Check (ref16_code_L0 ROUNDS)) Tryz.func22 (by kernel_rfl) (.cons ref14_Check.ok .nil) [0] (by kernel_rfl) (.cons ref16_code_L0.ok .nil)
/-- function 23: the loop in block 0 -/
abbrev T_ref16_lines_L0 : Type := Int → Tc3 → (Int → Option Bool) → (Option Bool) → Option Bool
noncomputable def ref16_lines_L0.body (ref16_lines_L0 : T_ref16_lines_L0) : T_ref16_lines_L0 := fun n353 t354 k1 k2 =>
  (cond_ (decide (n353 < (((List.length t354.2.2.2.2.2.2.1) : Nat) : Int))) (cond_ ((decide ((0 : Int) ≤ n353)) && (decide (n353 < (((List.length t354.2.2.2.2.2.2.1) : Nat) : Int)))) (cond_ (n353 == (0 : Int)) (cond_ (! ((List.getD t354.2.2.2.2.2.2.1 (Int.toNat n353) (0, (0, ()))).1 != (0 : Int))) (cond_ (! (decide ((List.getD t354.2.2.2.2.2.2.1 (Int.toNat n353) (0, (0, ()))).1 < (0 : Int)))) (cond_ (! (decide ((List.getD t354.2.2.2.2.2.2.1 (Int.toNat n353) (0, (0, ()))).1 ≥ (((List.length t354.2.2.2.2.2.2.2.1) : Nat) : Int)))) (cond_ (decide (n353 > (0 : Int))) (cond_ ((decide ((0 : Int) ≤ (IntKind.wrap .i64 (n353 - (1 : Int))))) && (decide ((IntKind.wrap .i64 (n353 - (1 : Int))) < (((List.length t354.2.2.2.2.2.2.1) : Nat) : Int)))) (cond_ (! (decide ((List.getD t354.2.2.2.2.2.2.1 (Int.toNat n353) (0, (0, ()))).1 ≤ (List.getD t354.2.2.2.2.2.2.1 (Int.toNat (IntKind.wrap .i64 (n353 - (1 : Int)))) (0, (0, ()))).1))) (cond_ (! (decide ((List.getD t354.2.2.2.2.2.2.1 (Int.toNat n353) (0, (0, ()))).2.1 < (0 : Int)))) (cond_ (decide ((List.getD t354.2.2.2.2.2.2.1 (Int.toNat n353) (0, (0, ()))).2.1 > (65535 : Int))) (k1 (9 : Int)) (ref16_lines_L0 (IntKind.wrap .i64 (n353 + (1 : Int))) t354 k1 k2)) (k1 (9 : Int))) (k1 (9 : Int))) none) (cond_ (! (decide ((List.getD t354.2.2.2.2.2.2.1 (Int.toNat n353) (0, (0, ()))).2.1 < (0 : Int)))) (cond_ (decide ((List.getD t354.2.2.2.2.2.2.1 (Int.toNat n353) (0, (0, ()))).2.1 > (65535 : Int))) (k1 (9 : Int)) (ref16_lines_L0 (IntKind.wrap .i64 (n353 + (1 : Int))) t354 k1 k2)) (k1 (9 : Int)))) (k1 (9 : Int))) (k1 (9 : Int))) (k1 (9 : Int))) (cond_ (! (decide ((List.getD t354.2.2.2.2.2.2.1 (Int.toNat n353) (0, (0, ()))).1 < (0 : Int)))) (cond_ (! (decide ((List.getD t354.2.2.2.2.2.2.1 (Int.toNat n353) (0, (0, ()))).1 ≥ (((List.length t354.2.2.2.2.2.2.2.1) : Nat) : Int)))) (cond_ (decide (n353 > (0 : Int))) (cond_ ((decide ((0 : Int) ≤ (IntKind.wrap .i64 (n353 - (1 : Int))))) && (decide ((IntKind.wrap .i64 (n353 - (1 : Int))) < (((List.length t354.2.2.2.2.2.2.1) : Nat) : Int)))) (cond_ (! (decide ((List.getD t354.2.2.2.2.2.2.1 (Int.toNat n353) (0, (0, ()))).1 ≤ (List.getD t354.2.2.2.2.2.2.1 (Int.toNat (IntKind.wrap .i64 (n353 - (1 : Int)))) (0, (0, ()))).1))) (cond_ (! (decide ((List.getD t354.2.2.2.2.2.2.1 (Int.toNat n353) (0, (0, ()))).2.1 < (0 : Int)))) (cond_ (decide ((List.getD t354.2.2.2.2.2.2.1 (Int.toNat n353) (0, (0, ()))).2.1 > (65535 : Int))) (k1 (9 : Int)) (ref16_lines_L0 (IntKind.wrap .i64 (n353 + (1 : Int))) t354 k1 k2)) (k1 (9 : Int))) (k1 (9 : Int))) none) (cond_ (! (decide ((List.getD t354.2.2.2.2.2.2.1 (Int.toNat n353) (0, (0, ()))).2.1 < (0 : Int)))) (cond_ (decide ((List.getD t354.2.2.2.2.2.2.1 (Int.toNat n353) (0, (0, ()))).2.1 > (65535 : Int))) (k1 (9 : Int)) (ref16_lines_L0 (IntKind.wrap .i64 (n353 + (1 : Int))) t354 k1 k2)) (k1 (9 : Int)))) (k1 (9 : Int))) (k1 (9 : Int)))) none) (k2))
noncomputable def ref16_lines_L0 : Nat → T_ref16_lines_L0
  | 0 => fun _ _ _ _ => none
  | n + 1 => ref16_lines_L0.body (ref16_lines_L0 n)
def ref16_lines_L0.p : LPat := lp 2 67 [1, 3] (ps (pq [1, 0] 0 0) (pl (pd (.int .i64)) pz)) (pl (po [1, 0] 27 9 (es Ty7 (pl eh pz))) pz)
def ref16_lines_L0.g (F : T_ref16_lines_L0) (v : ref16_lines_L0.p.T) (k : KE) : Option Bool := F v.1.1 v.2.1.1 (fun y0 => k .ret ⟨fillS 67 [2] [(.d ⟨(.int .i64), y0⟩)], [], 2⟩) (k (.exit 0) ⟨fillS 67 [] [], [], 2⟩)
theorem ref16_lines_L0.step (S : T_ref16_lines_L0) : ∀ v k, exR 23 Tryz.f23 0 ref16_lines_L0.p [] [] [] (ref16_lines_L0.g S) v k = ref16_lines_L0.g (ref16_lines_L0.body S) v k := fun v k => by kernel_rfl
theorem ref16_lines_L0.ok : okL 23 Tryz.f23 0 0 ref16_lines_L0.p (ref16_lines_L0.g (ref16_lines_L0 ROUNDS)) := loop2 (G := fun n => ref16_lines_L0.g (ref16_lines_L0 n)) (fun n => ref16_lines_L0.step (ref16_lines_L0 n)) .nil [] (by kernel_rfl) .nil (fun _ _ => rfl)
/-- function 23: sheerleg/sheerlegref16.lines -/
abbrev T_ref16_lines : Type := Tc3 → (Int → Option Bool) → Option Bool
noncomputable def ref16_lines.body (ref16_lines_L0 : T_ref16_lines_L0) : T_ref16_lines := fun t352 k1 =>
  (cond_ (decide ((((List.length t352.2.2.2.2.2.2.1) : Nat) : Int) > (16 : Int))) (k1 (6 : Int)) (ref16_lines_L0 (0 : Int) t352
  (fun n355 => (k1 n355))
  (k1 (0 : Int))))
noncomputable def ref16_lines : T_ref16_lines := ref16_lines.body (ref16_lines_L0 ROUNDS)
def ref16_lines.p : FPat := fp 23 (pl (pd Ty7) pz) pz
def ref16_lines.g (F : T_ref16_lines) (v : ref16_lines.p.T) (k : KR) : Option Bool := F v.1.1 (fun y0 => k (.d ⟨(.int .i64), y0⟩) [])
theorem ref16_lines.eq (L0 : T_ref16_lines_L0) : ∀ v k, exF Tryz.f23 ref16_lines.p [] [] [⟨0, ref16_lines_L0.p, ref16_lines_L0.g L0⟩] v k = ref16_lines.g (ref16_lines.body L0) v k := fun v k => by kernel_rfl
theorem ref16_lines.ok : okF 1 ref16_lines.p (ref16_lines.g ref16_lines) := fn2 (ref16_lines.eq (ref16_lines_L0 ROUNDS)) Tryz.func23 (by kernel_rfl) .nil [0] (by kernel_rfl) (.cons ref16_lines_L0.ok .nil)
/-- function 7: the loop in block 0 -/
abbrev T_ref16_Check_L0 : Type := Int → Tc3 → (Int → Option Bool) → (Option Bool) → Option Bool
noncomputable def ref16_Check_L0.body (ref16_Check_L0 : T_ref16_Check_L0) : T_ref16_Check_L0 := fun n357 t358 k1 k2 =>
  (cond_ (decide (n357 < (((List.length t358.2.2.2.2.2.2.2.2.1) : Nat) : Int))) (cond_ ((decide ((0 : Int) ≤ n357)) && (decide (n357 < (((List.length t358.2.2.2.2.2.2.2.2.1) : Nat) : Int)))) (cond_ (! (decide ((List.getD t358.2.2.2.2.2.2.2.2.1 (Int.toNat n357) (0, (0, (false, ())))).1 < (0 : Int)))) (cond_ (! (decide ((List.getD t358.2.2.2.2.2.2.2.2.1 (Int.toNat n357) (0, (0, (false, ())))).1 ≥ (((List.length t358.2.2.2.2.2.2.2.1) : Nat) : Int)))) (cond_ (decide (n357 > (0 : Int))) (cond_ ((decide ((0 : Int) ≤ (IntKind.wrap .i64 (n357 - (1 : Int))))) && (decide ((IntKind.wrap .i64 (n357 - (1 : Int))) < (((List.length t358.2.2.2.2.2.2.2.2.1) : Nat) : Int)))) (cond_ (! (decide ((List.getD t358.2.2.2.2.2.2.2.2.1 (Int.toNat n357) (0, (0, (false, ())))).1 ≤ (List.getD t358.2.2.2.2.2.2.2.2.1 (Int.toNat (IntKind.wrap .i64 (n357 - (1 : Int)))) (0, (0, (false, ())))).1))) (cond_ ((decide ((0 : Int) ≤ n357)) && (decide (n357 < (((List.length t358.2.2.2.2.2.2.2.2.1) : Nat) : Int)))) (cond_ (! (decide ((List.getD t358.2.2.2.2.2.2.2.2.1 (Int.toNat n357) (0, (0, (false, ())))).2.1 < (0 : Int)))) (cond_ ((decide ((0 : Int) ≤ n357)) && (decide (n357 < (((List.length t358.2.2.2.2.2.2.2.2.1) : Nat) : Int)))) (cond_ (decide ((List.getD t358.2.2.2.2.2.2.2.2.1 (Int.toNat n357) (0, (0, (false, ())))).2.1 ≥ (32 : Int))) (k1 (11 : Int)) (ref16_Check_L0 (IntKind.wrap .i64 (n357 + (1 : Int))) t358 k1 k2)) none) (k1 (11 : Int))) none) (k1 (11 : Int))) none) (cond_ ((decide ((0 : Int) ≤ n357)) && (decide (n357 < (((List.length t358.2.2.2.2.2.2.2.2.1) : Nat) : Int)))) (cond_ (! (decide ((List.getD t358.2.2.2.2.2.2.2.2.1 (Int.toNat n357) (0, (0, (false, ())))).2.1 < (0 : Int)))) (cond_ ((decide ((0 : Int) ≤ n357)) && (decide (n357 < (((List.length t358.2.2.2.2.2.2.2.2.1) : Nat) : Int)))) (cond_ (decide ((List.getD t358.2.2.2.2.2.2.2.2.1 (Int.toNat n357) (0, (0, (false, ())))).2.1 ≥ (32 : Int))) (k1 (11 : Int)) (ref16_Check_L0 (IntKind.wrap .i64 (n357 + (1 : Int))) t358 k1 k2)) none) (k1 (11 : Int))) none)) (k1 (11 : Int))) (k1 (11 : Int))) none) (k2))
noncomputable def ref16_Check_L0 : Nat → T_ref16_Check_L0
  | 0 => fun _ _ _ _ => none
  | n + 1 => ref16_Check_L0.body (ref16_Check_L0 n)
def ref16_Check_L0.p : LPat := lp 2 104 [1, 6] (ps (pq [1, 0] 0 0) (pl (pd (.int .i64)) pz)) (pl (po [1, 0] 27 9 (es Ty7 (pl eh pz))) pz)
def ref16_Check_L0.g (F : T_ref16_Check_L0) (v : ref16_Check_L0.p.T) (k : KE) : Option Bool := F v.1.1 v.2.1.1 (fun y0 => k .ret ⟨fillS 104 [2] [(.d ⟨(.int .i64), y0⟩)], [], 2⟩) (k (.exit 0) ⟨fillS 104 [] [], [], 2⟩)
theorem ref16_Check_L0.step (S : T_ref16_Check_L0) : ∀ v k, exR 7 Tryz.f7 0 ref16_Check_L0.p [] [] [] (ref16_Check_L0.g S) v k = ref16_Check_L0.g (ref16_Check_L0.body S) v k := fun v k => by kernel_rfl
theorem ref16_Check_L0.ok : okL 7 Tryz.f7 0 0 ref16_Check_L0.p (ref16_Check_L0.g (ref16_Check_L0 ROUNDS)) := loop2 (G := fun n => ref16_Check_L0.g (ref16_Check_L0 n)) (fun n => ref16_Check_L0.step (ref16_Check_L0 n)) .nil [] (by kernel_rfl) .nil (fun _ _ => rfl)
/-- function 7: sheerleg/sheerlegref16.Check -/
abbrev T_ref16_Check : Type := Tc3 → (Int → Option Bool) → Option Bool
noncomputable def ref16_Check.body (ref16_slots : T_ref16_slots) (ref16_code : T_ref16_code) (ref16_lines : T_ref16_lines) (ref16_Check_L0 : T_ref16_Check_L0) : T_ref16_Check := fun t278 k1 =>
  (ref16_slots t278
  (fun n302 => (cond_ (n302 != (0 : Int)) (k1 n302) (cond_ (! (decide (t278.2.2.1 < (0 : Int)))) (cond_ (decide (t278.2.2.1 > (4096 : Int))) (k1 (9 : Int)) (ref16_code t278
  (fun n351 => (cond_ (n351 != (0 : Int)) (k1 n351) (cond_ (! (decide (t278.2.2.2.2.1 < (0 : Int)))) (cond_ (! (decide (t278.2.2.2.2.2.1 < t278.2.2.2.2.1))) (cond_ (decide (t278.2.2.2.2.2.1 > (((List.length t278.2.2.2.2.2.2.2.1) : Nat) : Int))) (k1 (9 : Int)) (ref16_lines t278
  (fun n356 => (cond_ (n356 != (0 : Int)) (k1 n356) (ref16_Check_L0 (0 : Int) t278
  (fun n359 => (k1 n359))
  (k1 (0 : Int))))))) (k1 (9 : Int))) (k1 (9 : Int))))))) (k1 (9 : Int))))))
noncomputable def ref16_Check : T_ref16_Check := ref16_Check.body ref16_slots ref16_code ref16_lines (ref16_Check_L0 ROUNDS)
def ref16_Check.p : FPat := fp 7 (pl (pd Ty7) pz) pz
def ref16_Check.g (F : T_ref16_Check) (v : ref16_Check.p.T) (k : KR) : Option Bool := F v.1.1 (fun y0 => k (.d ⟨(.int .i64), y0⟩) [])
theorem ref16_Check.eq (F0 : T_ref16_slots) (F1 : T_ref16_code) (F2 : T_ref16_lines) (L0 : T_ref16_Check_L0) : ∀ v k, exF Tryz.f7 ref16_Check.p [⟨ref16_slots.p, ref16_slots.g F0⟩, ⟨ref16_code.p, ref16_code.g F1⟩, ⟨ref16_lines.p, ref16_lines.g F2⟩] [] [⟨0, ref16_Check_L0.p, ref16_Check_L0.g L0⟩] v k = ref16_Check.g (ref16_Check.body F0 F1 F2 L0) v k := fun v k => by kernel_rfl
theorem ref16_Check.ok : okF 7 ref16_Check.p (ref16_Check.g ref16_Check) := fn2 (ref16_Check.eq ref16_slots ref16_code ref16_lines (ref16_Check_L0 ROUNDS)) Tryz.func7 (by kernel_rfl) (.cons ref16_slots.ok (.cons ref16_code.ok (.cons ref16_lines.ok .nil))) [0] (by kernel_rfl) (.cons ref16_Check_L0.ok .nil)
/-- function 24: sheerleg/num.Near -/
abbrev T_num_Near : Type := Int → Int → Int → (Int → Option Bool) → Option Bool
noncomputable def num_Near.body : T_num_Near := fun n362 n363 n364 k1 =>
  (cond_ (decide (n362 < n363)) (k1 n363) (cond_ (decide (n362 > n364)) (k1 n364) (k1 n362)))
noncomputable def num_Near : T_num_Near := num_Near.body
def num_Near.p : FPat := fp 24 (pl (pd (.int .i64)) (pl (pd (.int .i64)) (pl (pd (.int .i64)) pz))) pz
def num_Near.g (F : T_num_Near) (v : num_Near.p.T) (k : KR) : Option Bool := F v.1.1 v.1.2.1 v.1.2.2.1 (fun y0 => k (.d ⟨(.int .i64), y0⟩) [])
theorem num_Near.eq : ∀ v k, exF Tryz.f24 num_Near.p [] [] [] v k = num_Near.g (num_Near.body) v k := fun v k => by kernel_rfl
theorem num_Near.ok : okF 1 num_Near.p (num_Near.g num_Near) := fn2 (num_Near.eq) Tryz.func24 (by kernel_rfl) .nil [] (by kernel_rfl) .nil
/-- function 8: sheerleg/fun.Frame -/
abbrev T_fun_Frame : Type := Tc3 → (Int → Option Bool) → Option Bool
noncomputable def fun_Frame.body (num_Near : T_num_Near) : T_fun_Frame := fun t361 k1 =>
  (num_Near t361.2.2.1 (0 : Int) (1048576 : Int)
  (fun n365 => (k1 (IntKind.wrap .i64 ((((List.length t361.2.1) : Nat) : Int) + n365)))))
noncomputable def fun_Frame : T_fun_Frame := fun_Frame.body num_Near
def fun_Frame.p : FPat := fp 8 (pl (pd Ty7) pz) pz
def fun_Frame.g (F : T_fun_Frame) (v : fun_Frame.p.T) (k : KR) : Option Bool := F v.1.1 (fun y0 => k (.d ⟨(.int .i64), y0⟩) [])
theorem fun_Frame.eq (F0 : T_num_Near) : ∀ v k, exF Tryz.f8 fun_Frame.p [⟨num_Near.p, num_Near.g F0⟩] [] [] v k = fun_Frame.g (fun_Frame.body F0) v k := fun v k => by kernel_rfl
theorem fun_Frame.ok : okF 2 fun_Frame.p (fun_Frame.g fun_Frame) := fn2 (fun_Frame.eq num_Near) Tryz.func8 (by kernel_rfl) (.cons num_Near.ok .nil) [] (by kernel_rfl) .nil
/-- function 25: sheerleg/sheerlegref01.Near -/
abbrev T_ref01_Near : Type := Int → Int → Int → (Int → Option Bool) → Option Bool
noncomputable def ref01_Near.body : T_ref01_Near := fun n368 n369 n370 k1 =>
  (cond_ (decide (n368 < n369)) (k1 n369) (cond_ (decide (n368 > n370)) (k1 n370) (k1 n368)))
noncomputable def ref01_Near : T_ref01_Near := ref01_Near.body
def ref01_Near.p : FPat := fp 25 (pl (pd (.int .i64)) (pl (pd (.int .i64)) (pl (pd (.int .i64)) pz))) pz
def ref01_Near.g (F : T_ref01_Near) (v : ref01_Near.p.T) (k : KR) : Option Bool := F v.1.1 v.1.2.1 v.1.2.2.1 (fun y0 => k (.d ⟨(.int .i64), y0⟩) [])
theorem ref01_Near.eq : ∀ v k, exF Tryz.f25 ref01_Near.p [] [] [] v k = ref01_Near.g (ref01_Near.body) v k := fun v k => by kernel_rfl
theorem ref01_Near.ok : okF 1 ref01_Near.p (ref01_Near.g ref01_Near) := fn2 (ref01_Near.eq) Tryz.func25 (by kernel_rfl) .nil [] (by kernel_rfl) .nil
/-- function 9: sheerleg/sheerlegref16.Frame -/
abbrev T_ref16_Frame : Type := Tc3 → (Int → Option Bool) → Option Bool
noncomputable def ref16_Frame.body (ref01_Near : T_ref01_Near) : T_ref16_Frame := fun t367 k1 =>
  (ref01_Near t367.2.2.1 (0 : Int) (1048576 : Int)
  (fun n371 => (k1 (IntKind.wrap .i64 ((((List.length t367.2.1) : Nat) : Int) + n371)))))
noncomputable def ref16_Frame : T_ref16_Frame := ref16_Frame.body ref01_Near
def ref16_Frame.p : FPat := fp 9 (pl (pd Ty7) pz) pz
def ref16_Frame.g (F : T_ref16_Frame) (v : ref16_Frame.p.T) (k : KR) : Option Bool := F v.1.1 (fun y0 => k (.d ⟨(.int .i64), y0⟩) [])
theorem ref16_Frame.eq (F0 : T_ref01_Near) : ∀ v k, exF Tryz.f9 ref16_Frame.p [⟨ref01_Near.p, ref01_Near.g F0⟩] [] [] v k = ref16_Frame.g (ref16_Frame.body F0) v k := fun v k => by kernel_rfl
theorem ref16_Frame.ok : okF 2 ref16_Frame.p (ref16_Frame.g ref16_Frame) := fn2 (ref16_Frame.eq ref01_Near) Tryz.func9 (by kernel_rfl) (.cons ref01_Near.ok .nil) [] (by kernel_rfl) .nil
/-- function 10: the loop in block 0 -/
abbrev T_fun_Line_L0 : Type := Int → Int → (List (Int × Int × Unit)) → Int → Int → (Int → Option Bool) → Option Bool
noncomputable def fun_Line_L0.body (fun_Line_L0 : T_fun_Line_L0) : T_fun_Line_L0 := fun n375 n376 l377 n378 n379 k1 =>
  (cond_ (decide (n379 < n378)) (cond_ ((decide ((0 : Int) ≤ n379)) && (decide (n379 < (List.length l377 : Int)))) (cond_ (decide ((List.getD l377 (Int.toNat n379) (0, (0, ()))).1 > n375)) (k1 n376) (fun_Line_L0 n375 (List.getD l377 (Int.toNat n379) (0, (0, ()))).2.1 l377 n378 (IntKind.wrap .i64 (n379 + (1 : Int))) k1)) none) (k1 n376))
noncomputable def fun_Line_L0 : Nat → T_fun_Line_L0
  | 0 => fun _ _ _ _ _ _ => none
  | n + 1 => fun_Line_L0.body (fun_Line_L0 n)
def fun_Line_L0.p : LPat := lp 2 23 [1, 5, 9, 10, 11] (pl (pd (.int .i64)) (pl (pd (.int .i64)) (pl (pd Ty3) (pl (pd (.int .i64)) (pl (pd (.int .i64)) pz))))) pz
def fun_Line_L0.g (F : T_fun_Line_L0) (v : fun_Line_L0.p.T) (k : KE) : Option Bool := F v.1.1 v.1.2.1 v.1.2.2.1 v.1.2.2.2.1 v.1.2.2.2.2.1 (fun y0 => k (.exit 0) ⟨fillS 23 [5] [(.d ⟨(.int .i64), y0⟩)], [], 2⟩)
theorem fun_Line_L0.step (S : T_fun_Line_L0) : ∀ v k, exR 10 Tryz.f10 0 fun_Line_L0.p [] [] [] (fun_Line_L0.g S) v k = fun_Line_L0.g (fun_Line_L0.body S) v k := fun v k => by kernel_rfl
theorem fun_Line_L0.ok : okL 10 Tryz.f10 0 0 fun_Line_L0.p (fun_Line_L0.g (fun_Line_L0 ROUNDS)) := loop2 (G := fun n => fun_Line_L0.g (fun_Line_L0 n)) (fun n => fun_Line_L0.step (fun_Line_L0 n)) .nil [] (by kernel_rfl) .nil (fun _ _ => rfl)
/-- function 10: sheerleg/fun.Line -/
abbrev T_fun_Line : Type := Tc3 → Int → (Int → Option Bool) → Option Bool
noncomputable def fun_Line.body (fun_Line_L0 : T_fun_Line_L0) : T_fun_Line := fun t373 n374 k1 =>
  (fun_Line_L0 n374 (0 : Int) t373.2.2.2.2.2.2.1 (((List.length t373.2.2.2.2.2.2.1) : Nat) : Int) (0 : Int)
  (fun n380 => (k1 n380)))
noncomputable def fun_Line : T_fun_Line := fun_Line.body (fun_Line_L0 ROUNDS)
def fun_Line.p : FPat := fp 10 (pl (pd Ty7) (pl (pd (.int .i64)) pz)) pz
def fun_Line.g (F : T_fun_Line) (v : fun_Line.p.T) (k : KR) : Option Bool := F v.1.1 v.1.2.1 (fun y0 => k (.d ⟨(.int .i64), y0⟩) [])
theorem fun_Line.eq (L0 : T_fun_Line_L0) : ∀ v k, exF Tryz.f10 fun_Line.p [] [] [⟨0, fun_Line_L0.p, fun_Line_L0.g L0⟩] v k = fun_Line.g (fun_Line.body L0) v k := fun v k => by kernel_rfl
theorem fun_Line.ok : okF 1 fun_Line.p (fun_Line.g fun_Line) := fn2 (fun_Line.eq (fun_Line_L0 ROUNDS)) Tryz.func10 (by kernel_rfl) .nil [0] (by kernel_rfl) (.cons fun_Line_L0.ok .nil)
/-- function 11: the loop in block 0 -/
abbrev T_ref16_Line_L0 : Type := Int → Int → Int → Tc3 → (Int → Option Bool) → Option Bool
noncomputable def ref16_Line_L0.body (ref16_Line_L0 : T_ref16_Line_L0) : T_ref16_Line_L0 := fun n384 n385 n386 t387 k1 =>
  (cond_ (decide (n386 < (((List.length t387.2.2.2.2.2.2.1) : Nat) : Int))) (cond_ ((decide ((0 : Int) ≤ n386)) && (decide (n386 < (((List.length t387.2.2.2.2.2.2.1) : Nat) : Int)))) (cond_ (decide ((List.getD t387.2.2.2.2.2.2.1 (Int.toNat n386) (0, (0, ()))).1 ≤ n384)) (cond_ ((decide ((0 : Int) ≤ n386)) && (decide (n386 < (((List.length t387.2.2.2.2.2.2.1) : Nat) : Int)))) (ref16_Line_L0 n384 (List.getD t387.2.2.2.2.2.2.1 (Int.toNat n386) (0, (0, ()))).2.1 (IntKind.wrap .i64 (n386 + (1 : Int))) t387 k1) none) (k1 n385)) none) (k1 n385))
noncomputable def ref16_Line_L0 : Nat → T_ref16_Line_L0
  | 0 => fun _ _ _ _ _ => none
  | n + 1 => ref16_Line_L0.body (ref16_Line_L0 n)
def ref16_Line_L0.p : LPat := lp 2 31 [1, 2, 5, 6] (pl (pd (.int .i64)) (ps (pq [1, 0] 0 0) (pl (pd (.int .i64)) (pl (pd (.int .i64)) pz)))) (pl (po [1, 0] 27 9 (es Ty7 (pl eh pz))) pz)
def ref16_Line_L0.g (F : T_ref16_Line_L0) (v : ref16_Line_L0.p.T) (k : KE) : Option Bool := F v.1.1 v.1.2.1 v.1.2.2.1 v.2.1.1 (fun y0 => k (.exit 0) ⟨fillS 31 [5] [(.d ⟨(.int .i64), y0⟩)], [], 2⟩)
theorem ref16_Line_L0.step (S : T_ref16_Line_L0) : ∀ v k, exR 11 Tryz.f11 0 ref16_Line_L0.p [] [] [] (ref16_Line_L0.g S) v k = ref16_Line_L0.g (ref16_Line_L0.body S) v k := fun v k => by kernel_rfl
theorem ref16_Line_L0.ok : okL 11 Tryz.f11 0 0 ref16_Line_L0.p (ref16_Line_L0.g (ref16_Line_L0 ROUNDS)) := loop2 (G := fun n => ref16_Line_L0.g (ref16_Line_L0 n)) (fun n => ref16_Line_L0.step (ref16_Line_L0 n)) .nil [] (by kernel_rfl) .nil (fun _ _ => rfl)
/-- function 11: sheerleg/sheerlegref16.Line -/
abbrev T_ref16_Line : Type := Tc3 → Int → (Int → Option Bool) → Option Bool
noncomputable def ref16_Line.body (ref16_Line_L0 : T_ref16_Line_L0) : T_ref16_Line := fun t382 n383 k1 =>
  (ref16_Line_L0 n383 (0 : Int) (0 : Int) t382
  (fun n388 => (k1 n388)))
noncomputable def ref16_Line : T_ref16_Line := ref16_Line.body (ref16_Line_L0 ROUNDS)
def ref16_Line.p : FPat := fp 11 (pl (pd Ty7) (pl (pd (.int .i64)) pz)) pz
def ref16_Line.g (F : T_ref16_Line) (v : ref16_Line.p.T) (k : KR) : Option Bool := F v.1.1 v.1.2.1 (fun y0 => k (.d ⟨(.int .i64), y0⟩) [])
theorem ref16_Line.eq (L0 : T_ref16_Line_L0) : ∀ v k, exF Tryz.f11 ref16_Line.p [] [] [⟨0, ref16_Line_L0.p, ref16_Line_L0.g L0⟩] v k = ref16_Line.g (ref16_Line.body L0) v k := fun v k => by kernel_rfl
theorem ref16_Line.ok : okF 1 ref16_Line.p (ref16_Line.g ref16_Line) := fn2 (ref16_Line.eq (ref16_Line_L0 ROUNDS)) Tryz.func11 (by kernel_rfl) .nil [0] (by kernel_rfl) (.cons ref16_Line_L0.ok .nil)
/-- function 3: sheerleg/sheerleglaw16.FunChecks -/
abbrev T_law16_FunChecks : Type := Tc3 → Int → (Bool → Option Bool) → Option Bool
noncomputable def law16_FunChecks.body (ref16_Few : T_ref16_Few) (law16_known : T_law16_known) (fun_Check : T_fun_Check) (ref16_Check : T_ref16_Check) (fun_Frame : T_fun_Frame) (ref16_Frame : T_ref16_Frame) (fun_Line : T_fun_Line) (ref16_Line : T_ref16_Line) : T_law16_FunChecks := fun t258 n259 k1 =>
  (ref16_Few t258
  (fun b260 => (cond_ (! b260) (law16_known
  (fun b261 => (k1 b261))) (fun_Check t258
  (fun n277 => (ref16_Check t258
  (fun n360 => (cond_ (n277 == n360) (fun_Frame t258
  (fun n366 => (ref16_Frame t258
  (fun n372 => (cond_ (n366 == n372) (fun_Line t258 n259
  (fun n381 => (ref16_Line t258 n259
  (fun n389 => (cond_ (n381 == n389) (law16_known
  (fun b390 => (k1 b390))) (k1 false)))))) (k1 false)))))) (k1 false)))))))))
noncomputable def law16_FunChecks : T_law16_FunChecks := law16_FunChecks.body ref16_Few law16_known fun_Check ref16_Check fun_Frame ref16_Frame fun_Line ref16_Line
def law16_FunChecks.p : FPat := fp 3 (pl (pd Ty7) (pl (pd (.int .i64)) pz)) pz
def law16_FunChecks.g (F : T_law16_FunChecks) (v : law16_FunChecks.p.T) (k : KR) : Option Bool := F v.1.1 v.1.2.1 (fun y0 => k (.d ⟨.bool, y0⟩) [])
theorem law16_FunChecks.eq (F0 : T_ref16_Few) (F1 : T_law16_known) (F2 : T_fun_Check) (F3 : T_ref16_Check) (F4 : T_fun_Frame) (F5 : T_ref16_Frame) (F6 : T_fun_Line) (F7 : T_ref16_Line) : ∀ v k, exF Tryz.f3 law16_FunChecks.p [⟨ref16_Few.p, ref16_Few.g F0⟩, ⟨law16_known.p, law16_known.g F1⟩, ⟨fun_Check.p, fun_Check.g F2⟩, ⟨ref16_Check.p, ref16_Check.g F3⟩, ⟨fun_Frame.p, fun_Frame.g F4⟩, ⟨ref16_Frame.p, ref16_Frame.g F5⟩, ⟨fun_Line.p, fun_Line.g F6⟩, ⟨ref16_Line.p, ref16_Line.g F7⟩] [] [] v k = law16_FunChecks.g (law16_FunChecks.body F0 F1 F2 F3 F4 F5 F6 F7) v k := fun v k => by kernel_rfl
theorem law16_FunChecks.ok : okF 61 law16_FunChecks.p (law16_FunChecks.g law16_FunChecks) := fn2 (law16_FunChecks.eq ref16_Few law16_known fun_Check ref16_Check fun_Frame ref16_Frame fun_Line ref16_Line) Tryz.func3 (by kernel_rfl) (.cons ref16_Few.ok (.cons law16_known.ok (.cons fun_Check.ok (.cons ref16_Check.ok (.cons fun_Frame.ok (.cons ref16_Frame.ok (.cons fun_Line.ok (.cons ref16_Line.ok .nil)))))))) [] (by kernel_rfl) .nil
-- LAWROW law16_FunChecks | 3 | 61 | Ty7 ¦ (.int .i64)
end Go.Proofs.YteanpakahlkhdaaGreat.c
