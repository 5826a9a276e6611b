/- What the functions come to that O reaches, as plain functions; written by a program of this work, each told by Lean. -/
import Derived.Test.YteanpakahlkhdaaA3
import Derived.Test.YteanpakahlkhdaaChecked
namespace Go.Proofs.Yteanpakahlkhdaa.o
open Go.AX
set_option linter.unusedVariables false
set_option maxRecDepth 100000
set_option maxHeartbeats 4000000
def ht : Hints := hintsOf [(10, [(2000000, ⟨[2, 3], [(.giveP 2)]⟩)]),
  (26, [(0, ⟨[0, 1, 5, 6], [(.virtP 100001 1 3 1), (.virtP 100001 6 55 2), (.freshP 100001 6), (.virtP 200001 7 57 5), (.virtP 100001 8 60 3), (.freshP 100001 8)]⟩), (2000000, ⟨[], []⟩), (1000000, ⟨[], []⟩)]),
  (31, [(0, ⟨[0, 2, 4, 18], []⟩), (2000000, ⟨[2, 3], []⟩), (1000000, ⟨[0, 2, 4], []⟩)]),
  (62, [(0, ⟨[6, 7, 19, 20, 21], []⟩), (2000000, ⟨[4, 5], []⟩), (1000000, ⟨[6, 7], []⟩)]),
  (12, [(0, ⟨[2, 3, 5], []⟩), (2, ⟨[2, 3, 6], []⟩), (2000000, ⟨[4], []⟩), (1000000, ⟨[2, 3], []⟩), (1000002, ⟨[], []⟩)]),
  (39, [(0, ⟨[0, 1, 5], []⟩), (2000000, ⟨[4], []⟩), (1000000, ⟨[], []⟩)]),
  (38, [(0, ⟨[0, 1, 5], []⟩), (2000000, ⟨[4], []⟩), (1000000, ⟨[], []⟩)]),
  (11, [(0, ⟨[1, 2, 3, 5, 7, 8], [(.virtP 5 7 57 5)]⟩), (2000000, ⟨[2, 3, 4], [(.giveP 3)]⟩), (1000000, ⟨[1, 2, 3, 5], []⟩)]),
  (37, [(0, ⟨[1, 2, 5, 6, 7], [(.virt 6 60 3)]⟩), (2000000, ⟨[2, 3, 4], []⟩), (1000000, ⟨[1, 2, 6], []⟩)]),
  (36, [(0, ⟨[1, 2, 3, 5, 6], []⟩), (2000000, ⟨[2, 3, 4], []⟩), (1000000, ⟨[1, 2, 3, 5], []⟩)]),
  (55, [(0, ⟨[1, 3], []⟩), (2, ⟨[1, 4, 5], []⟩), (2000000, ⟨[2], []⟩), (1000000, ⟨[1], []⟩), (1000002, ⟨[], []⟩)]),
  (34, [(0, ⟨[1, 2, 3, 6, 7, 8, 9], [(.virtP 8 1 3 1)]⟩), (2, ⟨[1, 2, 3, 8, 10, 11], [(.virtP 8 6 55 2)]⟩), (2000000, ⟨[2, 3, 4], []⟩), (1000000, ⟨[1, 2, 3, 7, 8], []⟩), (1000002, ⟨[1, 2, 3, 8], []⟩)]),
  (54, [(0, ⟨[1, 2, 4, 6, 7], [(.virt 6 2 1)]⟩), (2000000, ⟨[4, 5], []⟩), (1000000, ⟨[2, 4, 6], []⟩)]),
  (53, [(0, ⟨[1, 2, 4, 6, 7, 8], [(.virt 7 2 1)]⟩), (2000000, ⟨[4, 5], []⟩), (1000000, ⟨[2, 4, 7], []⟩)]),
  (35, [(0, ⟨[1, 2, 3, 6, 8, 9], []⟩), (2, ⟨[1, 3, 6, 8, 10, 11], []⟩), (2000000, ⟨[6, 7], []⟩), (1000000, ⟨[1, 2, 3, 6, 8], []⟩), (1000002, ⟨[1, 3, 6, 8, 10], []⟩)]),
  (52, [(0, ⟨[1, 3, 14, 15, 16], []⟩), (2, ⟨[3, 6, 39, 40], []⟩), (2000000, ⟨[2], []⟩), (1000000, ⟨[1, 3], []⟩), (1000002, ⟨[], []⟩)]),
  (8, [(0, ⟨[0, 3, 5], []⟩), (2, ⟨[0, 3, 6], []⟩), (4, ⟨[0, 3, 7], []⟩), (2000000, ⟨[4], []⟩), (1000000, ⟨[0, 3], []⟩), (1000002, ⟨[0, 3], []⟩), (1000004, ⟨[0, 3], []⟩)]),
  (24, [(0, ⟨[0, 1, 5], []⟩), (2000000, ⟨[4], []⟩), (1000000, ⟨[0], []⟩)]),
  (21, [(0, ⟨[7, 8, 9], []⟩), (2, ⟨[7, 8, 9, 10, 11], []⟩), (2000000, ⟨[6], []⟩), (1000002, ⟨[7, 8, 9, 10], []⟩), (1000001, ⟨[7, 8, 9], []⟩), (1000000, ⟨[7], []⟩)]),
  (7, [(0, ⟨[3, 5, 48, 49, 50], []⟩), (2, ⟨[3, 5, 72, 73, 74], []⟩), (4, ⟨[5, 95, 96, 97], []⟩), (2000000, ⟨[4], []⟩), (1000000, ⟨[3, 5], []⟩), (1000002, ⟨[3, 5], []⟩), (1000004, ⟨[5], []⟩)]),
  (20, [(0, ⟨[0, 8, 9], [(.give 0)]⟩), (2000000, ⟨[4], [(.virt 4 5 1), (.give 4)]⟩), (1000000, ⟨[0], []⟩)]),
  (18, [(0, ⟨[0, 1, 8, 9, 10], [(.giveP 0), (.freshP 0 0)]⟩), (2000000, ⟨[], []⟩), (1000000, ⟨[], []⟩)]),
  (45, [(0, ⟨[0, 1, 2, 7, 10], []⟩), (2000000, ⟨[6], []⟩), (1000000, ⟨[0, 2, 7], []⟩)])]
abbrev okF := FnOk Try.prog ht
abbrev okL := LoopOk Try.prog ht
noncomputable abbrev exF := execF Try.prog ht
noncomputable abbrev exR := execR Try.prog ht
noncomputable abbrev exB := execB Try.prog ht
abbrev Tc0 : Type := List (Int × Int × Bool × Unit)
abbrev Tc1 : Type := (List Int) × Int × Bool × Unit
abbrev Tc2 : Type := Int × Int × Int × Int × Int × Unit
abbrev Tc3 : Type := List Tc2
abbrev Tc4 : Type := Int × (List Int) × Int × Bool × Int × Int × (List (Int × Int × Unit)) × Tc3 × Tc0 × Unit
abbrev Ty0 : Ty := (.sl 5 (.int .u8))
abbrev Ty1 : Ty := (.sl 3 (.int .i64))
abbrev Ty2 : Ty := (.st [Ty0])
abbrev Ty3 : Ty := (.st [(.int .i64), (.int .i64)])
abbrev Ty4 : Ty := (.st [(.int .i64), (.int .i64), .bool])
abbrev Ty5 : Ty := (.sl 55 Ty3)
abbrev Ty6 : Ty := (.st [Ty0, (.int .i64), .bool])
abbrev Ty7 : Ty := (.sl 60 Ty4)
abbrev Ty8 : Ty := (.st [(.int .i64), (.int .i64), (.int .i64), (.int .i64), (.int .i64)])
abbrev Ty9 : Ty := (.sl 57 Ty8)
abbrev Ty10 : Ty := (.st [(.int .i64), Ty1, (.int .i64), .bool, (.int .i64), (.int .i64), Ty5, Ty9, Ty7])
/-- function 5: sheerleg/sheerlegref16.Few -/
abbrev T_ref16_Few : Type := Tc4 → (Bool → Option Bool) → Option Bool
noncomputable def ref16_Few.body : T_ref16_Few := fun t2 k1 =>
  (cond_ (decide ((((List.length t2.2.1) : Nat) : Int) ≤ (100 : Int))) (cond_ (decide ((((List.length t2.2.2.2.2.2.2.1) : Nat) : Int) ≤ (100 : Int))) (cond_ (decide ((((List.length t2.2.2.2.2.2.2.2.1) : Nat) : Int) ≤ (100 : Int))) (k1 (decide ((((List.length t2.2.2.2.2.2.2.2.2.1) : Nat) : Int) ≤ (100 : Int)))) (k1 false)) (k1 false)) (k1 false))
noncomputable def ref16_Few : T_ref16_Few := ref16_Few.body
def ref16_Few.p : FPat := fp 5 (pl (pd Ty10) pz) pz
def ref16_Few.g (F : T_ref16_Few) (v : ref16_Few.p.T) (k : KR) : Option Bool := F v.1.1 (fun y0 => k (.d ⟨.bool, y0⟩) [])
theorem ref16_Few.eq : ∀ v k, exF Try.f5 ref16_Few.p [] [] [] v k = ref16_Few.g (ref16_Few.body) v k := fun v k => by kernel_rfl
theorem ref16_Few.ok : okF 1 ref16_Few.p (ref16_Few.g ref16_Few) := fn2 (ref16_Few.eq) Try.func5 (by kernel_rfl) .nil [] (by kernel_rfl) .nil
/-- function 6: sheerleg/sheerleglaw16.known, all of it at once -/
abbrev T_law16_known : Type := (Bool → Option Bool) → Option Bool
def law16_known : T_law16_known := fun k1 => k1 true
def law16_known.p : FPat := fp 6 pz pz
def law16_known.g (F : T_law16_known) (v : law16_known.p.T) (k : KR) : Option Bool := F (fun y => k (.d ⟨.bool, y⟩) [])
set_option maxRecDepth 100000 in
theorem law16_known.all (k : KR) : callK Try.prog ht 60 6 [] [] k = k (.d ⟨.bool, true⟩) [] := by kernel_rfl
theorem law16_known.ok : okF 60 law16_known.p (law16_known.g law16_known) := all2 fun _ k => law16_known.all k
/-- function 45: sheerleg/octet.Put -/
abbrev T_octet_Put : Type := (List Int) → Int → Int → ((List Int) → Option Bool) → Option Bool
noncomputable def octet_Put.body : T_octet_Put := fun ns87 n88 n89 k1 =>
  (cond_ (Nat.ble (((0 : Nat) + (List.length ns87)) * (1 : Nat)) (140737488355328 : Nat)) (cond_ (! (decide (n89 < (1 : Int)))) (cond_ (decide (n89 > (8 : Int))) (k1 ([] ++ ns87)) (cond_ (((decide ((0 : Int) ≤ (IntKind.wrap .i64 ((8 : Int) - n89)))) && (decide ((IntKind.wrap .i64 ((8 : Int) - n89)) ≤ (8 : Int)))) && true) (cond_ (Nat.ble (((List.length ([] ++ ns87)) + (List.length (List.take (Int.toNat ((8 : Int) - (IntKind.wrap .i64 ((8 : Int) - n89)))) (List.drop (Int.toNat (IntKind.wrap .i64 ((8 : Int) - n89))) ((IntKind.wrap .u8 (Int.fdiv n88 (72057594037927936 : Int))) :: ((IntKind.wrap .u8 (Int.fdiv n88 (281474976710656 : Int))) :: ((IntKind.wrap .u8 (Int.fdiv n88 (1099511627776 : Int))) :: ((IntKind.wrap .u8 (Int.fdiv n88 (4294967296 : Int))) :: ((IntKind.wrap .u8 (Int.fdiv n88 (16777216 : Int))) :: ((IntKind.wrap .u8 (Int.fdiv n88 (65536 : Int))) :: ((IntKind.wrap .u8 (Int.fdiv n88 (256 : Int))) :: ((IntKind.wrap .u8 (Int.fdiv n88 (1 : Int))) :: [])))))))))))) * (1 : Nat)) (140737488355328 : Nat)) (k1 (([] ++ ns87) ++ (List.take (Int.toNat ((8 : Int) - (IntKind.wrap .i64 ((8 : Int) - n89)))) (List.drop (Int.toNat (IntKind.wrap .i64 ((8 : Int) - n89))) ((IntKind.wrap .u8 (Int.fdiv n88 (72057594037927936 : Int))) :: ((IntKind.wrap .u8 (Int.fdiv n88 (281474976710656 : Int))) :: ((IntKind.wrap .u8 (Int.fdiv n88 (1099511627776 : Int))) :: ((IntKind.wrap .u8 (Int.fdiv n88 (4294967296 : Int))) :: ((IntKind.wrap .u8 (Int.fdiv n88 (16777216 : Int))) :: ((IntKind.wrap .u8 (Int.fdiv n88 (65536 : Int))) :: ((IntKind.wrap .u8 (Int.fdiv n88 (256 : Int))) :: ((IntKind.wrap .u8 (Int.fdiv n88 (1 : Int))) :: [])))))))))))) none) none)) (k1 ([] ++ ns87))) none)
noncomputable def octet_Put : T_octet_Put := octet_Put.body
def octet_Put.p : FPat := fp 45 (pl (pb 0 5 (.int .u8)) (pl (pd (.int .i64)) (pl (pd (.int .i64)) pz))) pz
def octet_Put.g (F : T_octet_Put) (v : octet_Put.p.T) (k : KR) : Option Bool := F v.1.1 v.1.2.1 v.1.2.2.1 (fun y0 => k (.ref [1, 0]) [([1, 0], ⟨5, 1, (.data (.int .u8) y0)⟩)])
theorem octet_Put.eq : ∀ v k, exF Try.f45 octet_Put.p [] [0] [] v k = octet_Put.g (octet_Put.body) v k := fun v k => by kernel_rfl
theorem octet_Put.ok : okF 1 octet_Put.p (octet_Put.g octet_Put) := fn2 (octet_Put.eq) Try.func45 (by kernel_rfl) .nil [] (by kernel_rfl) .nil
/-- function 18: the loop in block 0 -/
abbrev T_fun_writer_put_L0 : Type := Int → (List Int) → Int → Int → ((List Int) × Unit) → (((List Int) × Unit) → Option Bool) → Option Bool
noncomputable def fun_writer_put_L0.body (fun_writer_put_L0 : T_fun_writer_put_L0) (octet_Put : T_octet_Put) : T_fun_writer_put_L0 := fun n82 ns83 n84 n85 t86 k1 =>
  (cond_ (decide (n85 < n84)) (cond_ ((decide ((0 : Int) ≤ n85)) && (decide (n85 < (List.length ns83 : Int)))) (octet_Put t86.1 (List.getD ns83 (Int.toNat n85) (0 : Int)) n82
  (fun ns90 => (fun_writer_put_L0 n82 ns83 n84 (IntKind.wrap .i64 (n85 + (1 : Int))) (ns90, ()) k1))) none) (k1 t86))
noncomputable def fun_writer_put_L0 : Nat → T_fun_writer_put_L0
  | 0 => fun _ _ _ _ _ _ => none
  | n + 1 => fun_writer_put_L0.body (fun_writer_put_L0 n) octet_Put
def fun_writer_put_L0.p : LPat := lp 2 25 [0, 1, 8, 9, 10] (ps (pq [0, 0] 0 0) (pl (pd (.int .i64)) (pl (pb 1 3 (.int .i64)) (pl (pd (.int .i64)) (pl (pd (.int .i64)) pz))))) (pl (po [0, 0] 51 1 (es Ty2 (pl eh pz))) pz)
def fun_writer_put_L0.g (F : T_fun_writer_put_L0) (v : fun_writer_put_L0.p.T) (k : KE) : Option Bool := F v.1.1 v.1.2.1 v.1.2.2.1 v.1.2.2.2.1 v.2.1.1 (fun y0 => k (.exit 0) ⟨fillS 25 [] [], [([0, 0], ⟨51, 1, (.data Ty2 [y0])⟩)], 2⟩)
theorem fun_writer_put_L0.step (S : T_fun_writer_put_L0) (F0 : T_octet_Put) : ∀ v k, exR 18 Try.f18 0 fun_writer_put_L0.p [⟨octet_Put.p, octet_Put.g F0⟩] [] [] (fun_writer_put_L0.g S) v k = fun_writer_put_L0.g (fun_writer_put_L0.body S F0) v k := fun v k => by kernel_rfl
theorem fun_writer_put_L0.ok : okL 18 Try.f18 1 0 fun_writer_put_L0.p (fun_writer_put_L0.g (fun_writer_put_L0 ROUNDS)) := loop2 (G := fun n => fun_writer_put_L0.g (fun_writer_put_L0 n)) (fun n => fun_writer_put_L0.step (fun_writer_put_L0 n) octet_Put) (.cons octet_Put.ok .nil) [] (by kernel_rfl) .nil (fun _ _ => rfl)
/-- function 18: (*sheerleg/fun.writer).put -/
abbrev T_fun_writer_put : Type := Int → (List Int) → (List Int) → (((List Int) × Unit) → Option Bool) → Option Bool
noncomputable def fun_writer_put.body (fun_writer_put_L0 : T_fun_writer_put_L0) : T_fun_writer_put := fun n79 ns80 ns81 k1 =>
  (fun_writer_put_L0 n79 ns80 (List.length ns80 : Int) (0 : Int) (ns81, ())
  (fun t91 => (k1 t91)))
noncomputable def fun_writer_put : T_fun_writer_put := fun_writer_put.body (fun_writer_put_L0 ROUNDS)
def fun_writer_put.p : FPat := fp 18 (ps (pq [0, 0] 0 0) (pl (pd (.int .i64)) (pl (pb 1 3 (.int .i64)) pz))) (ps (po [0, 0] 51 1 (em (ps (pa (ps (pr [0, 1]) pz)) pz))) (pl (po [0, 1] 5 1 (ed (.int .u8))) pz))
def fun_writer_put.g (F : T_fun_writer_put) (v : fun_writer_put.p.T) (k : KR) : Option Bool := F v.1.1 v.1.2.1 v.2.1 (fun y0 => k (.tup []) [([0, 0], ⟨51, 1, (.data Ty2 [y0])⟩)])
theorem fun_writer_put.eq (L0 : T_fun_writer_put_L0) : ∀ v k, exF Try.f18 fun_writer_put.p [] [] [⟨0, fun_writer_put_L0.p, fun_writer_put_L0.g L0⟩] v k = fun_writer_put.g (fun_writer_put.body L0) v k := fun v k => by kernel_rfl
theorem fun_writer_put.ok : okF 2 fun_writer_put.p (fun_writer_put.g fun_writer_put) := fn2 (fun_writer_put.eq (fun_writer_put_L0 ROUNDS)) Try.func18 (by kernel_rfl) .nil [0] (by kernel_rfl) (.cons fun_writer_put_L0.ok .nil)
/-- function 18: the loop in block 0 -/
abbrev T_fun_writer_putv1_L0 : Type := Int → (List Int) → Int → Int → ((List Int) × Unit) → (((List Int) × Unit) → Option Bool) → Option Bool
noncomputable def fun_writer_putv1_L0.body (fun_writer_putv1_L0 : T_fun_writer_putv1_L0) (octet_Put : T_octet_Put) : T_fun_writer_putv1_L0 := fun n96 ns97 n98 n99 t100 k1 =>
  (cond_ (decide (n99 < n98)) (cond_ ((decide ((0 : Int) ≤ n99)) && (decide (n99 < (List.length ns97 : Int)))) (octet_Put t100.1 (List.getD ns97 (Int.toNat n99) (0 : Int)) n96
  (fun ns101 => (fun_writer_putv1_L0 n96 ns97 n98 (IntKind.wrap .i64 (n99 + (1 : Int))) (ns101, ()) k1))) none) (k1 t100))
noncomputable def fun_writer_putv1_L0 : Nat → T_fun_writer_putv1_L0
  | 0 => fun _ _ _ _ _ _ => none
  | n + 1 => fun_writer_putv1_L0.body (fun_writer_putv1_L0 n) octet_Put
def fun_writer_putv1_L0.p : LPat := lp 2 25 [0, 1, 8, 9, 10] (ps (pq [0, 0] 0 0) (pl (pd (.int .i64)) (pl (pb 0 3 (.int .i64)) (pl (pd (.int .i64)) (pl (pd (.int .i64)) pz))))) (pl (po [0, 0] 51 1 (es Ty2 (pl eh pz))) pz)
def fun_writer_putv1_L0.g (F : T_fun_writer_putv1_L0) (v : fun_writer_putv1_L0.p.T) (k : KE) : Option Bool := F v.1.1 v.1.2.1 v.1.2.2.1 v.1.2.2.2.1 v.2.1.1 (fun y0 => k (.exit 0) ⟨fillS 25 [] [], [([0, 0], ⟨51, 1, (.data Ty2 [y0])⟩)], 2⟩)
theorem fun_writer_putv1_L0.step (S : T_fun_writer_putv1_L0) (F0 : T_octet_Put) : ∀ v k, exR 18 Try.f18 0 fun_writer_putv1_L0.p [⟨octet_Put.p, octet_Put.g F0⟩] [] [] (fun_writer_putv1_L0.g S) v k = fun_writer_putv1_L0.g (fun_writer_putv1_L0.body S F0) v k := fun v k => by kernel_rfl
theorem fun_writer_putv1_L0.ok : okL 18 Try.f18 1 0 fun_writer_putv1_L0.p (fun_writer_putv1_L0.g (fun_writer_putv1_L0 ROUNDS)) := loop2 (G := fun n => fun_writer_putv1_L0.g (fun_writer_putv1_L0 n)) (fun n => fun_writer_putv1_L0.step (fun_writer_putv1_L0 n) octet_Put) (.cons octet_Put.ok .nil) [] (by kernel_rfl) .nil (fun _ _ => rfl)
/-- function 18: (*sheerleg/fun.writer).put -/
abbrev T_fun_writer_putv1 : Type := Int → (List Int) → ((List Int) × Unit) → (((List Int) × Unit) → Option Bool) → Option Bool
noncomputable def fun_writer_putv1.body (fun_writer_putv1_L0 : T_fun_writer_putv1_L0) : T_fun_writer_putv1 := fun n93 ns94 t95 k1 =>
  (fun_writer_putv1_L0 n93 ns94 (List.length ns94 : Int) (0 : Int) t95
  (fun t102 => (k1 t102)))
noncomputable def fun_writer_putv1 : T_fun_writer_putv1 := fun_writer_putv1.body (fun_writer_putv1_L0 ROUNDS)
def fun_writer_putv1.p : FPat := fp 18 (ps (pq [0, 0] 0 0) (pl (pd (.int .i64)) (pl (pb 0 3 (.int .i64)) pz))) (pl (po [0, 0] 51 1 (es Ty2 (pl eh pz))) pz)
def fun_writer_putv1.g (F : T_fun_writer_putv1) (v : fun_writer_putv1.p.T) (k : KR) : Option Bool := F v.1.1 v.1.2.1 v.2.1.1 (fun y0 => k (.tup []) [([0, 0], ⟨51, 1, (.data Ty2 [y0])⟩)])
theorem fun_writer_putv1.eq (L0 : T_fun_writer_putv1_L0) : ∀ v k, exF Try.f18 fun_writer_putv1.p [] [] [⟨0, fun_writer_putv1_L0.p, fun_writer_putv1_L0.g L0⟩] v k = fun_writer_putv1.g (fun_writer_putv1.body L0) v k := fun v k => by kernel_rfl
theorem fun_writer_putv1.ok : okF 2 fun_writer_putv1.p (fun_writer_putv1.g fun_writer_putv1) := fn2 (fun_writer_putv1.eq (fun_writer_putv1_L0 ROUNDS)) Try.func18 (by kernel_rfl) .nil [0] (by kernel_rfl) (.cons fun_writer_putv1_L0.ok .nil)
/-- function 18: the loop in block 0 -/
abbrev T_fun_writer_putv2_L0 : Type := Int → (List Int) → Int → Int → ((List Int) × Unit) → (((List Int) × Unit) → Option Bool) → Option Bool
noncomputable def fun_writer_putv2_L0.body (fun_writer_putv2_L0 : T_fun_writer_putv2_L0) (octet_Put : T_octet_Put) : T_fun_writer_putv2_L0 := fun n107 ns108 n109 n110 t111 k1 =>
  (cond_ (decide (n110 < n109)) (cond_ ((decide ((0 : Int) ≤ n110)) && (decide (n110 < (List.length ns108 : Int)))) (octet_Put t111.1 (List.getD ns108 (Int.toNat n110) (0 : Int)) n107
  (fun ns112 => (fun_writer_putv2_L0 n107 ns108 n109 (IntKind.wrap .i64 (n110 + (1 : Int))) (ns112, ()) k1))) none) (k1 t111))
noncomputable def fun_writer_putv2_L0 : Nat → T_fun_writer_putv2_L0
  | 0 => fun _ _ _ _ _ _ => none
  | n + 1 => fun_writer_putv2_L0.body (fun_writer_putv2_L0 n) octet_Put
def fun_writer_putv2_L0.p : LPat := lp 2 25 [0, 1, 8, 9, 10] (ps (pq [0, 0] 0 0) (pl (pd (.int .i64)) (pl (pb 1 3 (.int .i64)) (pl (pd (.int .i64)) (pl (pd (.int .i64)) pz))))) (pl (po [0, 0] 51 1 (es Ty2 (pl eh pz))) pz)
def fun_writer_putv2_L0.g (F : T_fun_writer_putv2_L0) (v : fun_writer_putv2_L0.p.T) (k : KE) : Option Bool := F v.1.1 v.1.2.1 v.1.2.2.1 v.1.2.2.2.1 v.2.1.1 (fun y0 => k (.exit 0) ⟨fillS 25 [] [], [([0, 0], ⟨51, 1, (.data Ty2 [y0])⟩)], 2⟩)
theorem fun_writer_putv2_L0.step (S : T_fun_writer_putv2_L0) (F0 : T_octet_Put) : ∀ v k, exR 18 Try.f18 0 fun_writer_putv2_L0.p [⟨octet_Put.p, octet_Put.g F0⟩] [] [] (fun_writer_putv2_L0.g S) v k = fun_writer_putv2_L0.g (fun_writer_putv2_L0.body S F0) v k := fun v k => by kernel_rfl
theorem fun_writer_putv2_L0.ok : okL 18 Try.f18 1 0 fun_writer_putv2_L0.p (fun_writer_putv2_L0.g (fun_writer_putv2_L0 ROUNDS)) := loop2 (G := fun n => fun_writer_putv2_L0.g (fun_writer_putv2_L0 n)) (fun n => fun_writer_putv2_L0.step (fun_writer_putv2_L0 n) octet_Put) (.cons octet_Put.ok .nil) [] (by kernel_rfl) .nil (fun _ _ => rfl)
/-- function 18: (*sheerleg/fun.writer).put -/
abbrev T_fun_writer_putv2 : Type := Int → (List Int) → ((List Int) × Unit) → (((List Int) × Unit) → Option Bool) → Option Bool
noncomputable def fun_writer_putv2.body (fun_writer_putv2_L0 : T_fun_writer_putv2_L0) : T_fun_writer_putv2 := fun n104 ns105 t106 k1 =>
  (fun_writer_putv2_L0 n104 ns105 (List.length ns105 : Int) (0 : Int) t106
  (fun t113 => (k1 t113)))
noncomputable def fun_writer_putv2 : T_fun_writer_putv2 := fun_writer_putv2.body (fun_writer_putv2_L0 ROUNDS)
def fun_writer_putv2.p : FPat := fp 18 (ps (pq [0, 0] 0 0) (pl (pd (.int .i64)) (pl (pb 1 3 (.int .i64)) pz))) (pl (po [0, 0] 51 1 (es Ty2 (pl eh pz))) pz)
def fun_writer_putv2.g (F : T_fun_writer_putv2) (v : fun_writer_putv2.p.T) (k : KR) : Option Bool := F v.1.1 v.1.2.1 v.2.1.1 (fun y0 => k (.tup []) [([0, 0], ⟨51, 1, (.data Ty2 [y0])⟩)])
theorem fun_writer_putv2.eq (L0 : T_fun_writer_putv2_L0) : ∀ v k, exF Try.f18 fun_writer_putv2.p [] [] [⟨0, fun_writer_putv2_L0.p, fun_writer_putv2_L0.g L0⟩] v k = fun_writer_putv2.g (fun_writer_putv2.body L0) v k := fun v k => by kernel_rfl
theorem fun_writer_putv2.ok : okF 2 fun_writer_putv2.p (fun_writer_putv2.g fun_writer_putv2) := fn2 (fun_writer_putv2.eq (fun_writer_putv2_L0 ROUNDS)) Try.func18 (by kernel_rfl) .nil [0] (by kernel_rfl) (.cons fun_writer_putv2_L0.ok .nil)
/-- function 19: sheerleg/fun.flag -/
abbrev T_fun_flag : Type := Bool → (Int → Option Bool) → Option Bool
noncomputable def fun_flag.body : T_fun_flag := fun b115 k1 =>
  (cond_ b115 (k1 (1 : Int)) (k1 (0 : Int)))
noncomputable def fun_flag : T_fun_flag := fun_flag.body
def fun_flag.p : FPat := fp 19 (pl (pd .bool) pz) pz
def fun_flag.g (F : T_fun_flag) (v : fun_flag.p.T) (k : KR) : Option Bool := F v.1.1 (fun y0 => k (.d ⟨(.int .i64), y0⟩) [])
theorem fun_flag.eq : ∀ v k, exF Try.f19 fun_flag.p [] [] [] v k = fun_flag.g (fun_flag.body) v k := fun v k => by kernel_rfl
theorem fun_flag.ok : okF 1 fun_flag.p (fun_flag.g fun_flag) := fn2 (fun_flag.eq) Try.func19 (by kernel_rfl) .nil [] (by kernel_rfl) .nil
/-- function 7: the loop in block 0 -/
abbrev T_fun_Put_L0 : Type := (List (Int × Int × Unit)) → Int → Int → Tc4 → ((List Int) × Unit) → (Tc4 → ((List Int) × Unit) → Option Bool) → Option Bool
noncomputable def fun_Put_L0.body (fun_Put_L0 : T_fun_Put_L0) (fun_writer_putv2 : T_fun_writer_putv2) : T_fun_Put_L0 := fun l118 n119 n120 t121 t122 k1 =>
  (cond_ (decide (n120 < n119)) (cond_ ((decide ((0 : Int) ≤ n120)) && (decide (n120 < (List.length l118 : Int)))) (fun_writer_putv2 (1 : Int) [(List.getD l118 (Int.toNat n120) (0, (0, ()))).1] t122
  (fun t123 => (fun_writer_putv2 (2 : Int) [(List.getD l118 (Int.toNat n120) (0, (0, ()))).2.1] t123
  (fun t124 => (fun_Put_L0 l118 n119 (IntKind.wrap .i64 (n120 + (1 : Int))) t121 t124 k1))))) none) (k1 t121 t122))
noncomputable def fun_Put_L0 : Nat → T_fun_Put_L0
  | 0 => fun _ _ _ _ _ _ => none
  | n + 1 => fun_Put_L0.body (fun_Put_L0 n) fun_writer_putv2
def fun_Put_L0.p : LPat := lp 2 116 [3, 5, 48, 49, 50] (ps (pq [1, 0] 0 0) (ps (pq [1, 1] 0 0) (pl (pd Ty5) (pl (pd (.int .i64)) (pl (pd (.int .i64)) pz))))) (pl (po [1, 0] 27 9 (es Ty10 (pl eh pz))) (pl (po [1, 1] 51 1 (es Ty2 (pl eh pz))) pz))
def fun_Put_L0.g (F : T_fun_Put_L0) (v : fun_Put_L0.p.T) (k : KE) : Option Bool := F v.1.1 v.1.2.1 v.1.2.2.1 v.2.1.1 v.2.2.1.1 (fun y0 y1 => k (.exit 0) ⟨fillS 116 [3, 5] [(.ptr [1, 0] 0 0), (.ptr [1, 1] 0 0)], [([1, 0], ⟨27, 9, (.data Ty10 [y0])⟩), ([1, 1], ⟨51, 1, (.data Ty2 [y1])⟩)], 2⟩)
theorem fun_Put_L0.step (S : T_fun_Put_L0) (F0 : T_fun_writer_putv2) : ∀ v k, exR 7 Try.f7 0 fun_Put_L0.p [⟨fun_writer_putv2.p, fun_writer_putv2.g F0⟩] [] [] (fun_Put_L0.g S) v k = fun_Put_L0.g (fun_Put_L0.body S F0) v k := fun v k => by kernel_rfl
theorem fun_Put_L0.ok : okL 7 Try.f7 2 0 fun_Put_L0.p (fun_Put_L0.g (fun_Put_L0 ROUNDS)) := loop2 (G := fun n => fun_Put_L0.g (fun_Put_L0 n)) (fun n => fun_Put_L0.step (fun_Put_L0 n) fun_writer_putv2) (.cons fun_writer_putv2.ok .nil) [] (by kernel_rfl) .nil (fun _ _ => rfl)
/-- function 46: sheerleg/instr.numbers -/
abbrev T_instr_numbers : Type := Tc2 → (Tc2 → Option Bool) → Option Bool
noncomputable def instr_numbers.body : T_instr_numbers := fun t135 k1 =>
  (k1 (t135.1, (t135.2.1, (t135.2.2.1, (t135.2.2.2.1, (t135.2.2.2.2.1, ()))))))
noncomputable def instr_numbers : T_instr_numbers := instr_numbers.body
def instr_numbers.p : FPat := fp 46 (pl (pd Ty8) pz) pz
def instr_numbers.g (F : T_instr_numbers) (v : instr_numbers.p.T) (k : KR) : Option Bool := F v.1.1 (fun y0 => k (.d ⟨Ty8, y0⟩) [])
theorem instr_numbers.eq : ∀ v k, exF Try.f46 instr_numbers.p [] [] [] v k = instr_numbers.g (instr_numbers.body) v k := fun v k => by kernel_rfl
theorem instr_numbers.ok : okF 1 instr_numbers.p (instr_numbers.g instr_numbers) := fn2 (instr_numbers.eq) Try.func46 (by kernel_rfl) .nil [] (by kernel_rfl) .nil
/-- function 20: the loop in block 0 -/
abbrev T_instr_Put_L0 : Type := (List Int) → Tc2 → Int → ((List Int) → Option Bool) → ((List Int) → Option Bool) → Option Bool
noncomputable def instr_Put_L0.body (instr_Put_L0 : T_instr_Put_L0) (octet_Put : T_octet_Put) : T_instr_Put_L0 := fun ns191 t192 n193 k1 k2 =>
  (cond_ (decide (n193 < (5 : Int))) (cond_ ((decide ((0 : Int) ≤ n193)) && (decide (n193 < (5 : Int)))) (cond_ (n193 == (4 : Int)) (octet_Put ns191 (List.getD (t192.1 :: (t192.2.1 :: (t192.2.2.1 :: (t192.2.2.2.1 :: (t192.2.2.2.2.1 :: []))))) (Int.toNat n193) (0 : Int)) (4 : Int)
  (fun ns194 => (k1 ns194))) (octet_Put ns191 (List.getD (t192.1 :: (t192.2.1 :: (t192.2.2.1 :: (t192.2.2.2.1 :: (t192.2.2.2.2.1 :: []))))) (Int.toNat n193) (0 : Int)) (1 : Int)
  (fun ns195 => (instr_Put_L0 ns195 t192 (IntKind.wrap .i64 (n193 + (1 : Int))) k1 k2)))) none) (k2 ns191))
noncomputable def instr_Put_L0 : Nat → T_instr_Put_L0
  | 0 => fun _ _ _ _ _ => none
  | n + 1 => instr_Put_L0.body (instr_Put_L0 n) octet_Put
def instr_Put_L0.p : LPat := lp 2 23 [0, 8, 9] (pl (pb 0 5 (.int .u8)) (pl (pd Ty8) (pl (pd (.int .i64)) pz))) pz
def instr_Put_L0.g (F : T_instr_Put_L0) (v : instr_Put_L0.p.T) (k : KE) : Option Bool := F v.1.1 v.1.2.1 v.1.2.2.1 (fun y0 => k .ret ⟨fillS 23 [4] [(.bv 0 5 (.int .u8) y0)], [], 2⟩) (fun y0 => k (.exit 0) ⟨fillS 23 [0] [(.bv 0 5 (.int .u8) y0)], [], 2⟩)
theorem instr_Put_L0.step (S : T_instr_Put_L0) (F0 : T_octet_Put) : ∀ v k, exR 20 Try.f20 0 instr_Put_L0.p [⟨octet_Put.p, octet_Put.g F0⟩] [] [] (instr_Put_L0.g S) v k = instr_Put_L0.g (instr_Put_L0.body S F0) v k := fun v k => by kernel_rfl
theorem instr_Put_L0.ok : okL 20 Try.f20 1 0 instr_Put_L0.p (instr_Put_L0.g (instr_Put_L0 ROUNDS)) := loop2 (G := fun n => instr_Put_L0.g (instr_Put_L0 n)) (fun n => instr_Put_L0.step (instr_Put_L0 n) octet_Put) (.cons octet_Put.ok .nil) [] (by kernel_rfl) .nil (fun _ _ => rfl)
/-- function 20: sheerleg/instr.Put -/
abbrev T_instr_Put : Type := (List Int) → Tc2 → ((List Int) → Option Bool) → Option Bool
noncomputable def instr_Put.body (instr_numbers : T_instr_numbers) (instr_Put_L0 : T_instr_Put_L0) : T_instr_Put := fun ns188 t189 k1 =>
  (instr_numbers t189
  (fun t190 => (instr_Put_L0 ns188 t190 (0 : Int)
  (fun ns196 => (k1 ns196))
  (fun ns197 => (k1 ns197)))))
noncomputable def instr_Put : T_instr_Put := instr_Put.body instr_numbers (instr_Put_L0 ROUNDS)
def instr_Put.p : FPat := fp 20 (pl (pb 0 5 (.int .u8)) (pl (pd Ty8) pz)) pz
def instr_Put.g (F : T_instr_Put) (v : instr_Put.p.T) (k : KR) : Option Bool := F v.1.1 v.1.2.1 (fun y0 => k (.bv 0 5 (.int .u8) y0) [])
theorem instr_Put.eq (F0 : T_instr_numbers) (L0 : T_instr_Put_L0) : ∀ v k, exF Try.f20 instr_Put.p [⟨instr_numbers.p, instr_numbers.g F0⟩] [] [⟨0, instr_Put_L0.p, instr_Put_L0.g L0⟩] v k = instr_Put.g (instr_Put.body F0 L0) v k := fun v k => by kernel_rfl
theorem instr_Put.ok : okF 2 instr_Put.p (instr_Put.g instr_Put) := fn2 (instr_Put.eq instr_numbers (instr_Put_L0 ROUNDS)) Try.func20 (by kernel_rfl) (.cons instr_numbers.ok .nil) [0] (by kernel_rfl) (.cons instr_Put_L0.ok .nil)
/-- function 7: the loop in block 2 -/
abbrev T_fun_Put_L2 : Type := Tc3 → Int → Int → Tc4 → ((List Int) × Unit) → (Tc4 → ((List Int) × Unit) → Option Bool) → Option Bool
noncomputable def fun_Put_L2.body (fun_Put_L2 : T_fun_Put_L2) (instr_Put : T_instr_Put) : T_fun_Put_L2 := fun l183 n184 n185 t186 t187 k1 =>
  (cond_ (decide (n185 < n184)) (cond_ ((decide ((0 : Int) ≤ n185)) && (decide (n185 < (List.length l183 : Int)))) (instr_Put t187.1 (List.getD l183 (Int.toNat n185) (0, (0, (0, (0, (0, ()))))))
  (fun ns198 => (fun_Put_L2 l183 n184 (IntKind.wrap .i64 (n185 + (1 : Int))) t186 (ns198, ()) k1))) none) (k1 t186 t187))
noncomputable def fun_Put_L2 : Nat → T_fun_Put_L2
  | 0 => fun _ _ _ _ _ _ => none
  | n + 1 => fun_Put_L2.body (fun_Put_L2 n) instr_Put
def fun_Put_L2.p : LPat := lp 2 116 [3, 5, 72, 73, 74] (ps (pq [1, 0] 0 0) (ps (pq [1, 1] 0 0) (pl (pd Ty9) (pl (pd (.int .i64)) (pl (pd (.int .i64)) pz))))) (pl (po [1, 0] 27 9 (es Ty10 (pl eh pz))) (pl (po [1, 1] 51 1 (es Ty2 (pl eh pz))) pz))
def fun_Put_L2.g (F : T_fun_Put_L2) (v : fun_Put_L2.p.T) (k : KE) : Option Bool := F v.1.1 v.1.2.1 v.1.2.2.1 v.2.1.1 v.2.2.1.1 (fun y0 y1 => k (.exit 2) ⟨fillS 116 [3, 5] [(.ptr [1, 0] 0 0), (.ptr [1, 1] 0 0)], [([1, 0], ⟨27, 9, (.data Ty10 [y0])⟩), ([1, 1], ⟨51, 1, (.data Ty2 [y1])⟩)], 2⟩)
theorem fun_Put_L2.step (S : T_fun_Put_L2) (F0 : T_instr_Put) : ∀ v k, exR 7 Try.f7 2 fun_Put_L2.p [⟨instr_Put.p, instr_Put.g F0⟩] [] [] (fun_Put_L2.g S) v k = fun_Put_L2.g (fun_Put_L2.body S F0) v k := fun v k => by kernel_rfl
theorem fun_Put_L2.ok : okL 7 Try.f7 2 2 fun_Put_L2.p (fun_Put_L2.g (fun_Put_L2 ROUNDS)) := loop2 (G := fun n => fun_Put_L2.g (fun_Put_L2 n)) (fun n => fun_Put_L2.step (fun_Put_L2 n) instr_Put) (.cons instr_Put.ok .nil) [] (by kernel_rfl) .nil (fun _ _ => rfl)
/-- function 7: the loop in block 4 -/
abbrev T_fun_Put_L4 : Type := Tc0 → Int → Int → ((List Int) × Unit) → (((List Int) × Unit) → Option Bool) → Option Bool
noncomputable def fun_Put_L4.body (fun_Put_L4 : T_fun_Put_L4) (fun_flag : T_fun_flag) (fun_writer_putv2 : T_fun_writer_putv2) : T_fun_Put_L4 := fun l202 n203 n204 t205 k1 =>
  (cond_ (decide (n204 < n203)) (cond_ ((decide ((0 : Int) ≤ n204)) && (decide (n204 < (List.length l202 : Int)))) (fun_flag (List.getD l202 (Int.toNat n204) (0, (0, (false, ())))).2.2.1
  (fun n206 => (fun_writer_putv2 (1 : Int) [(List.getD l202 (Int.toNat n204) (0, (0, (false, ())))).1, (List.getD l202 (Int.toNat n204) (0, (0, (false, ())))).2.1, n206] t205
  (fun t207 => (fun_Put_L4 l202 n203 (IntKind.wrap .i64 (n204 + (1 : Int))) t207 k1))))) none) (k1 t205))
noncomputable def fun_Put_L4 : Nat → T_fun_Put_L4
  | 0 => fun _ _ _ _ _ => none
  | n + 1 => fun_Put_L4.body (fun_Put_L4 n) fun_flag fun_writer_putv2
def fun_Put_L4.p : LPat := lp 2 116 [5, 95, 96, 97] (ps (pq [1, 0] 0 0) (pl (pd Ty7) (pl (pd (.int .i64)) (pl (pd (.int .i64)) pz)))) (pl (po [1, 0] 51 1 (es Ty2 (pl eh pz))) pz)
def fun_Put_L4.g (F : T_fun_Put_L4) (v : fun_Put_L4.p.T) (k : KE) : Option Bool := F v.1.1 v.1.2.1 v.1.2.2.1 v.2.1.1 (fun y0 => k (.exit 4) ⟨fillS 116 [5] [(.ptr [1, 0] 0 0)], [([1, 0], ⟨51, 1, (.data Ty2 [y0])⟩)], 2⟩)
theorem fun_Put_L4.step (S : T_fun_Put_L4) (F0 : T_fun_flag) (F1 : T_fun_writer_putv2) : ∀ v k, exR 7 Try.f7 4 fun_Put_L4.p [⟨fun_flag.p, fun_flag.g F0⟩, ⟨fun_writer_putv2.p, fun_writer_putv2.g F1⟩] [] [] (fun_Put_L4.g S) v k = fun_Put_L4.g (fun_Put_L4.body S F0 F1) v k := fun v k => by kernel_rfl
theorem fun_Put_L4.ok : okL 7 Try.f7 2 4 fun_Put_L4.p (fun_Put_L4.g (fun_Put_L4 ROUNDS)) := loop2 (G := fun n => fun_Put_L4.g (fun_Put_L4 n)) (fun n => fun_Put_L4.step (fun_Put_L4 n) fun_flag fun_writer_putv2) (.cons fun_flag.ok (.cons fun_writer_putv2.ok .nil)) [] (by kernel_rfl) .nil (fun _ _ => rfl)
/-- function 7: sheerleg/fun.Put -/
abbrev T_fun_Put : Type := Tc4 → ((List Int) → Option Bool) → Option Bool
noncomputable def fun_Put.body (fun_writer_put : T_fun_writer_put) (fun_writer_putv1 : T_fun_writer_putv1) (fun_writer_putv2 : T_fun_writer_putv2) (fun_flag : T_fun_flag) (fun_Put_L0 : T_fun_Put_L0) (fun_Put_L2 : T_fun_Put_L2) (fun_Put_L4 : T_fun_Put_L4) : T_fun_Put := fun t174 k1 =>
  (fun_writer_put (1 : Int) [t174.1, (((List.length t174.2.1) : Nat) : Int)] []
  (fun t175 => (fun_writer_putv1 (1 : Int) t174.2.1 t175
  (fun t176 => (fun_writer_putv2 (2 : Int) [t174.2.2.1] t176
  (fun t177 => (fun_flag t174.2.2.2.1
  (fun n178 => (fun_writer_putv2 (1 : Int) [n178, t174.2.2.2.2.1, t174.2.2.2.2.2.1, (((List.length t174.2.2.2.2.2.2.1) : Nat) : Int)] t177
  (fun t179 => (fun_Put_L0 t174.2.2.2.2.2.2.1 (((List.length t174.2.2.2.2.2.2.1) : Nat) : Int) (0 : Int) t174 t179
  (fun t180 t181 => (fun_writer_putv2 (1 : Int) [(((List.length t180.2.2.2.2.2.2.2.1) : Nat) : Int)] t181
  (fun t182 => (fun_Put_L2 t180.2.2.2.2.2.2.2.1 (((List.length t180.2.2.2.2.2.2.2.1) : Nat) : Int) (0 : Int) t180 t182
  (fun t199 t200 => (fun_writer_putv2 (1 : Int) [(((List.length t199.2.2.2.2.2.2.2.2.1) : Nat) : Int)] t200
  (fun t201 => (fun_Put_L4 t199.2.2.2.2.2.2.2.2.1 (((List.length t199.2.2.2.2.2.2.2.2.1) : Nat) : Int) (0 : Int) t201
  (fun t208 => (k1 t208.1)))))))))))))))))))))
noncomputable def fun_Put : T_fun_Put := fun_Put.body fun_writer_put fun_writer_putv1 fun_writer_putv2 fun_flag (fun_Put_L0 ROUNDS) (fun_Put_L2 ROUNDS) (fun_Put_L4 ROUNDS)
def fun_Put.p : FPat := fp 7 (ps (pk 0) (pl (pd Ty10) pz)) pz
def fun_Put.g (F : T_fun_Put) (v : fun_Put.p.T) (k : KR) : Option Bool := F v.1.1 (fun y0 => k (.d ⟨Ty0, y0⟩) [])
theorem fun_Put.eq (F0 : T_fun_writer_put) (F1 : T_fun_writer_putv1) (F2 : T_fun_writer_putv2) (F3 : T_fun_flag) (L0 : T_fun_Put_L0) (L1 : T_fun_Put_L2) (L2 : T_fun_Put_L4) : ∀ v k, exF Try.f7 fun_Put.p [⟨fun_writer_put.p, fun_writer_put.g F0⟩, ⟨fun_writer_putv1.p, fun_writer_putv1.g F1⟩, ⟨fun_writer_putv2.p, fun_writer_putv2.g F2⟩, ⟨fun_flag.p, fun_flag.g F3⟩] [] [⟨0, fun_Put_L0.p, fun_Put_L0.g L0⟩, ⟨2, fun_Put_L2.p, fun_Put_L2.g L1⟩, ⟨4, fun_Put_L4.p, fun_Put_L4.g L2⟩] v k = fun_Put.g (fun_Put.body F0 F1 F2 F3 L0 L1 L2) v k := fun v k => by kernel_rfl
theorem fun_Put.ok : okF 3 fun_Put.p (fun_Put.g fun_Put) := fn2 (fun_Put.eq fun_writer_put fun_writer_putv1 fun_writer_putv2 fun_flag (fun_Put_L0 ROUNDS) (fun_Put_L2 ROUNDS) (fun_Put_L4 ROUNDS)) Try.func7 (by kernel_rfl) (.cons fun_writer_put.ok (.cons fun_writer_putv1.ok (.cons fun_writer_putv2.ok (.cons fun_flag.ok .nil)))) [0, 2, 4] (by kernel_rfl) (.cons fun_Put_L0.ok (.cons fun_Put_L2.ok (.cons fun_Put_L4.ok .nil)))
/-- function 21: the loop in block 2 -/
abbrev T_ref02_Put_L0_L2 : Type := Int → Int → Int → Int → (List Int) → (Int → Int → Int → (List Int) → Option Bool) → Option Bool
noncomputable def ref02_Put_L0_L2.body (ref02_Put_L0_L2 : T_ref02_Put_L0_L2) : T_ref02_Put_L0_L2 := fun n216 n217 n218 n219 ns220 k1 =>
  (cond_ (decide (n219 < n217)) (ref02_Put_L0_L2 n216 n217 (IntKind.wrap .u64 (Int.tdiv n218 (256 : Int))) (IntKind.wrap .i64 (n219 + (1 : Int))) ns220 k1) (k1 n216 n217 n218 ns220))
noncomputable def ref02_Put_L0_L2 : Nat → T_ref02_Put_L0_L2
  | 0 => fun _ _ _ _ _ _ => none
  | n + 1 => ref02_Put_L0_L2.body (ref02_Put_L0_L2 n)
def ref02_Put_L0_L2.p : LPat := lp 2 45 [7, 8, 9, 10, 11] (ps (pr [1, 0]) (pl (pd (.int .u64)) (pl (pd (.int .i64)) (pl (pd (.int .u64)) (pl (pd (.int .i64)) pz))))) (pl (po [1, 0] 5 1 (ed (.int .u8))) pz)
def ref02_Put_L0_L2.g (F : T_ref02_Put_L0_L2) (v : ref02_Put_L0_L2.p.T) (k : KE) : Option Bool := F v.1.1 v.1.2.1 v.1.2.2.1 v.1.2.2.2.1 v.2.1 (fun y0 y1 y2 y3 => k (.exit 2) ⟨fillS 45 [7, 8, 9, 10] [(.ref [1, 0]), (.d ⟨(.int .u64), y0⟩), (.d ⟨(.int .i64), y1⟩), (.d ⟨(.int .u64), y2⟩)], [([1, 0], ⟨5, 1, (.data (.int .u8) y3)⟩)], 2⟩)
theorem ref02_Put_L0_L2.step (S : T_ref02_Put_L0_L2) : ∀ v k, exR 21 Try.f21 2 ref02_Put_L0_L2.p [] [] [] (ref02_Put_L0_L2.g S) v k = ref02_Put_L0_L2.g (ref02_Put_L0_L2.body S) v k := fun v k => by kernel_rfl
theorem ref02_Put_L0_L2.ok : okL 21 Try.f21 0 2 ref02_Put_L0_L2.p (ref02_Put_L0_L2.g (ref02_Put_L0_L2 ROUNDS)) := loop2 (G := fun n => ref02_Put_L0_L2.g (ref02_Put_L0_L2 n)) (fun n => ref02_Put_L0_L2.step (ref02_Put_L0_L2 n)) .nil [] (by kernel_rfl) .nil (fun _ _ => rfl)
/-- function 21: the loop in block 0 -/
abbrev T_ref02_Put_L0 : Type := Int → Int → (List Int) → ((List Int) → Option Bool) → Option Bool
noncomputable def ref02_Put_L0.body (ref02_Put_L0 : T_ref02_Put_L0) (ref02_Put_L0_L2 : T_ref02_Put_L0_L2) : T_ref02_Put_L0 := fun n213 n214 ns215 k1 =>
  (cond_ (decide (n214 ≥ (0 : Int))) (ref02_Put_L0_L2 n213 n214 n213 (0 : Int) ns215
  (fun n221 n222 n223 ns224 => (cond_ (Nat.ble (((List.length ns224) + (List.length ((IntKind.wrap .u8 (Int.tmod n223 (256 : Int))) :: []))) * (1 : Nat)) (140737488355328 : Nat)) (ref02_Put_L0 n221 (IntKind.wrap .i64 (n222 - (1 : Int))) (ns224 ++ ((IntKind.wrap .u8 (Int.tmod n223 (256 : Int))) :: [])) k1) none))) (k1 ns215))
noncomputable def ref02_Put_L0 : Nat → T_ref02_Put_L0
  | 0 => fun _ _ _ _ => none
  | n + 1 => ref02_Put_L0.body (ref02_Put_L0 n) (ref02_Put_L0_L2 ROUNDS)
def ref02_Put_L0.p : LPat := lp 2 45 [7, 8, 9] (ps (pr [1, 0]) (pl (pd (.int .u64)) (pl (pd (.int .i64)) pz))) (pl (po [1, 0] 5 1 (ed (.int .u8))) pz)
def ref02_Put_L0.g (F : T_ref02_Put_L0) (v : ref02_Put_L0.p.T) (k : KE) : Option Bool := F v.1.1 v.1.2.1 v.2.1 (fun y0 => k (.exit 0) ⟨fillS 45 [7] [(.ref [1, 0])], [([1, 0], ⟨5, 1, (.data (.int .u8) y0)⟩)], 2⟩)
theorem ref02_Put_L0.step (S : T_ref02_Put_L0) (L0 : T_ref02_Put_L0_L2) : ∀ v k, exR 21 Try.f21 0 ref02_Put_L0.p [] [] [⟨2, ref02_Put_L0_L2.p, ref02_Put_L0_L2.g L0⟩] (ref02_Put_L0.g S) v k = ref02_Put_L0.g (ref02_Put_L0.body S L0) v k := fun v k => by kernel_rfl
theorem ref02_Put_L0.ok : okL 21 Try.f21 0 0 ref02_Put_L0.p (ref02_Put_L0.g (ref02_Put_L0 ROUNDS)) := loop2 (G := fun n => ref02_Put_L0.g (ref02_Put_L0 n)) (fun n => ref02_Put_L0.step (ref02_Put_L0 n) (ref02_Put_L0_L2 ROUNDS)) .nil [2] (by kernel_rfl) (.cons ref02_Put_L0_L2.ok .nil) (fun _ _ => rfl)
/-- function 21: sheerleg/sheerlegref02.Put -/
abbrev T_ref02_Put : Type := Int → Int → ((List Int) → Option Bool) → Option Bool
noncomputable def ref02_Put.body (ref02_Put_L0 : T_ref02_Put_L0) : T_ref02_Put := fun n211 n212 k1 =>
  (cond_ (! (decide (n212 < (1 : Int)))) (cond_ (decide (n212 > (8 : Int))) (k1 []) (ref02_Put_L0 (IntKind.wrap .u64 n211) (IntKind.wrap .i64 (n212 - (1 : Int))) []
  (fun ns225 => (k1 ns225)))) (k1 []))
noncomputable def ref02_Put : T_ref02_Put := ref02_Put.body (ref02_Put_L0 ROUNDS)
def ref02_Put.p : FPat := fp 21 (ps (pk 0) (pl (pd (.int .i64)) (pl (pd (.int .i64)) pz))) pz
def ref02_Put.g (F : T_ref02_Put) (v : ref02_Put.p.T) (k : KR) : Option Bool := F v.1.1 v.1.2.1 (fun y0 => k (.ref [1, 0]) [([1, 0], ⟨5, 1, (.data (.int .u8) y0)⟩)])
theorem ref02_Put.eq (L0 : T_ref02_Put_L0) : ∀ v k, exF Try.f21 ref02_Put.p [] [] [⟨0, ref02_Put_L0.p, ref02_Put_L0.g L0⟩] v k = ref02_Put.g (ref02_Put.body L0) v k := fun v k => by kernel_rfl
theorem ref02_Put.ok : okF 1 ref02_Put.p (ref02_Put.g ref02_Put) := fn2 (ref02_Put.eq (ref02_Put_L0 ROUNDS)) Try.func21 (by kernel_rfl) .nil [0] (by kernel_rfl) (.cons ref02_Put_L0.ok .nil)
/-- function 21: the loop in block 2 -/
abbrev T_ref02_Putv1_L0_L2 : Type := Int → Int → Int → Int → (List Int) → (Int → Int → Int → (List Int) → Option Bool) → Option Bool
noncomputable def ref02_Putv1_L0_L2.body (ref02_Putv1_L0_L2 : T_ref02_Putv1_L0_L2) : T_ref02_Putv1_L0_L2 := fun n233 n234 n235 n236 ns237 k1 =>
  (cond_ (decide (n236 < n234)) (ref02_Putv1_L0_L2 n233 n234 (IntKind.wrap .u64 (Int.tdiv n235 (256 : Int))) (IntKind.wrap .i64 (n236 + (1 : Int))) ns237 k1) (k1 n233 n234 n235 ns237))
noncomputable def ref02_Putv1_L0_L2 : Nat → T_ref02_Putv1_L0_L2
  | 0 => fun _ _ _ _ _ _ => none
  | n + 1 => ref02_Putv1_L0_L2.body (ref02_Putv1_L0_L2 n)
def ref02_Putv1_L0_L2.p : LPat := lp 2 45 [7, 8, 9, 10, 11] (ps (pr [1, 0]) (pl (pd (.int .u64)) (pl (pd (.int .i64)) (pl (pd (.int .u64)) (pl (pd (.int .i64)) pz))))) (pl (po [1, 0] 5 1 (ed (.int .u8))) pz)
def ref02_Putv1_L0_L2.g (F : T_ref02_Putv1_L0_L2) (v : ref02_Putv1_L0_L2.p.T) (k : KE) : Option Bool := F v.1.1 v.1.2.1 v.1.2.2.1 v.1.2.2.2.1 v.2.1 (fun y0 y1 y2 y3 => k (.exit 2) ⟨fillS 45 [7, 8, 9, 10] [(.ref [1, 0]), (.d ⟨(.int .u64), y0⟩), (.d ⟨(.int .i64), y1⟩), (.d ⟨(.int .u64), y2⟩)], [([1, 0], ⟨5, 1, (.data (.int .u8) y3)⟩)], 2⟩)
theorem ref02_Putv1_L0_L2.step (S : T_ref02_Putv1_L0_L2) : ∀ v k, exR 21 Try.f21 2 ref02_Putv1_L0_L2.p [] [] [] (ref02_Putv1_L0_L2.g S) v k = ref02_Putv1_L0_L2.g (ref02_Putv1_L0_L2.body S) v k := fun v k => by kernel_rfl
theorem ref02_Putv1_L0_L2.ok : okL 21 Try.f21 0 2 ref02_Putv1_L0_L2.p (ref02_Putv1_L0_L2.g (ref02_Putv1_L0_L2 ROUNDS)) := loop2 (G := fun n => ref02_Putv1_L0_L2.g (ref02_Putv1_L0_L2 n)) (fun n => ref02_Putv1_L0_L2.step (ref02_Putv1_L0_L2 n)) .nil [] (by kernel_rfl) .nil (fun _ _ => rfl)
/-- function 21: the loop in block 0 -/
abbrev T_ref02_Putv1_L0 : Type := Int → Int → (List Int) → ((List Int) → Option Bool) → Option Bool
noncomputable def ref02_Putv1_L0.body (ref02_Putv1_L0 : T_ref02_Putv1_L0) (ref02_Putv1_L0_L2 : T_ref02_Putv1_L0_L2) : T_ref02_Putv1_L0 := fun n230 n231 ns232 k1 =>
  (cond_ (decide (n231 ≥ (0 : Int))) (ref02_Putv1_L0_L2 n230 n231 n230 (0 : Int) ns232
  (fun n238 n239 n240 ns241 => (cond_ (Nat.ble (((List.length ns241) + (List.length ((IntKind.wrap .u8 (Int.tmod n240 (256 : Int))) :: []))) * (1 : Nat)) (140737488355328 : Nat)) (ref02_Putv1_L0 n238 (IntKind.wrap .i64 (n239 - (1 : Int))) (ns241 ++ ((IntKind.wrap .u8 (Int.tmod n240 (256 : Int))) :: [])) k1) none))) (k1 ns232))
noncomputable def ref02_Putv1_L0 : Nat → T_ref02_Putv1_L0
  | 0 => fun _ _ _ _ => none
  | n + 1 => ref02_Putv1_L0.body (ref02_Putv1_L0 n) (ref02_Putv1_L0_L2 ROUNDS)
def ref02_Putv1_L0.p : LPat := lp 2 45 [7, 8, 9] (ps (pr [1, 0]) (pl (pd (.int .u64)) (pl (pd (.int .i64)) pz))) (pl (po [1, 0] 5 1 (ed (.int .u8))) pz)
def ref02_Putv1_L0.g (F : T_ref02_Putv1_L0) (v : ref02_Putv1_L0.p.T) (k : KE) : Option Bool := F v.1.1 v.1.2.1 v.2.1 (fun y0 => k (.exit 0) ⟨fillS 45 [7] [(.ref [1, 0])], [([1, 0], ⟨5, 1, (.data (.int .u8) y0)⟩)], 2⟩)
theorem ref02_Putv1_L0.step (S : T_ref02_Putv1_L0) (L0 : T_ref02_Putv1_L0_L2) : ∀ v k, exR 21 Try.f21 0 ref02_Putv1_L0.p [] [] [⟨2, ref02_Putv1_L0_L2.p, ref02_Putv1_L0_L2.g L0⟩] (ref02_Putv1_L0.g S) v k = ref02_Putv1_L0.g (ref02_Putv1_L0.body S L0) v k := fun v k => by kernel_rfl
theorem ref02_Putv1_L0.ok : okL 21 Try.f21 0 0 ref02_Putv1_L0.p (ref02_Putv1_L0.g (ref02_Putv1_L0 ROUNDS)) := loop2 (G := fun n => ref02_Putv1_L0.g (ref02_Putv1_L0 n)) (fun n => ref02_Putv1_L0.step (ref02_Putv1_L0 n) (ref02_Putv1_L0_L2 ROUNDS)) .nil [2] (by kernel_rfl) (.cons ref02_Putv1_L0_L2.ok .nil) (fun _ _ => rfl)
/-- function 21: sheerleg/sheerlegref02.Put -/
abbrev T_ref02_Putv1 : Type := (List Int) → Int → Int → ((List Int) → Option Bool) → Option Bool
noncomputable def ref02_Putv1.body (ref02_Putv1_L0 : T_ref02_Putv1_L0) : T_ref02_Putv1 := fun ns227 n228 n229 k1 =>
  (cond_ (Nat.ble ((List.length ns227) * (1 : Nat)) (140737488355328 : Nat)) (cond_ (! (decide (n229 < (1 : Int)))) (cond_ (decide (n229 > (8 : Int))) (k1 ns227) (ref02_Putv1_L0 (IntKind.wrap .u64 n228) (IntKind.wrap .i64 (n229 - (1 : Int))) ns227
  (fun ns242 => (k1 ns242)))) (k1 ns227)) none)
noncomputable def ref02_Putv1 : T_ref02_Putv1 := ref02_Putv1.body (ref02_Putv1_L0 ROUNDS)
def ref02_Putv1.p : FPat := fp 21 (pl (pb 1 5 (.int .u8)) (pl (pd (.int .i64)) (pl (pd (.int .i64)) pz))) pz
def ref02_Putv1.g (F : T_ref02_Putv1) (v : ref02_Putv1.p.T) (k : KR) : Option Bool := F v.1.1 v.1.2.1 v.1.2.2.1 (fun y0 => k (.ref [1, 0]) [([1, 0], ⟨5, 1, (.data (.int .u8) y0)⟩)])
theorem ref02_Putv1.eq (L0 : T_ref02_Putv1_L0) : ∀ v k, exF Try.f21 ref02_Putv1.p [] [] [⟨0, ref02_Putv1_L0.p, ref02_Putv1_L0.g L0⟩] v k = ref02_Putv1.g (ref02_Putv1.body L0) v k := fun v k => by kernel_rfl
theorem ref02_Putv1.ok : okF 1 ref02_Putv1.p (ref02_Putv1.g ref02_Putv1) := fn2 (ref02_Putv1.eq (ref02_Putv1_L0 ROUNDS)) Try.func21 (by kernel_rfl) .nil [0] (by kernel_rfl) (.cons ref02_Putv1_L0.ok .nil)
/-- function 8: the loop in block 0 -/
abbrev T_ref16_Put_L0 : Type := Int → (List Int) → Tc4 → ((List Int) → Tc4 → Option Bool) → Option Bool
noncomputable def ref16_Put_L0.body (ref16_Put_L0 : T_ref16_Put_L0) (ref02_Putv1 : T_ref02_Putv1) : T_ref16_Put_L0 := fun n244 ns245 t246 k1 =>
  (cond_ (decide (n244 < (((List.length t246.2.1) : Nat) : Int))) (cond_ ((decide ((0 : Int) ≤ n244)) && (decide (n244 < (((List.length t246.2.1) : Nat) : Int)))) (ref02_Putv1 ns245 (List.getD t246.2.1 (Int.toNat n244) (0 : Int)) (1 : Int)
  (fun ns247 => (ref16_Put_L0 (IntKind.wrap .i64 (n244 + (1 : Int))) ns247 t246 k1))) none) (k1 ns245 t246))
noncomputable def ref16_Put_L0 : Nat → T_ref16_Put_L0
  | 0 => fun _ _ _ _ => none
  | n + 1 => ref16_Put_L0.body (ref16_Put_L0 n) ref02_Putv1
def ref16_Put_L0.p : LPat := lp 2 99 [0, 3, 5] (ps (pr [1, 0]) (ps (pq [1, 1] 0 0) (pl (pd (.int .i64)) pz))) (pl (po [1, 0] 5 1 (ed (.int .u8))) (pl (po [1, 1] 27 9 (es Ty10 (pl eh pz))) pz))
def ref16_Put_L0.g (F : T_ref16_Put_L0) (v : ref16_Put_L0.p.T) (k : KE) : Option Bool := F v.1.1 v.2.1 v.2.2.1.1 (fun y0 y1 => k (.exit 0) ⟨fillS 99 [0, 3] [(.ref [1, 0]), (.ptr [1, 1] 0 0)], [([1, 0], ⟨5, 1, (.data (.int .u8) y0)⟩), ([1, 1], ⟨27, 9, (.data Ty10 [y1])⟩)], 2⟩)
theorem ref16_Put_L0.step (S : T_ref16_Put_L0) (F0 : T_ref02_Putv1) : ∀ v k, exR 8 Try.f8 0 ref16_Put_L0.p [⟨ref02_Putv1.p, ref02_Putv1.g F0⟩] [] [] (ref16_Put_L0.g S) v k = ref16_Put_L0.g (ref16_Put_L0.body S F0) v k := fun v k => by kernel_rfl
theorem ref16_Put_L0.ok : okL 8 Try.f8 1 0 ref16_Put_L0.p (ref16_Put_L0.g (ref16_Put_L0 ROUNDS)) := loop2 (G := fun n => ref16_Put_L0.g (ref16_Put_L0 n)) (fun n => ref16_Put_L0.step (ref16_Put_L0 n) ref02_Putv1) (.cons ref02_Putv1.ok .nil) [] (by kernel_rfl) .nil (fun _ _ => rfl)
/-- function 22: sheerleg/sheerlegref13.Flag -/
abbrev T_ref13_Flag : Type := Bool → (Int → Option Bool) → Option Bool
noncomputable def ref13_Flag.body : T_ref13_Flag := fun b251 k1 =>
  (cond_ b251 (k1 (1 : Int)) (k1 (0 : Int)))
noncomputable def ref13_Flag : T_ref13_Flag := ref13_Flag.body
def ref13_Flag.p : FPat := fp 22 (pl (pd .bool) pz) pz
def ref13_Flag.g (F : T_ref13_Flag) (v : ref13_Flag.p.T) (k : KR) : Option Bool := F v.1.1 (fun y0 => k (.d ⟨(.int .i64), y0⟩) [])
theorem ref13_Flag.eq : ∀ v k, exF Try.f22 ref13_Flag.p [] [] [] v k = ref13_Flag.g (ref13_Flag.body) v k := fun v k => by kernel_rfl
theorem ref13_Flag.ok : okF 1 ref13_Flag.p (ref13_Flag.g ref13_Flag) := fn2 (ref13_Flag.eq) Try.func22 (by kernel_rfl) .nil [] (by kernel_rfl) .nil
/-- function 8: the loop in block 2 -/
abbrev T_ref16_Put_L2 : Type := Int → (List Int) → Tc4 → ((List Int) → Tc4 → Option Bool) → Option Bool
noncomputable def ref16_Put_L2.body (ref16_Put_L2 : T_ref16_Put_L2) (ref02_Putv1 : T_ref02_Putv1) : T_ref16_Put_L2 := fun n257 ns258 t259 k1 =>
  (cond_ (decide (n257 < (((List.length t259.2.2.2.2.2.2.1) : Nat) : Int))) (cond_ ((decide ((0 : Int) ≤ n257)) && (decide (n257 < (((List.length t259.2.2.2.2.2.2.1) : Nat) : Int)))) (ref02_Putv1 ns258 (List.getD t259.2.2.2.2.2.2.1 (Int.toNat n257) (0, (0, ()))).1 (1 : Int)
  (fun ns260 => (cond_ ((decide ((0 : Int) ≤ n257)) && (decide (n257 < (((List.length t259.2.2.2.2.2.2.1) : Nat) : Int)))) (ref02_Putv1 ns260 (List.getD t259.2.2.2.2.2.2.1 (Int.toNat n257) (0, (0, ()))).2.1 (2 : Int)
  (fun ns261 => (ref16_Put_L2 (IntKind.wrap .i64 (n257 + (1 : Int))) ns261 t259 k1))) none))) none) (k1 ns258 t259))
noncomputable def ref16_Put_L2 : Nat → T_ref16_Put_L2
  | 0 => fun _ _ _ _ => none
  | n + 1 => ref16_Put_L2.body (ref16_Put_L2 n) ref02_Putv1
def ref16_Put_L2.p : LPat := lp 2 99 [0, 3, 6] (ps (pr [1, 0]) (ps (pq [1, 1] 0 0) (pl (pd (.int .i64)) pz))) (pl (po [1, 0] 5 1 (ed (.int .u8))) (pl (po [1, 1] 27 9 (es Ty10 (pl eh pz))) pz))
def ref16_Put_L2.g (F : T_ref16_Put_L2) (v : ref16_Put_L2.p.T) (k : KE) : Option Bool := F v.1.1 v.2.1 v.2.2.1.1 (fun y0 y1 => k (.exit 2) ⟨fillS 99 [0, 3] [(.ref [1, 0]), (.ptr [1, 1] 0 0)], [([1, 0], ⟨5, 1, (.data (.int .u8) y0)⟩), ([1, 1], ⟨27, 9, (.data Ty10 [y1])⟩)], 2⟩)
theorem ref16_Put_L2.step (S : T_ref16_Put_L2) (F0 : T_ref02_Putv1) : ∀ v k, exR 8 Try.f8 2 ref16_Put_L2.p [⟨ref02_Putv1.p, ref02_Putv1.g F0⟩] [] [] (ref16_Put_L2.g S) v k = ref16_Put_L2.g (ref16_Put_L2.body S F0) v k := fun v k => by kernel_rfl
theorem ref16_Put_L2.ok : okL 8 Try.f8 1 2 ref16_Put_L2.p (ref16_Put_L2.g (ref16_Put_L2 ROUNDS)) := loop2 (G := fun n => ref16_Put_L2.g (ref16_Put_L2 n)) (fun n => ref16_Put_L2.step (ref16_Put_L2 n) ref02_Putv1) (.cons ref02_Putv1.ok .nil) [] (by kernel_rfl) .nil (fun _ _ => rfl)
/-- function 23: sheerleg/sheerlegref08.Put -/
abbrev T_ref08_Put : Type := (List Int) → Tc2 → ((List Int) → Option Bool) → Option Bool
noncomputable def ref08_Put.body (ref02_Putv1 : T_ref02_Putv1) : T_ref08_Put := fun ns268 t269 k1 =>
  (ref02_Putv1 ns268 t269.1 (1 : Int)
  (fun ns270 => (ref02_Putv1 ns270 t269.2.1 (1 : Int)
  (fun ns271 => (ref02_Putv1 ns271 t269.2.2.1 (1 : Int)
  (fun ns272 => (ref02_Putv1 ns272 t269.2.2.2.1 (1 : Int)
  (fun ns273 => (ref02_Putv1 ns273 t269.2.2.2.2.1 (4 : Int)
  (fun ns274 => (k1 ns274)))))))))))
noncomputable def ref08_Put : T_ref08_Put := ref08_Put.body ref02_Putv1
def ref08_Put.p : FPat := fp 23 (pl (pb 1 5 (.int .u8)) (pl (pd Ty8) pz)) pz
def ref08_Put.g (F : T_ref08_Put) (v : ref08_Put.p.T) (k : KR) : Option Bool := F v.1.1 v.1.2.1 (fun y0 => k (.ref [1, 0]) [([1, 0], ⟨5, 1, (.data (.int .u8) y0)⟩)])
theorem ref08_Put.eq (F0 : T_ref02_Putv1) : ∀ v k, exF Try.f23 ref08_Put.p [⟨ref02_Putv1.p, ref02_Putv1.g F0⟩] [] [] v k = ref08_Put.g (ref08_Put.body F0) v k := fun v k => by kernel_rfl
theorem ref08_Put.ok : okF 2 ref08_Put.p (ref08_Put.g ref08_Put) := fn2 (ref08_Put.eq ref02_Putv1) Try.func23 (by kernel_rfl) (.cons ref02_Putv1.ok .nil) [] (by kernel_rfl) .nil
/-- function 8: the loop in block 4 -/
abbrev T_ref16_Put_L4 : Type := Int → (List Int) → Tc4 → ((List Int) → Tc4 → Option Bool) → Option Bool
noncomputable def ref16_Put_L4.body (ref16_Put_L4 : T_ref16_Put_L4) (ref08_Put : T_ref08_Put) : T_ref16_Put_L4 := fun n265 ns266 t267 k1 =>
  (cond_ (decide (n265 < (((List.length t267.2.2.2.2.2.2.2.1) : Nat) : Int))) (cond_ ((decide ((0 : Int) ≤ n265)) && (decide (n265 < (((List.length t267.2.2.2.2.2.2.2.1) : Nat) : Int)))) (ref08_Put ns266 (List.getD t267.2.2.2.2.2.2.2.1 (Int.toNat n265) (0, (0, (0, (0, (0, ()))))))
  (fun ns275 => (ref16_Put_L4 (IntKind.wrap .i64 (n265 + (1 : Int))) ns275 t267 k1))) none) (k1 ns266 t267))
noncomputable def ref16_Put_L4 : Nat → T_ref16_Put_L4
  | 0 => fun _ _ _ _ => none
  | n + 1 => ref16_Put_L4.body (ref16_Put_L4 n) ref08_Put
def ref16_Put_L4.p : LPat := lp 2 99 [0, 3, 7] (ps (pr [1, 0]) (ps (pq [1, 1] 0 0) (pl (pd (.int .i64)) pz))) (pl (po [1, 0] 5 1 (ed (.int .u8))) (pl (po [1, 1] 27 9 (es Ty10 (pl eh pz))) pz))
def ref16_Put_L4.g (F : T_ref16_Put_L4) (v : ref16_Put_L4.p.T) (k : KE) : Option Bool := F v.1.1 v.2.1 v.2.2.1.1 (fun y0 y1 => k (.exit 4) ⟨fillS 99 [0, 3] [(.ref [1, 0]), (.ptr [1, 1] 0 0)], [([1, 0], ⟨5, 1, (.data (.int .u8) y0)⟩), ([1, 1], ⟨27, 9, (.data Ty10 [y1])⟩)], 2⟩)
theorem ref16_Put_L4.step (S : T_ref16_Put_L4) (F0 : T_ref08_Put) : ∀ v k, exR 8 Try.f8 4 ref16_Put_L4.p [⟨ref08_Put.p, ref08_Put.g F0⟩] [] [] (ref16_Put_L4.g S) v k = ref16_Put_L4.g (ref16_Put_L4.body S F0) v k := fun v k => by kernel_rfl
theorem ref16_Put_L4.ok : okL 8 Try.f8 2 4 ref16_Put_L4.p (ref16_Put_L4.g (ref16_Put_L4 ROUNDS)) := loop2 (G := fun n => ref16_Put_L4.g (ref16_Put_L4 n)) (fun n => ref16_Put_L4.step (ref16_Put_L4 n) ref08_Put) (.cons ref08_Put.ok .nil) [] (by kernel_rfl) .nil (fun _ _ => rfl)
/-- function 24: the loop in block 0 -/
abbrev T_ref15_PutRelocs_L0 : Type := Tc0 → Int → (List Int) → ((List Int) → Option Bool) → Option Bool
noncomputable def ref15_PutRelocs_L0.body (ref15_PutRelocs_L0 : T_ref15_PutRelocs_L0) (ref02_Putv1 : T_ref02_Putv1) (ref13_Flag : T_ref13_Flag) : T_ref15_PutRelocs_L0 := fun ts281 n282 ns283 k1 =>
  (cond_ (decide (n282 < (List.length ts281 : Int))) (cond_ ((decide ((0 : Int) ≤ n282)) && (decide (n282 < (List.length ts281 : Int)))) (ref02_Putv1 ns283 (List.getD ts281 (Int.toNat n282) (0, (0, (false, ())))).1 (1 : Int)
  (fun ns284 => (cond_ ((decide ((0 : Int) ≤ n282)) && (decide (n282 < (List.length ts281 : Int)))) (ref02_Putv1 ns284 (List.getD ts281 (Int.toNat n282) (0, (0, (false, ())))).2.1 (1 : Int)
  (fun ns285 => (cond_ ((decide ((0 : Int) ≤ n282)) && (decide (n282 < (List.length ts281 : Int)))) (ref13_Flag (List.getD ts281 (Int.toNat n282) (0, (0, (false, ())))).2.2.1
  (fun n286 => (ref02_Putv1 ns285 n286 (1 : Int)
  (fun ns287 => (ref15_PutRelocs_L0 ts281 (IntKind.wrap .i64 (n282 + (1 : Int))) ns287 k1))))) none))) none))) none) (k1 ns283))
noncomputable def ref15_PutRelocs_L0 : Nat → T_ref15_PutRelocs_L0
  | 0 => fun _ _ _ _ => none
  | n + 1 => ref15_PutRelocs_L0.body (ref15_PutRelocs_L0 n) ref02_Putv1 ref13_Flag
def ref15_PutRelocs_L0.p : LPat := lp 2 39 [0, 1, 5] (ps (pr [1, 0]) (pl (pb 0 60 Ty4) (pl (pd (.int .i64)) pz))) (pl (po [1, 0] 5 1 (ed (.int .u8))) pz)
def ref15_PutRelocs_L0.g (F : T_ref15_PutRelocs_L0) (v : ref15_PutRelocs_L0.p.T) (k : KE) : Option Bool := F v.1.1 v.1.2.1 v.2.1 (fun y0 => k (.exit 0) ⟨fillS 39 [0] [(.ref [1, 0])], [([1, 0], ⟨5, 1, (.data (.int .u8) y0)⟩)], 2⟩)
theorem ref15_PutRelocs_L0.step (S : T_ref15_PutRelocs_L0) (F0 : T_ref02_Putv1) (F1 : T_ref13_Flag) : ∀ v k, exR 24 Try.f24 0 ref15_PutRelocs_L0.p [⟨ref02_Putv1.p, ref02_Putv1.g F0⟩, ⟨ref13_Flag.p, ref13_Flag.g F1⟩] [] [] (ref15_PutRelocs_L0.g S) v k = ref15_PutRelocs_L0.g (ref15_PutRelocs_L0.body S F0 F1) v k := fun v k => by kernel_rfl
theorem ref15_PutRelocs_L0.ok : okL 24 Try.f24 1 0 ref15_PutRelocs_L0.p (ref15_PutRelocs_L0.g (ref15_PutRelocs_L0 ROUNDS)) := loop2 (G := fun n => ref15_PutRelocs_L0.g (ref15_PutRelocs_L0 n)) (fun n => ref15_PutRelocs_L0.step (ref15_PutRelocs_L0 n) ref02_Putv1 ref13_Flag) (.cons ref02_Putv1.ok (.cons ref13_Flag.ok .nil)) [] (by kernel_rfl) .nil (fun _ _ => rfl)
/-- function 24: sheerleg/sheerlegref15.PutRelocs -/
abbrev T_ref15_PutRelocs : Type := (List Int) → Tc0 → ((List Int) → Option Bool) → Option Bool
noncomputable def ref15_PutRelocs.body (ref02_Putv1 : T_ref02_Putv1) (ref15_PutRelocs_L0 : T_ref15_PutRelocs_L0) : T_ref15_PutRelocs := fun ns278 ts279 k1 =>
  (ref02_Putv1 ns278 (List.length ts279 : Int) (1 : Int)
  (fun ns280 => (ref15_PutRelocs_L0 ts279 (0 : Int) ns280
  (fun ns288 => (k1 ns288)))))
noncomputable def ref15_PutRelocs : T_ref15_PutRelocs := ref15_PutRelocs.body ref02_Putv1 (ref15_PutRelocs_L0 ROUNDS)
def ref15_PutRelocs.p : FPat := fp 24 (pl (pb 1 5 (.int .u8)) (pl (pb 0 60 Ty4) pz)) pz
def ref15_PutRelocs.g (F : T_ref15_PutRelocs) (v : ref15_PutRelocs.p.T) (k : KR) : Option Bool := F v.1.1 v.1.2.1 (fun y0 => k (.ref [1, 0]) [([1, 0], ⟨5, 1, (.data (.int .u8) y0)⟩)])
theorem ref15_PutRelocs.eq (F0 : T_ref02_Putv1) (L0 : T_ref15_PutRelocs_L0) : ∀ v k, exF Try.f24 ref15_PutRelocs.p [⟨ref02_Putv1.p, ref02_Putv1.g F0⟩] [] [⟨0, ref15_PutRelocs_L0.p, ref15_PutRelocs_L0.g L0⟩] v k = ref15_PutRelocs.g (ref15_PutRelocs.body F0 L0) v k := fun v k => by kernel_rfl
theorem ref15_PutRelocs.ok : okF 2 ref15_PutRelocs.p (ref15_PutRelocs.g ref15_PutRelocs) := fn2 (ref15_PutRelocs.eq ref02_Putv1 (ref15_PutRelocs_L0 ROUNDS)) Try.func24 (by kernel_rfl) (.cons ref02_Putv1.ok .nil) [0] (by kernel_rfl) (.cons ref15_PutRelocs_L0.ok .nil)
/-- function 8: sheerleg/sheerlegref16.Put -/
abbrev T_ref16_Put : Type := Tc4 → ((List Int) → Option Bool) → Option Bool
noncomputable def ref16_Put.body (ref02_Put : T_ref02_Put) (ref02_Putv1 : T_ref02_Putv1) (ref13_Flag : T_ref13_Flag) (ref15_PutRelocs : T_ref15_PutRelocs) (ref16_Put_L0 : T_ref16_Put_L0) (ref16_Put_L2 : T_ref16_Put_L2) (ref16_Put_L4 : T_ref16_Put_L4) : T_ref16_Put := fun t210 k1 =>
  (ref02_Put t210.1 (1 : Int)
  (fun ns226 => (ref02_Putv1 ns226 (((List.length t210.2.1) : Nat) : Int) (1 : Int)
  (fun ns243 => (ref16_Put_L0 (0 : Int) ns243 t210
  (fun ns248 t249 => (ref02_Putv1 ns248 t249.2.2.1 (2 : Int)
  (fun ns250 => (ref13_Flag t249.2.2.2.1
  (fun n252 => (ref02_Putv1 ns250 n252 (1 : Int)
  (fun ns253 => (ref02_Putv1 ns253 t249.2.2.2.2.1 (1 : Int)
  (fun ns254 => (ref02_Putv1 ns254 t249.2.2.2.2.2.1 (1 : Int)
  (fun ns255 => (ref02_Putv1 ns255 (((List.length t249.2.2.2.2.2.2.1) : Nat) : Int) (1 : Int)
  (fun ns256 => (ref16_Put_L2 (0 : Int) ns256 t249
  (fun ns262 t263 => (ref02_Putv1 ns262 (((List.length t263.2.2.2.2.2.2.2.1) : Nat) : Int) (1 : Int)
  (fun ns264 => (ref16_Put_L4 (0 : Int) ns264 t263
  (fun ns276 t277 => (ref15_PutRelocs ns276 t277.2.2.2.2.2.2.2.2.1
  (fun ns289 => (k1 ns289)))))))))))))))))))))))))))
noncomputable def ref16_Put : T_ref16_Put := ref16_Put.body ref02_Put ref02_Putv1 ref13_Flag ref15_PutRelocs (ref16_Put_L0 ROUNDS) (ref16_Put_L2 ROUNDS) (ref16_Put_L4 ROUNDS)
def ref16_Put.p : FPat := fp 8 (ps (pk 0) (pl (pd Ty10) pz)) pz
def ref16_Put.g (F : T_ref16_Put) (v : ref16_Put.p.T) (k : KR) : Option Bool := F v.1.1 (fun y0 => k (.ref [1, 0]) [([1, 0], ⟨5, 1, (.data (.int .u8) y0)⟩)])
theorem ref16_Put.eq (F0 : T_ref02_Put) (F1 : T_ref02_Putv1) (F2 : T_ref13_Flag) (F3 : T_ref15_PutRelocs) (L0 : T_ref16_Put_L0) (L1 : T_ref16_Put_L2) (L2 : T_ref16_Put_L4) : ∀ v k, exF Try.f8 ref16_Put.p [⟨ref02_Put.p, ref02_Put.g F0⟩, ⟨ref02_Putv1.p, ref02_Putv1.g F1⟩, ⟨ref13_Flag.p, ref13_Flag.g F2⟩, ⟨ref15_PutRelocs.p, ref15_PutRelocs.g F3⟩] [] [⟨0, ref16_Put_L0.p, ref16_Put_L0.g L0⟩, ⟨2, ref16_Put_L2.p, ref16_Put_L2.g L1⟩, ⟨4, ref16_Put_L4.p, ref16_Put_L4.g L2⟩] v k = ref16_Put.g (ref16_Put.body F0 F1 F2 F3 L0 L1 L2) v k := fun v k => by kernel_rfl
theorem ref16_Put.ok : okF 3 ref16_Put.p (ref16_Put.g ref16_Put) := fn2 (ref16_Put.eq ref02_Put ref02_Putv1 ref13_Flag ref15_PutRelocs (ref16_Put_L0 ROUNDS) (ref16_Put_L2 ROUNDS) (ref16_Put_L4 ROUNDS)) Try.func8 (by kernel_rfl) (.cons ref02_Put.ok (.cons ref02_Putv1.ok (.cons ref13_Flag.ok (.cons ref15_PutRelocs.ok .nil)))) [0, 2, 4] (by kernel_rfl) (.cons ref16_Put_L0.ok (.cons ref16_Put_L2.ok (.cons ref16_Put_L4.ok .nil)))
/-- function 9: sheerleg/octet.New -/
abbrev T_octet_New : Type := (List Int) → (Int → Bool → Bool → (List Int) → Option Bool) → Option Bool
noncomputable def octet_New.body : T_octet_New := fun ns291 k1 =>
  (cond_ (Nat.ble (((0 : Nat) + (List.length ns291)) * (1 : Nat)) (140737488355328 : Nat)) (k1 (0 : Int) true false ([] ++ ns291)) none)
noncomputable def octet_New : T_octet_New := octet_New.body
def octet_New.p : FPat := fp 9 (pl (pb 0 5 (.int .u8)) pz) pz
def octet_New.g (F : T_octet_New) (v : octet_New.p.T) (k : KR) : Option Bool := F v.1.1 (fun y0 y1 y2 y3 => k (.ptr [1, 0] 0 0) [([1, 0], ⟨64, 4, (.mix [(.agg [(.ref [1, 1]), (.d ⟨(.int .i64), y0⟩), (.d ⟨.bool, y1⟩), (.d ⟨.bool, y2⟩)])])⟩), ([1, 1], ⟨5, 1, (.data (.int .u8) y3)⟩)])
theorem octet_New.eq : ∀ v k, exF Try.f9 octet_New.p [] [] [] v k = octet_New.g (octet_New.body) v k := fun v k => by kernel_rfl
theorem octet_New.ok : okF 1 octet_New.p (octet_New.g octet_New) := fn2 (octet_New.eq) Try.func9 (by kernel_rfl) .nil [] (by kernel_rfl) .nil
/-- function 48: (*sheerleg/octet.Reader).Bad -/
abbrev T_octet_Reader_Bad : Type := Int → Bool → Bool → (List Int) → (Bool → Int → Bool → Bool → (List Int) → Option Bool) → Option Bool
noncomputable def octet_Reader_Bad.body : T_octet_Reader_Bad := fun n321 b322 b323 ns324 k1 =>
  (cond_ (! (! b322)) (k1 b323 n321 b322 b323 ns324) (k1 true n321 b322 b323 ns324))
noncomputable def octet_Reader_Bad : T_octet_Reader_Bad := octet_Reader_Bad.body
def octet_Reader_Bad.p : FPat := fp 48 (ps (pq [0, 0] 0 0) pz) (pl (po [0, 0] 64 4 (em (pl (pa (ps (pr [0, 1]) (pl (pd (.int .i64)) (pl (pd .bool) (pl (pd .bool) pz))))) pz))) (pl (po [0, 1] 5 1 (ed (.int .u8))) pz))
def octet_Reader_Bad.g (F : T_octet_Reader_Bad) (v : octet_Reader_Bad.p.T) (k : KR) : Option Bool := F v.2.1.1.1 v.2.1.1.2.1 v.2.1.1.2.2.1 v.2.2.1 (fun y0 y1 y2 y3 y4 => k (.d ⟨.bool, y0⟩) [([0, 0], ⟨64, 4, (.mix [(.agg [(.ref [0, 1]), (.d ⟨(.int .i64), y1⟩), (.d ⟨.bool, y2⟩), (.d ⟨.bool, y3⟩)])])⟩), ([0, 1], ⟨5, 1, (.data (.int .u8) y4)⟩)])
theorem octet_Reader_Bad.eq : ∀ v k, exF Try.f48 octet_Reader_Bad.p [] [] [] v k = octet_Reader_Bad.g (octet_Reader_Bad.body) v k := fun v k => by kernel_rfl
theorem octet_Reader_Bad.ok : okF 1 octet_Reader_Bad.p (octet_Reader_Bad.g octet_Reader_Bad) := fn2 (octet_Reader_Bad.eq) Try.func48 (by kernel_rfl) .nil [] (by kernel_rfl) .nil
/-- function 49: (*sheerleg/octet.Reader).Left -/
abbrev T_octet_Reader_Left : Type := Int → Bool → Bool → (List Int) → (Int → Int → Bool → Bool → (List Int) → Option Bool) → Option Bool
noncomputable def octet_Reader_Left.body : T_octet_Reader_Left := fun n330 b331 b332 ns333 k1 =>
  (k1 (IntKind.wrap .i64 ((List.length ns333 : Int) - n330)) n330 b331 b332 ns333)
noncomputable def octet_Reader_Left : T_octet_Reader_Left := octet_Reader_Left.body
def octet_Reader_Left.p : FPat := fp 49 (ps (pq [0, 0] 0 0) pz) (pl (po [0, 0] 64 4 (em (pl (pa (ps (pr [0, 1]) (pl (pd (.int .i64)) (pl (pd .bool) (pl (pd .bool) pz))))) pz))) (pl (po [0, 1] 5 1 (ed (.int .u8))) pz))
def octet_Reader_Left.g (F : T_octet_Reader_Left) (v : octet_Reader_Left.p.T) (k : KR) : Option Bool := F v.2.1.1.1 v.2.1.1.2.1 v.2.1.1.2.2.1 v.2.2.1 (fun y0 y1 y2 y3 y4 => k (.d ⟨(.int .i64), y0⟩) [([0, 0], ⟨64, 4, (.mix [(.agg [(.ref [0, 1]), (.d ⟨(.int .i64), y1⟩), (.d ⟨.bool, y2⟩), (.d ⟨.bool, y3⟩)])])⟩), ([0, 1], ⟨5, 1, (.data (.int .u8) y4)⟩)])
theorem octet_Reader_Left.eq : ∀ v k, exF Try.f49 octet_Reader_Left.p [] [] [] v k = octet_Reader_Left.g (octet_Reader_Left.body) v k := fun v k => by kernel_rfl
theorem octet_Reader_Left.ok : okF 1 octet_Reader_Left.p (octet_Reader_Left.g octet_Reader_Left) := fn2 (octet_Reader_Left.eq) Try.func49 (by kernel_rfl) .nil [] (by kernel_rfl) .nil
/-- function 73: (*sheerleg/octet.Reader).spoil -/
abbrev T_octet_Reader_spoil : Type := Int → Bool → Bool → (List Int) → (Int → Bool → Bool → (List Int) → Option Bool) → Option Bool
noncomputable def octet_Reader_spoil.body : T_octet_Reader_spoil := fun n339 b340 b341 ns342 k1 =>
  (k1 n339 b340 true ns342)
noncomputable def octet_Reader_spoil : T_octet_Reader_spoil := octet_Reader_spoil.body
def octet_Reader_spoil.p : FPat := fp 73 (ps (pq [0, 0] 0 0) pz) (pl (po [0, 0] 64 4 (em (pl (pa (ps (pr [0, 1]) (pl (pd (.int .i64)) (pl (pd .bool) (pl (pd .bool) pz))))) pz))) (pl (po [0, 1] 5 1 (ed (.int .u8))) pz))
def octet_Reader_spoil.g (F : T_octet_Reader_spoil) (v : octet_Reader_spoil.p.T) (k : KR) : Option Bool := F v.2.1.1.1 v.2.1.1.2.1 v.2.1.1.2.2.1 v.2.2.1 (fun y0 y1 y2 y3 => k (.tup []) [([0, 0], ⟨64, 4, (.mix [(.agg [(.ref [0, 1]), (.d ⟨(.int .i64), y0⟩), (.d ⟨.bool, y1⟩), (.d ⟨.bool, y2⟩)])])⟩), ([0, 1], ⟨5, 1, (.data (.int .u8) y3)⟩)])
theorem octet_Reader_spoil.eq : ∀ v k, exF Try.f73 octet_Reader_spoil.p [] [] [] v k = octet_Reader_spoil.g (octet_Reader_spoil.body) v k := fun v k => by kernel_rfl
theorem octet_Reader_spoil.ok : okF 1 octet_Reader_spoil.p (octet_Reader_spoil.g octet_Reader_spoil) := fn2 (octet_Reader_spoil.eq) Try.func73 (by kernel_rfl) .nil [] (by kernel_rfl) .nil
/-- function 63: (*sheerleg/octet.Reader).take -/
abbrev T_octet_Reader_take : Type := Int → Int → Bool → Bool → (List Int) → (Int → Bool → Bool → (List Int) → (List Int) → Option Bool) → (Nat → Nat → Int → Bool → Bool → (List Int) → Option Bool) → Option Bool
noncomputable def octet_Reader_take.body (octet_Reader_Bad : T_octet_Reader_Bad) (octet_Reader_Left : T_octet_Reader_Left) (octet_Reader_spoil : T_octet_Reader_spoil) : T_octet_Reader_take := fun n316 n317 b318 b319 ns320 k1 k2 =>
  (octet_Reader_Bad n317 b318 b319 ns320
  (fun b325 n326 b327 b328 ns329 => (cond_ (! b325) (cond_ (! (decide (n316 < (0 : Int)))) (octet_Reader_Left n326 b327 b328 ns329
  (fun n334 n335 b336 b337 ns338 => (cond_ (decide (n316 > n334)) (octet_Reader_spoil n335 b336 b337 ns338
  (fun n343 b344 b345 ns346 => (k1 n343 b344 b345 ns346 []))) (cond_ (((decide ((0 : Int) ≤ (IntKind.wrap .i64 ((IntKind.wrap .i64 (n335 + n316)) - n316)))) && (decide ((IntKind.wrap .i64 ((IntKind.wrap .i64 (n335 + n316)) - n316)) ≤ (IntKind.wrap .i64 (n335 + n316))))) && (decide ((IntKind.wrap .i64 (n335 + n316)) ≤ (List.length ns338 : Int)))) (k2 (Int.toNat (IntKind.wrap .i64 ((IntKind.wrap .i64 (n335 + n316)) - n316))) (Int.toNat ((IntKind.wrap .i64 (n335 + n316)) - (IntKind.wrap .i64 ((IntKind.wrap .i64 (n335 + n316)) - n316)))) (IntKind.wrap .i64 (n335 + n316)) b336 b337 ns338) none)))) (octet_Reader_spoil n326 b327 b328 ns329
  (fun n347 b348 b349 ns350 => (k1 n347 b348 b349 ns350 [])))) (octet_Reader_spoil n326 b327 b328 ns329
  (fun n351 b352 b353 ns354 => (k1 n351 b352 b353 ns354 []))))))
noncomputable def octet_Reader_take : T_octet_Reader_take := octet_Reader_take.body octet_Reader_Bad octet_Reader_Left octet_Reader_spoil
def octet_Reader_take.p : FPat := fp 63 (ps (pq [0, 0] 0 0) (pl (pd (.int .i64)) pz)) (pl (po [0, 0] 64 4 (em (pl (pa (ps (pr [0, 1]) (pl (pd (.int .i64)) (pl (pd .bool) (pl (pd .bool) pz))))) pz))) (pl (po [0, 1] 5 1 (ed (.int .u8))) pz))
def octet_Reader_take.g (F : T_octet_Reader_take) (v : octet_Reader_take.p.T) (k : KR) : Option Bool := F v.1.1 v.2.1.1.1 v.2.1.1.2.1 v.2.1.1.2.2.1 v.2.2.1 (fun y0 y1 y2 y3 y4 => k (.ref [1, 0]) [([0, 0], ⟨64, 4, (.mix [(.agg [(.ref [0, 1]), (.d ⟨(.int .i64), y0⟩), (.d ⟨.bool, y1⟩), (.d ⟨.bool, y2⟩)])])⟩), ([0, 1], ⟨5, 1, (.data (.int .u8) y3)⟩), ([1, 0], ⟨5, 1, (.data (.int .u8) y4)⟩)]) (fun y0 y1 y2 y3 y4 y5 => k (.cut [0, 1] y0 y1) [([0, 0], ⟨64, 4, (.mix [(.agg [(.ref [0, 1]), (.d ⟨(.int .i64), y2⟩), (.d ⟨.bool, y3⟩), (.d ⟨.bool, y4⟩)])])⟩), ([0, 1], ⟨5, 1, (.data (.int .u8) y5)⟩)])
theorem octet_Reader_take.eq (F0 : T_octet_Reader_Bad) (F1 : T_octet_Reader_Left) (F2 : T_octet_Reader_spoil) : ∀ v k, exF Try.f63 octet_Reader_take.p [⟨octet_Reader_Bad.p, octet_Reader_Bad.g F0⟩, ⟨octet_Reader_Left.p, octet_Reader_Left.g F1⟩, ⟨octet_Reader_spoil.p, octet_Reader_spoil.g F2⟩] [] [] v k = octet_Reader_take.g (octet_Reader_take.body F0 F1 F2) v k := fun v k => by kernel_rfl
theorem octet_Reader_take.ok : okF 2 octet_Reader_take.p (octet_Reader_take.g octet_Reader_take) := fn2 (octet_Reader_take.eq octet_Reader_Bad octet_Reader_Left octet_Reader_spoil) Try.func63 (by kernel_rfl) (.cons octet_Reader_Bad.ok (.cons octet_Reader_Left.ok (.cons octet_Reader_spoil.ok .nil))) [] (by kernel_rfl) .nil
/-- function 62: the loop in block 0 -/
abbrev T_octet_number_L0 : Type := Int → Int → Int → Int → Bool → Bool → (List Int) → (List Int) → (Int → Int → Bool → Bool → (List Int) → (List Int) → Option Bool) → Option Bool
noncomputable def octet_number_L0.body (octet_number_L0 : T_octet_number_L0) : T_octet_number_L0 := fun n360 n361 n362 n363 b364 b365 ns366 ns367 k1 =>
  (cond_ (decide (n362 < n361)) (cond_ ((decide ((0 : Int) ≤ n362)) && (decide (n362 < (List.length ns367 : Int)))) (octet_number_L0 (IntKind.wrap .i64 (((@BitVec.toNat (64 : Nat) ((@BitVec.ofInt (64 : Nat) (IntKind.wrap .i64 (n360 * (256 : Int)))) ||| (@BitVec.ofInt (64 : Nat) (IntKind.wrap .i64 (List.getD ns367 (Int.toNat n362) (0 : Int)))))) : Nat) : Int)) n361 (IntKind.wrap .i64 (n362 + (1 : Int))) n363 b364 b365 ns366 ns367 k1) none) (k1 n360 n363 b364 b365 ns366 ns367))
noncomputable def octet_number_L0 : Nat → T_octet_number_L0
  | 0 => fun _ _ _ _ _ _ _ _ _ => none
  | n + 1 => octet_number_L0.body (octet_number_L0 n)
def octet_number_L0.p : LPat := lp 2 33 [6, 7, 19, 20, 21] (pl (pd (.int .i64)) (ps (pr [1, 0]) (ps (pr [1, 0]) (pl (pd (.int .i64)) (pl (pd (.int .i64)) pz))))) (pl (po [0, 0] 64 4 (em (pl (pa (ps (pr [0, 1]) (pl (pd (.int .i64)) (pl (pd .bool) (pl (pd .bool) pz))))) pz))) (pl (po [0, 1] 5 1 (ed (.int .u8))) (pl (po [1, 0] 5 1 (ed (.int .u8))) pz)))
def octet_number_L0.g (F : T_octet_number_L0) (v : octet_number_L0.p.T) (k : KE) : Option Bool := F v.1.1 v.1.2.1 v.1.2.2.1 v.2.1.1.1 v.2.1.1.2.1 v.2.1.1.2.2.1 v.2.2.1 v.2.2.2.1 (fun y0 y1 y2 y3 y4 y5 => k (.exit 0) ⟨fillS 33 [6, 7] [(.d ⟨(.int .i64), y0⟩), (.ref [1, 0])], [([0, 0], ⟨64, 4, (.mix [(.agg [(.ref [0, 1]), (.d ⟨(.int .i64), y1⟩), (.d ⟨.bool, y2⟩), (.d ⟨.bool, y3⟩)])])⟩), ([0, 1], ⟨5, 1, (.data (.int .u8) y4)⟩), ([1, 0], ⟨5, 1, (.data (.int .u8) y5)⟩)], 2⟩)
theorem octet_number_L0.step (S : T_octet_number_L0) : ∀ v k, exR 62 Try.f62 0 octet_number_L0.p [] [] [] (octet_number_L0.g S) v k = octet_number_L0.g (octet_number_L0.body S) v k := fun v k => by kernel_rfl
theorem octet_number_L0.ok : okL 62 Try.f62 0 0 octet_number_L0.p (octet_number_L0.g (octet_number_L0 ROUNDS)) := loop2 (G := fun n => octet_number_L0.g (octet_number_L0 n)) (fun n => octet_number_L0.step (octet_number_L0 n)) .nil [] (by kernel_rfl) .nil (fun _ _ => rfl)
/-- function 62: the loop in block 0 -/
abbrev T_octet_number_L0v1 : Type := Int → Nat → Nat → Nat → Nat → Int → Int → Int → Bool → Bool → (List Int) → (Int → Nat → Nat → Int → Bool → Bool → (List Int) → Option Bool) → Option Bool
noncomputable def octet_number_L0v1.body (octet_number_L0v1 : T_octet_number_L0v1) : T_octet_number_L0v1 := fun n380 m381 m382 m383 m384 n385 n386 n387 b388 b389 ns390 k1 =>
  (cond_ (decide (n386 < n385)) (cond_ ((decide ((0 : Int) ≤ n386)) && (decide (n386 < ((m384 : Nat) : Int)))) (octet_number_L0v1 (IntKind.wrap .i64 (((@BitVec.toNat (64 : Nat) ((@BitVec.ofInt (64 : Nat) (IntKind.wrap .i64 (n380 * (256 : Int)))) ||| (@BitVec.ofInt (64 : Nat) (IntKind.wrap .i64 (List.getD ns390 (m383 + (Int.toNat n386)) (0 : Int)))))) : Nat) : Int)) m381 m382 m383 m384 n385 (IntKind.wrap .i64 (n386 + (1 : Int))) n387 b388 b389 ns390 k1) none) (k1 n380 m381 m382 n387 b388 b389 ns390))
noncomputable def octet_number_L0v1 : Nat → T_octet_number_L0v1
  | 0 => fun _ _ _ _ _ _ _ _ _ _ _ _ => none
  | n + 1 => octet_number_L0v1.body (octet_number_L0v1 n)
def octet_number_L0v1.p : LPat := lp 2 33 [6, 7, 19, 20, 21] (pl (pd (.int .i64)) (pl (pc [0, 1] nv nv) (pl (pc [0, 1] nv nv) (pl (pd (.int .i64)) (pl (pd (.int .i64)) pz))))) (pl (po [0, 0] 64 4 (em (pl (pa (ps (pr [0, 1]) (pl (pd (.int .i64)) (pl (pd .bool) (pl (pd .bool) pz))))) pz))) (pl (po [0, 1] 5 1 (ed (.int .u8))) pz))
def octet_number_L0v1.g (F : T_octet_number_L0v1) (v : octet_number_L0v1.p.T) (k : KE) : Option Bool := F v.1.1 v.1.2.1.1 v.1.2.1.2 v.1.2.2.1.1 v.1.2.2.1.2 v.1.2.2.2.1 v.1.2.2.2.2.1 v.2.1.1.1 v.2.1.1.2.1 v.2.1.1.2.2.1 v.2.2.1 (fun y0 y1 y2 y3 y4 y5 y6 => k (.exit 0) ⟨fillS 33 [6, 7] [(.d ⟨(.int .i64), y0⟩), (.cut [0, 1] y1 y2)], [([0, 0], ⟨64, 4, (.mix [(.agg [(.ref [0, 1]), (.d ⟨(.int .i64), y3⟩), (.d ⟨.bool, y4⟩), (.d ⟨.bool, y5⟩)])])⟩), ([0, 1], ⟨5, 1, (.data (.int .u8) y6)⟩)], 2⟩)
theorem octet_number_L0v1.step (S : T_octet_number_L0v1) : ∀ v k, exR 62 Try.f62 0 octet_number_L0v1.p [] [] [] (octet_number_L0v1.g S) v k = octet_number_L0v1.g (octet_number_L0v1.body S) v k := fun v k => by kernel_rfl
theorem octet_number_L0v1.ok : okL 62 Try.f62 0 0 octet_number_L0v1.p (octet_number_L0v1.g (octet_number_L0v1 ROUNDS)) := loop2 (G := fun n => octet_number_L0v1.g (octet_number_L0v1 n)) (fun n => octet_number_L0v1.step (octet_number_L0v1 n)) .nil [] (by kernel_rfl) .nil (fun _ _ => rfl)
/-- function 62: sheerleg/octet.number -/
abbrev T_octet_number : Type := Int → Int → Bool → Bool → (List Int) → (Int → Int → Bool → Bool → (List Int) → (List Int) → Option Bool) → (Int → Nat → Nat → Int → Bool → Bool → (List Int) → Option Bool) → Option Bool
noncomputable def octet_number.body (octet_Reader_take : T_octet_Reader_take) (octet_number_L0 : T_octet_number_L0) (octet_number_L0v1 : T_octet_number_L0v1) : T_octet_number := fun n311 n312 b313 b314 ns315 k1 k2 =>
  (cond_ (! (decide (n311 < (1 : Int)))) (cond_ (decide (n311 > (8 : Int))) (octet_Reader_take (-1 : Int) n312 b313 b314 ns315
  (fun n355 b356 b357 ns358 ns359 => (octet_number_L0 (0 : Int) (List.length ns359 : Int) (0 : Int) n355 b356 b357 ns358 ns359
  (fun n368 n369 b370 b371 ns372 ns373 => (k1 n368 n369 b370 b371 ns372 ns373))))
  (fun m374 m375 n376 b377 b378 ns379 => (octet_number_L0v1 (0 : Int) m374 m375 m374 m375 ((m375 : Nat) : Int) (0 : Int) n376 b377 b378 ns379
  (fun n391 m392 m393 n394 b395 b396 ns397 => (k2 n391 m392 m393 n394 b395 b396 ns397))))) (octet_Reader_take n311 n312 b313 b314 ns315
  (fun n398 b399 b400 ns401 ns402 => (octet_number_L0 (0 : Int) (List.length ns402 : Int) (0 : Int) n398 b399 b400 ns401 ns402
  (fun n403 n404 b405 b406 ns407 ns408 => (k1 n403 n404 b405 b406 ns407 ns408))))
  (fun m409 m410 n411 b412 b413 ns414 => (octet_number_L0v1 (0 : Int) m409 m410 m409 m410 ((m410 : Nat) : Int) (0 : Int) n411 b412 b413 ns414
  (fun n415 m416 m417 n418 b419 b420 ns421 => (k2 n415 m416 m417 n418 b419 b420 ns421)))))) (octet_Reader_take (-1 : Int) n312 b313 b314 ns315
  (fun n422 b423 b424 ns425 ns426 => (octet_number_L0 (0 : Int) (List.length ns426 : Int) (0 : Int) n422 b423 b424 ns425 ns426
  (fun n427 n428 b429 b430 ns431 ns432 => (k1 n427 n428 b429 b430 ns431 ns432))))
  (fun m433 m434 n435 b436 b437 ns438 => (octet_number_L0v1 (0 : Int) m433 m434 m433 m434 ((m434 : Nat) : Int) (0 : Int) n435 b436 b437 ns438
  (fun n439 m440 m441 n442 b443 b444 ns445 => (k2 n439 m440 m441 n442 b443 b444 ns445))))))
noncomputable def octet_number : T_octet_number := octet_number.body octet_Reader_take (octet_number_L0 ROUNDS) (octet_number_L0v1 ROUNDS)
def octet_number.p : FPat := fp 62 (pl (pf 63 (ps (pq [0, 0] 0 0) pz) pz) (pl (pd (.int .i64)) pz)) (pl (po [0, 0] 64 4 (em (pl (pa (ps (pr [0, 1]) (pl (pd (.int .i64)) (pl (pd .bool) (pl (pd .bool) pz))))) pz))) (pl (po [0, 1] 5 1 (ed (.int .u8))) pz))
def octet_number.g (F : T_octet_number) (v : octet_number.p.T) (k : KR) : Option Bool := F v.1.2.1 v.2.1.1.1 v.2.1.1.2.1 v.2.1.1.2.2.1 v.2.2.1 (fun y0 y1 y2 y3 y4 y5 => k (.tup [(.d ⟨(.int .i64), y0⟩), (.ref [1, 0])]) [([0, 0], ⟨64, 4, (.mix [(.agg [(.ref [0, 1]), (.d ⟨(.int .i64), y1⟩), (.d ⟨.bool, y2⟩), (.d ⟨.bool, y3⟩)])])⟩), ([0, 1], ⟨5, 1, (.data (.int .u8) y4)⟩), ([1, 0], ⟨5, 1, (.data (.int .u8) y5)⟩)]) (fun y0 y1 y2 y3 y4 y5 y6 => k (.tup [(.d ⟨(.int .i64), y0⟩), (.cut [0, 1] y1 y2)]) [([0, 0], ⟨64, 4, (.mix [(.agg [(.ref [0, 1]), (.d ⟨(.int .i64), y3⟩), (.d ⟨.bool, y4⟩), (.d ⟨.bool, y5⟩)])])⟩), ([0, 1], ⟨5, 1, (.data (.int .u8) y6)⟩)])
theorem octet_number.eq (F0 : T_octet_Reader_take) (L0 : T_octet_number_L0) (L1 : T_octet_number_L0v1) : ∀ v k, exF Try.f62 octet_number.p [⟨octet_Reader_take.p, octet_Reader_take.g F0⟩] [] [⟨0, octet_number_L0.p, octet_number_L0.g L0⟩, ⟨0, octet_number_L0v1.p, octet_number_L0v1.g L1⟩] v k = octet_number.g (octet_number.body F0 L0 L1) v k := fun v k => by kernel_rfl
theorem octet_number.ok : okF 3 octet_number.p (octet_number.g octet_number) := fn2 (octet_number.eq octet_Reader_take (octet_number_L0 ROUNDS) (octet_number_L0v1 ROUNDS)) Try.func62 (by kernel_rfl) (.cons octet_Reader_take.ok .nil) [0] (by kernel_rfl) (.cons octet_number_L0.ok (.cons octet_number_L0v1.ok .nil))
/-- function 47: (*sheerleg/octet.Reader).Num -/
abbrev T_octet_Reader_Num : Type := Int → Int → Bool → Bool → (List Int) → (Int → Int → Bool → Bool → (List Int) → Option Bool) → Option Bool
noncomputable def octet_Reader_Num.body (octet_number : T_octet_number) : T_octet_Reader_Num := fun n306 n307 b308 b309 ns310 k1 =>
  (octet_number n306 n307 b308 b309 ns310
  (fun n446 n447 b448 b449 ns450 ns451 => (k1 n446 n447 b448 b449 ns450))
  (fun n452 m453 m454 n455 b456 b457 ns458 => (k1 n452 n455 b456 b457 ns458)))
noncomputable def octet_Reader_Num : T_octet_Reader_Num := octet_Reader_Num.body octet_number
def octet_Reader_Num.p : FPat := fp 47 (ps (pq [0, 0] 0 0) (pl (pd (.int .i64)) pz)) (pl (po [0, 0] 64 4 (em (pl (pa (ps (pr [0, 1]) (pl (pd (.int .i64)) (pl (pd .bool) (pl (pd .bool) pz))))) pz))) (pl (po [0, 1] 5 1 (ed (.int .u8))) pz))
def octet_Reader_Num.g (F : T_octet_Reader_Num) (v : octet_Reader_Num.p.T) (k : KR) : Option Bool := F v.1.1 v.2.1.1.1 v.2.1.1.2.1 v.2.1.1.2.2.1 v.2.2.1 (fun y0 y1 y2 y3 y4 => k (.d ⟨(.int .i64), y0⟩) [([0, 0], ⟨64, 4, (.mix [(.agg [(.ref [0, 1]), (.d ⟨(.int .i64), y1⟩), (.d ⟨.bool, y2⟩), (.d ⟨.bool, y3⟩)])])⟩), ([0, 1], ⟨5, 1, (.data (.int .u8) y4)⟩)])
theorem octet_Reader_Num.eq (F0 : T_octet_number) : ∀ v k, exF Try.f47 octet_Reader_Num.p [⟨octet_number.p, octet_number.g F0⟩] [] [] v k = octet_Reader_Num.g (octet_Reader_Num.body F0) v k := fun v k => by kernel_rfl
theorem octet_Reader_Num.ok : okF 4 octet_Reader_Num.p (octet_Reader_Num.g octet_Reader_Num) := fn2 (octet_Reader_Num.eq octet_number) Try.func47 (by kernel_rfl) (.cons octet_number.ok .nil) [] (by kernel_rfl) .nil
/-- function 32: (*sheerleg/fun.reader).fail -/
abbrev T_fun_reader_fail : Type := Int → Int → Int → Bool → Bool → (List Int) → (Int → Int → Bool → Bool → (List Int) → Option Bool) → Option Bool
noncomputable def fun_reader_fail.body : T_fun_reader_fail := fun n469 n470 n471 b472 b473 ns474 k1 =>
  (cond_ (n470 == (0 : Int)) (k1 n469 n471 b472 b473 ns474) (k1 n470 n471 b472 b473 ns474))
noncomputable def fun_reader_fail : T_fun_reader_fail := fun_reader_fail.body
def fun_reader_fail.p : FPat := fp 32 (ps (pq [0, 0] 0 0) (pl (pd (.int .i64)) pz)) (pl (po [0, 0] 67 2 (em (pl (pa (ps (pq [0, 1] 0 0) (pl (pd (.int .i64)) pz))) pz))) (pl (po [0, 1] 64 4 (em (pl (pa (ps (pr [0, 2]) (pl (pd (.int .i64)) (pl (pd .bool) (pl (pd .bool) pz))))) pz))) (pl (po [0, 2] 5 1 (ed (.int .u8))) pz)))
def fun_reader_fail.g (F : T_fun_reader_fail) (v : fun_reader_fail.p.T) (k : KR) : Option Bool := F v.1.1 v.2.1.1.1 v.2.2.1.1.1 v.2.2.1.1.2.1 v.2.2.1.1.2.2.1 v.2.2.2.1 (fun y0 y1 y2 y3 y4 => k (.tup []) [([0, 0], ⟨67, 2, (.mix [(.agg [(.ptr [0, 1] 0 0), (.d ⟨(.int .i64), y0⟩)])])⟩), ([0, 1], ⟨64, 4, (.mix [(.agg [(.ref [0, 2]), (.d ⟨(.int .i64), y1⟩), (.d ⟨.bool, y2⟩), (.d ⟨.bool, y3⟩)])])⟩), ([0, 2], ⟨5, 1, (.data (.int .u8) y4)⟩)])
theorem fun_reader_fail.eq : ∀ v k, exF Try.f32 fun_reader_fail.p [] [] [] v k = fun_reader_fail.g (fun_reader_fail.body) v k := fun v k => by kernel_rfl
theorem fun_reader_fail.ok : okF 1 fun_reader_fail.p (fun_reader_fail.g fun_reader_fail) := fn2 (fun_reader_fail.eq) Try.func32 (by kernel_rfl) .nil [] (by kernel_rfl) .nil
/-- function 25: (*sheerleg/fun.reader).num -/
abbrev T_fun_reader_num : Type := Int → Int → Int → Bool → Bool → (List Int) → (Int → Int → Int → Bool → Bool → (List Int) → Option Bool) → Option Bool
noncomputable def fun_reader_num.body (octet_Reader_Num : T_octet_Reader_Num) (octet_Reader_Bad : T_octet_Reader_Bad) (fun_reader_fail : T_fun_reader_fail) : T_fun_reader_num := fun n300 n301 n302 b303 b304 ns305 k1 =>
  (octet_Reader_Num n300 n302 b303 b304 ns305
  (fun n459 n460 b461 b462 ns463 => (octet_Reader_Bad n460 b461 b462 ns463
  (fun b464 n465 b466 b467 ns468 => (cond_ b464 (fun_reader_fail (5 : Int) n301 n465 b466 b467 ns468
  (fun n475 n476 b477 b478 ns479 => (k1 n459 n475 n476 b477 b478 ns479))) (k1 n459 n301 n465 b466 b467 ns468))))))
noncomputable def fun_reader_num : T_fun_reader_num := fun_reader_num.body octet_Reader_Num octet_Reader_Bad fun_reader_fail
def fun_reader_num.p : FPat := fp 25 (ps (pq [0, 0] 0 0) (pl (pd (.int .i64)) pz)) (pl (po [0, 0] 67 2 (em (pl (pa (ps (pq [0, 1] 0 0) (pl (pd (.int .i64)) pz))) pz))) (pl (po [0, 1] 64 4 (em (pl (pa (ps (pr [0, 2]) (pl (pd (.int .i64)) (pl (pd .bool) (pl (pd .bool) pz))))) pz))) (pl (po [0, 2] 5 1 (ed (.int .u8))) pz)))
def fun_reader_num.g (F : T_fun_reader_num) (v : fun_reader_num.p.T) (k : KR) : Option Bool := F v.1.1 v.2.1.1.1 v.2.2.1.1.1 v.2.2.1.1.2.1 v.2.2.1.1.2.2.1 v.2.2.2.1 (fun y0 y1 y2 y3 y4 y5 => k (.d ⟨(.int .i64), y0⟩) [([0, 0], ⟨67, 2, (.mix [(.agg [(.ptr [0, 1] 0 0), (.d ⟨(.int .i64), y1⟩)])])⟩), ([0, 1], ⟨64, 4, (.mix [(.agg [(.ref [0, 2]), (.d ⟨(.int .i64), y2⟩), (.d ⟨.bool, y3⟩), (.d ⟨.bool, y4⟩)])])⟩), ([0, 2], ⟨5, 1, (.data (.int .u8) y5)⟩)])
theorem fun_reader_num.eq (F0 : T_octet_Reader_Num) (F1 : T_octet_Reader_Bad) (F2 : T_fun_reader_fail) : ∀ v k, exF Try.f25 fun_reader_num.p [⟨octet_Reader_Num.p, octet_Reader_Num.g F0⟩, ⟨octet_Reader_Bad.p, octet_Reader_Bad.g F1⟩, ⟨fun_reader_fail.p, fun_reader_fail.g F2⟩] [] [] v k = fun_reader_num.g (fun_reader_num.body F0 F1 F2) v k := fun v k => by kernel_rfl
theorem fun_reader_num.ok : okF 5 fun_reader_num.p (fun_reader_num.g fun_reader_num) := fn2 (fun_reader_num.eq octet_Reader_Num octet_Reader_Bad fun_reader_fail) Try.func25 (by kernel_rfl) (.cons octet_Reader_Num.ok (.cons octet_Reader_Bad.ok (.cons fun_reader_fail.ok .nil))) [] (by kernel_rfl) .nil
/-- function 27: sheerleg/fun.Get$1 -/
abbrev T_fun_Getfn1 : Type := Int → Int → Bool → Int → Int → Int → Int → Bool → Bool → (List Int) → (Int → Int → Bool → Int → Int → Int → Int → Bool → Bool → (List Int) → (List Int) → Option Bool) → Option Bool
noncomputable def fun_Getfn1.body (fun_reader_num : T_fun_reader_num) : T_fun_Getfn1 := fun n514 n515 b516 n517 n518 n519 n520 b521 b522 ns523 k1 =>
  (fun_reader_num (1 : Int) n519 n520 b521 b522 ns523
  (fun n524 n525 n526 b527 b528 ns529 => (k1 n514 n515 b516 n517 n518 n525 n526 b527 b528 ns529 [n524])))
noncomputable def fun_Getfn1 : T_fun_Getfn1 := fun_Getfn1.body fun_reader_num
def fun_Getfn1.p : FPat := fp 27 (ps (pq [0, 0] 0 0) (ps (pq [0, 1] 0 0) pz)) (pl (po [0, 0] 27 9 (em (pl (pa (pl (pd (.int .i64)) (ps (pk 0) (pl (pd (.int .i64)) (pl (pd .bool) (pl (pd (.int .i64)) (pl (pd (.int .i64)) (ps (pk 0) (ps (pk 0) (ps (pk 0) pz)))))))))) pz))) (ps (po [0, 1] 65 1 (em (ps (pq [0, 2] 0 0) pz))) (pl (po [0, 2] 67 2 (em (pl (pa (ps (pq [0, 3] 0 0) (pl (pd (.int .i64)) pz))) pz))) (pl (po [0, 3] 64 4 (em (pl (pa (ps (pr [0, 4]) (pl (pd (.int .i64)) (pl (pd .bool) (pl (pd .bool) pz))))) pz))) (pl (po [0, 4] 5 1 (ed (.int .u8))) pz)))))
def fun_Getfn1.g (F : T_fun_Getfn1) (v : fun_Getfn1.p.T) (k : KR) : Option Bool := F v.2.1.1.1 v.2.1.1.2.1 v.2.1.1.2.2.1 v.2.1.1.2.2.2.1 v.2.1.1.2.2.2.2.1 v.2.2.1.1.1 v.2.2.2.1.1.1 v.2.2.2.1.1.2.1 v.2.2.2.1.1.2.2.1 v.2.2.2.2.1 (fun y0 y1 y2 y3 y4 y5 y6 y7 y8 y9 y10 => k (.tup []) [([0, 0], ⟨27, 9, (.mix [(.agg [(.d ⟨(.int .i64), y0⟩), (.ref [1, 0]), (.d ⟨(.int .i64), y1⟩), (.d ⟨.bool, y2⟩), (.d ⟨(.int .i64), y3⟩), (.d ⟨(.int .i64), y4⟩), .nils, .nils, .nils])])⟩), ([0, 1], ⟨65, 1, (.mix [(.ptr [0, 2] 0 0)])⟩), ([0, 2], ⟨67, 2, (.mix [(.agg [(.ptr [0, 3] 0 0), (.d ⟨(.int .i64), y5⟩)])])⟩), ([0, 3], ⟨64, 4, (.mix [(.agg [(.ref [0, 4]), (.d ⟨(.int .i64), y6⟩), (.d ⟨.bool, y7⟩), (.d ⟨.bool, y8⟩)])])⟩), ([0, 4], ⟨5, 1, (.data (.int .u8) y9)⟩), ([1, 0], ⟨3, 1, (.data (.int .i64) y10)⟩)])
theorem fun_Getfn1.eq (F0 : T_fun_reader_num) : ∀ v k, exF Try.f27 fun_Getfn1.p [⟨fun_reader_num.p, fun_reader_num.g F0⟩] [] [] v k = fun_Getfn1.g (fun_Getfn1.body F0) v k := fun v k => by kernel_rfl
theorem fun_Getfn1.ok : okF 6 fun_Getfn1.p (fun_Getfn1.g fun_Getfn1) := fn2 (fun_Getfn1.eq fun_reader_num) Try.func27 (by kernel_rfl) (.cons fun_reader_num.ok .nil) [] (by kernel_rfl) .nil
/-- function 27: sheerleg/fun.Get$1 -/
abbrev T_fun_Getfn1v1 : Type := Int → Int → Bool → Int → Int → (List Int) → Int → Int → Bool → Bool → (List Int) → (Int → Int → Bool → Int → Int → Int → Int → Bool → Bool → (List Int) → (List Int) → Option Bool) → Option Bool
noncomputable def fun_Getfn1v1.body (fun_reader_num : T_fun_reader_num) : T_fun_Getfn1v1 := fun n590 n591 b592 n593 n594 ns595 n596 n597 b598 b599 ns600 k1 =>
  (fun_reader_num (1 : Int) n596 n597 b598 b599 ns600
  (fun n601 n602 n603 b604 b605 ns606 => (cond_ (Nat.ble (((List.length ns595) + (List.length (n601 :: []))) * (8 : Nat)) (140737488355328 : Nat)) (k1 n590 n591 b592 n593 n594 n602 n603 b604 b605 ns606 (ns595 ++ (n601 :: []))) none)))
noncomputable def fun_Getfn1v1 : T_fun_Getfn1v1 := fun_Getfn1v1.body fun_reader_num
def fun_Getfn1v1.p : FPat := fp 27 (ps (pq [0, 0] 0 0) (ps (pq [0, 2] 0 0) pz)) (pl (po [0, 0] 27 9 (em (pl (pa (pl (pd (.int .i64)) (ps (pr [0, 1]) (pl (pd (.int .i64)) (pl (pd .bool) (pl (pd (.int .i64)) (pl (pd (.int .i64)) (ps (pk 0) (ps (pk 0) (ps (pk 0) pz)))))))))) pz))) (pl (po [0, 1] 3 1 (ed (.int .i64))) (ps (po [0, 2] 65 1 (em (ps (pq [0, 3] 0 0) pz))) (pl (po [0, 3] 67 2 (em (pl (pa (ps (pq [0, 4] 0 0) (pl (pd (.int .i64)) pz))) pz))) (pl (po [0, 4] 64 4 (em (pl (pa (ps (pr [0, 5]) (pl (pd (.int .i64)) (pl (pd .bool) (pl (pd .bool) pz))))) pz))) (pl (po [0, 5] 5 1 (ed (.int .u8))) pz))))))
def fun_Getfn1v1.g (F : T_fun_Getfn1v1) (v : fun_Getfn1v1.p.T) (k : KR) : Option Bool := F v.2.1.1.1 v.2.1.1.2.1 v.2.1.1.2.2.1 v.2.1.1.2.2.2.1 v.2.1.1.2.2.2.2.1 v.2.2.1 v.2.2.2.1.1.1 v.2.2.2.2.1.1.1 v.2.2.2.2.1.1.2.1 v.2.2.2.2.1.1.2.2.1 v.2.2.2.2.2.1 (fun y0 y1 y2 y3 y4 y5 y6 y7 y8 y9 y10 => k (.tup []) [([0, 0], ⟨27, 9, (.mix [(.agg [(.d ⟨(.int .i64), y0⟩), (.ref [1, 0]), (.d ⟨(.int .i64), y1⟩), (.d ⟨.bool, y2⟩), (.d ⟨(.int .i64), y3⟩), (.d ⟨(.int .i64), y4⟩), .nils, .nils, .nils])])⟩), ([0, 2], ⟨65, 1, (.mix [(.ptr [0, 3] 0 0)])⟩), ([0, 3], ⟨67, 2, (.mix [(.agg [(.ptr [0, 4] 0 0), (.d ⟨(.int .i64), y5⟩)])])⟩), ([0, 4], ⟨64, 4, (.mix [(.agg [(.ref [0, 5]), (.d ⟨(.int .i64), y6⟩), (.d ⟨.bool, y7⟩), (.d ⟨.bool, y8⟩)])])⟩), ([0, 5], ⟨5, 1, (.data (.int .u8) y9)⟩), ([1, 0], ⟨3, 1, (.data (.int .i64) y10)⟩)])
theorem fun_Getfn1v1.eq (F0 : T_fun_reader_num) : ∀ v k, exF Try.f27 fun_Getfn1v1.p [⟨fun_reader_num.p, fun_reader_num.g F0⟩] [] [] v k = fun_Getfn1v1.g (fun_Getfn1v1.body F0) v k := fun v k => by kernel_rfl
theorem fun_Getfn1v1.ok : okF 6 fun_Getfn1v1.p (fun_Getfn1v1.g fun_Getfn1v1) := fn2 (fun_Getfn1v1.eq fun_reader_num) Try.func27 (by kernel_rfl) (.cons fun_reader_num.ok .nil) [] (by kernel_rfl) .nil
/-- function 28: (*sheerleg/fun.reader).yes -/
abbrev T_fun_reader_yes : Type := Int → Int → Bool → Bool → (List Int) → (Bool → Int → Int → Bool → Bool → (List Int) → Option Bool) → Option Bool
noncomputable def fun_reader_yes.body (fun_reader_num : T_fun_reader_num) (fun_reader_fail : T_fun_reader_fail) : T_fun_reader_yes := fun n657 n658 b659 b660 ns661 k1 =>
  (fun_reader_num (1 : Int) n657 n658 b659 b660 ns661
  (fun n662 n663 n664 b665 b666 ns667 => (cond_ (decide (n662 > (1 : Int))) (fun_reader_fail (3 : Int) n663 n664 b665 b666 ns667
  (fun n668 n669 b670 b671 ns672 => (k1 (n662 == (1 : Int)) n668 n669 b670 b671 ns672))) (k1 (n662 == (1 : Int)) n663 n664 b665 b666 ns667))))
noncomputable def fun_reader_yes : T_fun_reader_yes := fun_reader_yes.body fun_reader_num fun_reader_fail
def fun_reader_yes.p : FPat := fp 28 (ps (pq [0, 0] 0 0) pz) (pl (po [0, 0] 67 2 (em (pl (pa (ps (pq [0, 1] 0 0) (pl (pd (.int .i64)) pz))) pz))) (pl (po [0, 1] 64 4 (em (pl (pa (ps (pr [0, 2]) (pl (pd (.int .i64)) (pl (pd .bool) (pl (pd .bool) pz))))) pz))) (pl (po [0, 2] 5 1 (ed (.int .u8))) pz)))
def fun_reader_yes.g (F : T_fun_reader_yes) (v : fun_reader_yes.p.T) (k : KR) : Option Bool := F v.2.1.1.1 v.2.2.1.1.1 v.2.2.1.1.2.1 v.2.2.1.1.2.2.1 v.2.2.2.1 (fun y0 y1 y2 y3 y4 y5 => k (.d ⟨.bool, y0⟩) [([0, 0], ⟨67, 2, (.mix [(.agg [(.ptr [0, 1] 0 0), (.d ⟨(.int .i64), y1⟩)])])⟩), ([0, 1], ⟨64, 4, (.mix [(.agg [(.ref [0, 2]), (.d ⟨(.int .i64), y2⟩), (.d ⟨.bool, y3⟩), (.d ⟨.bool, y4⟩)])])⟩), ([0, 2], ⟨5, 1, (.data (.int .u8) y5)⟩)])
theorem fun_reader_yes.eq (F0 : T_fun_reader_num) (F1 : T_fun_reader_fail) : ∀ v k, exF Try.f28 fun_reader_yes.p [⟨fun_reader_num.p, fun_reader_num.g F0⟩, ⟨fun_reader_fail.p, fun_reader_fail.g F1⟩] [] [] v k = fun_reader_yes.g (fun_reader_yes.body F0 F1) v k := fun v k => by kernel_rfl
theorem fun_reader_yes.ok : okF 6 fun_reader_yes.p (fun_reader_yes.g fun_reader_yes) := fn2 (fun_reader_yes.eq fun_reader_num fun_reader_fail) Try.func28 (by kernel_rfl) (.cons fun_reader_num.ok (.cons fun_reader_fail.ok .nil)) [] (by kernel_rfl) .nil
/-- function 29: sheerleg/fun.Get$2 -/
abbrev T_fun_Getfn2 : Type := Int → Int → Bool → Int → Int → (List Int) → Int → Int → Bool → Bool → (List Int) → (Int → Int → Bool → Int → Int → (List Int) → Int → Int → Bool → Bool → (List Int) → (List (Int × Int × Unit)) → Option Bool) → Option Bool
noncomputable def fun_Getfn2.body (fun_reader_num : T_fun_reader_num) : T_fun_Getfn2 := fun n721 n722 b723 n724 n725 ns726 n727 n728 b729 b730 ns731 k1 =>
  (fun_reader_num (1 : Int) n727 n728 b729 b730 ns731
  (fun n732 n733 n734 b735 b736 ns737 => (fun_reader_num (2 : Int) n733 n734 b735 b736 ns737
  (fun n738 n739 n740 b741 b742 ns743 => (k1 n721 n722 b723 n724 n725 ns726 n739 n740 b741 b742 ns743 [(n732, (n738, ()))])))))
noncomputable def fun_Getfn2 : T_fun_Getfn2 := fun_Getfn2.body fun_reader_num
def fun_Getfn2.p : FPat := fp 29 (ps (pq [0, 0] 0 0) (ps (pq [0, 2] 0 0) pz)) (pl (po [0, 0] 27 9 (em (pl (pa (pl (pd (.int .i64)) (ps (pr [0, 1]) (pl (pd (.int .i64)) (pl (pd .bool) (pl (pd (.int .i64)) (pl (pd (.int .i64)) (ps (pk 0) (ps (pk 0) (ps (pk 0) pz)))))))))) pz))) (pl (po [0, 1] 3 1 (ed (.int .i64))) (ps (po [0, 2] 65 1 (em (ps (pq [0, 3] 0 0) pz))) (pl (po [0, 3] 67 2 (em (pl (pa (ps (pq [0, 4] 0 0) (pl (pd (.int .i64)) pz))) pz))) (pl (po [0, 4] 64 4 (em (pl (pa (ps (pr [0, 5]) (pl (pd (.int .i64)) (pl (pd .bool) (pl (pd .bool) pz))))) pz))) (pl (po [0, 5] 5 1 (ed (.int .u8))) pz))))))
def fun_Getfn2.g (F : T_fun_Getfn2) (v : fun_Getfn2.p.T) (k : KR) : Option Bool := F v.2.1.1.1 v.2.1.1.2.1 v.2.1.1.2.2.1 v.2.1.1.2.2.2.1 v.2.1.1.2.2.2.2.1 v.2.2.1 v.2.2.2.1.1.1 v.2.2.2.2.1.1.1 v.2.2.2.2.1.1.2.1 v.2.2.2.2.1.1.2.2.1 v.2.2.2.2.2.1 (fun y0 y1 y2 y3 y4 y5 y6 y7 y8 y9 y10 y11 => k (.tup []) [([0, 0], ⟨27, 9, (.mix [(.agg [(.d ⟨(.int .i64), y0⟩), (.ref [0, 1]), (.d ⟨(.int .i64), y1⟩), (.d ⟨.bool, y2⟩), (.d ⟨(.int .i64), y3⟩), (.d ⟨(.int .i64), y4⟩), (.ref [1, 0]), .nils, .nils])])⟩), ([0, 1], ⟨3, 1, (.data (.int .i64) y5)⟩), ([0, 2], ⟨65, 1, (.mix [(.ptr [0, 3] 0 0)])⟩), ([0, 3], ⟨67, 2, (.mix [(.agg [(.ptr [0, 4] 0 0), (.d ⟨(.int .i64), y6⟩)])])⟩), ([0, 4], ⟨64, 4, (.mix [(.agg [(.ref [0, 5]), (.d ⟨(.int .i64), y7⟩), (.d ⟨.bool, y8⟩), (.d ⟨.bool, y9⟩)])])⟩), ([0, 5], ⟨5, 1, (.data (.int .u8) y10)⟩), ([1, 0], ⟨55, 2, (.data Ty3 y11)⟩)])
theorem fun_Getfn2.eq (F0 : T_fun_reader_num) : ∀ v k, exF Try.f29 fun_Getfn2.p [⟨fun_reader_num.p, fun_reader_num.g F0⟩] [] [] v k = fun_Getfn2.g (fun_Getfn2.body F0) v k := fun v k => by kernel_rfl
theorem fun_Getfn2.ok : okF 6 fun_Getfn2.p (fun_Getfn2.g fun_Getfn2) := fn2 (fun_Getfn2.eq fun_reader_num) Try.func29 (by kernel_rfl) (.cons fun_reader_num.ok .nil) [] (by kernel_rfl) .nil
/-- function 27: sheerleg/fun.Get$1 -/
abbrev T_fun_Getfn1v2 : Type := Int → Int → Bool → Int → Int → (List Int) → (List (Int × Int × Unit)) → Int → Int → Bool → Bool → (List Int) → (Int → Int → Bool → Int → Int → (List (Int × Int × Unit)) → Int → Int → Bool → Bool → (List Int) → (List Int) → Option Bool) → Option Bool
noncomputable def fun_Getfn1v2.body (fun_reader_num : T_fun_reader_num) : T_fun_Getfn1v2 := fun n806 n807 b808 n809 n810 ns811 ts812 n813 n814 b815 b816 ns817 k1 =>
  (fun_reader_num (1 : Int) n813 n814 b815 b816 ns817
  (fun n818 n819 n820 b821 b822 ns823 => (cond_ (Nat.ble (((List.length ns811) + (List.length (n818 :: []))) * (8 : Nat)) (140737488355328 : Nat)) (k1 n806 n807 b808 n809 n810 ts812 n819 n820 b821 b822 ns823 (ns811 ++ (n818 :: []))) none)))
noncomputable def fun_Getfn1v2 : T_fun_Getfn1v2 := fun_Getfn1v2.body fun_reader_num
def fun_Getfn1v2.p : FPat := fp 27 (ps (pq [0, 0] 0 0) (ps (pq [0, 3] 0 0) pz)) (pl (po [0, 0] 27 9 (em (pl (pa (pl (pd (.int .i64)) (ps (pr [0, 1]) (pl (pd (.int .i64)) (pl (pd .bool) (pl (pd (.int .i64)) (pl (pd (.int .i64)) (ps (pr [0, 2]) (ps (pk 0) (ps (pk 0) pz)))))))))) pz))) (pl (po [0, 1] 3 1 (ed (.int .i64))) (pl (po [0, 2] 55 2 (ed Ty3)) (ps (po [0, 3] 65 1 (em (ps (pq [0, 4] 0 0) pz))) (pl (po [0, 4] 67 2 (em (pl (pa (ps (pq [0, 5] 0 0) (pl (pd (.int .i64)) pz))) pz))) (pl (po [0, 5] 64 4 (em (pl (pa (ps (pr [0, 6]) (pl (pd (.int .i64)) (pl (pd .bool) (pl (pd .bool) pz))))) pz))) (pl (po [0, 6] 5 1 (ed (.int .u8))) pz)))))))
def fun_Getfn1v2.g (F : T_fun_Getfn1v2) (v : fun_Getfn1v2.p.T) (k : KR) : Option Bool := F v.2.1.1.1 v.2.1.1.2.1 v.2.1.1.2.2.1 v.2.1.1.2.2.2.1 v.2.1.1.2.2.2.2.1 v.2.2.1 v.2.2.2.1 v.2.2.2.2.1.1.1 v.2.2.2.2.2.1.1.1 v.2.2.2.2.2.1.1.2.1 v.2.2.2.2.2.1.1.2.2.1 v.2.2.2.2.2.2.1 (fun y0 y1 y2 y3 y4 y5 y6 y7 y8 y9 y10 y11 => k (.tup []) [([0, 0], ⟨27, 9, (.mix [(.agg [(.d ⟨(.int .i64), y0⟩), (.ref [1, 0]), (.d ⟨(.int .i64), y1⟩), (.d ⟨.bool, y2⟩), (.d ⟨(.int .i64), y3⟩), (.d ⟨(.int .i64), y4⟩), (.ref [0, 2]), .nils, .nils])])⟩), ([0, 2], ⟨55, 2, (.data Ty3 y5)⟩), ([0, 3], ⟨65, 1, (.mix [(.ptr [0, 4] 0 0)])⟩), ([0, 4], ⟨67, 2, (.mix [(.agg [(.ptr [0, 5] 0 0), (.d ⟨(.int .i64), y6⟩)])])⟩), ([0, 5], ⟨64, 4, (.mix [(.agg [(.ref [0, 6]), (.d ⟨(.int .i64), y7⟩), (.d ⟨.bool, y8⟩), (.d ⟨.bool, y9⟩)])])⟩), ([0, 6], ⟨5, 1, (.data (.int .u8) y10)⟩), ([1, 0], ⟨3, 1, (.data (.int .i64) y11)⟩)])
theorem fun_Getfn1v2.eq (F0 : T_fun_reader_num) : ∀ v k, exF Try.f27 fun_Getfn1v2.p [⟨fun_reader_num.p, fun_reader_num.g F0⟩] [] [] v k = fun_Getfn1v2.g (fun_Getfn1v2.body F0) v k := fun v k => by kernel_rfl
theorem fun_Getfn1v2.ok : okF 6 fun_Getfn1v2.p (fun_Getfn1v2.g fun_Getfn1v2) := fn2 (fun_Getfn1v2.eq fun_reader_num) Try.func27 (by kernel_rfl) (.cons fun_reader_num.ok .nil) [] (by kernel_rfl) .nil
/-- function 29: sheerleg/fun.Get$2 -/
abbrev T_fun_Getfn2v1 : Type := Int → Int → Bool → Int → Int → (List Int) → (List (Int × Int × Unit)) → Int → Int → Bool → Bool → (List Int) → (Int → Int → Bool → Int → Int → (List Int) → Int → Int → Bool → Bool → (List Int) → (List (Int × Int × Unit)) → Option Bool) → Option Bool
noncomputable def fun_Getfn2v1.body (fun_reader_num : T_fun_reader_num) : T_fun_Getfn2v1 := fun n928 n929 b930 n931 n932 ns933 ts934 n935 n936 b937 b938 ns939 k1 =>
  (fun_reader_num (1 : Int) n935 n936 b937 b938 ns939
  (fun n940 n941 n942 b943 b944 ns945 => (fun_reader_num (2 : Int) n941 n942 b943 b944 ns945
  (fun n946 n947 n948 b949 b950 ns951 => (cond_ (Nat.ble (((List.length ts934) + (List.length ((n940, (n946, ())) :: []))) * (16 : Nat)) (140737488355328 : Nat)) (k1 n928 n929 b930 n931 n932 ns933 n947 n948 b949 b950 ns951 (ts934 ++ ((n940, (n946, ())) :: []))) none)))))
noncomputable def fun_Getfn2v1 : T_fun_Getfn2v1 := fun_Getfn2v1.body fun_reader_num
def fun_Getfn2v1.p : FPat := fp 29 (ps (pq [0, 0] 0 0) (ps (pq [0, 3] 0 0) pz)) (pl (po [0, 0] 27 9 (em (pl (pa (pl (pd (.int .i64)) (ps (pr [0, 1]) (pl (pd (.int .i64)) (pl (pd .bool) (pl (pd (.int .i64)) (pl (pd (.int .i64)) (ps (pr [0, 2]) (ps (pk 0) (ps (pk 0) pz)))))))))) pz))) (pl (po [0, 1] 3 1 (ed (.int .i64))) (pl (po [0, 2] 55 2 (ed Ty3)) (ps (po [0, 3] 65 1 (em (ps (pq [0, 4] 0 0) pz))) (pl (po [0, 4] 67 2 (em (pl (pa (ps (pq [0, 5] 0 0) (pl (pd (.int .i64)) pz))) pz))) (pl (po [0, 5] 64 4 (em (pl (pa (ps (pr [0, 6]) (pl (pd (.int .i64)) (pl (pd .bool) (pl (pd .bool) pz))))) pz))) (pl (po [0, 6] 5 1 (ed (.int .u8))) pz)))))))
def fun_Getfn2v1.g (F : T_fun_Getfn2v1) (v : fun_Getfn2v1.p.T) (k : KR) : Option Bool := F v.2.1.1.1 v.2.1.1.2.1 v.2.1.1.2.2.1 v.2.1.1.2.2.2.1 v.2.1.1.2.2.2.2.1 v.2.2.1 v.2.2.2.1 v.2.2.2.2.1.1.1 v.2.2.2.2.2.1.1.1 v.2.2.2.2.2.1.1.2.1 v.2.2.2.2.2.1.1.2.2.1 v.2.2.2.2.2.2.1 (fun y0 y1 y2 y3 y4 y5 y6 y7 y8 y9 y10 y11 => k (.tup []) [([0, 0], ⟨27, 9, (.mix [(.agg [(.d ⟨(.int .i64), y0⟩), (.ref [0, 1]), (.d ⟨(.int .i64), y1⟩), (.d ⟨.bool, y2⟩), (.d ⟨(.int .i64), y3⟩), (.d ⟨(.int .i64), y4⟩), (.ref [1, 0]), .nils, .nils])])⟩), ([0, 1], ⟨3, 1, (.data (.int .i64) y5)⟩), ([0, 3], ⟨65, 1, (.mix [(.ptr [0, 4] 0 0)])⟩), ([0, 4], ⟨67, 2, (.mix [(.agg [(.ptr [0, 5] 0 0), (.d ⟨(.int .i64), y6⟩)])])⟩), ([0, 5], ⟨64, 4, (.mix [(.agg [(.ref [0, 6]), (.d ⟨(.int .i64), y7⟩), (.d ⟨.bool, y8⟩), (.d ⟨.bool, y9⟩)])])⟩), ([0, 6], ⟨5, 1, (.data (.int .u8) y10)⟩), ([1, 0], ⟨55, 2, (.data Ty3 y11)⟩)])
theorem fun_Getfn2v1.eq (F0 : T_fun_reader_num) : ∀ v k, exF Try.f29 fun_Getfn2v1.p [⟨fun_reader_num.p, fun_reader_num.g F0⟩] [] [] v k = fun_Getfn2v1.g (fun_Getfn2v1.body F0) v k := fun v k => by kernel_rfl
theorem fun_Getfn2v1.ok : okF 6 fun_Getfn2v1.p (fun_Getfn2v1.g fun_Getfn2v1) := fn2 (fun_Getfn2v1.eq fun_reader_num) Try.func29 (by kernel_rfl) (.cons fun_reader_num.ok .nil) [] (by kernel_rfl) .nil
/-- function 50: sheerleg/instr.read -/
abbrev T_instr_read : Type := Int → Int → Bool → Bool → (List Int) → (Int → Int → Bool → Bool → (List Int) → Option Bool) → Option Bool
noncomputable def instr_read.body (octet_Reader_Num : T_octet_Reader_Num) : T_instr_read := fun n1239 n1240 b1241 b1242 ns1243 k1 =>
  (octet_Reader_Num n1239 n1240 b1241 b1242 ns1243
  (fun n1244 n1245 b1246 b1247 ns1248 => (k1 n1244 n1245 b1246 b1247 ns1248)))
noncomputable def instr_read : T_instr_read := instr_read.body octet_Reader_Num
def instr_read.p : FPat := fp 50 (ps (pq [0, 0] 0 0) (pl (pd (.int .i64)) (pl (pf 47 pz pz) pz))) (pl (po [0, 0] 64 4 (em (pl (pa (ps (pr [0, 1]) (pl (pd (.int .i64)) (pl (pd .bool) (pl (pd .bool) pz))))) pz))) (pl (po [0, 1] 5 1 (ed (.int .u8))) pz))
def instr_read.g (F : T_instr_read) (v : instr_read.p.T) (k : KR) : Option Bool := F v.1.1 v.2.1.1.1 v.2.1.1.2.1 v.2.1.1.2.2.1 v.2.2.1 (fun y0 y1 y2 y3 y4 => k (.d ⟨(.int .i64), y0⟩) [([0, 0], ⟨64, 4, (.mix [(.agg [(.ref [0, 1]), (.d ⟨(.int .i64), y1⟩), (.d ⟨.bool, y2⟩), (.d ⟨.bool, y3⟩)])])⟩), ([0, 1], ⟨5, 1, (.data (.int .u8) y4)⟩)])
theorem instr_read.eq (F0 : T_octet_Reader_Num) : ∀ v k, exF Try.f50 instr_read.p [⟨octet_Reader_Num.p, octet_Reader_Num.g F0⟩] [] [] v k = instr_read.g (instr_read.body F0) v k := fun v k => by kernel_rfl
theorem instr_read.ok : okF 5 instr_read.p (instr_read.g instr_read) := fn2 (instr_read.eq octet_Reader_Num) Try.func50 (by kernel_rfl) (.cons octet_Reader_Num.ok .nil) [] (by kernel_rfl) .nil
/-- function 51: (*sheerleg/octet.Reader).Signed -/
abbrev T_octet_Reader_Signed : Type := Int → Int → Bool → Bool → (List Int) → (Int → Int → Bool → Bool → (List Int) → Option Bool) → Option Bool
noncomputable def octet_Reader_Signed.body (octet_number : T_octet_number) : T_octet_Reader_Signed := fun n1410 n1411 b1412 b1413 ns1414 k1 =>
  (octet_number n1410 n1411 b1412 b1413 ns1414
  (fun n1415 n1416 b1417 b1418 ns1419 ns1420 => (cond_ ((List.length ns1420 : Int) == (0 : Int)) (k1 (0 : Int) n1416 b1417 b1418 ns1419) (cond_ (decide ((0 : Int) ≤ (IntKind.wrap .u64 ((8 : Int) * (IntKind.wrap .u64 (IntKind.wrap .i64 ((8 : Int) - (List.length ns1420 : Int)))))))) (cond_ (decide ((0 : Int) ≤ (IntKind.wrap .u64 ((8 : Int) * (IntKind.wrap .u64 (IntKind.wrap .i64 ((8 : Int) - (List.length ns1420 : Int)))))))) (k1 (Int.fdiv (IntKind.wrap .i64 (n1415 * ((2 : Int) ^ (min (Int.toNat (IntKind.wrap .u64 ((8 : Int) * (IntKind.wrap .u64 (IntKind.wrap .i64 ((8 : Int) - (List.length ns1420 : Int))))))) (64 : Nat))))) ((2 : Int) ^ (min (Int.toNat (IntKind.wrap .u64 ((8 : Int) * (IntKind.wrap .u64 (IntKind.wrap .i64 ((8 : Int) - (List.length ns1420 : Int))))))) (64 : Nat)))) n1416 b1417 b1418 ns1419) none) none)))
  (fun n1421 m1422 m1423 n1424 b1425 b1426 ns1427 => (cond_ (((m1423 : Nat) : Int) == (0 : Int)) (k1 (0 : Int) n1424 b1425 b1426 ns1427) (cond_ (decide ((0 : Int) ≤ (IntKind.wrap .u64 ((8 : Int) * (IntKind.wrap .u64 (IntKind.wrap .i64 ((8 : Int) - ((m1423 : Nat) : Int)))))))) (cond_ (decide ((0 : Int) ≤ (IntKind.wrap .u64 ((8 : Int) * (IntKind.wrap .u64 (IntKind.wrap .i64 ((8 : Int) - ((m1423 : Nat) : Int)))))))) (k1 (Int.fdiv (IntKind.wrap .i64 (n1421 * ((2 : Int) ^ (min (Int.toNat (IntKind.wrap .u64 ((8 : Int) * (IntKind.wrap .u64 (IntKind.wrap .i64 ((8 : Int) - ((m1423 : Nat) : Int))))))) (64 : Nat))))) ((2 : Int) ^ (min (Int.toNat (IntKind.wrap .u64 ((8 : Int) * (IntKind.wrap .u64 (IntKind.wrap .i64 ((8 : Int) - ((m1423 : Nat) : Int))))))) (64 : Nat)))) n1424 b1425 b1426 ns1427) none) none))))
noncomputable def octet_Reader_Signed : T_octet_Reader_Signed := octet_Reader_Signed.body octet_number
def octet_Reader_Signed.p : FPat := fp 51 (ps (pq [0, 0] 0 0) (pl (pd (.int .i64)) pz)) (pl (po [0, 0] 64 4 (em (pl (pa (ps (pr [0, 1]) (pl (pd (.int .i64)) (pl (pd .bool) (pl (pd .bool) pz))))) pz))) (pl (po [0, 1] 5 1 (ed (.int .u8))) pz))
def octet_Reader_Signed.g (F : T_octet_Reader_Signed) (v : octet_Reader_Signed.p.T) (k : KR) : Option Bool := F v.1.1 v.2.1.1.1 v.2.1.1.2.1 v.2.1.1.2.2.1 v.2.2.1 (fun y0 y1 y2 y3 y4 => k (.d ⟨(.int .i64), y0⟩) [([0, 0], ⟨64, 4, (.mix [(.agg [(.ref [0, 1]), (.d ⟨(.int .i64), y1⟩), (.d ⟨.bool, y2⟩), (.d ⟨.bool, y3⟩)])])⟩), ([0, 1], ⟨5, 1, (.data (.int .u8) y4)⟩)])
theorem octet_Reader_Signed.eq (F0 : T_octet_number) : ∀ v k, exF Try.f51 octet_Reader_Signed.p [⟨octet_number.p, octet_number.g F0⟩] [] [] v k = octet_Reader_Signed.g (octet_Reader_Signed.body F0) v k := fun v k => by kernel_rfl
theorem octet_Reader_Signed.ok : okF 4 octet_Reader_Signed.p (octet_Reader_Signed.g octet_Reader_Signed) := fn2 (octet_Reader_Signed.eq octet_number) Try.func51 (by kernel_rfl) (.cons octet_number.ok .nil) [] (by kernel_rfl) .nil
/-- function 50: sheerleg/instr.read -/
abbrev T_instr_readv1 : Type := Int → Int → Bool → Bool → (List Int) → (Int → Int → Bool → Bool → (List Int) → Option Bool) → Option Bool
noncomputable def instr_readv1.body (octet_Reader_Signed : T_octet_Reader_Signed) : T_instr_readv1 := fun n1405 n1406 b1407 b1408 ns1409 k1 =>
  (octet_Reader_Signed n1405 n1406 b1407 b1408 ns1409
  (fun n1428 n1429 b1430 b1431 ns1432 => (k1 n1428 n1429 b1430 b1431 ns1432)))
noncomputable def instr_readv1 : T_instr_readv1 := instr_readv1.body octet_Reader_Signed
def instr_readv1.p : FPat := fp 50 (ps (pq [0, 0] 0 0) (pl (pd (.int .i64)) (pl (pf 51 pz pz) pz))) (pl (po [0, 0] 64 4 (em (pl (pa (ps (pr [0, 1]) (pl (pd (.int .i64)) (pl (pd .bool) (pl (pd .bool) pz))))) pz))) (pl (po [0, 1] 5 1 (ed (.int .u8))) pz))
def instr_readv1.g (F : T_instr_readv1) (v : instr_readv1.p.T) (k : KR) : Option Bool := F v.1.1 v.2.1.1.1 v.2.1.1.2.1 v.2.1.1.2.2.1 v.2.2.1 (fun y0 y1 y2 y3 y4 => k (.d ⟨(.int .i64), y0⟩) [([0, 0], ⟨64, 4, (.mix [(.agg [(.ref [0, 1]), (.d ⟨(.int .i64), y1⟩), (.d ⟨.bool, y2⟩), (.d ⟨.bool, y3⟩)])])⟩), ([0, 1], ⟨5, 1, (.data (.int .u8) y4)⟩)])
theorem instr_readv1.eq (F0 : T_octet_Reader_Signed) : ∀ v k, exF Try.f50 instr_readv1.p [⟨octet_Reader_Signed.p, octet_Reader_Signed.g F0⟩] [] [] v k = instr_readv1.g (instr_readv1.body F0) v k := fun v k => by kernel_rfl
theorem instr_readv1.ok : okF 5 instr_readv1.p (instr_readv1.g instr_readv1) := fn2 (instr_readv1.eq octet_Reader_Signed) Try.func50 (by kernel_rfl) (.cons octet_Reader_Signed.ok .nil) [] (by kernel_rfl) .nil
/-- function 74: sheerleg/op.names -/
abbrev T_op_names : Type := ((ByteArray × ByteArray × ByteArray × ByteArray × ByteArray × ByteArray × ByteArray × ByteArray × ByteArray × ByteArray × ByteArray × ByteArray × ByteArray × ByteArray × ByteArray × ByteArray × ByteArray × ByteArray × ByteArray × ByteArray × ByteArray × ByteArray × ByteArray × ByteArray × ByteArray × ByteArray × ByteArray × ByteArray × Unit) → Option Bool) → Option Bool
noncomputable def op_names.body : T_op_names := fun k1 =>
  (k1 ((⟨#[110, 111, 112]⟩ : ByteArray), ((⟨#[115, 101, 116]⟩ : ByteArray), ((⟨#[109, 111, 118, 101]⟩ : ByteArray), ((⟨#[97, 100, 100]⟩ : ByteArray), ((⟨#[115, 117, 98]⟩ : ByteArray), ((⟨#[109, 117, 108]⟩ : ByteArray), ((⟨#[100, 105, 118]⟩ : ByteArray), ((⟨#[109, 111, 100]⟩ : ByteArray), ((⟨#[108, 101, 115, 115]⟩ : ByteArray), ((⟨#[115, 97, 109, 101]⟩ : ByteArray), ((⟨#[106, 117, 109, 112]⟩ : ByteArray), ((⟨#[122, 101, 114, 111]⟩ : ByteArray), ((⟨#[105, 110]⟩ : ByteArray), ((⟨#[111, 117, 116]⟩ : ByteArray), ((⟨#[108, 111, 97, 100]⟩ : ByteArray), ((⟨#[115, 116, 111, 114, 101]⟩ : ByteArray), ((⟨#[102, 117, 110, 99]⟩ : ByteArray), ((⟨#[112, 105, 99, 107]⟩ : ByteArray), ((⟨#[99, 97, 108, 108]⟩ : ByteArray), ((⟨#[118, 105, 97]⟩ : ByteArray), ((⟨#[100, 101, 102, 101, 114]⟩ : ByteArray), ((⟨#[112, 97, 110, 105, 99]⟩ : ByteArray), ((⟨#[114, 101, 99, 111, 118, 101, 114]⟩ : ByteArray), ((⟨#[114, 101, 116, 117, 114, 110]⟩ : ByteArray), ((⟨#[99, 104, 101, 99, 107]⟩ : ByteArray), ((⟨#[101, 110, 116, 101, 114]⟩ : ByteArray), ((⟨#[98, 111, 116, 116, 111, 109]⟩ : ByteArray), ((⟨#[100, 114, 105, 118, 101, 114]⟩ : ByteArray), ())))))))))))))))))))))))))))))
noncomputable def op_names : T_op_names := op_names.body
def op_names.p : FPat := fp 74 pz pz
def op_names.g (F : T_op_names) (v : op_names.p.T) (k : KR) : Option Bool := F (fun y0 => k (.d ⟨(.st [.str, .str, .str, .str, .str, .str, .str, .str, .str, .str, .str, .str, .str, .str, .str, .str, .str, .str, .str, .str, .str, .str, .str, .str, .str, .str, .str, .str]), y0⟩) [])
theorem op_names.eq : ∀ v k, exF Try.f74 op_names.p [] [] [] v k = op_names.g (op_names.body) v k := fun v k => by kernel_rfl
theorem op_names.ok : okF 1 op_names.p (op_names.g op_names) := fn2 (op_names.eq) Try.func74 (by kernel_rfl) .nil [] (by kernel_rfl) .nil
/-- function 64: sheerleg/op.Name -/
abbrev T_op_Name : Type := Int → (ByteArray → Option Bool) → Option Bool
noncomputable def op_Name.body (op_names : T_op_names) : T_op_Name := fun n1439 k1 =>
  (op_names
  (fun t1440 => (cond_ (! (decide (n1439 < (1 : Int)))) (cond_ (decide (n1439 > (28 : Int))) (k1 (⟨#[]⟩ : ByteArray)) (cond_ ((decide ((0 : Int) ≤ (IntKind.wrap .i64 (n1439 - (1 : Int))))) && (decide ((IntKind.wrap .i64 (n1439 - (1 : Int))) < (28 : Int)))) (k1 (List.getD (t1440.1 :: (t1440.2.1 :: (t1440.2.2.1 :: (t1440.2.2.2.1 :: (t1440.2.2.2.2.1 :: (t1440.2.2.2.2.2.1 :: (t1440.2.2.2.2.2.2.1 :: (t1440.2.2.2.2.2.2.2.1 :: (t1440.2.2.2.2.2.2.2.2.1 :: (t1440.2.2.2.2.2.2.2.2.2.1 :: (t1440.2.2.2.2.2.2.2.2.2.2.1 :: (t1440.2.2.2.2.2.2.2.2.2.2.2.1 :: (t1440.2.2.2.2.2.2.2.2.2.2.2.2.1 :: (t1440.2.2.2.2.2.2.2.2.2.2.2.2.2.1 :: (t1440.2.2.2.2.2.2.2.2.2.2.2.2.2.2.1 :: (t1440.2.2.2.2.2.2.2.2.2.2.2.2.2.2.2.1 :: (t1440.2.2.2.2.2.2.2.2.2.2.2.2.2.2.2.2.1 :: (t1440.2.2.2.2.2.2.2.2.2.2.2.2.2.2.2.2.2.1 :: (t1440.2.2.2.2.2.2.2.2.2.2.2.2.2.2.2.2.2.2.1 :: (t1440.2.2.2.2.2.2.2.2.2.2.2.2.2.2.2.2.2.2.2.1 :: (t1440.2.2.2.2.2.2.2.2.2.2.2.2.2.2.2.2.2.2.2.2.1 :: (t1440.2.2.2.2.2.2.2.2.2.2.2.2.2.2.2.2.2.2.2.2.2.1 :: (t1440.2.2.2.2.2.2.2.2.2.2.2.2.2.2.2.2.2.2.2.2.2.2.1 :: (t1440.2.2.2.2.2.2.2.2.2.2.2.2.2.2.2.2.2.2.2.2.2.2.2.1 :: (t1440.2.2.2.2.2.2.2.2.2.2.2.2.2.2.2.2.2.2.2.2.2.2.2.2.1 :: (t1440.2.2.2.2.2.2.2.2.2.2.2.2.2.2.2.2.2.2.2.2.2.2.2.2.2.1 :: (t1440.2.2.2.2.2.2.2.2.2.2.2.2.2.2.2.2.2.2.2.2.2.2.2.2.2.2.1 :: (t1440.2.2.2.2.2.2.2.2.2.2.2.2.2.2.2.2.2.2.2.2.2.2.2.2.2.2.2.1 :: [])))))))))))))))))))))))))))) (Int.toNat (IntKind.wrap .i64 (n1439 - (1 : Int)))) (⟨#[]⟩ : ByteArray))) none)) (k1 (⟨#[]⟩ : ByteArray)))))
noncomputable def op_Name : T_op_Name := op_Name.body op_names
def op_Name.p : FPat := fp 64 (pl (pd (.int .i64)) pz) pz
def op_Name.g (F : T_op_Name) (v : op_Name.p.T) (k : KR) : Option Bool := F v.1.1 (fun y0 => k (.d ⟨.str, y0⟩) [])
theorem op_Name.eq (F0 : T_op_names) : ∀ v k, exF Try.f64 op_Name.p [⟨op_names.p, op_names.g F0⟩] [] [] v k = op_Name.g (op_Name.body F0) v k := fun v k => by kernel_rfl
theorem op_Name.ok : okF 2 op_Name.p (op_Name.g op_Name) := fn2 (op_Name.eq op_names) Try.func64 (by kernel_rfl) (.cons op_names.ok .nil) [] (by kernel_rfl) .nil
/-- function 52: the loop in block 0 -/
abbrev T_instr_Check_L0 : Type := Int → Int → Tc2 → Int → Int → Int → Int → Int → (Int → Option Bool) → (Tc2 → Int → Int → Int → Int → Int → Option Bool) → Option Bool
noncomputable def instr_Check_L0.body (instr_Check_L0 : T_instr_Check_L0) : T_instr_Check_L0 := fun n1443 n1444 t1445 n1446 n1447 n1448 n1449 n1450 k1 k2 =>
  (cond_ (decide (n1444 < n1443)) (cond_ ((decide ((0 : Int) ≤ n1444)) && (decide (n1444 < (3 : Int)))) (cond_ (! (decide ((List.getD (n1446 :: (n1447 :: (n1448 :: (n1449 :: (n1450 :: []))))) ((1 : Nat) + (Int.toNat n1444)) (0 : Int)) < (0 : Int)))) (cond_ (decide ((List.getD (n1446 :: (n1447 :: (n1448 :: (n1449 :: (n1450 :: []))))) ((1 : Nat) + (Int.toNat n1444)) (0 : Int)) > (255 : Int))) (k1 (9 : Int)) (instr_Check_L0 n1443 (IntKind.wrap .i64 (n1444 + (1 : Int))) t1445 n1446 n1447 n1448 n1449 n1450 k1 k2)) (k1 (9 : Int))) none) (k2 t1445 n1446 n1447 n1448 n1449 n1450))
noncomputable def instr_Check_L0 : Nat → T_instr_Check_L0
  | 0 => fun _ _ _ _ _ _ _ _ _ _ => none
  | n + 1 => instr_Check_L0.body (instr_Check_L0 n)
def instr_Check_L0.p : LPat := lp 2 55 [1, 3, 14, 15, 16] (ps (pq [1, 0] 0 0) (ps (pq [1, 1] 0 0) (pl (pc [1, 1] (nk 1) (nk 3)) (pl (pd (.int .i64)) (pl (pd (.int .i64)) pz))))) (pl (po [1, 0] 57 5 (es Ty8 (pl eh pz))) (pl (po [1, 1] 82 1 (es (.int .i64) (pl eh (pl eh (pl eh (pl eh (pl eh pz))))))) pz))
def instr_Check_L0.g (F : T_instr_Check_L0) (v : instr_Check_L0.p.T) (k : KE) : Option Bool := F v.1.2.1 v.1.2.2.1 v.2.1.1 v.2.2.1.1 v.2.2.1.2.1 v.2.2.1.2.2.1 v.2.2.1.2.2.2.1 v.2.2.1.2.2.2.2.1 (fun y0 => k .ret ⟨fillS 55 [2] [(.d ⟨(.int .i64), y0⟩)], [], 2⟩) (fun y0 y1 y2 y3 y4 y5 => k (.exit 0) ⟨fillS 55 [1, 3] [(.ptr [1, 0] 0 0), (.ptr [1, 1] 0 0)], [([1, 0], ⟨57, 5, (.data Ty8 [y0])⟩), ([1, 1], ⟨82, 1, (.data (.int .i64) [y1, y2, y3, y4, y5])⟩)], 2⟩)
theorem instr_Check_L0.step (S : T_instr_Check_L0) : ∀ v k, exR 52 Try.f52 0 instr_Check_L0.p [] [] [] (instr_Check_L0.g S) v k = instr_Check_L0.g (instr_Check_L0.body S) v k := fun v k => by kernel_rfl
theorem instr_Check_L0.ok : okL 52 Try.f52 0 0 instr_Check_L0.p (instr_Check_L0.g (instr_Check_L0 ROUNDS)) := loop2 (G := fun n => instr_Check_L0.g (instr_Check_L0 n)) (fun n => instr_Check_L0.step (instr_Check_L0 n)) .nil [] (by kernel_rfl) .nil (fun _ _ => rfl)
/-- function 60: sheerleg/op.Own -/
abbrev T_op_Own : Type := Int → (Bool → Option Bool) → Option Bool
noncomputable def op_Own.body : T_op_Own := fun n1459 k1 =>
  (cond_ (decide (n1459 ≥ (1 : Int))) (k1 (decide (n1459 ≤ (24 : Int)))) (k1 false))
noncomputable def op_Own : T_op_Own := op_Own.body
def op_Own.p : FPat := fp 60 (pl (pd (.int .i64)) pz) pz
def op_Own.g (F : T_op_Own) (v : op_Own.p.T) (k : KR) : Option Bool := F v.1.1 (fun y0 => k (.d ⟨.bool, y0⟩) [])
theorem op_Own.eq : ∀ v k, exF Try.f60 op_Own.p [] [] [] v k = op_Own.g (op_Own.body) v k := fun v k => by kernel_rfl
theorem op_Own.ok : okF 1 op_Own.p (op_Own.g op_Own) := fn2 (op_Own.eq) Try.func60 (by kernel_rfl) .nil [] (by kernel_rfl) .nil
/-- function 75: sheerleg/op.shapes -/
abbrev T_op_shapes : Type := ((ByteArray × ByteArray × ByteArray × ByteArray × ByteArray × ByteArray × ByteArray × ByteArray × ByteArray × ByteArray × ByteArray × ByteArray × ByteArray × ByteArray × ByteArray × ByteArray × ByteArray × ByteArray × ByteArray × ByteArray × ByteArray × ByteArray × ByteArray × ByteArray × Unit) → Option Bool) → Option Bool
noncomputable def op_shapes.body : T_op_shapes := fun k1 =>
  (k1 ((⟨#[45, 45, 45, 45]⟩ : ByteArray), ((⟨#[119, 45, 45, 110]⟩ : ByteArray), ((⟨#[119, 114, 45, 45]⟩ : ByteArray), ((⟨#[119, 114, 114, 45]⟩ : ByteArray), ((⟨#[119, 114, 114, 45]⟩ : ByteArray), ((⟨#[119, 114, 114, 45]⟩ : ByteArray), ((⟨#[119, 114, 114, 45]⟩ : ByteArray), ((⟨#[119, 114, 114, 45]⟩ : ByteArray), ((⟨#[119, 114, 114, 45]⟩ : ByteArray), ((⟨#[119, 114, 114, 45]⟩ : ByteArray), ((⟨#[45, 45, 45, 116]⟩ : ByteArray), ((⟨#[114, 45, 45, 116]⟩ : ByteArray), ((⟨#[119, 45, 45, 45]⟩ : ByteArray), ((⟨#[114, 45, 45, 45]⟩ : ByteArray), ((⟨#[119, 114, 45, 45]⟩ : ByteArray), ((⟨#[114, 114, 45, 45]⟩ : ByteArray), ((⟨#[103, 45, 45, 45]⟩ : ByteArray), ((⟨#[103, 114, 45, 45]⟩ : ByteArray), ((⟨#[99, 45, 45, 45]⟩ : ByteArray), ((⟨#[99, 102, 107, 45]⟩ : ByteArray), ((⟨#[100, 45, 45, 45]⟩ : ByteArray), ((⟨#[114, 45, 45, 45]⟩ : ByteArray), ((⟨#[119, 119, 45, 45]⟩ : ByteArray), ((⟨#[118, 45, 45, 45]⟩ : ByteArray), ())))))))))))))))))))))))))
noncomputable def op_shapes : T_op_shapes := op_shapes.body
def op_shapes.p : FPat := fp 75 pz pz
def op_shapes.g (F : T_op_shapes) (v : op_shapes.p.T) (k : KR) : Option Bool := F (fun y0 => k (.d ⟨(.st [.str, .str, .str, .str, .str, .str, .str, .str, .str, .str, .str, .str, .str, .str, .str, .str, .str, .str, .str, .str, .str, .str, .str, .str]), y0⟩) [])
theorem op_shapes.eq : ∀ v k, exF Try.f75 op_shapes.p [] [] [] v k = op_shapes.g (op_shapes.body) v k := fun v k => by kernel_rfl
theorem op_shapes.ok : okF 1 op_shapes.p (op_shapes.g op_shapes) := fn2 (op_shapes.eq) Try.func75 (by kernel_rfl) .nil [] (by kernel_rfl) .nil
/-- function 65: sheerleg/op.Shape -/
abbrev T_op_Shape : Type := Int → (ByteArray → Option Bool) → Option Bool
noncomputable def op_Shape.body (op_Own : T_op_Own) (op_shapes : T_op_shapes) : T_op_Shape := fun n1458 k1 =>
  (op_Own n1458
  (fun b1460 => (cond_ (! b1460) (k1 (⟨#[]⟩ : ByteArray)) (op_shapes
  (fun t1461 => (cond_ ((decide ((0 : Int) ≤ (IntKind.wrap .i64 (n1458 - (1 : Int))))) && (decide ((IntKind.wrap .i64 (n1458 - (1 : Int))) < (24 : Int)))) (k1 (List.getD (t1461.1 :: (t1461.2.1 :: (t1461.2.2.1 :: (t1461.2.2.2.1 :: (t1461.2.2.2.2.1 :: (t1461.2.2.2.2.2.1 :: (t1461.2.2.2.2.2.2.1 :: (t1461.2.2.2.2.2.2.2.1 :: (t1461.2.2.2.2.2.2.2.2.1 :: (t1461.2.2.2.2.2.2.2.2.2.1 :: (t1461.2.2.2.2.2.2.2.2.2.2.1 :: (t1461.2.2.2.2.2.2.2.2.2.2.2.1 :: (t1461.2.2.2.2.2.2.2.2.2.2.2.2.1 :: (t1461.2.2.2.2.2.2.2.2.2.2.2.2.2.1 :: (t1461.2.2.2.2.2.2.2.2.2.2.2.2.2.2.1 :: (t1461.2.2.2.2.2.2.2.2.2.2.2.2.2.2.2.1 :: (t1461.2.2.2.2.2.2.2.2.2.2.2.2.2.2.2.2.1 :: (t1461.2.2.2.2.2.2.2.2.2.2.2.2.2.2.2.2.2.1 :: (t1461.2.2.2.2.2.2.2.2.2.2.2.2.2.2.2.2.2.2.1 :: (t1461.2.2.2.2.2.2.2.2.2.2.2.2.2.2.2.2.2.2.2.1 :: (t1461.2.2.2.2.2.2.2.2.2.2.2.2.2.2.2.2.2.2.2.2.1 :: (t1461.2.2.2.2.2.2.2.2.2.2.2.2.2.2.2.2.2.2.2.2.2.1 :: (t1461.2.2.2.2.2.2.2.2.2.2.2.2.2.2.2.2.2.2.2.2.2.2.1 :: (t1461.2.2.2.2.2.2.2.2.2.2.2.2.2.2.2.2.2.2.2.2.2.2.2.1 :: [])))))))))))))))))))))))) (Int.toNat (IntKind.wrap .i64 (n1458 - (1 : Int)))) (⟨#[]⟩ : ByteArray))) none))))))
noncomputable def op_Shape : T_op_Shape := op_Shape.body op_Own op_shapes
def op_Shape.p : FPat := fp 65 (pl (pd (.int .i64)) pz) pz
def op_Shape.g (F : T_op_Shape) (v : op_Shape.p.T) (k : KR) : Option Bool := F v.1.1 (fun y0 => k (.d ⟨.str, y0⟩) [])
theorem op_Shape.eq (F0 : T_op_Own) (F1 : T_op_shapes) : ∀ v k, exF Try.f65 op_Shape.p [⟨op_Own.p, op_Own.g F0⟩, ⟨op_shapes.p, op_shapes.g F1⟩] [] [] v k = op_Shape.g (op_Shape.body F0 F1) v k := fun v k => by kernel_rfl
theorem op_Shape.ok : okF 2 op_Shape.p (op_Shape.g op_Shape) := fn2 (op_Shape.eq op_Own op_shapes) Try.func65 (by kernel_rfl) (.cons op_Own.ok (.cons op_shapes.ok .nil)) [] (by kernel_rfl) .nil
/-- function 52: the loop in block 2 -/
abbrev T_instr_Check_L2 : Type := ByteArray → Int → Int → Int → Int → Int → Int → Int → (Int → Option Bool) → (Option Bool) → Option Bool
noncomputable def instr_Check_L2.body (instr_Check_L2 : T_instr_Check_L2) : T_instr_Check_L2 := fun s1463 n1464 n1465 n1466 n1467 n1468 n1469 n1470 k1 k2 =>
  (cond_ (decide (n1465 < n1464)) (cond_ ((decide ((0 : Int) ≤ n1465)) && (decide (n1465 < (((ByteArray.size s1463) : Nat) : Int)))) (cond_ ((((UInt8.toNat (List.getD (Array.toList (ByteArray.data s1463)) (Int.toNat n1465) (0 : UInt8))) : Nat) : Int) == (45 : Int)) (cond_ ((decide ((0 : Int) ≤ (IntKind.wrap .i64 ((1 : Int) + n1465)))) && (decide ((IntKind.wrap .i64 ((1 : Int) + n1465)) < (5 : Int)))) (cond_ ((List.getD (n1466 :: (n1467 :: (n1468 :: (n1469 :: (n1470 :: []))))) (Int.toNat (IntKind.wrap .i64 ((1 : Int) + n1465))) (0 : Int)) != (0 : Int)) (k1 (2 : Int)) (instr_Check_L2 s1463 n1464 (IntKind.wrap .i64 (n1465 + (1 : Int))) n1466 n1467 n1468 n1469 n1470 k1 k2)) none) (instr_Check_L2 s1463 n1464 (IntKind.wrap .i64 (n1465 + (1 : Int))) n1466 n1467 n1468 n1469 n1470 k1 k2)) none) (k2))
noncomputable def instr_Check_L2 : Nat → T_instr_Check_L2
  | 0 => fun _ _ _ _ _ _ _ _ _ _ => none
  | n + 1 => instr_Check_L2.body (instr_Check_L2 n)
def instr_Check_L2.p : LPat := lp 2 55 [3, 6, 39, 40] (ps (pq [1, 0] 0 0) (pl (pd .str) (pl (pd (.int .i64)) (pl (pd (.int .i64)) pz)))) (pl (po [1, 0] 82 1 (es (.int .i64) (pl eh (pl eh (pl eh (pl eh (pl eh pz))))))) pz)
def instr_Check_L2.g (F : T_instr_Check_L2) (v : instr_Check_L2.p.T) (k : KE) : Option Bool := F v.1.1 v.1.2.1 v.1.2.2.1 v.2.1.1 v.2.1.2.1 v.2.1.2.2.1 v.2.1.2.2.2.1 v.2.1.2.2.2.2.1 (fun y0 => k .ret ⟨fillS 55 [2] [(.d ⟨(.int .i64), y0⟩)], [], 2⟩) (k (.exit 2) ⟨fillS 55 [] [], [], 2⟩)
theorem instr_Check_L2.step (S : T_instr_Check_L2) : ∀ v k, exR 52 Try.f52 2 instr_Check_L2.p [] [] [] (instr_Check_L2.g S) v k = instr_Check_L2.g (instr_Check_L2.body S) v k := fun v k => by kernel_rfl
theorem instr_Check_L2.ok : okL 52 Try.f52 0 2 instr_Check_L2.p (instr_Check_L2.g (instr_Check_L2 ROUNDS)) := loop2 (G := fun n => instr_Check_L2.g (instr_Check_L2 n)) (fun n => instr_Check_L2.step (instr_Check_L2 n)) .nil [] (by kernel_rfl) .nil (fun _ _ => rfl)
/-- function 52: sheerleg/instr.Check -/
abbrev T_instr_Check : Type := Tc2 → (Int → Option Bool) → Option Bool
noncomputable def instr_Check.body (op_Name : T_op_Name) (instr_numbers : T_instr_numbers) (op_Shape : T_op_Shape) (instr_Check_L0 : T_instr_Check_L0) (instr_Check_L2 : T_instr_Check_L2) : T_instr_Check := fun t1438 k1 =>
  (op_Name t1438.1
  (fun s1441 => (cond_ ((ByteArray.toList s1441) == (ByteArray.toList (⟨#[]⟩ : ByteArray))) (k1 (8 : Int)) (instr_numbers t1438
  (fun t1442 => (instr_Check_L0 (3 : Int) (0 : Int) t1438 t1442.1 t1442.2.1 t1442.2.2.1 t1442.2.2.2.1 t1442.2.2.2.2.1
  (fun n1451 => (k1 n1451))
  (fun t1452 n1453 n1454 n1455 n1456 n1457 => (cond_ (! (decide (t1452.2.2.2.2.1 < (-2147483648 : Int)))) (cond_ (decide (t1452.2.2.2.2.1 > (2147483647 : Int))) (k1 (9 : Int)) (op_Shape t1452.1
  (fun s1462 => (instr_Check_L2 s1462 (((ByteArray.size s1462) : Nat) : Int) (0 : Int) n1453 n1454 n1455 n1456 n1457
  (fun n1471 => (k1 n1471))
  (k1 (0 : Int)))))) (k1 (9 : Int))))))))))
noncomputable def instr_Check : T_instr_Check := instr_Check.body op_Name instr_numbers op_Shape (instr_Check_L0 ROUNDS) (instr_Check_L2 ROUNDS)
def instr_Check.p : FPat := fp 52 (pl (pd Ty8) pz) pz
def instr_Check.g (F : T_instr_Check) (v : instr_Check.p.T) (k : KR) : Option Bool := F v.1.1 (fun y0 => k (.d ⟨(.int .i64), y0⟩) [])
theorem instr_Check.eq (F0 : T_op_Name) (F1 : T_instr_numbers) (F2 : T_op_Shape) (L0 : T_instr_Check_L0) (L1 : T_instr_Check_L2) : ∀ v k, exF Try.f52 instr_Check.p [⟨op_Name.p, op_Name.g F0⟩, ⟨instr_numbers.p, instr_numbers.g F1⟩, ⟨op_Shape.p, op_Shape.g F2⟩] [] [⟨0, instr_Check_L0.p, instr_Check_L0.g L0⟩, ⟨2, instr_Check_L2.p, instr_Check_L2.g L1⟩] v k = instr_Check.g (instr_Check.body F0 F1 F2 L0 L1) v k := fun v k => by kernel_rfl
theorem instr_Check.ok : okF 3 instr_Check.p (instr_Check.g instr_Check) := fn2 (instr_Check.eq op_Name instr_numbers op_Shape (instr_Check_L0 ROUNDS) (instr_Check_L2 ROUNDS)) Try.func52 (by kernel_rfl) (.cons op_Name.ok (.cons instr_numbers.ok (.cons op_Shape.ok .nil))) [0, 2] (by kernel_rfl) (.cons instr_Check_L0.ok (.cons instr_Check_L2.ok .nil))
/-- function 33: sheerleg/fun.Get$4 -/
abbrev T_fun_Getfn4 : Type := Int → Int → Bool → Int → Int → (List Int) → (List (Int × Int × Unit)) → Tc3 → Int → Int → Bool → Bool → (List Int) → (Int → Int → Bool → Int → Int → (List Int) → (List (Int × Int × Unit)) → Tc3 → Int → Int → Bool → Bool → (List Int) → Tc0 → Option Bool) → Option Bool
noncomputable def fun_Getfn4.body (fun_reader_num : T_fun_reader_num) (fun_reader_yes : T_fun_reader_yes) : T_fun_Getfn4 := fun n1847 n1848 b1849 n1850 n1851 ns1852 ts1853 ts1854 n1855 n1856 b1857 b1858 ns1859 k1 =>
  (fun_reader_num (1 : Int) n1855 n1856 b1857 b1858 ns1859
  (fun n1860 n1861 n1862 b1863 b1864 ns1865 => (fun_reader_num (1 : Int) n1861 n1862 b1863 b1864 ns1865
  (fun n1866 n1867 n1868 b1869 b1870 ns1871 => (fun_reader_yes n1867 n1868 b1869 b1870 ns1871
  (fun b1872 n1873 n1874 b1875 b1876 ns1877 => (k1 n1847 n1848 b1849 n1850 n1851 ns1852 ts1853 ts1854 n1873 n1874 b1875 b1876 ns1877 [(n1860, (n1866, (b1872, ())))])))))))
noncomputable def fun_Getfn4 : T_fun_Getfn4 := fun_Getfn4.body fun_reader_num fun_reader_yes
def fun_Getfn4.p : FPat := fp 33 (ps (pq [0, 0] 0 0) (ps (pq [0, 4] 0 0) pz)) (pl (po [0, 0] 27 9 (em (pl (pa (pl (pd (.int .i64)) (ps (pr [0, 1]) (pl (pd (.int .i64)) (pl (pd .bool) (pl (pd (.int .i64)) (pl (pd (.int .i64)) (ps (pr [0, 2]) (ps (pr [0, 3]) (ps (pk 0) pz)))))))))) pz))) (pl (po [0, 1] 3 1 (ed (.int .i64))) (pl (po [0, 2] 55 2 (ed Ty3)) (pl (po [0, 3] 57 5 (ed Ty8)) (ps (po [0, 4] 65 1 (em (ps (pq [0, 5] 0 0) pz))) (pl (po [0, 5] 67 2 (em (pl (pa (ps (pq [0, 6] 0 0) (pl (pd (.int .i64)) pz))) pz))) (pl (po [0, 6] 64 4 (em (pl (pa (ps (pr [0, 7]) (pl (pd (.int .i64)) (pl (pd .bool) (pl (pd .bool) pz))))) pz))) (pl (po [0, 7] 5 1 (ed (.int .u8))) pz))))))))
def fun_Getfn4.g (F : T_fun_Getfn4) (v : fun_Getfn4.p.T) (k : KR) : Option Bool := F v.2.1.1.1 v.2.1.1.2.1 v.2.1.1.2.2.1 v.2.1.1.2.2.2.1 v.2.1.1.2.2.2.2.1 v.2.2.1 v.2.2.2.1 v.2.2.2.2.1 v.2.2.2.2.2.1.1.1 v.2.2.2.2.2.2.1.1.1 v.2.2.2.2.2.2.1.1.2.1 v.2.2.2.2.2.2.1.1.2.2.1 v.2.2.2.2.2.2.2.1 (fun y0 y1 y2 y3 y4 y5 y6 y7 y8 y9 y10 y11 y12 y13 => k (.tup []) [([0, 0], ⟨27, 9, (.mix [(.agg [(.d ⟨(.int .i64), y0⟩), (.ref [0, 1]), (.d ⟨(.int .i64), y1⟩), (.d ⟨.bool, y2⟩), (.d ⟨(.int .i64), y3⟩), (.d ⟨(.int .i64), y4⟩), (.ref [0, 2]), (.ref [0, 3]), (.ref [1, 0])])])⟩), ([0, 1], ⟨3, 1, (.data (.int .i64) y5)⟩), ([0, 2], ⟨55, 2, (.data Ty3 y6)⟩), ([0, 3], ⟨57, 5, (.data Ty8 y7)⟩), ([0, 4], ⟨65, 1, (.mix [(.ptr [0, 5] 0 0)])⟩), ([0, 5], ⟨67, 2, (.mix [(.agg [(.ptr [0, 6] 0 0), (.d ⟨(.int .i64), y8⟩)])])⟩), ([0, 6], ⟨64, 4, (.mix [(.agg [(.ref [0, 7]), (.d ⟨(.int .i64), y9⟩), (.d ⟨.bool, y10⟩), (.d ⟨.bool, y11⟩)])])⟩), ([0, 7], ⟨5, 1, (.data (.int .u8) y12)⟩), ([1, 0], ⟨60, 3, (.data Ty4 y13)⟩)])
theorem fun_Getfn4.eq (F0 : T_fun_reader_num) (F1 : T_fun_reader_yes) : ∀ v k, exF Try.f33 fun_Getfn4.p [⟨fun_reader_num.p, fun_reader_num.g F0⟩, ⟨fun_reader_yes.p, fun_reader_yes.g F1⟩] [] [] v k = fun_Getfn4.g (fun_Getfn4.body F0 F1) v k := fun v k => by kernel_rfl
theorem fun_Getfn4.ok : okF 7 fun_Getfn4.p (fun_Getfn4.g fun_Getfn4) := fn2 (fun_Getfn4.eq fun_reader_num fun_reader_yes) Try.func33 (by kernel_rfl) (.cons fun_reader_num.ok (.cons fun_reader_yes.ok .nil)) [] (by kernel_rfl) .nil
/-- function 27: sheerleg/fun.Get$1 -/
abbrev T_fun_Getfn1v3 : Type := Int → Int → Bool → Int → Int → (List Int) → (List (Int × Int × Unit)) → Tc0 → Int → Int → Bool → Bool → (List Int) → (Int → Int → Bool → Int → Int → (List (Int × Int × Unit)) → Tc0 → Int → Int → Bool → Bool → (List Int) → (List Int) → Option Bool) → Option Bool
noncomputable def fun_Getfn1v3.body (fun_reader_num : T_fun_reader_num) : T_fun_Getfn1v3 := fun n1943 n1944 b1945 n1946 n1947 ns1948 ts1949 ts1950 n1951 n1952 b1953 b1954 ns1955 k1 =>
  (fun_reader_num (1 : Int) n1951 n1952 b1953 b1954 ns1955
  (fun n1956 n1957 n1958 b1959 b1960 ns1961 => (cond_ (Nat.ble (((List.length ns1948) + (List.length (n1956 :: []))) * (8 : Nat)) (140737488355328 : Nat)) (k1 n1943 n1944 b1945 n1946 n1947 ts1949 ts1950 n1957 n1958 b1959 b1960 ns1961 (ns1948 ++ (n1956 :: []))) none)))
noncomputable def fun_Getfn1v3 : T_fun_Getfn1v3 := fun_Getfn1v3.body fun_reader_num
def fun_Getfn1v3.p : FPat := fp 27 (ps (pq [0, 0] 0 0) (ps (pq [0, 4] 0 0) pz)) (pl (po [0, 0] 27 9 (em (pl (pa (pl (pd (.int .i64)) (ps (pr [0, 1]) (pl (pd (.int .i64)) (pl (pd .bool) (pl (pd (.int .i64)) (pl (pd (.int .i64)) (ps (pr [0, 2]) (ps (pk 0) (ps (pr [0, 3]) pz)))))))))) pz))) (pl (po [0, 1] 3 1 (ed (.int .i64))) (pl (po [0, 2] 55 2 (ed Ty3)) (pl (po [0, 3] 60 3 (ed Ty4)) (ps (po [0, 4] 65 1 (em (ps (pq [0, 5] 0 0) pz))) (pl (po [0, 5] 67 2 (em (pl (pa (ps (pq [0, 6] 0 0) (pl (pd (.int .i64)) pz))) pz))) (pl (po [0, 6] 64 4 (em (pl (pa (ps (pr [0, 7]) (pl (pd (.int .i64)) (pl (pd .bool) (pl (pd .bool) pz))))) pz))) (pl (po [0, 7] 5 1 (ed (.int .u8))) pz))))))))
def fun_Getfn1v3.g (F : T_fun_Getfn1v3) (v : fun_Getfn1v3.p.T) (k : KR) : Option Bool := F v.2.1.1.1 v.2.1.1.2.1 v.2.1.1.2.2.1 v.2.1.1.2.2.2.1 v.2.1.1.2.2.2.2.1 v.2.2.1 v.2.2.2.1 v.2.2.2.2.1 v.2.2.2.2.2.1.1.1 v.2.2.2.2.2.2.1.1.1 v.2.2.2.2.2.2.1.1.2.1 v.2.2.2.2.2.2.1.1.2.2.1 v.2.2.2.2.2.2.2.1 (fun y0 y1 y2 y3 y4 y5 y6 y7 y8 y9 y10 y11 y12 => k (.tup []) [([0, 0], ⟨27, 9, (.mix [(.agg [(.d ⟨(.int .i64), y0⟩), (.ref [1, 0]), (.d ⟨(.int .i64), y1⟩), (.d ⟨.bool, y2⟩), (.d ⟨(.int .i64), y3⟩), (.d ⟨(.int .i64), y4⟩), (.ref [0, 2]), .nils, (.ref [0, 3])])])⟩), ([0, 2], ⟨55, 2, (.data Ty3 y5)⟩), ([0, 3], ⟨60, 3, (.data Ty4 y6)⟩), ([0, 4], ⟨65, 1, (.mix [(.ptr [0, 5] 0 0)])⟩), ([0, 5], ⟨67, 2, (.mix [(.agg [(.ptr [0, 6] 0 0), (.d ⟨(.int .i64), y7⟩)])])⟩), ([0, 6], ⟨64, 4, (.mix [(.agg [(.ref [0, 7]), (.d ⟨(.int .i64), y8⟩), (.d ⟨.bool, y9⟩), (.d ⟨.bool, y10⟩)])])⟩), ([0, 7], ⟨5, 1, (.data (.int .u8) y11)⟩), ([1, 0], ⟨3, 1, (.data (.int .i64) y12)⟩)])
theorem fun_Getfn1v3.eq (F0 : T_fun_reader_num) : ∀ v k, exF Try.f27 fun_Getfn1v3.p [⟨fun_reader_num.p, fun_reader_num.g F0⟩] [] [] v k = fun_Getfn1v3.g (fun_Getfn1v3.body F0) v k := fun v k => by kernel_rfl
theorem fun_Getfn1v3.ok : okF 6 fun_Getfn1v3.p (fun_Getfn1v3.g fun_Getfn1v3) := fn2 (fun_Getfn1v3.eq fun_reader_num) Try.func27 (by kernel_rfl) (.cons fun_reader_num.ok .nil) [] (by kernel_rfl) .nil
/-- function 29: sheerleg/fun.Get$2 -/
abbrev T_fun_Getfn2v2 : Type := Int → Int → Bool → Int → Int → (List Int) → (List (Int × Int × Unit)) → Tc0 → Int → Int → Bool → Bool → (List Int) → (Int → Int → Bool → Int → Int → (List Int) → Tc0 → Int → Int → Bool → Bool → (List Int) → (List (Int × Int × Unit)) → Option Bool) → Option Bool
noncomputable def fun_Getfn2v2.body (fun_reader_num : T_fun_reader_num) : T_fun_Getfn2v2 := fun n2072 n2073 b2074 n2075 n2076 ns2077 ts2078 ts2079 n2080 n2081 b2082 b2083 ns2084 k1 =>
  (fun_reader_num (1 : Int) n2080 n2081 b2082 b2083 ns2084
  (fun n2085 n2086 n2087 b2088 b2089 ns2090 => (fun_reader_num (2 : Int) n2086 n2087 b2088 b2089 ns2090
  (fun n2091 n2092 n2093 b2094 b2095 ns2096 => (cond_ (Nat.ble (((List.length ts2078) + (List.length ((n2085, (n2091, ())) :: []))) * (16 : Nat)) (140737488355328 : Nat)) (k1 n2072 n2073 b2074 n2075 n2076 ns2077 ts2079 n2092 n2093 b2094 b2095 ns2096 (ts2078 ++ ((n2085, (n2091, ())) :: []))) none)))))
noncomputable def fun_Getfn2v2 : T_fun_Getfn2v2 := fun_Getfn2v2.body fun_reader_num
def fun_Getfn2v2.p : FPat := fp 29 (ps (pq [0, 0] 0 0) (ps (pq [0, 4] 0 0) pz)) (pl (po [0, 0] 27 9 (em (pl (pa (pl (pd (.int .i64)) (ps (pr [0, 1]) (pl (pd (.int .i64)) (pl (pd .bool) (pl (pd (.int .i64)) (pl (pd (.int .i64)) (ps (pr [0, 2]) (ps (pk 0) (ps (pr [0, 3]) pz)))))))))) pz))) (pl (po [0, 1] 3 1 (ed (.int .i64))) (pl (po [0, 2] 55 2 (ed Ty3)) (pl (po [0, 3] 60 3 (ed Ty4)) (ps (po [0, 4] 65 1 (em (ps (pq [0, 5] 0 0) pz))) (pl (po [0, 5] 67 2 (em (pl (pa (ps (pq [0, 6] 0 0) (pl (pd (.int .i64)) pz))) pz))) (pl (po [0, 6] 64 4 (em (pl (pa (ps (pr [0, 7]) (pl (pd (.int .i64)) (pl (pd .bool) (pl (pd .bool) pz))))) pz))) (pl (po [0, 7] 5 1 (ed (.int .u8))) pz))))))))
def fun_Getfn2v2.g (F : T_fun_Getfn2v2) (v : fun_Getfn2v2.p.T) (k : KR) : Option Bool := F v.2.1.1.1 v.2.1.1.2.1 v.2.1.1.2.2.1 v.2.1.1.2.2.2.1 v.2.1.1.2.2.2.2.1 v.2.2.1 v.2.2.2.1 v.2.2.2.2.1 v.2.2.2.2.2.1.1.1 v.2.2.2.2.2.2.1.1.1 v.2.2.2.2.2.2.1.1.2.1 v.2.2.2.2.2.2.1.1.2.2.1 v.2.2.2.2.2.2.2.1 (fun y0 y1 y2 y3 y4 y5 y6 y7 y8 y9 y10 y11 y12 => k (.tup []) [([0, 0], ⟨27, 9, (.mix [(.agg [(.d ⟨(.int .i64), y0⟩), (.ref [0, 1]), (.d ⟨(.int .i64), y1⟩), (.d ⟨.bool, y2⟩), (.d ⟨(.int .i64), y3⟩), (.d ⟨(.int .i64), y4⟩), (.ref [1, 0]), .nils, (.ref [0, 3])])])⟩), ([0, 1], ⟨3, 1, (.data (.int .i64) y5)⟩), ([0, 3], ⟨60, 3, (.data Ty4 y6)⟩), ([0, 4], ⟨65, 1, (.mix [(.ptr [0, 5] 0 0)])⟩), ([0, 5], ⟨67, 2, (.mix [(.agg [(.ptr [0, 6] 0 0), (.d ⟨(.int .i64), y7⟩)])])⟩), ([0, 6], ⟨64, 4, (.mix [(.agg [(.ref [0, 7]), (.d ⟨(.int .i64), y8⟩), (.d ⟨.bool, y9⟩), (.d ⟨.bool, y10⟩)])])⟩), ([0, 7], ⟨5, 1, (.data (.int .u8) y11)⟩), ([1, 0], ⟨55, 2, (.data Ty3 y12)⟩)])
theorem fun_Getfn2v2.eq (F0 : T_fun_reader_num) : ∀ v k, exF Try.f29 fun_Getfn2v2.p [⟨fun_reader_num.p, fun_reader_num.g F0⟩] [] [] v k = fun_Getfn2v2.g (fun_Getfn2v2.body F0) v k := fun v k => by kernel_rfl
theorem fun_Getfn2v2.ok : okF 6 fun_Getfn2v2.p (fun_Getfn2v2.g fun_Getfn2v2) := fn2 (fun_Getfn2v2.eq fun_reader_num) Try.func29 (by kernel_rfl) (.cons fun_reader_num.ok .nil) [] (by kernel_rfl) .nil
/-- function 33: sheerleg/fun.Get$4 -/
abbrev T_fun_Getfn4v1 : Type := Int → Int → Bool → Int → Int → (List Int) → (List (Int × Int × Unit)) → Tc3 → Tc0 → Int → Int → Bool → Bool → (List Int) → (Int → Int → Bool → Int → Int → (List Int) → (List (Int × Int × Unit)) → Tc3 → Int → Int → Bool → Bool → (List Int) → Tc0 → Option Bool) → Option Bool
noncomputable def fun_Getfn4v1.body (fun_reader_num : T_fun_reader_num) (fun_reader_yes : T_fun_reader_yes) : T_fun_Getfn4v1 := fun n2301 n2302 b2303 n2304 n2305 ns2306 ts2307 ts2308 ts2309 n2310 n2311 b2312 b2313 ns2314 k1 =>
  (fun_reader_num (1 : Int) n2310 n2311 b2312 b2313 ns2314
  (fun n2315 n2316 n2317 b2318 b2319 ns2320 => (fun_reader_num (1 : Int) n2316 n2317 b2318 b2319 ns2320
  (fun n2321 n2322 n2323 b2324 b2325 ns2326 => (fun_reader_yes n2322 n2323 b2324 b2325 ns2326
  (fun b2327 n2328 n2329 b2330 b2331 ns2332 => (cond_ (Nat.ble (((List.length ts2309) + (List.length ((n2315, (n2321, (b2327, ()))) :: []))) * (24 : Nat)) (140737488355328 : Nat)) (k1 n2301 n2302 b2303 n2304 n2305 ns2306 ts2307 ts2308 n2328 n2329 b2330 b2331 ns2332 (ts2309 ++ ((n2315, (n2321, (b2327, ()))) :: []))) none)))))))
noncomputable def fun_Getfn4v1 : T_fun_Getfn4v1 := fun_Getfn4v1.body fun_reader_num fun_reader_yes
def fun_Getfn4v1.p : FPat := fp 33 (ps (pq [0, 0] 0 0) (ps (pq [0, 5] 0 0) pz)) (pl (po [0, 0] 27 9 (em (pl (pa (pl (pd (.int .i64)) (ps (pr [0, 1]) (pl (pd (.int .i64)) (pl (pd .bool) (pl (pd (.int .i64)) (pl (pd (.int .i64)) (ps (pr [0, 2]) (ps (pr [0, 3]) (ps (pr [0, 4]) pz)))))))))) pz))) (pl (po [0, 1] 3 1 (ed (.int .i64))) (pl (po [0, 2] 55 2 (ed Ty3)) (pl (po [0, 3] 57 5 (ed Ty8)) (pl (po [0, 4] 60 3 (ed Ty4)) (ps (po [0, 5] 65 1 (em (ps (pq [0, 6] 0 0) pz))) (pl (po [0, 6] 67 2 (em (pl (pa (ps (pq [0, 7] 0 0) (pl (pd (.int .i64)) pz))) pz))) (pl (po [0, 7] 64 4 (em (pl (pa (ps (pr [0, 8]) (pl (pd (.int .i64)) (pl (pd .bool) (pl (pd .bool) pz))))) pz))) (pl (po [0, 8] 5 1 (ed (.int .u8))) pz)))))))))
def fun_Getfn4v1.g (F : T_fun_Getfn4v1) (v : fun_Getfn4v1.p.T) (k : KR) : Option Bool := F v.2.1.1.1 v.2.1.1.2.1 v.2.1.1.2.2.1 v.2.1.1.2.2.2.1 v.2.1.1.2.2.2.2.1 v.2.2.1 v.2.2.2.1 v.2.2.2.2.1 v.2.2.2.2.2.1 v.2.2.2.2.2.2.1.1.1 v.2.2.2.2.2.2.2.1.1.1 v.2.2.2.2.2.2.2.1.1.2.1 v.2.2.2.2.2.2.2.1.1.2.2.1 v.2.2.2.2.2.2.2.2.1 (fun y0 y1 y2 y3 y4 y5 y6 y7 y8 y9 y10 y11 y12 y13 => k (.tup []) [([0, 0], ⟨27, 9, (.mix [(.agg [(.d ⟨(.int .i64), y0⟩), (.ref [0, 1]), (.d ⟨(.int .i64), y1⟩), (.d ⟨.bool, y2⟩), (.d ⟨(.int .i64), y3⟩), (.d ⟨(.int .i64), y4⟩), (.ref [0, 2]), (.ref [0, 3]), (.ref [1, 0])])])⟩), ([0, 1], ⟨3, 1, (.data (.int .i64) y5)⟩), ([0, 2], ⟨55, 2, (.data Ty3 y6)⟩), ([0, 3], ⟨57, 5, (.data Ty8 y7)⟩), ([0, 5], ⟨65, 1, (.mix [(.ptr [0, 6] 0 0)])⟩), ([0, 6], ⟨67, 2, (.mix [(.agg [(.ptr [0, 7] 0 0), (.d ⟨(.int .i64), y8⟩)])])⟩), ([0, 7], ⟨64, 4, (.mix [(.agg [(.ref [0, 8]), (.d ⟨(.int .i64), y9⟩), (.d ⟨.bool, y10⟩), (.d ⟨.bool, y11⟩)])])⟩), ([0, 8], ⟨5, 1, (.data (.int .u8) y12)⟩), ([1, 0], ⟨60, 3, (.data Ty4 y13)⟩)])
theorem fun_Getfn4v1.eq (F0 : T_fun_reader_num) (F1 : T_fun_reader_yes) : ∀ v k, exF Try.f33 fun_Getfn4v1.p [⟨fun_reader_num.p, fun_reader_num.g F0⟩, ⟨fun_reader_yes.p, fun_reader_yes.g F1⟩] [] [] v k = fun_Getfn4v1.g (fun_Getfn4v1.body F0 F1) v k := fun v k => by kernel_rfl
theorem fun_Getfn4v1.ok : okF 7 fun_Getfn4v1.p (fun_Getfn4v1.g fun_Getfn4v1) := fn2 (fun_Getfn4v1.eq fun_reader_num fun_reader_yes) Try.func33 (by kernel_rfl) (.cons fun_reader_num.ok (.cons fun_reader_yes.ok .nil)) [] (by kernel_rfl) .nil
/-- function 26: the loop in block 0 -/
abbrev T_fun_reader_many_L0 : Type := Int → Int → Int → Int → Bool → Bool → (List Int) → Int → Int → Bool → Int → Int → (List Int) → (List (Int × Int × Unit)) → Tc0 → (Int → Int → Bool → Bool → (List Int) → Int → Int → Bool → Int → Int → (List Int) → (List (Int × Int × Unit)) → Tc0 → Option Bool) → (Int → Int → Bool → Bool → (List Int) → Int → Int → Bool → Int → Int → (List Int) → (List (Int × Int × Unit)) → Tc0 → Option Bool) → Option Bool
noncomputable def fun_reader_many_L0.body (fun_reader_many_L0 : T_fun_reader_many_L0) (fun_Getfn1v3 : T_fun_Getfn1v3) : T_fun_reader_many_L0 := fun n2383 n2384 n2385 n2386 b2387 b2388 ns2389 n2390 n2391 b2392 n2393 n2394 ns2395 ts2396 ts2397 k1 k2 =>
  (cond_ (decide (n2384 < n2383)) (cond_ (n2385 != (0 : Int)) (k1 n2385 n2386 b2387 b2388 ns2389 n2390 n2391 b2392 n2393 n2394 ns2395 ts2396 ts2397) (fun_Getfn1v3 n2390 n2391 b2392 n2393 n2394 ns2395 ts2396 ts2397 n2385 n2386 b2387 b2388 ns2389
  (fun n2398 n2399 b2400 n2401 n2402 ts2403 ts2404 n2405 n2406 b2407 b2408 ns2409 ns2410 => (fun_reader_many_L0 n2383 (IntKind.wrap .i64 (n2384 + (1 : Int))) n2405 n2406 b2407 b2408 ns2409 n2398 n2399 b2400 n2401 n2402 ns2410 ts2403 ts2404 k1 k2)))) (k2 n2385 n2386 b2387 b2388 ns2389 n2390 n2391 b2392 n2393 n2394 ns2395 ts2396 ts2397))
noncomputable def fun_reader_many_L0 : Nat → T_fun_reader_many_L0
  | 0 => fun _ _ _ _ _ _ _ _ _ _ _ _ _ _ _ _ _ => none
  | n + 1 => fun_reader_many_L0.body (fun_reader_many_L0 n) fun_Getfn1v3
def fun_reader_many_L0.p : LPat := lp 2 16 [0, 1, 5, 6] (ps (pq [0, 0] 0 0) (pl (pf 27 pz (ps (pq [0, 3] 0 0) (ps (pq [0, 4] 0 0) pz))) (pl (pd (.int .i64)) (pl (pd (.int .i64)) pz)))) (pl (po [0, 0] 67 2 (em (pl (pa (ps (pq [0, 1] 0 0) (pl (pd (.int .i64)) pz))) pz))) (pl (po [0, 1] 64 4 (em (pl (pa (ps (pr [0, 2]) (pl (pd (.int .i64)) (pl (pd .bool) (pl (pd .bool) pz))))) pz))) (pl (po [0, 2] 5 1 (ed (.int .u8))) (pl (po [0, 3] 27 9 (em (pl (pa (pl (pd (.int .i64)) (ps (pr [1, 0]) (pl (pd (.int .i64)) (pl (pd .bool) (pl (pd (.int .i64)) (pl (pd (.int .i64)) (ps (pr [1, 1]) (ps (pk 0) (ps (pr [1, 2]) pz)))))))))) pz))) (ps (po [0, 4] 65 1 (em (ps (pq [0, 0] 0 0) pz))) (pl (po [1, 0] 3 1 (ed (.int .i64))) (pl (po [1, 1] 55 2 (ed Ty3)) (pl (po [1, 2] 60 3 (ed Ty4)) pz))))))))
def fun_reader_many_L0.g (F : T_fun_reader_many_L0) (v : fun_reader_many_L0.p.T) (k : KE) : Option Bool := F v.1.2.1 v.1.2.2.1 v.2.1.1.1 v.2.2.1.1.1 v.2.2.1.1.2.1 v.2.2.1.1.2.2.1 v.2.2.2.1 v.2.2.2.2.1.1.1 v.2.2.2.2.1.1.2.1 v.2.2.2.2.1.1.2.2.1 v.2.2.2.2.1.1.2.2.2.1 v.2.2.2.2.1.1.2.2.2.2.1 v.2.2.2.2.2.1 v.2.2.2.2.2.2.1 v.2.2.2.2.2.2.2.1 (fun y0 y1 y2 y3 y4 y5 y6 y7 y8 y9 y10 y11 y12 => k .ret ⟨fillS 16 [] [], [([0, 0], ⟨67, 2, (.mix [(.agg [(.ptr [0, 1] 0 0), (.d ⟨(.int .i64), y0⟩)])])⟩), ([0, 1], ⟨64, 4, (.mix [(.agg [(.ref [0, 2]), (.d ⟨(.int .i64), y1⟩), (.d ⟨.bool, y2⟩), (.d ⟨.bool, y3⟩)])])⟩), ([0, 2], ⟨5, 1, (.data (.int .u8) y4)⟩), ([0, 3], ⟨27, 9, (.mix [(.agg [(.d ⟨(.int .i64), y5⟩), (.ref [1, 0]), (.d ⟨(.int .i64), y6⟩), (.d ⟨.bool, y7⟩), (.d ⟨(.int .i64), y8⟩), (.d ⟨(.int .i64), y9⟩), (.ref [1, 1]), .nils, (.ref [1, 2])])])⟩), ([0, 4], ⟨65, 1, (.mix [(.ptr [0, 0] 0 0)])⟩), ([1, 0], ⟨3, 1, (.data (.int .i64) y10)⟩), ([1, 1], ⟨55, 2, (.data Ty3 y11)⟩), ([1, 2], ⟨60, 3, (.data Ty4 y12)⟩)], 2⟩) (fun y0 y1 y2 y3 y4 y5 y6 y7 y8 y9 y10 y11 y12 => k (.exit 0) ⟨fillS 16 [] [], [([0, 0], ⟨67, 2, (.mix [(.agg [(.ptr [0, 1] 0 0), (.d ⟨(.int .i64), y0⟩)])])⟩), ([0, 1], ⟨64, 4, (.mix [(.agg [(.ref [0, 2]), (.d ⟨(.int .i64), y1⟩), (.d ⟨.bool, y2⟩), (.d ⟨.bool, y3⟩)])])⟩), ([0, 2], ⟨5, 1, (.data (.int .u8) y4)⟩), ([0, 3], ⟨27, 9, (.mix [(.agg [(.d ⟨(.int .i64), y5⟩), (.ref [1, 0]), (.d ⟨(.int .i64), y6⟩), (.d ⟨.bool, y7⟩), (.d ⟨(.int .i64), y8⟩), (.d ⟨(.int .i64), y9⟩), (.ref [1, 1]), .nils, (.ref [1, 2])])])⟩), ([0, 4], ⟨65, 1, (.mix [(.ptr [0, 0] 0 0)])⟩), ([1, 0], ⟨3, 1, (.data (.int .i64) y10)⟩), ([1, 1], ⟨55, 2, (.data Ty3 y11)⟩), ([1, 2], ⟨60, 3, (.data Ty4 y12)⟩)], 2⟩)
theorem fun_reader_many_L0.step (S : T_fun_reader_many_L0) (F0 : T_fun_Getfn1v3) : ∀ v k, exR 26 Try.f26 0 fun_reader_many_L0.p [⟨fun_Getfn1v3.p, fun_Getfn1v3.g F0⟩] [] [] (fun_reader_many_L0.g S) v k = fun_reader_many_L0.g (fun_reader_many_L0.body S F0) v k := fun v k => by kernel_rfl
theorem fun_reader_many_L0.ok : okL 26 Try.f26 6 0 fun_reader_many_L0.p (fun_reader_many_L0.g (fun_reader_many_L0 ROUNDS)) := loop2 (G := fun n => fun_reader_many_L0.g (fun_reader_many_L0 n)) (fun n => fun_reader_many_L0.step (fun_reader_many_L0 n) fun_Getfn1v3) (.cons fun_Getfn1v3.ok .nil) [] (by kernel_rfl) .nil (fun _ _ => rfl)
/-- function 26: (*sheerleg/fun.reader).many -/
abbrev T_fun_reader_many : Type := Int → Int → Bool → Bool → (List Int) → Int → Int → Bool → Int → Int → (Int → Int → Bool → Bool → (List Int) → Int → Int → Bool → Int → Int → (List Int) → (List (Int × Int × Unit)) → Tc0 → Option Bool) → Option Bool
noncomputable def fun_reader_many.body (fun_reader_num : T_fun_reader_num) (fun_reader_many_L0 : T_fun_reader_many_L0) : T_fun_reader_many := fun n2367 n2368 b2369 b2370 ns2371 n2372 n2373 b2374 n2375 n2376 k1 =>
  (fun_reader_num (1 : Int) n2367 n2368 b2369 b2370 ns2371
  (fun n2377 n2378 n2379 b2380 b2381 ns2382 => (fun_reader_many_L0 n2377 (0 : Int) n2378 n2379 b2380 b2381 ns2382 n2372 n2373 b2374 n2375 n2376 [] [] []
  (fun n2411 n2412 b2413 b2414 ns2415 n2416 n2417 b2418 n2419 n2420 ns2421 ts2422 ts2423 => (k1 n2411 n2412 b2413 b2414 ns2415 n2416 n2417 b2418 n2419 n2420 ns2421 ts2422 ts2423))
  (fun n2424 n2425 b2426 b2427 ns2428 n2429 n2430 b2431 n2432 n2433 ns2434 ts2435 ts2436 => (k1 n2424 n2425 b2426 b2427 ns2428 n2429 n2430 b2431 n2432 n2433 ns2434 ts2435 ts2436)))))
noncomputable def fun_reader_many : T_fun_reader_many := fun_reader_many.body fun_reader_num (fun_reader_many_L0 ROUNDS)
def fun_reader_many.p : FPat := fp 26 (ps (pq [0, 0] 0 0) (pl (pf 27 pz (ps (pq [0, 3] 0 0) (ps (pq [0, 4] 0 0) pz))) pz)) (pl (po [0, 0] 67 2 (em (pl (pa (ps (pq [0, 1] 0 0) (pl (pd (.int .i64)) pz))) pz))) (pl (po [0, 1] 64 4 (em (pl (pa (ps (pr [0, 2]) (pl (pd (.int .i64)) (pl (pd .bool) (pl (pd .bool) pz))))) pz))) (pl (po [0, 2] 5 1 (ed (.int .u8))) (pl (po [0, 3] 27 9 (em (pl (pa (pl (pd (.int .i64)) (ps (pk 0) (pl (pd (.int .i64)) (pl (pd .bool) (pl (pd (.int .i64)) (pl (pd (.int .i64)) (ps (pk 0) (ps (pk 0) (ps (pk 0) pz)))))))))) pz))) (ps (po [0, 4] 65 1 (em (ps (pq [0, 0] 0 0) pz))) pz)))))
def fun_reader_many.g (F : T_fun_reader_many) (v : fun_reader_many.p.T) (k : KR) : Option Bool := F v.2.1.1.1 v.2.2.1.1.1 v.2.2.1.1.2.1 v.2.2.1.1.2.2.1 v.2.2.2.1 v.2.2.2.2.1.1.1 v.2.2.2.2.1.1.2.1 v.2.2.2.2.1.1.2.2.1 v.2.2.2.2.1.1.2.2.2.1 v.2.2.2.2.1.1.2.2.2.2.1 (fun y0 y1 y2 y3 y4 y5 y6 y7 y8 y9 y10 y11 y12 => k (.tup []) [([0, 0], ⟨67, 2, (.mix [(.agg [(.ptr [0, 1] 0 0), (.d ⟨(.int .i64), y0⟩)])])⟩), ([0, 1], ⟨64, 4, (.mix [(.agg [(.ref [0, 2]), (.d ⟨(.int .i64), y1⟩), (.d ⟨.bool, y2⟩), (.d ⟨.bool, y3⟩)])])⟩), ([0, 2], ⟨5, 1, (.data (.int .u8) y4)⟩), ([0, 3], ⟨27, 9, (.mix [(.agg [(.d ⟨(.int .i64), y5⟩), (.ref [1, 0]), (.d ⟨(.int .i64), y6⟩), (.d ⟨.bool, y7⟩), (.d ⟨(.int .i64), y8⟩), (.d ⟨(.int .i64), y9⟩), (.ref [1, 1]), .nils, (.ref [1, 2])])])⟩), ([0, 4], ⟨65, 1, (.mix [(.ptr [0, 0] 0 0)])⟩), ([1, 0], ⟨3, 1, (.data (.int .i64) y10)⟩), ([1, 1], ⟨55, 2, (.data Ty3 y11)⟩), ([1, 2], ⟨60, 3, (.data Ty4 y12)⟩)])
theorem fun_reader_many.eq (F0 : T_fun_reader_num) (L0 : T_fun_reader_many_L0) : ∀ v k, exF Try.f26 fun_reader_many.p [⟨fun_reader_num.p, fun_reader_num.g F0⟩] [] [⟨0, fun_reader_many_L0.p, fun_reader_many_L0.g L0⟩] v k = fun_reader_many.g (fun_reader_many.body F0 L0) v k := fun v k => by kernel_rfl
theorem fun_reader_many.ok : okF 7 fun_reader_many.p (fun_reader_many.g fun_reader_many) := fn2 (fun_reader_many.eq fun_reader_num (fun_reader_many_L0 ROUNDS)) Try.func26 (by kernel_rfl) (.cons fun_reader_num.ok .nil) [0] (by kernel_rfl) (.cons fun_reader_many_L0.ok .nil)
/-- function 26: the loop in block 0 -/
abbrev T_fun_reader_manyv1_L0 : Type := Int → Int → Int → Int → Bool → Bool → (List Int) → Int → Int → Bool → Int → Int → (List Int) → (List (Int × Int × Unit)) → Tc0 → (Int → Int → Bool → Bool → (List Int) → Int → Int → Bool → Int → Int → (List Int) → (List (Int × Int × Unit)) → Tc0 → Option Bool) → (Int → Int → Bool → Bool → (List Int) → Int → Int → Bool → Int → Int → (List Int) → (List (Int × Int × Unit)) → Tc0 → Option Bool) → Option Bool
noncomputable def fun_reader_manyv1_L0.body (fun_reader_manyv1_L0 : T_fun_reader_manyv1_L0) (fun_Getfn2v2 : T_fun_Getfn2v2) : T_fun_reader_manyv1_L0 := fun n2493 n2494 n2495 n2496 b2497 b2498 ns2499 n2500 n2501 b2502 n2503 n2504 ns2505 ts2506 ts2507 k1 k2 =>
  (cond_ (decide (n2494 < n2493)) (cond_ (n2495 != (0 : Int)) (k1 n2495 n2496 b2497 b2498 ns2499 n2500 n2501 b2502 n2503 n2504 ns2505 ts2506 ts2507) (fun_Getfn2v2 n2500 n2501 b2502 n2503 n2504 ns2505 ts2506 ts2507 n2495 n2496 b2497 b2498 ns2499
  (fun n2508 n2509 b2510 n2511 n2512 ns2513 ts2514 n2515 n2516 b2517 b2518 ns2519 ts2520 => (fun_reader_manyv1_L0 n2493 (IntKind.wrap .i64 (n2494 + (1 : Int))) n2515 n2516 b2517 b2518 ns2519 n2508 n2509 b2510 n2511 n2512 ns2513 ts2520 ts2514 k1 k2)))) (k2 n2495 n2496 b2497 b2498 ns2499 n2500 n2501 b2502 n2503 n2504 ns2505 ts2506 ts2507))
noncomputable def fun_reader_manyv1_L0 : Nat → T_fun_reader_manyv1_L0
  | 0 => fun _ _ _ _ _ _ _ _ _ _ _ _ _ _ _ _ _ => none
  | n + 1 => fun_reader_manyv1_L0.body (fun_reader_manyv1_L0 n) fun_Getfn2v2
def fun_reader_manyv1_L0.p : LPat := lp 2 16 [0, 1, 5, 6] (ps (pq [0, 0] 0 0) (pl (pf 29 pz (ps (pq [0, 3] 0 0) (ps (pq [0, 7] 0 0) pz))) (pl (pd (.int .i64)) (pl (pd (.int .i64)) pz)))) (pl (po [0, 0] 67 2 (em (pl (pa (ps (pq [0, 1] 0 0) (pl (pd (.int .i64)) pz))) pz))) (pl (po [0, 1] 64 4 (em (pl (pa (ps (pr [0, 2]) (pl (pd (.int .i64)) (pl (pd .bool) (pl (pd .bool) pz))))) pz))) (pl (po [0, 2] 5 1 (ed (.int .u8))) (pl (po [0, 3] 27 9 (em (pl (pa (pl (pd (.int .i64)) (ps (pr [0, 4]) (pl (pd (.int .i64)) (pl (pd .bool) (pl (pd (.int .i64)) (pl (pd (.int .i64)) (ps (pr [1, 0]) (ps (pk 0) (ps (pr [1, 1]) pz)))))))))) pz))) (pl (po [0, 4] 3 1 (ed (.int .i64))) (ps (po [0, 7] 65 1 (em (ps (pq [0, 0] 0 0) pz))) (pl (po [1, 0] 55 2 (ed Ty3)) (pl (po [1, 1] 60 3 (ed Ty4)) pz))))))))
def fun_reader_manyv1_L0.g (F : T_fun_reader_manyv1_L0) (v : fun_reader_manyv1_L0.p.T) (k : KE) : Option Bool := F v.1.2.1 v.1.2.2.1 v.2.1.1.1 v.2.2.1.1.1 v.2.2.1.1.2.1 v.2.2.1.1.2.2.1 v.2.2.2.1 v.2.2.2.2.1.1.1 v.2.2.2.2.1.1.2.1 v.2.2.2.2.1.1.2.2.1 v.2.2.2.2.1.1.2.2.2.1 v.2.2.2.2.1.1.2.2.2.2.1 v.2.2.2.2.2.1 v.2.2.2.2.2.2.1 v.2.2.2.2.2.2.2.1 (fun y0 y1 y2 y3 y4 y5 y6 y7 y8 y9 y10 y11 y12 => k .ret ⟨fillS 16 [] [], [([0, 0], ⟨67, 2, (.mix [(.agg [(.ptr [0, 1] 0 0), (.d ⟨(.int .i64), y0⟩)])])⟩), ([0, 1], ⟨64, 4, (.mix [(.agg [(.ref [0, 2]), (.d ⟨(.int .i64), y1⟩), (.d ⟨.bool, y2⟩), (.d ⟨.bool, y3⟩)])])⟩), ([0, 2], ⟨5, 1, (.data (.int .u8) y4)⟩), ([0, 3], ⟨27, 9, (.mix [(.agg [(.d ⟨(.int .i64), y5⟩), (.ref [0, 4]), (.d ⟨(.int .i64), y6⟩), (.d ⟨.bool, y7⟩), (.d ⟨(.int .i64), y8⟩), (.d ⟨(.int .i64), y9⟩), (.ref [1, 0]), .nils, (.ref [1, 1])])])⟩), ([0, 4], ⟨3, 1, (.data (.int .i64) y10)⟩), ([0, 7], ⟨65, 1, (.mix [(.ptr [0, 0] 0 0)])⟩), ([1, 0], ⟨55, 2, (.data Ty3 y11)⟩), ([1, 1], ⟨60, 3, (.data Ty4 y12)⟩)], 2⟩) (fun y0 y1 y2 y3 y4 y5 y6 y7 y8 y9 y10 y11 y12 => k (.exit 0) ⟨fillS 16 [] [], [([0, 0], ⟨67, 2, (.mix [(.agg [(.ptr [0, 1] 0 0), (.d ⟨(.int .i64), y0⟩)])])⟩), ([0, 1], ⟨64, 4, (.mix [(.agg [(.ref [0, 2]), (.d ⟨(.int .i64), y1⟩), (.d ⟨.bool, y2⟩), (.d ⟨.bool, y3⟩)])])⟩), ([0, 2], ⟨5, 1, (.data (.int .u8) y4)⟩), ([0, 3], ⟨27, 9, (.mix [(.agg [(.d ⟨(.int .i64), y5⟩), (.ref [0, 4]), (.d ⟨(.int .i64), y6⟩), (.d ⟨.bool, y7⟩), (.d ⟨(.int .i64), y8⟩), (.d ⟨(.int .i64), y9⟩), (.ref [1, 0]), .nils, (.ref [1, 1])])])⟩), ([0, 4], ⟨3, 1, (.data (.int .i64) y10)⟩), ([0, 7], ⟨65, 1, (.mix [(.ptr [0, 0] 0 0)])⟩), ([1, 0], ⟨55, 2, (.data Ty3 y11)⟩), ([1, 1], ⟨60, 3, (.data Ty4 y12)⟩)], 2⟩)
theorem fun_reader_manyv1_L0.step (S : T_fun_reader_manyv1_L0) (F0 : T_fun_Getfn2v2) : ∀ v k, exR 26 Try.f26 0 fun_reader_manyv1_L0.p [⟨fun_Getfn2v2.p, fun_Getfn2v2.g F0⟩] [] [] (fun_reader_manyv1_L0.g S) v k = fun_reader_manyv1_L0.g (fun_reader_manyv1_L0.body S F0) v k := fun v k => by kernel_rfl
theorem fun_reader_manyv1_L0.ok : okL 26 Try.f26 6 0 fun_reader_manyv1_L0.p (fun_reader_manyv1_L0.g (fun_reader_manyv1_L0 ROUNDS)) := loop2 (G := fun n => fun_reader_manyv1_L0.g (fun_reader_manyv1_L0 n)) (fun n => fun_reader_manyv1_L0.step (fun_reader_manyv1_L0 n) fun_Getfn2v2) (.cons fun_Getfn2v2.ok .nil) [] (by kernel_rfl) .nil (fun _ _ => rfl)
/-- function 26: (*sheerleg/fun.reader).many -/
abbrev T_fun_reader_manyv1 : Type := Int → Int → Bool → Bool → (List Int) → Int → Int → Bool → Int → Int → (List Int) → (List (Int × Int × Unit)) → Tc0 → (Int → Int → Bool → Bool → (List Int) → Int → Int → Bool → Int → Int → (List Int) → (List (Int × Int × Unit)) → Tc0 → Option Bool) → Option Bool
noncomputable def fun_reader_manyv1.body (fun_reader_num : T_fun_reader_num) (fun_reader_manyv1_L0 : T_fun_reader_manyv1_L0) : T_fun_reader_manyv1 := fun n2474 n2475 b2476 b2477 ns2478 n2479 n2480 b2481 n2482 n2483 ns2484 ts2485 ts2486 k1 =>
  (fun_reader_num (1 : Int) n2474 n2475 b2476 b2477 ns2478
  (fun n2487 n2488 n2489 b2490 b2491 ns2492 => (fun_reader_manyv1_L0 n2487 (0 : Int) n2488 n2489 b2490 b2491 ns2492 n2479 n2480 b2481 n2482 n2483 ns2484 ts2485 ts2486
  (fun n2521 n2522 b2523 b2524 ns2525 n2526 n2527 b2528 n2529 n2530 ns2531 ts2532 ts2533 => (k1 n2521 n2522 b2523 b2524 ns2525 n2526 n2527 b2528 n2529 n2530 ns2531 ts2532 ts2533))
  (fun n2534 n2535 b2536 b2537 ns2538 n2539 n2540 b2541 n2542 n2543 ns2544 ts2545 ts2546 => (k1 n2534 n2535 b2536 b2537 ns2538 n2539 n2540 b2541 n2542 n2543 ns2544 ts2545 ts2546)))))
noncomputable def fun_reader_manyv1 : T_fun_reader_manyv1 := fun_reader_manyv1.body fun_reader_num (fun_reader_manyv1_L0 ROUNDS)
def fun_reader_manyv1.p : FPat := fp 26 (ps (pq [0, 0] 0 0) (pl (pf 29 pz (ps (pq [0, 3] 0 0) (ps (pq [0, 7] 0 0) pz))) pz)) (pl (po [0, 0] 67 2 (em (pl (pa (ps (pq [0, 1] 0 0) (pl (pd (.int .i64)) pz))) pz))) (pl (po [0, 1] 64 4 (em (pl (pa (ps (pr [0, 2]) (pl (pd (.int .i64)) (pl (pd .bool) (pl (pd .bool) pz))))) pz))) (pl (po [0, 2] 5 1 (ed (.int .u8))) (pl (po [0, 3] 27 9 (em (pl (pa (pl (pd (.int .i64)) (ps (pr [0, 4]) (pl (pd (.int .i64)) (pl (pd .bool) (pl (pd (.int .i64)) (pl (pd (.int .i64)) (ps (pr [0, 5]) (ps (pk 0) (ps (pr [0, 6]) pz)))))))))) pz))) (pl (po [0, 4] 3 1 (ed (.int .i64))) (pl (po [0, 5] 55 2 (ed Ty3)) (pl (po [0, 6] 60 3 (ed Ty4)) (ps (po [0, 7] 65 1 (em (ps (pq [0, 0] 0 0) pz))) pz))))))))
def fun_reader_manyv1.g (F : T_fun_reader_manyv1) (v : fun_reader_manyv1.p.T) (k : KR) : Option Bool := F v.2.1.1.1 v.2.2.1.1.1 v.2.2.1.1.2.1 v.2.2.1.1.2.2.1 v.2.2.2.1 v.2.2.2.2.1.1.1 v.2.2.2.2.1.1.2.1 v.2.2.2.2.1.1.2.2.1 v.2.2.2.2.1.1.2.2.2.1 v.2.2.2.2.1.1.2.2.2.2.1 v.2.2.2.2.2.1 v.2.2.2.2.2.2.1 v.2.2.2.2.2.2.2.1 (fun y0 y1 y2 y3 y4 y5 y6 y7 y8 y9 y10 y11 y12 => k (.tup []) [([0, 0], ⟨67, 2, (.mix [(.agg [(.ptr [0, 1] 0 0), (.d ⟨(.int .i64), y0⟩)])])⟩), ([0, 1], ⟨64, 4, (.mix [(.agg [(.ref [0, 2]), (.d ⟨(.int .i64), y1⟩), (.d ⟨.bool, y2⟩), (.d ⟨.bool, y3⟩)])])⟩), ([0, 2], ⟨5, 1, (.data (.int .u8) y4)⟩), ([0, 3], ⟨27, 9, (.mix [(.agg [(.d ⟨(.int .i64), y5⟩), (.ref [0, 4]), (.d ⟨(.int .i64), y6⟩), (.d ⟨.bool, y7⟩), (.d ⟨(.int .i64), y8⟩), (.d ⟨(.int .i64), y9⟩), (.ref [1, 0]), .nils, (.ref [1, 1])])])⟩), ([0, 4], ⟨3, 1, (.data (.int .i64) y10)⟩), ([0, 7], ⟨65, 1, (.mix [(.ptr [0, 0] 0 0)])⟩), ([1, 0], ⟨55, 2, (.data Ty3 y11)⟩), ([1, 1], ⟨60, 3, (.data Ty4 y12)⟩)])
theorem fun_reader_manyv1.eq (F0 : T_fun_reader_num) (L0 : T_fun_reader_manyv1_L0) : ∀ v k, exF Try.f26 fun_reader_manyv1.p [⟨fun_reader_num.p, fun_reader_num.g F0⟩] [] [⟨0, fun_reader_manyv1_L0.p, fun_reader_manyv1_L0.g L0⟩] v k = fun_reader_manyv1.g (fun_reader_manyv1.body F0 L0) v k := fun v k => by kernel_rfl
theorem fun_reader_manyv1.ok : okF 7 fun_reader_manyv1.p (fun_reader_manyv1.g fun_reader_manyv1) := fn2 (fun_reader_manyv1.eq fun_reader_num (fun_reader_manyv1_L0 ROUNDS)) Try.func26 (by kernel_rfl) (.cons fun_reader_num.ok .nil) [0] (by kernel_rfl) (.cons fun_reader_manyv1_L0.ok .nil)
/-- function 26: the loop in block 0 -/
abbrev T_fun_reader_manyv3_L0 : Type := Int → Int → Int → Int → Bool → Bool → (List Int) → Int → Int → Bool → Int → Int → (List Int) → Tc3 → (List (Int × Int × Unit)) → Tc0 → (Int → Int → Bool → Bool → (List Int) → Int → Int → Bool → Int → Int → (List Int) → Tc3 → (List (Int × Int × Unit)) → Tc0 → Option Bool) → (Int → Int → Bool → Bool → (List Int) → Int → Int → Bool → Int → Int → (List Int) → Tc3 → (List (Int × Int × Unit)) → Tc0 → Option Bool) → Option Bool
noncomputable def fun_reader_manyv3_L0.body (fun_reader_manyv3_L0 : T_fun_reader_manyv3_L0) (fun_Getfn4v1 : T_fun_Getfn4v1) : T_fun_reader_manyv3_L0 := fun n2671 n2672 n2673 n2674 b2675 b2676 ns2677 n2678 n2679 b2680 n2681 n2682 ns2683 ts2684 ts2685 ts2686 k1 k2 =>
  (cond_ (decide (n2672 < n2671)) (cond_ (n2673 != (0 : Int)) (k1 n2673 n2674 b2675 b2676 ns2677 n2678 n2679 b2680 n2681 n2682 ns2683 ts2684 ts2685 ts2686) (fun_Getfn4v1 n2678 n2679 b2680 n2681 n2682 ns2683 ts2685 ts2684 ts2686 n2673 n2674 b2675 b2676 ns2677
  (fun n2687 n2688 b2689 n2690 n2691 ns2692 ts2693 ts2694 n2695 n2696 b2697 b2698 ns2699 ts2700 => (fun_reader_manyv3_L0 n2671 (IntKind.wrap .i64 (n2672 + (1 : Int))) n2695 n2696 b2697 b2698 ns2699 n2687 n2688 b2689 n2690 n2691 ns2692 ts2694 ts2693 ts2700 k1 k2)))) (k2 n2673 n2674 b2675 b2676 ns2677 n2678 n2679 b2680 n2681 n2682 ns2683 ts2684 ts2685 ts2686))
noncomputable def fun_reader_manyv3_L0 : Nat → T_fun_reader_manyv3_L0
  | 0 => fun _ _ _ _ _ _ _ _ _ _ _ _ _ _ _ _ _ _ => none
  | n + 1 => fun_reader_manyv3_L0.body (fun_reader_manyv3_L0 n) fun_Getfn4v1
def fun_reader_manyv3_L0.p : LPat := lp 2 16 [0, 1, 5, 6] (ps (pq [0, 0] 0 0) (pl (pf 33 pz (ps (pq [0, 3] 0 0) (ps (pq [0, 8] 0 0) pz))) (pl (pd (.int .i64)) (pl (pd (.int .i64)) pz)))) (pl (po [0, 0] 67 2 (em (pl (pa (ps (pq [0, 1] 0 0) (pl (pd (.int .i64)) pz))) pz))) (pl (po [0, 1] 64 4 (em (pl (pa (ps (pr [0, 2]) (pl (pd (.int .i64)) (pl (pd .bool) (pl (pd .bool) pz))))) pz))) (pl (po [0, 2] 5 1 (ed (.int .u8))) (pl (po [0, 3] 27 9 (em (pl (pa (pl (pd (.int .i64)) (ps (pr [0, 4]) (pl (pd (.int .i64)) (pl (pd .bool) (pl (pd (.int .i64)) (pl (pd (.int .i64)) (ps (pr [1, 0]) (ps (pr [0, 6]) (ps (pr [1, 1]) pz)))))))))) pz))) (pl (po [0, 4] 3 1 (ed (.int .i64))) (pl (po [0, 6] 57 5 (ed Ty8)) (ps (po [0, 8] 65 1 (em (ps (pq [0, 0] 0 0) pz))) (pl (po [1, 0] 55 2 (ed Ty3)) (pl (po [1, 1] 60 3 (ed Ty4)) pz)))))))))
def fun_reader_manyv3_L0.g (F : T_fun_reader_manyv3_L0) (v : fun_reader_manyv3_L0.p.T) (k : KE) : Option Bool := F v.1.2.1 v.1.2.2.1 v.2.1.1.1 v.2.2.1.1.1 v.2.2.1.1.2.1 v.2.2.1.1.2.2.1 v.2.2.2.1 v.2.2.2.2.1.1.1 v.2.2.2.2.1.1.2.1 v.2.2.2.2.1.1.2.2.1 v.2.2.2.2.1.1.2.2.2.1 v.2.2.2.2.1.1.2.2.2.2.1 v.2.2.2.2.2.1 v.2.2.2.2.2.2.1 v.2.2.2.2.2.2.2.1 v.2.2.2.2.2.2.2.2.1 (fun y0 y1 y2 y3 y4 y5 y6 y7 y8 y9 y10 y11 y12 y13 => k .ret ⟨fillS 16 [] [], [([0, 0], ⟨67, 2, (.mix [(.agg [(.ptr [0, 1] 0 0), (.d ⟨(.int .i64), y0⟩)])])⟩), ([0, 1], ⟨64, 4, (.mix [(.agg [(.ref [0, 2]), (.d ⟨(.int .i64), y1⟩), (.d ⟨.bool, y2⟩), (.d ⟨.bool, y3⟩)])])⟩), ([0, 2], ⟨5, 1, (.data (.int .u8) y4)⟩), ([0, 3], ⟨27, 9, (.mix [(.agg [(.d ⟨(.int .i64), y5⟩), (.ref [0, 4]), (.d ⟨(.int .i64), y6⟩), (.d ⟨.bool, y7⟩), (.d ⟨(.int .i64), y8⟩), (.d ⟨(.int .i64), y9⟩), (.ref [1, 0]), (.ref [0, 6]), (.ref [1, 1])])])⟩), ([0, 4], ⟨3, 1, (.data (.int .i64) y10)⟩), ([0, 6], ⟨57, 5, (.data Ty8 y11)⟩), ([0, 8], ⟨65, 1, (.mix [(.ptr [0, 0] 0 0)])⟩), ([1, 0], ⟨55, 2, (.data Ty3 y12)⟩), ([1, 1], ⟨60, 3, (.data Ty4 y13)⟩)], 2⟩) (fun y0 y1 y2 y3 y4 y5 y6 y7 y8 y9 y10 y11 y12 y13 => k (.exit 0) ⟨fillS 16 [] [], [([0, 0], ⟨67, 2, (.mix [(.agg [(.ptr [0, 1] 0 0), (.d ⟨(.int .i64), y0⟩)])])⟩), ([0, 1], ⟨64, 4, (.mix [(.agg [(.ref [0, 2]), (.d ⟨(.int .i64), y1⟩), (.d ⟨.bool, y2⟩), (.d ⟨.bool, y3⟩)])])⟩), ([0, 2], ⟨5, 1, (.data (.int .u8) y4)⟩), ([0, 3], ⟨27, 9, (.mix [(.agg [(.d ⟨(.int .i64), y5⟩), (.ref [0, 4]), (.d ⟨(.int .i64), y6⟩), (.d ⟨.bool, y7⟩), (.d ⟨(.int .i64), y8⟩), (.d ⟨(.int .i64), y9⟩), (.ref [1, 0]), (.ref [0, 6]), (.ref [1, 1])])])⟩), ([0, 4], ⟨3, 1, (.data (.int .i64) y10)⟩), ([0, 6], ⟨57, 5, (.data Ty8 y11)⟩), ([0, 8], ⟨65, 1, (.mix [(.ptr [0, 0] 0 0)])⟩), ([1, 0], ⟨55, 2, (.data Ty3 y12)⟩), ([1, 1], ⟨60, 3, (.data Ty4 y13)⟩)], 2⟩)
theorem fun_reader_manyv3_L0.step (S : T_fun_reader_manyv3_L0) (F0 : T_fun_Getfn4v1) : ∀ v k, exR 26 Try.f26 0 fun_reader_manyv3_L0.p [⟨fun_Getfn4v1.p, fun_Getfn4v1.g F0⟩] [] [] (fun_reader_manyv3_L0.g S) v k = fun_reader_manyv3_L0.g (fun_reader_manyv3_L0.body S F0) v k := fun v k => by kernel_rfl
theorem fun_reader_manyv3_L0.ok : okL 26 Try.f26 7 0 fun_reader_manyv3_L0.p (fun_reader_manyv3_L0.g (fun_reader_manyv3_L0 ROUNDS)) := loop2 (G := fun n => fun_reader_manyv3_L0.g (fun_reader_manyv3_L0 n)) (fun n => fun_reader_manyv3_L0.step (fun_reader_manyv3_L0 n) fun_Getfn4v1) (.cons fun_Getfn4v1.ok .nil) [] (by kernel_rfl) .nil (fun _ _ => rfl)
/-- function 26: (*sheerleg/fun.reader).many -/
abbrev T_fun_reader_manyv3 : Type := Int → Int → Bool → Bool → (List Int) → Int → Int → Bool → Int → Int → (List Int) → (List (Int × Int × Unit)) → Tc3 → Tc0 → (Int → Int → Bool → Bool → (List Int) → Int → Int → Bool → Int → Int → (List Int) → Tc3 → (List (Int × Int × Unit)) → Tc0 → Option Bool) → Option Bool
noncomputable def fun_reader_manyv3.body (fun_reader_num : T_fun_reader_num) (fun_reader_manyv3_L0 : T_fun_reader_manyv3_L0) : T_fun_reader_manyv3 := fun n2651 n2652 b2653 b2654 ns2655 n2656 n2657 b2658 n2659 n2660 ns2661 ts2662 ts2663 ts2664 k1 =>
  (fun_reader_num (1 : Int) n2651 n2652 b2653 b2654 ns2655
  (fun n2665 n2666 n2667 b2668 b2669 ns2670 => (fun_reader_manyv3_L0 n2665 (0 : Int) n2666 n2667 b2668 b2669 ns2670 n2656 n2657 b2658 n2659 n2660 ns2661 ts2663 ts2662 ts2664
  (fun n2701 n2702 b2703 b2704 ns2705 n2706 n2707 b2708 n2709 n2710 ns2711 ts2712 ts2713 ts2714 => (k1 n2701 n2702 b2703 b2704 ns2705 n2706 n2707 b2708 n2709 n2710 ns2711 ts2712 ts2713 ts2714))
  (fun n2715 n2716 b2717 b2718 ns2719 n2720 n2721 b2722 n2723 n2724 ns2725 ts2726 ts2727 ts2728 => (k1 n2715 n2716 b2717 b2718 ns2719 n2720 n2721 b2722 n2723 n2724 ns2725 ts2726 ts2727 ts2728)))))
noncomputable def fun_reader_manyv3 : T_fun_reader_manyv3 := fun_reader_manyv3.body fun_reader_num (fun_reader_manyv3_L0 ROUNDS)
def fun_reader_manyv3.p : FPat := fp 26 (ps (pq [0, 0] 0 0) (pl (pf 33 pz (ps (pq [0, 3] 0 0) (ps (pq [0, 8] 0 0) pz))) pz)) (pl (po [0, 0] 67 2 (em (pl (pa (ps (pq [0, 1] 0 0) (pl (pd (.int .i64)) pz))) pz))) (pl (po [0, 1] 64 4 (em (pl (pa (ps (pr [0, 2]) (pl (pd (.int .i64)) (pl (pd .bool) (pl (pd .bool) pz))))) pz))) (pl (po [0, 2] 5 1 (ed (.int .u8))) (pl (po [0, 3] 27 9 (em (pl (pa (pl (pd (.int .i64)) (ps (pr [0, 4]) (pl (pd (.int .i64)) (pl (pd .bool) (pl (pd (.int .i64)) (pl (pd (.int .i64)) (ps (pr [0, 5]) (ps (pr [0, 6]) (ps (pr [0, 7]) pz)))))))))) pz))) (pl (po [0, 4] 3 1 (ed (.int .i64))) (pl (po [0, 5] 55 2 (ed Ty3)) (pl (po [0, 6] 57 5 (ed Ty8)) (pl (po [0, 7] 60 3 (ed Ty4)) (ps (po [0, 8] 65 1 (em (ps (pq [0, 0] 0 0) pz))) pz)))))))))
def fun_reader_manyv3.g (F : T_fun_reader_manyv3) (v : fun_reader_manyv3.p.T) (k : KR) : Option Bool := F v.2.1.1.1 v.2.2.1.1.1 v.2.2.1.1.2.1 v.2.2.1.1.2.2.1 v.2.2.2.1 v.2.2.2.2.1.1.1 v.2.2.2.2.1.1.2.1 v.2.2.2.2.1.1.2.2.1 v.2.2.2.2.1.1.2.2.2.1 v.2.2.2.2.1.1.2.2.2.2.1 v.2.2.2.2.2.1 v.2.2.2.2.2.2.1 v.2.2.2.2.2.2.2.1 v.2.2.2.2.2.2.2.2.1 (fun y0 y1 y2 y3 y4 y5 y6 y7 y8 y9 y10 y11 y12 y13 => k (.tup []) [([0, 0], ⟨67, 2, (.mix [(.agg [(.ptr [0, 1] 0 0), (.d ⟨(.int .i64), y0⟩)])])⟩), ([0, 1], ⟨64, 4, (.mix [(.agg [(.ref [0, 2]), (.d ⟨(.int .i64), y1⟩), (.d ⟨.bool, y2⟩), (.d ⟨.bool, y3⟩)])])⟩), ([0, 2], ⟨5, 1, (.data (.int .u8) y4)⟩), ([0, 3], ⟨27, 9, (.mix [(.agg [(.d ⟨(.int .i64), y5⟩), (.ref [0, 4]), (.d ⟨(.int .i64), y6⟩), (.d ⟨.bool, y7⟩), (.d ⟨(.int .i64), y8⟩), (.d ⟨(.int .i64), y9⟩), (.ref [1, 0]), (.ref [0, 6]), (.ref [1, 1])])])⟩), ([0, 4], ⟨3, 1, (.data (.int .i64) y10)⟩), ([0, 6], ⟨57, 5, (.data Ty8 y11)⟩), ([0, 8], ⟨65, 1, (.mix [(.ptr [0, 0] 0 0)])⟩), ([1, 0], ⟨55, 2, (.data Ty3 y12)⟩), ([1, 1], ⟨60, 3, (.data Ty4 y13)⟩)])
theorem fun_reader_manyv3.eq (F0 : T_fun_reader_num) (L0 : T_fun_reader_manyv3_L0) : ∀ v k, exF Try.f26 fun_reader_manyv3.p [⟨fun_reader_num.p, fun_reader_num.g F0⟩] [] [⟨0, fun_reader_manyv3_L0.p, fun_reader_manyv3_L0.g L0⟩] v k = fun_reader_manyv3.g (fun_reader_manyv3.body F0 L0) v k := fun v k => by kernel_rfl
theorem fun_reader_manyv3.ok : okF 8 fun_reader_manyv3.p (fun_reader_manyv3.g fun_reader_manyv3) := fn2 (fun_reader_manyv3.eq fun_reader_num (fun_reader_manyv3_L0 ROUNDS)) Try.func26 (by kernel_rfl) (.cons fun_reader_num.ok .nil) [0] (by kernel_rfl) (.cons fun_reader_manyv3_L0.ok .nil)
/-- function 35: the loop in block 0 -/
abbrev T_ref02_Num_L0 : Type := Int → Bool → Int → Int → Tc1 → Int → Bool → (Int → Bool → Int → Tc1 → Int → Bool → Option Bool) → Option Bool
noncomputable def ref02_Num_L0.body (ref02_Num_L0 : T_ref02_Num_L0) : T_ref02_Num_L0 := fun n2852 b2853 n2854 n2855 t2856 n2857 b2858 k1 =>
  (cond_ (decide (n2855 < n2852)) (cond_ ((decide ((0 : Int) ≤ (IntKind.wrap .i64 (t2856.2.1 + n2855)))) && (decide ((IntKind.wrap .i64 (t2856.2.1 + n2855)) < (((List.length t2856.1) : Nat) : Int)))) (ref02_Num_L0 n2852 b2853 (IntKind.wrap .u64 ((IntKind.wrap .u64 (n2854 * (256 : Int))) + (IntKind.wrap .u64 (List.getD t2856.1 (Int.toNat (IntKind.wrap .i64 (t2856.2.1 + n2855))) (0 : Int))))) (IntKind.wrap .i64 (n2855 + (1 : Int))) t2856 n2857 b2858 k1) none) (k1 n2852 b2853 n2854 t2856 n2857 b2858))
noncomputable def ref02_Num_L0 : Nat → T_ref02_Num_L0
  | 0 => fun _ _ _ _ _ _ _ _ => none
  | n + 1 => ref02_Num_L0.body (ref02_Num_L0 n)
def ref02_Num_L0.p : LPat := lp 2 83 [1, 2, 3, 6, 8, 9] (pl (pd (.int .i64)) (pl (pd .bool) (ps (pq [1, 0] 0 0) (ps (pq [1, 1] 0 0) (pl (pd (.int .u64)) (pl (pd (.int .i64)) pz)))))) (pl (po [1, 0] 38 3 (es Ty6 (pl eh pz))) (pl (po [1, 1] 38 3 (em (pl (pa (ps (pk 0) (pl (pd (.int .i64)) (pl (pd .bool) pz)))) pz))) pz))
def ref02_Num_L0.g (F : T_ref02_Num_L0) (v : ref02_Num_L0.p.T) (k : KE) : Option Bool := F v.1.1 v.1.2.1 v.1.2.2.1 v.1.2.2.2.1 v.2.1.1 v.2.2.1.1.1 v.2.2.1.1.2.1 (fun y0 y1 y2 y3 y4 y5 => k (.exit 0) ⟨fillS 83 [1, 2, 3, 6, 8] [(.d ⟨(.int .i64), y0⟩), (.d ⟨.bool, y1⟩), (.ptr [1, 0] 0 0), (.ptr [1, 1] 0 0), (.d ⟨(.int .u64), y2⟩)], [([1, 0], ⟨38, 3, (.data Ty6 [y3])⟩), ([1, 1], ⟨38, 3, (.mix [(.agg [.nils, (.d ⟨(.int .i64), y4⟩), (.d ⟨.bool, y5⟩)])])⟩)], 2⟩)
theorem ref02_Num_L0.step (S : T_ref02_Num_L0) : ∀ v k, exR 35 Try.f35 0 ref02_Num_L0.p [] [] [] (ref02_Num_L0.g S) v k = ref02_Num_L0.g (ref02_Num_L0.body S) v k := fun v k => by kernel_rfl
theorem ref02_Num_L0.ok : okL 35 Try.f35 0 0 ref02_Num_L0.p (ref02_Num_L0.g (ref02_Num_L0 ROUNDS)) := loop2 (G := fun n => ref02_Num_L0.g (ref02_Num_L0 n)) (fun n => ref02_Num_L0.step (ref02_Num_L0 n)) .nil [] (by kernel_rfl) .nil (fun _ _ => rfl)
/-- function 35: the loop in block 2 -/
abbrev T_ref02_Num_L2 : Type := Int → Int → Int → Int → Tc1 → Int → Bool → (Int → Int → Int → Tc1 → Int → Bool → Option Bool) → Option Bool
noncomputable def ref02_Num_L2.body (ref02_Num_L2 : T_ref02_Num_L2) : T_ref02_Num_L2 := fun n2865 n2866 n2867 n2868 t2869 n2870 b2871 k1 =>
  (cond_ (decide (n2868 < n2865)) (ref02_Num_L2 n2865 n2866 (IntKind.wrap .u64 (n2867 * (256 : Int))) (IntKind.wrap .i64 (n2868 + (1 : Int))) t2869 n2870 b2871 k1) (k1 n2865 n2866 n2867 t2869 n2870 b2871))
noncomputable def ref02_Num_L2 : Nat → T_ref02_Num_L2
  | 0 => fun _ _ _ _ _ _ _ _ => none
  | n + 1 => ref02_Num_L2.body (ref02_Num_L2 n)
def ref02_Num_L2.p : LPat := lp 2 83 [1, 3, 6, 8, 10, 11] (pl (pd (.int .i64)) (ps (pq [1, 0] 0 0) (ps (pq [1, 1] 0 0) (pl (pd (.int .u64)) (pl (pd (.int .u64)) (pl (pd (.int .i64)) pz)))))) (pl (po [1, 0] 38 3 (es Ty6 (pl eh pz))) (pl (po [1, 1] 38 3 (em (pl (pa (ps (pk 0) (pl (pd (.int .i64)) (pl (pd .bool) pz)))) pz))) pz))
def ref02_Num_L2.g (F : T_ref02_Num_L2) (v : ref02_Num_L2.p.T) (k : KE) : Option Bool := F v.1.1 v.1.2.1 v.1.2.2.1 v.1.2.2.2.1 v.2.1.1 v.2.2.1.1.1 v.2.2.1.1.2.1 (fun y0 y1 y2 y3 y4 y5 => k (.exit 2) ⟨fillS 83 [1, 3, 6, 8, 10] [(.d ⟨(.int .i64), y0⟩), (.ptr [1, 0] 0 0), (.ptr [1, 1] 0 0), (.d ⟨(.int .u64), y1⟩), (.d ⟨(.int .u64), y2⟩)], [([1, 0], ⟨38, 3, (.data Ty6 [y3])⟩), ([1, 1], ⟨38, 3, (.mix [(.agg [.nils, (.d ⟨(.int .i64), y4⟩), (.d ⟨.bool, y5⟩)])])⟩)], 2⟩)
theorem ref02_Num_L2.step (S : T_ref02_Num_L2) : ∀ v k, exR 35 Try.f35 2 ref02_Num_L2.p [] [] [] (ref02_Num_L2.g S) v k = ref02_Num_L2.g (ref02_Num_L2.body S) v k := fun v k => by kernel_rfl
theorem ref02_Num_L2.ok : okL 35 Try.f35 0 2 ref02_Num_L2.p (ref02_Num_L2.g (ref02_Num_L2 ROUNDS)) := loop2 (G := fun n => ref02_Num_L2.g (ref02_Num_L2 n)) (fun n => ref02_Num_L2.step (ref02_Num_L2 n)) .nil [] (by kernel_rfl) .nil (fun _ _ => rfl)
/-- function 35: sheerleg/sheerlegref02.Num -/
abbrev T_ref02_Num : Type := Tc1 → Int → Bool → (Tc1 → Int → Option Bool) → Option Bool
noncomputable def ref02_Num.body (ref02_Num_L0 : T_ref02_Num_L0) (ref02_Num_L2 : T_ref02_Num_L2) : T_ref02_Num := fun t2849 n2850 b2851 k1 =>
  (cond_ (! t2849.2.2.1) (cond_ (! (decide (n2850 < (1 : Int)))) (cond_ (! (decide (n2850 > (8 : Int)))) (cond_ (decide (n2850 > (IntKind.wrap .i64 ((((List.length t2849.1) : Nat) : Int) - t2849.2.1)))) (k1 ((t2849.1, (t2849.2.1, (true, ()))).1, ((t2849.1, (t2849.2.1, (true, ()))).2.1, (true, ()))) (0 : Int)) (ref02_Num_L0 n2850 b2851 (0 : Int) (0 : Int) t2849 (0 : Int) false
  (fun n2859 b2860 n2861 t2862 n2863 b2864 => (cond_ b2860 (cond_ (decide (n2859 < (8 : Int))) (cond_ ((decide ((0 : Int) ≤ t2862.2.1)) && (decide (t2862.2.1 < (((List.length t2862.1) : Nat) : Int)))) (cond_ (decide ((List.getD t2862.1 (Int.toNat t2862.2.1) (0 : Int)) ≥ (128 : Int))) (ref02_Num_L2 n2859 n2861 (1 : Int) (0 : Int) t2862 n2863 b2864
  (fun n2872 n2873 n2874 t2875 n2876 b2877 => (k1 ((t2875.1, ((IntKind.wrap .i64 (t2875.2.1 + n2872)), (t2875.2.2.1, ()))).1, ((t2875.1, ((IntKind.wrap .i64 (t2875.2.1 + n2872)), (t2875.2.2.1, ()))).2.1, ((t2875.1, ((IntKind.wrap .i64 (t2875.2.1 + n2872)), (t2875.2.2.1, ()))).2.2.1, ()))) (IntKind.wrap .i64 (IntKind.wrap .u64 (n2873 - n2874)))))) (k1 ((t2862.1, ((IntKind.wrap .i64 (t2862.2.1 + n2859)), (t2862.2.2.1, ()))).1, ((t2862.1, ((IntKind.wrap .i64 (t2862.2.1 + n2859)), (t2862.2.2.1, ()))).2.1, ((t2862.1, ((IntKind.wrap .i64 (t2862.2.1 + n2859)), (t2862.2.2.1, ()))).2.2.1, ()))) (IntKind.wrap .i64 n2861))) none) (k1 ((t2862.1, ((IntKind.wrap .i64 (t2862.2.1 + n2859)), (t2862.2.2.1, ()))).1, ((t2862.1, ((IntKind.wrap .i64 (t2862.2.1 + n2859)), (t2862.2.2.1, ()))).2.1, ((t2862.1, ((IntKind.wrap .i64 (t2862.2.1 + n2859)), (t2862.2.2.1, ()))).2.2.1, ()))) (IntKind.wrap .i64 n2861))) (k1 ((t2862.1, ((IntKind.wrap .i64 (t2862.2.1 + n2859)), (t2862.2.2.1, ()))).1, ((t2862.1, ((IntKind.wrap .i64 (t2862.2.1 + n2859)), (t2862.2.2.1, ()))).2.1, ((t2862.1, ((IntKind.wrap .i64 (t2862.2.1 + n2859)), (t2862.2.2.1, ()))).2.2.1, ()))) (IntKind.wrap .i64 n2861)))))) (k1 ((t2849.1, (t2849.2.1, (true, ()))).1, ((t2849.1, (t2849.2.1, (true, ()))).2.1, (true, ()))) (0 : Int))) (k1 ((t2849.1, (t2849.2.1, (true, ()))).1, ((t2849.1, (t2849.2.1, (true, ()))).2.1, (true, ()))) (0 : Int))) (k1 ((t2849.1, (t2849.2.1, (true, ()))).1, ((t2849.1, (t2849.2.1, (true, ()))).2.1, (true, ()))) (0 : Int)))
noncomputable def ref02_Num : T_ref02_Num := ref02_Num.body (ref02_Num_L0 ROUNDS) (ref02_Num_L2 ROUNDS)
def ref02_Num.p : FPat := fp 35 (pl (pd Ty6) (pl (pd (.int .i64)) (pl (pd .bool) pz))) pz
def ref02_Num.g (F : T_ref02_Num) (v : ref02_Num.p.T) (k : KR) : Option Bool := F v.1.1 v.1.2.1 v.1.2.2.1 (fun y0 y1 => k (.tup [(.d ⟨Ty6, y0⟩), (.d ⟨(.int .i64), y1⟩)]) [])
theorem ref02_Num.eq (L0 : T_ref02_Num_L0) (L1 : T_ref02_Num_L2) : ∀ v k, exF Try.f35 ref02_Num.p [] [] [⟨0, ref02_Num_L0.p, ref02_Num_L0.g L0⟩, ⟨2, ref02_Num_L2.p, ref02_Num_L2.g L1⟩] v k = ref02_Num.g (ref02_Num.body L0 L1) v k := fun v k => by kernel_rfl
theorem ref02_Num.ok : okF 1 ref02_Num.p (ref02_Num.g ref02_Num) := fn2 (ref02_Num.eq (ref02_Num_L0 ROUNDS) (ref02_Num_L2 ROUNDS)) Try.func35 (by kernel_rfl) .nil [0, 2] (by kernel_rfl) (.cons ref02_Num_L0.ok (.cons ref02_Num_L2.ok .nil))
/-- function 53: the loop in block 0 -/
abbrev T_ref16_some_L0 : Type := Int → Int → Int → Tc1 → Int → Bool → (List Int) → (Tc1 → Int → Bool → (List Int) → Option Bool) → Option Bool
noncomputable def ref16_some_L0.body (ref16_some_L0 : T_ref16_some_L0) (ref02_Num : T_ref02_Num) : T_ref16_some_L0 := fun n2916 n2917 n2918 t2919 n2920 b2921 ns2922 k1 =>
  (cond_ (decide (n2918 < n2917)) (ref02_Num t2919 n2916 false
  (fun t2923 n2924 => (cond_ (Nat.ble (((List.length ns2922) + (List.length (n2924 :: []))) * (8 : Nat)) (140737488355328 : Nat)) (ref16_some_L0 n2916 n2917 (IntKind.wrap .i64 (n2918 + (1 : Int))) (t2923.1, (t2923.2.1, (t2923.2.2.1, ()))) n2920 b2921 (ns2922 ++ (n2924 :: [])) k1) none))) (k1 t2919 n2920 b2921 ns2922))
noncomputable def ref16_some_L0 : Nat → T_ref16_some_L0
  | 0 => fun _ _ _ _ _ _ _ _ => none
  | n + 1 => ref16_some_L0.body (ref16_some_L0 n) ref02_Num
def ref16_some_L0.p : LPat := lp 2 34 [1, 2, 4, 6, 7, 8] (pl (pd (.int .i64)) (ps (pq [1, 0] 0 0) (ps (pq [1, 1] 0 0) (pl (pd (.int .i64)) (ps (pr [1, 2]) (pl (pd (.int .i64)) pz)))))) (pl (po [1, 0] 38 3 (es Ty6 (pl eh pz))) (pl (po [1, 1] 38 3 (em (pl (pa (ps (pk 0) (pl (pd (.int .i64)) (pl (pd .bool) pz)))) pz))) (pl (po [1, 2] 2 1 (ed (.int .i64))) pz)))
def ref16_some_L0.g (F : T_ref16_some_L0) (v : ref16_some_L0.p.T) (k : KE) : Option Bool := F v.1.1 v.1.2.1 v.1.2.2.1 v.2.1.1 v.2.2.1.1.1 v.2.2.1.1.2.1 v.2.2.2.1 (fun y0 y1 y2 y3 => k (.exit 0) ⟨fillS 34 [2, 4, 7] [(.ptr [1, 0] 0 0), (.ptr [1, 1] 0 0), (.ref [1, 2])], [([1, 0], ⟨38, 3, (.data Ty6 [y0])⟩), ([1, 1], ⟨38, 3, (.mix [(.agg [.nils, (.d ⟨(.int .i64), y1⟩), (.d ⟨.bool, y2⟩)])])⟩), ([1, 2], ⟨2, 1, (.data (.int .i64) y3)⟩)], 2⟩)
theorem ref16_some_L0.step (S : T_ref16_some_L0) (F0 : T_ref02_Num) : ∀ v k, exR 53 Try.f53 0 ref16_some_L0.p [⟨ref02_Num.p, ref02_Num.g F0⟩] [] [] (ref16_some_L0.g S) v k = ref16_some_L0.g (ref16_some_L0.body S F0) v k := fun v k => by kernel_rfl
theorem ref16_some_L0.ok : okL 53 Try.f53 1 0 ref16_some_L0.p (ref16_some_L0.g (ref16_some_L0 ROUNDS)) := loop2 (G := fun n => ref16_some_L0.g (ref16_some_L0 n)) (fun n => ref16_some_L0.step (ref16_some_L0 n) ref02_Num) (.cons ref02_Num.ok .nil) [] (by kernel_rfl) .nil (fun _ _ => rfl)
/-- function 53: sheerleg/sheerlegref16.some -/
abbrev T_ref16_some : Type := Tc1 → Int → (Tc1 → (List Int) → Option Bool) → Option Bool
noncomputable def ref16_some.body (ref02_Num : T_ref02_Num) (ref16_some_L0 : T_ref16_some_L0) : T_ref16_some := fun t2912 n2913 k1 =>
  (ref02_Num t2912 (1 : Int) false
  (fun t2914 n2915 => (ref16_some_L0 n2913 n2915 (0 : Int) t2914 (0 : Int) false []
  (fun t2925 n2926 b2927 ns2928 => (k1 (t2925.1, (t2925.2.1, (t2925.2.2.1, ()))) ns2928)))))
noncomputable def ref16_some : T_ref16_some := ref16_some.body ref02_Num (ref16_some_L0 ROUNDS)
def ref16_some.p : FPat := fp 53 (pl (pd Ty6) (pl (pd (.int .i64)) pz)) pz
def ref16_some.g (F : T_ref16_some) (v : ref16_some.p.T) (k : KR) : Option Bool := F v.1.1 v.1.2.1 (fun y0 y1 => k (.tup [(.d ⟨Ty6, y0⟩), (.ref [1, 0])]) [([1, 0], ⟨2, 1, (.data (.int .i64) y1)⟩)])
theorem ref16_some.eq (F0 : T_ref02_Num) (L0 : T_ref16_some_L0) : ∀ v k, exF Try.f53 ref16_some.p [⟨ref02_Num.p, ref02_Num.g F0⟩] [] [⟨0, ref16_some_L0.p, ref16_some_L0.g L0⟩] v k = ref16_some.g (ref16_some.body F0 L0) v k := fun v k => by kernel_rfl
theorem ref16_some.ok : okF 2 ref16_some.p (ref16_some.g ref16_some) := fn2 (ref16_some.eq ref02_Num (ref16_some_L0 ROUNDS)) Try.func53 (by kernel_rfl) (.cons ref02_Num.ok .nil) [0] (by kernel_rfl) (.cons ref16_some_L0.ok .nil)
/-- function 54: the loop in block 0 -/
abbrev T_ref13_Nums_L0 : Type := (List Int) → Int → Tc1 → Int → Bool → (List Int) → (Tc1 → Int → Bool → (List Int) → Option Bool) → Option Bool
noncomputable def ref13_Nums_L0.body (ref13_Nums_L0 : T_ref13_Nums_L0) (ref02_Num : T_ref02_Num) : T_ref13_Nums_L0 := fun ns2964 n2965 t2966 n2967 b2968 ns2969 k1 =>
  (cond_ (decide (n2965 < (List.length ns2964 : Int))) (cond_ ((decide ((0 : Int) ≤ n2965)) && (decide (n2965 < (List.length ns2964 : Int)))) (ref02_Num t2966 (List.getD ns2964 (Int.toNat n2965) (0 : Int)) false
  (fun t2970 n2971 => (cond_ (Nat.ble (((List.length ns2969) + (List.length (n2971 :: []))) * (8 : Nat)) (140737488355328 : Nat)) (ref13_Nums_L0 ns2964 (IntKind.wrap .i64 (n2965 + (1 : Int))) (t2970.1, (t2970.2.1, (t2970.2.2.1, ()))) n2967 b2968 (ns2969 ++ (n2971 :: [])) k1) none))) none) (k1 t2966 n2967 b2968 ns2969))
noncomputable def ref13_Nums_L0 : Nat → T_ref13_Nums_L0
  | 0 => fun _ _ _ _ _ _ _ => none
  | n + 1 => ref13_Nums_L0.body (ref13_Nums_L0 n) ref02_Num
def ref13_Nums_L0.p : LPat := lp 2 32 [1, 2, 4, 6, 7] (pl (pb 1 3 (.int .i64)) (ps (pq [1, 0] 0 0) (ps (pq [1, 1] 0 0) (ps (pr [1, 2]) (pl (pd (.int .i64)) pz))))) (pl (po [1, 0] 38 3 (es Ty6 (pl eh pz))) (pl (po [1, 1] 38 3 (em (pl (pa (ps (pk 0) (pl (pd (.int .i64)) (pl (pd .bool) pz)))) pz))) (pl (po [1, 2] 2 1 (ed (.int .i64))) pz)))
def ref13_Nums_L0.g (F : T_ref13_Nums_L0) (v : ref13_Nums_L0.p.T) (k : KE) : Option Bool := F v.1.1 v.1.2.1 v.2.1.1 v.2.2.1.1.1 v.2.2.1.1.2.1 v.2.2.2.1 (fun y0 y1 y2 y3 => k (.exit 0) ⟨fillS 32 [2, 4, 6] [(.ptr [1, 0] 0 0), (.ptr [1, 1] 0 0), (.ref [1, 2])], [([1, 0], ⟨38, 3, (.data Ty6 [y0])⟩), ([1, 1], ⟨38, 3, (.mix [(.agg [.nils, (.d ⟨(.int .i64), y1⟩), (.d ⟨.bool, y2⟩)])])⟩), ([1, 2], ⟨2, 1, (.data (.int .i64) y3)⟩)], 2⟩)
theorem ref13_Nums_L0.step (S : T_ref13_Nums_L0) (F0 : T_ref02_Num) : ∀ v k, exR 54 Try.f54 0 ref13_Nums_L0.p [⟨ref02_Num.p, ref02_Num.g F0⟩] [] [] (ref13_Nums_L0.g S) v k = ref13_Nums_L0.g (ref13_Nums_L0.body S F0) v k := fun v k => by kernel_rfl
theorem ref13_Nums_L0.ok : okL 54 Try.f54 1 0 ref13_Nums_L0.p (ref13_Nums_L0.g (ref13_Nums_L0 ROUNDS)) := loop2 (G := fun n => ref13_Nums_L0.g (ref13_Nums_L0 n)) (fun n => ref13_Nums_L0.step (ref13_Nums_L0 n) ref02_Num) (.cons ref02_Num.ok .nil) [] (by kernel_rfl) .nil (fun _ _ => rfl)
/-- function 54: sheerleg/sheerlegref13.Nums -/
abbrev T_ref13_Nums : Type := Tc1 → (List Int) → (Tc1 → (List Int) → Option Bool) → Option Bool
noncomputable def ref13_Nums.body (ref13_Nums_L0 : T_ref13_Nums_L0) : T_ref13_Nums := fun t2962 ns2963 k1 =>
  (ref13_Nums_L0 ns2963 (0 : Int) t2962 (0 : Int) false []
  (fun t2972 n2973 b2974 ns2975 => (k1 (t2972.1, (t2972.2.1, (t2972.2.2.1, ()))) ns2975)))
noncomputable def ref13_Nums : T_ref13_Nums := ref13_Nums.body (ref13_Nums_L0 ROUNDS)
def ref13_Nums.p : FPat := fp 54 (pl (pd Ty6) (pl (pb 1 3 (.int .i64)) pz)) pz
def ref13_Nums.g (F : T_ref13_Nums) (v : ref13_Nums.p.T) (k : KR) : Option Bool := F v.1.1 v.1.2.1 (fun y0 y1 => k (.tup [(.d ⟨Ty6, y0⟩), (.ref [1, 0])]) [([1, 0], ⟨2, 1, (.data (.int .i64) y1)⟩)])
theorem ref13_Nums.eq (L0 : T_ref13_Nums_L0) : ∀ v k, exF Try.f54 ref13_Nums.p [] [] [⟨0, ref13_Nums_L0.p, ref13_Nums_L0.g L0⟩] v k = ref13_Nums.g (ref13_Nums.body L0) v k := fun v k => by kernel_rfl
theorem ref13_Nums.ok : okF 2 ref13_Nums.p (ref13_Nums.g ref13_Nums) := fn2 (ref13_Nums.eq (ref13_Nums_L0 ROUNDS)) Try.func54 (by kernel_rfl) .nil [0] (by kernel_rfl) (.cons ref13_Nums_L0.ok .nil)
/-- function 34: the loop in block 0 -/
abbrev T_ref16_head_L0 : Type := Int → Tc1 → Int → Bool → Int → Int → Bool → Int → Int → (List Int) → (List Int) → Int → Int → Bool → Int → Int → (List Int) → (Tc1 → Int → Bool → Int → Int → Bool → Int → Int → (List Int) → Int → Int → Bool → Int → Int → (List Int) → Option Bool) → Option Bool
noncomputable def ref16_head_L0.body (ref16_head_L0 : T_ref16_head_L0) : T_ref16_head_L0 := fun n3092 t3093 n3094 b3095 n3096 n3097 b3098 n3099 n3100 ns3101 ns3102 n3103 n3104 b3105 n3106 n3107 ns3108 k1 =>
  (cond_ (decide (n3092 < (List.length ns3101 : Int))) (cond_ ((decide ((0 : Int) ≤ n3092)) && (decide (n3092 < (List.length ns3101 : Int)))) (cond_ (Nat.ble (((List.length ns3108) + (List.length ((List.getD ns3101 (Int.toNat n3092) (0 : Int)) :: []))) * (8 : Nat)) (140737488355328 : Nat)) (ref16_head_L0 (IntKind.wrap .i64 (n3092 + (1 : Int))) t3093 n3094 b3095 n3096 n3097 b3098 n3099 n3100 ns3101 ns3102 n3103 n3104 b3105 n3106 n3107 (ns3108 ++ ((List.getD ns3101 (Int.toNat n3092) (0 : Int)) :: [])) k1) none) none) (k1 t3093 n3094 b3095 n3096 n3097 b3098 n3099 n3100 ns3102 n3103 n3104 b3105 n3106 n3107 ns3108))
noncomputable def ref16_head_L0 : Nat → T_ref16_head_L0
  | 0 => fun _ _ _ _ _ _ _ _ _ _ _ _ _ _ _ _ _ _ => none
  | n + 1 => ref16_head_L0.body (ref16_head_L0 n)
def ref16_head_L0.p : LPat := lp 2 97 [1, 2, 3, 6, 7, 8, 9] (ps (pq [1, 0] 0 0) (ps (pq [1, 1] 0 0) (ps (pq [1, 2] 0 0) (ps (pr [1, 3]) (ps (pr [1, 4]) (ps (pq [1, 5] 0 0) (pl (pd (.int .i64)) pz))))))) (pl (po [1, 0] 38 3 (es Ty6 (pl eh pz))) (pl (po [1, 1] 38 3 (em (pl (pa (ps (pk 0) (pl (pd (.int .i64)) (pl (pd .bool) pz)))) pz))) (pl (po [1, 2] 27 9 (em (pl (pa (pl (pd (.int .i64)) (ps (pk 0) (pl (pd (.int .i64)) (pl (pd .bool) (pl (pd (.int .i64)) (pl (pd (.int .i64)) (ps (pk 0) (ps (pk 0) (ps (pk 0) pz)))))))))) pz))) (pl (po [1, 3] 2 1 (ed (.int .i64))) (pl (po [1, 4] 2 1 (ed (.int .i64))) (pl (po [1, 5] 27 9 (em (pl (pa (pl (pd (.int .i64)) (ps (pr [1, 6]) (pl (pd (.int .i64)) (pl (pd .bool) (pl (pd (.int .i64)) (pl (pd (.int .i64)) (ps (pk 0) (ps (pk 0) (ps (pk 0) pz)))))))))) pz))) (pl (po [1, 6] 3 1 (ed (.int .i64))) pz)))))))
def ref16_head_L0.g (F : T_ref16_head_L0) (v : ref16_head_L0.p.T) (k : KE) : Option Bool := F v.1.1 v.2.1.1 v.2.2.1.1.1 v.2.2.1.1.2.1 v.2.2.2.1.1.1 v.2.2.2.1.1.2.1 v.2.2.2.1.1.2.2.1 v.2.2.2.1.1.2.2.2.1 v.2.2.2.1.1.2.2.2.2.1 v.2.2.2.2.1 v.2.2.2.2.2.1 v.2.2.2.2.2.2.1.1.1 v.2.2.2.2.2.2.1.1.2.1 v.2.2.2.2.2.2.1.1.2.2.1 v.2.2.2.2.2.2.1.1.2.2.2.1 v.2.2.2.2.2.2.1.1.2.2.2.2.1 v.2.2.2.2.2.2.2.1 (fun y0 y1 y2 y3 y4 y5 y6 y7 y8 y9 y10 y11 y12 y13 y14 => k (.exit 0) ⟨fillS 97 [1, 2, 3, 7, 8] [(.ptr [1, 0] 0 0), (.ptr [1, 1] 0 0), (.ptr [1, 2] 0 0), (.ref [1, 3]), (.ptr [1, 4] 0 0)], [([1, 0], ⟨38, 3, (.data Ty6 [y0])⟩), ([1, 1], ⟨38, 3, (.mix [(.agg [.nils, (.d ⟨(.int .i64), y1⟩), (.d ⟨.bool, y2⟩)])])⟩), ([1, 2], ⟨27, 9, (.mix [(.agg [(.d ⟨(.int .i64), y3⟩), .nils, (.d ⟨(.int .i64), y4⟩), (.d ⟨.bool, y5⟩), (.d ⟨(.int .i64), y6⟩), (.d ⟨(.int .i64), y7⟩), .nils, .nils, .nils])])⟩), ([1, 3], ⟨2, 1, (.data (.int .i64) y8)⟩), ([1, 4], ⟨27, 9, (.mix [(.agg [(.d ⟨(.int .i64), y9⟩), (.ref [1, 5]), (.d ⟨(.int .i64), y10⟩), (.d ⟨.bool, y11⟩), (.d ⟨(.int .i64), y12⟩), (.d ⟨(.int .i64), y13⟩), .nils, .nils, .nils])])⟩), ([1, 5], ⟨3, 1, (.data (.int .i64) y14)⟩)], 2⟩)
theorem ref16_head_L0.step (S : T_ref16_head_L0) : ∀ v k, exR 34 Try.f34 0 ref16_head_L0.p [] [] [] (ref16_head_L0.g S) v k = ref16_head_L0.g (ref16_head_L0.body S) v k := fun v k => by kernel_rfl
theorem ref16_head_L0.ok : okL 34 Try.f34 0 0 ref16_head_L0.p (ref16_head_L0.g (ref16_head_L0 ROUNDS)) := loop2 (G := fun n => ref16_head_L0.g (ref16_head_L0 n)) (fun n => ref16_head_L0.step (ref16_head_L0 n)) .nil [] (by kernel_rfl) .nil (fun _ _ => rfl)
/-- function 34: the loop in block 2 -/
abbrev T_ref16_head_L2 : Type := Int → Tc1 → Int → Bool → Int → Int → Bool → Int → Int → Int → Int → Bool → Int → Int → (List Int) → (List (Int × Int × Unit)) → (List Int) → (Tc1 → Int → Bool → Int → Int → Bool → Int → Int → Int → Int → Bool → Int → Int → (List Int) → (List (Int × Int × Unit)) → Option Bool) → Option Bool
noncomputable def ref16_head_L2.body (ref16_head_L2 : T_ref16_head_L2) : T_ref16_head_L2 := fun n3126 t3127 n3128 b3129 n3130 n3131 b3132 n3133 n3134 n3135 n3136 b3137 n3138 n3139 ns3140 ts3141 ns3142 k1 =>
  (cond_ (decide (n3126 < (List.length ns3142 : Int))) (cond_ ((decide ((0 : Int) ≤ n3126)) && (decide (n3126 < (List.length ns3142 : Int)))) (cond_ ((decide ((0 : Int) ≤ n3126)) && (decide (n3126 < (List.length ns3142 : Int)))) (cond_ (Nat.ble (((List.length ts3141) + (List.length (((IntKind.wrap .i64 (Int.tdiv (List.getD ns3142 (Int.toNat n3126) (0 : Int)) (65536 : Int))), ((Int.tmod (List.getD ns3142 (Int.toNat n3126) (0 : Int)) (65536 : Int)), ())) :: []))) * (16 : Nat)) (140737488355328 : Nat)) (ref16_head_L2 (IntKind.wrap .i64 (n3126 + (1 : Int))) t3127 n3128 b3129 n3130 n3131 b3132 n3133 n3134 n3135 n3136 b3137 n3138 n3139 ns3140 (ts3141 ++ (((IntKind.wrap .i64 (Int.tdiv (List.getD ns3142 (Int.toNat n3126) (0 : Int)) (65536 : Int))), ((Int.tmod (List.getD ns3142 (Int.toNat n3126) (0 : Int)) (65536 : Int)), ())) :: [])) ns3142 k1) none) none) none) (k1 t3127 n3128 b3129 n3130 n3131 b3132 n3133 n3134 n3135 n3136 b3137 n3138 n3139 ns3140 ts3141))
noncomputable def ref16_head_L2 : Nat → T_ref16_head_L2
  | 0 => fun _ _ _ _ _ _ _ _ _ _ _ _ _ _ _ _ _ _ => none
  | n + 1 => ref16_head_L2.body (ref16_head_L2 n)
def ref16_head_L2.p : LPat := lp 2 97 [1, 2, 3, 8, 10, 11] (ps (pq [1, 0] 0 0) (ps (pq [1, 1] 0 0) (ps (pq [1, 2] 0 0) (ps (pq [1, 3] 0 0) (ps (pr [1, 6]) (pl (pd (.int .i64)) pz)))))) (pl (po [1, 0] 38 3 (es Ty6 (pl eh pz))) (pl (po [1, 1] 38 3 (em (pl (pa (ps (pk 0) (pl (pd (.int .i64)) (pl (pd .bool) pz)))) pz))) (pl (po [1, 2] 27 9 (em (pl (pa (pl (pd (.int .i64)) (ps (pk 0) (pl (pd (.int .i64)) (pl (pd .bool) (pl (pd (.int .i64)) (pl (pd (.int .i64)) (ps (pk 0) (ps (pk 0) (ps (pk 0) pz)))))))))) pz))) (pl (po [1, 3] 27 9 (em (pl (pa (pl (pd (.int .i64)) (ps (pr [1, 4]) (pl (pd (.int .i64)) (pl (pd .bool) (pl (pd (.int .i64)) (pl (pd (.int .i64)) (ps (pr [1, 5]) (ps (pk 0) (ps (pk 0) pz)))))))))) pz))) (pl (po [1, 4] 3 1 (ed (.int .i64))) (pl (po [1, 5] 55 2 (ed Ty3)) (pl (po [1, 6] 2 1 (ed (.int .i64))) pz)))))))
def ref16_head_L2.g (F : T_ref16_head_L2) (v : ref16_head_L2.p.T) (k : KE) : Option Bool := F v.1.1 v.2.1.1 v.2.2.1.1.1 v.2.2.1.1.2.1 v.2.2.2.1.1.1 v.2.2.2.1.1.2.1 v.2.2.2.1.1.2.2.1 v.2.2.2.1.1.2.2.2.1 v.2.2.2.1.1.2.2.2.2.1 v.2.2.2.2.1.1.1 v.2.2.2.2.1.1.2.1 v.2.2.2.2.1.1.2.2.1 v.2.2.2.2.1.1.2.2.2.1 v.2.2.2.2.1.1.2.2.2.2.1 v.2.2.2.2.2.1 v.2.2.2.2.2.2.1 v.2.2.2.2.2.2.2.1 (fun y0 y1 y2 y3 y4 y5 y6 y7 y8 y9 y10 y11 y12 y13 y14 => k (.exit 2) ⟨fillS 97 [1, 2, 3, 8] [(.ptr [1, 0] 0 0), (.ptr [1, 1] 0 0), (.ptr [1, 2] 0 0), (.ptr [1, 3] 0 0)], [([1, 0], ⟨38, 3, (.data Ty6 [y0])⟩), ([1, 1], ⟨38, 3, (.mix [(.agg [.nils, (.d ⟨(.int .i64), y1⟩), (.d ⟨.bool, y2⟩)])])⟩), ([1, 2], ⟨27, 9, (.mix [(.agg [(.d ⟨(.int .i64), y3⟩), .nils, (.d ⟨(.int .i64), y4⟩), (.d ⟨.bool, y5⟩), (.d ⟨(.int .i64), y6⟩), (.d ⟨(.int .i64), y7⟩), .nils, .nils, .nils])])⟩), ([1, 3], ⟨27, 9, (.mix [(.agg [(.d ⟨(.int .i64), y8⟩), (.ref [1, 4]), (.d ⟨(.int .i64), y9⟩), (.d ⟨.bool, y10⟩), (.d ⟨(.int .i64), y11⟩), (.d ⟨(.int .i64), y12⟩), (.ref [1, 5]), .nils, .nils])])⟩), ([1, 4], ⟨3, 1, (.data (.int .i64) y13)⟩), ([1, 5], ⟨55, 2, (.data Ty3 y14)⟩)], 2⟩)
theorem ref16_head_L2.step (S : T_ref16_head_L2) : ∀ v k, exR 34 Try.f34 2 ref16_head_L2.p [] [] [] (ref16_head_L2.g S) v k = ref16_head_L2.g (ref16_head_L2.body S) v k := fun v k => by kernel_rfl
theorem ref16_head_L2.ok : okL 34 Try.f34 0 2 ref16_head_L2.p (ref16_head_L2.g (ref16_head_L2 ROUNDS)) := loop2 (G := fun n => ref16_head_L2.g (ref16_head_L2 n)) (fun n => ref16_head_L2.step (ref16_head_L2 n)) .nil [] (by kernel_rfl) .nil (fun _ _ => rfl)
/-- function 34: sheerleg/sheerlegref16.head -/
abbrev T_ref16_head : Type := Tc1 → (Tc1 → Int → Int → Bool → Int → Int → Int → Option Bool) → (Tc1 → Int → Int → Bool → Int → Int → Int → (List Int) → (List (Int × Int × Unit)) → Option Bool) → Option Bool
noncomputable def ref16_head.body (ref02_Num : T_ref02_Num) (ref16_some : T_ref16_some) (ref13_Nums : T_ref13_Nums) (ref16_head_L0 : T_ref16_head_L0) (ref16_head_L2 : T_ref16_head_L2) : T_ref16_head := fun t3085 k1 k2 =>
  (ref02_Num t3085 (1 : Int) false
  (fun t3086 n3087 => (ref16_some t3086 (1 : Int)
  (fun t3088 ns3089 => (ref13_Nums t3088 [(2 : Int), (1 : Int), (1 : Int), (1 : Int)]
  (fun t3090 ns3091 => (cond_ (true && (decide ((0 : Int) < (List.length ns3091 : Int)))) (cond_ (true && (decide ((1 : Int) < (List.length ns3091 : Int)))) (cond_ (true && (decide ((2 : Int) < (List.length ns3091 : Int)))) (cond_ (true && (decide ((3 : Int) < (List.length ns3091 : Int)))) (ref16_head_L0 (0 : Int) t3090 (0 : Int) false (0 : Int) (0 : Int) false (0 : Int) (0 : Int) ns3089 ns3091 n3087 (List.getD ns3091 (0 : Nat) (0 : Int)) ((List.getD ns3091 (1 : Nat) (0 : Int)) == (1 : Int)) (List.getD ns3091 (2 : Nat) (0 : Int)) (List.getD ns3091 (3 : Nat) (0 : Int)) []
  (fun t3109 n3110 b3111 n3112 n3113 b3114 n3115 n3116 ns3117 n3118 n3119 b3120 n3121 n3122 ns3123 => (cond_ (true && (decide ((1 : Int) < (List.length ns3117 : Int)))) (cond_ (decide ((List.getD ns3117 (1 : Nat) (0 : Int)) > (1 : Int))) (k1 (t3109.1, (t3109.2.1, (t3109.2.2.1, ()))) (0 : Int) (0 : Int) false (0 : Int) (0 : Int) (3 : Int)) (ref16_some t3109 (3 : Int)
  (fun t3124 ns3125 => (ref16_head_L2 (0 : Int) t3124 n3110 b3111 n3112 n3113 b3114 n3115 n3116 n3118 n3119 b3120 n3121 n3122 ns3123 [] ns3125
  (fun t3143 n3144 b3145 n3146 n3147 b3148 n3149 n3150 n3151 n3152 b3153 n3154 n3155 ns3156 ts3157 => (cond_ t3143.2.2.1 (k1 (t3143.1, (t3143.2.1, (t3143.2.2.1, ()))) (0 : Int) (0 : Int) false (0 : Int) (0 : Int) (5 : Int)) (k2 (t3143.1, (t3143.2.1, (t3143.2.2.1, ()))) n3151 n3152 b3153 n3154 n3155 (0 : Int) ns3156 ts3157))))))) none))) none) none) none) none)))))))
noncomputable def ref16_head : T_ref16_head := ref16_head.body ref02_Num ref16_some ref13_Nums (ref16_head_L0 ROUNDS) (ref16_head_L2 ROUNDS)
def ref16_head.p : FPat := fp 34 (pl (pd Ty6) pz) pz
def ref16_head.g (F : T_ref16_head) (v : ref16_head.p.T) (k : KR) : Option Bool := F v.1.1 (fun y0 y1 y2 y3 y4 y5 y6 => k (.tup [(.d ⟨Ty6, y0⟩), (.agg [(.d ⟨(.int .i64), y1⟩), .nils, (.d ⟨(.int .i64), y2⟩), (.d ⟨.bool, y3⟩), (.d ⟨(.int .i64), y4⟩), (.d ⟨(.int .i64), y5⟩), .nils, .nils, .nils]), (.d ⟨(.int .i64), y6⟩)]) []) (fun y0 y1 y2 y3 y4 y5 y6 y7 y8 => k (.tup [(.d ⟨Ty6, y0⟩), (.agg [(.d ⟨(.int .i64), y1⟩), (.ref [1, 0]), (.d ⟨(.int .i64), y2⟩), (.d ⟨.bool, y3⟩), (.d ⟨(.int .i64), y4⟩), (.d ⟨(.int .i64), y5⟩), (.ref [1, 1]), .nils, .nils]), (.d ⟨(.int .i64), y6⟩)]) [([1, 0], ⟨3, 1, (.data (.int .i64) y7)⟩), ([1, 1], ⟨55, 2, (.data Ty3 y8)⟩)])
theorem ref16_head.eq (F0 : T_ref02_Num) (F1 : T_ref16_some) (F2 : T_ref13_Nums) (L0 : T_ref16_head_L0) (L1 : T_ref16_head_L2) : ∀ v k, exF Try.f34 ref16_head.p [⟨ref02_Num.p, ref02_Num.g F0⟩, ⟨ref16_some.p, ref16_some.g F1⟩, ⟨ref13_Nums.p, ref13_Nums.g F2⟩] [] [⟨0, ref16_head_L0.p, ref16_head_L0.g L0⟩, ⟨2, ref16_head_L2.p, ref16_head_L2.g L1⟩] v k = ref16_head.g (ref16_head.body F0 F1 F2 L0 L1) v k := fun v k => by kernel_rfl
theorem ref16_head.ok : okF 3 ref16_head.p (ref16_head.g ref16_head) := fn2 (ref16_head.eq ref02_Num ref16_some ref13_Nums (ref16_head_L0 ROUNDS) (ref16_head_L2 ROUNDS)) Try.func34 (by kernel_rfl) (.cons ref02_Num.ok (.cons ref16_some.ok (.cons ref13_Nums.ok .nil))) [0, 2] (by kernel_rfl) (.cons ref16_head_L0.ok (.cons ref16_head_L2.ok .nil))
/-- function 76: sheerleg/sheerlegref07.names -/
abbrev T_ref07_names : Type := ((List ByteArray) → Option Bool) → Option Bool
noncomputable def ref07_names.body : T_ref07_names := fun k1 =>
  (k1 [(⟨#[110, 111, 112]⟩ : ByteArray), (⟨#[115, 101, 116]⟩ : ByteArray), (⟨#[109, 111, 118, 101]⟩ : ByteArray), (⟨#[97, 100, 100]⟩ : ByteArray), (⟨#[115, 117, 98]⟩ : ByteArray), (⟨#[109, 117, 108]⟩ : ByteArray), (⟨#[100, 105, 118]⟩ : ByteArray), (⟨#[109, 111, 100]⟩ : ByteArray), (⟨#[108, 101, 115, 115]⟩ : ByteArray), (⟨#[115, 97, 109, 101]⟩ : ByteArray), (⟨#[106, 117, 109, 112]⟩ : ByteArray), (⟨#[122, 101, 114, 111]⟩ : ByteArray), (⟨#[105, 110]⟩ : ByteArray), (⟨#[111, 117, 116]⟩ : ByteArray), (⟨#[108, 111, 97, 100]⟩ : ByteArray), (⟨#[115, 116, 111, 114, 101]⟩ : ByteArray), (⟨#[102, 117, 110, 99]⟩ : ByteArray), (⟨#[112, 105, 99, 107]⟩ : ByteArray), (⟨#[99, 97, 108, 108]⟩ : ByteArray), (⟨#[118, 105, 97]⟩ : ByteArray), (⟨#[100, 101, 102, 101, 114]⟩ : ByteArray), (⟨#[112, 97, 110, 105, 99]⟩ : ByteArray), (⟨#[114, 101, 99, 111, 118, 101, 114]⟩ : ByteArray), (⟨#[114, 101, 116, 117, 114, 110]⟩ : ByteArray), (⟨#[99, 104, 101, 99, 107]⟩ : ByteArray), (⟨#[101, 110, 116, 101, 114]⟩ : ByteArray), (⟨#[98, 111, 116, 116, 111, 109]⟩ : ByteArray), (⟨#[100, 114, 105, 118, 101, 114]⟩ : ByteArray)])
noncomputable def ref07_names : T_ref07_names := ref07_names.body
def ref07_names.p : FPat := fp 76 pz pz
def ref07_names.g (F : T_ref07_names) (v : ref07_names.p.T) (k : KR) : Option Bool := F (fun y0 => k (.ref [1, 0]) [([1, 0], ⟨9, 1, (.data .str y0)⟩)])
theorem ref07_names.eq : ∀ v k, exF Try.f76 ref07_names.p [] [] [] v k = ref07_names.g (ref07_names.body) v k := fun v k => by kernel_rfl
theorem ref07_names.ok : okF 1 ref07_names.p (ref07_names.g ref07_names) := fn2 (ref07_names.eq) Try.func76 (by kernel_rfl) .nil [] (by kernel_rfl) .nil
/-- function 66: sheerleg/sheerlegref07.Name -/
abbrev T_ref07_Name : Type := Int → (ByteArray → Option Bool) → Option Bool
noncomputable def ref07_Name.body (ref07_names : T_ref07_names) : T_ref07_Name := fun n3247 k1 =>
  (ref07_names
  (fun ss3248 => (cond_ (! (decide (n3247 < (1 : Int)))) (cond_ (decide (n3247 > (List.length ss3248 : Int))) (k1 (⟨#[]⟩ : ByteArray)) (cond_ ((decide ((0 : Int) ≤ (IntKind.wrap .i64 (n3247 - (1 : Int))))) && (decide ((IntKind.wrap .i64 (n3247 - (1 : Int))) < (List.length ss3248 : Int)))) (k1 (List.getD ss3248 (Int.toNat (IntKind.wrap .i64 (n3247 - (1 : Int)))) (⟨#[]⟩ : ByteArray))) none)) (k1 (⟨#[]⟩ : ByteArray)))))
noncomputable def ref07_Name : T_ref07_Name := ref07_Name.body ref07_names
def ref07_Name.p : FPat := fp 66 (pl (pd (.int .i64)) pz) pz
def ref07_Name.g (F : T_ref07_Name) (v : ref07_Name.p.T) (k : KR) : Option Bool := F v.1.1 (fun y0 => k (.d ⟨.str, y0⟩) [])
theorem ref07_Name.eq (F0 : T_ref07_names) : ∀ v k, exF Try.f66 ref07_Name.p [⟨ref07_names.p, ref07_names.g F0⟩] [] [] v k = ref07_Name.g (ref07_Name.body F0) v k := fun v k => by kernel_rfl
theorem ref07_Name.ok : okF 2 ref07_Name.p (ref07_Name.g ref07_Name) := fn2 (ref07_Name.eq ref07_names) Try.func66 (by kernel_rfl) (.cons ref07_names.ok .nil) [] (by kernel_rfl) .nil
/-- function 67: sheerleg/sheerlegref08.Operand -/
abbrev T_ref08_Operand : Type := Tc2 → Int → (Int → Option Bool) → Option Bool
noncomputable def ref08_Operand.body : T_ref08_Operand := fun t3252 n3253 k1 =>
  (cond_ (n3253 == (0 : Int)) (k1 t3252.2.1) (cond_ (n3253 == (1 : Int)) (k1 t3252.2.2.1) (cond_ (n3253 == (2 : Int)) (k1 t3252.2.2.2.1) (cond_ (n3253 == (3 : Int)) (k1 t3252.2.2.2.2.1) (k1 (0 : Int))))))
noncomputable def ref08_Operand : T_ref08_Operand := ref08_Operand.body
def ref08_Operand.p : FPat := fp 67 (pl (pd Ty8) (pl (pd (.int .i64)) pz)) pz
def ref08_Operand.g (F : T_ref08_Operand) (v : ref08_Operand.p.T) (k : KR) : Option Bool := F v.1.1 v.1.2.1 (fun y0 => k (.d ⟨(.int .i64), y0⟩) [])
theorem ref08_Operand.eq : ∀ v k, exF Try.f67 ref08_Operand.p [] [] [] v k = ref08_Operand.g (ref08_Operand.body) v k := fun v k => by kernel_rfl
theorem ref08_Operand.ok : okF 1 ref08_Operand.p (ref08_Operand.g ref08_Operand) := fn2 (ref08_Operand.eq) Try.func67 (by kernel_rfl) .nil [] (by kernel_rfl) .nil
/-- function 55: the loop in block 0 -/
abbrev T_ref08_Check_L0 : Type := Int → Tc2 → (Int → Option Bool) → (Tc2 → Option Bool) → Option Bool
noncomputable def ref08_Check_L0.body (ref08_Check_L0 : T_ref08_Check_L0) (ref08_Operand : T_ref08_Operand) : T_ref08_Check_L0 := fun n3250 t3251 k1 k2 =>
  (cond_ (decide (n3250 < (3 : Int))) (ref08_Operand t3251 n3250
  (fun n3254 => (cond_ (! (decide (n3254 < (0 : Int)))) (ref08_Operand t3251 n3250
  (fun n3255 => (cond_ (decide (n3255 > (255 : Int))) (k1 (9 : Int)) (ref08_Check_L0 (IntKind.wrap .i64 (n3250 + (1 : Int))) t3251 k1 k2)))) (k1 (9 : Int))))) (k2 t3251))
noncomputable def ref08_Check_L0 : Nat → T_ref08_Check_L0
  | 0 => fun _ _ _ _ => none
  | n + 1 => ref08_Check_L0.body (ref08_Check_L0 n) ref08_Operand
def ref08_Check_L0.p : LPat := lp 2 51 [1, 3] (ps (pq [1, 0] 0 0) (pl (pd (.int .i64)) pz)) (pl (po [1, 0] 57 5 (es Ty8 (pl eh pz))) pz)
def ref08_Check_L0.g (F : T_ref08_Check_L0) (v : ref08_Check_L0.p.T) (k : KE) : Option Bool := F v.1.1 v.2.1.1 (fun y0 => k .ret ⟨fillS 51 [2] [(.d ⟨(.int .i64), y0⟩)], [], 2⟩) (fun y0 => k (.exit 0) ⟨fillS 51 [1] [(.ptr [1, 0] 0 0)], [([1, 0], ⟨57, 5, (.data Ty8 [y0])⟩)], 2⟩)
theorem ref08_Check_L0.step (S : T_ref08_Check_L0) (F0 : T_ref08_Operand) : ∀ v k, exR 55 Try.f55 0 ref08_Check_L0.p [⟨ref08_Operand.p, ref08_Operand.g F0⟩] [] [] (ref08_Check_L0.g S) v k = ref08_Check_L0.g (ref08_Check_L0.body S F0) v k := fun v k => by kernel_rfl
theorem ref08_Check_L0.ok : okL 55 Try.f55 1 0 ref08_Check_L0.p (ref08_Check_L0.g (ref08_Check_L0 ROUNDS)) := loop2 (G := fun n => ref08_Check_L0.g (ref08_Check_L0 n)) (fun n => ref08_Check_L0.step (ref08_Check_L0 n) ref08_Operand) (.cons ref08_Operand.ok .nil) [] (by kernel_rfl) .nil (fun _ _ => rfl)
/-- function 68: sheerleg/sheerlegref07.Shape -/
abbrev T_ref07_Shape : Type := Int → (ByteArray → Option Bool) → Option Bool
noncomputable def ref07_Shape.body (ref07_Name : T_ref07_Name) : T_ref07_Shape := fun n3258 k1 =>
  (cond_ (decide (n3258 ≥ (4 : Int))) (cond_ (decide (n3258 ≤ (10 : Int))) (k1 (⟨#[119, 114, 114, 45]⟩ : ByteArray)) (ref07_Name n3258
  (fun s3259 => (cond_ ((ByteArray.toList s3259) == (ByteArray.toList (⟨#[110, 111, 112]⟩ : ByteArray))) (k1 (⟨#[45, 45, 45, 45]⟩ : ByteArray)) (cond_ ((ByteArray.toList s3259) == (ByteArray.toList (⟨#[115, 101, 116]⟩ : ByteArray))) (k1 (⟨#[119, 45, 45, 110]⟩ : ByteArray)) (cond_ ((ByteArray.toList s3259) == (ByteArray.toList (⟨#[109, 111, 118, 101]⟩ : ByteArray))) (cond_ ((ByteArray.toList s3259) == (ByteArray.toList (⟨#[109, 111, 118, 101]⟩ : ByteArray))) (k1 (⟨#[119, 114, 45, 45]⟩ : ByteArray)) (cond_ ((ByteArray.toList s3259) == (ByteArray.toList (⟨#[106, 117, 109, 112]⟩ : ByteArray))) (k1 (⟨#[45, 45, 45, 116]⟩ : ByteArray)) (cond_ ((ByteArray.toList s3259) == (ByteArray.toList (⟨#[122, 101, 114, 111]⟩ : ByteArray))) (k1 (⟨#[114, 45, 45, 116]⟩ : ByteArray)) (cond_ ((ByteArray.toList s3259) == (ByteArray.toList (⟨#[105, 110]⟩ : ByteArray))) (k1 (⟨#[119, 45, 45, 45]⟩ : ByteArray)) (cond_ ((ByteArray.toList s3259) == (ByteArray.toList (⟨#[111, 117, 116]⟩ : ByteArray))) (cond_ ((ByteArray.toList s3259) == (ByteArray.toList (⟨#[111, 117, 116]⟩ : ByteArray))) (k1 (⟨#[114, 45, 45, 45]⟩ : ByteArray)) (cond_ ((ByteArray.toList s3259) == (ByteArray.toList (⟨#[115, 116, 111, 114, 101]⟩ : ByteArray))) (k1 (⟨#[114, 114, 45, 45]⟩ : ByteArray)) (cond_ ((ByteArray.toList s3259) == (ByteArray.toList (⟨#[102, 117, 110, 99]⟩ : ByteArray))) (k1 (⟨#[103, 45, 45, 45]⟩ : ByteArray)) (cond_ ((ByteArray.toList s3259) == (ByteArray.toList (⟨#[112, 105, 99, 107]⟩ : ByteArray))) (k1 (⟨#[103, 114, 45, 45]⟩ : ByteArray)) (cond_ ((ByteArray.toList s3259) == (ByteArray.toList (⟨#[99, 97, 108, 108]⟩ : ByteArray))) (k1 (⟨#[99, 45, 45, 45]⟩ : ByteArray)) (cond_ ((ByteArray.toList s3259) == (ByteArray.toList (⟨#[118, 105, 97]⟩ : ByteArray))) (k1 (⟨#[99, 102, 107, 45]⟩ : ByteArray)) (cond_ ((ByteArray.toList s3259) == (ByteArray.toList (⟨#[100, 101, 102, 101, 114]⟩ : ByteArray))) (k1 (⟨#[100, 45, 45, 45]⟩ : ByteArray)) (cond_ ((ByteArray.toList s3259) == (ByteArray.toList (⟨#[114, 101, 99, 111, 118, 101, 114]⟩ : ByteArray))) (k1 (⟨#[119, 119, 45, 45]⟩ : ByteArray)) (cond_ ((ByteArray.toList s3259) == (ByteArray.toList (⟨#[114, 101, 116, 117, 114, 110]⟩ : ByteArray))) (k1 (⟨#[118, 45, 45, 45]⟩ : ByteArray)) (k1 (⟨#[]⟩ : ByteArray))))))))))) (cond_ ((ByteArray.toList s3259) == (ByteArray.toList (⟨#[112, 97, 110, 105, 99]⟩ : ByteArray))) (k1 (⟨#[114, 45, 45, 45]⟩ : ByteArray)) (cond_ ((ByteArray.toList s3259) == (ByteArray.toList (⟨#[115, 116, 111, 114, 101]⟩ : ByteArray))) (k1 (⟨#[114, 114, 45, 45]⟩ : ByteArray)) (cond_ ((ByteArray.toList s3259) == (ByteArray.toList (⟨#[102, 117, 110, 99]⟩ : ByteArray))) (k1 (⟨#[103, 45, 45, 45]⟩ : ByteArray)) (cond_ ((ByteArray.toList s3259) == (ByteArray.toList (⟨#[112, 105, 99, 107]⟩ : ByteArray))) (k1 (⟨#[103, 114, 45, 45]⟩ : ByteArray)) (cond_ ((ByteArray.toList s3259) == (ByteArray.toList (⟨#[99, 97, 108, 108]⟩ : ByteArray))) (k1 (⟨#[99, 45, 45, 45]⟩ : ByteArray)) (cond_ ((ByteArray.toList s3259) == (ByteArray.toList (⟨#[118, 105, 97]⟩ : ByteArray))) (k1 (⟨#[99, 102, 107, 45]⟩ : ByteArray)) (cond_ ((ByteArray.toList s3259) == (ByteArray.toList (⟨#[100, 101, 102, 101, 114]⟩ : ByteArray))) (k1 (⟨#[100, 45, 45, 45]⟩ : ByteArray)) (cond_ ((ByteArray.toList s3259) == (ByteArray.toList (⟨#[114, 101, 99, 111, 118, 101, 114]⟩ : ByteArray))) (k1 (⟨#[119, 119, 45, 45]⟩ : ByteArray)) (cond_ ((ByteArray.toList s3259) == (ByteArray.toList (⟨#[114, 101, 116, 117, 114, 110]⟩ : ByteArray))) (k1 (⟨#[118, 45, 45, 45]⟩ : ByteArray)) (k1 (⟨#[]⟩ : ByteArray)))))))))))))))) (cond_ ((ByteArray.toList s3259) == (ByteArray.toList (⟨#[108, 111, 97, 100]⟩ : ByteArray))) (k1 (⟨#[119, 114, 45, 45]⟩ : ByteArray)) (cond_ ((ByteArray.toList s3259) == (ByteArray.toList (⟨#[106, 117, 109, 112]⟩ : ByteArray))) (k1 (⟨#[45, 45, 45, 116]⟩ : ByteArray)) (cond_ ((ByteArray.toList s3259) == (ByteArray.toList (⟨#[122, 101, 114, 111]⟩ : ByteArray))) (k1 (⟨#[114, 45, 45, 116]⟩ : ByteArray)) (cond_ ((ByteArray.toList s3259) == (ByteArray.toList (⟨#[105, 110]⟩ : ByteArray))) (k1 (⟨#[119, 45, 45, 45]⟩ : ByteArray)) (cond_ ((ByteArray.toList s3259) == (ByteArray.toList (⟨#[111, 117, 116]⟩ : ByteArray))) (cond_ ((ByteArray.toList s3259) == (ByteArray.toList (⟨#[111, 117, 116]⟩ : ByteArray))) (k1 (⟨#[114, 45, 45, 45]⟩ : ByteArray)) (cond_ ((ByteArray.toList s3259) == (ByteArray.toList (⟨#[115, 116, 111, 114, 101]⟩ : ByteArray))) (k1 (⟨#[114, 114, 45, 45]⟩ : ByteArray)) (cond_ ((ByteArray.toList s3259) == (ByteArray.toList (⟨#[102, 117, 110, 99]⟩ : ByteArray))) (k1 (⟨#[103, 45, 45, 45]⟩ : ByteArray)) (cond_ ((ByteArray.toList s3259) == (ByteArray.toList (⟨#[112, 105, 99, 107]⟩ : ByteArray))) (k1 (⟨#[103, 114, 45, 45]⟩ : ByteArray)) (cond_ ((ByteArray.toList s3259) == (ByteArray.toList (⟨#[99, 97, 108, 108]⟩ : ByteArray))) (k1 (⟨#[99, 45, 45, 45]⟩ : ByteArray)) (cond_ ((ByteArray.toList s3259) == (ByteArray.toList (⟨#[118, 105, 97]⟩ : ByteArray))) (k1 (⟨#[99, 102, 107, 45]⟩ : ByteArray)) (cond_ ((ByteArray.toList s3259) == (ByteArray.toList (⟨#[100, 101, 102, 101, 114]⟩ : ByteArray))) (k1 (⟨#[100, 45, 45, 45]⟩ : ByteArray)) (cond_ ((ByteArray.toList s3259) == (ByteArray.toList (⟨#[114, 101, 99, 111, 118, 101, 114]⟩ : ByteArray))) (k1 (⟨#[119, 119, 45, 45]⟩ : ByteArray)) (cond_ ((ByteArray.toList s3259) == (ByteArray.toList (⟨#[114, 101, 116, 117, 114, 110]⟩ : ByteArray))) (k1 (⟨#[118, 45, 45, 45]⟩ : ByteArray)) (k1 (⟨#[]⟩ : ByteArray))))))))))) (cond_ ((ByteArray.toList s3259) == (ByteArray.toList (⟨#[112, 97, 110, 105, 99]⟩ : ByteArray))) (k1 (⟨#[114, 45, 45, 45]⟩ : ByteArray)) (cond_ ((ByteArray.toList s3259) == (ByteArray.toList (⟨#[115, 116, 111, 114, 101]⟩ : ByteArray))) (k1 (⟨#[114, 114, 45, 45]⟩ : ByteArray)) (cond_ ((ByteArray.toList s3259) == (ByteArray.toList (⟨#[102, 117, 110, 99]⟩ : ByteArray))) (k1 (⟨#[103, 45, 45, 45]⟩ : ByteArray)) (cond_ ((ByteArray.toList s3259) == (ByteArray.toList (⟨#[112, 105, 99, 107]⟩ : ByteArray))) (k1 (⟨#[103, 114, 45, 45]⟩ : ByteArray)) (cond_ ((ByteArray.toList s3259) == (ByteArray.toList (⟨#[99, 97, 108, 108]⟩ : ByteArray))) (k1 (⟨#[99, 45, 45, 45]⟩ : ByteArray)) (cond_ ((ByteArray.toList s3259) == (ByteArray.toList (⟨#[118, 105, 97]⟩ : ByteArray))) (k1 (⟨#[99, 102, 107, 45]⟩ : ByteArray)) (cond_ ((ByteArray.toList s3259) == (ByteArray.toList (⟨#[100, 101, 102, 101, 114]⟩ : ByteArray))) (k1 (⟨#[100, 45, 45, 45]⟩ : ByteArray)) (cond_ ((ByteArray.toList s3259) == (ByteArray.toList (⟨#[114, 101, 99, 111, 118, 101, 114]⟩ : ByteArray))) (k1 (⟨#[119, 119, 45, 45]⟩ : ByteArray)) (cond_ ((ByteArray.toList s3259) == (ByteArray.toList (⟨#[114, 101, 116, 117, 114, 110]⟩ : ByteArray))) (k1 (⟨#[118, 45, 45, 45]⟩ : ByteArray)) (k1 (⟨#[]⟩ : ByteArray)))))))))))))))))))))) (ref07_Name n3258
  (fun s3260 => (cond_ ((ByteArray.toList s3260) == (ByteArray.toList (⟨#[110, 111, 112]⟩ : ByteArray))) (k1 (⟨#[45, 45, 45, 45]⟩ : ByteArray)) (cond_ ((ByteArray.toList s3260) == (ByteArray.toList (⟨#[115, 101, 116]⟩ : ByteArray))) (k1 (⟨#[119, 45, 45, 110]⟩ : ByteArray)) (cond_ ((ByteArray.toList s3260) == (ByteArray.toList (⟨#[109, 111, 118, 101]⟩ : ByteArray))) (cond_ ((ByteArray.toList s3260) == (ByteArray.toList (⟨#[109, 111, 118, 101]⟩ : ByteArray))) (k1 (⟨#[119, 114, 45, 45]⟩ : ByteArray)) (cond_ ((ByteArray.toList s3260) == (ByteArray.toList (⟨#[106, 117, 109, 112]⟩ : ByteArray))) (k1 (⟨#[45, 45, 45, 116]⟩ : ByteArray)) (cond_ ((ByteArray.toList s3260) == (ByteArray.toList (⟨#[122, 101, 114, 111]⟩ : ByteArray))) (k1 (⟨#[114, 45, 45, 116]⟩ : ByteArray)) (cond_ ((ByteArray.toList s3260) == (ByteArray.toList (⟨#[105, 110]⟩ : ByteArray))) (k1 (⟨#[119, 45, 45, 45]⟩ : ByteArray)) (cond_ ((ByteArray.toList s3260) == (ByteArray.toList (⟨#[111, 117, 116]⟩ : ByteArray))) (cond_ ((ByteArray.toList s3260) == (ByteArray.toList (⟨#[111, 117, 116]⟩ : ByteArray))) (k1 (⟨#[114, 45, 45, 45]⟩ : ByteArray)) (cond_ ((ByteArray.toList s3260) == (ByteArray.toList (⟨#[115, 116, 111, 114, 101]⟩ : ByteArray))) (k1 (⟨#[114, 114, 45, 45]⟩ : ByteArray)) (cond_ ((ByteArray.toList s3260) == (ByteArray.toList (⟨#[102, 117, 110, 99]⟩ : ByteArray))) (k1 (⟨#[103, 45, 45, 45]⟩ : ByteArray)) (cond_ ((ByteArray.toList s3260) == (ByteArray.toList (⟨#[112, 105, 99, 107]⟩ : ByteArray))) (k1 (⟨#[103, 114, 45, 45]⟩ : ByteArray)) (cond_ ((ByteArray.toList s3260) == (ByteArray.toList (⟨#[99, 97, 108, 108]⟩ : ByteArray))) (k1 (⟨#[99, 45, 45, 45]⟩ : ByteArray)) (cond_ ((ByteArray.toList s3260) == (ByteArray.toList (⟨#[118, 105, 97]⟩ : ByteArray))) (k1 (⟨#[99, 102, 107, 45]⟩ : ByteArray)) (cond_ ((ByteArray.toList s3260) == (ByteArray.toList (⟨#[100, 101, 102, 101, 114]⟩ : ByteArray))) (k1 (⟨#[100, 45, 45, 45]⟩ : ByteArray)) (cond_ ((ByteArray.toList s3260) == (ByteArray.toList (⟨#[114, 101, 99, 111, 118, 101, 114]⟩ : ByteArray))) (k1 (⟨#[119, 119, 45, 45]⟩ : ByteArray)) (cond_ ((ByteArray.toList s3260) == (ByteArray.toList (⟨#[114, 101, 116, 117, 114, 110]⟩ : ByteArray))) (k1 (⟨#[118, 45, 45, 45]⟩ : ByteArray)) (k1 (⟨#[]⟩ : ByteArray))))))))))) (cond_ ((ByteArray.toList s3260) == (ByteArray.toList (⟨#[112, 97, 110, 105, 99]⟩ : ByteArray))) (k1 (⟨#[114, 45, 45, 45]⟩ : ByteArray)) (cond_ ((ByteArray.toList s3260) == (ByteArray.toList (⟨#[115, 116, 111, 114, 101]⟩ : ByteArray))) (k1 (⟨#[114, 114, 45, 45]⟩ : ByteArray)) (cond_ ((ByteArray.toList s3260) == (ByteArray.toList (⟨#[102, 117, 110, 99]⟩ : ByteArray))) (k1 (⟨#[103, 45, 45, 45]⟩ : ByteArray)) (cond_ ((ByteArray.toList s3260) == (ByteArray.toList (⟨#[112, 105, 99, 107]⟩ : ByteArray))) (k1 (⟨#[103, 114, 45, 45]⟩ : ByteArray)) (cond_ ((ByteArray.toList s3260) == (ByteArray.toList (⟨#[99, 97, 108, 108]⟩ : ByteArray))) (k1 (⟨#[99, 45, 45, 45]⟩ : ByteArray)) (cond_ ((ByteArray.toList s3260) == (ByteArray.toList (⟨#[118, 105, 97]⟩ : ByteArray))) (k1 (⟨#[99, 102, 107, 45]⟩ : ByteArray)) (cond_ ((ByteArray.toList s3260) == (ByteArray.toList (⟨#[100, 101, 102, 101, 114]⟩ : ByteArray))) (k1 (⟨#[100, 45, 45, 45]⟩ : ByteArray)) (cond_ ((ByteArray.toList s3260) == (ByteArray.toList (⟨#[114, 101, 99, 111, 118, 101, 114]⟩ : ByteArray))) (k1 (⟨#[119, 119, 45, 45]⟩ : ByteArray)) (cond_ ((ByteArray.toList s3260) == (ByteArray.toList (⟨#[114, 101, 116, 117, 114, 110]⟩ : ByteArray))) (k1 (⟨#[118, 45, 45, 45]⟩ : ByteArray)) (k1 (⟨#[]⟩ : ByteArray)))))))))))))))) (cond_ ((ByteArray.toList s3260) == (ByteArray.toList (⟨#[108, 111, 97, 100]⟩ : ByteArray))) (k1 (⟨#[119, 114, 45, 45]⟩ : ByteArray)) (cond_ ((ByteArray.toList s3260) == (ByteArray.toList (⟨#[106, 117, 109, 112]⟩ : ByteArray))) (k1 (⟨#[45, 45, 45, 116]⟩ : ByteArray)) (cond_ ((ByteArray.toList s3260) == (ByteArray.toList (⟨#[122, 101, 114, 111]⟩ : ByteArray))) (k1 (⟨#[114, 45, 45, 116]⟩ : ByteArray)) (cond_ ((ByteArray.toList s3260) == (ByteArray.toList (⟨#[105, 110]⟩ : ByteArray))) (k1 (⟨#[119, 45, 45, 45]⟩ : ByteArray)) (cond_ ((ByteArray.toList s3260) == (ByteArray.toList (⟨#[111, 117, 116]⟩ : ByteArray))) (cond_ ((ByteArray.toList s3260) == (ByteArray.toList (⟨#[111, 117, 116]⟩ : ByteArray))) (k1 (⟨#[114, 45, 45, 45]⟩ : ByteArray)) (cond_ ((ByteArray.toList s3260) == (ByteArray.toList (⟨#[115, 116, 111, 114, 101]⟩ : ByteArray))) (k1 (⟨#[114, 114, 45, 45]⟩ : ByteArray)) (cond_ ((ByteArray.toList s3260) == (ByteArray.toList (⟨#[102, 117, 110, 99]⟩ : ByteArray))) (k1 (⟨#[103, 45, 45, 45]⟩ : ByteArray)) (cond_ ((ByteArray.toList s3260) == (ByteArray.toList (⟨#[112, 105, 99, 107]⟩ : ByteArray))) (k1 (⟨#[103, 114, 45, 45]⟩ : ByteArray)) (cond_ ((ByteArray.toList s3260) == (ByteArray.toList (⟨#[99, 97, 108, 108]⟩ : ByteArray))) (k1 (⟨#[99, 45, 45, 45]⟩ : ByteArray)) (cond_ ((ByteArray.toList s3260) == (ByteArray.toList (⟨#[118, 105, 97]⟩ : ByteArray))) (k1 (⟨#[99, 102, 107, 45]⟩ : ByteArray)) (cond_ ((ByteArray.toList s3260) == (ByteArray.toList (⟨#[100, 101, 102, 101, 114]⟩ : ByteArray))) (k1 (⟨#[100, 45, 45, 45]⟩ : ByteArray)) (cond_ ((ByteArray.toList s3260) == (ByteArray.toList (⟨#[114, 101, 99, 111, 118, 101, 114]⟩ : ByteArray))) (k1 (⟨#[119, 119, 45, 45]⟩ : ByteArray)) (cond_ ((ByteArray.toList s3260) == (ByteArray.toList (⟨#[114, 101, 116, 117, 114, 110]⟩ : ByteArray))) (k1 (⟨#[118, 45, 45, 45]⟩ : ByteArray)) (k1 (⟨#[]⟩ : ByteArray))))))))))) (cond_ ((ByteArray.toList s3260) == (ByteArray.toList (⟨#[112, 97, 110, 105, 99]⟩ : ByteArray))) (k1 (⟨#[114, 45, 45, 45]⟩ : ByteArray)) (cond_ ((ByteArray.toList s3260) == (ByteArray.toList (⟨#[115, 116, 111, 114, 101]⟩ : ByteArray))) (k1 (⟨#[114, 114, 45, 45]⟩ : ByteArray)) (cond_ ((ByteArray.toList s3260) == (ByteArray.toList (⟨#[102, 117, 110, 99]⟩ : ByteArray))) (k1 (⟨#[103, 45, 45, 45]⟩ : ByteArray)) (cond_ ((ByteArray.toList s3260) == (ByteArray.toList (⟨#[112, 105, 99, 107]⟩ : ByteArray))) (k1 (⟨#[103, 114, 45, 45]⟩ : ByteArray)) (cond_ ((ByteArray.toList s3260) == (ByteArray.toList (⟨#[99, 97, 108, 108]⟩ : ByteArray))) (k1 (⟨#[99, 45, 45, 45]⟩ : ByteArray)) (cond_ ((ByteArray.toList s3260) == (ByteArray.toList (⟨#[118, 105, 97]⟩ : ByteArray))) (k1 (⟨#[99, 102, 107, 45]⟩ : ByteArray)) (cond_ ((ByteArray.toList s3260) == (ByteArray.toList (⟨#[100, 101, 102, 101, 114]⟩ : ByteArray))) (k1 (⟨#[100, 45, 45, 45]⟩ : ByteArray)) (cond_ ((ByteArray.toList s3260) == (ByteArray.toList (⟨#[114, 101, 99, 111, 118, 101, 114]⟩ : ByteArray))) (k1 (⟨#[119, 119, 45, 45]⟩ : ByteArray)) (cond_ ((ByteArray.toList s3260) == (ByteArray.toList (⟨#[114, 101, 116, 117, 114, 110]⟩ : ByteArray))) (k1 (⟨#[118, 45, 45, 45]⟩ : ByteArray)) (k1 (⟨#[]⟩ : ByteArray))))))))))))))))))))))
noncomputable def ref07_Shape : T_ref07_Shape := ref07_Shape.body ref07_Name
def ref07_Shape.p : FPat := fp 68 (pl (pd (.int .i64)) pz) pz
def ref07_Shape.g (F : T_ref07_Shape) (v : ref07_Shape.p.T) (k : KR) : Option Bool := F v.1.1 (fun y0 => k (.d ⟨.str, y0⟩) [])
theorem ref07_Shape.eq (F0 : T_ref07_Name) : ∀ v k, exF Try.f68 ref07_Shape.p [⟨ref07_Name.p, ref07_Name.g F0⟩] [] [] v k = ref07_Shape.g (ref07_Shape.body F0) v k := fun v k => by kernel_rfl
theorem ref07_Shape.ok : okF 3 ref07_Shape.p (ref07_Shape.g ref07_Shape) := fn2 (ref07_Shape.eq ref07_Name) Try.func68 (by kernel_rfl) (.cons ref07_Name.ok .nil) [] (by kernel_rfl) .nil
/-- function 55: the loop in block 2 -/
abbrev T_ref08_Check_L2 : Type := ByteArray → Int → Tc2 → (Int → Option Bool) → (Option Bool) → Option Bool
noncomputable def ref08_Check_L2.body (ref08_Check_L2 : T_ref08_Check_L2) (ref08_Operand : T_ref08_Operand) : T_ref08_Check_L2 := fun s3262 n3263 t3264 k1 k2 =>
  (cond_ (decide (n3263 < (((ByteArray.size s3262) : Nat) : Int))) (cond_ ((decide ((0 : Int) ≤ n3263)) && (decide (n3263 < (((ByteArray.size s3262) : Nat) : Int)))) (cond_ ((((UInt8.toNat (List.getD (Array.toList (ByteArray.data s3262)) (Int.toNat n3263) (0 : UInt8))) : Nat) : Int) == (45 : Int)) (ref08_Operand t3264 n3263
  (fun n3265 => (cond_ (n3265 != (0 : Int)) (k1 (2 : Int)) (ref08_Check_L2 s3262 (IntKind.wrap .i64 (n3263 + (1 : Int))) t3264 k1 k2)))) (ref08_Check_L2 s3262 (IntKind.wrap .i64 (n3263 + (1 : Int))) t3264 k1 k2)) none) (k2))
noncomputable def ref08_Check_L2 : Nat → T_ref08_Check_L2
  | 0 => fun _ _ _ _ _ => none
  | n + 1 => ref08_Check_L2.body (ref08_Check_L2 n) ref08_Operand
def ref08_Check_L2.p : LPat := lp 2 51 [1, 4, 5] (ps (pq [1, 0] 0 0) (pl (pd .str) (pl (pd (.int .i64)) pz))) (pl (po [1, 0] 57 5 (es Ty8 (pl eh pz))) pz)
def ref08_Check_L2.g (F : T_ref08_Check_L2) (v : ref08_Check_L2.p.T) (k : KE) : Option Bool := F v.1.1 v.1.2.1 v.2.1.1 (fun y0 => k .ret ⟨fillS 51 [2] [(.d ⟨(.int .i64), y0⟩)], [], 2⟩) (k (.exit 2) ⟨fillS 51 [] [], [], 2⟩)
theorem ref08_Check_L2.step (S : T_ref08_Check_L2) (F0 : T_ref08_Operand) : ∀ v k, exR 55 Try.f55 2 ref08_Check_L2.p [⟨ref08_Operand.p, ref08_Operand.g F0⟩] [] [] (ref08_Check_L2.g S) v k = ref08_Check_L2.g (ref08_Check_L2.body S F0) v k := fun v k => by kernel_rfl
theorem ref08_Check_L2.ok : okL 55 Try.f55 1 2 ref08_Check_L2.p (ref08_Check_L2.g (ref08_Check_L2 ROUNDS)) := loop2 (G := fun n => ref08_Check_L2.g (ref08_Check_L2 n)) (fun n => ref08_Check_L2.step (ref08_Check_L2 n) ref08_Operand) (.cons ref08_Operand.ok .nil) [] (by kernel_rfl) .nil (fun _ _ => rfl)
/-- function 55: sheerleg/sheerlegref08.Check -/
abbrev T_ref08_Check : Type := Tc2 → (Int → Option Bool) → Option Bool
noncomputable def ref08_Check.body (ref07_Name : T_ref07_Name) (ref07_Shape : T_ref07_Shape) (ref08_Check_L0 : T_ref08_Check_L0) (ref08_Check_L2 : T_ref08_Check_L2) : T_ref08_Check := fun t3246 k1 =>
  (ref07_Name t3246.1
  (fun s3249 => (cond_ ((ByteArray.toList s3249) == (ByteArray.toList (⟨#[]⟩ : ByteArray))) (k1 (8 : Int)) (ref08_Check_L0 (0 : Int) t3246
  (fun n3256 => (k1 n3256))
  (fun t3257 => (cond_ (! (decide (t3257.2.2.2.2.1 < (-2147483648 : Int)))) (cond_ (decide (t3257.2.2.2.2.1 > (2147483647 : Int))) (k1 (9 : Int)) (ref07_Shape t3257.1
  (fun s3261 => (ref08_Check_L2 s3261 (0 : Int) t3257
  (fun n3266 => (k1 n3266))
  (k1 (0 : Int)))))) (k1 (9 : Int))))))))
noncomputable def ref08_Check : T_ref08_Check := ref08_Check.body ref07_Name ref07_Shape (ref08_Check_L0 ROUNDS) (ref08_Check_L2 ROUNDS)
def ref08_Check.p : FPat := fp 55 (pl (pd Ty8) pz) pz
def ref08_Check.g (F : T_ref08_Check) (v : ref08_Check.p.T) (k : KR) : Option Bool := F v.1.1 (fun y0 => k (.d ⟨(.int .i64), y0⟩) [])
theorem ref08_Check.eq (F0 : T_ref07_Name) (F1 : T_ref07_Shape) (L0 : T_ref08_Check_L0) (L1 : T_ref08_Check_L2) : ∀ v k, exF Try.f55 ref08_Check.p [⟨ref07_Name.p, ref07_Name.g F0⟩, ⟨ref07_Shape.p, ref07_Shape.g F1⟩] [] [⟨0, ref08_Check_L0.p, ref08_Check_L0.g L0⟩, ⟨2, ref08_Check_L2.p, ref08_Check_L2.g L1⟩] v k = ref08_Check.g (ref08_Check.body F0 F1 L0 L1) v k := fun v k => by kernel_rfl
theorem ref08_Check.ok : okF 4 ref08_Check.p (ref08_Check.g ref08_Check) := fn2 (ref08_Check.eq ref07_Name ref07_Shape (ref08_Check_L0 ROUNDS) (ref08_Check_L2 ROUNDS)) Try.func55 (by kernel_rfl) (.cons ref07_Name.ok (.cons ref07_Shape.ok .nil)) [0, 2] (by kernel_rfl) (.cons ref08_Check_L0.ok (.cons ref08_Check_L2.ok .nil))
/-- function 36: sheerleg/sheerlegref08.Get -/
abbrev T_ref08_Get : Type := Tc1 → (Tc1 → Tc2 → Int → Option Bool) → Option Bool
noncomputable def ref08_Get.body (ref02_Num : T_ref02_Num) (ref08_Check : T_ref08_Check) : T_ref08_Get := fun t3235 k1 =>
  (cond_ (! t3235.2.2.1) (cond_ (decide ((IntKind.wrap .i64 ((((List.length t3235.1) : Nat) : Int) - t3235.2.1)) < (8 : Int))) (k1 ((t3235.1, (t3235.2.1, (true, ()))).1, ((t3235.1, (t3235.2.1, (true, ()))).2.1, (true, ()))) (0, (0, (0, (0, (0, ()))))) (5 : Int)) (ref02_Num t3235 (1 : Int) false
  (fun t3236 n3237 => (ref02_Num (t3236.1, (t3236.2.1, (t3236.2.2.1, ()))) (1 : Int) false
  (fun t3238 n3239 => (ref02_Num (t3238.1, (t3238.2.1, (t3238.2.2.1, ()))) (1 : Int) false
  (fun t3240 n3241 => (ref02_Num (t3240.1, (t3240.2.1, (t3240.2.2.1, ()))) (1 : Int) false
  (fun t3242 n3243 => (ref02_Num (t3242.1, (t3242.2.1, (t3242.2.2.1, ()))) (4 : Int) true
  (fun t3244 n3245 => (ref08_Check (n3237, (n3239, (n3241, (n3243, (n3245, ())))))
  (fun n3267 => (cond_ (n3267 != (0 : Int)) (k1 (t3244.1, (t3244.2.1, (t3244.2.2.1, ()))) (0, (0, (0, (0, (0, ()))))) n3267) (k1 (t3244.1, (t3244.2.1, (t3244.2.2.1, ()))) (n3237, (n3239, (n3241, (n3243, (n3245, ()))))) (0 : Int)))))))))))))))) (k1 ((t3235.1, (t3235.2.1, (true, ()))).1, ((t3235.1, (t3235.2.1, (true, ()))).2.1, (true, ()))) (0, (0, (0, (0, (0, ()))))) (5 : Int)))
noncomputable def ref08_Get : T_ref08_Get := ref08_Get.body ref02_Num ref08_Check
def ref08_Get.p : FPat := fp 36 (pl (pd Ty6) pz) pz
def ref08_Get.g (F : T_ref08_Get) (v : ref08_Get.p.T) (k : KR) : Option Bool := F v.1.1 (fun y0 y1 y2 => k (.tup [(.d ⟨Ty6, y0⟩), (.d ⟨Ty8, y1⟩), (.d ⟨(.int .i64), y2⟩)]) [])
theorem ref08_Get.eq (F0 : T_ref02_Num) (F1 : T_ref08_Check) : ∀ v k, exF Try.f36 ref08_Get.p [⟨ref02_Num.p, ref02_Num.g F0⟩, ⟨ref08_Check.p, ref08_Check.g F1⟩] [0] [] v k = ref08_Get.g (ref08_Get.body F0 F1) v k := fun v k => by kernel_rfl
theorem ref08_Get.ok : okF 5 ref08_Get.p (ref08_Get.g ref08_Get) := fn2 (ref08_Get.eq ref02_Num ref08_Check) Try.func36 (by kernel_rfl) (.cons ref02_Num.ok (.cons ref08_Check.ok .nil)) [] (by kernel_rfl) .nil
/-- function 37: the loop in block 0 -/
abbrev T_ref15_GetRelocs_L0 : Type := Int → Int → Tc1 → Int → Bool → Tc0 → (Int → (List Int) → Int → Bool → Option Bool) → (Tc1 → Int → Bool → Tc0 → Option Bool) → Option Bool
noncomputable def ref15_GetRelocs_L0.body (ref15_GetRelocs_L0 : T_ref15_GetRelocs_L0) (ref13_Nums : T_ref13_Nums) : T_ref15_GetRelocs_L0 := fun n3401 n3402 t3403 n3404 b3405 ts3406 k1 k2 =>
  (cond_ (decide (n3402 < n3401)) (ref13_Nums t3403 [(1 : Int), (1 : Int), (1 : Int)]
  (fun t3407 ns3408 => (cond_ (t3407.1, (t3407.2.1, (t3407.2.2.1, ()))).2.2.1 (k1 (5 : Int) (t3407.1, (t3407.2.1, (t3407.2.2.1, ()))).1 (t3407.1, (t3407.2.1, (t3407.2.2.1, ()))).2.1 (t3407.1, (t3407.2.1, (t3407.2.2.1, ()))).2.2.1) (cond_ (true && (decide ((2 : Int) < (List.length ns3408 : Int)))) (cond_ (decide ((List.getD ns3408 (2 : Nat) (0 : Int)) > (1 : Int))) (k1 (3 : Int) (t3407.1, (t3407.2.1, (t3407.2.2.1, ()))).1 (t3407.1, (t3407.2.1, (t3407.2.2.1, ()))).2.1 (t3407.1, (t3407.2.1, (t3407.2.2.1, ()))).2.2.1) (cond_ (true && (decide ((0 : Int) < (List.length ns3408 : Int)))) (cond_ (true && (decide ((1 : Int) < (List.length ns3408 : Int)))) (cond_ (true && (decide ((2 : Int) < (List.length ns3408 : Int)))) (cond_ (Nat.ble (((List.length ts3406) + (List.length (((List.getD ns3408 (0 : Nat) (0 : Int)), ((List.getD ns3408 (1 : Nat) (0 : Int)), (((List.getD ns3408 (2 : Nat) (0 : Int)) == (1 : Int)), ()))) :: []))) * (24 : Nat)) (140737488355328 : Nat)) (ref15_GetRelocs_L0 n3401 (IntKind.wrap .i64 (n3402 + (1 : Int))) (t3407.1, (t3407.2.1, (t3407.2.2.1, ()))) n3404 b3405 (ts3406 ++ (((List.getD ns3408 (0 : Nat) (0 : Int)), ((List.getD ns3408 (1 : Nat) (0 : Int)), (((List.getD ns3408 (2 : Nat) (0 : Int)) == (1 : Int)), ()))) :: [])) k1 k2) none) none) none) none)) none)))) (k2 t3403 n3404 b3405 ts3406))
noncomputable def ref15_GetRelocs_L0 : Nat → T_ref15_GetRelocs_L0
  | 0 => fun _ _ _ _ _ _ _ _ => none
  | n + 1 => ref15_GetRelocs_L0.body (ref15_GetRelocs_L0 n) ref13_Nums
def ref15_GetRelocs_L0.p : LPat := lp 2 54 [1, 2, 5, 6, 7] (ps (pq [1, 0] 0 0) (ps (pq [1, 1] 0 0) (pl (pd (.int .i64)) (ps (pr [1, 2]) (pl (pd (.int .i64)) pz))))) (pl (po [1, 0] 38 3 (es Ty6 (pl eh pz))) (pl (po [1, 1] 38 3 (em (pl (pa (ps (pk 0) (pl (pd (.int .i64)) (pl (pd .bool) pz)))) pz))) (pl (po [1, 2] 60 3 (ed Ty4)) pz)))
def ref15_GetRelocs_L0.g (F : T_ref15_GetRelocs_L0) (v : ref15_GetRelocs_L0.p.T) (k : KE) : Option Bool := F v.1.1 v.1.2.1 v.2.1.1 v.2.2.1.1.1 v.2.2.1.1.2.1 v.2.2.2.1 (fun y0 y1 y2 y3 => k .ret ⟨fillS 54 [2, 3, 4] [(.ptr [1, 0] 0 0), .nils, (.d ⟨(.int .i64), y0⟩)], [([1, 0], ⟨38, 3, (.mix [(.agg [(.d ⟨Ty0, y1⟩), (.d ⟨(.int .i64), y2⟩), (.d ⟨.bool, y3⟩)])])⟩)], 2⟩) (fun y0 y1 y2 y3 => k (.exit 0) ⟨fillS 54 [1, 2, 6] [(.ptr [1, 0] 0 0), (.ptr [1, 1] 0 0), (.ref [1, 2])], [([1, 0], ⟨38, 3, (.data Ty6 [y0])⟩), ([1, 1], ⟨38, 3, (.mix [(.agg [.nils, (.d ⟨(.int .i64), y1⟩), (.d ⟨.bool, y2⟩)])])⟩), ([1, 2], ⟨60, 3, (.data Ty4 y3)⟩)], 2⟩)
theorem ref15_GetRelocs_L0.step (S : T_ref15_GetRelocs_L0) (F0 : T_ref13_Nums) : ∀ v k, exR 37 Try.f37 0 ref15_GetRelocs_L0.p [⟨ref13_Nums.p, ref13_Nums.g F0⟩] [] [] (ref15_GetRelocs_L0.g S) v k = ref15_GetRelocs_L0.g (ref15_GetRelocs_L0.body S F0) v k := fun v k => by kernel_rfl
theorem ref15_GetRelocs_L0.ok : okL 37 Try.f37 2 0 ref15_GetRelocs_L0.p (ref15_GetRelocs_L0.g (ref15_GetRelocs_L0 ROUNDS)) := loop2 (G := fun n => ref15_GetRelocs_L0.g (ref15_GetRelocs_L0 n)) (fun n => ref15_GetRelocs_L0.step (ref15_GetRelocs_L0 n) ref13_Nums) (.cons ref13_Nums.ok .nil) [] (by kernel_rfl) .nil (fun _ _ => rfl)
/-- function 37: sheerleg/sheerlegref15.GetRelocs -/
abbrev T_ref15_GetRelocs : Type := Tc1 → (Tc1 → Int → Tc0 → Option Bool) → Option Bool
noncomputable def ref15_GetRelocs.body (ref02_Num : T_ref02_Num) (ref15_GetRelocs_L0 : T_ref15_GetRelocs_L0) : T_ref15_GetRelocs := fun t3398 k1 =>
  (ref02_Num t3398 (1 : Int) false
  (fun t3399 n3400 => (ref15_GetRelocs_L0 n3400 (0 : Int) t3399 (0 : Int) false []
  (fun n3409 l3410 n3411 b3412 => (k1 (l3410, (n3411, (b3412, ()))) n3409 []))
  (fun t3413 n3414 b3415 ts3416 => (cond_ t3413.2.2.1 (k1 (t3413.1, (t3413.2.1, (t3413.2.2.1, ()))) (5 : Int) []) (k1 (t3413.1, (t3413.2.1, (t3413.2.2.1, ()))) (0 : Int) ts3416))))))
noncomputable def ref15_GetRelocs : T_ref15_GetRelocs := ref15_GetRelocs.body ref02_Num (ref15_GetRelocs_L0 ROUNDS)
def ref15_GetRelocs.p : FPat := fp 37 (pl (pd Ty6) pz) pz
def ref15_GetRelocs.g (F : T_ref15_GetRelocs) (v : ref15_GetRelocs.p.T) (k : KR) : Option Bool := F v.1.1 (fun y0 y1 y2 => k (.tup [(.d ⟨Ty6, y0⟩), (.ref [1, 0]), (.d ⟨(.int .i64), y1⟩)]) [([1, 0], ⟨60, 3, (.data Ty4 y2)⟩)])
theorem ref15_GetRelocs.eq (F0 : T_ref02_Num) (L0 : T_ref15_GetRelocs_L0) : ∀ v k, exF Try.f37 ref15_GetRelocs.p [⟨ref02_Num.p, ref02_Num.g F0⟩] [] [⟨0, ref15_GetRelocs_L0.p, ref15_GetRelocs_L0.g L0⟩] v k = ref15_GetRelocs.g (ref15_GetRelocs.body F0 L0) v k := fun v k => by kernel_rfl
theorem ref15_GetRelocs.ok : okF 3 ref15_GetRelocs.p (ref15_GetRelocs.g ref15_GetRelocs) := fn2 (ref15_GetRelocs.eq ref02_Num (ref15_GetRelocs_L0 ROUNDS)) Try.func37 (by kernel_rfl) (.cons ref02_Num.ok .nil) [0] (by kernel_rfl) (.cons ref15_GetRelocs_L0.ok .nil)
/-- function 11: the loop in block 0 -/
abbrev T_ref16_Get_L0 : Type := Int → Int → Tc1 → Int → Bool → Int → Int → Bool → Int → Int → Int → Int → Bool → Int → Int → Tc3 → (Int → (List Int) → Int → Bool → Tc4 → Option Bool) → (Tc1 → Int → Bool → Int → Int → Bool → Int → Int → Int → Int → Bool → Int → Int → Tc3 → Option Bool) → Option Bool
noncomputable def ref16_Get_L0.body (ref16_Get_L0 : T_ref16_Get_L0) (ref08_Get : T_ref08_Get) : T_ref16_Get_L0 := fun n3446 n3447 t3448 n3449 b3450 n3451 n3452 b3453 n3454 n3455 n3456 n3457 b3458 n3459 n3460 ts3461 k1 k2 =>
  (cond_ (decide (n3447 < n3446)) (ref08_Get t3448
  (fun t3462 t3463 n3464 => (cond_ (n3464 != (0 : Int)) (k1 n3464 (t3462.1, (t3462.2.1, (t3462.2.2.1, ()))).1 (t3462.1, (t3462.2.1, (t3462.2.2.1, ()))).2.1 (t3462.1, (t3462.2.1, (t3462.2.2.1, ()))).2.2.1 (0, ([], (0, (false, (0, (0, ([], ([], ([], ())))))))))) (cond_ (Nat.ble (((List.length ts3461) + (List.length ((t3463.1, (t3463.2.1, (t3463.2.2.1, (t3463.2.2.2.1, (t3463.2.2.2.2.1, ()))))) :: []))) * (40 : Nat)) (140737488355328 : Nat)) (ref16_Get_L0 n3446 (IntKind.wrap .i64 (n3447 + (1 : Int))) (t3462.1, (t3462.2.1, (t3462.2.2.1, ()))) n3449 b3450 n3451 n3452 b3453 n3454 n3455 n3456 n3457 b3458 n3459 n3460 (ts3461 ++ ((t3463.1, (t3463.2.1, (t3463.2.2.1, (t3463.2.2.2.1, (t3463.2.2.2.2.1, ()))))) :: [])) k1 k2) none)))) (k2 t3448 n3449 b3450 n3451 n3452 b3453 n3454 n3455 n3456 n3457 b3458 n3459 n3460 ts3461))
noncomputable def ref16_Get_L0 : Nat → T_ref16_Get_L0
  | 0 => fun _ _ _ _ _ _ _ _ _ _ _ _ _ _ _ _ _ _ => none
  | n + 1 => ref16_Get_L0.body (ref16_Get_L0 n) ref08_Get
def ref16_Get_L0.p : LPat := lp 2 67 [1, 2, 3, 5, 7, 8] (ps (pq [1, 0] 0 0) (ps (pq [1, 1] 0 0) (ps (pq [1, 2] 0 0) (ps (pq [1, 3] 0 0) (pl (pd (.int .i64)) (pl (pd (.int .i64)) pz)))))) (pl (po [1, 0] 38 3 (es Ty6 (pl eh pz))) (pl (po [1, 1] 38 3 (em (pl (pa (ps (pk 0) (pl (pd (.int .i64)) (pl (pd .bool) pz)))) pz))) (pl (po [1, 2] 27 9 (em (pl (pa (pl (pd (.int .i64)) (ps (pk 0) (pl (pd (.int .i64)) (pl (pd .bool) (pl (pd (.int .i64)) (pl (pd (.int .i64)) (ps (pk 0) (ps (pk 0) (ps (pk 0) pz)))))))))) pz))) (pl (po [1, 3] 27 9 (em (pl (pa (pl (pd (.int .i64)) (ps (pk 0) (pl (pd (.int .i64)) (pl (pd .bool) (pl (pd (.int .i64)) (pl (pd (.int .i64)) (ps (pk 0) (ps (pr [1, 4]) (ps (pk 0) pz)))))))))) pz))) (pl (po [1, 4] 57 5 (ed Ty8)) pz)))))
def ref16_Get_L0.g (F : T_ref16_Get_L0) (v : ref16_Get_L0.p.T) (k : KE) : Option Bool := F v.1.1 v.1.2.1 v.2.1.1 v.2.2.1.1.1 v.2.2.1.1.2.1 v.2.2.2.1.1.1 v.2.2.2.1.1.2.1 v.2.2.2.1.1.2.2.1 v.2.2.2.1.1.2.2.2.1 v.2.2.2.1.1.2.2.2.2.1 v.2.2.2.2.1.1.1 v.2.2.2.2.1.1.2.1 v.2.2.2.2.1.1.2.2.1 v.2.2.2.2.1.1.2.2.2.1 v.2.2.2.2.1.1.2.2.2.2.1 v.2.2.2.2.2.1 (fun y0 y1 y2 y3 y4 => k .ret ⟨fillS 67 [2, 3, 4] [(.ptr [1, 0] 0 0), (.ptr [1, 1] 0 0), (.d ⟨(.int .i64), y0⟩)], [([1, 0], ⟨38, 3, (.mix [(.agg [(.d ⟨Ty0, y1⟩), (.d ⟨(.int .i64), y2⟩), (.d ⟨.bool, y3⟩)])])⟩), ([1, 1], ⟨27, 9, (.data Ty10 [y4])⟩)], 2⟩) (fun y0 y1 y2 y3 y4 y5 y6 y7 y8 y9 y10 y11 y12 y13 => k (.exit 0) ⟨fillS 67 [1, 2, 3, 5] [(.ptr [1, 0] 0 0), (.ptr [1, 1] 0 0), (.ptr [1, 2] 0 0), (.ptr [1, 3] 0 0)], [([1, 0], ⟨38, 3, (.data Ty6 [y0])⟩), ([1, 1], ⟨38, 3, (.mix [(.agg [.nils, (.d ⟨(.int .i64), y1⟩), (.d ⟨.bool, y2⟩)])])⟩), ([1, 2], ⟨27, 9, (.mix [(.agg [(.d ⟨(.int .i64), y3⟩), .nils, (.d ⟨(.int .i64), y4⟩), (.d ⟨.bool, y5⟩), (.d ⟨(.int .i64), y6⟩), (.d ⟨(.int .i64), y7⟩), .nils, .nils, .nils])])⟩), ([1, 3], ⟨27, 9, (.mix [(.agg [(.d ⟨(.int .i64), y8⟩), .nils, (.d ⟨(.int .i64), y9⟩), (.d ⟨.bool, y10⟩), (.d ⟨(.int .i64), y11⟩), (.d ⟨(.int .i64), y12⟩), .nils, (.ref [1, 4]), .nils])])⟩), ([1, 4], ⟨57, 5, (.data Ty8 y13)⟩)], 2⟩)
theorem ref16_Get_L0.step (S : T_ref16_Get_L0) (F0 : T_ref08_Get) : ∀ v k, exR 11 Try.f11 0 ref16_Get_L0.p [⟨ref08_Get.p, ref08_Get.g F0⟩] [] [] (ref16_Get_L0.g S) v k = ref16_Get_L0.g (ref16_Get_L0.body S F0) v k := fun v k => by kernel_rfl
theorem ref16_Get_L0.ok : okL 11 Try.f11 5 0 ref16_Get_L0.p (ref16_Get_L0.g (ref16_Get_L0 ROUNDS)) := loop2 (G := fun n => ref16_Get_L0.g (ref16_Get_L0 n)) (fun n => ref16_Get_L0.step (ref16_Get_L0 n) ref08_Get) (.cons ref08_Get.ok .nil) [] (by kernel_rfl) .nil (fun _ _ => rfl)
/-- function 11: the loop in block 0 -/
abbrev T_ref16_Get_L0v1 : Type := Int → Int → Tc1 → Int → Bool → Int → Int → Bool → Int → Int → Int → Int → Bool → Int → Int → (List Int) → (List (Int × Int × Unit)) → Tc3 → (Int → (List Int) → Int → Bool → Tc4 → Option Bool) → (Tc1 → Int → Bool → Int → Int → Bool → Int → Int → Int → Int → Bool → Int → Int → (List Int) → (List (Int × Int × Unit)) → Tc3 → Option Bool) → Option Bool
noncomputable def ref16_Get_L0v1.body (ref16_Get_L0v1 : T_ref16_Get_L0v1) (ref08_Get : T_ref08_Get) : T_ref16_Get_L0v1 := fun n3498 n3499 t3500 n3501 b3502 n3503 n3504 b3505 n3506 n3507 n3508 n3509 b3510 n3511 n3512 ns3513 ts3514 ts3515 k1 k2 =>
  (cond_ (decide (n3499 < n3498)) (ref08_Get t3500
  (fun t3516 t3517 n3518 => (cond_ (n3518 != (0 : Int)) (k1 n3518 (t3516.1, (t3516.2.1, (t3516.2.2.1, ()))).1 (t3516.1, (t3516.2.1, (t3516.2.2.1, ()))).2.1 (t3516.1, (t3516.2.1, (t3516.2.2.1, ()))).2.2.1 (0, ([], (0, (false, (0, (0, ([], ([], ([], ())))))))))) (cond_ (Nat.ble (((List.length ts3515) + (List.length ((t3517.1, (t3517.2.1, (t3517.2.2.1, (t3517.2.2.2.1, (t3517.2.2.2.2.1, ()))))) :: []))) * (40 : Nat)) (140737488355328 : Nat)) (ref16_Get_L0v1 n3498 (IntKind.wrap .i64 (n3499 + (1 : Int))) (t3516.1, (t3516.2.1, (t3516.2.2.1, ()))) n3501 b3502 n3503 n3504 b3505 n3506 n3507 n3508 n3509 b3510 n3511 n3512 ns3513 ts3514 (ts3515 ++ ((t3517.1, (t3517.2.1, (t3517.2.2.1, (t3517.2.2.2.1, (t3517.2.2.2.2.1, ()))))) :: [])) k1 k2) none)))) (k2 t3500 n3501 b3502 n3503 n3504 b3505 n3506 n3507 n3508 n3509 b3510 n3511 n3512 ns3513 ts3514 ts3515))
noncomputable def ref16_Get_L0v1 : Nat → T_ref16_Get_L0v1
  | 0 => fun _ _ _ _ _ _ _ _ _ _ _ _ _ _ _ _ _ _ _ _ => none
  | n + 1 => ref16_Get_L0v1.body (ref16_Get_L0v1 n) ref08_Get
def ref16_Get_L0v1.p : LPat := lp 2 67 [1, 2, 3, 5, 7, 8] (ps (pq [1, 0] 0 0) (ps (pq [1, 1] 0 0) (ps (pq [1, 2] 0 0) (ps (pq [1, 3] 0 0) (pl (pd (.int .i64)) (pl (pd (.int .i64)) pz)))))) (pl (po [1, 0] 38 3 (es Ty6 (pl eh pz))) (pl (po [1, 1] 38 3 (em (pl (pa (ps (pk 0) (pl (pd (.int .i64)) (pl (pd .bool) pz)))) pz))) (pl (po [1, 2] 27 9 (em (pl (pa (pl (pd (.int .i64)) (ps (pk 0) (pl (pd (.int .i64)) (pl (pd .bool) (pl (pd (.int .i64)) (pl (pd (.int .i64)) (ps (pk 0) (ps (pk 0) (ps (pk 0) pz)))))))))) pz))) (pl (po [1, 3] 27 9 (em (pl (pa (pl (pd (.int .i64)) (ps (pr [1, 4]) (pl (pd (.int .i64)) (pl (pd .bool) (pl (pd (.int .i64)) (pl (pd (.int .i64)) (ps (pr [1, 5]) (ps (pr [1, 6]) (ps (pk 0) pz)))))))))) pz))) (pl (po [1, 4] 3 1 (ed (.int .i64))) (pl (po [1, 5] 55 2 (ed Ty3)) (pl (po [1, 6] 57 5 (ed Ty8)) pz)))))))
def ref16_Get_L0v1.g (F : T_ref16_Get_L0v1) (v : ref16_Get_L0v1.p.T) (k : KE) : Option Bool := F v.1.1 v.1.2.1 v.2.1.1 v.2.2.1.1.1 v.2.2.1.1.2.1 v.2.2.2.1.1.1 v.2.2.2.1.1.2.1 v.2.2.2.1.1.2.2.1 v.2.2.2.1.1.2.2.2.1 v.2.2.2.1.1.2.2.2.2.1 v.2.2.2.2.1.1.1 v.2.2.2.2.1.1.2.1 v.2.2.2.2.1.1.2.2.1 v.2.2.2.2.1.1.2.2.2.1 v.2.2.2.2.1.1.2.2.2.2.1 v.2.2.2.2.2.1 v.2.2.2.2.2.2.1 v.2.2.2.2.2.2.2.1 (fun y0 y1 y2 y3 y4 => k .ret ⟨fillS 67 [2, 3, 4] [(.ptr [1, 0] 0 0), (.ptr [1, 1] 0 0), (.d ⟨(.int .i64), y0⟩)], [([1, 0], ⟨38, 3, (.mix [(.agg [(.d ⟨Ty0, y1⟩), (.d ⟨(.int .i64), y2⟩), (.d ⟨.bool, y3⟩)])])⟩), ([1, 1], ⟨27, 9, (.data Ty10 [y4])⟩)], 2⟩) (fun y0 y1 y2 y3 y4 y5 y6 y7 y8 y9 y10 y11 y12 y13 y14 y15 => k (.exit 0) ⟨fillS 67 [1, 2, 3, 5] [(.ptr [1, 0] 0 0), (.ptr [1, 1] 0 0), (.ptr [1, 2] 0 0), (.ptr [1, 3] 0 0)], [([1, 0], ⟨38, 3, (.data Ty6 [y0])⟩), ([1, 1], ⟨38, 3, (.mix [(.agg [.nils, (.d ⟨(.int .i64), y1⟩), (.d ⟨.bool, y2⟩)])])⟩), ([1, 2], ⟨27, 9, (.mix [(.agg [(.d ⟨(.int .i64), y3⟩), .nils, (.d ⟨(.int .i64), y4⟩), (.d ⟨.bool, y5⟩), (.d ⟨(.int .i64), y6⟩), (.d ⟨(.int .i64), y7⟩), .nils, .nils, .nils])])⟩), ([1, 3], ⟨27, 9, (.mix [(.agg [(.d ⟨(.int .i64), y8⟩), (.ref [1, 4]), (.d ⟨(.int .i64), y9⟩), (.d ⟨.bool, y10⟩), (.d ⟨(.int .i64), y11⟩), (.d ⟨(.int .i64), y12⟩), (.ref [1, 5]), (.ref [1, 6]), .nils])])⟩), ([1, 4], ⟨3, 1, (.data (.int .i64) y13)⟩), ([1, 5], ⟨55, 2, (.data Ty3 y14)⟩), ([1, 6], ⟨57, 5, (.data Ty8 y15)⟩)], 2⟩)
theorem ref16_Get_L0v1.step (S : T_ref16_Get_L0v1) (F0 : T_ref08_Get) : ∀ v k, exR 11 Try.f11 0 ref16_Get_L0v1.p [⟨ref08_Get.p, ref08_Get.g F0⟩] [] [] (ref16_Get_L0v1.g S) v k = ref16_Get_L0v1.g (ref16_Get_L0v1.body S F0) v k := fun v k => by kernel_rfl
theorem ref16_Get_L0v1.ok : okL 11 Try.f11 5 0 ref16_Get_L0v1.p (ref16_Get_L0v1.g (ref16_Get_L0v1 ROUNDS)) := loop2 (G := fun n => ref16_Get_L0v1.g (ref16_Get_L0v1 n)) (fun n => ref16_Get_L0v1.step (ref16_Get_L0v1 n) ref08_Get) (.cons ref08_Get.ok .nil) [] (by kernel_rfl) .nil (fun _ _ => rfl)
/-- function 11: sheerleg/sheerlegref16.Get -/
abbrev T_ref16_Get : Type := Tc1 → (Tc1 → Tc4 → Int → Option Bool) → Option Bool
noncomputable def ref16_Get.body (ref16_head : T_ref16_head) (ref02_Num : T_ref02_Num) (ref15_GetRelocs : T_ref15_GetRelocs) (ref16_Get_L0 : T_ref16_Get_L0) (ref16_Get_L0v1 : T_ref16_Get_L0v1) : T_ref16_Get := fun t3436 k1 =>
  (ref16_head t3436
  (fun t3437 n3438 n3439 b3440 n3441 n3442 n3443 => (cond_ (n3443 != (0 : Int)) (k1 (t3437.1, (t3437.2.1, (t3437.2.2.1, ()))) (0, ([], (0, (false, (0, (0, ([], ([], ([], ()))))))))) n3443) (ref02_Num t3437 (1 : Int) false
  (fun t3444 n3445 => (ref16_Get_L0 n3445 (0 : Int) t3444 (0 : Int) false (0 : Int) (0 : Int) false (0 : Int) (0 : Int) n3438 n3439 b3440 n3441 n3442 []
  (fun n3465 l3466 n3467 b3468 t3469 => (k1 (l3466, (n3467, (b3468, ()))) t3469 n3465))
  (fun t3470 n3471 b3472 n3473 n3474 b3475 n3476 n3477 n3478 n3479 b3480 n3481 n3482 ts3483 => (ref15_GetRelocs t3470
  (fun t3484 n3485 ts3486 => (cond_ (n3485 != (0 : Int)) (k1 (t3484.1, (t3484.2.1, (t3484.2.2.1, ()))) (0, ([], (0, (false, (0, (0, ([], ([], ([], ()))))))))) n3485) (k1 (t3484.1, (t3484.2.1, (t3484.2.2.1, ()))) (n3478, ([], (n3479, (b3480, (n3481, (n3482, ([], (ts3483, (ts3486, ()))))))))) (0 : Int)))))))))))
  (fun t3487 n3488 n3489 b3490 n3491 n3492 n3493 ns3494 ts3495 => (cond_ (n3493 != (0 : Int)) (k1 (t3487.1, (t3487.2.1, (t3487.2.2.1, ()))) (0, ([], (0, (false, (0, (0, ([], ([], ([], ()))))))))) n3493) (ref02_Num t3487 (1 : Int) false
  (fun t3496 n3497 => (ref16_Get_L0v1 n3497 (0 : Int) t3496 (0 : Int) false (0 : Int) (0 : Int) false (0 : Int) (0 : Int) n3488 n3489 b3490 n3491 n3492 ns3494 ts3495 []
  (fun n3519 l3520 n3521 b3522 t3523 => (k1 (l3520, (n3521, (b3522, ()))) t3523 n3519))
  (fun t3524 n3525 b3526 n3527 n3528 b3529 n3530 n3531 n3532 n3533 b3534 n3535 n3536 ns3537 ts3538 ts3539 => (ref15_GetRelocs t3524
  (fun t3540 n3541 ts3542 => (cond_ (n3541 != (0 : Int)) (k1 (t3540.1, (t3540.2.1, (t3540.2.2.1, ()))) (0, ([], (0, (false, (0, (0, ([], ([], ([], ()))))))))) n3541) (k1 (t3540.1, (t3540.2.1, (t3540.2.2.1, ()))) (n3532, (ns3537, (n3533, (b3534, (n3535, (n3536, (ts3538, (ts3539, (ts3542, ()))))))))) (0 : Int))))))))))))
noncomputable def ref16_Get : T_ref16_Get := ref16_Get.body ref16_head ref02_Num ref15_GetRelocs (ref16_Get_L0 ROUNDS) (ref16_Get_L0v1 ROUNDS)
def ref16_Get.p : FPat := fp 11 (pl (pd Ty6) pz) pz
def ref16_Get.g (F : T_ref16_Get) (v : ref16_Get.p.T) (k : KR) : Option Bool := F v.1.1 (fun y0 y1 y2 => k (.tup [(.d ⟨Ty6, y0⟩), (.d ⟨Ty10, y1⟩), (.d ⟨(.int .i64), y2⟩)]) [])
theorem ref16_Get.eq (F0 : T_ref16_head) (F1 : T_ref02_Num) (F2 : T_ref15_GetRelocs) (L0 : T_ref16_Get_L0) (L1 : T_ref16_Get_L0v1) : ∀ v k, exF Try.f11 ref16_Get.p [⟨ref16_head.p, ref16_head.g F0⟩, ⟨ref02_Num.p, ref02_Num.g F1⟩, ⟨ref15_GetRelocs.p, ref15_GetRelocs.g F2⟩] [] [⟨0, ref16_Get_L0.p, ref16_Get_L0.g L0⟩, ⟨0, ref16_Get_L0v1.p, ref16_Get_L0v1.g L1⟩] v k = ref16_Get.g (ref16_Get.body F0 F1 F2 L0 L1) v k := fun v k => by kernel_rfl
theorem ref16_Get.ok : okF 6 ref16_Get.p (ref16_Get.g ref16_Get) := fn2 (ref16_Get.eq ref16_head ref02_Num ref15_GetRelocs (ref16_Get_L0 ROUNDS) (ref16_Get_L0v1 ROUNDS)) Try.func11 (by kernel_rfl) (.cons ref16_head.ok (.cons ref02_Num.ok (.cons ref15_GetRelocs.ok .nil))) [0] (by kernel_rfl) (.cons ref16_Get_L0.ok (.cons ref16_Get_L0v1.ok .nil))
/-- function 38: the loop in block 0 -/
abbrev T_ref01_Ints_L0 : Type := (List Int) → (List Int) → Int → (Bool → Option Bool) → (Option Bool) → Option Bool
noncomputable def ref01_Ints_L0.body (ref01_Ints_L0 : T_ref01_Ints_L0) : T_ref01_Ints_L0 := fun ns3550 ns3551 n3552 k1 k2 =>
  (cond_ (decide (n3552 < (List.length ns3550 : Int))) (cond_ ((decide ((0 : Int) ≤ n3552)) && (decide (n3552 < (List.length ns3550 : Int)))) (cond_ ((decide ((0 : Int) ≤ n3552)) && (decide (n3552 < (List.length ns3551 : Int)))) (cond_ ((List.getD ns3550 (Int.toNat n3552) (0 : Int)) != (List.getD ns3551 (Int.toNat n3552) (0 : Int))) (k1 false) (ref01_Ints_L0 ns3550 ns3551 (IntKind.wrap .i64 (n3552 + (1 : Int))) k1 k2)) none) none) (k2))
noncomputable def ref01_Ints_L0 : Nat → T_ref01_Ints_L0
  | 0 => fun _ _ _ _ _ => none
  | n + 1 => ref01_Ints_L0.body (ref01_Ints_L0 n)
def ref01_Ints_L0.p : LPat := lp 2 26 [0, 1, 5] (pl (pb 0 3 (.int .i64)) (pl (pb 0 3 (.int .i64)) (pl (pd (.int .i64)) pz))) pz
def ref01_Ints_L0.g (F : T_ref01_Ints_L0) (v : ref01_Ints_L0.p.T) (k : KE) : Option Bool := F v.1.1 v.1.2.1 v.1.2.2.1 (fun y0 => k .ret ⟨fillS 26 [4] [(.d ⟨.bool, y0⟩)], [], 2⟩) (k (.exit 0) ⟨fillS 26 [] [], [], 2⟩)
theorem ref01_Ints_L0.step (S : T_ref01_Ints_L0) : ∀ v k, exR 38 Try.f38 0 ref01_Ints_L0.p [] [] [] (ref01_Ints_L0.g S) v k = ref01_Ints_L0.g (ref01_Ints_L0.body S) v k := fun v k => by kernel_rfl
theorem ref01_Ints_L0.ok : okL 38 Try.f38 0 0 ref01_Ints_L0.p (ref01_Ints_L0.g (ref01_Ints_L0 ROUNDS)) := loop2 (G := fun n => ref01_Ints_L0.g (ref01_Ints_L0 n)) (fun n => ref01_Ints_L0.step (ref01_Ints_L0 n)) .nil [] (by kernel_rfl) .nil (fun _ _ => rfl)
/-- function 38: sheerleg/sheerlegref01.Ints -/
abbrev T_ref01_Ints : Type := (List Int) → (List Int) → (Bool → Option Bool) → Option Bool
noncomputable def ref01_Ints.body (ref01_Ints_L0 : T_ref01_Ints_L0) : T_ref01_Ints := fun ns3548 ns3549 k1 =>
  (cond_ ((List.length ns3548 : Int) != (List.length ns3549 : Int)) (k1 false) (ref01_Ints_L0 ns3548 ns3549 (0 : Int)
  (fun b3553 => (k1 b3553))
  (k1 true)))
noncomputable def ref01_Ints : T_ref01_Ints := ref01_Ints.body (ref01_Ints_L0 ROUNDS)
def ref01_Ints.p : FPat := fp 38 (pl (pb 0 3 (.int .i64)) (pl (pb 0 3 (.int .i64)) pz)) pz
def ref01_Ints.g (F : T_ref01_Ints) (v : ref01_Ints.p.T) (k : KR) : Option Bool := F v.1.1 v.1.2.1 (fun y0 => k (.d ⟨.bool, y0⟩) [])
theorem ref01_Ints.eq (L0 : T_ref01_Ints_L0) : ∀ v k, exF Try.f38 ref01_Ints.p [] [] [⟨0, ref01_Ints_L0.p, ref01_Ints_L0.g L0⟩] v k = ref01_Ints.g (ref01_Ints.body L0) v k := fun v k => by kernel_rfl
theorem ref01_Ints.ok : okF 1 ref01_Ints.p (ref01_Ints.g ref01_Ints) := fn2 (ref01_Ints.eq (ref01_Ints_L0 ROUNDS)) Try.func38 (by kernel_rfl) .nil [0] (by kernel_rfl) (.cons ref01_Ints_L0.ok .nil)
/-- function 39: the loop in block 0 -/
abbrev T_ref15_SameRelocs_L0 : Type := Tc0 → Tc0 → Int → (Bool → Option Bool) → (Option Bool) → Option Bool
noncomputable def ref15_SameRelocs_L0.body (ref15_SameRelocs_L0 : T_ref15_SameRelocs_L0) : T_ref15_SameRelocs_L0 := fun ts3557 ts3558 n3559 k1 k2 =>
  (cond_ (decide (n3559 < (List.length ts3557 : Int))) (cond_ ((decide ((0 : Int) ≤ n3559)) && (decide (n3559 < (List.length ts3557 : Int)))) (cond_ ((decide ((0 : Int) ≤ n3559)) && (decide (n3559 < (List.length ts3558 : Int)))) (cond_ (! (((List.getD ts3557 (Int.toNat n3559) (0, (0, (false, ())))).1 == (List.getD ts3558 (Int.toNat n3559) (0, (0, (false, ())))).1) && (((List.getD ts3557 (Int.toNat n3559) (0, (0, (false, ())))).2.1 == (List.getD ts3558 (Int.toNat n3559) (0, (0, (false, ())))).2.1) && (((List.getD ts3557 (Int.toNat n3559) (0, (0, (false, ())))).2.2.1 == (List.getD ts3558 (Int.toNat n3559) (0, (0, (false, ())))).2.2.1) && true)))) (k1 false) (ref15_SameRelocs_L0 ts3557 ts3558 (IntKind.wrap .i64 (n3559 + (1 : Int))) k1 k2)) none) none) (k2))
noncomputable def ref15_SameRelocs_L0 : Nat → T_ref15_SameRelocs_L0
  | 0 => fun _ _ _ _ _ => none
  | n + 1 => ref15_SameRelocs_L0.body (ref15_SameRelocs_L0 n)
def ref15_SameRelocs_L0.p : LPat := lp 2 26 [0, 1, 5] (pl (pb 0 60 Ty4) (pl (pb 0 60 Ty4) (pl (pd (.int .i64)) pz))) pz
def ref15_SameRelocs_L0.g (F : T_ref15_SameRelocs_L0) (v : ref15_SameRelocs_L0.p.T) (k : KE) : Option Bool := F v.1.1 v.1.2.1 v.1.2.2.1 (fun y0 => k .ret ⟨fillS 26 [4] [(.d ⟨.bool, y0⟩)], [], 2⟩) (k (.exit 0) ⟨fillS 26 [] [], [], 2⟩)
theorem ref15_SameRelocs_L0.step (S : T_ref15_SameRelocs_L0) : ∀ v k, exR 39 Try.f39 0 ref15_SameRelocs_L0.p [] [] [] (ref15_SameRelocs_L0.g S) v k = ref15_SameRelocs_L0.g (ref15_SameRelocs_L0.body S) v k := fun v k => by kernel_rfl
theorem ref15_SameRelocs_L0.ok : okL 39 Try.f39 0 0 ref15_SameRelocs_L0.p (ref15_SameRelocs_L0.g (ref15_SameRelocs_L0 ROUNDS)) := loop2 (G := fun n => ref15_SameRelocs_L0.g (ref15_SameRelocs_L0 n)) (fun n => ref15_SameRelocs_L0.step (ref15_SameRelocs_L0 n)) .nil [] (by kernel_rfl) .nil (fun _ _ => rfl)
/-- function 39: sheerleg/sheerlegref15.SameRelocs -/
abbrev T_ref15_SameRelocs : Type := Tc0 → Tc0 → (Bool → Option Bool) → Option Bool
noncomputable def ref15_SameRelocs.body (ref15_SameRelocs_L0 : T_ref15_SameRelocs_L0) : T_ref15_SameRelocs := fun ts3555 ts3556 k1 =>
  (cond_ ((List.length ts3555 : Int) != (List.length ts3556 : Int)) (k1 false) (ref15_SameRelocs_L0 ts3555 ts3556 (0 : Int)
  (fun b3560 => (k1 b3560))
  (k1 true)))
noncomputable def ref15_SameRelocs : T_ref15_SameRelocs := ref15_SameRelocs.body (ref15_SameRelocs_L0 ROUNDS)
def ref15_SameRelocs.p : FPat := fp 39 (pl (pb 0 60 Ty4) (pl (pb 0 60 Ty4) pz)) pz
def ref15_SameRelocs.g (F : T_ref15_SameRelocs) (v : ref15_SameRelocs.p.T) (k : KR) : Option Bool := F v.1.1 v.1.2.1 (fun y0 => k (.d ⟨.bool, y0⟩) [])
theorem ref15_SameRelocs.eq (L0 : T_ref15_SameRelocs_L0) : ∀ v k, exF Try.f39 ref15_SameRelocs.p [] [] [⟨0, ref15_SameRelocs_L0.p, ref15_SameRelocs_L0.g L0⟩] v k = ref15_SameRelocs.g (ref15_SameRelocs.body L0) v k := fun v k => by kernel_rfl
theorem ref15_SameRelocs.ok : okF 1 ref15_SameRelocs.p (ref15_SameRelocs.g ref15_SameRelocs) := fn2 (ref15_SameRelocs.eq (ref15_SameRelocs_L0 ROUNDS)) Try.func39 (by kernel_rfl) .nil [0] (by kernel_rfl) (.cons ref15_SameRelocs_L0.ok .nil)
/-- function 12: the loop in block 0 -/
abbrev T_ref16_Same_L0 : Type := Int → Tc4 → Tc4 → (Bool → Option Bool) → (Tc4 → Tc4 → Option Bool) → Option Bool
noncomputable def ref16_Same_L0.body (ref16_Same_L0 : T_ref16_Same_L0) : T_ref16_Same_L0 := fun n3562 t3563 t3564 k1 k2 =>
  (cond_ (decide (n3562 < (((List.length t3563.2.2.2.2.2.2.1) : Nat) : Int))) (cond_ ((decide ((0 : Int) ≤ n3562)) && (decide (n3562 < (((List.length t3563.2.2.2.2.2.2.1) : Nat) : Int)))) (cond_ ((decide ((0 : Int) ≤ n3562)) && (decide (n3562 < (((List.length t3564.2.2.2.2.2.2.1) : Nat) : Int)))) (cond_ (! (((List.getD t3563.2.2.2.2.2.2.1 (Int.toNat n3562) (0, (0, ()))).1 == (List.getD t3564.2.2.2.2.2.2.1 (Int.toNat n3562) (0, (0, ()))).1) && (((List.getD t3563.2.2.2.2.2.2.1 (Int.toNat n3562) (0, (0, ()))).2.1 == (List.getD t3564.2.2.2.2.2.2.1 (Int.toNat n3562) (0, (0, ()))).2.1) && true))) (k1 false) (ref16_Same_L0 (IntKind.wrap .i64 (n3562 + (1 : Int))) t3563 t3564 k1 k2)) none) none) (k2 t3563 t3564))
noncomputable def ref16_Same_L0 : Nat → T_ref16_Same_L0
  | 0 => fun _ _ _ _ _ => none
  | n + 1 => ref16_Same_L0.body (ref16_Same_L0 n)
def ref16_Same_L0.p : LPat := lp 2 110 [2, 3, 5] (ps (pq [1, 0] 0 0) (ps (pq [1, 1] 0 0) (pl (pd (.int .i64)) pz))) (pl (po [1, 0] 27 9 (es Ty10 (pl eh pz))) (pl (po [1, 1] 27 9 (es Ty10 (pl eh pz))) pz))
def ref16_Same_L0.g (F : T_ref16_Same_L0) (v : ref16_Same_L0.p.T) (k : KE) : Option Bool := F v.1.1 v.2.1.1 v.2.2.1.1 (fun y0 => k .ret ⟨fillS 110 [4] [(.d ⟨.bool, y0⟩)], [], 2⟩) (fun y0 y1 => k (.exit 0) ⟨fillS 110 [2, 3] [(.ptr [1, 0] 0 0), (.ptr [1, 1] 0 0)], [([1, 0], ⟨27, 9, (.data Ty10 [y0])⟩), ([1, 1], ⟨27, 9, (.data Ty10 [y1])⟩)], 2⟩)
theorem ref16_Same_L0.step (S : T_ref16_Same_L0) : ∀ v k, exR 12 Try.f12 0 ref16_Same_L0.p [] [] [] (ref16_Same_L0.g S) v k = ref16_Same_L0.g (ref16_Same_L0.body S) v k := fun v k => by kernel_rfl
theorem ref16_Same_L0.ok : okL 12 Try.f12 0 0 ref16_Same_L0.p (ref16_Same_L0.g (ref16_Same_L0 ROUNDS)) := loop2 (G := fun n => ref16_Same_L0.g (ref16_Same_L0 n)) (fun n => ref16_Same_L0.step (ref16_Same_L0 n)) .nil [] (by kernel_rfl) .nil (fun _ _ => rfl)
/-- function 12: the loop in block 2 -/
abbrev T_ref16_Same_L2 : Type := Int → Tc4 → Tc4 → (Bool → Option Bool) → (Option Bool) → Option Bool
noncomputable def ref16_Same_L2.body (ref16_Same_L2 : T_ref16_Same_L2) : T_ref16_Same_L2 := fun n3568 t3569 t3570 k1 k2 =>
  (cond_ (decide (n3568 < (((List.length t3569.2.2.2.2.2.2.2.1) : Nat) : Int))) (cond_ ((decide ((0 : Int) ≤ n3568)) && (decide (n3568 < (((List.length t3569.2.2.2.2.2.2.2.1) : Nat) : Int)))) (cond_ ((decide ((0 : Int) ≤ n3568)) && (decide (n3568 < (((List.length t3570.2.2.2.2.2.2.2.1) : Nat) : Int)))) (cond_ (! (((List.getD t3569.2.2.2.2.2.2.2.1 (Int.toNat n3568) (0, (0, (0, (0, (0, ())))))).1 == (List.getD t3570.2.2.2.2.2.2.2.1 (Int.toNat n3568) (0, (0, (0, (0, (0, ())))))).1) && (((List.getD t3569.2.2.2.2.2.2.2.1 (Int.toNat n3568) (0, (0, (0, (0, (0, ())))))).2.1 == (List.getD t3570.2.2.2.2.2.2.2.1 (Int.toNat n3568) (0, (0, (0, (0, (0, ())))))).2.1) && (((List.getD t3569.2.2.2.2.2.2.2.1 (Int.toNat n3568) (0, (0, (0, (0, (0, ())))))).2.2.1 == (List.getD t3570.2.2.2.2.2.2.2.1 (Int.toNat n3568) (0, (0, (0, (0, (0, ())))))).2.2.1) && (((List.getD t3569.2.2.2.2.2.2.2.1 (Int.toNat n3568) (0, (0, (0, (0, (0, ())))))).2.2.2.1 == (List.getD t3570.2.2.2.2.2.2.2.1 (Int.toNat n3568) (0, (0, (0, (0, (0, ())))))).2.2.2.1) && (((List.getD t3569.2.2.2.2.2.2.2.1 (Int.toNat n3568) (0, (0, (0, (0, (0, ())))))).2.2.2.2.1 == (List.getD t3570.2.2.2.2.2.2.2.1 (Int.toNat n3568) (0, (0, (0, (0, (0, ())))))).2.2.2.2.1) && true)))))) (k1 false) (ref16_Same_L2 (IntKind.wrap .i64 (n3568 + (1 : Int))) t3569 t3570 k1 k2)) none) none) (k2))
noncomputable def ref16_Same_L2 : Nat → T_ref16_Same_L2
  | 0 => fun _ _ _ _ _ => none
  | n + 1 => ref16_Same_L2.body (ref16_Same_L2 n)
def ref16_Same_L2.p : LPat := lp 2 110 [2, 3, 6] (ps (pq [1, 0] 0 0) (ps (pq [1, 1] 0 0) (pl (pd (.int .i64)) pz))) (pl (po [1, 0] 27 9 (es Ty10 (pl eh pz))) (pl (po [1, 1] 27 9 (es Ty10 (pl eh pz))) pz))
def ref16_Same_L2.g (F : T_ref16_Same_L2) (v : ref16_Same_L2.p.T) (k : KE) : Option Bool := F v.1.1 v.2.1.1 v.2.2.1.1 (fun y0 => k .ret ⟨fillS 110 [4] [(.d ⟨.bool, y0⟩)], [], 2⟩) (k (.exit 2) ⟨fillS 110 [] [], [], 2⟩)
theorem ref16_Same_L2.step (S : T_ref16_Same_L2) : ∀ v k, exR 12 Try.f12 2 ref16_Same_L2.p [] [] [] (ref16_Same_L2.g S) v k = ref16_Same_L2.g (ref16_Same_L2.body S) v k := fun v k => by kernel_rfl
theorem ref16_Same_L2.ok : okL 12 Try.f12 0 2 ref16_Same_L2.p (ref16_Same_L2.g (ref16_Same_L2 ROUNDS)) := loop2 (G := fun n => ref16_Same_L2.g (ref16_Same_L2 n)) (fun n => ref16_Same_L2.step (ref16_Same_L2 n)) .nil [] (by kernel_rfl) .nil (fun _ _ => rfl)
/-- function 12: sheerleg/sheerlegref16.Same -/
abbrev T_ref16_Same : Type := Tc4 → Tc4 → (Bool → Option Bool) → Option Bool
noncomputable def ref16_Same.body (ref01_Ints : T_ref01_Ints) (ref15_SameRelocs : T_ref15_SameRelocs) (ref16_Same_L0 : T_ref16_Same_L0) (ref16_Same_L2 : T_ref16_Same_L2) : T_ref16_Same := fun t3546 t3547 k1 =>
  (cond_ (! (t3546.1 != t3547.1)) (ref01_Ints t3546.2.1 t3547.2.1
  (fun b3554 => (cond_ (! (! b3554)) (cond_ (! (t3546.2.2.1 != t3547.2.2.1)) (cond_ (! (! (t3546.2.2.2.1 == t3547.2.2.2.1))) (cond_ (! (t3546.2.2.2.2.1 != t3547.2.2.2.2.1)) (cond_ (! (t3546.2.2.2.2.2.1 != t3547.2.2.2.2.2.1)) (cond_ (! ((((List.length t3546.2.2.2.2.2.2.1) : Nat) : Int) != (((List.length t3547.2.2.2.2.2.2.1) : Nat) : Int))) (cond_ (! ((((List.length t3546.2.2.2.2.2.2.2.1) : Nat) : Int) != (((List.length t3547.2.2.2.2.2.2.2.1) : Nat) : Int))) (ref15_SameRelocs t3546.2.2.2.2.2.2.2.2.1 t3547.2.2.2.2.2.2.2.2.1
  (fun b3561 => (cond_ (! b3561) (k1 false) (ref16_Same_L0 (0 : Int) t3546 t3547
  (fun b3565 => (k1 b3565))
  (fun t3566 t3567 => (ref16_Same_L2 (0 : Int) t3566 t3567
  (fun b3571 => (k1 b3571))
  (k1 true))))))) (k1 false)) (k1 false)) (k1 false)) (k1 false)) (k1 false)) (k1 false)) (k1 false)))) (k1 false))
noncomputable def ref16_Same : T_ref16_Same := ref16_Same.body ref01_Ints ref15_SameRelocs (ref16_Same_L0 ROUNDS) (ref16_Same_L2 ROUNDS)
def ref16_Same.p : FPat := fp 12 (pl (pd Ty10) (pl (pd Ty10) pz)) pz
def ref16_Same.g (F : T_ref16_Same) (v : ref16_Same.p.T) (k : KR) : Option Bool := F v.1.1 v.1.2.1 (fun y0 => k (.d ⟨.bool, y0⟩) [])
theorem ref16_Same.eq (F0 : T_ref01_Ints) (F1 : T_ref15_SameRelocs) (L0 : T_ref16_Same_L0) (L1 : T_ref16_Same_L2) : ∀ v k, exF Try.f12 ref16_Same.p [⟨ref01_Ints.p, ref01_Ints.g F0⟩, ⟨ref15_SameRelocs.p, ref15_SameRelocs.g F1⟩] [] [⟨0, ref16_Same_L0.p, ref16_Same_L0.g L0⟩, ⟨2, ref16_Same_L2.p, ref16_Same_L2.g L1⟩] v k = ref16_Same.g (ref16_Same.body F0 F1 L0 L1) v k := fun v k => by kernel_rfl
theorem ref16_Same.ok : okF 2 ref16_Same.p (ref16_Same.g ref16_Same) := fn2 (ref16_Same.eq ref01_Ints ref15_SameRelocs (ref16_Same_L0 ROUNDS) (ref16_Same_L2 ROUNDS)) Try.func12 (by kernel_rfl) (.cons ref01_Ints.ok (.cons ref15_SameRelocs.ok .nil)) [0, 2] (by kernel_rfl) (.cons ref16_Same_L0.ok (.cons ref16_Same_L2.ok .nil))
/-- function 13: (*sheerleg/octet.Reader).At -/
abbrev T_octet_Reader_At : Type := Int → Bool → Bool → (List Int) → (Int → Int → Bool → Bool → (List Int) → Option Bool) → Option Bool
noncomputable def octet_Reader_At.body : T_octet_Reader_At := fun n3573 b3574 b3575 ns3576 k1 =>
  (k1 n3573 n3573 b3574 b3575 ns3576)
noncomputable def octet_Reader_At : T_octet_Reader_At := octet_Reader_At.body
def octet_Reader_At.p : FPat := fp 13 (ps (pq [0, 0] 0 0) pz) (pl (po [0, 0] 64 4 (em (pl (pa (ps (pr [0, 1]) (pl (pd (.int .i64)) (pl (pd .bool) (pl (pd .bool) pz))))) pz))) (pl (po [0, 1] 5 1 (ed (.int .u8))) pz))
def octet_Reader_At.g (F : T_octet_Reader_At) (v : octet_Reader_At.p.T) (k : KR) : Option Bool := F v.2.1.1.1 v.2.1.1.2.1 v.2.1.1.2.2.1 v.2.2.1 (fun y0 y1 y2 y3 y4 => k (.d ⟨(.int .i64), y0⟩) [([0, 0], ⟨64, 4, (.mix [(.agg [(.ref [0, 1]), (.d ⟨(.int .i64), y1⟩), (.d ⟨.bool, y2⟩), (.d ⟨.bool, y3⟩)])])⟩), ([0, 1], ⟨5, 1, (.data (.int .u8) y4)⟩)])
theorem octet_Reader_At.eq : ∀ v k, exF Try.f13 octet_Reader_At.p [] [] [] v k = octet_Reader_At.g (octet_Reader_At.body) v k := fun v k => by kernel_rfl
theorem octet_Reader_At.ok : okF 1 octet_Reader_At.p (octet_Reader_At.g octet_Reader_At) := fn2 (octet_Reader_At.eq) Try.func13 (by kernel_rfl) .nil [] (by kernel_rfl) .nil
/-- function 48: (*sheerleg/octet.Reader).Bad -/
abbrev T_octet_Reader_Badv1 : Type := (Bool → Option Bool) → Option Bool
noncomputable def octet_Reader_Badv1.body : T_octet_Reader_Badv1 := fun k1 =>
  (k1 true)
noncomputable def octet_Reader_Badv1 : T_octet_Reader_Badv1 := octet_Reader_Badv1.body
def octet_Reader_Badv1.p : FPat := fp 48 (ps (pk 1) pz) pz
def octet_Reader_Badv1.g (F : T_octet_Reader_Badv1) (v : octet_Reader_Badv1.p.T) (k : KR) : Option Bool := F (fun y0 => k (.d ⟨.bool, y0⟩) [])
theorem octet_Reader_Badv1.eq : ∀ v k, exF Try.f48 octet_Reader_Badv1.p [] [] [] v k = octet_Reader_Badv1.g (octet_Reader_Badv1.body) v k := fun v k => by kernel_rfl
theorem octet_Reader_Badv1.ok : okF 1 octet_Reader_Badv1.p (octet_Reader_Badv1.g octet_Reader_Badv1) := fn2 (octet_Reader_Badv1.eq) Try.func48 (by kernel_rfl) .nil [] (by kernel_rfl) .nil
/-- function 49: (*sheerleg/octet.Reader).Left -/
abbrev T_octet_Reader_Leftv1 : Type := (Int → Option Bool) → Option Bool
noncomputable def octet_Reader_Leftv1.body : T_octet_Reader_Leftv1 := fun k1 =>
  (k1 (0 : Int))
noncomputable def octet_Reader_Leftv1 : T_octet_Reader_Leftv1 := octet_Reader_Leftv1.body
def octet_Reader_Leftv1.p : FPat := fp 49 (ps (pk 1) pz) pz
def octet_Reader_Leftv1.g (F : T_octet_Reader_Leftv1) (v : octet_Reader_Leftv1.p.T) (k : KR) : Option Bool := F (fun y0 => k (.d ⟨(.int .i64), y0⟩) [])
theorem octet_Reader_Leftv1.eq : ∀ v k, exF Try.f49 octet_Reader_Leftv1.p [] [] [] v k = octet_Reader_Leftv1.g (octet_Reader_Leftv1.body) v k := fun v k => by kernel_rfl
theorem octet_Reader_Leftv1.ok : okF 1 octet_Reader_Leftv1.p (octet_Reader_Leftv1.g octet_Reader_Leftv1) := fn2 (octet_Reader_Leftv1.eq) Try.func49 (by kernel_rfl) .nil [] (by kernel_rfl) .nil
/-- function 73: (*sheerleg/octet.Reader).spoil -/
abbrev T_octet_Reader_spoilv1 : Type := (Option Bool) → Option Bool
noncomputable def octet_Reader_spoilv1.body : T_octet_Reader_spoilv1 := fun k1 =>
  (k1)
noncomputable def octet_Reader_spoilv1 : T_octet_Reader_spoilv1 := octet_Reader_spoilv1.body
def octet_Reader_spoilv1.p : FPat := fp 73 (ps (pk 1) pz) pz
def octet_Reader_spoilv1.g (F : T_octet_Reader_spoilv1) (v : octet_Reader_spoilv1.p.T) (k : KR) : Option Bool := F (k (.tup []) [])
theorem octet_Reader_spoilv1.eq : ∀ v k, exF Try.f73 octet_Reader_spoilv1.p [] [] [] v k = octet_Reader_spoilv1.g (octet_Reader_spoilv1.body) v k := fun v k => by kernel_rfl
theorem octet_Reader_spoilv1.ok : okF 1 octet_Reader_spoilv1.p (octet_Reader_spoilv1.g octet_Reader_spoilv1) := fn2 (octet_Reader_spoilv1.eq) Try.func73 (by kernel_rfl) .nil [] (by kernel_rfl) .nil
/-- function 63: (*sheerleg/octet.Reader).take -/
abbrev T_octet_Reader_takev1 : Type := Int → ((List Int) → Option Bool) → Option Bool
noncomputable def octet_Reader_takev1.body (octet_Reader_Badv1 : T_octet_Reader_Badv1) (octet_Reader_Leftv1 : T_octet_Reader_Leftv1) (octet_Reader_spoilv1 : T_octet_Reader_spoilv1) : T_octet_Reader_takev1 := fun n3586 k1 =>
  (octet_Reader_Badv1
  (fun b3587 => (cond_ (! b3587) (cond_ (! (decide (n3586 < (0 : Int)))) (octet_Reader_Leftv1
  (fun n3588 => (cond_ (decide (n3586 > n3588)) (octet_Reader_spoilv1
  (k1 [])) none))) (octet_Reader_spoilv1
  (k1 []))) (octet_Reader_spoilv1
  (k1 [])))))
noncomputable def octet_Reader_takev1 : T_octet_Reader_takev1 := octet_Reader_takev1.body octet_Reader_Badv1 octet_Reader_Leftv1 octet_Reader_spoilv1
def octet_Reader_takev1.p : FPat := fp 63 (ps (pk 1) (pl (pd (.int .i64)) pz)) pz
def octet_Reader_takev1.g (F : T_octet_Reader_takev1) (v : octet_Reader_takev1.p.T) (k : KR) : Option Bool := F v.1.1 (fun y0 => k (.ref [1, 0]) [([1, 0], ⟨5, 1, (.data (.int .u8) y0)⟩)])
theorem octet_Reader_takev1.eq (F0 : T_octet_Reader_Badv1) (F1 : T_octet_Reader_Leftv1) (F2 : T_octet_Reader_spoilv1) : ∀ v k, exF Try.f63 octet_Reader_takev1.p [⟨octet_Reader_Badv1.p, octet_Reader_Badv1.g F0⟩, ⟨octet_Reader_Leftv1.p, octet_Reader_Leftv1.g F1⟩, ⟨octet_Reader_spoilv1.p, octet_Reader_spoilv1.g F2⟩] [] [] v k = octet_Reader_takev1.g (octet_Reader_takev1.body F0 F1 F2) v k := fun v k => by kernel_rfl
theorem octet_Reader_takev1.ok : okF 2 octet_Reader_takev1.p (octet_Reader_takev1.g octet_Reader_takev1) := fn2 (octet_Reader_takev1.eq octet_Reader_Badv1 octet_Reader_Leftv1 octet_Reader_spoilv1) Try.func63 (by kernel_rfl) (.cons octet_Reader_Badv1.ok (.cons octet_Reader_Leftv1.ok (.cons octet_Reader_spoilv1.ok .nil))) [] (by kernel_rfl) .nil
/-- function 62: the loop in block 0 -/
abbrev T_octet_numberv1_L0 : Type := Int → Int → Int → (List Int) → (Int → (List Int) → Option Bool) → Option Bool
noncomputable def octet_numberv1_L0.body (octet_numberv1_L0 : T_octet_numberv1_L0) : T_octet_numberv1_L0 := fun n3590 n3591 n3592 ns3593 k1 =>
  (cond_ (decide (n3592 < n3591)) (cond_ ((decide ((0 : Int) ≤ n3592)) && (decide (n3592 < (List.length ns3593 : Int)))) (octet_numberv1_L0 (IntKind.wrap .i64 (((@BitVec.toNat (64 : Nat) ((@BitVec.ofInt (64 : Nat) (IntKind.wrap .i64 (n3590 * (256 : Int)))) ||| (@BitVec.ofInt (64 : Nat) (IntKind.wrap .i64 (List.getD ns3593 (Int.toNat n3592) (0 : Int)))))) : Nat) : Int)) n3591 (IntKind.wrap .i64 (n3592 + (1 : Int))) ns3593 k1) none) (k1 n3590 ns3593))
noncomputable def octet_numberv1_L0 : Nat → T_octet_numberv1_L0
  | 0 => fun _ _ _ _ _ => none
  | n + 1 => octet_numberv1_L0.body (octet_numberv1_L0 n)
def octet_numberv1_L0.p : LPat := lp 2 33 [6, 7, 19, 20, 21] (pl (pd (.int .i64)) (ps (pr [1, 0]) (ps (pr [1, 0]) (pl (pd (.int .i64)) (pl (pd (.int .i64)) pz))))) (pl (po [1, 0] 5 1 (ed (.int .u8))) pz)
def octet_numberv1_L0.g (F : T_octet_numberv1_L0) (v : octet_numberv1_L0.p.T) (k : KE) : Option Bool := F v.1.1 v.1.2.1 v.1.2.2.1 v.2.1 (fun y0 y1 => k (.exit 0) ⟨fillS 33 [6, 7] [(.d ⟨(.int .i64), y0⟩), (.ref [1, 0])], [([1, 0], ⟨5, 1, (.data (.int .u8) y1)⟩)], 2⟩)
theorem octet_numberv1_L0.step (S : T_octet_numberv1_L0) : ∀ v k, exR 62 Try.f62 0 octet_numberv1_L0.p [] [] [] (octet_numberv1_L0.g S) v k = octet_numberv1_L0.g (octet_numberv1_L0.body S) v k := fun v k => by kernel_rfl
theorem octet_numberv1_L0.ok : okL 62 Try.f62 0 0 octet_numberv1_L0.p (octet_numberv1_L0.g (octet_numberv1_L0 ROUNDS)) := loop2 (G := fun n => octet_numberv1_L0.g (octet_numberv1_L0 n)) (fun n => octet_numberv1_L0.step (octet_numberv1_L0 n)) .nil [] (by kernel_rfl) .nil (fun _ _ => rfl)
/-- function 62: sheerleg/octet.number -/
abbrev T_octet_numberv1 : Type := Int → (Int → (List Int) → Option Bool) → Option Bool
noncomputable def octet_numberv1.body (octet_Reader_takev1 : T_octet_Reader_takev1) (octet_numberv1_L0 : T_octet_numberv1_L0) : T_octet_numberv1 := fun n3585 k1 =>
  (cond_ (! (decide (n3585 < (1 : Int)))) (cond_ (decide (n3585 > (8 : Int))) (octet_Reader_takev1 (-1 : Int)
  (fun ns3589 => (octet_numberv1_L0 (0 : Int) (List.length ns3589 : Int) (0 : Int) ns3589
  (fun n3594 ns3595 => (k1 n3594 ns3595))))) (octet_Reader_takev1 n3585
  (fun ns3596 => (octet_numberv1_L0 (0 : Int) (List.length ns3596 : Int) (0 : Int) ns3596
  (fun n3597 ns3598 => (k1 n3597 ns3598)))))) (octet_Reader_takev1 (-1 : Int)
  (fun ns3599 => (octet_numberv1_L0 (0 : Int) (List.length ns3599 : Int) (0 : Int) ns3599
  (fun n3600 ns3601 => (k1 n3600 ns3601))))))
noncomputable def octet_numberv1 : T_octet_numberv1 := octet_numberv1.body octet_Reader_takev1 (octet_numberv1_L0 ROUNDS)
def octet_numberv1.p : FPat := fp 62 (pl (pf 63 (ps (pk 1) pz) pz) (pl (pd (.int .i64)) pz)) pz
def octet_numberv1.g (F : T_octet_numberv1) (v : octet_numberv1.p.T) (k : KR) : Option Bool := F v.1.2.1 (fun y0 y1 => k (.tup [(.d ⟨(.int .i64), y0⟩), (.ref [1, 0])]) [([1, 0], ⟨5, 1, (.data (.int .u8) y1)⟩)])
theorem octet_numberv1.eq (F0 : T_octet_Reader_takev1) (L0 : T_octet_numberv1_L0) : ∀ v k, exF Try.f62 octet_numberv1.p [⟨octet_Reader_takev1.p, octet_Reader_takev1.g F0⟩] [] [⟨0, octet_numberv1_L0.p, octet_numberv1_L0.g L0⟩] v k = octet_numberv1.g (octet_numberv1.body F0 L0) v k := fun v k => by kernel_rfl
theorem octet_numberv1.ok : okF 3 octet_numberv1.p (octet_numberv1.g octet_numberv1) := fn2 (octet_numberv1.eq octet_Reader_takev1 (octet_numberv1_L0 ROUNDS)) Try.func62 (by kernel_rfl) (.cons octet_Reader_takev1.ok .nil) [0] (by kernel_rfl) (.cons octet_numberv1_L0.ok .nil)
/-- function 47: (*sheerleg/octet.Reader).Num -/
abbrev T_octet_Reader_Numv1 : Type := Int → (Int → Option Bool) → Option Bool
noncomputable def octet_Reader_Numv1.body (octet_numberv1 : T_octet_numberv1) : T_octet_Reader_Numv1 := fun n3584 k1 =>
  (octet_numberv1 n3584
  (fun n3602 ns3603 => (k1 n3602)))
noncomputable def octet_Reader_Numv1 : T_octet_Reader_Numv1 := octet_Reader_Numv1.body octet_numberv1
def octet_Reader_Numv1.p : FPat := fp 47 (ps (pk 1) (pl (pd (.int .i64)) pz)) pz
def octet_Reader_Numv1.g (F : T_octet_Reader_Numv1) (v : octet_Reader_Numv1.p.T) (k : KR) : Option Bool := F v.1.1 (fun y0 => k (.d ⟨(.int .i64), y0⟩) [])
theorem octet_Reader_Numv1.eq (F0 : T_octet_numberv1) : ∀ v k, exF Try.f47 octet_Reader_Numv1.p [⟨octet_numberv1.p, octet_numberv1.g F0⟩] [] [] v k = octet_Reader_Numv1.g (octet_Reader_Numv1.body F0) v k := fun v k => by kernel_rfl
theorem octet_Reader_Numv1.ok : okF 4 octet_Reader_Numv1.p (octet_Reader_Numv1.g octet_Reader_Numv1) := fn2 (octet_Reader_Numv1.eq octet_numberv1) Try.func47 (by kernel_rfl) (.cons octet_numberv1.ok .nil) [] (by kernel_rfl) .nil
/-- function 32: (*sheerleg/fun.reader).fail -/
abbrev T_fun_reader_failv1 : Type := Int → Int → (Int → Option Bool) → Option Bool
noncomputable def fun_reader_failv1.body : T_fun_reader_failv1 := fun n3606 n3607 k1 =>
  (cond_ (n3607 == (0 : Int)) (k1 n3606) (k1 n3607))
noncomputable def fun_reader_failv1 : T_fun_reader_failv1 := fun_reader_failv1.body
def fun_reader_failv1.p : FPat := fp 32 (ps (pq [0, 0] 0 0) (pl (pd (.int .i64)) pz)) (pl (po [0, 0] 67 2 (em (pl (pa (ps (pk 1) (pl (pd (.int .i64)) pz))) pz))) pz)
def fun_reader_failv1.g (F : T_fun_reader_failv1) (v : fun_reader_failv1.p.T) (k : KR) : Option Bool := F v.1.1 v.2.1.1.1 (fun y0 => k (.tup []) [([0, 0], ⟨67, 2, (.mix [(.agg [.nilp, (.d ⟨(.int .i64), y0⟩)])])⟩)])
theorem fun_reader_failv1.eq : ∀ v k, exF Try.f32 fun_reader_failv1.p [] [] [] v k = fun_reader_failv1.g (fun_reader_failv1.body) v k := fun v k => by kernel_rfl
theorem fun_reader_failv1.ok : okF 1 fun_reader_failv1.p (fun_reader_failv1.g fun_reader_failv1) := fn2 (fun_reader_failv1.eq) Try.func32 (by kernel_rfl) .nil [] (by kernel_rfl) .nil
/-- function 25: (*sheerleg/fun.reader).num -/
abbrev T_fun_reader_numv1 : Type := Int → Int → (Int → Int → Option Bool) → Option Bool
noncomputable def fun_reader_numv1.body (octet_Reader_Numv1 : T_octet_Reader_Numv1) (octet_Reader_Badv1 : T_octet_Reader_Badv1) (fun_reader_failv1 : T_fun_reader_failv1) : T_fun_reader_numv1 := fun n3582 n3583 k1 =>
  (octet_Reader_Numv1 n3582
  (fun n3604 => (octet_Reader_Badv1
  (fun b3605 => (cond_ b3605 (fun_reader_failv1 (5 : Int) n3583
  (fun n3608 => (k1 n3604 n3608))) (k1 n3604 n3583))))))
noncomputable def fun_reader_numv1 : T_fun_reader_numv1 := fun_reader_numv1.body octet_Reader_Numv1 octet_Reader_Badv1 fun_reader_failv1
def fun_reader_numv1.p : FPat := fp 25 (ps (pq [0, 0] 0 0) (pl (pd (.int .i64)) pz)) (pl (po [0, 0] 67 2 (em (pl (pa (ps (pk 1) (pl (pd (.int .i64)) pz))) pz))) pz)
def fun_reader_numv1.g (F : T_fun_reader_numv1) (v : fun_reader_numv1.p.T) (k : KR) : Option Bool := F v.1.1 v.2.1.1.1 (fun y0 y1 => k (.d ⟨(.int .i64), y0⟩) [([0, 0], ⟨67, 2, (.mix [(.agg [.nilp, (.d ⟨(.int .i64), y1⟩)])])⟩)])
theorem fun_reader_numv1.eq (F0 : T_octet_Reader_Numv1) (F1 : T_octet_Reader_Badv1) (F2 : T_fun_reader_failv1) : ∀ v k, exF Try.f25 fun_reader_numv1.p [⟨octet_Reader_Numv1.p, octet_Reader_Numv1.g F0⟩, ⟨octet_Reader_Badv1.p, octet_Reader_Badv1.g F1⟩, ⟨fun_reader_failv1.p, fun_reader_failv1.g F2⟩] [] [] v k = fun_reader_numv1.g (fun_reader_numv1.body F0 F1 F2) v k := fun v k => by kernel_rfl
theorem fun_reader_numv1.ok : okF 5 fun_reader_numv1.p (fun_reader_numv1.g fun_reader_numv1) := fn2 (fun_reader_numv1.eq octet_Reader_Numv1 octet_Reader_Badv1 fun_reader_failv1) Try.func25 (by kernel_rfl) (.cons octet_Reader_Numv1.ok (.cons octet_Reader_Badv1.ok (.cons fun_reader_failv1.ok .nil))) [] (by kernel_rfl) .nil
/-- function 27: sheerleg/fun.Get$1 -/
abbrev T_fun_Getfn1v4 : Type := Int → Int → Bool → Int → Int → (List Int) → (List (Int × Int × Unit)) → Tc0 → Int → (Int → Int → Bool → Int → Int → (List (Int × Int × Unit)) → Tc0 → Int → (List Int) → Option Bool) → Option Bool
noncomputable def fun_Getfn1v4.body (fun_reader_numv1 : T_fun_reader_numv1) : T_fun_Getfn1v4 := fun n3630 n3631 b3632 n3633 n3634 ns3635 ts3636 ts3637 n3638 k1 =>
  (fun_reader_numv1 (1 : Int) n3638
  (fun n3639 n3640 => (cond_ (Nat.ble (((List.length ns3635) + (List.length (n3639 :: []))) * (8 : Nat)) (140737488355328 : Nat)) (k1 n3630 n3631 b3632 n3633 n3634 ts3636 ts3637 n3640 (ns3635 ++ (n3639 :: []))) none)))
noncomputable def fun_Getfn1v4 : T_fun_Getfn1v4 := fun_Getfn1v4.body fun_reader_numv1
def fun_Getfn1v4.p : FPat := fp 27 (ps (pq [0, 0] 0 0) (ps (pq [0, 4] 0 0) pz)) (pl (po [0, 0] 27 9 (em (pl (pa (pl (pd (.int .i64)) (ps (pr [0, 1]) (pl (pd (.int .i64)) (pl (pd .bool) (pl (pd (.int .i64)) (pl (pd (.int .i64)) (ps (pr [0, 2]) (ps (pk 0) (ps (pr [0, 3]) pz)))))))))) pz))) (pl (po [0, 1] 3 1 (ed (.int .i64))) (pl (po [0, 2] 55 2 (ed Ty3)) (pl (po [0, 3] 60 3 (ed Ty4)) (ps (po [0, 4] 65 1 (em (ps (pq [0, 5] 0 0) pz))) (pl (po [0, 5] 67 2 (em (pl (pa (ps (pk 1) (pl (pd (.int .i64)) pz))) pz))) pz))))))
def fun_Getfn1v4.g (F : T_fun_Getfn1v4) (v : fun_Getfn1v4.p.T) (k : KR) : Option Bool := F v.2.1.1.1 v.2.1.1.2.1 v.2.1.1.2.2.1 v.2.1.1.2.2.2.1 v.2.1.1.2.2.2.2.1 v.2.2.1 v.2.2.2.1 v.2.2.2.2.1 v.2.2.2.2.2.1.1.1 (fun y0 y1 y2 y3 y4 y5 y6 y7 y8 => k (.tup []) [([0, 0], ⟨27, 9, (.mix [(.agg [(.d ⟨(.int .i64), y0⟩), (.ref [1, 0]), (.d ⟨(.int .i64), y1⟩), (.d ⟨.bool, y2⟩), (.d ⟨(.int .i64), y3⟩), (.d ⟨(.int .i64), y4⟩), (.ref [0, 2]), .nils, (.ref [0, 3])])])⟩), ([0, 2], ⟨55, 2, (.data Ty3 y5)⟩), ([0, 3], ⟨60, 3, (.data Ty4 y6)⟩), ([0, 4], ⟨65, 1, (.mix [(.ptr [0, 5] 0 0)])⟩), ([0, 5], ⟨67, 2, (.mix [(.agg [.nilp, (.d ⟨(.int .i64), y7⟩)])])⟩), ([1, 0], ⟨3, 1, (.data (.int .i64) y8)⟩)])
theorem fun_Getfn1v4.eq (F0 : T_fun_reader_numv1) : ∀ v k, exF Try.f27 fun_Getfn1v4.p [⟨fun_reader_numv1.p, fun_reader_numv1.g F0⟩] [] [] v k = fun_Getfn1v4.g (fun_Getfn1v4.body F0) v k := fun v k => by kernel_rfl
theorem fun_Getfn1v4.ok : okF 6 fun_Getfn1v4.p (fun_Getfn1v4.g fun_Getfn1v4) := fn2 (fun_Getfn1v4.eq fun_reader_numv1) Try.func27 (by kernel_rfl) (.cons fun_reader_numv1.ok .nil) [] (by kernel_rfl) .nil
/-- function 26: the loop in block 0 -/
abbrev T_fun_reader_manyv4_L0 : Type := Int → Int → Int → Int → Int → Bool → Int → Int → (List Int) → (List (Int × Int × Unit)) → Tc0 → (Int → Int → Int → Bool → Int → Int → (List Int) → (List (Int × Int × Unit)) → Tc0 → Option Bool) → (Int → Int → Int → Bool → Int → Int → (List Int) → (List (Int × Int × Unit)) → Tc0 → Option Bool) → Option Bool
noncomputable def fun_reader_manyv4_L0.body (fun_reader_manyv4_L0 : T_fun_reader_manyv4_L0) (fun_Getfn1v4 : T_fun_Getfn1v4) : T_fun_reader_manyv4_L0 := fun n3619 n3620 n3621 n3622 n3623 b3624 n3625 n3626 ns3627 ts3628 ts3629 k1 k2 =>
  (cond_ (decide (n3620 < n3619)) (cond_ (n3621 != (0 : Int)) (k1 n3621 n3622 n3623 b3624 n3625 n3626 ns3627 ts3628 ts3629) (fun_Getfn1v4 n3622 n3623 b3624 n3625 n3626 ns3627 ts3628 ts3629 n3621
  (fun n3641 n3642 b3643 n3644 n3645 ts3646 ts3647 n3648 ns3649 => (fun_reader_manyv4_L0 n3619 (IntKind.wrap .i64 (n3620 + (1 : Int))) n3648 n3641 n3642 b3643 n3644 n3645 ns3649 ts3646 ts3647 k1 k2)))) (k2 n3621 n3622 n3623 b3624 n3625 n3626 ns3627 ts3628 ts3629))
noncomputable def fun_reader_manyv4_L0 : Nat → T_fun_reader_manyv4_L0
  | 0 => fun _ _ _ _ _ _ _ _ _ _ _ _ _ => none
  | n + 1 => fun_reader_manyv4_L0.body (fun_reader_manyv4_L0 n) fun_Getfn1v4
def fun_reader_manyv4_L0.p : LPat := lp 2 16 [0, 1, 5, 6] (ps (pq [0, 0] 0 0) (pl (pf 27 pz (ps (pq [0, 1] 0 0) (ps (pq [0, 2] 0 0) pz))) (pl (pd (.int .i64)) (pl (pd (.int .i64)) pz)))) (pl (po [0, 0] 67 2 (em (pl (pa (ps (pk 1) (pl (pd (.int .i64)) pz))) pz))) (pl (po [0, 1] 27 9 (em (pl (pa (pl (pd (.int .i64)) (ps (pr [1, 0]) (pl (pd (.int .i64)) (pl (pd .bool) (pl (pd (.int .i64)) (pl (pd (.int .i64)) (ps (pr [1, 1]) (ps (pk 0) (ps (pr [1, 2]) pz)))))))))) pz))) (ps (po [0, 2] 65 1 (em (ps (pq [0, 0] 0 0) pz))) (pl (po [1, 0] 3 1 (ed (.int .i64))) (pl (po [1, 1] 55 2 (ed Ty3)) (pl (po [1, 2] 60 3 (ed Ty4)) pz))))))
def fun_reader_manyv4_L0.g (F : T_fun_reader_manyv4_L0) (v : fun_reader_manyv4_L0.p.T) (k : KE) : Option Bool := F v.1.2.1 v.1.2.2.1 v.2.1.1.1 v.2.2.1.1.1 v.2.2.1.1.2.1 v.2.2.1.1.2.2.1 v.2.2.1.1.2.2.2.1 v.2.2.1.1.2.2.2.2.1 v.2.2.2.1 v.2.2.2.2.1 v.2.2.2.2.2.1 (fun y0 y1 y2 y3 y4 y5 y6 y7 y8 => k .ret ⟨fillS 16 [] [], [([0, 0], ⟨67, 2, (.mix [(.agg [.nilp, (.d ⟨(.int .i64), y0⟩)])])⟩), ([0, 1], ⟨27, 9, (.mix [(.agg [(.d ⟨(.int .i64), y1⟩), (.ref [1, 0]), (.d ⟨(.int .i64), y2⟩), (.d ⟨.bool, y3⟩), (.d ⟨(.int .i64), y4⟩), (.d ⟨(.int .i64), y5⟩), (.ref [1, 1]), .nils, (.ref [1, 2])])])⟩), ([0, 2], ⟨65, 1, (.mix [(.ptr [0, 0] 0 0)])⟩), ([1, 0], ⟨3, 1, (.data (.int .i64) y6)⟩), ([1, 1], ⟨55, 2, (.data Ty3 y7)⟩), ([1, 2], ⟨60, 3, (.data Ty4 y8)⟩)], 2⟩) (fun y0 y1 y2 y3 y4 y5 y6 y7 y8 => k (.exit 0) ⟨fillS 16 [] [], [([0, 0], ⟨67, 2, (.mix [(.agg [.nilp, (.d ⟨(.int .i64), y0⟩)])])⟩), ([0, 1], ⟨27, 9, (.mix [(.agg [(.d ⟨(.int .i64), y1⟩), (.ref [1, 0]), (.d ⟨(.int .i64), y2⟩), (.d ⟨.bool, y3⟩), (.d ⟨(.int .i64), y4⟩), (.d ⟨(.int .i64), y5⟩), (.ref [1, 1]), .nils, (.ref [1, 2])])])⟩), ([0, 2], ⟨65, 1, (.mix [(.ptr [0, 0] 0 0)])⟩), ([1, 0], ⟨3, 1, (.data (.int .i64) y6)⟩), ([1, 1], ⟨55, 2, (.data Ty3 y7)⟩), ([1, 2], ⟨60, 3, (.data Ty4 y8)⟩)], 2⟩)
theorem fun_reader_manyv4_L0.step (S : T_fun_reader_manyv4_L0) (F0 : T_fun_Getfn1v4) : ∀ v k, exR 26 Try.f26 0 fun_reader_manyv4_L0.p [⟨fun_Getfn1v4.p, fun_Getfn1v4.g F0⟩] [] [] (fun_reader_manyv4_L0.g S) v k = fun_reader_manyv4_L0.g (fun_reader_manyv4_L0.body S F0) v k := fun v k => by kernel_rfl
theorem fun_reader_manyv4_L0.ok : okL 26 Try.f26 6 0 fun_reader_manyv4_L0.p (fun_reader_manyv4_L0.g (fun_reader_manyv4_L0 ROUNDS)) := loop2 (G := fun n => fun_reader_manyv4_L0.g (fun_reader_manyv4_L0 n)) (fun n => fun_reader_manyv4_L0.step (fun_reader_manyv4_L0 n) fun_Getfn1v4) (.cons fun_Getfn1v4.ok .nil) [] (by kernel_rfl) .nil (fun _ _ => rfl)
/-- function 26: (*sheerleg/fun.reader).many -/
abbrev T_fun_reader_manyv4 : Type := Int → Int → Int → Bool → Int → Int → (Int → Int → Int → Bool → Int → Int → (List Int) → (List (Int × Int × Unit)) → Tc0 → Option Bool) → Option Bool
noncomputable def fun_reader_manyv4.body (fun_reader_numv1 : T_fun_reader_numv1) (fun_reader_manyv4_L0 : T_fun_reader_manyv4_L0) : T_fun_reader_manyv4 := fun n3611 n3612 n3613 b3614 n3615 n3616 k1 =>
  (fun_reader_numv1 (1 : Int) n3611
  (fun n3617 n3618 => (fun_reader_manyv4_L0 n3617 (0 : Int) n3618 n3612 n3613 b3614 n3615 n3616 [] [] []
  (fun n3650 n3651 n3652 b3653 n3654 n3655 ns3656 ts3657 ts3658 => (k1 n3650 n3651 n3652 b3653 n3654 n3655 ns3656 ts3657 ts3658))
  (fun n3659 n3660 n3661 b3662 n3663 n3664 ns3665 ts3666 ts3667 => (k1 n3659 n3660 n3661 b3662 n3663 n3664 ns3665 ts3666 ts3667)))))
noncomputable def fun_reader_manyv4 : T_fun_reader_manyv4 := fun_reader_manyv4.body fun_reader_numv1 (fun_reader_manyv4_L0 ROUNDS)
def fun_reader_manyv4.p : FPat := fp 26 (ps (pq [0, 0] 0 0) (pl (pf 27 pz (ps (pq [0, 1] 0 0) (ps (pq [0, 2] 0 0) pz))) pz)) (pl (po [0, 0] 67 2 (em (pl (pa (ps (pk 1) (pl (pd (.int .i64)) pz))) pz))) (pl (po [0, 1] 27 9 (em (pl (pa (pl (pd (.int .i64)) (ps (pk 0) (pl (pd (.int .i64)) (pl (pd .bool) (pl (pd (.int .i64)) (pl (pd (.int .i64)) (ps (pk 0) (ps (pk 0) (ps (pk 0) pz)))))))))) pz))) (ps (po [0, 2] 65 1 (em (ps (pq [0, 0] 0 0) pz))) pz)))
def fun_reader_manyv4.g (F : T_fun_reader_manyv4) (v : fun_reader_manyv4.p.T) (k : KR) : Option Bool := F v.2.1.1.1 v.2.2.1.1.1 v.2.2.1.1.2.1 v.2.2.1.1.2.2.1 v.2.2.1.1.2.2.2.1 v.2.2.1.1.2.2.2.2.1 (fun y0 y1 y2 y3 y4 y5 y6 y7 y8 => k (.tup []) [([0, 0], ⟨67, 2, (.mix [(.agg [.nilp, (.d ⟨(.int .i64), y0⟩)])])⟩), ([0, 1], ⟨27, 9, (.mix [(.agg [(.d ⟨(.int .i64), y1⟩), (.ref [1, 0]), (.d ⟨(.int .i64), y2⟩), (.d ⟨.bool, y3⟩), (.d ⟨(.int .i64), y4⟩), (.d ⟨(.int .i64), y5⟩), (.ref [1, 1]), .nils, (.ref [1, 2])])])⟩), ([0, 2], ⟨65, 1, (.mix [(.ptr [0, 0] 0 0)])⟩), ([1, 0], ⟨3, 1, (.data (.int .i64) y6)⟩), ([1, 1], ⟨55, 2, (.data Ty3 y7)⟩), ([1, 2], ⟨60, 3, (.data Ty4 y8)⟩)])
theorem fun_reader_manyv4.eq (F0 : T_fun_reader_numv1) (L0 : T_fun_reader_manyv4_L0) : ∀ v k, exF Try.f26 fun_reader_manyv4.p [⟨fun_reader_numv1.p, fun_reader_numv1.g F0⟩] [] [⟨0, fun_reader_manyv4_L0.p, fun_reader_manyv4_L0.g L0⟩] v k = fun_reader_manyv4.g (fun_reader_manyv4.body F0 L0) v k := fun v k => by kernel_rfl
theorem fun_reader_manyv4.ok : okF 7 fun_reader_manyv4.p (fun_reader_manyv4.g fun_reader_manyv4) := fn2 (fun_reader_manyv4.eq fun_reader_numv1 (fun_reader_manyv4_L0 ROUNDS)) Try.func26 (by kernel_rfl) (.cons fun_reader_numv1.ok .nil) [0] (by kernel_rfl) (.cons fun_reader_manyv4_L0.ok .nil)
/-- function 28: (*sheerleg/fun.reader).yes -/
abbrev T_fun_reader_yesv1 : Type := Int → (Bool → Int → Option Bool) → Option Bool
noncomputable def fun_reader_yesv1.body (fun_reader_numv1 : T_fun_reader_numv1) (fun_reader_failv1 : T_fun_reader_failv1) : T_fun_reader_yesv1 := fun n3679 k1 =>
  (fun_reader_numv1 (1 : Int) n3679
  (fun n3680 n3681 => (cond_ (decide (n3680 > (1 : Int))) (fun_reader_failv1 (3 : Int) n3681
  (fun n3682 => (k1 (n3680 == (1 : Int)) n3682))) (k1 (n3680 == (1 : Int)) n3681))))
noncomputable def fun_reader_yesv1 : T_fun_reader_yesv1 := fun_reader_yesv1.body fun_reader_numv1 fun_reader_failv1
def fun_reader_yesv1.p : FPat := fp 28 (ps (pq [0, 0] 0 0) pz) (pl (po [0, 0] 67 2 (em (pl (pa (ps (pk 1) (pl (pd (.int .i64)) pz))) pz))) pz)
def fun_reader_yesv1.g (F : T_fun_reader_yesv1) (v : fun_reader_yesv1.p.T) (k : KR) : Option Bool := F v.2.1.1.1 (fun y0 y1 => k (.d ⟨.bool, y0⟩) [([0, 0], ⟨67, 2, (.mix [(.agg [.nilp, (.d ⟨(.int .i64), y1⟩)])])⟩)])
theorem fun_reader_yesv1.eq (F0 : T_fun_reader_numv1) (F1 : T_fun_reader_failv1) : ∀ v k, exF Try.f28 fun_reader_yesv1.p [⟨fun_reader_numv1.p, fun_reader_numv1.g F0⟩, ⟨fun_reader_failv1.p, fun_reader_failv1.g F1⟩] [] [] v k = fun_reader_yesv1.g (fun_reader_yesv1.body F0 F1) v k := fun v k => by kernel_rfl
theorem fun_reader_yesv1.ok : okF 6 fun_reader_yesv1.p (fun_reader_yesv1.g fun_reader_yesv1) := fn2 (fun_reader_yesv1.eq fun_reader_numv1 fun_reader_failv1) Try.func28 (by kernel_rfl) (.cons fun_reader_numv1.ok (.cons fun_reader_failv1.ok .nil)) [] (by kernel_rfl) .nil
/-- function 29: sheerleg/fun.Get$2 -/
abbrev T_fun_Getfn2v3 : Type := Int → Int → Bool → Int → Int → (List Int) → (List (Int × Int × Unit)) → Tc0 → Int → (Int → Int → Bool → Int → Int → (List Int) → Tc0 → Int → (List (Int × Int × Unit)) → Option Bool) → Option Bool
noncomputable def fun_Getfn2v3.body (fun_reader_numv1 : T_fun_reader_numv1) : T_fun_Getfn2v3 := fun n3711 n3712 b3713 n3714 n3715 ns3716 ts3717 ts3718 n3719 k1 =>
  (fun_reader_numv1 (1 : Int) n3719
  (fun n3720 n3721 => (fun_reader_numv1 (2 : Int) n3721
  (fun n3722 n3723 => (cond_ (Nat.ble (((List.length ts3717) + (List.length ((n3720, (n3722, ())) :: []))) * (16 : Nat)) (140737488355328 : Nat)) (k1 n3711 n3712 b3713 n3714 n3715 ns3716 ts3718 n3723 (ts3717 ++ ((n3720, (n3722, ())) :: []))) none)))))
noncomputable def fun_Getfn2v3 : T_fun_Getfn2v3 := fun_Getfn2v3.body fun_reader_numv1
def fun_Getfn2v3.p : FPat := fp 29 (ps (pq [0, 0] 0 0) (ps (pq [0, 4] 0 0) pz)) (pl (po [0, 0] 27 9 (em (pl (pa (pl (pd (.int .i64)) (ps (pr [0, 1]) (pl (pd (.int .i64)) (pl (pd .bool) (pl (pd (.int .i64)) (pl (pd (.int .i64)) (ps (pr [0, 2]) (ps (pk 0) (ps (pr [0, 3]) pz)))))))))) pz))) (pl (po [0, 1] 3 1 (ed (.int .i64))) (pl (po [0, 2] 55 2 (ed Ty3)) (pl (po [0, 3] 60 3 (ed Ty4)) (ps (po [0, 4] 65 1 (em (ps (pq [0, 5] 0 0) pz))) (pl (po [0, 5] 67 2 (em (pl (pa (ps (pk 1) (pl (pd (.int .i64)) pz))) pz))) pz))))))
def fun_Getfn2v3.g (F : T_fun_Getfn2v3) (v : fun_Getfn2v3.p.T) (k : KR) : Option Bool := F v.2.1.1.1 v.2.1.1.2.1 v.2.1.1.2.2.1 v.2.1.1.2.2.2.1 v.2.1.1.2.2.2.2.1 v.2.2.1 v.2.2.2.1 v.2.2.2.2.1 v.2.2.2.2.2.1.1.1 (fun y0 y1 y2 y3 y4 y5 y6 y7 y8 => k (.tup []) [([0, 0], ⟨27, 9, (.mix [(.agg [(.d ⟨(.int .i64), y0⟩), (.ref [0, 1]), (.d ⟨(.int .i64), y1⟩), (.d ⟨.bool, y2⟩), (.d ⟨(.int .i64), y3⟩), (.d ⟨(.int .i64), y4⟩), (.ref [1, 0]), .nils, (.ref [0, 3])])])⟩), ([0, 1], ⟨3, 1, (.data (.int .i64) y5)⟩), ([0, 3], ⟨60, 3, (.data Ty4 y6)⟩), ([0, 4], ⟨65, 1, (.mix [(.ptr [0, 5] 0 0)])⟩), ([0, 5], ⟨67, 2, (.mix [(.agg [.nilp, (.d ⟨(.int .i64), y7⟩)])])⟩), ([1, 0], ⟨55, 2, (.data Ty3 y8)⟩)])
theorem fun_Getfn2v3.eq (F0 : T_fun_reader_numv1) : ∀ v k, exF Try.f29 fun_Getfn2v3.p [⟨fun_reader_numv1.p, fun_reader_numv1.g F0⟩] [] [] v k = fun_Getfn2v3.g (fun_Getfn2v3.body F0) v k := fun v k => by kernel_rfl
theorem fun_Getfn2v3.ok : okF 6 fun_Getfn2v3.p (fun_Getfn2v3.g fun_Getfn2v3) := fn2 (fun_Getfn2v3.eq fun_reader_numv1) Try.func29 (by kernel_rfl) (.cons fun_reader_numv1.ok .nil) [] (by kernel_rfl) .nil
end Go.Proofs.Yteanpakahlkhdaa.o
