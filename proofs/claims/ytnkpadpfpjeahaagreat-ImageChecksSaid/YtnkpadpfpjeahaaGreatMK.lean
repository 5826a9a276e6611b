/- What the functions come to that K reaches, as plain functions; written by a program of this work, each told by Lean. -/
import Derived.Test.YtnkpadpfpjeahaaGreatMK2
namespace Go.Proofs.YtnkpadpfpjeahaaGreat.k
open Go.AX
set_option linter.unusedVariables false
set_option maxRecDepth 100000
set_option maxHeartbeats 4000000
/-- function 15: sheerleg/image.At -/
abbrev T_image_Atv1 : Type := Tc10 → Int → (Tc0 → Option Bool) → Option Bool
noncomputable def image_Atv1.body (runs_Atv1 : T_runs_Atv1) : T_image_Atv1 := fun t2051 n2052 k1 =>
  (cond_ (! (decide (n2052 < (0 : Int)))) (cond_ (decide (n2052 ≥ (((List.length t2051.1) : Nat) : Int))) (k1 (0, (0, (false, (0, ()))))) (runs_Atv1 t2051.2.2.2.1 n2052
  (fun t2068 b2069 => (k1 t2068)))) (k1 (0, (0, (false, (0, ()))))))
noncomputable def image_Atv1 : T_image_Atv1 := image_Atv1.body runs_Atv1
def image_Atv1.p : FPat := fp 15 (pl (pd Ty14) (pl (pd (.int .i64)) pz)) pz
def image_Atv1.g (F : T_image_Atv1) (v : image_Atv1.p.T) (k : KR) : Option Bool := F v.1.1 v.1.2.1 (fun y0 => k (.d ⟨Ty6, y0⟩) [])
theorem image_Atv1.eq (F0 : T_runs_Atv1) : ∀ v k, exF Tryz.f15 image_Atv1.p [⟨runs_Atv1.p, runs_Atv1.g F0⟩] [] [] v k = image_Atv1.g (image_Atv1.body F0) v k := fun v k => by kernel_rfl
theorem image_Atv1.ok : okF 4 image_Atv1.p (image_Atv1.g image_Atv1) := fn2 (image_Atv1.eq runs_Atv1) Tryz.func15 (by kernel_rfl) (.cons runs_Atv1.ok .nil) [] (by kernel_rfl) .nil
/-- function 55: the loop in block 0 -/
abbrev T_ref13_At_L0 : Type := Tc7 → Int → Bool → Int → Tc0 → Tc0 → (Bool → Tc0 → Tc0 → Option Bool) → Option Bool
noncomputable def ref13_At_L0.body (ref13_At_L0 : T_ref13_At_L0) : T_ref13_At_L0 := fun ts2075 n2076 b2077 n2078 t2079 t2080 k1 =>
  (cond_ (decide (n2078 < (List.length ts2075 : Int))) (cond_ ((decide ((0 : Int) ≤ n2078)) && (decide (n2078 < (List.length ts2075 : Int)))) (cond_ (decide ((List.getD ts2075 (Int.toNat n2078) (0, (0, (0, (false, (0, ())))))).1 ≤ n2076)) (cond_ ((decide ((0 : Int) ≤ n2078)) && (decide (n2078 < (List.length ts2075 : Int)))) (ref13_At_L0 ts2075 n2076 true (IntKind.wrap .i64 (n2078 + (1 : Int))) t2079 ((List.getD ts2075 (Int.toNat n2078) (0, (0, (0, (false, (0, ())))))).2.1, ((List.getD ts2075 (Int.toNat n2078) (0, (0, (0, (false, (0, ())))))).2.2.1, ((List.getD ts2075 (Int.toNat n2078) (0, (0, (0, (false, (0, ())))))).2.2.2.1, ((List.getD ts2075 (Int.toNat n2078) (0, (0, (0, (false, (0, ())))))).2.2.2.2.1, ())))) k1) none) (k1 b2077 t2079 t2080)) none) (k1 b2077 t2079 t2080))
noncomputable def ref13_At_L0 : Nat → T_ref13_At_L0
  | 0 => fun _ _ _ _ _ _ _ => none
  | n + 1 => ref13_At_L0.body (ref13_At_L0 n)
def ref13_At_L0.p : LPat := lp 2 32 [0, 1, 4, 6, 7, 8] (pl (pb 0 127 Ty7) (pl (pd (.int .i64)) (ps (pq [1, 0] 0 0) (ps (pq [1, 1] 0 0) (pl (pd .bool) (pl (pd (.int .i64)) pz)))))) (pl (po [1, 0] 50 4 (es Ty6 (pl eh pz))) (pl (po [1, 1] 50 4 (es Ty6 (pl eh pz))) pz))
def ref13_At_L0.g (F : T_ref13_At_L0) (v : ref13_At_L0.p.T) (k : KE) : Option Bool := F v.1.1 v.1.2.1 v.1.2.2.1 v.1.2.2.2.1 v.2.1.1 v.2.2.1.1 (fun y0 y1 y2 => k (.exit 0) ⟨fillS 32 [4, 6, 7] [(.ptr [1, 0] 0 0), (.ptr [1, 1] 0 0), (.d ⟨.bool, y0⟩)], [([1, 0], ⟨50, 4, (.data Ty6 [y1])⟩), ([1, 1], ⟨50, 4, (.data Ty6 [y2])⟩)], 2⟩)
theorem ref13_At_L0.step (S : T_ref13_At_L0) : ∀ v k, exR 55 Tryz.f55 0 ref13_At_L0.p [] [] [] (ref13_At_L0.g S) v k = ref13_At_L0.g (ref13_At_L0.body S) v k := fun v k => by kernel_rfl
theorem ref13_At_L0.ok : okL 55 Tryz.f55 0 0 ref13_At_L0.p (ref13_At_L0.g (ref13_At_L0 ROUNDS)) := loop2 (G := fun n => ref13_At_L0.g (ref13_At_L0 n)) (fun n => ref13_At_L0.step (ref13_At_L0 n)) .nil [] (by kernel_rfl) .nil (fun _ _ => rfl)
/-- function 55: sheerleg/sheerlegref13.At -/
abbrev T_ref13_At : Type := Tc7 → Int → (Tc0 → Bool → Option Bool) → Option Bool
noncomputable def ref13_At.body (ref13_At_L0 : T_ref13_At_L0) : T_ref13_At := fun ts2073 n2074 k1 =>
  (ref13_At_L0 ts2073 n2074 false (0 : Int) (0, (0, (false, (0, ())))) (0, (0, (false, (0, ()))))
  (fun b2081 t2082 t2083 => (k1 t2083 b2081)))
noncomputable def ref13_At : T_ref13_At := ref13_At.body (ref13_At_L0 ROUNDS)
def ref13_At.p : FPat := fp 55 (pl (pb 0 127 Ty7) (pl (pd (.int .i64)) pz)) pz
def ref13_At.g (F : T_ref13_At) (v : ref13_At.p.T) (k : KR) : Option Bool := F v.1.1 v.1.2.1 (fun y0 y1 => k (.tup [(.d ⟨Ty6, y0⟩), (.d ⟨.bool, y1⟩)]) [])
theorem ref13_At.eq (L0 : T_ref13_At_L0) : ∀ v k, exF Tryz.f55 ref13_At.p [] [] [⟨0, ref13_At_L0.p, ref13_At_L0.g L0⟩] v k = ref13_At.g (ref13_At.body L0) v k := fun v k => by kernel_rfl
theorem ref13_At.ok : okF 1 ref13_At.p (ref13_At.g ref13_At) := fn2 (ref13_At.eq (ref13_At_L0 ROUNDS)) Tryz.func55 (by kernel_rfl) .nil [0] (by kernel_rfl) (.cons ref13_At_L0.ok .nil)
/-- function 16: sheerleg/sheerlegref34.At -/
abbrev T_ref34_At : Type := Tc10 → Int → (Tc0 → Option Bool) → Option Bool
noncomputable def ref34_At.body (ref13_At : T_ref13_At) : T_ref34_At := fun t2071 n2072 k1 =>
  (cond_ (! (decide (n2072 < (0 : Int)))) (cond_ (decide (n2072 ≥ (((List.length t2071.1) : Nat) : Int))) (k1 (0, (0, (false, (0, ()))))) (ref13_At t2071.2.2.2.1 n2072
  (fun t2084 b2085 => (k1 t2084)))) (k1 (0, (0, (false, (0, ()))))))
noncomputable def ref34_At : T_ref34_At := ref34_At.body ref13_At
def ref34_At.p : FPat := fp 16 (pl (pd Ty14) (pl (pd (.int .i64)) pz)) pz
def ref34_At.g (F : T_ref34_At) (v : ref34_At.p.T) (k : KR) : Option Bool := F v.1.1 v.1.2.1 (fun y0 => k (.d ⟨Ty6, y0⟩) [])
theorem ref34_At.eq (F0 : T_ref13_At) : ∀ v k, exF Tryz.f16 ref34_At.p [⟨ref13_At.p, ref13_At.g F0⟩] [] [] v k = ref34_At.g (ref34_At.body F0) v k := fun v k => by kernel_rfl
theorem ref34_At.ok : okF 2 ref34_At.p (ref34_At.g ref34_At) := fn2 (ref34_At.eq ref13_At) Tryz.func16 (by kernel_rfl) (.cons ref13_At.ok .nil) [] (by kernel_rfl) .nil
/-- function 56: the loop in block 0 -/
abbrev T_slices_IndexFunc_api_Fn_api_Fnv7_L0 : Type := Tc8 → Int → Int → Int → (Int → Int → Option Bool) → (Int → Option Bool) → Option Bool
noncomputable def slices_IndexFunc_api_Fn_api_Fnv7_L0.body (slices_IndexFunc_api_Fn_api_Fnv7_L0 : T_slices_IndexFunc_api_Fn_api_Fnv7_L0) (image_Fnfn1 : T_image_Fnfn1) : T_slices_IndexFunc_api_Fn_api_Fnv7_L0 := fun ts2091 n2092 n2093 n2094 k1 k2 =>
  (cond_ (decide (n2093 < n2092)) (cond_ ((decide ((0 : Int) ≤ n2093)) && (decide (n2093 < (List.length ts2091 : Int)))) (image_Fnfn1 (List.getD ts2091 (Int.toNat n2093) (0, (0, (0, (0, (0, (0, ()))))))) n2094
  (fun b2095 n2096 => (cond_ b2095 (k1 n2093 n2096) (slices_IndexFunc_api_Fn_api_Fnv7_L0 ts2091 n2092 (IntKind.wrap .i64 (n2093 + (1 : Int))) n2096 k1 k2)))) none) (k2 n2094))
noncomputable def slices_IndexFunc_api_Fn_api_Fnv7_L0 : Nat → T_slices_IndexFunc_api_Fn_api_Fnv7_L0
  | 0 => fun _ _ _ _ _ _ => none
  | n + 1 => slices_IndexFunc_api_Fn_api_Fnv7_L0.body (slices_IndexFunc_api_Fn_api_Fnv7_L0 n) image_Fnfn1
def slices_IndexFunc_api_Fn_api_Fnv7_L0.p : LPat := lp 2 19 [0, 1, 7, 8] (pl (pb 0 78 Ty11) (pl (pf 57 pz (ps (pq [0, 0] 0 0) pz)) (pl (pd (.int .i64)) (pl (pd (.int .i64)) pz)))) (pl (po [0, 0] 3 1 (es (.int .i64) (pl eh pz))) pz)
def slices_IndexFunc_api_Fn_api_Fnv7_L0.g (F : T_slices_IndexFunc_api_Fn_api_Fnv7_L0) (v : slices_IndexFunc_api_Fn_api_Fnv7_L0.p.T) (k : KE) : Option Bool := F v.1.1 v.1.2.2.1 v.1.2.2.2.1 v.2.1.1 (fun y0 y1 => k .ret ⟨fillS 19 [4] [(.d ⟨(.int .i64), y0⟩)], [([0, 0], ⟨3, 1, (.data (.int .i64) [y1])⟩)], 2⟩) (fun y0 => k (.exit 0) ⟨fillS 19 [] [], [([0, 0], ⟨3, 1, (.data (.int .i64) [y0])⟩)], 2⟩)
theorem slices_IndexFunc_api_Fn_api_Fnv7_L0.step (S : T_slices_IndexFunc_api_Fn_api_Fnv7_L0) (F0 : T_image_Fnfn1) : ∀ v k, exR 56 Tryz.f56 0 slices_IndexFunc_api_Fn_api_Fnv7_L0.p [⟨image_Fnfn1.p, image_Fnfn1.g F0⟩] [] [] (slices_IndexFunc_api_Fn_api_Fnv7_L0.g S) v k = slices_IndexFunc_api_Fn_api_Fnv7_L0.g (slices_IndexFunc_api_Fn_api_Fnv7_L0.body S F0) v k := fun v k => by kernel_rfl
theorem slices_IndexFunc_api_Fn_api_Fnv7_L0.ok : okL 56 Tryz.f56 1 0 slices_IndexFunc_api_Fn_api_Fnv7_L0.p (slices_IndexFunc_api_Fn_api_Fnv7_L0.g (slices_IndexFunc_api_Fn_api_Fnv7_L0 ROUNDS)) := loop2 (G := fun n => slices_IndexFunc_api_Fn_api_Fnv7_L0.g (slices_IndexFunc_api_Fn_api_Fnv7_L0 n)) (fun n => slices_IndexFunc_api_Fn_api_Fnv7_L0.step (slices_IndexFunc_api_Fn_api_Fnv7_L0 n) image_Fnfn1) (.cons image_Fnfn1.ok .nil) [] (by kernel_rfl) .nil (fun _ _ => rfl)
/-- function 56: slices.IndexFunc[[]sheerleg/api.Fn,sheerleg/api.Fn] -/
abbrev T_slices_IndexFunc_api_Fn_api_Fnv7 : Type := Tc8 → Int → (Int → Int → Option Bool) → Option Bool
noncomputable def slices_IndexFunc_api_Fn_api_Fnv7.body (slices_IndexFunc_api_Fn_api_Fnv7_L0 : T_slices_IndexFunc_api_Fn_api_Fnv7_L0) : T_slices_IndexFunc_api_Fn_api_Fnv7 := fun ts2089 n2090 k1 =>
  (slices_IndexFunc_api_Fn_api_Fnv7_L0 ts2089 (List.length ts2089 : Int) (0 : Int) n2090
  (fun n2097 n2098 => (k1 n2097 n2098))
  (fun n2099 => (k1 (-1 : Int) n2099)))
noncomputable def slices_IndexFunc_api_Fn_api_Fnv7 : T_slices_IndexFunc_api_Fn_api_Fnv7 := slices_IndexFunc_api_Fn_api_Fnv7.body (slices_IndexFunc_api_Fn_api_Fnv7_L0 ROUNDS)
def slices_IndexFunc_api_Fn_api_Fnv7.p : FPat := fp 56 (pl (pb 0 78 Ty11) (pl (pf 57 pz (ps (pq [0, 0] 0 0) pz)) pz)) (pl (po [0, 0] 3 1 (es (.int .i64) (pl eh pz))) pz)
def slices_IndexFunc_api_Fn_api_Fnv7.g (F : T_slices_IndexFunc_api_Fn_api_Fnv7) (v : slices_IndexFunc_api_Fn_api_Fnv7.p.T) (k : KR) : Option Bool := F v.1.1 v.2.1.1 (fun y0 y1 => k (.d ⟨(.int .i64), y0⟩) [([0, 0], ⟨3, 1, (.data (.int .i64) [y1])⟩)])
theorem slices_IndexFunc_api_Fn_api_Fnv7.eq (L0 : T_slices_IndexFunc_api_Fn_api_Fnv7_L0) : ∀ v k, exF Tryz.f56 slices_IndexFunc_api_Fn_api_Fnv7.p [] [] [⟨0, slices_IndexFunc_api_Fn_api_Fnv7_L0.p, slices_IndexFunc_api_Fn_api_Fnv7_L0.g L0⟩] v k = slices_IndexFunc_api_Fn_api_Fnv7.g (slices_IndexFunc_api_Fn_api_Fnv7.body L0) v k := fun v k => by kernel_rfl
theorem slices_IndexFunc_api_Fn_api_Fnv7.ok : okF 2 slices_IndexFunc_api_Fn_api_Fnv7.p (slices_IndexFunc_api_Fn_api_Fnv7.g slices_IndexFunc_api_Fn_api_Fnv7) := fn2 (slices_IndexFunc_api_Fn_api_Fnv7.eq (slices_IndexFunc_api_Fn_api_Fnv7_L0 ROUNDS)) Tryz.func56 (by kernel_rfl) .nil [0] (by kernel_rfl) (.cons slices_IndexFunc_api_Fn_api_Fnv7_L0.ok .nil)
/-- function 17: sheerleg/image.Fn -/
abbrev T_image_Fnv1 : Type := Tc10 → Int → (Int → Option Bool) → Option Bool
noncomputable def image_Fnv1.body (slices_IndexFunc_api_Fn_api_Fnv7 : T_slices_IndexFunc_api_Fn_api_Fnv7) : T_image_Fnv1 := fun t2087 n2088 k1 =>
  (slices_IndexFunc_api_Fn_api_Fnv7 t2087.2.2.1 n2088
  (fun n2100 n2101 => (k1 n2100)))
noncomputable def image_Fnv1 : T_image_Fnv1 := image_Fnv1.body slices_IndexFunc_api_Fn_api_Fnv7
def image_Fnv1.p : FPat := fp 17 (pl (pd Ty14) (pl (pd (.int .i64)) pz)) pz
def image_Fnv1.g (F : T_image_Fnv1) (v : image_Fnv1.p.T) (k : KR) : Option Bool := F v.1.1 v.1.2.1 (fun y0 => k (.d ⟨(.int .i64), y0⟩) [])
theorem image_Fnv1.eq (F0 : T_slices_IndexFunc_api_Fn_api_Fnv7) : ∀ v k, exF Tryz.f17 image_Fnv1.p [⟨slices_IndexFunc_api_Fn_api_Fnv7.p, slices_IndexFunc_api_Fn_api_Fnv7.g F0⟩] [] [] v k = image_Fnv1.g (image_Fnv1.body F0) v k := fun v k => by kernel_rfl
theorem image_Fnv1.ok : okF 3 image_Fnv1.p (image_Fnv1.g image_Fnv1) := fn2 (image_Fnv1.eq slices_IndexFunc_api_Fn_api_Fnv7) Tryz.func17 (by kernel_rfl) (.cons slices_IndexFunc_api_Fn_api_Fnv7.ok .nil) [] (by kernel_rfl) .nil
/-- function 18: the loop in block 0 -/
abbrev T_ref34_Fn_L0 : Type := Int → Int → Tc10 → (Int → Option Bool) → (Option Bool) → Option Bool
noncomputable def ref34_Fn_L0.body (ref34_Fn_L0 : T_ref34_Fn_L0) : T_ref34_Fn_L0 := fun n2105 n2106 t2107 k1 k2 =>
  (cond_ (decide (n2106 < (((List.length t2107.2.2.1) : Nat) : Int))) (cond_ ((decide ((0 : Int) ≤ n2106)) && (decide (n2106 < (((List.length t2107.2.2.1) : Nat) : Int)))) (cond_ (decide (n2105 ≥ (List.getD t2107.2.2.1 (Int.toNat n2106) (0, (0, (0, (0, (0, (0, ()))))))).2.2.1)) (cond_ ((decide ((0 : Int) ≤ n2106)) && (decide (n2106 < (((List.length t2107.2.2.1) : Nat) : Int)))) (cond_ (decide (n2105 < (List.getD t2107.2.2.1 (Int.toNat n2106) (0, (0, (0, (0, (0, (0, ()))))))).2.2.2.2.1)) (k1 n2106) (ref34_Fn_L0 n2105 (IntKind.wrap .i64 (n2106 + (1 : Int))) t2107 k1 k2)) none) (ref34_Fn_L0 n2105 (IntKind.wrap .i64 (n2106 + (1 : Int))) t2107 k1 k2)) none) (k2))
noncomputable def ref34_Fn_L0 : Nat → T_ref34_Fn_L0
  | 0 => fun _ _ _ _ _ => none
  | n + 1 => ref34_Fn_L0.body (ref34_Fn_L0 n)
def ref34_Fn_L0.p : LPat := lp 2 32 [1, 2, 5] (pl (pd (.int .i64)) (ps (pq [1, 0] 0 0) (pl (pd (.int .i64)) pz))) (pl (po [1, 0] 40 5 (es Ty14 (pl eh pz))) pz)
def ref34_Fn_L0.g (F : T_ref34_Fn_L0) (v : ref34_Fn_L0.p.T) (k : KE) : Option Bool := F v.1.1 v.1.2.1 v.2.1.1 (fun y0 => k .ret ⟨fillS 32 [4] [(.d ⟨(.int .i64), y0⟩)], [], 2⟩) (k (.exit 0) ⟨fillS 32 [] [], [], 2⟩)
theorem ref34_Fn_L0.step (S : T_ref34_Fn_L0) : ∀ v k, exR 18 Tryz.f18 0 ref34_Fn_L0.p [] [] [] (ref34_Fn_L0.g S) v k = ref34_Fn_L0.g (ref34_Fn_L0.body S) v k := fun v k => by kernel_rfl
theorem ref34_Fn_L0.ok : okL 18 Tryz.f18 0 0 ref34_Fn_L0.p (ref34_Fn_L0.g (ref34_Fn_L0 ROUNDS)) := loop2 (G := fun n => ref34_Fn_L0.g (ref34_Fn_L0 n)) (fun n => ref34_Fn_L0.step (ref34_Fn_L0 n)) .nil [] (by kernel_rfl) .nil (fun _ _ => rfl)
/-- function 18: sheerleg/sheerlegref34.Fn -/
abbrev T_ref34_Fn : Type := Tc10 → Int → (Int → Option Bool) → Option Bool
noncomputable def ref34_Fn.body (ref34_Fn_L0 : T_ref34_Fn_L0) : T_ref34_Fn := fun t2103 n2104 k1 =>
  (ref34_Fn_L0 n2104 (0 : Int) t2103
  (fun n2108 => (k1 n2108))
  (k1 (-1 : Int)))
noncomputable def ref34_Fn : T_ref34_Fn := ref34_Fn.body (ref34_Fn_L0 ROUNDS)
def ref34_Fn.p : FPat := fp 18 (pl (pd Ty14) (pl (pd (.int .i64)) pz)) pz
def ref34_Fn.g (F : T_ref34_Fn) (v : ref34_Fn.p.T) (k : KR) : Option Bool := F v.1.1 v.1.2.1 (fun y0 => k (.d ⟨(.int .i64), y0⟩) [])
theorem ref34_Fn.eq (L0 : T_ref34_Fn_L0) : ∀ v k, exF Tryz.f18 ref34_Fn.p [] [] [⟨0, ref34_Fn_L0.p, ref34_Fn_L0.g L0⟩] v k = ref34_Fn.g (ref34_Fn.body L0) v k := fun v k => by kernel_rfl
theorem ref34_Fn.ok : okF 1 ref34_Fn.p (ref34_Fn.g ref34_Fn) := fn2 (ref34_Fn.eq (ref34_Fn_L0 ROUNDS)) Tryz.func18 (by kernel_rfl) .nil [0] (by kernel_rfl) (.cons ref34_Fn_L0.ok .nil)
/-- function 4: sheerleg/sheerleglaw34.ImageChecks -/
abbrev T_law34_ImageChecks : Type := Tc10 → Int → (Bool → Option Bool) → Option Bool
noncomputable def law34_ImageChecks.body (ref34_Few : T_ref34_Few) (law34_known : T_law34_known) (image_Checkv2 : T_image_Checkv2) (ref34_Check : T_ref34_Check) (image_Atv1 : T_image_Atv1) (ref34_At : T_ref34_At) (image_Fnv1 : T_image_Fnv1) (ref34_Fn : T_ref34_Fn) : T_law34_ImageChecks := fun t876 n877 k1 =>
  (ref34_Few t876
  (fun b878 => (cond_ (! b878) (law34_known
  (fun b1856 => (k1 b1856))) (image_Checkv2 t876
  (fun n2019 => (ref34_Check t876
  (fun n2050 => (cond_ (n2019 == n2050) (image_Atv1 t876 n877
  (fun t2070 => (ref34_At t876 n877
  (fun t2086 => (cond_ ((t2070.1 == t2086.1) && ((t2070.2.1 == t2086.2.1) && ((t2070.2.2.1 == t2086.2.2.1) && ((t2070.2.2.2.1 == t2086.2.2.2.1) && true)))) (image_Fnv1 t876 n877
  (fun n2102 => (ref34_Fn t876 n877
  (fun n2109 => (cond_ (n2102 == n2109) (law34_known
  (fun b2110 => (k1 b2110))) (k1 false)))))) (k1 false)))))) (k1 false)))))))))
noncomputable def law34_ImageChecks : T_law34_ImageChecks := law34_ImageChecks.body ref34_Few law34_known image_Checkv2 ref34_Check image_Atv1 ref34_At image_Fnv1 ref34_Fn
def law34_ImageChecks.p : FPat := fp 4 (pl (pd Ty14) (pl (pd (.int .i64)) pz)) pz
def law34_ImageChecks.g (F : T_law34_ImageChecks) (v : law34_ImageChecks.p.T) (k : KR) : Option Bool := F v.1.1 v.1.2.1 (fun y0 => k (.d ⟨.bool, y0⟩) [])
theorem law34_ImageChecks.eq (F0 : T_ref34_Few) (F1 : T_law34_known) (F2 : T_image_Checkv2) (F3 : T_ref34_Check) (F4 : T_image_Atv1) (F5 : T_ref34_At) (F6 : T_image_Fnv1) (F7 : T_ref34_Fn) : ∀ v k, exF Tryz.f4 law34_ImageChecks.p [⟨ref34_Few.p, ref34_Few.g F0⟩, ⟨law34_known.p, law34_known.g F1⟩, ⟨image_Checkv2.p, image_Checkv2.g F2⟩, ⟨ref34_Check.p, ref34_Check.g F3⟩, ⟨image_Atv1.p, image_Atv1.g F4⟩, ⟨ref34_At.p, ref34_At.g F5⟩, ⟨image_Fnv1.p, image_Fnv1.g F6⟩, ⟨ref34_Fn.p, ref34_Fn.g F7⟩] [] [] v k = law34_ImageChecks.g (law34_ImageChecks.body F0 F1 F2 F3 F4 F5 F6 F7) v k := fun v k => by kernel_rfl
attribute [local irreducible] law34_known
theorem law34_ImageChecks.ok : okF 10 law34_ImageChecks.p (law34_ImageChecks.g law34_ImageChecks) := fn2 (law34_ImageChecks.eq ref34_Few law34_known image_Checkv2 ref34_Check image_Atv1 ref34_At image_Fnv1 ref34_Fn) Tryz.func4 (by kernel_rfl) (.cons ref34_Few.ok (.cons law34_known.ok (.cons image_Checkv2.ok (.cons ref34_Check.ok (.cons image_Atv1.ok (.cons ref34_At.ok (.cons image_Fnv1.ok (.cons ref34_Fn.ok .nil)))))))) [] (by kernel_rfl) .nil
-- LAWROW law34_ImageChecks | 4 | 10 | Ty14 ¦ (.int .i64)
end Go.Proofs.YtnkpadpfpjeahaaGreat.k
