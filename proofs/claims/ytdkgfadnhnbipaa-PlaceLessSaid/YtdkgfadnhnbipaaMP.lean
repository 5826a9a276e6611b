/- What the functions come to that P reaches, as plain functions; written by a program of this work, each told by Lean. -/
import Derived.Test.YtdkgfadnhnbipaaMP1
namespace Go.Proofs.Ytdkgfadnhnbipaa.p
open Go.AX
set_option linter.unusedVariables false
set_option maxRecDepth 100000
set_option maxHeartbeats 4000000
/-- function 37: sheerleg/place.laid -/
abbrev T_place_laid : Type := Int → Int → Tc18 → Tc1 → (Tc18 → Tc1 → Int → Int → Option Bool) → Option Bool
noncomputable def place_laid.body : T_place_laid := fun n845 n846 t847 t848 k1 =>
  (k1 t847 t848 n846 n845)
noncomputable def place_laid : T_place_laid := place_laid.body
def place_laid.p : FPat := fp 37 (pl (pd (.int .i64)) (pl (pd (.int .i64)) (pl (pf 38 pz (ps (pq [0, 0] 0 0) (ps (pq [0, 1] 0 0) pz))) pz))) (pl (po [0, 0] 30 3 (es Ty24 (pl eh pz))) (pl (po [0, 1] 26 2 (es Ty6 (pl eh pz))) pz))
def place_laid.g (F : T_place_laid) (v : place_laid.p.T) (k : KR) : Option Bool := F v.1.1 v.1.2.1 v.2.1.1 v.2.2.1.1 (fun y0 y1 y2 y3 => k (.fn (.func 56) [] [(.ptr [1, 0] 0 0), (.ptr [1, 1] 0 0), (.ptr [1, 2] 0 0)]) [([0, 0], ⟨30, 3, (.data Ty24 [y0])⟩), ([0, 1], ⟨26, 2, (.data Ty6 [y1])⟩), ([1, 0], ⟨3, 1, (.data (.int .i64) [y2])⟩), ([1, 1], ⟨3, 1, (.data (.int .i64) [y3])⟩), ([1, 2], ⟨95, 1, (.mix [(.fn (.func 38) [] [(.ptr [0, 0] 0 0), (.ptr [0, 1] 0 0)])])⟩)])
theorem place_laid.eq : ∀ v k, exF Try.f37 place_laid.p [] [] [] v k = place_laid.g (place_laid.body) v k := fun v k => by kernel_rfl
theorem place_laid.ok : okF 1 place_laid.p (place_laid.g place_laid) := fn2 (place_laid.eq) Try.func37 (by kernel_rfl) .nil [] (by kernel_rfl) .nil
/-- function 24: sheerleg/place.funs -/
abbrev T_place_funs : Type := Tc18 → Tc1 → (Int → Int → Tc18 → Tc1 → Option Bool) → Option Bool
noncomputable def place_funs.body (place_laid : T_place_laid) : T_place_funs := fun t843 t844 k1 =>
  (place_laid (2 : Int) (((List.length t843.1) : Nat) : Int) t843 t844
  (fun t849 t850 n851 n852 => (k1 n851 n852 t849 t850)))
noncomputable def place_funs : T_place_funs := place_funs.body place_laid
def place_funs.p : FPat := fp 24 (pl (pd Ty24) (pl (pd Ty6) pz)) pz
def place_funs.g (F : T_place_funs) (v : place_funs.p.T) (k : KR) : Option Bool := F v.1.1 v.1.2.1 (fun y0 y1 y2 y3 => k (.fn (.func 56) [] [(.ptr [1, 0] 0 0), (.ptr [1, 1] 0 0), (.ptr [1, 2] 0 0)]) [([1, 0], ⟨3, 1, (.data (.int .i64) [y0])⟩), ([1, 1], ⟨3, 1, (.data (.int .i64) [y1])⟩), ([1, 2], ⟨95, 1, (.mix [(.fn (.func 38) [] [(.ptr [1, 3] 0 0), (.ptr [1, 4] 0 0)])])⟩), ([1, 3], ⟨30, 3, (.data Ty24 [y2])⟩), ([1, 4], ⟨26, 2, (.data Ty6 [y3])⟩)])
theorem place_funs.eq (F0 : T_place_laid) : ∀ v k, exF Try.f24 place_funs.p [⟨place_laid.p, place_laid.g F0⟩] [] [] v k = place_funs.g (place_funs.body F0) v k := fun v k => by kernel_rfl
theorem place_funs.ok : okF 2 place_funs.p (place_funs.g place_funs) := fn2 (place_funs.eq place_laid) Try.func24 (by kernel_rfl) (.cons place_laid.ok .nil) [] (by kernel_rfl) .nil
/-- function 57: sheerleg/prologue.has -/
abbrev T_prologue_has : Type := (List Bool) → Int → (Bool → Option Bool) → Option Bool
noncomputable def prologue_has.body : T_prologue_has := fun bs874 n875 k1 =>
  (cond_ (decide (n875 ≥ (0 : Int))) (cond_ (decide (n875 < (List.length bs874 : Int))) (cond_ ((decide ((0 : Int) ≤ n875)) && (decide (n875 < (List.length bs874 : Int)))) (k1 (List.getD bs874 (Int.toNat n875) false)) none) (k1 false)) (k1 false))
noncomputable def prologue_has : T_prologue_has := prologue_has.body
def prologue_has.p : FPat := fp 57 (pl (pb 0 4 .bool) (pl (pd (.int .i64)) pz)) pz
def prologue_has.g (F : T_prologue_has) (v : prologue_has.p.T) (k : KR) : Option Bool := F v.1.1 v.1.2.1 (fun y0 => k (.d ⟨.bool, y0⟩) [])
theorem prologue_has.eq : ∀ v k, exF Try.f57 prologue_has.p [] [] [] v k = prologue_has.g (prologue_has.body) v k := fun v k => by kernel_rfl
theorem prologue_has.ok : okF 1 prologue_has.p (prologue_has.g prologue_has) := fn2 (prologue_has.eq) Try.func57 (by kernel_rfl) .nil [] (by kernel_rfl) .nil
/-- function 39: sheerleg/prologue.Size -/
abbrev T_prologue_Size : Type := Tc18 → Tc1 → Int → (Int → Option Bool) → Option Bool
noncomputable def prologue_Size.body (prologue_has : T_prologue_has) : T_prologue_Size := fun t871 t872 n873 k1 =>
  (cond_ (! (decide (n873 ≥ (((List.length t871.1) : Nat) : Int)))) (prologue_has t872.1 n873
  (fun b876 => (cond_ (! b876) (k1 (0 : Int)) (cond_ ((decide ((0 : Int) ≤ n873)) && (decide (n873 < (((List.length t871.1) : Nat) : Int)))) (cond_ (decide (n873 < (((List.length t872.2.1) : Nat) : Int))) (cond_ ((decide ((0 : Int) ≤ n873)) && (decide (n873 < (((List.length t872.2.1) : Nat) : Int)))) (cond_ ((List.getD t872.2.1 (Int.toNat n873) (0 : Int)) != (0 : Int)) (k1 (IntKind.wrap .i64 ((IntKind.wrap .i64 ((1 : Int) + (((List.length (List.getD t871.1 (Int.toNat n873) (0, (0, ((⟨#[]⟩ : ByteArray), (0, ([], (0, (false, (0, (0, ([], ([], ([], ([], ())))))))))))))).2.2.2.2.2.2.2.2.2.2.1) : Nat) : Int))) + (1 : Int)))) (k1 (IntKind.wrap .i64 ((1 : Int) + (((List.length (List.getD t871.1 (Int.toNat n873) (0, (0, ((⟨#[]⟩ : ByteArray), (0, ([], (0, (false, (0, (0, ([], ([], ([], ([], ())))))))))))))).2.2.2.2.2.2.2.2.2.2.1) : Nat) : Int))))) none) (k1 (IntKind.wrap .i64 ((1 : Int) + (((List.length (List.getD t871.1 (Int.toNat n873) (0, (0, ((⟨#[]⟩ : ByteArray), (0, ([], (0, (false, (0, (0, ([], ([], ([], ([], ())))))))))))))).2.2.2.2.2.2.2.2.2.2.1) : Nat) : Int))))) none)))) (k1 (0 : Int)))
noncomputable def prologue_Size : T_prologue_Size := prologue_Size.body prologue_has
def prologue_Size.p : FPat := fp 39 (pl (pd Ty24) (pl (pd Ty6) (pl (pd (.int .i64)) pz))) pz
def prologue_Size.g (F : T_prologue_Size) (v : prologue_Size.p.T) (k : KR) : Option Bool := F v.1.1 v.1.2.1 v.1.2.2.1 (fun y0 => k (.d ⟨(.int .i64), y0⟩) [])
theorem prologue_Size.eq (F0 : T_prologue_has) : ∀ v k, exF Try.f39 prologue_Size.p [⟨prologue_has.p, prologue_has.g F0⟩] [] [] v k = prologue_Size.g (prologue_Size.body F0) v k := fun v k => by kernel_rfl
theorem prologue_Size.ok : okF 2 prologue_Size.p (prologue_Size.g prologue_Size) := fn2 (prologue_Size.eq prologue_has) Try.func39 (by kernel_rfl) (.cons prologue_has.ok .nil) [] (by kernel_rfl) .nil
/-- function 38: sheerleg/place.funs$1 -/
abbrev T_place_funsfn1 : Type := Int → Tc18 → Tc1 → (Int → Tc18 → Tc1 → Option Bool) → Option Bool
noncomputable def place_funsfn1.body (prologue_Size : T_prologue_Size) : T_place_funsfn1 := fun n868 t869 t870 k1 =>
  (prologue_Size t869 t870 n868
  (fun n877 => (k1 n877 t869 t870)))
noncomputable def place_funsfn1 : T_place_funsfn1 := place_funsfn1.body prologue_Size
def place_funsfn1.p : FPat := fp 38 (pl (pd (.int .i64)) (ps (pq [0, 0] 0 0) (ps (pq [0, 1] 0 0) pz))) (pl (po [0, 0] 30 3 (es Ty24 (pl eh pz))) (pl (po [0, 1] 26 2 (es Ty6 (pl eh pz))) pz))
def place_funsfn1.g (F : T_place_funsfn1) (v : place_funsfn1.p.T) (k : KR) : Option Bool := F v.1.1 v.2.1.1 v.2.2.1.1 (fun y0 y1 y2 => k (.d ⟨(.int .i64), y0⟩) [([0, 0], ⟨30, 3, (.data Ty24 [y1])⟩), ([0, 1], ⟨26, 2, (.data Ty6 [y2])⟩)])
theorem place_funsfn1.eq (F0 : T_prologue_Size) : ∀ v k, exF Try.f38 place_funsfn1.p [⟨prologue_Size.p, prologue_Size.g F0⟩] [] [] v k = place_funsfn1.g (place_funsfn1.body F0) v k := fun v k => by kernel_rfl
theorem place_funsfn1.ok : okF 3 place_funsfn1.p (place_funsfn1.g place_funsfn1) := fn2 (place_funsfn1.eq prologue_Size) Try.func38 (by kernel_rfl) (.cons prologue_Size.ok .nil) [] (by kernel_rfl) .nil
/-- function 4295557120: sheerleg/place.Starts.round0 -/
abbrev T_place_Starts_round0 : Type := Int → (Int × Int × Unit) → (List Int) → (Bool → (List Int) → Option Bool) → Option Bool
noncomputable def place_Starts_round0.body : T_place_Starts_round0 := fun n881 t882 ns883 k1 =>
  (cond_ (t882.1 == t882.2.1) (cond_ (Nat.ble (((List.length ns883) + (List.length ((-1 : Int) :: []))) * (8 : Nat)) (140737488355328 : Nat)) (k1 true (ns883 ++ ((-1 : Int) :: []))) none) (cond_ (Nat.ble (((List.length ns883) + (List.length (t882.1 :: []))) * (8 : Nat)) (140737488355328 : Nat)) (k1 true (ns883 ++ (t882.1 :: []))) none))
noncomputable def place_Starts_round0 : T_place_Starts_round0 := place_Starts_round0.body
def place_Starts_round0.p : FPat := fp 4295557120 (pl (pd (.int .i64)) (pl (pd Ty3) (ps (pk 4) (ps (pk 4) (ps (pk 4) (ps (pk 4) (ps (pk 4) (ps (pq [0, 0] 0 0) (ps (pk 4) (ps (pk 3) (ps (pk 4) (ps (pk 4) (ps (pk 4) (ps (pk 4) (ps (pk 3) (ps (pk 3) (ps (pk 3) (ps (pk 3) (ps (pk 3) (ps (pk 3) (ps (pk 3) (ps (pk 3) (ps (pk 3) (ps (pk 3) (ps (pk 3) (ps (pk 3) (ps (pk 4) pz))))))))))))))))))))))))))) (ps (po [0, 0] 24 1 (em (ps (pr [0, 1]) pz))) (pl (po [0, 1] 3 1 (ed (.int .i64))) pz))
def place_Starts_round0.g (F : T_place_Starts_round0) (v : place_Starts_round0.p.T) (k : KR) : Option Bool := F v.1.1 v.1.2.1 v.2.1 (fun y0 y1 => k (.d ⟨.bool, y0⟩) [([0, 0], ⟨24, 1, (.mix [(.ref [1, 0])])⟩), ([1, 0], ⟨3, 1, (.data (.int .i64) y1)⟩)])
theorem place_Starts_round0.eq : ∀ v k, exB (rbAt Try.prog 589824) place_Starts_round0.p [] [] [] v k = place_Starts_round0.g (place_Starts_round0.body) v k := fun v k => by kernel_rfl
theorem place_Starts_round0.ok : okF 1 place_Starts_round0.p (place_Starts_round0.g place_Starts_round0) := rnd2 (place_Starts_round0.eq) rfl (by kernel_rfl) .nil [] (by kernel_rfl) .nil
/-- function 25: sheerleg/sheerlegref28.Kept -/
abbrev T_ref28_Kept : Type := Tc18 → Tc1 → Int → (Bool → Option Bool) → Option Bool
noncomputable def ref28_Kept.body : T_ref28_Kept := fun t908 t909 n910 k1 =>
  (cond_ (decide (n910 ≥ (0 : Int))) (cond_ (decide (n910 < (((List.length t908.1) : Nat) : Int))) (cond_ (decide (n910 < (((List.length t909.1) : Nat) : Int))) (cond_ ((decide ((0 : Int) ≤ n910)) && (decide (n910 < (((List.length t909.1) : Nat) : Int)))) (k1 (List.getD t909.1 (Int.toNat n910) false)) none) (k1 false)) (k1 false)) (k1 false))
noncomputable def ref28_Kept : T_ref28_Kept := ref28_Kept.body
def ref28_Kept.p : FPat := fp 25 (pl (pd Ty24) (pl (pd Ty6) (pl (pd (.int .i64)) pz))) pz
def ref28_Kept.g (F : T_ref28_Kept) (v : ref28_Kept.p.T) (k : KR) : Option Bool := F v.1.1 v.1.2.1 v.1.2.2.1 (fun y0 => k (.d ⟨.bool, y0⟩) [])
theorem ref28_Kept.eq : ∀ v k, exF Try.f25 ref28_Kept.p [] [] [] v k = ref28_Kept.g (ref28_Kept.body) v k := fun v k => by kernel_rfl
theorem ref28_Kept.ok : okF 1 ref28_Kept.p (ref28_Kept.g ref28_Kept) := fn2 (ref28_Kept.eq) Try.func25 (by kernel_rfl) .nil [] (by kernel_rfl) .nil
/-- function 58: sheerleg/sheerlegref28.Check -/
abbrev T_ref28_Check : Type := Tc1 → Int → (Int → Option Bool) → Option Bool
noncomputable def ref28_Check.body : T_ref28_Check := fun t924 n925 k1 =>
  (cond_ (! (decide (n925 < (0 : Int)))) (cond_ (decide (n925 ≥ (((List.length t924.2.1) : Nat) : Int))) (k1 (0 : Int)) (cond_ ((decide ((0 : Int) ≤ n925)) && (decide (n925 < (((List.length t924.2.1) : Nat) : Int)))) (k1 (List.getD t924.2.1 (Int.toNat n925) (0 : Int))) none)) (k1 (0 : Int)))
noncomputable def ref28_Check : T_ref28_Check := ref28_Check.body
def ref28_Check.p : FPat := fp 58 (pl (pd Ty6) (pl (pd (.int .i64)) pz)) pz
def ref28_Check.g (F : T_ref28_Check) (v : ref28_Check.p.T) (k : KR) : Option Bool := F v.1.1 v.1.2.1 (fun y0 => k (.d ⟨(.int .i64), y0⟩) [])
theorem ref28_Check.eq : ∀ v k, exF Try.f58 ref28_Check.p [] [] [] v k = ref28_Check.g (ref28_Check.body) v k := fun v k => by kernel_rfl
theorem ref28_Check.ok : okF 1 ref28_Check.p (ref28_Check.g ref28_Check) := fn2 (ref28_Check.eq) Try.func58 (by kernel_rfl) .nil [] (by kernel_rfl) .nil
/-- function 40: sheerleg/sheerlegref28.Size -/
abbrev T_ref28_Size : Type := Tc18 → Tc1 → Int → (Int → Option Bool) → Option Bool
noncomputable def ref28_Size.body (ref28_Kept : T_ref28_Kept) (ref28_Check : T_ref28_Check) : T_ref28_Size := fun t920 t921 n922 k1 =>
  (ref28_Kept t920 t921 n922
  (fun b923 => (cond_ (! b923) (k1 (0 : Int)) (cond_ ((decide ((0 : Int) ≤ n922)) && (decide (n922 < (((List.length t920.1) : Nat) : Int)))) (ref28_Check t921 n922
  (fun n926 => (cond_ (n926 != (0 : Int)) (k1 (IntKind.wrap .i64 ((IntKind.wrap .i64 ((1 : Int) + (((List.length (List.getD t920.1 (Int.toNat n922) (0, (0, ((⟨#[]⟩ : ByteArray), (0, ([], (0, (false, (0, (0, ([], ([], ([], ([], ())))))))))))))).2.2.2.2.2.2.2.2.2.2.1) : Nat) : Int))) + (1 : Int)))) (k1 (IntKind.wrap .i64 ((1 : Int) + (((List.length (List.getD t920.1 (Int.toNat n922) (0, (0, ((⟨#[]⟩ : ByteArray), (0, ([], (0, (false, (0, (0, ([], ([], ([], ([], ())))))))))))))).2.2.2.2.2.2.2.2.2.2.1) : Nat) : Int))))))) none))))
noncomputable def ref28_Size : T_ref28_Size := ref28_Size.body ref28_Kept ref28_Check
def ref28_Size.p : FPat := fp 40 (pl (pd Ty24) (pl (pd Ty6) (pl (pd (.int .i64)) pz))) pz
def ref28_Size.g (F : T_ref28_Size) (v : ref28_Size.p.T) (k : KR) : Option Bool := F v.1.1 v.1.2.1 v.1.2.2.1 (fun y0 => k (.d ⟨(.int .i64), y0⟩) [])
theorem ref28_Size.eq (F0 : T_ref28_Kept) (F1 : T_ref28_Check) : ∀ v k, exF Try.f40 ref28_Size.p [⟨ref28_Kept.p, ref28_Kept.g F0⟩, ⟨ref28_Check.p, ref28_Check.g F1⟩] [] [] v k = ref28_Size.g (ref28_Size.body F0 F1) v k := fun v k => by kernel_rfl
theorem ref28_Size.ok : okF 2 ref28_Size.p (ref28_Size.g ref28_Size) := fn2 (ref28_Size.eq ref28_Kept ref28_Check) Try.func40 (by kernel_rfl) (.cons ref28_Kept.ok (.cons ref28_Check.ok .nil)) [] (by kernel_rfl) .nil
/-- function 26: the loop in block 0 -/
abbrev T_ref29_start_L0 : Type := Int → Int → Int → Tc18 → Tc1 → (Int → Option Bool) → Option Bool
noncomputable def ref29_start_L0.body (ref29_start_L0 : T_ref29_start_L0) (ref28_Size : T_ref28_Size) : T_ref29_start_L0 := fun n915 n916 n917 t918 t919 k1 =>
  (cond_ (decide (n917 < n915)) (ref28_Size t918 t919 n917
  (fun n927 => (ref29_start_L0 n915 (IntKind.wrap .i64 (n916 + n927)) (IntKind.wrap .i64 (n917 + (1 : Int))) t918 t919 k1))) (k1 n916))
noncomputable def ref29_start_L0 : Nat → T_ref29_start_L0
  | 0 => fun _ _ _ _ _ _ => none
  | n + 1 => ref29_start_L0.body (ref29_start_L0 n) ref28_Size
def ref29_start_L0.p : LPat := lp 2 21 [2, 3, 4, 7, 8] (pl (pd (.int .i64)) (ps (pq [1, 0] 0 0) (ps (pq [1, 1] 0 0) (pl (pd (.int .i64)) (pl (pd (.int .i64)) pz))))) (pl (po [1, 0] 30 3 (es Ty24 (pl eh pz))) (pl (po [1, 1] 26 2 (es Ty6 (pl eh pz))) pz))
def ref29_start_L0.g (F : T_ref29_start_L0) (v : ref29_start_L0.p.T) (k : KE) : Option Bool := F v.1.1 v.1.2.1 v.1.2.2.1 v.2.1.1 v.2.2.1.1 (fun y0 => k (.exit 0) ⟨fillS 21 [7] [(.d ⟨(.int .i64), y0⟩)], [], 2⟩)
theorem ref29_start_L0.step (S : T_ref29_start_L0) (F0 : T_ref28_Size) : ∀ v k, exR 26 Try.f26 0 ref29_start_L0.p [⟨ref28_Size.p, ref28_Size.g F0⟩] [] [] (ref29_start_L0.g S) v k = ref29_start_L0.g (ref29_start_L0.body S F0) v k := fun v k => by kernel_rfl
theorem ref29_start_L0.ok : okL 26 Try.f26 2 0 ref29_start_L0.p (ref29_start_L0.g (ref29_start_L0 ROUNDS)) := loop2 (G := fun n => ref29_start_L0.g (ref29_start_L0 n)) (fun n => ref29_start_L0.step (ref29_start_L0 n) ref28_Size) (.cons ref28_Size.ok .nil) [] (by kernel_rfl) .nil (fun _ _ => rfl)
/-- function 26: sheerleg/sheerlegref29.start -/
abbrev T_ref29_start : Type := Tc18 → Tc1 → Int → (Int → Option Bool) → Option Bool
noncomputable def ref29_start.body (ref29_start_L0 : T_ref29_start_L0) : T_ref29_start := fun t912 t913 n914 k1 =>
  (ref29_start_L0 n914 (2 : Int) (0 : Int) t912 t913
  (fun n928 => (k1 n928)))
noncomputable def ref29_start : T_ref29_start := ref29_start.body (ref29_start_L0 ROUNDS)
def ref29_start.p : FPat := fp 26 (pl (pd Ty24) (pl (pd Ty6) (pl (pd (.int .i64)) pz))) pz
def ref29_start.g (F : T_ref29_start) (v : ref29_start.p.T) (k : KR) : Option Bool := F v.1.1 v.1.2.1 v.1.2.2.1 (fun y0 => k (.d ⟨(.int .i64), y0⟩) [])
theorem ref29_start.eq (L0 : T_ref29_start_L0) : ∀ v k, exF Try.f26 ref29_start.p [] [] [⟨0, ref29_start_L0.p, ref29_start_L0.g L0⟩] v k = ref29_start.g (ref29_start.body L0) v k := fun v k => by kernel_rfl
theorem ref29_start.ok : okF 3 ref29_start.p (ref29_start.g ref29_start) := fn2 (ref29_start.eq (ref29_start_L0 ROUNDS)) Try.func26 (by kernel_rfl) .nil [0] (by kernel_rfl) (.cons ref29_start_L0.ok .nil)
/-- function 10: the loop in block 0 -/
abbrev T_ref29_Starts_L0 : Type := Int → Tc18 → Tc1 → (List Int) → ((List Int) → Option Bool) → Option Bool
noncomputable def ref29_Starts_L0.body (ref29_Starts_L0 : T_ref29_Starts_L0) (ref28_Kept : T_ref28_Kept) (ref29_start : T_ref29_start) : T_ref29_Starts_L0 := fun n904 t905 t906 ns907 k1 =>
  (cond_ (decide (n904 < (((List.length t905.1) : Nat) : Int))) (ref28_Kept t905 t906 n904
  (fun b911 => (cond_ b911 (ref29_start t905 t906 n904
  (fun n929 => (cond_ (Nat.ble (((List.length ns907) + (List.length (n929 :: []))) * (8 : Nat)) (140737488355328 : Nat)) (ref29_Starts_L0 (IntKind.wrap .i64 (n904 + (1 : Int))) t905 t906 (ns907 ++ (n929 :: [])) k1) none))) (cond_ (Nat.ble (((List.length ns907) + (1 : Nat)) * (8 : Nat)) (140737488355328 : Nat)) (ref29_Starts_L0 (IntKind.wrap .i64 (n904 + (1 : Int))) t905 t906 (ns907 ++ ((-1 : Int) :: [])) k1) none)))) (k1 ns907))
noncomputable def ref29_Starts_L0 : Nat → T_ref29_Starts_L0
  | 0 => fun _ _ _ _ _ => none
  | n + 1 => ref29_Starts_L0.body (ref29_Starts_L0 n) ref28_Kept ref29_start
def ref29_Starts_L0.p : LPat := lp 2 28 [2, 3, 5, 6] (ps (pq [1, 0] 0 0) (ps (pq [1, 1] 0 0) (ps (pr [1, 2]) (pl (pd (.int .i64)) pz)))) (pl (po [1, 0] 30 3 (es Ty24 (pl eh pz))) (pl (po [1, 1] 26 2 (es Ty6 (pl eh pz))) (pl (po [1, 2] 3 1 (ed (.int .i64))) pz)))
def ref29_Starts_L0.g (F : T_ref29_Starts_L0) (v : ref29_Starts_L0.p.T) (k : KE) : Option Bool := F v.1.1 v.2.1.1 v.2.2.1.1 v.2.2.2.1 (fun y0 => k (.exit 0) ⟨fillS 28 [5] [(.ref [1, 0])], [([1, 0], ⟨3, 1, (.data (.int .i64) y0)⟩)], 2⟩)
theorem ref29_Starts_L0.step (S : T_ref29_Starts_L0) (F0 : T_ref28_Kept) (F1 : T_ref29_start) : ∀ v k, exR 10 Try.f10 0 ref29_Starts_L0.p [⟨ref28_Kept.p, ref28_Kept.g F0⟩, ⟨ref29_start.p, ref29_start.g F1⟩] [] [] (ref29_Starts_L0.g S) v k = ref29_Starts_L0.g (ref29_Starts_L0.body S F0 F1) v k := fun v k => by kernel_rfl
theorem ref29_Starts_L0.ok : okL 10 Try.f10 3 0 ref29_Starts_L0.p (ref29_Starts_L0.g (ref29_Starts_L0 ROUNDS)) := loop2 (G := fun n => ref29_Starts_L0.g (ref29_Starts_L0 n)) (fun n => ref29_Starts_L0.step (ref29_Starts_L0 n) ref28_Kept ref29_start) (.cons ref28_Kept.ok (.cons ref29_start.ok .nil)) [] (by kernel_rfl) .nil (fun _ _ => rfl)
/-- function 10: sheerleg/sheerlegref29.Starts -/
abbrev T_ref29_Starts : Type := Tc18 → Tc1 → ((List Int) → Option Bool) → Option Bool
noncomputable def ref29_Starts.body (ref29_Starts_L0 : T_ref29_Starts_L0) : T_ref29_Starts := fun t902 t903 k1 =>
  (ref29_Starts_L0 (0 : Int) t902 t903 []
  (fun ns930 => (k1 ns930)))
noncomputable def ref29_Starts : T_ref29_Starts := ref29_Starts.body (ref29_Starts_L0 ROUNDS)
def ref29_Starts.p : FPat := fp 10 (pl (pd Ty24) (pl (pd Ty6) pz)) pz
def ref29_Starts.g (F : T_ref29_Starts) (v : ref29_Starts.p.T) (k : KR) : Option Bool := F v.1.1 v.1.2.1 (fun y0 => k (.ref [1, 0]) [([1, 0], ⟨3, 1, (.data (.int .i64) y0)⟩)])
theorem ref29_Starts.eq (L0 : T_ref29_Starts_L0) : ∀ v k, exF Try.f10 ref29_Starts.p [] [] [⟨0, ref29_Starts_L0.p, ref29_Starts_L0.g L0⟩] v k = ref29_Starts.g (ref29_Starts.body L0) v k := fun v k => by kernel_rfl
theorem ref29_Starts.ok : okF 4 ref29_Starts.p (ref29_Starts.g ref29_Starts) := fn2 (ref29_Starts.eq (ref29_Starts_L0 ROUNDS)) Try.func10 (by kernel_rfl) .nil [0] (by kernel_rfl) (.cons ref29_Starts_L0.ok .nil)
/-- function 8: the loop in block 0 -/
abbrev T_ref01_Ints_L0 : Type := (List Int) → (List Int) → Int → (Bool → Option Bool) → (Option Bool) → Option Bool
noncomputable def ref01_Ints_L0.body (ref01_Ints_L0 : T_ref01_Ints_L0) : T_ref01_Ints_L0 := fun ns934 ns935 n936 k1 k2 =>
  (cond_ (decide (n936 < (List.length ns934 : Int))) (cond_ ((decide ((0 : Int) ≤ n936)) && (decide (n936 < (List.length ns934 : Int)))) (cond_ ((decide ((0 : Int) ≤ n936)) && (decide (n936 < (List.length ns935 : Int)))) (cond_ ((List.getD ns934 (Int.toNat n936) (0 : Int)) != (List.getD ns935 (Int.toNat n936) (0 : Int))) (k1 false) (ref01_Ints_L0 ns934 ns935 (IntKind.wrap .i64 (n936 + (1 : Int))) k1 k2)) none) none) (k2))
noncomputable def ref01_Ints_L0 : Nat → T_ref01_Ints_L0
  | 0 => fun _ _ _ _ _ => none
  | n + 1 => ref01_Ints_L0.body (ref01_Ints_L0 n)
def ref01_Ints_L0.p : LPat := lp 2 26 [0, 1, 5] (pl (pb 1 3 (.int .i64)) (pl (pb 2 3 (.int .i64)) (pl (pd (.int .i64)) pz))) pz
def ref01_Ints_L0.g (F : T_ref01_Ints_L0) (v : ref01_Ints_L0.p.T) (k : KE) : Option Bool := F v.1.1 v.1.2.1 v.1.2.2.1 (fun y0 => k .ret ⟨fillS 26 [4] [(.d ⟨.bool, y0⟩)], [], 2⟩) (k (.exit 0) ⟨fillS 26 [] [], [], 2⟩)
theorem ref01_Ints_L0.step (S : T_ref01_Ints_L0) : ∀ v k, exR 8 Try.f8 0 ref01_Ints_L0.p [] [] [] (ref01_Ints_L0.g S) v k = ref01_Ints_L0.g (ref01_Ints_L0.body S) v k := fun v k => by kernel_rfl
theorem ref01_Ints_L0.ok : okL 8 Try.f8 0 0 ref01_Ints_L0.p (ref01_Ints_L0.g (ref01_Ints_L0 ROUNDS)) := loop2 (G := fun n => ref01_Ints_L0.g (ref01_Ints_L0 n)) (fun n => ref01_Ints_L0.step (ref01_Ints_L0 n)) .nil [] (by kernel_rfl) .nil (fun _ _ => rfl)
/-- function 8: sheerleg/sheerlegref01.Ints -/
abbrev T_ref01_Ints : Type := (List Int) → (List Int) → (Bool → Option Bool) → Option Bool
noncomputable def ref01_Ints.body (ref01_Ints_L0 : T_ref01_Ints_L0) : T_ref01_Ints := fun ns932 ns933 k1 =>
  (cond_ ((List.length ns932 : Int) != (List.length ns933 : Int)) (k1 false) (ref01_Ints_L0 ns932 ns933 (0 : Int)
  (fun b937 => (k1 b937))
  (k1 true)))
noncomputable def ref01_Ints : T_ref01_Ints := ref01_Ints.body (ref01_Ints_L0 ROUNDS)
def ref01_Ints.p : FPat := fp 8 (pl (pb 1 3 (.int .i64)) (pl (pb 2 3 (.int .i64)) pz)) pz
def ref01_Ints.g (F : T_ref01_Ints) (v : ref01_Ints.p.T) (k : KR) : Option Bool := F v.1.1 v.1.2.1 (fun y0 => k (.d ⟨.bool, y0⟩) [])
theorem ref01_Ints.eq (L0 : T_ref01_Ints_L0) : ∀ v k, exF Try.f8 ref01_Ints.p [] [] [⟨0, ref01_Ints_L0.p, ref01_Ints_L0.g L0⟩] v k = ref01_Ints.g (ref01_Ints.body L0) v k := fun v k => by kernel_rfl
theorem ref01_Ints.ok : okF 1 ref01_Ints.p (ref01_Ints.g ref01_Ints) := fn2 (ref01_Ints.eq (ref01_Ints_L0 ROUNDS)) Try.func8 (by kernel_rfl) .nil [0] (by kernel_rfl) (.cons ref01_Ints_L0.ok .nil)
/-- function 4295688192: sheerleg/place.Code.round0 -/
abbrev T_place_Code_round0 : Type := Int → (Int × Int × Unit) → Int → (Bool → Int → Option Bool) → Option Bool
noncomputable def place_Code_round0.body : T_place_Code_round0 := fun n960 t961 n962 k1 =>
  (k1 true t961.2.1)
noncomputable def place_Code_round0 : T_place_Code_round0 := place_Code_round0.body
def place_Code_round0.p : FPat := fp 4295688192 (pl (pd (.int .i64)) (pl (pd Ty3) (ps (pk 4) (ps (pk 4) (ps (pk 4) (ps (pk 4) (ps (pk 4) (ps (pq [0, 0] 0 0) (ps (pk 4) (ps (pk 3) (ps (pk 4) (ps (pk 4) (ps (pk 4) (ps (pk 4) (ps (pk 3) (ps (pk 3) (ps (pk 3) (ps (pk 4) pz)))))))))))))))))) (pl (po [0, 0] 3 1 (es (.int .i64) (pl eh pz))) pz)
def place_Code_round0.g (F : T_place_Code_round0) (v : place_Code_round0.p.T) (k : KR) : Option Bool := F v.1.1 v.1.2.1 v.2.1.1 (fun y0 y1 => k (.d ⟨.bool, y0⟩) [([0, 0], ⟨3, 1, (.data (.int .i64) [y1])⟩)])
theorem place_Code_round0.eq : ∀ v k, exB (rbAt Try.prog 720896) place_Code_round0.p [] [] [] v k = place_Code_round0.g (place_Code_round0.body) v k := fun v k => by kernel_rfl
theorem place_Code_round0.ok : okF 1 place_Code_round0.p (place_Code_round0.g place_Code_round0) := rnd2 (place_Code_round0.eq) rfl (by kernel_rfl) .nil [] (by kernel_rfl) .nil
/-- function 12: sheerleg/sheerlegref29.Code -/
abbrev T_ref29_Code : Type := Tc18 → Tc1 → (Int → Option Bool) → Option Bool
noncomputable def ref29_Code.body (ref29_start : T_ref29_start) : T_ref29_Code := fun t981 t982 k1 =>
  (ref29_start t981 t982 (((List.length t981.1) : Nat) : Int)
  (fun n983 => (k1 n983)))
noncomputable def ref29_Code : T_ref29_Code := ref29_Code.body ref29_start
def ref29_Code.p : FPat := fp 12 (pl (pd Ty24) (pl (pd Ty6) pz)) pz
def ref29_Code.g (F : T_ref29_Code) (v : ref29_Code.p.T) (k : KR) : Option Bool := F v.1.1 v.1.2.1 (fun y0 => k (.d ⟨(.int .i64), y0⟩) [])
theorem ref29_Code.eq (F0 : T_ref29_start) : ∀ v k, exF Try.f12 ref29_Code.p [⟨ref29_start.p, ref29_start.g F0⟩] [] [] v k = ref29_Code.g (ref29_Code.body F0) v k := fun v k => by kernel_rfl
theorem ref29_Code.ok : okF 4 ref29_Code.p (ref29_Code.g ref29_Code) := fn2 (ref29_Code.eq ref29_start) Try.func12 (by kernel_rfl) (.cons ref29_start.ok .nil) [] (by kernel_rfl) .nil
/-- function 37: sheerleg/place.laid -/
abbrev T_place_laidv1 : Type := Int → Int → Tc18 → (Tc18 → Int → Int → Option Bool) → Option Bool
noncomputable def place_laidv1.body : T_place_laidv1 := fun n987 n988 t989 k1 =>
  (k1 t989 n988 n987)
noncomputable def place_laidv1 : T_place_laidv1 := place_laidv1.body
def place_laidv1.p : FPat := fp 37 (pl (pd (.int .i64)) (pl (pd (.int .i64)) (pl (pf 41 pz (ps (pq [0, 0] 0 0) pz)) pz))) (pl (po [0, 0] 30 3 (es Ty24 (pl eh pz))) pz)
def place_laidv1.g (F : T_place_laidv1) (v : place_laidv1.p.T) (k : KR) : Option Bool := F v.1.1 v.1.2.1 v.2.1.1 (fun y0 y1 y2 => k (.fn (.func 56) [] [(.ptr [1, 0] 0 0), (.ptr [1, 1] 0 0), (.ptr [1, 2] 0 0)]) [([0, 0], ⟨30, 3, (.data Ty24 [y0])⟩), ([1, 0], ⟨3, 1, (.data (.int .i64) [y1])⟩), ([1, 1], ⟨3, 1, (.data (.int .i64) [y2])⟩), ([1, 2], ⟨95, 1, (.mix [(.fn (.func 41) [] [(.ptr [0, 0] 0 0)])])⟩)])
theorem place_laidv1.eq : ∀ v k, exF Try.f37 place_laidv1.p [] [] [] v k = place_laidv1.g (place_laidv1.body) v k := fun v k => by kernel_rfl
theorem place_laidv1.ok : okF 1 place_laidv1.p (place_laidv1.g place_laidv1) := fn2 (place_laidv1.eq) Try.func37 (by kernel_rfl) .nil [] (by kernel_rfl) .nil
/-- function 27: sheerleg/place.dats -/
abbrev T_place_dats : Type := Tc18 → (Int → Int → Tc18 → Option Bool) → Option Bool
noncomputable def place_dats.body (place_laidv1 : T_place_laidv1) : T_place_dats := fun t986 k1 =>
  (place_laidv1 (0 : Int) (((List.length t986.2.1) : Nat) : Int) t986
  (fun t990 n991 n992 => (k1 n991 n992 t990)))
noncomputable def place_dats : T_place_dats := place_dats.body place_laidv1
def place_dats.p : FPat := fp 27 (pl (pd Ty24) pz) pz
def place_dats.g (F : T_place_dats) (v : place_dats.p.T) (k : KR) : Option Bool := F v.1.1 (fun y0 y1 y2 => k (.fn (.func 56) [] [(.ptr [1, 0] 0 0), (.ptr [1, 1] 0 0), (.ptr [1, 2] 0 0)]) [([1, 0], ⟨3, 1, (.data (.int .i64) [y0])⟩), ([1, 1], ⟨3, 1, (.data (.int .i64) [y1])⟩), ([1, 2], ⟨95, 1, (.mix [(.fn (.func 41) [] [(.ptr [1, 3] 0 0)])])⟩), ([1, 3], ⟨30, 3, (.data Ty24 [y2])⟩)])
theorem place_dats.eq (F0 : T_place_laidv1) : ∀ v k, exF Try.f27 place_dats.p [⟨place_laidv1.p, place_laidv1.g F0⟩] [] [] v k = place_dats.g (place_dats.body F0) v k := fun v k => by kernel_rfl
theorem place_dats.ok : okF 2 place_dats.p (place_dats.g place_dats) := fn2 (place_dats.eq place_laidv1) Try.func27 (by kernel_rfl) (.cons place_laidv1.ok .nil) [] (by kernel_rfl) .nil
/-- function 41: sheerleg/place.dats$1 -/
abbrev T_place_datsfn1 : Type := Int → Tc18 → (Int → Tc18 → Option Bool) → Option Bool
noncomputable def place_datsfn1.body : T_place_datsfn1 := fun n1005 t1006 k1 =>
  (cond_ ((decide ((0 : Int) ≤ n1005)) && (decide (n1005 < (((List.length t1006.2.1) : Nat) : Int)))) (k1 (IntKind.wrap .i64 ((1 : Int) + (((List.length (List.getD t1006.2.1 (Int.toNat n1005) (0, (0, ((⟨#[]⟩ : ByteArray), (0, ([], ([], ([], ())))))))).2.2.2.2.1) : Nat) : Int))) t1006) none)
noncomputable def place_datsfn1 : T_place_datsfn1 := place_datsfn1.body
def place_datsfn1.p : FPat := fp 41 (pl (pd (.int .i64)) (ps (pq [0, 0] 0 0) pz)) (pl (po [0, 0] 30 3 (es Ty24 (pl eh pz))) pz)
def place_datsfn1.g (F : T_place_datsfn1) (v : place_datsfn1.p.T) (k : KR) : Option Bool := F v.1.1 v.2.1.1 (fun y0 y1 => k (.d ⟨(.int .i64), y0⟩) [([0, 0], ⟨30, 3, (.data Ty24 [y1])⟩)])
theorem place_datsfn1.eq : ∀ v k, exF Try.f41 place_datsfn1.p [] [] [] v k = place_datsfn1.g (place_datsfn1.body) v k := fun v k => by kernel_rfl
theorem place_datsfn1.ok : okF 1 place_datsfn1.p (place_datsfn1.g place_datsfn1) := fn2 (place_datsfn1.eq) Try.func41 (by kernel_rfl) .nil [] (by kernel_rfl) .nil
/-- function 4295819264: sheerleg/place.Addrs.round0 -/
abbrev T_place_Addrs_round0 : Type := Int → (Int × Int × Unit) → (List Int) → (Bool → (List Int) → Option Bool) → Option Bool
noncomputable def place_Addrs_round0.body : T_place_Addrs_round0 := fun n1009 t1010 ns1011 k1 =>
  (cond_ (Nat.ble (((List.length ns1011) + (List.length (t1010.1 :: []))) * (8 : Nat)) (140737488355328 : Nat)) (k1 true (ns1011 ++ (t1010.1 :: []))) none)
noncomputable def place_Addrs_round0 : T_place_Addrs_round0 := place_Addrs_round0.body
def place_Addrs_round0.p : FPat := fp 4295819264 (pl (pd (.int .i64)) (pl (pd Ty3) (ps (pk 4) (ps (pk 4) (ps (pk 4) (ps (pq [0, 0] 0 0) (ps (pk 4) (ps (pk 3) (ps (pk 4) (ps (pk 4) (ps (pk 4) (ps (pk 3) (ps (pk 3) (ps (pk 3) (ps (pk 3) (ps (pk 3) (ps (pk 3) (ps (pk 4) pz)))))))))))))))))) (ps (po [0, 0] 24 1 (em (ps (pr [0, 1]) pz))) (pl (po [0, 1] 3 1 (ed (.int .i64))) pz))
def place_Addrs_round0.g (F : T_place_Addrs_round0) (v : place_Addrs_round0.p.T) (k : KR) : Option Bool := F v.1.1 v.1.2.1 v.2.1 (fun y0 y1 => k (.d ⟨.bool, y0⟩) [([0, 0], ⟨24, 1, (.mix [(.ref [1, 0])])⟩), ([1, 0], ⟨3, 1, (.data (.int .i64) y1)⟩)])
theorem place_Addrs_round0.eq : ∀ v k, exB (rbAt Try.prog 851968) place_Addrs_round0.p [] [] [] v k = place_Addrs_round0.g (place_Addrs_round0.body) v k := fun v k => by kernel_rfl
theorem place_Addrs_round0.ok : okF 1 place_Addrs_round0.p (place_Addrs_round0.g place_Addrs_round0) := rnd2 (place_Addrs_round0.eq) rfl (by kernel_rfl) .nil [] (by kernel_rfl) .nil
/-- function 28: the loop in block 0 -/
abbrev T_ref29_addr_L0 : Type := Int → Int → Int → Tc18 → (Int → Option Bool) → Option Bool
noncomputable def ref29_addr_L0.body (ref29_addr_L0 : T_ref29_addr_L0) : T_ref29_addr_L0 := fun n1033 n1034 n1035 t1036 k1 =>
  (cond_ (decide (n1035 < n1033)) (cond_ ((decide ((0 : Int) ≤ n1035)) && (decide (n1035 < (((List.length t1036.2.1) : Nat) : Int)))) (ref29_addr_L0 n1033 (IntKind.wrap .i64 ((IntKind.wrap .i64 (n1034 + (1 : Int))) + (((List.length (List.getD t1036.2.1 (Int.toNat n1035) (0, (0, ((⟨#[]⟩ : ByteArray), (0, ([], ([], ([], ())))))))).2.2.2.2.1) : Nat) : Int))) (IntKind.wrap .i64 (n1035 + (1 : Int))) t1036 k1) none) (k1 n1034))
noncomputable def ref29_addr_L0 : Nat → T_ref29_addr_L0
  | 0 => fun _ _ _ _ _ => none
  | n + 1 => ref29_addr_L0.body (ref29_addr_L0 n)
def ref29_addr_L0.p : LPat := lp 2 24 [1, 2, 5, 6] (pl (pd (.int .i64)) (ps (pq [1, 0] 0 0) (pl (pd (.int .i64)) (pl (pd (.int .i64)) pz)))) (pl (po [1, 0] 30 3 (es Ty24 (pl eh pz))) pz)
def ref29_addr_L0.g (F : T_ref29_addr_L0) (v : ref29_addr_L0.p.T) (k : KE) : Option Bool := F v.1.1 v.1.2.1 v.1.2.2.1 v.2.1.1 (fun y0 => k (.exit 0) ⟨fillS 24 [5] [(.d ⟨(.int .i64), y0⟩)], [], 2⟩)
theorem ref29_addr_L0.step (S : T_ref29_addr_L0) : ∀ v k, exR 28 Try.f28 0 ref29_addr_L0.p [] [] [] (ref29_addr_L0.g S) v k = ref29_addr_L0.g (ref29_addr_L0.body S) v k := fun v k => by kernel_rfl
theorem ref29_addr_L0.ok : okL 28 Try.f28 0 0 ref29_addr_L0.p (ref29_addr_L0.g (ref29_addr_L0 ROUNDS)) := loop2 (G := fun n => ref29_addr_L0.g (ref29_addr_L0 n)) (fun n => ref29_addr_L0.step (ref29_addr_L0 n)) .nil [] (by kernel_rfl) .nil (fun _ _ => rfl)
/-- function 28: sheerleg/sheerlegref29.addr -/
abbrev T_ref29_addr : Type := Tc18 → Int → (Int → Option Bool) → Option Bool
noncomputable def ref29_addr.body (ref29_addr_L0 : T_ref29_addr_L0) : T_ref29_addr := fun t1031 n1032 k1 =>
  (ref29_addr_L0 n1032 (0 : Int) (0 : Int) t1031
  (fun n1037 => (k1 n1037)))
noncomputable def ref29_addr : T_ref29_addr := ref29_addr.body (ref29_addr_L0 ROUNDS)
def ref29_addr.p : FPat := fp 28 (pl (pd Ty24) (pl (pd (.int .i64)) pz)) pz
def ref29_addr.g (F : T_ref29_addr) (v : ref29_addr.p.T) (k : KR) : Option Bool := F v.1.1 v.1.2.1 (fun y0 => k (.d ⟨(.int .i64), y0⟩) [])
theorem ref29_addr.eq (L0 : T_ref29_addr_L0) : ∀ v k, exF Try.f28 ref29_addr.p [] [] [⟨0, ref29_addr_L0.p, ref29_addr_L0.g L0⟩] v k = ref29_addr.g (ref29_addr.body L0) v k := fun v k => by kernel_rfl
theorem ref29_addr.ok : okF 1 ref29_addr.p (ref29_addr.g ref29_addr) := fn2 (ref29_addr.eq (ref29_addr_L0 ROUNDS)) Try.func28 (by kernel_rfl) .nil [0] (by kernel_rfl) (.cons ref29_addr_L0.ok .nil)
/-- function 14: the loop in block 0 -/
abbrev T_ref29_Addrs_L0 : Type := Int → Tc18 → (List Int) → ((List Int) → Option Bool) → Option Bool
noncomputable def ref29_Addrs_L0.body (ref29_Addrs_L0 : T_ref29_Addrs_L0) (ref29_addr : T_ref29_addr) : T_ref29_Addrs_L0 := fun n1028 t1029 ns1030 k1 =>
  (cond_ (decide (n1028 < (((List.length t1029.2.1) : Nat) : Int))) (ref29_addr t1029 n1028
  (fun n1038 => (cond_ (Nat.ble (((List.length ns1030) + (List.length (n1038 :: []))) * (8 : Nat)) (140737488355328 : Nat)) (ref29_Addrs_L0 (IntKind.wrap .i64 (n1028 + (1 : Int))) t1029 (ns1030 ++ (n1038 :: [])) k1) none))) (k1 ns1030))
noncomputable def ref29_Addrs_L0 : Nat → T_ref29_Addrs_L0
  | 0 => fun _ _ _ _ => none
  | n + 1 => ref29_Addrs_L0.body (ref29_Addrs_L0 n) ref29_addr
def ref29_Addrs_L0.p : LPat := lp 2 19 [1, 3, 4] (ps (pq [1, 0] 0 0) (ps (pr [1, 1]) (pl (pd (.int .i64)) pz))) (pl (po [1, 0] 30 3 (es Ty24 (pl eh pz))) (pl (po [1, 1] 3 1 (ed (.int .i64))) pz))
def ref29_Addrs_L0.g (F : T_ref29_Addrs_L0) (v : ref29_Addrs_L0.p.T) (k : KE) : Option Bool := F v.1.1 v.2.1.1 v.2.2.1 (fun y0 => k (.exit 0) ⟨fillS 19 [3] [(.ref [1, 0])], [([1, 0], ⟨3, 1, (.data (.int .i64) y0)⟩)], 2⟩)
theorem ref29_Addrs_L0.step (S : T_ref29_Addrs_L0) (F0 : T_ref29_addr) : ∀ v k, exR 14 Try.f14 0 ref29_Addrs_L0.p [⟨ref29_addr.p, ref29_addr.g F0⟩] [] [] (ref29_Addrs_L0.g S) v k = ref29_Addrs_L0.g (ref29_Addrs_L0.body S F0) v k := fun v k => by kernel_rfl
theorem ref29_Addrs_L0.ok : okL 14 Try.f14 1 0 ref29_Addrs_L0.p (ref29_Addrs_L0.g (ref29_Addrs_L0 ROUNDS)) := loop2 (G := fun n => ref29_Addrs_L0.g (ref29_Addrs_L0 n)) (fun n => ref29_Addrs_L0.step (ref29_Addrs_L0 n) ref29_addr) (.cons ref29_addr.ok .nil) [] (by kernel_rfl) .nil (fun _ _ => rfl)
/-- function 14: sheerleg/sheerlegref29.Addrs -/
abbrev T_ref29_Addrs : Type := Tc18 → ((List Int) → Option Bool) → Option Bool
noncomputable def ref29_Addrs.body (ref29_Addrs_L0 : T_ref29_Addrs_L0) : T_ref29_Addrs := fun t1027 k1 =>
  (ref29_Addrs_L0 (0 : Int) t1027 []
  (fun ns1039 => (k1 ns1039)))
noncomputable def ref29_Addrs : T_ref29_Addrs := ref29_Addrs.body (ref29_Addrs_L0 ROUNDS)
def ref29_Addrs.p : FPat := fp 14 (pl (pd Ty24) pz) pz
def ref29_Addrs.g (F : T_ref29_Addrs) (v : ref29_Addrs.p.T) (k : KR) : Option Bool := F v.1.1 (fun y0 => k (.ref [1, 0]) [([1, 0], ⟨3, 1, (.data (.int .i64) y0)⟩)])
theorem ref29_Addrs.eq (L0 : T_ref29_Addrs_L0) : ∀ v k, exF Try.f14 ref29_Addrs.p [] [] [⟨0, ref29_Addrs_L0.p, ref29_Addrs_L0.g L0⟩] v k = ref29_Addrs.g (ref29_Addrs.body L0) v k := fun v k => by kernel_rfl
theorem ref29_Addrs.ok : okF 2 ref29_Addrs.p (ref29_Addrs.g ref29_Addrs) := fn2 (ref29_Addrs.eq (ref29_Addrs_L0 ROUNDS)) Try.func14 (by kernel_rfl) .nil [0] (by kernel_rfl) (.cons ref29_Addrs_L0.ok .nil)
/-- function 4295950336: sheerleg/place.Words.round0 -/
abbrev T_place_Words_round0 : Type := Int → (Int × Int × Unit) → Int → (Bool → Int → Option Bool) → Option Bool
noncomputable def place_Words_round0.body : T_place_Words_round0 := fun n1058 t1059 n1060 k1 =>
  (k1 true t1059.2.1)
noncomputable def place_Words_round0 : T_place_Words_round0 := place_Words_round0.body
def place_Words_round0.p : FPat := fp 4295950336 (pl (pd (.int .i64)) (pl (pd Ty3) (ps (pk 4) (ps (pk 4) (ps (pk 4) (ps (pq [0, 0] 0 0) (ps (pk 4) (ps (pk 3) (ps (pk 4) (ps (pk 4) (ps (pk 4) (ps (pk 3) (ps (pk 3) (ps (pk 3) (ps (pk 4) pz))))))))))))))) (pl (po [0, 0] 3 1 (es (.int .i64) (pl eh pz))) pz)
def place_Words_round0.g (F : T_place_Words_round0) (v : place_Words_round0.p.T) (k : KR) : Option Bool := F v.1.1 v.1.2.1 v.2.1.1 (fun y0 y1 => k (.d ⟨.bool, y0⟩) [([0, 0], ⟨3, 1, (.data (.int .i64) [y1])⟩)])
theorem place_Words_round0.eq : ∀ v k, exB (rbAt Try.prog 983040) place_Words_round0.p [] [] [] v k = place_Words_round0.g (place_Words_round0.body) v k := fun v k => by kernel_rfl
theorem place_Words_round0.ok : okF 1 place_Words_round0.p (place_Words_round0.g place_Words_round0) := rnd2 (place_Words_round0.eq) rfl (by kernel_rfl) .nil [] (by kernel_rfl) .nil
/-- function 16: sheerleg/sheerlegref29.Words -/
abbrev T_ref29_Words : Type := Tc18 → (Int → Option Bool) → Option Bool
noncomputable def ref29_Words.body (ref29_addr : T_ref29_addr) : T_ref29_Words := fun t1076 k1 =>
  (ref29_addr t1076 (((List.length t1076.2.1) : Nat) : Int)
  (fun n1077 => (k1 n1077)))
noncomputable def ref29_Words : T_ref29_Words := ref29_Words.body ref29_addr
def ref29_Words.p : FPat := fp 16 (pl (pd Ty24) pz) pz
def ref29_Words.g (F : T_ref29_Words) (v : ref29_Words.p.T) (k : KR) : Option Bool := F v.1.1 (fun y0 => k (.d ⟨(.int .i64), y0⟩) [])
theorem ref29_Words.eq (F0 : T_ref29_addr) : ∀ v k, exF Try.f16 ref29_Words.p [⟨ref29_addr.p, ref29_addr.g F0⟩] [] [] v k = ref29_Words.g (ref29_Words.body F0) v k := fun v k => by kernel_rfl
theorem ref29_Words.ok : okF 2 ref29_Words.p (ref29_Words.g ref29_Words) := fn2 (ref29_Words.eq ref29_addr) Try.func16 (by kernel_rfl) (.cons ref29_addr.ok .nil) [] (by kernel_rfl) .nil
/-- function 42: sheerleg/num.Near -/
abbrev T_num_Near : Type := Int → Int → Int → (Int → Option Bool) → Option Bool
noncomputable def num_Near.body : T_num_Near := fun n1104 n1105 n1106 k1 =>
  (cond_ (decide (n1104 < n1105)) (k1 n1105) (cond_ (decide (n1104 > n1106)) (k1 n1106) (k1 n1104)))
noncomputable def num_Near : T_num_Near := num_Near.body
def num_Near.p : FPat := fp 42 (pl (pd (.int .i64)) (pl (pd (.int .i64)) (pl (pd (.int .i64)) pz))) pz
def num_Near.g (F : T_num_Near) (v : num_Near.p.T) (k : KR) : Option Bool := F v.1.1 v.1.2.1 v.1.2.2.1 (fun y0 => k (.d ⟨(.int .i64), y0⟩) [])
theorem num_Near.eq : ∀ v k, exF Try.f42 num_Near.p [] [] [] v k = num_Near.g (num_Near.body) v k := fun v k => by kernel_rfl
theorem num_Near.ok : okF 1 num_Near.p (num_Near.g num_Near) := fn2 (num_Near.eq) Try.func42 (by kernel_rfl) .nil [] (by kernel_rfl) .nil
/-- function 29: sheerleg/fun.Frame -/
abbrev T_fun_Frame : Type := Tc12 → (Int → Option Bool) → Option Bool
noncomputable def fun_Frame.body (num_Near : T_num_Near) : T_fun_Frame := fun t1103 k1 =>
  (num_Near t1103.2.2.1 (0 : Int) (1048576 : Int)
  (fun n1107 => (k1 (IntKind.wrap .i64 ((((List.length t1103.2.1) : Nat) : Int) + n1107)))))
noncomputable def fun_Frame : T_fun_Frame := fun_Frame.body num_Near
def fun_Frame.p : FPat := fp 29 (pl (pd Ty18) pz) pz
def fun_Frame.g (F : T_fun_Frame) (v : fun_Frame.p.T) (k : KR) : Option Bool := F v.1.1 (fun y0 => k (.d ⟨(.int .i64), y0⟩) [])
theorem fun_Frame.eq (F0 : T_num_Near) : ∀ v k, exF Try.f29 fun_Frame.p [⟨num_Near.p, num_Near.g F0⟩] [] [] v k = fun_Frame.g (fun_Frame.body F0) v k := fun v k => by kernel_rfl
theorem fun_Frame.ok : okF 2 fun_Frame.p (fun_Frame.g fun_Frame) := fn2 (fun_Frame.eq num_Near) Try.func29 (by kernel_rfl) (.cons num_Near.ok .nil) [] (by kernel_rfl) .nil
/-- function 4296146944: sheerleg/place.Fns.round0 -/
abbrev T_place_Fns_round0 : Type := Int → (Int × Int × Unit) → Tc18 → (Bool → Tc18 → Option Bool) → (Bool → Tc18 → Tc6 → Option Bool) → Option Bool
noncomputable def place_Fns_round0.body (fun_Frame : T_fun_Frame) : T_place_Fns_round0 := fun n1100 t1101 t1102 k1 k2 =>
  (cond_ (t1101.1 == t1101.2.1) (k1 true t1102) (cond_ ((decide ((0 : Int) ≤ n1100)) && (decide (n1100 < (((List.length t1102.1) : Nat) : Int)))) (fun_Frame ((List.getD t1102.1 (Int.toNat n1100) (0, (0, ((⟨#[]⟩ : ByteArray), (0, ([], (0, (false, (0, (0, ([], ([], ([], ([], ())))))))))))))).2.2.2.1, ((List.getD t1102.1 (Int.toNat n1100) (0, (0, ((⟨#[]⟩ : ByteArray), (0, ([], (0, (false, (0, (0, ([], ([], ([], ([], ())))))))))))))).2.2.2.2.1, ((List.getD t1102.1 (Int.toNat n1100) (0, (0, ((⟨#[]⟩ : ByteArray), (0, ([], (0, (false, (0, (0, ([], ([], ([], ([], ())))))))))))))).2.2.2.2.2.1, ((List.getD t1102.1 (Int.toNat n1100) (0, (0, ((⟨#[]⟩ : ByteArray), (0, ([], (0, (false, (0, (0, ([], ([], ([], ([], ())))))))))))))).2.2.2.2.2.2.1, ((List.getD t1102.1 (Int.toNat n1100) (0, (0, ((⟨#[]⟩ : ByteArray), (0, ([], (0, (false, (0, (0, ([], ([], ([], ([], ())))))))))))))).2.2.2.2.2.2.2.1, ((List.getD t1102.1 (Int.toNat n1100) (0, (0, ((⟨#[]⟩ : ByteArray), (0, ([], (0, (false, (0, (0, ([], ([], ([], ([], ())))))))))))))).2.2.2.2.2.2.2.2.1, ((List.getD t1102.1 (Int.toNat n1100) (0, (0, ((⟨#[]⟩ : ByteArray), (0, ([], (0, (false, (0, (0, ([], ([], ([], ([], ())))))))))))))).2.2.2.2.2.2.2.2.2.1, ((List.getD t1102.1 (Int.toNat n1100) (0, (0, ((⟨#[]⟩ : ByteArray), (0, ([], (0, (false, (0, (0, ([], ([], ([], ([], ())))))))))))))).2.2.2.2.2.2.2.2.2.2.1, ((List.getD t1102.1 (Int.toNat n1100) (0, (0, ((⟨#[]⟩ : ByteArray), (0, ([], (0, (false, (0, (0, ([], ([], ([], ([], ())))))))))))))).2.2.2.2.2.2.2.2.2.2.2.1, ())))))))))
  (fun n1108 => (k2 true t1102 [((List.getD t1102.1 (Int.toNat n1100) (0, (0, ((⟨#[]⟩ : ByteArray), (0, ([], (0, (false, (0, (0, ([], ([], ([], ([], ())))))))))))))).1, ((List.getD t1102.1 (Int.toNat n1100) (0, (0, ((⟨#[]⟩ : ByteArray), (0, ([], (0, (false, (0, (0, ([], ([], ([], ([], ())))))))))))))).2.1, (t1101.1, ((IntKind.wrap .i64 (t1101.2.1 - (((List.length (List.getD t1102.1 (Int.toNat n1100) (0, (0, ((⟨#[]⟩ : ByteArray), (0, ([], (0, (false, (0, (0, ([], ([], ([], ([], ())))))))))))))).2.2.2.2.2.2.2.2.2.2.1) : Nat) : Int))), (t1101.2.1, (n1108, ()))))))]))) none))
noncomputable def place_Fns_round0 : T_place_Fns_round0 := place_Fns_round0.body fun_Frame
def place_Fns_round0.p : FPat := fp 4296146944 (pl (pd (.int .i64)) (pl (pd Ty3) (ps (pk 4) (ps (pk 4) (ps (pq [0, 0] 0 0) (ps (pk 4) (ps (pk 4) (ps (pq [0, 1] 0 0) (ps (pk 3) (ps (pk 3) (ps (pk 3) (ps (pk 4) (ps (pk 4) (ps (pk 4) (ps (pk 3) (ps (pk 3) (ps (pk 3) (ps (pk 3) (ps (pk 3) (ps (pk 3) (ps (pk 3) (ps (pk 3) (ps (pk 3) (ps (pk 3) (ps (pk 3) (ps (pk 3) (ps (pk 3) (ps (pk 3) (ps (pk 3) (ps (pk 3) (ps (pk 3) (ps (pk 3) (ps (pk 3) (ps (pk 3) (ps (pk 3) (ps (pk 3) (ps (pk 3) (ps (pk 3) (ps (pk 3) (ps (pk 3) (ps (pk 3) (ps (pk 3) (ps (pk 3) (ps (pk 3) (ps (pk 3) (ps (pk 3) (ps (pk 3) (ps (pk 3) (ps (pk 4) pz))))))))))))))))))))))))))))))))))))))))))))))))) (pl (po [0, 0] 30 3 (es Ty24 (pl eh pz))) (ps (po [0, 1] 40 1 (em (ps (pk 0) pz))) pz))
def place_Fns_round0.g (F : T_place_Fns_round0) (v : place_Fns_round0.p.T) (k : KR) : Option Bool := F v.1.1 v.1.2.1 v.2.1.1 (fun y0 y1 => k (.d ⟨.bool, y0⟩) [([0, 0], ⟨30, 3, (.data Ty24 [y1])⟩), ([0, 1], ⟨40, 1, (.mix [.nils])⟩)]) (fun y0 y1 y2 => k (.d ⟨.bool, y0⟩) [([0, 0], ⟨30, 3, (.data Ty24 [y1])⟩), ([0, 1], ⟨40, 1, (.mix [(.ref [1, 0])])⟩), ([1, 0], ⟨44, 6, (.data Ty13 y2)⟩)])
theorem place_Fns_round0.eq (F0 : T_fun_Frame) : ∀ v k, exB (rbAt Try.prog 1179648) place_Fns_round0.p [⟨fun_Frame.p, fun_Frame.g F0⟩] [] [] v k = place_Fns_round0.g (place_Fns_round0.body F0) v k := fun v k => by kernel_rfl
theorem place_Fns_round0.ok : okF 3 place_Fns_round0.p (place_Fns_round0.g place_Fns_round0) := rnd2 (place_Fns_round0.eq fun_Frame) rfl (by kernel_rfl) (.cons fun_Frame.ok .nil) [] (by kernel_rfl) .nil
/-- function 56: the loop in block 0 -/
abbrev T_place_laidfn1_L0 : Type := Int → Int → Int → Int → Tc18 → Tc1 → (List Int) → (Int → Int → Tc18 → Tc1 → (List Int) → Option Bool) → (Int → Int → Tc18 → Tc1 → (List Int) → Option Bool) → Option Bool
noncomputable def place_laidfn1_L0.body (place_laidfn1_L0 : T_place_laidfn1_L0) (place_funsfn1 : T_place_funsfn1) (place_Starts_round0 : T_place_Starts_round0) : T_place_laidfn1_L0 := fun n1129 n1130 n1131 n1132 t1133 t1134 ns1135 k1 k2 =>
  (cond_ (decide (n1130 < n1129)) (place_funsfn1 n1130 t1133 t1134
  (fun n1136 t1137 t1138 => (place_Starts_round0 n1130 (n1132, ((IntKind.wrap .i64 (n1132 + n1136)), ())) ns1135
  (fun b1139 ns1140 => (cond_ (! b1139) (k1 n1131 n1132 t1137 t1138 ns1140) (place_laidfn1_L0 n1129 (IntKind.wrap .i64 (n1130 + (1 : Int))) n1131 (IntKind.wrap .i64 (n1132 + n1136)) t1137 t1138 ns1140 k1 k2)))))) (k2 n1131 n1132 t1133 t1134 ns1135))
noncomputable def place_laidfn1_L0 : Nat → T_place_laidfn1_L0
  | 0 => fun _ _ _ _ _ _ _ _ _ => none
  | n + 1 => place_laidfn1_L0.body (place_laidfn1_L0 n) place_funsfn1 place_Starts_round0
def place_laidfn1_L0.p : LPat := lp 2 25 [0, 2, 3, 7, 8] (ps (py 38654705664 (ps (pk 4) (ps (pk 4) (ps (pk 4) (ps (pk 4) (ps (pk 4) (ps (pq [0, 0] 0 0) (ps (pk 4) (ps (pk 3) (ps (pk 4) (ps (pk 4) (ps (pk 4) (ps (pk 4) (ps (pk 3) (ps (pk 3) (ps (pk 3) (ps (pk 3) (ps (pk 3) (ps (pk 3) (ps (pk 3) (ps (pk 3) (ps (pk 3) (ps (pk 3) (ps (pk 3) (ps (pk 3) (ps (pk 4) pz)))))))))))))))))))))))))) (ps (pq [0, 2] 0 0) (ps (pq [0, 3] 0 0) (pl (pd (.int .i64)) (pl (pd (.int .i64)) pz))))) (ps (po [0, 0] 24 1 (em (ps (pr [1, 0]) pz))) (pl (po [0, 1] 3 1 (es (.int .i64) (pl eh pz))) (pl (po [0, 2] 3 1 (es (.int .i64) (pl eh pz))) (pl (po [0, 3] 95 1 (em (pl (pf 38 pz (ps (pq [0, 4] 0 0) (ps (pq [0, 5] 0 0) pz))) pz))) (pl (po [0, 4] 30 3 (es Ty24 (pl eh pz))) (pl (po [0, 5] 26 2 (es Ty6 (pl eh pz))) (pl (po [1, 0] 3 1 (ed (.int .i64))) pz)))))))
def place_laidfn1_L0.g (F : T_place_laidfn1_L0) (v : place_laidfn1_L0.p.T) (k : KE) : Option Bool := F v.1.1 v.1.2.1 v.2.1.1 v.2.2.1.1 v.2.2.2.2.1.1 v.2.2.2.2.2.1.1 v.2.2.2.2.2.2.1 (fun y0 y1 y2 y3 y4 => k .ret ⟨fillS 25 [] [], [([0, 0], ⟨24, 1, (.mix [(.ref [1, 0])])⟩), ([0, 1], ⟨3, 1, (.data (.int .i64) [y0])⟩), ([0, 2], ⟨3, 1, (.data (.int .i64) [y1])⟩), ([0, 3], ⟨95, 1, (.mix [(.fn (.func 38) [] [(.ptr [0, 4] 0 0), (.ptr [0, 5] 0 0)])])⟩), ([0, 4], ⟨30, 3, (.data Ty24 [y2])⟩), ([0, 5], ⟨26, 2, (.data Ty6 [y3])⟩), ([1, 0], ⟨3, 1, (.data (.int .i64) y4)⟩)], 2⟩) (fun y0 y1 y2 y3 y4 => k (.exit 0) ⟨fillS 25 [] [], [([0, 0], ⟨24, 1, (.mix [(.ref [1, 0])])⟩), ([0, 1], ⟨3, 1, (.data (.int .i64) [y0])⟩), ([0, 2], ⟨3, 1, (.data (.int .i64) [y1])⟩), ([0, 3], ⟨95, 1, (.mix [(.fn (.func 38) [] [(.ptr [0, 4] 0 0), (.ptr [0, 5] 0 0)])])⟩), ([0, 4], ⟨30, 3, (.data Ty24 [y2])⟩), ([0, 5], ⟨26, 2, (.data Ty6 [y3])⟩), ([1, 0], ⟨3, 1, (.data (.int .i64) y4)⟩)], 2⟩)
theorem place_laidfn1_L0.step (S : T_place_laidfn1_L0) (F0 : T_place_funsfn1) (F1 : T_place_Starts_round0) : ∀ v k, exR 56 Try.f56 0 place_laidfn1_L0.p [⟨place_funsfn1.p, place_funsfn1.g F0⟩, ⟨place_Starts_round0.p, place_Starts_round0.g F1⟩] [] [] (place_laidfn1_L0.g S) v k = place_laidfn1_L0.g (place_laidfn1_L0.body S F0 F1) v k := fun v k => by kernel_rfl
theorem place_laidfn1_L0.ok : okL 56 Try.f56 3 0 place_laidfn1_L0.p (place_laidfn1_L0.g (place_laidfn1_L0 ROUNDS)) := loop2 (G := fun n => place_laidfn1_L0.g (place_laidfn1_L0 n)) (fun n => place_laidfn1_L0.step (place_laidfn1_L0 n) place_funsfn1 place_Starts_round0) (.cons place_funsfn1.ok (.cons place_Starts_round0.ok .nil)) [] (by kernel_rfl) .nil (fun _ _ => rfl)
/-- function 56: sheerleg/place.laid$1 -/
abbrev T_place_laidfn1 : Type := Int → Int → Tc18 → Tc1 → (Int → Int → Tc18 → Tc1 → (List Int) → Option Bool) → Option Bool
noncomputable def place_laidfn1.body (place_laidfn1_L0 : T_place_laidfn1_L0) : T_place_laidfn1 := fun n1125 n1126 t1127 t1128 k1 =>
  (place_laidfn1_L0 n1125 (0 : Int) n1125 n1126 t1127 t1128 []
  (fun n1141 n1142 t1143 t1144 ns1145 => (k1 n1141 n1142 t1143 t1144 ns1145))
  (fun n1146 n1147 t1148 t1149 ns1150 => (k1 n1146 n1147 t1148 t1149 ns1150)))
noncomputable def place_laidfn1 : T_place_laidfn1 := place_laidfn1.body (place_laidfn1_L0 ROUNDS)
def place_laidfn1.p : FPat := fp 56 (ps (py 38654705664 (ps (pk 4) (ps (pk 4) (ps (pk 4) (ps (pk 4) (ps (pk 4) (ps (pq [0, 0] 0 0) (ps (pk 4) (ps (pk 3) (ps (pk 4) (ps (pk 4) (ps (pk 4) (ps (pk 4) (ps (pk 3) (ps (pk 3) (ps (pk 3) (ps (pk 3) (ps (pk 3) (ps (pk 3) (ps (pk 3) (ps (pk 3) (ps (pk 3) (ps (pk 3) (ps (pk 3) (ps (pk 3) (ps (pk 4) pz)))))))))))))))))))))))))) (ps (pq [0, 1] 0 0) (ps (pq [0, 2] 0 0) (ps (pq [0, 3] 0 0) pz)))) (ps (po [0, 0] 24 1 (em (ps (pk 0) pz))) (pl (po [0, 1] 3 1 (es (.int .i64) (pl eh pz))) (pl (po [0, 2] 3 1 (es (.int .i64) (pl eh pz))) (pl (po [0, 3] 95 1 (em (pl (pf 38 pz (ps (pq [0, 4] 0 0) (ps (pq [0, 5] 0 0) pz))) pz))) (pl (po [0, 4] 30 3 (es Ty24 (pl eh pz))) (pl (po [0, 5] 26 2 (es Ty6 (pl eh pz))) pz))))))
def place_laidfn1.g (F : T_place_laidfn1) (v : place_laidfn1.p.T) (k : KR) : Option Bool := F v.2.1.1 v.2.2.1.1 v.2.2.2.2.1.1 v.2.2.2.2.2.1.1 (fun y0 y1 y2 y3 y4 => k (.tup []) [([0, 0], ⟨24, 1, (.mix [(.ref [1, 0])])⟩), ([0, 1], ⟨3, 1, (.data (.int .i64) [y0])⟩), ([0, 2], ⟨3, 1, (.data (.int .i64) [y1])⟩), ([0, 3], ⟨95, 1, (.mix [(.fn (.func 38) [] [(.ptr [0, 4] 0 0), (.ptr [0, 5] 0 0)])])⟩), ([0, 4], ⟨30, 3, (.data Ty24 [y2])⟩), ([0, 5], ⟨26, 2, (.data Ty6 [y3])⟩), ([1, 0], ⟨3, 1, (.data (.int .i64) y4)⟩)])
theorem place_laidfn1.eq (L0 : T_place_laidfn1_L0) : ∀ v k, exF Try.f56 place_laidfn1.p [] [] [⟨0, place_laidfn1_L0.p, place_laidfn1_L0.g L0⟩] v k = place_laidfn1.g (place_laidfn1.body L0) v k := fun v k => by kernel_rfl
theorem place_laidfn1.ok : okF 4 place_laidfn1.p (place_laidfn1.g place_laidfn1) := fn2 (place_laidfn1.eq (place_laidfn1_L0 ROUNDS)) Try.func56 (by kernel_rfl) .nil [0] (by kernel_rfl) (.cons place_laidfn1_L0.ok .nil)
/-- function 9: sheerleg/place.Starts -/
abbrev T_place_Starts : Type := Tc18 → Tc1 → ((List Int) → Option Bool) → Option Bool
noncomputable def place_Starts.body (place_funs : T_place_funs) (place_laidfn1 : T_place_laidfn1) : T_place_Starts := fun t1119 t1120 k1 =>
  (place_funs t1119 t1120
  (fun n1121 n1122 t1123 t1124 => (place_laidfn1 n1121 n1122 t1123 t1124
  (fun n1151 n1152 t1153 t1154 ns1155 => (k1 ns1155)))))
noncomputable def place_Starts : T_place_Starts := place_Starts.body place_funs place_laidfn1
def place_Starts.p : FPat := fp 9 (pl (pd Ty24) (pl (pd Ty6) pz)) pz
def place_Starts.g (F : T_place_Starts) (v : place_Starts.p.T) (k : KR) : Option Bool := F v.1.1 v.1.2.1 (fun y0 => k (.ref [1, 0]) [([1, 0], ⟨3, 1, (.data (.int .i64) y0)⟩)])
theorem place_Starts.eq (F0 : T_place_funs) (F1 : T_place_laidfn1) : ∀ v k, exF Try.f9 place_Starts.p [⟨place_funs.p, place_funs.g F0⟩, ⟨place_laidfn1.p, place_laidfn1.g F1⟩] [] [] v k = place_Starts.g (place_Starts.body F0 F1) v k := fun v k => by kernel_rfl
theorem place_Starts.ok : okF 5 place_Starts.p (place_Starts.g place_Starts) := fn2 (place_Starts.eq place_funs place_laidfn1) Try.func9 (by kernel_rfl) (.cons place_funs.ok (.cons place_laidfn1.ok .nil)) [] (by kernel_rfl) .nil
/-- function 56: the loop in block 0 -/
abbrev T_place_laidfn1v1_L0 : Type := Int → Int → Int → Int → Int → Tc18 → Tc1 → (Int → Int → Int → Tc18 → Tc1 → Option Bool) → (Int → Int → Int → Tc18 → Tc1 → Option Bool) → Option Bool
noncomputable def place_laidfn1v1_L0.body (place_laidfn1v1_L0 : T_place_laidfn1v1_L0) (place_funsfn1 : T_place_funsfn1) (place_Code_round0 : T_place_Code_round0) : T_place_laidfn1v1_L0 := fun n1170 n1171 n1172 n1173 n1174 t1175 t1176 k1 k2 =>
  (cond_ (decide (n1171 < n1170)) (place_funsfn1 n1171 t1175 t1176
  (fun n1177 t1178 t1179 => (place_Code_round0 n1171 (n1174, ((IntKind.wrap .i64 (n1174 + n1177)), ())) n1172
  (fun b1180 n1181 => (cond_ (! b1180) (k1 n1181 n1173 n1174 t1178 t1179) (place_laidfn1v1_L0 n1170 (IntKind.wrap .i64 (n1171 + (1 : Int))) n1181 n1173 (IntKind.wrap .i64 (n1174 + n1177)) t1178 t1179 k1 k2)))))) (k2 n1172 n1173 n1174 t1175 t1176))
noncomputable def place_laidfn1v1_L0 : Nat → T_place_laidfn1v1_L0
  | 0 => fun _ _ _ _ _ _ _ _ _ => none
  | n + 1 => place_laidfn1v1_L0.body (place_laidfn1v1_L0 n) place_funsfn1 place_Code_round0
def place_laidfn1v1_L0.p : LPat := lp 2 25 [0, 2, 3, 7, 8] (ps (py 47244640256 (ps (pk 4) (ps (pk 4) (ps (pk 4) (ps (pk 4) (ps (pk 4) (ps (pq [0, 0] 0 0) (ps (pk 4) (ps (pk 3) (ps (pk 4) (ps (pk 4) (ps (pk 4) (ps (pk 4) (ps (pk 3) (ps (pk 3) (ps (pk 3) (ps (pk 4) pz))))))))))))))))) (ps (pq [0, 2] 0 0) (ps (pq [0, 3] 0 0) (pl (pd (.int .i64)) (pl (pd (.int .i64)) pz))))) (pl (po [0, 0] 3 1 (es (.int .i64) (pl eh pz))) (pl (po [0, 1] 3 1 (es (.int .i64) (pl eh pz))) (pl (po [0, 2] 3 1 (es (.int .i64) (pl eh pz))) (pl (po [0, 3] 95 1 (em (pl (pf 38 pz (ps (pq [0, 4] 0 0) (ps (pq [0, 5] 0 0) pz))) pz))) (pl (po [0, 4] 30 3 (es Ty24 (pl eh pz))) (pl (po [0, 5] 26 2 (es Ty6 (pl eh pz))) pz))))))
def place_laidfn1v1_L0.g (F : T_place_laidfn1v1_L0) (v : place_laidfn1v1_L0.p.T) (k : KE) : Option Bool := F v.1.1 v.1.2.1 v.2.1.1 v.2.2.1.1 v.2.2.2.1.1 v.2.2.2.2.2.1.1 v.2.2.2.2.2.2.1.1 (fun y0 y1 y2 y3 y4 => k .ret ⟨fillS 25 [] [], [([0, 0], ⟨3, 1, (.data (.int .i64) [y0])⟩), ([0, 1], ⟨3, 1, (.data (.int .i64) [y1])⟩), ([0, 2], ⟨3, 1, (.data (.int .i64) [y2])⟩), ([0, 3], ⟨95, 1, (.mix [(.fn (.func 38) [] [(.ptr [0, 4] 0 0), (.ptr [0, 5] 0 0)])])⟩), ([0, 4], ⟨30, 3, (.data Ty24 [y3])⟩), ([0, 5], ⟨26, 2, (.data Ty6 [y4])⟩)], 2⟩) (fun y0 y1 y2 y3 y4 => k (.exit 0) ⟨fillS 25 [] [], [([0, 0], ⟨3, 1, (.data (.int .i64) [y0])⟩), ([0, 1], ⟨3, 1, (.data (.int .i64) [y1])⟩), ([0, 2], ⟨3, 1, (.data (.int .i64) [y2])⟩), ([0, 3], ⟨95, 1, (.mix [(.fn (.func 38) [] [(.ptr [0, 4] 0 0), (.ptr [0, 5] 0 0)])])⟩), ([0, 4], ⟨30, 3, (.data Ty24 [y3])⟩), ([0, 5], ⟨26, 2, (.data Ty6 [y4])⟩)], 2⟩)
theorem place_laidfn1v1_L0.step (S : T_place_laidfn1v1_L0) (F0 : T_place_funsfn1) (F1 : T_place_Code_round0) : ∀ v k, exR 56 Try.f56 0 place_laidfn1v1_L0.p [⟨place_funsfn1.p, place_funsfn1.g F0⟩, ⟨place_Code_round0.p, place_Code_round0.g F1⟩] [] [] (place_laidfn1v1_L0.g S) v k = place_laidfn1v1_L0.g (place_laidfn1v1_L0.body S F0 F1) v k := fun v k => by kernel_rfl
theorem place_laidfn1v1_L0.ok : okL 56 Try.f56 3 0 place_laidfn1v1_L0.p (place_laidfn1v1_L0.g (place_laidfn1v1_L0 ROUNDS)) := loop2 (G := fun n => place_laidfn1v1_L0.g (place_laidfn1v1_L0 n)) (fun n => place_laidfn1v1_L0.step (place_laidfn1v1_L0 n) place_funsfn1 place_Code_round0) (.cons place_funsfn1.ok (.cons place_Code_round0.ok .nil)) [] (by kernel_rfl) .nil (fun _ _ => rfl)
/-- function 56: sheerleg/place.laid$1 -/
abbrev T_place_laidfn1v1 : Type := Int → Int → Int → Tc18 → Tc1 → (Int → Int → Int → Tc18 → Tc1 → Option Bool) → Option Bool
noncomputable def place_laidfn1v1.body (place_laidfn1v1_L0 : T_place_laidfn1v1_L0) : T_place_laidfn1v1 := fun n1165 n1166 n1167 t1168 t1169 k1 =>
  (place_laidfn1v1_L0 n1166 (0 : Int) n1165 n1166 n1167 t1168 t1169
  (fun n1182 n1183 n1184 t1185 t1186 => (k1 n1182 n1183 n1184 t1185 t1186))
  (fun n1187 n1188 n1189 t1190 t1191 => (k1 n1187 n1188 n1189 t1190 t1191)))
noncomputable def place_laidfn1v1 : T_place_laidfn1v1 := place_laidfn1v1.body (place_laidfn1v1_L0 ROUNDS)
def place_laidfn1v1.p : FPat := fp 56 (ps (py 47244640256 (ps (pk 4) (ps (pk 4) (ps (pk 4) (ps (pk 4) (ps (pk 4) (ps (pq [0, 0] 0 0) (ps (pk 4) (ps (pk 3) (ps (pk 4) (ps (pk 4) (ps (pk 4) (ps (pk 4) (ps (pk 3) (ps (pk 3) (ps (pk 3) (ps (pk 4) pz))))))))))))))))) (ps (pq [0, 1] 0 0) (ps (pq [0, 2] 0 0) (ps (pq [0, 3] 0 0) pz)))) (pl (po [0, 0] 3 1 (es (.int .i64) (pl eh pz))) (pl (po [0, 1] 3 1 (es (.int .i64) (pl eh pz))) (pl (po [0, 2] 3 1 (es (.int .i64) (pl eh pz))) (pl (po [0, 3] 95 1 (em (pl (pf 38 pz (ps (pq [0, 4] 0 0) (ps (pq [0, 5] 0 0) pz))) pz))) (pl (po [0, 4] 30 3 (es Ty24 (pl eh pz))) (pl (po [0, 5] 26 2 (es Ty6 (pl eh pz))) pz))))))
def place_laidfn1v1.g (F : T_place_laidfn1v1) (v : place_laidfn1v1.p.T) (k : KR) : Option Bool := F v.2.1.1 v.2.2.1.1 v.2.2.2.1.1 v.2.2.2.2.2.1.1 v.2.2.2.2.2.2.1.1 (fun y0 y1 y2 y3 y4 => k (.tup []) [([0, 0], ⟨3, 1, (.data (.int .i64) [y0])⟩), ([0, 1], ⟨3, 1, (.data (.int .i64) [y1])⟩), ([0, 2], ⟨3, 1, (.data (.int .i64) [y2])⟩), ([0, 3], ⟨95, 1, (.mix [(.fn (.func 38) [] [(.ptr [0, 4] 0 0), (.ptr [0, 5] 0 0)])])⟩), ([0, 4], ⟨30, 3, (.data Ty24 [y3])⟩), ([0, 5], ⟨26, 2, (.data Ty6 [y4])⟩)])
theorem place_laidfn1v1.eq (L0 : T_place_laidfn1v1_L0) : ∀ v k, exF Try.f56 place_laidfn1v1.p [] [] [⟨0, place_laidfn1v1_L0.p, place_laidfn1v1_L0.g L0⟩] v k = place_laidfn1v1.g (place_laidfn1v1.body L0) v k := fun v k => by kernel_rfl
theorem place_laidfn1v1.ok : okF 4 place_laidfn1v1.p (place_laidfn1v1.g place_laidfn1v1) := fn2 (place_laidfn1v1.eq (place_laidfn1v1_L0 ROUNDS)) Try.func56 (by kernel_rfl) .nil [0] (by kernel_rfl) (.cons place_laidfn1v1_L0.ok .nil)
/-- function 11: sheerleg/place.Code -/
abbrev T_place_Code : Type := Tc18 → Tc1 → (Int → Option Bool) → Option Bool
noncomputable def place_Code.body (place_funs : T_place_funs) (place_laidfn1v1 : T_place_laidfn1v1) : T_place_Code := fun t1159 t1160 k1 =>
  (place_funs t1159 t1160
  (fun n1161 n1162 t1163 t1164 => (place_laidfn1v1 (2 : Int) n1161 n1162 t1163 t1164
  (fun n1192 n1193 n1194 t1195 t1196 => (k1 n1192)))))
noncomputable def place_Code : T_place_Code := place_Code.body place_funs place_laidfn1v1
def place_Code.p : FPat := fp 11 (pl (pd Ty24) (pl (pd Ty6) pz)) pz
def place_Code.g (F : T_place_Code) (v : place_Code.p.T) (k : KR) : Option Bool := F v.1.1 v.1.2.1 (fun y0 => k (.d ⟨(.int .i64), y0⟩) [])
theorem place_Code.eq (F0 : T_place_funs) (F1 : T_place_laidfn1v1) : ∀ v k, exF Try.f11 place_Code.p [⟨place_funs.p, place_funs.g F0⟩, ⟨place_laidfn1v1.p, place_laidfn1v1.g F1⟩] [] [] v k = place_Code.g (place_Code.body F0 F1) v k := fun v k => by kernel_rfl
theorem place_Code.ok : okF 5 place_Code.p (place_Code.g place_Code) := fn2 (place_Code.eq place_funs place_laidfn1v1) Try.func11 (by kernel_rfl) (.cons place_funs.ok (.cons place_laidfn1v1.ok .nil)) [] (by kernel_rfl) .nil
/-- function 56: the loop in block 0 -/
abbrev T_place_laidfn1v2_L0 : Type := Int → Int → Int → Int → Tc18 → (List Int) → (Int → Int → Tc18 → (List Int) → Option Bool) → (Int → Int → Tc18 → (List Int) → Option Bool) → Option Bool
noncomputable def place_laidfn1v2_L0.body (place_laidfn1v2_L0 : T_place_laidfn1v2_L0) (place_datsfn1 : T_place_datsfn1) (place_Addrs_round0 : T_place_Addrs_round0) : T_place_laidfn1v2_L0 := fun n1206 n1207 n1208 n1209 t1210 ns1211 k1 k2 =>
  (cond_ (decide (n1207 < n1206)) (place_datsfn1 n1207 t1210
  (fun n1212 t1213 => (place_Addrs_round0 n1207 (n1209, ((IntKind.wrap .i64 (n1209 + n1212)), ())) ns1211
  (fun b1214 ns1215 => (cond_ (! b1214) (k1 n1208 n1209 t1213 ns1215) (place_laidfn1v2_L0 n1206 (IntKind.wrap .i64 (n1207 + (1 : Int))) n1208 (IntKind.wrap .i64 (n1209 + n1212)) t1213 ns1215 k1 k2)))))) (k2 n1208 n1209 t1210 ns1211))
noncomputable def place_laidfn1v2_L0 : Nat → T_place_laidfn1v2_L0
  | 0 => fun _ _ _ _ _ _ _ _ => none
  | n + 1 => place_laidfn1v2_L0.body (place_laidfn1v2_L0 n) place_datsfn1 place_Addrs_round0
def place_laidfn1v2_L0.p : LPat := lp 2 25 [0, 2, 3, 7, 8] (ps (py 55834574848 (ps (pk 4) (ps (pk 4) (ps (pk 4) (ps (pq [0, 0] 0 0) (ps (pk 4) (ps (pk 3) (ps (pk 4) (ps (pk 4) (ps (pk 4) (ps (pk 3) (ps (pk 3) (ps (pk 3) (ps (pk 3) (ps (pk 3) (ps (pk 3) (ps (pk 4) pz))))))))))))))))) (ps (pq [0, 2] 0 0) (ps (pq [0, 3] 0 0) (pl (pd (.int .i64)) (pl (pd (.int .i64)) pz))))) (ps (po [0, 0] 24 1 (em (ps (pr [1, 0]) pz))) (pl (po [0, 1] 3 1 (es (.int .i64) (pl eh pz))) (pl (po [0, 2] 3 1 (es (.int .i64) (pl eh pz))) (pl (po [0, 3] 95 1 (em (pl (pf 41 pz (ps (pq [0, 4] 0 0) pz)) pz))) (pl (po [0, 4] 30 3 (es Ty24 (pl eh pz))) (pl (po [1, 0] 3 1 (ed (.int .i64))) pz))))))
def place_laidfn1v2_L0.g (F : T_place_laidfn1v2_L0) (v : place_laidfn1v2_L0.p.T) (k : KE) : Option Bool := F v.1.1 v.1.2.1 v.2.1.1 v.2.2.1.1 v.2.2.2.2.1.1 v.2.2.2.2.2.1 (fun y0 y1 y2 y3 => k .ret ⟨fillS 25 [] [], [([0, 0], ⟨24, 1, (.mix [(.ref [1, 0])])⟩), ([0, 1], ⟨3, 1, (.data (.int .i64) [y0])⟩), ([0, 2], ⟨3, 1, (.data (.int .i64) [y1])⟩), ([0, 3], ⟨95, 1, (.mix [(.fn (.func 41) [] [(.ptr [0, 4] 0 0)])])⟩), ([0, 4], ⟨30, 3, (.data Ty24 [y2])⟩), ([1, 0], ⟨3, 1, (.data (.int .i64) y3)⟩)], 2⟩) (fun y0 y1 y2 y3 => k (.exit 0) ⟨fillS 25 [] [], [([0, 0], ⟨24, 1, (.mix [(.ref [1, 0])])⟩), ([0, 1], ⟨3, 1, (.data (.int .i64) [y0])⟩), ([0, 2], ⟨3, 1, (.data (.int .i64) [y1])⟩), ([0, 3], ⟨95, 1, (.mix [(.fn (.func 41) [] [(.ptr [0, 4] 0 0)])])⟩), ([0, 4], ⟨30, 3, (.data Ty24 [y2])⟩), ([1, 0], ⟨3, 1, (.data (.int .i64) y3)⟩)], 2⟩)
theorem place_laidfn1v2_L0.step (S : T_place_laidfn1v2_L0) (F0 : T_place_datsfn1) (F1 : T_place_Addrs_round0) : ∀ v k, exR 56 Try.f56 0 place_laidfn1v2_L0.p [⟨place_datsfn1.p, place_datsfn1.g F0⟩, ⟨place_Addrs_round0.p, place_Addrs_round0.g F1⟩] [] [] (place_laidfn1v2_L0.g S) v k = place_laidfn1v2_L0.g (place_laidfn1v2_L0.body S F0 F1) v k := fun v k => by kernel_rfl
theorem place_laidfn1v2_L0.ok : okL 56 Try.f56 1 0 place_laidfn1v2_L0.p (place_laidfn1v2_L0.g (place_laidfn1v2_L0 ROUNDS)) := loop2 (G := fun n => place_laidfn1v2_L0.g (place_laidfn1v2_L0 n)) (fun n => place_laidfn1v2_L0.step (place_laidfn1v2_L0 n) place_datsfn1 place_Addrs_round0) (.cons place_datsfn1.ok (.cons place_Addrs_round0.ok .nil)) [] (by kernel_rfl) .nil (fun _ _ => rfl)
/-- function 56: sheerleg/place.laid$1 -/
abbrev T_place_laidfn1v2 : Type := Int → Int → Tc18 → (Int → Int → Tc18 → (List Int) → Option Bool) → Option Bool
noncomputable def place_laidfn1v2.body (place_laidfn1v2_L0 : T_place_laidfn1v2_L0) : T_place_laidfn1v2 := fun n1203 n1204 t1205 k1 =>
  (place_laidfn1v2_L0 n1203 (0 : Int) n1203 n1204 t1205 []
  (fun n1216 n1217 t1218 ns1219 => (k1 n1216 n1217 t1218 ns1219))
  (fun n1220 n1221 t1222 ns1223 => (k1 n1220 n1221 t1222 ns1223)))
noncomputable def place_laidfn1v2 : T_place_laidfn1v2 := place_laidfn1v2.body (place_laidfn1v2_L0 ROUNDS)
def place_laidfn1v2.p : FPat := fp 56 (ps (py 55834574848 (ps (pk 4) (ps (pk 4) (ps (pk 4) (ps (pq [0, 0] 0 0) (ps (pk 4) (ps (pk 3) (ps (pk 4) (ps (pk 4) (ps (pk 4) (ps (pk 3) (ps (pk 3) (ps (pk 3) (ps (pk 3) (ps (pk 3) (ps (pk 3) (ps (pk 4) pz))))))))))))))))) (ps (pq [0, 1] 0 0) (ps (pq [0, 2] 0 0) (ps (pq [0, 3] 0 0) pz)))) (ps (po [0, 0] 24 1 (em (ps (pk 0) pz))) (pl (po [0, 1] 3 1 (es (.int .i64) (pl eh pz))) (pl (po [0, 2] 3 1 (es (.int .i64) (pl eh pz))) (pl (po [0, 3] 95 1 (em (pl (pf 41 pz (ps (pq [0, 4] 0 0) pz)) pz))) (pl (po [0, 4] 30 3 (es Ty24 (pl eh pz))) pz)))))
def place_laidfn1v2.g (F : T_place_laidfn1v2) (v : place_laidfn1v2.p.T) (k : KR) : Option Bool := F v.2.1.1 v.2.2.1.1 v.2.2.2.2.1.1 (fun y0 y1 y2 y3 => k (.tup []) [([0, 0], ⟨24, 1, (.mix [(.ref [1, 0])])⟩), ([0, 1], ⟨3, 1, (.data (.int .i64) [y0])⟩), ([0, 2], ⟨3, 1, (.data (.int .i64) [y1])⟩), ([0, 3], ⟨95, 1, (.mix [(.fn (.func 41) [] [(.ptr [0, 4] 0 0)])])⟩), ([0, 4], ⟨30, 3, (.data Ty24 [y2])⟩), ([1, 0], ⟨3, 1, (.data (.int .i64) y3)⟩)])
theorem place_laidfn1v2.eq (L0 : T_place_laidfn1v2_L0) : ∀ v k, exF Try.f56 place_laidfn1v2.p [] [] [⟨0, place_laidfn1v2_L0.p, place_laidfn1v2_L0.g L0⟩] v k = place_laidfn1v2.g (place_laidfn1v2.body L0) v k := fun v k => by kernel_rfl
theorem place_laidfn1v2.ok : okF 2 place_laidfn1v2.p (place_laidfn1v2.g place_laidfn1v2) := fn2 (place_laidfn1v2.eq (place_laidfn1v2_L0 ROUNDS)) Try.func56 (by kernel_rfl) .nil [0] (by kernel_rfl) (.cons place_laidfn1v2_L0.ok .nil)
/-- function 13: sheerleg/place.Addrs -/
abbrev T_place_Addrs : Type := Tc18 → ((List Int) → Option Bool) → Option Bool
noncomputable def place_Addrs.body (place_dats : T_place_dats) (place_laidfn1v2 : T_place_laidfn1v2) : T_place_Addrs := fun t1199 k1 =>
  (place_dats t1199
  (fun n1200 n1201 t1202 => (place_laidfn1v2 n1200 n1201 t1202
  (fun n1224 n1225 t1226 ns1227 => (k1 ns1227)))))
noncomputable def place_Addrs : T_place_Addrs := place_Addrs.body place_dats place_laidfn1v2
def place_Addrs.p : FPat := fp 13 (pl (pd Ty24) pz) pz
def place_Addrs.g (F : T_place_Addrs) (v : place_Addrs.p.T) (k : KR) : Option Bool := F v.1.1 (fun y0 => k (.ref [1, 0]) [([1, 0], ⟨3, 1, (.data (.int .i64) y0)⟩)])
theorem place_Addrs.eq (F0 : T_place_dats) (F1 : T_place_laidfn1v2) : ∀ v k, exF Try.f13 place_Addrs.p [⟨place_dats.p, place_dats.g F0⟩, ⟨place_laidfn1v2.p, place_laidfn1v2.g F1⟩] [] [] v k = place_Addrs.g (place_Addrs.body F0 F1) v k := fun v k => by kernel_rfl
theorem place_Addrs.ok : okF 3 place_Addrs.p (place_Addrs.g place_Addrs) := fn2 (place_Addrs.eq place_dats place_laidfn1v2) Try.func13 (by kernel_rfl) (.cons place_dats.ok (.cons place_laidfn1v2.ok .nil)) [] (by kernel_rfl) .nil
/-- function 56: the loop in block 0 -/
abbrev T_place_laidfn1v3_L0 : Type := Int → Int → Int → Int → Int → Tc18 → (Int → Int → Int → Tc18 → Option Bool) → (Int → Int → Int → Tc18 → Option Bool) → Option Bool
noncomputable def place_laidfn1v3_L0.body (place_laidfn1v3_L0 : T_place_laidfn1v3_L0) (place_datsfn1 : T_place_datsfn1) (place_Words_round0 : T_place_Words_round0) : T_place_laidfn1v3_L0 := fun n1239 n1240 n1241 n1242 n1243 t1244 k1 k2 =>
  (cond_ (decide (n1240 < n1239)) (place_datsfn1 n1240 t1244
  (fun n1245 t1246 => (place_Words_round0 n1240 (n1243, ((IntKind.wrap .i64 (n1243 + n1245)), ())) n1241
  (fun b1247 n1248 => (cond_ (! b1247) (k1 n1248 n1242 n1243 t1246) (place_laidfn1v3_L0 n1239 (IntKind.wrap .i64 (n1240 + (1 : Int))) n1248 n1242 (IntKind.wrap .i64 (n1243 + n1245)) t1246 k1 k2)))))) (k2 n1241 n1242 n1243 t1244))
noncomputable def place_laidfn1v3_L0 : Nat → T_place_laidfn1v3_L0
  | 0 => fun _ _ _ _ _ _ _ _ => none
  | n + 1 => place_laidfn1v3_L0.body (place_laidfn1v3_L0 n) place_datsfn1 place_Words_round0
def place_laidfn1v3_L0.p : LPat := lp 2 25 [0, 2, 3, 7, 8] (ps (py 64424509440 (ps (pk 4) (ps (pk 4) (ps (pk 4) (ps (pq [0, 0] 0 0) (ps (pk 4) (ps (pk 3) (ps (pk 4) (ps (pk 4) (ps (pk 4) (ps (pk 3) (ps (pk 3) (ps (pk 3) (ps (pk 4) pz)))))))))))))) (ps (pq [0, 2] 0 0) (ps (pq [0, 3] 0 0) (pl (pd (.int .i64)) (pl (pd (.int .i64)) pz))))) (pl (po [0, 0] 3 1 (es (.int .i64) (pl eh pz))) (pl (po [0, 1] 3 1 (es (.int .i64) (pl eh pz))) (pl (po [0, 2] 3 1 (es (.int .i64) (pl eh pz))) (pl (po [0, 3] 95 1 (em (pl (pf 41 pz (ps (pq [0, 4] 0 0) pz)) pz))) (pl (po [0, 4] 30 3 (es Ty24 (pl eh pz))) pz)))))
def place_laidfn1v3_L0.g (F : T_place_laidfn1v3_L0) (v : place_laidfn1v3_L0.p.T) (k : KE) : Option Bool := F v.1.1 v.1.2.1 v.2.1.1 v.2.2.1.1 v.2.2.2.1.1 v.2.2.2.2.2.1.1 (fun y0 y1 y2 y3 => k .ret ⟨fillS 25 [] [], [([0, 0], ⟨3, 1, (.data (.int .i64) [y0])⟩), ([0, 1], ⟨3, 1, (.data (.int .i64) [y1])⟩), ([0, 2], ⟨3, 1, (.data (.int .i64) [y2])⟩), ([0, 3], ⟨95, 1, (.mix [(.fn (.func 41) [] [(.ptr [0, 4] 0 0)])])⟩), ([0, 4], ⟨30, 3, (.data Ty24 [y3])⟩)], 2⟩) (fun y0 y1 y2 y3 => k (.exit 0) ⟨fillS 25 [] [], [([0, 0], ⟨3, 1, (.data (.int .i64) [y0])⟩), ([0, 1], ⟨3, 1, (.data (.int .i64) [y1])⟩), ([0, 2], ⟨3, 1, (.data (.int .i64) [y2])⟩), ([0, 3], ⟨95, 1, (.mix [(.fn (.func 41) [] [(.ptr [0, 4] 0 0)])])⟩), ([0, 4], ⟨30, 3, (.data Ty24 [y3])⟩)], 2⟩)
theorem place_laidfn1v3_L0.step (S : T_place_laidfn1v3_L0) (F0 : T_place_datsfn1) (F1 : T_place_Words_round0) : ∀ v k, exR 56 Try.f56 0 place_laidfn1v3_L0.p [⟨place_datsfn1.p, place_datsfn1.g F0⟩, ⟨place_Words_round0.p, place_Words_round0.g F1⟩] [] [] (place_laidfn1v3_L0.g S) v k = place_laidfn1v3_L0.g (place_laidfn1v3_L0.body S F0 F1) v k := fun v k => by kernel_rfl
theorem place_laidfn1v3_L0.ok : okL 56 Try.f56 1 0 place_laidfn1v3_L0.p (place_laidfn1v3_L0.g (place_laidfn1v3_L0 ROUNDS)) := loop2 (G := fun n => place_laidfn1v3_L0.g (place_laidfn1v3_L0 n)) (fun n => place_laidfn1v3_L0.step (place_laidfn1v3_L0 n) place_datsfn1 place_Words_round0) (.cons place_datsfn1.ok (.cons place_Words_round0.ok .nil)) [] (by kernel_rfl) .nil (fun _ _ => rfl)
/-- function 56: sheerleg/place.laid$1 -/
abbrev T_place_laidfn1v3 : Type := Int → Int → Int → Tc18 → (Int → Int → Int → Tc18 → Option Bool) → Option Bool
noncomputable def place_laidfn1v3.body (place_laidfn1v3_L0 : T_place_laidfn1v3_L0) : T_place_laidfn1v3 := fun n1235 n1236 n1237 t1238 k1 =>
  (place_laidfn1v3_L0 n1236 (0 : Int) n1235 n1236 n1237 t1238
  (fun n1249 n1250 n1251 t1252 => (k1 n1249 n1250 n1251 t1252))
  (fun n1253 n1254 n1255 t1256 => (k1 n1253 n1254 n1255 t1256)))
noncomputable def place_laidfn1v3 : T_place_laidfn1v3 := place_laidfn1v3.body (place_laidfn1v3_L0 ROUNDS)
def place_laidfn1v3.p : FPat := fp 56 (ps (py 64424509440 (ps (pk 4) (ps (pk 4) (ps (pk 4) (ps (pq [0, 0] 0 0) (ps (pk 4) (ps (pk 3) (ps (pk 4) (ps (pk 4) (ps (pk 4) (ps (pk 3) (ps (pk 3) (ps (pk 3) (ps (pk 4) pz)))))))))))))) (ps (pq [0, 1] 0 0) (ps (pq [0, 2] 0 0) (ps (pq [0, 3] 0 0) pz)))) (pl (po [0, 0] 3 1 (es (.int .i64) (pl eh pz))) (pl (po [0, 1] 3 1 (es (.int .i64) (pl eh pz))) (pl (po [0, 2] 3 1 (es (.int .i64) (pl eh pz))) (pl (po [0, 3] 95 1 (em (pl (pf 41 pz (ps (pq [0, 4] 0 0) pz)) pz))) (pl (po [0, 4] 30 3 (es Ty24 (pl eh pz))) pz)))))
def place_laidfn1v3.g (F : T_place_laidfn1v3) (v : place_laidfn1v3.p.T) (k : KR) : Option Bool := F v.2.1.1 v.2.2.1.1 v.2.2.2.1.1 v.2.2.2.2.2.1.1 (fun y0 y1 y2 y3 => k (.tup []) [([0, 0], ⟨3, 1, (.data (.int .i64) [y0])⟩), ([0, 1], ⟨3, 1, (.data (.int .i64) [y1])⟩), ([0, 2], ⟨3, 1, (.data (.int .i64) [y2])⟩), ([0, 3], ⟨95, 1, (.mix [(.fn (.func 41) [] [(.ptr [0, 4] 0 0)])])⟩), ([0, 4], ⟨30, 3, (.data Ty24 [y3])⟩)])
theorem place_laidfn1v3.eq (L0 : T_place_laidfn1v3_L0) : ∀ v k, exF Try.f56 place_laidfn1v3.p [] [] [⟨0, place_laidfn1v3_L0.p, place_laidfn1v3_L0.g L0⟩] v k = place_laidfn1v3.g (place_laidfn1v3.body L0) v k := fun v k => by kernel_rfl
theorem place_laidfn1v3.ok : okF 2 place_laidfn1v3.p (place_laidfn1v3.g place_laidfn1v3) := fn2 (place_laidfn1v3.eq (place_laidfn1v3_L0 ROUNDS)) Try.func56 (by kernel_rfl) .nil [0] (by kernel_rfl) (.cons place_laidfn1v3_L0.ok .nil)
/-- function 15: sheerleg/place.Words -/
abbrev T_place_Words : Type := Tc18 → (Int → Option Bool) → Option Bool
noncomputable def place_Words.body (place_dats : T_place_dats) (place_laidfn1v3 : T_place_laidfn1v3) : T_place_Words := fun t1231 k1 =>
  (place_dats t1231
  (fun n1232 n1233 t1234 => (place_laidfn1v3 (0 : Int) n1232 n1233 t1234
  (fun n1257 n1258 n1259 t1260 => (k1 n1257)))))
noncomputable def place_Words : T_place_Words := place_Words.body place_dats place_laidfn1v3
def place_Words.p : FPat := fp 15 (pl (pd Ty24) pz) pz
def place_Words.g (F : T_place_Words) (v : place_Words.p.T) (k : KR) : Option Bool := F v.1.1 (fun y0 => k (.d ⟨(.int .i64), y0⟩) [])
theorem place_Words.eq (F0 : T_place_dats) (F1 : T_place_laidfn1v3) : ∀ v k, exF Try.f15 place_Words.p [⟨place_dats.p, place_dats.g F0⟩, ⟨place_laidfn1v3.p, place_laidfn1v3.g F1⟩] [] [] v k = place_Words.g (place_Words.body F0 F1) v k := fun v k => by kernel_rfl
theorem place_Words.ok : okF 3 place_Words.p (place_Words.g place_Words) := fn2 (place_Words.eq place_dats place_laidfn1v3) Try.func15 (by kernel_rfl) (.cons place_dats.ok (.cons place_laidfn1v3.ok .nil)) [] (by kernel_rfl) .nil
/-- function 4296146944: sheerleg/place.Fns.round0 -/
abbrev T_place_Fns_round0v1 : Type := Int → (Int × Int × Unit) → Tc18 → Tc6 → (Bool → Tc18 → Tc6 → Option Bool) → (Bool → Tc18 → Tc6 → Option Bool) → Option Bool
noncomputable def place_Fns_round0v1.body (fun_Frame : T_fun_Frame) : T_place_Fns_round0v1 := fun n1285 t1286 t1287 ts1288 k1 k2 =>
  (cond_ (t1286.1 == t1286.2.1) (k1 true t1287 ts1288) (cond_ ((decide ((0 : Int) ≤ n1285)) && (decide (n1285 < (((List.length t1287.1) : Nat) : Int)))) (fun_Frame ((List.getD t1287.1 (Int.toNat n1285) (0, (0, ((⟨#[]⟩ : ByteArray), (0, ([], (0, (false, (0, (0, ([], ([], ([], ([], ())))))))))))))).2.2.2.1, ((List.getD t1287.1 (Int.toNat n1285) (0, (0, ((⟨#[]⟩ : ByteArray), (0, ([], (0, (false, (0, (0, ([], ([], ([], ([], ())))))))))))))).2.2.2.2.1, ((List.getD t1287.1 (Int.toNat n1285) (0, (0, ((⟨#[]⟩ : ByteArray), (0, ([], (0, (false, (0, (0, ([], ([], ([], ([], ())))))))))))))).2.2.2.2.2.1, ((List.getD t1287.1 (Int.toNat n1285) (0, (0, ((⟨#[]⟩ : ByteArray), (0, ([], (0, (false, (0, (0, ([], ([], ([], ([], ())))))))))))))).2.2.2.2.2.2.1, ((List.getD t1287.1 (Int.toNat n1285) (0, (0, ((⟨#[]⟩ : ByteArray), (0, ([], (0, (false, (0, (0, ([], ([], ([], ([], ())))))))))))))).2.2.2.2.2.2.2.1, ((List.getD t1287.1 (Int.toNat n1285) (0, (0, ((⟨#[]⟩ : ByteArray), (0, ([], (0, (false, (0, (0, ([], ([], ([], ([], ())))))))))))))).2.2.2.2.2.2.2.2.1, ((List.getD t1287.1 (Int.toNat n1285) (0, (0, ((⟨#[]⟩ : ByteArray), (0, ([], (0, (false, (0, (0, ([], ([], ([], ([], ())))))))))))))).2.2.2.2.2.2.2.2.2.1, ((List.getD t1287.1 (Int.toNat n1285) (0, (0, ((⟨#[]⟩ : ByteArray), (0, ([], (0, (false, (0, (0, ([], ([], ([], ([], ())))))))))))))).2.2.2.2.2.2.2.2.2.2.1, ((List.getD t1287.1 (Int.toNat n1285) (0, (0, ((⟨#[]⟩ : ByteArray), (0, ([], (0, (false, (0, (0, ([], ([], ([], ([], ())))))))))))))).2.2.2.2.2.2.2.2.2.2.2.1, ())))))))))
  (fun n1289 => (cond_ (Nat.ble (((List.length ts1288) + (List.length (((List.getD t1287.1 (Int.toNat n1285) (0, (0, ((⟨#[]⟩ : ByteArray), (0, ([], (0, (false, (0, (0, ([], ([], ([], ([], ())))))))))))))).1, ((List.getD t1287.1 (Int.toNat n1285) (0, (0, ((⟨#[]⟩ : ByteArray), (0, ([], (0, (false, (0, (0, ([], ([], ([], ([], ())))))))))))))).2.1, (t1286.1, ((IntKind.wrap .i64 (t1286.2.1 - (((List.length (List.getD t1287.1 (Int.toNat n1285) (0, (0, ((⟨#[]⟩ : ByteArray), (0, ([], (0, (false, (0, (0, ([], ([], ([], ([], ())))))))))))))).2.2.2.2.2.2.2.2.2.2.1) : Nat) : Int))), (t1286.2.1, (n1289, ())))))) :: []))) * (48 : Nat)) (140737488355328 : Nat)) (k2 true t1287 (ts1288 ++ (((List.getD t1287.1 (Int.toNat n1285) (0, (0, ((⟨#[]⟩ : ByteArray), (0, ([], (0, (false, (0, (0, ([], ([], ([], ([], ())))))))))))))).1, ((List.getD t1287.1 (Int.toNat n1285) (0, (0, ((⟨#[]⟩ : ByteArray), (0, ([], (0, (false, (0, (0, ([], ([], ([], ([], ())))))))))))))).2.1, (t1286.1, ((IntKind.wrap .i64 (t1286.2.1 - (((List.length (List.getD t1287.1 (Int.toNat n1285) (0, (0, ((⟨#[]⟩ : ByteArray), (0, ([], (0, (false, (0, (0, ([], ([], ([], ([], ())))))))))))))).2.2.2.2.2.2.2.2.2.2.1) : Nat) : Int))), (t1286.2.1, (n1289, ())))))) :: []))) none))) none))
noncomputable def place_Fns_round0v1 : T_place_Fns_round0v1 := place_Fns_round0v1.body fun_Frame
def place_Fns_round0v1.p : FPat := fp 4296146944 (pl (pd (.int .i64)) (pl (pd Ty3) (ps (pk 4) (ps (pk 4) (ps (pq [0, 0] 0 0) (ps (pk 4) (ps (pk 4) (ps (pq [0, 1] 0 0) (ps (pk 3) (ps (pk 3) (ps (pk 3) (ps (pk 4) (ps (pk 4) (ps (pk 4) (ps (pk 3) (ps (pk 3) (ps (pk 3) (ps (pk 3) (ps (pk 3) (ps (pk 3) (ps (pk 3) (ps (pk 3) (ps (pk 3) (ps (pk 3) (ps (pk 3) (ps (pk 3) (ps (pk 3) (ps (pk 3) (ps (pk 3) (ps (pk 3) (ps (pk 3) (ps (pk 3) (ps (pk 3) (ps (pk 3) (ps (pk 3) (ps (pk 3) (ps (pk 3) (ps (pk 3) (ps (pk 3) (ps (pk 3) (ps (pk 3) (ps (pk 3) (ps (pk 3) (ps (pk 3) (ps (pk 3) (ps (pk 3) (ps (pk 3) (ps (pk 3) (ps (pk 4) pz))))))))))))))))))))))))))))))))))))))))))))))))) (pl (po [0, 0] 30 3 (es Ty24 (pl eh pz))) (ps (po [0, 1] 40 1 (em (ps (pr [0, 2]) pz))) (pl (po [0, 2] 44 6 (ed Ty13)) pz)))
def place_Fns_round0v1.g (F : T_place_Fns_round0v1) (v : place_Fns_round0v1.p.T) (k : KR) : Option Bool := F v.1.1 v.1.2.1 v.2.1.1 v.2.2.1 (fun y0 y1 y2 => k (.d ⟨.bool, y0⟩) [([0, 0], ⟨30, 3, (.data Ty24 [y1])⟩), ([0, 1], ⟨40, 1, (.mix [(.ref [0, 2])])⟩), ([0, 2], ⟨44, 6, (.data Ty13 y2)⟩)]) (fun y0 y1 y2 => k (.d ⟨.bool, y0⟩) [([0, 0], ⟨30, 3, (.data Ty24 [y1])⟩), ([0, 1], ⟨40, 1, (.mix [(.ref [1, 0])])⟩), ([1, 0], ⟨44, 6, (.data Ty13 y2)⟩)])
theorem place_Fns_round0v1.eq (F0 : T_fun_Frame) : ∀ v k, exB (rbAt Try.prog 1179648) place_Fns_round0v1.p [⟨fun_Frame.p, fun_Frame.g F0⟩] [] [] v k = place_Fns_round0v1.g (place_Fns_round0v1.body F0) v k := fun v k => by kernel_rfl
theorem place_Fns_round0v1.ok : okF 3 place_Fns_round0v1.p (place_Fns_round0v1.g place_Fns_round0v1) := rnd2 (place_Fns_round0v1.eq fun_Frame) rfl (by kernel_rfl) (.cons fun_Frame.ok .nil) [] (by kernel_rfl) .nil
/-- function 56: the loop in block 0 -/
abbrev T_place_laidfn1v4_L0 : Type := Int → Int → Tc18 → Int → Int → Tc18 → Tc1 → Tc6 → (Tc18 → Int → Int → Tc18 → Tc1 → Tc6 → Option Bool) → (Tc18 → Int → Int → Tc18 → Tc1 → Tc6 → Option Bool) → Option Bool
noncomputable def place_laidfn1v4_L0.body (place_laidfn1v4_L0 : T_place_laidfn1v4_L0) (place_funsfn1 : T_place_funsfn1) (place_Fns_round0v1 : T_place_Fns_round0v1) : T_place_laidfn1v4_L0 := fun n1274 n1275 t1276 n1277 n1278 t1279 t1280 ts1281 k1 k2 =>
  (cond_ (decide (n1275 < n1274)) (place_funsfn1 n1275 t1279 t1280
  (fun n1282 t1283 t1284 => (place_Fns_round0v1 n1275 (n1278, ((IntKind.wrap .i64 (n1278 + n1282)), ())) t1276 ts1281
  (fun b1290 t1291 ts1292 => (cond_ (! b1290) (k1 t1291 n1277 n1278 t1283 t1284 ts1292) (place_laidfn1v4_L0 n1274 (IntKind.wrap .i64 (n1275 + (1 : Int))) t1291 n1277 (IntKind.wrap .i64 (n1278 + n1282)) t1283 t1284 ts1292 k1 k2)))
  (fun b1293 t1294 ts1295 => (cond_ (! b1293) (k1 t1294 n1277 n1278 t1283 t1284 ts1295) (place_laidfn1v4_L0 n1274 (IntKind.wrap .i64 (n1275 + (1 : Int))) t1294 n1277 (IntKind.wrap .i64 (n1278 + n1282)) t1283 t1284 ts1295 k1 k2)))))) (k2 t1276 n1277 n1278 t1279 t1280 ts1281))
noncomputable def place_laidfn1v4_L0 : Nat → T_place_laidfn1v4_L0
  | 0 => fun _ _ _ _ _ _ _ _ _ _ => none
  | n + 1 => place_laidfn1v4_L0.body (place_laidfn1v4_L0 n) place_funsfn1 place_Fns_round0v1
def place_laidfn1v4_L0.p : LPat := lp 2 25 [0, 2, 3, 7, 8] (ps (py 77309411328 (ps (pk 4) (ps (pk 4) (ps (pq [0, 0] 0 0) (ps (pk 4) (ps (pk 4) (ps (pq [0, 1] 0 0) (ps (pk 3) (ps (pk 3) (ps (pk 3) (ps (pk 4) (ps (pk 4) (ps (pk 4) (ps (pk 3) (ps (pk 3) (ps (pk 3) (ps (pk 3) (ps (pk 3) (ps (pk 3) (ps (pk 3) (ps (pk 3) (ps (pk 3) (ps (pk 3) (ps (pk 3) (ps (pk 3) (ps (pk 3) (ps (pk 3) (ps (pk 3) (ps (pk 3) (ps (pk 3) (ps (pk 3) (ps (pk 3) (ps (pk 3) (ps (pk 3) (ps (pk 3) (ps (pk 3) (ps (pk 3) (ps (pk 3) (ps (pk 3) (ps (pk 3) (ps (pk 3) (ps (pk 3) (ps (pk 3) (ps (pk 3) (ps (pk 3) (ps (pk 3) (ps (pk 3) (ps (pk 4) pz)))))))))))))))))))))))))))))))))))))))))))))))) (ps (pq [0, 3] 0 0) (ps (pq [0, 4] 0 0) (pl (pd (.int .i64)) (pl (pd (.int .i64)) pz))))) (pl (po [0, 0] 30 3 (es Ty24 (pl eh pz))) (ps (po [0, 1] 40 1 (em (ps (pr [1, 0]) pz))) (pl (po [0, 2] 3 1 (es (.int .i64) (pl eh pz))) (pl (po [0, 3] 3 1 (es (.int .i64) (pl eh pz))) (pl (po [0, 4] 95 1 (em (pl (pf 38 pz (ps (pq [0, 5] 0 0) (ps (pq [0, 6] 0 0) pz))) pz))) (pl (po [0, 5] 30 3 (es Ty24 (pl eh pz))) (pl (po [0, 6] 26 2 (es Ty6 (pl eh pz))) (pl (po [1, 0] 44 6 (ed Ty13)) pz))))))))
def place_laidfn1v4_L0.g (F : T_place_laidfn1v4_L0) (v : place_laidfn1v4_L0.p.T) (k : KE) : Option Bool := F v.1.1 v.1.2.1 v.2.1.1 v.2.2.1.1 v.2.2.2.1.1 v.2.2.2.2.2.1.1 v.2.2.2.2.2.2.1.1 v.2.2.2.2.2.2.2.1 (fun y0 y1 y2 y3 y4 y5 => k .ret ⟨fillS 25 [] [], [([0, 0], ⟨30, 3, (.data Ty24 [y0])⟩), ([0, 1], ⟨40, 1, (.mix [(.ref [1, 0])])⟩), ([0, 2], ⟨3, 1, (.data (.int .i64) [y1])⟩), ([0, 3], ⟨3, 1, (.data (.int .i64) [y2])⟩), ([0, 4], ⟨95, 1, (.mix [(.fn (.func 38) [] [(.ptr [0, 5] 0 0), (.ptr [0, 6] 0 0)])])⟩), ([0, 5], ⟨30, 3, (.data Ty24 [y3])⟩), ([0, 6], ⟨26, 2, (.data Ty6 [y4])⟩), ([1, 0], ⟨44, 6, (.data Ty13 y5)⟩)], 2⟩) (fun y0 y1 y2 y3 y4 y5 => k (.exit 0) ⟨fillS 25 [] [], [([0, 0], ⟨30, 3, (.data Ty24 [y0])⟩), ([0, 1], ⟨40, 1, (.mix [(.ref [1, 0])])⟩), ([0, 2], ⟨3, 1, (.data (.int .i64) [y1])⟩), ([0, 3], ⟨3, 1, (.data (.int .i64) [y2])⟩), ([0, 4], ⟨95, 1, (.mix [(.fn (.func 38) [] [(.ptr [0, 5] 0 0), (.ptr [0, 6] 0 0)])])⟩), ([0, 5], ⟨30, 3, (.data Ty24 [y3])⟩), ([0, 6], ⟨26, 2, (.data Ty6 [y4])⟩), ([1, 0], ⟨44, 6, (.data Ty13 y5)⟩)], 2⟩)
theorem place_laidfn1v4_L0.step (S : T_place_laidfn1v4_L0) (F0 : T_place_funsfn1) (F1 : T_place_Fns_round0v1) : ∀ v k, exR 56 Try.f56 0 place_laidfn1v4_L0.p [⟨place_funsfn1.p, place_funsfn1.g F0⟩, ⟨place_Fns_round0v1.p, place_Fns_round0v1.g F1⟩] [] [] (place_laidfn1v4_L0.g S) v k = place_laidfn1v4_L0.g (place_laidfn1v4_L0.body S F0 F1) v k := fun v k => by kernel_rfl
theorem place_laidfn1v4_L0.ok : okL 56 Try.f56 3 0 place_laidfn1v4_L0.p (place_laidfn1v4_L0.g (place_laidfn1v4_L0 ROUNDS)) := loop2 (G := fun n => place_laidfn1v4_L0.g (place_laidfn1v4_L0 n)) (fun n => place_laidfn1v4_L0.step (place_laidfn1v4_L0 n) place_funsfn1 place_Fns_round0v1) (.cons place_funsfn1.ok (.cons place_Fns_round0v1.ok .nil)) [] (by kernel_rfl) .nil (fun _ _ => rfl)
/-- function 56: sheerleg/place.laid$1 -/
abbrev T_place_laidfn1v4 : Type := Tc18 → Int → Int → Tc18 → Tc1 → (Tc18 → Int → Int → Tc18 → Tc1 → Tc6 → Option Bool) → Option Bool
noncomputable def place_laidfn1v4.body (place_laidfn1v4_L0 : T_place_laidfn1v4_L0) : T_place_laidfn1v4 := fun t1269 n1270 n1271 t1272 t1273 k1 =>
  (place_laidfn1v4_L0 n1270 (0 : Int) t1269 n1270 n1271 t1272 t1273 []
  (fun t1296 n1297 n1298 t1299 t1300 ts1301 => (k1 t1296 n1297 n1298 t1299 t1300 ts1301))
  (fun t1302 n1303 n1304 t1305 t1306 ts1307 => (k1 t1302 n1303 n1304 t1305 t1306 ts1307)))
noncomputable def place_laidfn1v4 : T_place_laidfn1v4 := place_laidfn1v4.body (place_laidfn1v4_L0 ROUNDS)
def place_laidfn1v4.p : FPat := fp 56 (ps (py 77309411328 (ps (pk 4) (ps (pk 4) (ps (pq [0, 0] 0 0) (ps (pk 4) (ps (pk 4) (ps (pq [0, 1] 0 0) (ps (pk 3) (ps (pk 3) (ps (pk 3) (ps (pk 4) (ps (pk 4) (ps (pk 4) (ps (pk 3) (ps (pk 3) (ps (pk 3) (ps (pk 3) (ps (pk 3) (ps (pk 3) (ps (pk 3) (ps (pk 3) (ps (pk 3) (ps (pk 3) (ps (pk 3) (ps (pk 3) (ps (pk 3) (ps (pk 3) (ps (pk 3) (ps (pk 3) (ps (pk 3) (ps (pk 3) (ps (pk 3) (ps (pk 3) (ps (pk 3) (ps (pk 3) (ps (pk 3) (ps (pk 3) (ps (pk 3) (ps (pk 3) (ps (pk 3) (ps (pk 3) (ps (pk 3) (ps (pk 3) (ps (pk 3) (ps (pk 3) (ps (pk 3) (ps (pk 3) (ps (pk 4) pz)))))))))))))))))))))))))))))))))))))))))))))))) (ps (pq [0, 2] 0 0) (ps (pq [0, 3] 0 0) (ps (pq [0, 4] 0 0) pz)))) (pl (po [0, 0] 30 3 (es Ty24 (pl eh pz))) (ps (po [0, 1] 40 1 (em (ps (pk 0) pz))) (pl (po [0, 2] 3 1 (es (.int .i64) (pl eh pz))) (pl (po [0, 3] 3 1 (es (.int .i64) (pl eh pz))) (pl (po [0, 4] 95 1 (em (pl (pf 38 pz (ps (pq [0, 5] 0 0) (ps (pq [0, 6] 0 0) pz))) pz))) (pl (po [0, 5] 30 3 (es Ty24 (pl eh pz))) (pl (po [0, 6] 26 2 (es Ty6 (pl eh pz))) pz)))))))
def place_laidfn1v4.g (F : T_place_laidfn1v4) (v : place_laidfn1v4.p.T) (k : KR) : Option Bool := F v.2.1.1 v.2.2.1.1 v.2.2.2.1.1 v.2.2.2.2.2.1.1 v.2.2.2.2.2.2.1.1 (fun y0 y1 y2 y3 y4 y5 => k (.tup []) [([0, 0], ⟨30, 3, (.data Ty24 [y0])⟩), ([0, 1], ⟨40, 1, (.mix [(.ref [1, 0])])⟩), ([0, 2], ⟨3, 1, (.data (.int .i64) [y1])⟩), ([0, 3], ⟨3, 1, (.data (.int .i64) [y2])⟩), ([0, 4], ⟨95, 1, (.mix [(.fn (.func 38) [] [(.ptr [0, 5] 0 0), (.ptr [0, 6] 0 0)])])⟩), ([0, 5], ⟨30, 3, (.data Ty24 [y3])⟩), ([0, 6], ⟨26, 2, (.data Ty6 [y4])⟩), ([1, 0], ⟨44, 6, (.data Ty13 y5)⟩)])
theorem place_laidfn1v4.eq (L0 : T_place_laidfn1v4_L0) : ∀ v k, exF Try.f56 place_laidfn1v4.p [] [] [⟨0, place_laidfn1v4_L0.p, place_laidfn1v4_L0.g L0⟩] v k = place_laidfn1v4.g (place_laidfn1v4.body L0) v k := fun v k => by kernel_rfl
theorem place_laidfn1v4.ok : okF 4 place_laidfn1v4.p (place_laidfn1v4.g place_laidfn1v4) := fn2 (place_laidfn1v4.eq (place_laidfn1v4_L0 ROUNDS)) Try.func56 (by kernel_rfl) .nil [0] (by kernel_rfl) (.cons place_laidfn1v4_L0.ok .nil)
/-- function 18: sheerleg/place.Fns -/
abbrev T_place_Fns : Type := Tc18 → Tc1 → (Tc6 → Option Bool) → Option Bool
noncomputable def place_Fns.body (place_funs : T_place_funs) (place_laidfn1v4 : T_place_laidfn1v4) : T_place_Fns := fun t1263 t1264 k1 =>
  (place_funs t1263 t1264
  (fun n1265 n1266 t1267 t1268 => (place_laidfn1v4 t1263 n1265 n1266 t1267 t1268
  (fun t1308 n1309 n1310 t1311 t1312 ts1313 => (k1 ts1313)))))
noncomputable def place_Fns : T_place_Fns := place_Fns.body place_funs place_laidfn1v4
def place_Fns.p : FPat := fp 18 (pl (pd Ty24) (pl (pd Ty6) pz)) pz
def place_Fns.g (F : T_place_Fns) (v : place_Fns.p.T) (k : KR) : Option Bool := F v.1.1 v.1.2.1 (fun y0 => k (.ref [1, 0]) [([1, 0], ⟨44, 6, (.data Ty13 y0)⟩)])
theorem place_Fns.eq (F0 : T_place_funs) (F1 : T_place_laidfn1v4) : ∀ v k, exF Try.f18 place_Fns.p [⟨place_funs.p, place_funs.g F0⟩, ⟨place_laidfn1v4.p, place_laidfn1v4.g F1⟩] [] [] v k = place_Fns.g (place_Fns.body F0 F1) v k := fun v k => by kernel_rfl
theorem place_Fns.ok : okF 5 place_Fns.p (place_Fns.g place_Fns) := fn2 (place_Fns.eq place_funs place_laidfn1v4) Try.func18 (by kernel_rfl) (.cons place_funs.ok (.cons place_laidfn1v4.ok .nil)) [] (by kernel_rfl) .nil
/-- function 43: sheerleg/sheerlegref01.Near -/
abbrev T_ref01_Near : Type := Int → Int → Int → (Int → Option Bool) → Option Bool
noncomputable def ref01_Near.body : T_ref01_Near := fun n1325 n1326 n1327 k1 =>
  (cond_ (decide (n1325 < n1326)) (k1 n1326) (cond_ (decide (n1325 > n1327)) (k1 n1327) (k1 n1325)))
noncomputable def ref01_Near : T_ref01_Near := ref01_Near.body
def ref01_Near.p : FPat := fp 43 (pl (pd (.int .i64)) (pl (pd (.int .i64)) (pl (pd (.int .i64)) pz))) pz
def ref01_Near.g (F : T_ref01_Near) (v : ref01_Near.p.T) (k : KR) : Option Bool := F v.1.1 v.1.2.1 v.1.2.2.1 (fun y0 => k (.d ⟨(.int .i64), y0⟩) [])
theorem ref01_Near.eq : ∀ v k, exF Try.f43 ref01_Near.p [] [] [] v k = ref01_Near.g (ref01_Near.body) v k := fun v k => by kernel_rfl
theorem ref01_Near.ok : okF 1 ref01_Near.p (ref01_Near.g ref01_Near) := fn2 (ref01_Near.eq) Try.func43 (by kernel_rfl) .nil [] (by kernel_rfl) .nil
/-- function 30: sheerleg/sheerlegref16.Frame -/
abbrev T_ref16_Frame : Type := Tc12 → (Int → Option Bool) → Option Bool
noncomputable def ref16_Frame.body (ref01_Near : T_ref01_Near) : T_ref16_Frame := fun t1324 k1 =>
  (ref01_Near t1324.2.2.1 (0 : Int) (1048576 : Int)
  (fun n1328 => (k1 (IntKind.wrap .i64 ((((List.length t1324.2.1) : Nat) : Int) + n1328)))))
noncomputable def ref16_Frame : T_ref16_Frame := ref16_Frame.body ref01_Near
def ref16_Frame.p : FPat := fp 30 (pl (pd Ty18) pz) pz
def ref16_Frame.g (F : T_ref16_Frame) (v : ref16_Frame.p.T) (k : KR) : Option Bool := F v.1.1 (fun y0 => k (.d ⟨(.int .i64), y0⟩) [])
theorem ref16_Frame.eq (F0 : T_ref01_Near) : ∀ v k, exF Try.f30 ref16_Frame.p [⟨ref01_Near.p, ref01_Near.g F0⟩] [] [] v k = ref16_Frame.g (ref16_Frame.body F0) v k := fun v k => by kernel_rfl
theorem ref16_Frame.ok : okF 2 ref16_Frame.p (ref16_Frame.g ref16_Frame) := fn2 (ref16_Frame.eq ref01_Near) Try.func30 (by kernel_rfl) (.cons ref01_Near.ok .nil) [] (by kernel_rfl) .nil
/-- function 19: the loop in block 0 -/
abbrev T_ref29_Fns_L0 : Type := Int → Tc18 → Tc1 → Tc6 → (Tc6 → Option Bool) → Option Bool
noncomputable def ref29_Fns_L0.body (ref29_Fns_L0 : T_ref29_Fns_L0) (ref28_Kept : T_ref28_Kept) (ref29_start : T_ref29_start) (ref16_Frame : T_ref16_Frame) : T_ref29_Fns_L0 := fun n1317 t1318 t1319 ts1320 k1 =>
  (cond_ (decide (n1317 < (((List.length t1318.1) : Nat) : Int))) (ref28_Kept t1318 t1319 n1317
  (fun b1321 => (cond_ (! b1321) (ref29_Fns_L0 (IntKind.wrap .i64 (n1317 + (1 : Int))) t1318 t1319 ts1320 k1) (cond_ ((decide ((0 : Int) ≤ n1317)) && (decide (n1317 < (((List.length t1318.1) : Nat) : Int)))) (ref29_start t1318 t1319 (IntKind.wrap .i64 (n1317 + (1 : Int)))
  (fun n1322 => (ref29_start t1318 t1319 n1317
  (fun n1323 => (ref16_Frame ((List.getD t1318.1 (Int.toNat n1317) (0, (0, ((⟨#[]⟩ : ByteArray), (0, ([], (0, (false, (0, (0, ([], ([], ([], ([], ())))))))))))))).2.2.2.1, ((List.getD t1318.1 (Int.toNat n1317) (0, (0, ((⟨#[]⟩ : ByteArray), (0, ([], (0, (false, (0, (0, ([], ([], ([], ([], ())))))))))))))).2.2.2.2.1, ((List.getD t1318.1 (Int.toNat n1317) (0, (0, ((⟨#[]⟩ : ByteArray), (0, ([], (0, (false, (0, (0, ([], ([], ([], ([], ())))))))))))))).2.2.2.2.2.1, ((List.getD t1318.1 (Int.toNat n1317) (0, (0, ((⟨#[]⟩ : ByteArray), (0, ([], (0, (false, (0, (0, ([], ([], ([], ([], ())))))))))))))).2.2.2.2.2.2.1, ((List.getD t1318.1 (Int.toNat n1317) (0, (0, ((⟨#[]⟩ : ByteArray), (0, ([], (0, (false, (0, (0, ([], ([], ([], ([], ())))))))))))))).2.2.2.2.2.2.2.1, ((List.getD t1318.1 (Int.toNat n1317) (0, (0, ((⟨#[]⟩ : ByteArray), (0, ([], (0, (false, (0, (0, ([], ([], ([], ([], ())))))))))))))).2.2.2.2.2.2.2.2.1, ((List.getD t1318.1 (Int.toNat n1317) (0, (0, ((⟨#[]⟩ : ByteArray), (0, ([], (0, (false, (0, (0, ([], ([], ([], ([], ())))))))))))))).2.2.2.2.2.2.2.2.2.1, ((List.getD t1318.1 (Int.toNat n1317) (0, (0, ((⟨#[]⟩ : ByteArray), (0, ([], (0, (false, (0, (0, ([], ([], ([], ([], ())))))))))))))).2.2.2.2.2.2.2.2.2.2.1, ((List.getD t1318.1 (Int.toNat n1317) (0, (0, ((⟨#[]⟩ : ByteArray), (0, ([], (0, (false, (0, (0, ([], ([], ([], ([], ())))))))))))))).2.2.2.2.2.2.2.2.2.2.2.1, ())))))))))
  (fun n1329 => (cond_ (Nat.ble (((List.length ts1320) + (List.length (((List.getD t1318.1 (Int.toNat n1317) (0, (0, ((⟨#[]⟩ : ByteArray), (0, ([], (0, (false, (0, (0, ([], ([], ([], ([], ())))))))))))))).1, ((List.getD t1318.1 (Int.toNat n1317) (0, (0, ((⟨#[]⟩ : ByteArray), (0, ([], (0, (false, (0, (0, ([], ([], ([], ([], ())))))))))))))).2.1, (n1323, ((IntKind.wrap .i64 (n1322 - (((List.length (List.getD t1318.1 (Int.toNat n1317) (0, (0, ((⟨#[]⟩ : ByteArray), (0, ([], (0, (false, (0, (0, ([], ([], ([], ([], ())))))))))))))).2.2.2.2.2.2.2.2.2.2.1) : Nat) : Int))), (n1322, (n1329, ())))))) :: []))) * (48 : Nat)) (140737488355328 : Nat)) (ref29_Fns_L0 (IntKind.wrap .i64 (n1317 + (1 : Int))) t1318 t1319 (ts1320 ++ (((List.getD t1318.1 (Int.toNat n1317) (0, (0, ((⟨#[]⟩ : ByteArray), (0, ([], (0, (false, (0, (0, ([], ([], ([], ([], ())))))))))))))).1, ((List.getD t1318.1 (Int.toNat n1317) (0, (0, ((⟨#[]⟩ : ByteArray), (0, ([], (0, (false, (0, (0, ([], ([], ([], ([], ())))))))))))))).2.1, (n1323, ((IntKind.wrap .i64 (n1322 - (((List.length (List.getD t1318.1 (Int.toNat n1317) (0, (0, ((⟨#[]⟩ : ByteArray), (0, ([], (0, (false, (0, (0, ([], ([], ([], ([], ())))))))))))))).2.2.2.2.2.2.2.2.2.2.1) : Nat) : Int))), (n1322, (n1329, ())))))) :: [])) k1) none))))))) none)))) (k1 ts1320))
noncomputable def ref29_Fns_L0 : Nat → T_ref29_Fns_L0
  | 0 => fun _ _ _ _ _ => none
  | n + 1 => ref29_Fns_L0.body (ref29_Fns_L0 n) ref28_Kept ref29_start ref16_Frame
def ref29_Fns_L0.p : LPat := lp 2 54 [2, 3, 5, 6] (ps (pq [1, 0] 0 0) (ps (pq [1, 1] 0 0) (ps (pr [1, 2]) (pl (pd (.int .i64)) pz)))) (pl (po [1, 0] 30 3 (es Ty24 (pl eh pz))) (pl (po [1, 1] 26 2 (es Ty6 (pl eh pz))) (pl (po [1, 2] 44 6 (ed Ty13)) pz)))
def ref29_Fns_L0.g (F : T_ref29_Fns_L0) (v : ref29_Fns_L0.p.T) (k : KE) : Option Bool := F v.1.1 v.2.1.1 v.2.2.1.1 v.2.2.2.1 (fun y0 => k (.exit 0) ⟨fillS 54 [5] [(.ref [1, 0])], [([1, 0], ⟨44, 6, (.data Ty13 y0)⟩)], 2⟩)
theorem ref29_Fns_L0.step (S : T_ref29_Fns_L0) (F0 : T_ref28_Kept) (F1 : T_ref29_start) (F2 : T_ref16_Frame) : ∀ v k, exR 19 Try.f19 0 ref29_Fns_L0.p [⟨ref28_Kept.p, ref28_Kept.g F0⟩, ⟨ref29_start.p, ref29_start.g F1⟩, ⟨ref16_Frame.p, ref16_Frame.g F2⟩] [] [] (ref29_Fns_L0.g S) v k = ref29_Fns_L0.g (ref29_Fns_L0.body S F0 F1 F2) v k := fun v k => by kernel_rfl
theorem ref29_Fns_L0.ok : okL 19 Try.f19 3 0 ref29_Fns_L0.p (ref29_Fns_L0.g (ref29_Fns_L0 ROUNDS)) := loop2 (G := fun n => ref29_Fns_L0.g (ref29_Fns_L0 n)) (fun n => ref29_Fns_L0.step (ref29_Fns_L0 n) ref28_Kept ref29_start ref16_Frame) (.cons ref28_Kept.ok (.cons ref29_start.ok (.cons ref16_Frame.ok .nil))) [] (by kernel_rfl) .nil (fun _ _ => rfl)
/-- function 19: sheerleg/sheerlegref29.Fns -/
abbrev T_ref29_Fns : Type := Tc18 → Tc1 → (Tc6 → Option Bool) → Option Bool
noncomputable def ref29_Fns.body (ref29_Fns_L0 : T_ref29_Fns_L0) : T_ref29_Fns := fun t1315 t1316 k1 =>
  (ref29_Fns_L0 (0 : Int) t1315 t1316 []
  (fun ts1330 => (k1 ts1330)))
noncomputable def ref29_Fns : T_ref29_Fns := ref29_Fns.body (ref29_Fns_L0 ROUNDS)
def ref29_Fns.p : FPat := fp 19 (pl (pd Ty24) (pl (pd Ty6) pz)) pz
def ref29_Fns.g (F : T_ref29_Fns) (v : ref29_Fns.p.T) (k : KR) : Option Bool := F v.1.1 v.1.2.1 (fun y0 => k (.ref [1, 0]) [([1, 0], ⟨44, 6, (.data Ty13 y0)⟩)])
theorem ref29_Fns.eq (L0 : T_ref29_Fns_L0) : ∀ v k, exF Try.f19 ref29_Fns.p [] [] [⟨0, ref29_Fns_L0.p, ref29_Fns_L0.g L0⟩] v k = ref29_Fns.g (ref29_Fns.body L0) v k := fun v k => by kernel_rfl
theorem ref29_Fns.ok : okF 4 ref29_Fns.p (ref29_Fns.g ref29_Fns) := fn2 (ref29_Fns.eq (ref29_Fns_L0 ROUNDS)) Try.func19 (by kernel_rfl) .nil [0] (by kernel_rfl) (.cons ref29_Fns_L0.ok .nil)
/-- function 17: the loop in block 0 -/
abbrev T_ref29_Same_L0 : Type := Tc6 → Tc6 → Int → (Bool → Option Bool) → (Option Bool) → Option Bool
noncomputable def ref29_Same_L0.body (ref29_Same_L0 : T_ref29_Same_L0) : T_ref29_Same_L0 := fun ts1334 ts1335 n1336 k1 k2 =>
  (cond_ (decide (n1336 < (List.length ts1334 : Int))) (cond_ ((decide ((0 : Int) ≤ n1336)) && (decide (n1336 < (List.length ts1334 : Int)))) (cond_ ((decide ((0 : Int) ≤ n1336)) && (decide (n1336 < (List.length ts1335 : Int)))) (cond_ (! (((List.getD ts1334 (Int.toNat n1336) (0, (0, (0, (0, (0, (0, ()))))))).1 == (List.getD ts1335 (Int.toNat n1336) (0, (0, (0, (0, (0, (0, ()))))))).1) && (((List.getD ts1334 (Int.toNat n1336) (0, (0, (0, (0, (0, (0, ()))))))).2.1 == (List.getD ts1335 (Int.toNat n1336) (0, (0, (0, (0, (0, (0, ()))))))).2.1) && (((List.getD ts1334 (Int.toNat n1336) (0, (0, (0, (0, (0, (0, ()))))))).2.2.1 == (List.getD ts1335 (Int.toNat n1336) (0, (0, (0, (0, (0, (0, ()))))))).2.2.1) && (((List.getD ts1334 (Int.toNat n1336) (0, (0, (0, (0, (0, (0, ()))))))).2.2.2.1 == (List.getD ts1335 (Int.toNat n1336) (0, (0, (0, (0, (0, (0, ()))))))).2.2.2.1) && (((List.getD ts1334 (Int.toNat n1336) (0, (0, (0, (0, (0, (0, ()))))))).2.2.2.2.1 == (List.getD ts1335 (Int.toNat n1336) (0, (0, (0, (0, (0, (0, ()))))))).2.2.2.2.1) && (((List.getD ts1334 (Int.toNat n1336) (0, (0, (0, (0, (0, (0, ()))))))).2.2.2.2.2.1 == (List.getD ts1335 (Int.toNat n1336) (0, (0, (0, (0, (0, (0, ()))))))).2.2.2.2.2.1) && true))))))) (k1 false) (ref29_Same_L0 ts1334 ts1335 (IntKind.wrap .i64 (n1336 + (1 : Int))) k1 k2)) none) none) (k2))
noncomputable def ref29_Same_L0 : Nat → T_ref29_Same_L0
  | 0 => fun _ _ _ _ _ => none
  | n + 1 => ref29_Same_L0.body (ref29_Same_L0 n)
def ref29_Same_L0.p : LPat := lp 2 26 [0, 1, 5] (pl (pb 1 44 Ty13) (pl (pb 2 44 Ty13) (pl (pd (.int .i64)) pz))) pz
def ref29_Same_L0.g (F : T_ref29_Same_L0) (v : ref29_Same_L0.p.T) (k : KE) : Option Bool := F v.1.1 v.1.2.1 v.1.2.2.1 (fun y0 => k .ret ⟨fillS 26 [4] [(.d ⟨.bool, y0⟩)], [], 2⟩) (k (.exit 0) ⟨fillS 26 [] [], [], 2⟩)
theorem ref29_Same_L0.step (S : T_ref29_Same_L0) : ∀ v k, exR 17 Try.f17 0 ref29_Same_L0.p [] [] [] (ref29_Same_L0.g S) v k = ref29_Same_L0.g (ref29_Same_L0.body S) v k := fun v k => by kernel_rfl
theorem ref29_Same_L0.ok : okL 17 Try.f17 0 0 ref29_Same_L0.p (ref29_Same_L0.g (ref29_Same_L0 ROUNDS)) := loop2 (G := fun n => ref29_Same_L0.g (ref29_Same_L0 n)) (fun n => ref29_Same_L0.step (ref29_Same_L0 n)) .nil [] (by kernel_rfl) .nil (fun _ _ => rfl)
/-- function 17: sheerleg/sheerlegref29.Same -/
abbrev T_ref29_Same : Type := Tc6 → Tc6 → (Bool → Option Bool) → Option Bool
noncomputable def ref29_Same.body (ref29_Same_L0 : T_ref29_Same_L0) : T_ref29_Same := fun ts1332 ts1333 k1 =>
  (cond_ ((List.length ts1332 : Int) != (List.length ts1333 : Int)) (k1 false) (ref29_Same_L0 ts1332 ts1333 (0 : Int)
  (fun b1337 => (k1 b1337))
  (k1 true)))
noncomputable def ref29_Same : T_ref29_Same := ref29_Same.body (ref29_Same_L0 ROUNDS)
def ref29_Same.p : FPat := fp 17 (pl (pb 1 44 Ty13) (pl (pb 2 44 Ty13) pz)) pz
def ref29_Same.g (F : T_ref29_Same) (v : ref29_Same.p.T) (k : KR) : Option Bool := F v.1.1 v.1.2.1 (fun y0 => k (.d ⟨.bool, y0⟩) [])
theorem ref29_Same.eq (L0 : T_ref29_Same_L0) : ∀ v k, exF Try.f17 ref29_Same.p [] [] [⟨0, ref29_Same_L0.p, ref29_Same_L0.g L0⟩] v k = ref29_Same.g (ref29_Same.body L0) v k := fun v k => by kernel_rfl
theorem ref29_Same.ok : okF 1 ref29_Same.p (ref29_Same.g ref29_Same) := fn2 (ref29_Same.eq (ref29_Same_L0 ROUNDS)) Try.func17 (by kernel_rfl) .nil [0] (by kernel_rfl) (.cons ref29_Same_L0.ok .nil)
/-- function 3: sheerleg/sheerleglaw29.PlaceTells -/
abbrev T_law29_PlaceTells : Type := Tc17 → Tc1 → (Bool → Option Bool) → Option Bool
noncomputable def law29_PlaceTells.body (law29_few : T_law29_few) (law29_known : T_law29_known) (place_Starts : T_place_Starts) (ref29_Starts : T_ref29_Starts) (ref01_Ints : T_ref01_Ints) (place_Code : T_place_Code) (ref29_Code : T_ref29_Code) (place_Addrs : T_place_Addrs) (ref29_Addrs : T_ref29_Addrs) (place_Words : T_place_Words) (ref29_Words : T_ref29_Words) (place_Fns : T_place_Fns) (ref29_Fns : T_ref29_Fns) (ref29_Same : T_ref29_Same) : T_law29_PlaceTells := fun ts1114 t1115 k1 =>
  (law29_few ts1114 t1115
  (fun t1116 b1117 => (cond_ (! b1117) (law29_known
  (fun b1118 => (k1 b1118))) (place_Starts (t1116.1, (t1116.2.1, (t1116.2.2.1, ()))) t1115
  (fun ns1156 => (ref29_Starts (t1116.1, (t1116.2.1, (t1116.2.2.1, ()))) t1115
  (fun ns1157 => (ref01_Ints ns1156 ns1157
  (fun b1158 => (cond_ b1158 (place_Code (t1116.1, (t1116.2.1, (t1116.2.2.1, ()))) t1115
  (fun n1197 => (ref29_Code (t1116.1, (t1116.2.1, (t1116.2.2.1, ()))) t1115
  (fun n1198 => (cond_ (n1197 == n1198) (place_Addrs (t1116.1, (t1116.2.1, (t1116.2.2.1, ())))
  (fun ns1228 => (ref29_Addrs (t1116.1, (t1116.2.1, (t1116.2.2.1, ())))
  (fun ns1229 => (ref01_Ints ns1228 ns1229
  (fun b1230 => (cond_ b1230 (place_Words (t1116.1, (t1116.2.1, (t1116.2.2.1, ())))
  (fun n1261 => (ref29_Words (t1116.1, (t1116.2.1, (t1116.2.2.1, ())))
  (fun n1262 => (cond_ (n1261 == n1262) (place_Fns (t1116.1, (t1116.2.1, (t1116.2.2.1, ()))) t1115
  (fun ts1314 => (ref29_Fns (t1116.1, (t1116.2.1, (t1116.2.2.1, ()))) t1115
  (fun ts1331 => (ref29_Same ts1314 ts1331
  (fun b1338 => (cond_ b1338 (law29_known
  (fun b1339 => (k1 b1339))) (k1 false)))))))) (k1 false)))))) (k1 false)))))))) (k1 false)))))) (k1 false)))))))))))
noncomputable def law29_PlaceTells : T_law29_PlaceTells := law29_PlaceTells.body law29_few law29_known place_Starts ref29_Starts ref01_Ints place_Code ref29_Code place_Addrs ref29_Addrs place_Words ref29_Words place_Fns ref29_Fns ref29_Same
def law29_PlaceTells.p : FPat := fp 3 (pl (pb 0 80 Ty22) (pl (pd Ty6) pz)) pz
def law29_PlaceTells.g (F : T_law29_PlaceTells) (v : law29_PlaceTells.p.T) (k : KR) : Option Bool := F v.1.1 v.1.2.1 (fun y0 => k (.d ⟨.bool, y0⟩) [])
theorem law29_PlaceTells.eq (F0 : T_law29_few) (F1 : T_law29_known) (F2 : T_place_Starts) (F3 : T_ref29_Starts) (F4 : T_ref01_Ints) (F5 : T_place_Code) (F6 : T_ref29_Code) (F7 : T_place_Addrs) (F8 : T_ref29_Addrs) (F9 : T_place_Words) (F10 : T_ref29_Words) (F11 : T_place_Fns) (F12 : T_ref29_Fns) (F13 : T_ref29_Same) : ∀ v k, exF Try.f3 law29_PlaceTells.p [⟨law29_few.p, law29_few.g F0⟩, ⟨law29_known.p, law29_known.g F1⟩, ⟨place_Starts.p, place_Starts.g F2⟩, ⟨ref29_Starts.p, ref29_Starts.g F3⟩, ⟨ref01_Ints.p, ref01_Ints.g F4⟩, ⟨place_Code.p, place_Code.g F5⟩, ⟨ref29_Code.p, ref29_Code.g F6⟩, ⟨place_Addrs.p, place_Addrs.g F7⟩, ⟨ref29_Addrs.p, ref29_Addrs.g F8⟩, ⟨place_Words.p, place_Words.g F9⟩, ⟨ref29_Words.p, ref29_Words.g F10⟩, ⟨place_Fns.p, place_Fns.g F11⟩, ⟨ref29_Fns.p, ref29_Fns.g F12⟩, ⟨ref29_Same.p, ref29_Same.g F13⟩] [] [] v k = law29_PlaceTells.g (law29_PlaceTells.body F0 F1 F2 F3 F4 F5 F6 F7 F8 F9 F10 F11 F12 F13) v k := fun v k => by kernel_rfl
theorem law29_PlaceTells.ok : okF 61 law29_PlaceTells.p (law29_PlaceTells.g law29_PlaceTells) := fn2 (law29_PlaceTells.eq law29_few law29_known place_Starts ref29_Starts ref01_Ints place_Code ref29_Code place_Addrs ref29_Addrs place_Words ref29_Words place_Fns ref29_Fns ref29_Same) Try.func3 (by kernel_rfl) (.cons law29_few.ok (.cons law29_known.ok (.cons place_Starts.ok (.cons ref29_Starts.ok (.cons ref01_Ints.ok (.cons place_Code.ok (.cons ref29_Code.ok (.cons place_Addrs.ok (.cons ref29_Addrs.ok (.cons place_Words.ok (.cons ref29_Words.ok (.cons place_Fns.ok (.cons ref29_Fns.ok (.cons ref29_Same.ok .nil)))))))))))))) [] (by kernel_rfl) .nil
/-- function 4: the loop in block 0 -/
abbrev T_law29_PlaceLess_L0 : Type := Int → Bool → Int → Int → Tc1 → Tc15 → Tc11 → Int → Tc6 → (Bool → Option Bool) → (Int → Bool → Int → Tc1 → Tc15 → Tc11 → Int → Option Bool) → Option Bool
noncomputable def law29_PlaceLess_L0.body (law29_PlaceLess_L0 : T_law29_PlaceLess_L0) : T_law29_PlaceLess_L0 := fun n1348 b1349 n1350 n1351 t1352 l1353 l1354 n1355 ts1356 k1 k2 =>
  (cond_ (decide (n1351 < (List.length ts1356 : Int))) (cond_ ((decide ((0 : Int) ≤ n1351)) && (decide (n1351 < (List.length ts1356 : Int)))) (cond_ (! ((List.getD ts1356 (Int.toNat n1351) (0, (0, (0, (0, (0, (0, ()))))))).2.2.1 != n1350)) (cond_ ((decide ((0 : Int) ≤ n1351)) && (decide (n1351 < (List.length ts1356 : Int)))) (cond_ ((decide ((0 : Int) ≤ n1351)) && (decide (n1351 < (List.length ts1356 : Int)))) (cond_ (! (decide ((List.getD ts1356 (Int.toNat n1351) (0, (0, (0, (0, (0, (0, ()))))))).2.2.2.1 ≤ (List.getD ts1356 (Int.toNat n1351) (0, (0, (0, (0, (0, (0, ()))))))).2.2.1))) (cond_ ((decide ((0 : Int) ≤ n1351)) && (decide (n1351 < (List.length ts1356 : Int)))) (cond_ ((decide ((0 : Int) ≤ n1351)) && (decide (n1351 < (List.length ts1356 : Int)))) (cond_ (decide ((List.getD ts1356 (Int.toNat n1351) (0, (0, (0, (0, (0, (0, ()))))))).2.2.2.2.1 < (List.getD ts1356 (Int.toNat n1351) (0, (0, (0, (0, (0, (0, ()))))))).2.2.2.1)) (k1 false) (cond_ ((decide ((0 : Int) ≤ n1351)) && (decide (n1351 < (List.length ts1356 : Int)))) (law29_PlaceLess_L0 n1348 b1349 (List.getD ts1356 (Int.toNat n1351) (0, (0, (0, (0, (0, (0, ()))))))).2.2.2.2.1 (IntKind.wrap .i64 (n1351 + (1 : Int))) t1352 l1353 l1354 n1355 ts1356 k1 k2) none)) none) none) (k1 false)) none) none) (k1 false)) none) (k2 n1348 b1349 n1350 t1352 l1353 l1354 n1355))
noncomputable def law29_PlaceLess_L0 : Nat → T_law29_PlaceLess_L0
  | 0 => fun _ _ _ _ _ _ _ _ _ _ _ => none
  | n + 1 => law29_PlaceLess_L0.body (law29_PlaceLess_L0 n)
def law29_PlaceLess_L0.p : LPat := lp 2 164 [2, 3, 5, 9, 11, 12, 13] (pl (pd (.int .i64)) (pl (pd .bool) (ps (pq [1, 0] 0 0) (ps (pq [1, 1] 0 0) (pl (pd (.int .i64)) (ps (pr [1, 2]) (pl (pd (.int .i64)) pz))))))) (pl (po [1, 0] 26 2 (es Ty6 (pl eh pz))) (pl (po [1, 1] 30 3 (em (pl (pa (pl (pd Ty21) (pl (pd Ty17) (pl (pd (.int .i64)) pz)))) pz))) (pl (po [1, 2] 44 6 (ed Ty13)) pz)))
def law29_PlaceLess_L0.g (F : T_law29_PlaceLess_L0) (v : law29_PlaceLess_L0.p.T) (k : KE) : Option Bool := F v.1.1 v.1.2.1 v.1.2.2.1 v.1.2.2.2.1 v.2.1.1 v.2.2.1.1.1 v.2.2.1.1.2.1 v.2.2.1.1.2.2.1 v.2.2.2.1 (fun y0 => k .ret ⟨fillS 164 [8] [(.d ⟨.bool, y0⟩)], [], 2⟩) (fun y0 y1 y2 y3 y4 y5 y6 => k (.exit 0) ⟨fillS 164 [2, 3, 5, 9, 11] [(.d ⟨(.int .i64), y0⟩), (.d ⟨.bool, y1⟩), (.ptr [1, 0] 0 0), (.ptr [1, 1] 0 0), (.d ⟨(.int .i64), y2⟩)], [([1, 0], ⟨26, 2, (.data Ty6 [y3])⟩), ([1, 1], ⟨30, 3, (.mix [(.agg [(.d ⟨Ty21, y4⟩), (.d ⟨Ty17, y5⟩), (.d ⟨(.int .i64), y6⟩)])])⟩)], 2⟩)
theorem law29_PlaceLess_L0.step (S : T_law29_PlaceLess_L0) : ∀ v k, exR 4 Try.f4 0 law29_PlaceLess_L0.p [] [] [] (law29_PlaceLess_L0.g S) v k = law29_PlaceLess_L0.g (law29_PlaceLess_L0.body S) v k := fun v k => by kernel_rfl
theorem law29_PlaceLess_L0.ok : okL 4 Try.f4 0 0 law29_PlaceLess_L0.p (law29_PlaceLess_L0.g (law29_PlaceLess_L0 ROUNDS)) := loop2 (G := fun n => law29_PlaceLess_L0.g (law29_PlaceLess_L0 n)) (fun n => law29_PlaceLess_L0.step (law29_PlaceLess_L0 n)) .nil [] (by kernel_rfl) .nil (fun _ _ => rfl)
/-- function 37: sheerleg/place.laid -/
abbrev T_place_laidv2 : Type := Int → Int → Tc18 → (List Bool) → (List Int) → (Tc18 → (List Bool) → (List Int) → Int → Int → Option Bool) → Option Bool
noncomputable def place_laidv2.body : T_place_laidv2 := fun n1373 n1374 t1375 bs1376 ns1377 k1 =>
  (k1 t1375 bs1376 ns1377 n1374 n1373)
noncomputable def place_laidv2 : T_place_laidv2 := place_laidv2.body
def place_laidv2.p : FPat := fp 37 (pl (pd (.int .i64)) (pl (pd (.int .i64)) (pl (pf 38 pz (ps (pq [0, 0] 0 0) (ps (pq [0, 1] 0 0) pz))) pz))) (pl (po [0, 0] 30 3 (es Ty24 (pl eh pz))) (pl (po [0, 1] 26 2 (em (pl (pa (pl (pb 1 4 .bool) (pl (pb 2 3 (.int .i64)) pz))) pz))) pz))
def place_laidv2.g (F : T_place_laidv2) (v : place_laidv2.p.T) (k : KR) : Option Bool := F v.1.1 v.1.2.1 v.2.1.1 v.2.2.1.1.1 v.2.2.1.1.2.1 (fun y0 y1 y2 y3 y4 => k (.fn (.func 56) [] [(.ptr [1, 0] 0 0), (.ptr [1, 1] 0 0), (.ptr [1, 2] 0 0)]) [([0, 0], ⟨30, 3, (.data Ty24 [y0])⟩), ([0, 1], ⟨26, 2, (.mix [(.agg [(.bv 1 4 .bool y1), (.bv 2 3 (.int .i64) y2)])])⟩), ([1, 0], ⟨3, 1, (.data (.int .i64) [y3])⟩), ([1, 1], ⟨3, 1, (.data (.int .i64) [y4])⟩), ([1, 2], ⟨95, 1, (.mix [(.fn (.func 38) [] [(.ptr [0, 0] 0 0), (.ptr [0, 1] 0 0)])])⟩)])
theorem place_laidv2.eq : ∀ v k, exF Try.f37 place_laidv2.p [] [] [] v k = place_laidv2.g (place_laidv2.body) v k := fun v k => by kernel_rfl
theorem place_laidv2.ok : okF 1 place_laidv2.p (place_laidv2.g place_laidv2) := fn2 (place_laidv2.eq) Try.func37 (by kernel_rfl) .nil [] (by kernel_rfl) .nil
/-- function 24: sheerleg/place.funs -/
abbrev T_place_funsv1 : Type := Tc18 → (List Bool) → (List Int) → (Int → Int → Tc18 → (List Bool) → (List Int) → Option Bool) → Option Bool
noncomputable def place_funsv1.body (place_laidv2 : T_place_laidv2) : T_place_funsv1 := fun t1370 bs1371 ns1372 k1 =>
  (place_laidv2 (2 : Int) (((List.length t1370.1) : Nat) : Int) t1370 bs1371 ns1372
  (fun t1378 bs1379 ns1380 n1381 n1382 => (k1 n1381 n1382 t1378 bs1379 ns1380)))
noncomputable def place_funsv1 : T_place_funsv1 := place_funsv1.body place_laidv2
def place_funsv1.p : FPat := fp 24 (pl (pd Ty24) (pl (pa (pl (pb 1 4 .bool) (pl (pb 2 3 (.int .i64)) pz))) pz)) pz
def place_funsv1.g (F : T_place_funsv1) (v : place_funsv1.p.T) (k : KR) : Option Bool := F v.1.1 v.1.2.1.1 v.1.2.1.2.1 (fun y0 y1 y2 y3 y4 => k (.fn (.func 56) [] [(.ptr [1, 0] 0 0), (.ptr [1, 1] 0 0), (.ptr [1, 2] 0 0)]) [([1, 0], ⟨3, 1, (.data (.int .i64) [y0])⟩), ([1, 1], ⟨3, 1, (.data (.int .i64) [y1])⟩), ([1, 2], ⟨95, 1, (.mix [(.fn (.func 38) [] [(.ptr [1, 3] 0 0), (.ptr [1, 4] 0 0)])])⟩), ([1, 3], ⟨30, 3, (.data Ty24 [y2])⟩), ([1, 4], ⟨26, 2, (.mix [(.agg [(.bv 1 4 .bool y3), (.bv 2 3 (.int .i64) y4)])])⟩)])
theorem place_funsv1.eq (F0 : T_place_laidv2) : ∀ v k, exF Try.f24 place_funsv1.p [⟨place_laidv2.p, place_laidv2.g F0⟩] [] [] v k = place_funsv1.g (place_funsv1.body F0) v k := fun v k => by kernel_rfl
theorem place_funsv1.ok : okF 2 place_funsv1.p (place_funsv1.g place_funsv1) := fn2 (place_funsv1.eq place_laidv2) Try.func24 (by kernel_rfl) (.cons place_laidv2.ok .nil) [] (by kernel_rfl) .nil
/-- function 57: sheerleg/prologue.has -/
abbrev T_prologue_hasv1 : Type := (List Bool) → Int → (Bool → Option Bool) → Option Bool
noncomputable def prologue_hasv1.body : T_prologue_hasv1 := fun bs1409 n1410 k1 =>
  (cond_ (decide (n1410 ≥ (0 : Int))) (cond_ (decide (n1410 < (List.length bs1409 : Int))) (cond_ ((decide ((0 : Int) ≤ n1410)) && (decide (n1410 < (List.length bs1409 : Int)))) (k1 (List.getD bs1409 (Int.toNat n1410) false)) none) (k1 false)) (k1 false))
noncomputable def prologue_hasv1 : T_prologue_hasv1 := prologue_hasv1.body
def prologue_hasv1.p : FPat := fp 57 (pl (pb 1 4 .bool) (pl (pd (.int .i64)) pz)) pz
def prologue_hasv1.g (F : T_prologue_hasv1) (v : prologue_hasv1.p.T) (k : KR) : Option Bool := F v.1.1 v.1.2.1 (fun y0 => k (.d ⟨.bool, y0⟩) [])
theorem prologue_hasv1.eq : ∀ v k, exF Try.f57 prologue_hasv1.p [] [] [] v k = prologue_hasv1.g (prologue_hasv1.body) v k := fun v k => by kernel_rfl
theorem prologue_hasv1.ok : okF 1 prologue_hasv1.p (prologue_hasv1.g prologue_hasv1) := fn2 (prologue_hasv1.eq) Try.func57 (by kernel_rfl) .nil [] (by kernel_rfl) .nil
/-- function 39: sheerleg/prologue.Size -/
abbrev T_prologue_Sizev1 : Type := Tc18 → (List Bool) → (List Int) → Int → (Int → Option Bool) → Option Bool
noncomputable def prologue_Sizev1.body (prologue_hasv1 : T_prologue_hasv1) : T_prologue_Sizev1 := fun t1405 bs1406 ns1407 n1408 k1 =>
  (cond_ (! (decide (n1408 ≥ (((List.length t1405.1) : Nat) : Int)))) (prologue_hasv1 bs1406 n1408
  (fun b1411 => (cond_ (! b1411) (k1 (0 : Int)) (cond_ ((decide ((0 : Int) ≤ n1408)) && (decide (n1408 < (((List.length t1405.1) : Nat) : Int)))) (cond_ (decide (n1408 < (List.length ns1407 : Int))) (cond_ ((decide ((0 : Int) ≤ n1408)) && (decide (n1408 < (List.length ns1407 : Int)))) (cond_ ((List.getD ns1407 (Int.toNat n1408) (0 : Int)) != (0 : Int)) (k1 (IntKind.wrap .i64 ((IntKind.wrap .i64 ((1 : Int) + (((List.length (List.getD t1405.1 (Int.toNat n1408) (0, (0, ((⟨#[]⟩ : ByteArray), (0, ([], (0, (false, (0, (0, ([], ([], ([], ([], ())))))))))))))).2.2.2.2.2.2.2.2.2.2.1) : Nat) : Int))) + (1 : Int)))) (k1 (IntKind.wrap .i64 ((1 : Int) + (((List.length (List.getD t1405.1 (Int.toNat n1408) (0, (0, ((⟨#[]⟩ : ByteArray), (0, ([], (0, (false, (0, (0, ([], ([], ([], ([], ())))))))))))))).2.2.2.2.2.2.2.2.2.2.1) : Nat) : Int))))) none) (k1 (IntKind.wrap .i64 ((1 : Int) + (((List.length (List.getD t1405.1 (Int.toNat n1408) (0, (0, ((⟨#[]⟩ : ByteArray), (0, ([], (0, (false, (0, (0, ([], ([], ([], ([], ())))))))))))))).2.2.2.2.2.2.2.2.2.2.1) : Nat) : Int))))) none)))) (k1 (0 : Int)))
noncomputable def prologue_Sizev1 : T_prologue_Sizev1 := prologue_Sizev1.body prologue_hasv1
def prologue_Sizev1.p : FPat := fp 39 (pl (pd Ty24) (pl (pa (pl (pb 1 4 .bool) (pl (pb 2 3 (.int .i64)) pz))) (pl (pd (.int .i64)) pz))) pz
def prologue_Sizev1.g (F : T_prologue_Sizev1) (v : prologue_Sizev1.p.T) (k : KR) : Option Bool := F v.1.1 v.1.2.1.1 v.1.2.1.2.1 v.1.2.2.1 (fun y0 => k (.d ⟨(.int .i64), y0⟩) [])
theorem prologue_Sizev1.eq (F0 : T_prologue_hasv1) : ∀ v k, exF Try.f39 prologue_Sizev1.p [⟨prologue_hasv1.p, prologue_hasv1.g F0⟩] [] [] v k = prologue_Sizev1.g (prologue_Sizev1.body F0) v k := fun v k => by kernel_rfl
theorem prologue_Sizev1.ok : okF 2 prologue_Sizev1.p (prologue_Sizev1.g prologue_Sizev1) := fn2 (prologue_Sizev1.eq prologue_hasv1) Try.func39 (by kernel_rfl) (.cons prologue_hasv1.ok .nil) [] (by kernel_rfl) .nil
/-- function 38: sheerleg/place.funs$1 -/
abbrev T_place_funsfn1v1 : Type := Int → Tc18 → (List Bool) → (List Int) → (Int → Tc18 → (List Bool) → (List Int) → Option Bool) → Option Bool
noncomputable def place_funsfn1v1.body (prologue_Sizev1 : T_prologue_Sizev1) : T_place_funsfn1v1 := fun n1401 t1402 bs1403 ns1404 k1 =>
  (prologue_Sizev1 t1402 bs1403 ns1404 n1401
  (fun n1412 => (k1 n1412 t1402 bs1403 ns1404)))
noncomputable def place_funsfn1v1 : T_place_funsfn1v1 := place_funsfn1v1.body prologue_Sizev1
def place_funsfn1v1.p : FPat := fp 38 (pl (pd (.int .i64)) (ps (pq [0, 0] 0 0) (ps (pq [0, 1] 0 0) pz))) (pl (po [0, 0] 30 3 (es Ty24 (pl eh pz))) (pl (po [0, 1] 26 2 (em (pl (pa (pl (pb 1 4 .bool) (pl (pb 2 3 (.int .i64)) pz))) pz))) pz))
def place_funsfn1v1.g (F : T_place_funsfn1v1) (v : place_funsfn1v1.p.T) (k : KR) : Option Bool := F v.1.1 v.2.1.1 v.2.2.1.1.1 v.2.2.1.1.2.1 (fun y0 y1 y2 y3 => k (.d ⟨(.int .i64), y0⟩) [([0, 0], ⟨30, 3, (.data Ty24 [y1])⟩), ([0, 1], ⟨26, 2, (.mix [(.agg [(.bv 1 4 .bool y2), (.bv 2 3 (.int .i64) y3)])])⟩)])
theorem place_funsfn1v1.eq (F0 : T_prologue_Sizev1) : ∀ v k, exF Try.f38 place_funsfn1v1.p [⟨prologue_Sizev1.p, prologue_Sizev1.g F0⟩] [] [] v k = place_funsfn1v1.g (place_funsfn1v1.body F0) v k := fun v k => by kernel_rfl
theorem place_funsfn1v1.ok : okF 3 place_funsfn1v1.p (place_funsfn1v1.g place_funsfn1v1) := fn2 (place_funsfn1v1.eq prologue_Sizev1) Try.func38 (by kernel_rfl) (.cons prologue_Sizev1.ok .nil) [] (by kernel_rfl) .nil
/-- function 56: the loop in block 0 -/
abbrev T_place_laidfn1v5_L0 : Type := Int → Int → Int → Int → Tc18 → (List Bool) → (List Int) → (List Int) → (Int → Int → Tc18 → (List Bool) → (List Int) → (List Int) → Option Bool) → (Int → Int → Tc18 → (List Bool) → (List Int) → (List Int) → Option Bool) → Option Bool
noncomputable def place_laidfn1v5_L0.body (place_laidfn1v5_L0 : T_place_laidfn1v5_L0) (place_funsfn1v1 : T_place_funsfn1v1) (place_Starts_round0 : T_place_Starts_round0) : T_place_laidfn1v5_L0 := fun n1393 n1394 n1395 n1396 t1397 bs1398 ns1399 ns1400 k1 k2 =>
  (cond_ (decide (n1394 < n1393)) (place_funsfn1v1 n1394 t1397 bs1398 ns1399
  (fun n1413 t1414 bs1415 ns1416 => (place_Starts_round0 n1394 (n1396, ((IntKind.wrap .i64 (n1396 + n1413)), ())) ns1400
  (fun b1417 ns1418 => (cond_ (! b1417) (k1 n1395 n1396 t1414 bs1415 ns1416 ns1418) (place_laidfn1v5_L0 n1393 (IntKind.wrap .i64 (n1394 + (1 : Int))) n1395 (IntKind.wrap .i64 (n1396 + n1413)) t1414 bs1415 ns1416 ns1418 k1 k2)))))) (k2 n1395 n1396 t1397 bs1398 ns1399 ns1400))
noncomputable def place_laidfn1v5_L0 : Nat → T_place_laidfn1v5_L0
  | 0 => fun _ _ _ _ _ _ _ _ _ _ => none
  | n + 1 => place_laidfn1v5_L0.body (place_laidfn1v5_L0 n) place_funsfn1v1 place_Starts_round0
def place_laidfn1v5_L0.p : LPat := lp 2 25 [0, 2, 3, 7, 8] (ps (py 38654705664 (ps (pk 4) (ps (pk 4) (ps (pk 4) (ps (pk 4) (ps (pk 4) (ps (pq [0, 0] 0 0) (ps (pk 4) (ps (pk 3) (ps (pk 4) (ps (pk 4) (ps (pk 4) (ps (pk 4) (ps (pk 3) (ps (pk 3) (ps (pk 3) (ps (pk 3) (ps (pk 3) (ps (pk 3) (ps (pk 3) (ps (pk 3) (ps (pk 3) (ps (pk 3) (ps (pk 3) (ps (pk 3) (ps (pk 4) pz)))))))))))))))))))))))))) (ps (pq [0, 2] 0 0) (ps (pq [0, 3] 0 0) (pl (pd (.int .i64)) (pl (pd (.int .i64)) pz))))) (ps (po [0, 0] 24 1 (em (ps (pr [1, 0]) pz))) (pl (po [0, 1] 3 1 (es (.int .i64) (pl eh pz))) (pl (po [0, 2] 3 1 (es (.int .i64) (pl eh pz))) (pl (po [0, 3] 95 1 (em (pl (pf 38 pz (ps (pq [0, 4] 0 0) (ps (pq [0, 5] 0 0) pz))) pz))) (pl (po [0, 4] 30 3 (es Ty24 (pl eh pz))) (pl (po [0, 5] 26 2 (em (pl (pa (pl (pb 1 4 .bool) (pl (pb 2 3 (.int .i64)) pz))) pz))) (pl (po [1, 0] 3 1 (ed (.int .i64))) pz)))))))
def place_laidfn1v5_L0.g (F : T_place_laidfn1v5_L0) (v : place_laidfn1v5_L0.p.T) (k : KE) : Option Bool := F v.1.1 v.1.2.1 v.2.1.1 v.2.2.1.1 v.2.2.2.2.1.1 v.2.2.2.2.2.1.1.1 v.2.2.2.2.2.1.1.2.1 v.2.2.2.2.2.2.1 (fun y0 y1 y2 y3 y4 y5 => k .ret ⟨fillS 25 [] [], [([0, 0], ⟨24, 1, (.mix [(.ref [1, 0])])⟩), ([0, 1], ⟨3, 1, (.data (.int .i64) [y0])⟩), ([0, 2], ⟨3, 1, (.data (.int .i64) [y1])⟩), ([0, 3], ⟨95, 1, (.mix [(.fn (.func 38) [] [(.ptr [0, 4] 0 0), (.ptr [0, 5] 0 0)])])⟩), ([0, 4], ⟨30, 3, (.data Ty24 [y2])⟩), ([0, 5], ⟨26, 2, (.mix [(.agg [(.bv 1 4 .bool y3), (.bv 2 3 (.int .i64) y4)])])⟩), ([1, 0], ⟨3, 1, (.data (.int .i64) y5)⟩)], 2⟩) (fun y0 y1 y2 y3 y4 y5 => k (.exit 0) ⟨fillS 25 [] [], [([0, 0], ⟨24, 1, (.mix [(.ref [1, 0])])⟩), ([0, 1], ⟨3, 1, (.data (.int .i64) [y0])⟩), ([0, 2], ⟨3, 1, (.data (.int .i64) [y1])⟩), ([0, 3], ⟨95, 1, (.mix [(.fn (.func 38) [] [(.ptr [0, 4] 0 0), (.ptr [0, 5] 0 0)])])⟩), ([0, 4], ⟨30, 3, (.data Ty24 [y2])⟩), ([0, 5], ⟨26, 2, (.mix [(.agg [(.bv 1 4 .bool y3), (.bv 2 3 (.int .i64) y4)])])⟩), ([1, 0], ⟨3, 1, (.data (.int .i64) y5)⟩)], 2⟩)
theorem place_laidfn1v5_L0.step (S : T_place_laidfn1v5_L0) (F0 : T_place_funsfn1v1) (F1 : T_place_Starts_round0) : ∀ v k, exR 56 Try.f56 0 place_laidfn1v5_L0.p [⟨place_funsfn1v1.p, place_funsfn1v1.g F0⟩, ⟨place_Starts_round0.p, place_Starts_round0.g F1⟩] [] [] (place_laidfn1v5_L0.g S) v k = place_laidfn1v5_L0.g (place_laidfn1v5_L0.body S F0 F1) v k := fun v k => by kernel_rfl
theorem place_laidfn1v5_L0.ok : okL 56 Try.f56 3 0 place_laidfn1v5_L0.p (place_laidfn1v5_L0.g (place_laidfn1v5_L0 ROUNDS)) := loop2 (G := fun n => place_laidfn1v5_L0.g (place_laidfn1v5_L0 n)) (fun n => place_laidfn1v5_L0.step (place_laidfn1v5_L0 n) place_funsfn1v1 place_Starts_round0) (.cons place_funsfn1v1.ok (.cons place_Starts_round0.ok .nil)) [] (by kernel_rfl) .nil (fun _ _ => rfl)
/-- function 56: sheerleg/place.laid$1 -/
abbrev T_place_laidfn1v5 : Type := Int → Int → Tc18 → (List Bool) → (List Int) → (Int → Int → Tc18 → (List Bool) → (List Int) → (List Int) → Option Bool) → Option Bool
noncomputable def place_laidfn1v5.body (place_laidfn1v5_L0 : T_place_laidfn1v5_L0) : T_place_laidfn1v5 := fun n1388 n1389 t1390 bs1391 ns1392 k1 =>
  (place_laidfn1v5_L0 n1388 (0 : Int) n1388 n1389 t1390 bs1391 ns1392 []
  (fun n1419 n1420 t1421 bs1422 ns1423 ns1424 => (k1 n1419 n1420 t1421 bs1422 ns1423 ns1424))
  (fun n1425 n1426 t1427 bs1428 ns1429 ns1430 => (k1 n1425 n1426 t1427 bs1428 ns1429 ns1430)))
noncomputable def place_laidfn1v5 : T_place_laidfn1v5 := place_laidfn1v5.body (place_laidfn1v5_L0 ROUNDS)
def place_laidfn1v5.p : FPat := fp 56 (ps (py 38654705664 (ps (pk 4) (ps (pk 4) (ps (pk 4) (ps (pk 4) (ps (pk 4) (ps (pq [0, 0] 0 0) (ps (pk 4) (ps (pk 3) (ps (pk 4) (ps (pk 4) (ps (pk 4) (ps (pk 4) (ps (pk 3) (ps (pk 3) (ps (pk 3) (ps (pk 3) (ps (pk 3) (ps (pk 3) (ps (pk 3) (ps (pk 3) (ps (pk 3) (ps (pk 3) (ps (pk 3) (ps (pk 3) (ps (pk 4) pz)))))))))))))))))))))))))) (ps (pq [0, 1] 0 0) (ps (pq [0, 2] 0 0) (ps (pq [0, 3] 0 0) pz)))) (ps (po [0, 0] 24 1 (em (ps (pk 0) pz))) (pl (po [0, 1] 3 1 (es (.int .i64) (pl eh pz))) (pl (po [0, 2] 3 1 (es (.int .i64) (pl eh pz))) (pl (po [0, 3] 95 1 (em (pl (pf 38 pz (ps (pq [0, 4] 0 0) (ps (pq [0, 5] 0 0) pz))) pz))) (pl (po [0, 4] 30 3 (es Ty24 (pl eh pz))) (pl (po [0, 5] 26 2 (em (pl (pa (pl (pb 1 4 .bool) (pl (pb 2 3 (.int .i64)) pz))) pz))) pz))))))
def place_laidfn1v5.g (F : T_place_laidfn1v5) (v : place_laidfn1v5.p.T) (k : KR) : Option Bool := F v.2.1.1 v.2.2.1.1 v.2.2.2.2.1.1 v.2.2.2.2.2.1.1.1 v.2.2.2.2.2.1.1.2.1 (fun y0 y1 y2 y3 y4 y5 => k (.tup []) [([0, 0], ⟨24, 1, (.mix [(.ref [1, 0])])⟩), ([0, 1], ⟨3, 1, (.data (.int .i64) [y0])⟩), ([0, 2], ⟨3, 1, (.data (.int .i64) [y1])⟩), ([0, 3], ⟨95, 1, (.mix [(.fn (.func 38) [] [(.ptr [0, 4] 0 0), (.ptr [0, 5] 0 0)])])⟩), ([0, 4], ⟨30, 3, (.data Ty24 [y2])⟩), ([0, 5], ⟨26, 2, (.mix [(.agg [(.bv 1 4 .bool y3), (.bv 2 3 (.int .i64) y4)])])⟩), ([1, 0], ⟨3, 1, (.data (.int .i64) y5)⟩)])
theorem place_laidfn1v5.eq (L0 : T_place_laidfn1v5_L0) : ∀ v k, exF Try.f56 place_laidfn1v5.p [] [] [⟨0, place_laidfn1v5_L0.p, place_laidfn1v5_L0.g L0⟩] v k = place_laidfn1v5.g (place_laidfn1v5.body L0) v k := fun v k => by kernel_rfl
theorem place_laidfn1v5.ok : okF 4 place_laidfn1v5.p (place_laidfn1v5.g place_laidfn1v5) := fn2 (place_laidfn1v5.eq (place_laidfn1v5_L0 ROUNDS)) Try.func56 (by kernel_rfl) .nil [0] (by kernel_rfl) (.cons place_laidfn1v5_L0.ok .nil)
/-- function 9: sheerleg/place.Starts -/
abbrev T_place_Startsv1 : Type := Tc18 → (List Bool) → (List Int) → ((List Int) → Option Bool) → Option Bool
noncomputable def place_Startsv1.body (place_funsv1 : T_place_funsv1) (place_laidfn1v5 : T_place_laidfn1v5) : T_place_Startsv1 := fun t1367 bs1368 ns1369 k1 =>
  (place_funsv1 t1367 bs1368 ns1369
  (fun n1383 n1384 t1385 bs1386 ns1387 => (place_laidfn1v5 n1383 n1384 t1385 bs1386 ns1387
  (fun n1431 n1432 t1433 bs1434 ns1435 ns1436 => (k1 ns1436)))))
noncomputable def place_Startsv1 : T_place_Startsv1 := place_Startsv1.body place_funsv1 place_laidfn1v5
def place_Startsv1.p : FPat := fp 9 (pl (pd Ty24) (pl (pa (pl (pb 1 4 .bool) (pl (pb 2 3 (.int .i64)) pz))) pz)) pz
def place_Startsv1.g (F : T_place_Startsv1) (v : place_Startsv1.p.T) (k : KR) : Option Bool := F v.1.1 v.1.2.1.1 v.1.2.1.2.1 (fun y0 => k (.ref [1, 0]) [([1, 0], ⟨3, 1, (.data (.int .i64) y0)⟩)])
theorem place_Startsv1.eq (F0 : T_place_funsv1) (F1 : T_place_laidfn1v5) : ∀ v k, exF Try.f9 place_Startsv1.p [⟨place_funsv1.p, place_funsv1.g F0⟩, ⟨place_laidfn1v5.p, place_laidfn1v5.g F1⟩] [] [] v k = place_Startsv1.g (place_Startsv1.body F0 F1) v k := fun v k => by kernel_rfl
theorem place_Startsv1.ok : okF 5 place_Startsv1.p (place_Startsv1.g place_Startsv1) := fn2 (place_Startsv1.eq place_funsv1 place_laidfn1v5) Try.func9 (by kernel_rfl) (.cons place_funsv1.ok (.cons place_laidfn1v5.ok .nil)) [] (by kernel_rfl) .nil
/-- function 4: the loop in block 2 -/
abbrev T_law29_PlaceLess_L2 : Type := Int → Tc1 → Tc15 → Tc11 → Int → (List Bool) → (List Int) → (List Int) → (List Int) → (Bool → Option Bool) → (Tc1 → Tc15 → Tc11 → Int → (List Bool) → (List Int) → Option Bool) → Option Bool
noncomputable def law29_PlaceLess_L2.body (law29_PlaceLess_L2 : T_law29_PlaceLess_L2) : T_law29_PlaceLess_L2 := fun n1438 t1439 l1440 l1441 n1442 bs1443 ns1444 ns1445 ns1446 k1 k2 =>
  (cond_ (decide (n1438 < (List.length ns1445 : Int))) (cond_ ((decide ((0 : Int) ≤ n1438)) && (decide (n1438 < (List.length ns1446 : Int)))) (cond_ ((decide ((0 : Int) ≤ n1438)) && (decide (n1438 < (List.length ns1445 : Int)))) (cond_ (decide ((List.getD ns1446 (Int.toNat n1438) (0 : Int)) > (List.getD ns1445 (Int.toNat n1438) (0 : Int)))) (k1 false) (law29_PlaceLess_L2 (IntKind.wrap .i64 (n1438 + (1 : Int))) t1439 l1440 l1441 n1442 bs1443 ns1444 ns1445 ns1446 k1 k2)) none) none) (k2 t1439 l1440 l1441 n1442 bs1443 ns1444))
noncomputable def law29_PlaceLess_L2 : Nat → T_law29_PlaceLess_L2
  | 0 => fun _ _ _ _ _ _ _ _ _ _ _ => none
  | n + 1 => law29_PlaceLess_L2.body (law29_PlaceLess_L2 n)
def law29_PlaceLess_L2.p : LPat := lp 2 164 [5, 9, 14, 15, 16, 17] (ps (pq [1, 0] 0 0) (ps (pq [1, 1] 0 0) (ps (pq [1, 2] 0 0) (ps (pr [1, 5]) (ps (pr [1, 6]) (pl (pd (.int .i64)) pz)))))) (pl (po [1, 0] 26 2 (es Ty6 (pl eh pz))) (pl (po [1, 1] 30 3 (em (pl (pa (pl (pd Ty21) (pl (pd Ty17) (pl (pd (.int .i64)) pz)))) pz))) (ps (po [1, 2] 26 2 (em (ps (pa (ps (pr [1, 3]) (ps (pr [1, 4]) pz))) pz))) (pl (po [1, 3] 4 1 (ed .bool)) (pl (po [1, 4] 3 1 (ed (.int .i64))) (pl (po [1, 5] 3 1 (ed (.int .i64))) (pl (po [1, 6] 3 1 (ed (.int .i64))) pz)))))))
def law29_PlaceLess_L2.g (F : T_law29_PlaceLess_L2) (v : law29_PlaceLess_L2.p.T) (k : KE) : Option Bool := F v.1.1 v.2.1.1 v.2.2.1.1.1 v.2.2.1.1.2.1 v.2.2.1.1.2.2.1 v.2.2.2.1 v.2.2.2.2.1 v.2.2.2.2.2.1 v.2.2.2.2.2.2.1 (fun y0 => k .ret ⟨fillS 164 [8] [(.d ⟨.bool, y0⟩)], [], 2⟩) (fun y0 y1 y2 y3 y4 y5 => k (.exit 2) ⟨fillS 164 [5, 9, 14] [(.ptr [1, 0] 0 0), (.ptr [1, 1] 0 0), (.ptr [1, 2] 0 0)], [([1, 0], ⟨26, 2, (.data Ty6 [y0])⟩), ([1, 1], ⟨30, 3, (.mix [(.agg [(.d ⟨Ty21, y1⟩), (.d ⟨Ty17, y2⟩), (.d ⟨(.int .i64), y3⟩)])])⟩), ([1, 2], ⟨26, 2, (.mix [(.agg [(.ref [1, 3]), (.ref [1, 4])])])⟩), ([1, 3], ⟨4, 1, (.data .bool y4)⟩), ([1, 4], ⟨3, 1, (.data (.int .i64) y5)⟩)], 2⟩)
theorem law29_PlaceLess_L2.step (S : T_law29_PlaceLess_L2) : ∀ v k, exR 4 Try.f4 2 law29_PlaceLess_L2.p [] [] [] (law29_PlaceLess_L2.g S) v k = law29_PlaceLess_L2.g (law29_PlaceLess_L2.body S) v k := fun v k => by kernel_rfl
theorem law29_PlaceLess_L2.ok : okL 4 Try.f4 0 2 law29_PlaceLess_L2.p (law29_PlaceLess_L2.g (law29_PlaceLess_L2 ROUNDS)) := loop2 (G := fun n => law29_PlaceLess_L2.g (law29_PlaceLess_L2 n)) (fun n => law29_PlaceLess_L2.step (law29_PlaceLess_L2 n)) .nil [] (by kernel_rfl) .nil (fun _ _ => rfl)
/-- function 56: the loop in block 0 -/
abbrev T_place_laidfn1v6_L0 : Type := Int → Int → Int → Int → Int → Tc18 → (List Bool) → (List Int) → (Int → Int → Int → Tc18 → (List Bool) → (List Int) → Option Bool) → (Int → Int → Int → Tc18 → (List Bool) → (List Int) → Option Bool) → Option Bool
noncomputable def place_laidfn1v6_L0.body (place_laidfn1v6_L0 : T_place_laidfn1v6_L0) (place_funsfn1v1 : T_place_funsfn1v1) (place_Code_round0 : T_place_Code_round0) : T_place_laidfn1v6_L0 := fun n1468 n1469 n1470 n1471 n1472 t1473 bs1474 ns1475 k1 k2 =>
  (cond_ (decide (n1469 < n1468)) (place_funsfn1v1 n1469 t1473 bs1474 ns1475
  (fun n1476 t1477 bs1478 ns1479 => (place_Code_round0 n1469 (n1472, ((IntKind.wrap .i64 (n1472 + n1476)), ())) n1470
  (fun b1480 n1481 => (cond_ (! b1480) (k1 n1481 n1471 n1472 t1477 bs1478 ns1479) (place_laidfn1v6_L0 n1468 (IntKind.wrap .i64 (n1469 + (1 : Int))) n1481 n1471 (IntKind.wrap .i64 (n1472 + n1476)) t1477 bs1478 ns1479 k1 k2)))))) (k2 n1470 n1471 n1472 t1473 bs1474 ns1475))
noncomputable def place_laidfn1v6_L0 : Nat → T_place_laidfn1v6_L0
  | 0 => fun _ _ _ _ _ _ _ _ _ _ => none
  | n + 1 => place_laidfn1v6_L0.body (place_laidfn1v6_L0 n) place_funsfn1v1 place_Code_round0
def place_laidfn1v6_L0.p : LPat := lp 2 25 [0, 2, 3, 7, 8] (ps (py 47244640256 (ps (pk 4) (ps (pk 4) (ps (pk 4) (ps (pk 4) (ps (pk 4) (ps (pq [0, 0] 0 0) (ps (pk 4) (ps (pk 3) (ps (pk 4) (ps (pk 4) (ps (pk 4) (ps (pk 4) (ps (pk 3) (ps (pk 3) (ps (pk 3) (ps (pk 4) pz))))))))))))))))) (ps (pq [0, 2] 0 0) (ps (pq [0, 3] 0 0) (pl (pd (.int .i64)) (pl (pd (.int .i64)) pz))))) (pl (po [0, 0] 3 1 (es (.int .i64) (pl eh pz))) (pl (po [0, 1] 3 1 (es (.int .i64) (pl eh pz))) (pl (po [0, 2] 3 1 (es (.int .i64) (pl eh pz))) (pl (po [0, 3] 95 1 (em (pl (pf 38 pz (ps (pq [0, 4] 0 0) (ps (pq [0, 5] 0 0) pz))) pz))) (pl (po [0, 4] 30 3 (es Ty24 (pl eh pz))) (pl (po [0, 5] 26 2 (em (pl (pa (pl (pb 1 4 .bool) (pl (pb 2 3 (.int .i64)) pz))) pz))) pz))))))
def place_laidfn1v6_L0.g (F : T_place_laidfn1v6_L0) (v : place_laidfn1v6_L0.p.T) (k : KE) : Option Bool := F v.1.1 v.1.2.1 v.2.1.1 v.2.2.1.1 v.2.2.2.1.1 v.2.2.2.2.2.1.1 v.2.2.2.2.2.2.1.1.1 v.2.2.2.2.2.2.1.1.2.1 (fun y0 y1 y2 y3 y4 y5 => k .ret ⟨fillS 25 [] [], [([0, 0], ⟨3, 1, (.data (.int .i64) [y0])⟩), ([0, 1], ⟨3, 1, (.data (.int .i64) [y1])⟩), ([0, 2], ⟨3, 1, (.data (.int .i64) [y2])⟩), ([0, 3], ⟨95, 1, (.mix [(.fn (.func 38) [] [(.ptr [0, 4] 0 0), (.ptr [0, 5] 0 0)])])⟩), ([0, 4], ⟨30, 3, (.data Ty24 [y3])⟩), ([0, 5], ⟨26, 2, (.mix [(.agg [(.bv 1 4 .bool y4), (.bv 2 3 (.int .i64) y5)])])⟩)], 2⟩) (fun y0 y1 y2 y3 y4 y5 => k (.exit 0) ⟨fillS 25 [] [], [([0, 0], ⟨3, 1, (.data (.int .i64) [y0])⟩), ([0, 1], ⟨3, 1, (.data (.int .i64) [y1])⟩), ([0, 2], ⟨3, 1, (.data (.int .i64) [y2])⟩), ([0, 3], ⟨95, 1, (.mix [(.fn (.func 38) [] [(.ptr [0, 4] 0 0), (.ptr [0, 5] 0 0)])])⟩), ([0, 4], ⟨30, 3, (.data Ty24 [y3])⟩), ([0, 5], ⟨26, 2, (.mix [(.agg [(.bv 1 4 .bool y4), (.bv 2 3 (.int .i64) y5)])])⟩)], 2⟩)
theorem place_laidfn1v6_L0.step (S : T_place_laidfn1v6_L0) (F0 : T_place_funsfn1v1) (F1 : T_place_Code_round0) : ∀ v k, exR 56 Try.f56 0 place_laidfn1v6_L0.p [⟨place_funsfn1v1.p, place_funsfn1v1.g F0⟩, ⟨place_Code_round0.p, place_Code_round0.g F1⟩] [] [] (place_laidfn1v6_L0.g S) v k = place_laidfn1v6_L0.g (place_laidfn1v6_L0.body S F0 F1) v k := fun v k => by kernel_rfl
theorem place_laidfn1v6_L0.ok : okL 56 Try.f56 3 0 place_laidfn1v6_L0.p (place_laidfn1v6_L0.g (place_laidfn1v6_L0 ROUNDS)) := loop2 (G := fun n => place_laidfn1v6_L0.g (place_laidfn1v6_L0 n)) (fun n => place_laidfn1v6_L0.step (place_laidfn1v6_L0 n) place_funsfn1v1 place_Code_round0) (.cons place_funsfn1v1.ok (.cons place_Code_round0.ok .nil)) [] (by kernel_rfl) .nil (fun _ _ => rfl)
/-- function 56: sheerleg/place.laid$1 -/
abbrev T_place_laidfn1v6 : Type := Int → Int → Int → Tc18 → (List Bool) → (List Int) → (Int → Int → Int → Tc18 → (List Bool) → (List Int) → Option Bool) → Option Bool
noncomputable def place_laidfn1v6.body (place_laidfn1v6_L0 : T_place_laidfn1v6_L0) : T_place_laidfn1v6 := fun n1462 n1463 n1464 t1465 bs1466 ns1467 k1 =>
  (place_laidfn1v6_L0 n1463 (0 : Int) n1462 n1463 n1464 t1465 bs1466 ns1467
  (fun n1482 n1483 n1484 t1485 bs1486 ns1487 => (k1 n1482 n1483 n1484 t1485 bs1486 ns1487))
  (fun n1488 n1489 n1490 t1491 bs1492 ns1493 => (k1 n1488 n1489 n1490 t1491 bs1492 ns1493)))
noncomputable def place_laidfn1v6 : T_place_laidfn1v6 := place_laidfn1v6.body (place_laidfn1v6_L0 ROUNDS)
def place_laidfn1v6.p : FPat := fp 56 (ps (py 47244640256 (ps (pk 4) (ps (pk 4) (ps (pk 4) (ps (pk 4) (ps (pk 4) (ps (pq [0, 0] 0 0) (ps (pk 4) (ps (pk 3) (ps (pk 4) (ps (pk 4) (ps (pk 4) (ps (pk 4) (ps (pk 3) (ps (pk 3) (ps (pk 3) (ps (pk 4) pz))))))))))))))))) (ps (pq [0, 1] 0 0) (ps (pq [0, 2] 0 0) (ps (pq [0, 3] 0 0) pz)))) (pl (po [0, 0] 3 1 (es (.int .i64) (pl eh pz))) (pl (po [0, 1] 3 1 (es (.int .i64) (pl eh pz))) (pl (po [0, 2] 3 1 (es (.int .i64) (pl eh pz))) (pl (po [0, 3] 95 1 (em (pl (pf 38 pz (ps (pq [0, 4] 0 0) (ps (pq [0, 5] 0 0) pz))) pz))) (pl (po [0, 4] 30 3 (es Ty24 (pl eh pz))) (pl (po [0, 5] 26 2 (em (pl (pa (pl (pb 1 4 .bool) (pl (pb 2 3 (.int .i64)) pz))) pz))) pz))))))
def place_laidfn1v6.g (F : T_place_laidfn1v6) (v : place_laidfn1v6.p.T) (k : KR) : Option Bool := F v.2.1.1 v.2.2.1.1 v.2.2.2.1.1 v.2.2.2.2.2.1.1 v.2.2.2.2.2.2.1.1.1 v.2.2.2.2.2.2.1.1.2.1 (fun y0 y1 y2 y3 y4 y5 => k (.tup []) [([0, 0], ⟨3, 1, (.data (.int .i64) [y0])⟩), ([0, 1], ⟨3, 1, (.data (.int .i64) [y1])⟩), ([0, 2], ⟨3, 1, (.data (.int .i64) [y2])⟩), ([0, 3], ⟨95, 1, (.mix [(.fn (.func 38) [] [(.ptr [0, 4] 0 0), (.ptr [0, 5] 0 0)])])⟩), ([0, 4], ⟨30, 3, (.data Ty24 [y3])⟩), ([0, 5], ⟨26, 2, (.mix [(.agg [(.bv 1 4 .bool y4), (.bv 2 3 (.int .i64) y5)])])⟩)])
theorem place_laidfn1v6.eq (L0 : T_place_laidfn1v6_L0) : ∀ v k, exF Try.f56 place_laidfn1v6.p [] [] [⟨0, place_laidfn1v6_L0.p, place_laidfn1v6_L0.g L0⟩] v k = place_laidfn1v6.g (place_laidfn1v6.body L0) v k := fun v k => by kernel_rfl
theorem place_laidfn1v6.ok : okF 4 place_laidfn1v6.p (place_laidfn1v6.g place_laidfn1v6) := fn2 (place_laidfn1v6.eq (place_laidfn1v6_L0 ROUNDS)) Try.func56 (by kernel_rfl) .nil [0] (by kernel_rfl) (.cons place_laidfn1v6_L0.ok .nil)
/-- function 11: sheerleg/place.Code -/
abbrev T_place_Codev1 : Type := Tc18 → (List Bool) → (List Int) → (Int → Option Bool) → Option Bool
noncomputable def place_Codev1.body (place_funsv1 : T_place_funsv1) (place_laidfn1v6 : T_place_laidfn1v6) : T_place_Codev1 := fun t1454 bs1455 ns1456 k1 =>
  (place_funsv1 t1454 bs1455 ns1456
  (fun n1457 n1458 t1459 bs1460 ns1461 => (place_laidfn1v6 (2 : Int) n1457 n1458 t1459 bs1460 ns1461
  (fun n1494 n1495 n1496 t1497 bs1498 ns1499 => (k1 n1494)))))
noncomputable def place_Codev1 : T_place_Codev1 := place_Codev1.body place_funsv1 place_laidfn1v6
def place_Codev1.p : FPat := fp 11 (pl (pd Ty24) (pl (pa (pl (pb 1 4 .bool) (pl (pb 2 3 (.int .i64)) pz))) pz)) pz
def place_Codev1.g (F : T_place_Codev1) (v : place_Codev1.p.T) (k : KR) : Option Bool := F v.1.1 v.1.2.1.1 v.1.2.1.2.1 (fun y0 => k (.d ⟨(.int .i64), y0⟩) [])
theorem place_Codev1.eq (F0 : T_place_funsv1) (F1 : T_place_laidfn1v6) : ∀ v k, exF Try.f11 place_Codev1.p [⟨place_funsv1.p, place_funsv1.g F0⟩, ⟨place_laidfn1v6.p, place_laidfn1v6.g F1⟩] [] [] v k = place_Codev1.g (place_Codev1.body F0 F1) v k := fun v k => by kernel_rfl
theorem place_Codev1.ok : okF 5 place_Codev1.p (place_Codev1.g place_Codev1) := fn2 (place_Codev1.eq place_funsv1 place_laidfn1v6) Try.func11 (by kernel_rfl) (.cons place_funsv1.ok (.cons place_laidfn1v6.ok .nil)) [] (by kernel_rfl) .nil
/-- function 4: sheerleg/sheerleglaw29.PlaceLess -/
abbrev T_law29_PlaceLess : Type := Tc17 → Tc1 → Int → Bool → (Bool → Option Bool) → Option Bool
noncomputable def law29_PlaceLess.body (law29_few : T_law29_few) (law29_known : T_law29_known) (place_Fns : T_place_Fns) (place_Code : T_place_Code) (place_Starts : T_place_Starts) (place_Startsv1 : T_place_Startsv1) (place_Codev1 : T_place_Codev1) (law29_PlaceLess_L0 : T_law29_PlaceLess_L0) (law29_PlaceLess_L2 : T_law29_PlaceLess_L2) : T_law29_PlaceLess := fun ts1340 t1341 n1342 b1343 k1 =>
  (law29_few ts1340 t1341
  (fun t1344 b1345 => (cond_ (! (! b1345)) (cond_ (! (decide (n1342 < (0 : Int)))) (cond_ (! (decide (n1342 ≥ (((List.length t1341.1) : Nat) : Int)))) (cond_ (decide (n1342 ≥ (((List.length t1341.2.1) : Nat) : Int))) (law29_known
  (fun b1346 => (k1 b1346))) (place_Fns (t1344.1, (t1344.2.1, (t1344.2.2.1, ()))) t1341
  (fun ts1347 => (law29_PlaceLess_L0 n1342 b1343 (2 : Int) (0 : Int) t1341 t1344.1 t1344.2.1 t1344.2.2.1 ts1347
  (fun b1357 => (k1 b1357))
  (fun n1358 b1359 n1360 t1361 l1362 l1363 n1364 => (place_Code (l1362, (l1363, (n1364, ()))) t1361
  (fun n1365 => (cond_ (n1360 != n1365) (k1 false) (cond_ (Nat.ble ((List.length t1361.1) * (1 : Nat)) (140737488355328 : Nat)) (cond_ (Nat.ble ((List.length t1361.2.1) * (8 : Nat)) (140737488355328 : Nat)) (cond_ b1359 (cond_ ((decide ((0 : Int) ≤ n1358)) && (decide (n1358 < (((List.length t1361.2.1) : Nat) : Int)))) (place_Starts (l1362, (l1363, (n1364, ()))) t1361
  (fun ns1366 => (place_Startsv1 (l1362, (l1363, (n1364, ()))) t1361.1 (List.set t1361.2.1 (Int.toNat n1358) (0 : Int))
  (fun ns1437 => (cond_ (! ((List.length ns1366 : Int) != (List.length l1362 : Int))) (cond_ ((List.length ns1437 : Int) != (List.length l1362 : Int)) (k1 false) (law29_PlaceLess_L2 (0 : Int) t1361 l1362 l1363 n1364 t1361.1 (List.set t1361.2.1 (Int.toNat n1358) (0 : Int)) ns1366 ns1437
  (fun b1447 => (k1 b1447))
  (fun t1448 l1449 l1450 n1451 bs1452 ns1453 => (place_Codev1 (l1449, (l1450, (n1451, ()))) bs1452 ns1453
  (fun n1500 => (place_Code (l1449, (l1450, (n1451, ()))) t1448
  (fun n1501 => (cond_ (decide (n1500 ≤ n1501)) (law29_known
  (fun b1502 => (k1 b1502))) (k1 false))))))))) (k1 false)))))) none) (cond_ ((decide ((0 : Int) ≤ n1358)) && (decide (n1358 < (((List.length t1361.1) : Nat) : Int)))) (place_Starts (l1362, (l1363, (n1364, ()))) t1361
  (fun ns1503 => (place_Startsv1 (l1362, (l1363, (n1364, ()))) (List.set t1361.1 (Int.toNat n1358) false) t1361.2.1
  (fun ns1504 => (cond_ (! ((List.length ns1503 : Int) != (List.length l1362 : Int))) (cond_ ((List.length ns1504 : Int) != (List.length l1362 : Int)) (k1 false) (law29_PlaceLess_L2 (0 : Int) t1361 l1362 l1363 n1364 (List.set t1361.1 (Int.toNat n1358) false) t1361.2.1 ns1503 ns1504
  (fun b1505 => (k1 b1505))
  (fun t1506 l1507 l1508 n1509 bs1510 ns1511 => (place_Codev1 (l1507, (l1508, (n1509, ()))) bs1510 ns1511
  (fun n1512 => (place_Code (l1507, (l1508, (n1509, ()))) t1506
  (fun n1513 => (cond_ (decide (n1512 ≤ n1513)) (law29_known
  (fun b1514 => (k1 b1514))) (k1 false))))))))) (k1 false)))))) none)) none) none))))))))) (law29_known
  (fun b1515 => (k1 b1515)))) (law29_known
  (fun b1516 => (k1 b1516)))) (law29_known
  (fun b1517 => (k1 b1517))))))
noncomputable def law29_PlaceLess : T_law29_PlaceLess := law29_PlaceLess.body law29_few law29_known place_Fns place_Code place_Starts place_Startsv1 place_Codev1 (law29_PlaceLess_L0 ROUNDS) (law29_PlaceLess_L2 ROUNDS)
def law29_PlaceLess.p : FPat := fp 4 (pl (pb 0 80 Ty22) (pl (pd Ty6) (pl (pd (.int .i64)) (pl (pd .bool) pz)))) pz
def law29_PlaceLess.g (F : T_law29_PlaceLess) (v : law29_PlaceLess.p.T) (k : KR) : Option Bool := F v.1.1 v.1.2.1 v.1.2.2.1 v.1.2.2.2.1 (fun y0 => k (.d ⟨.bool, y0⟩) [])
theorem law29_PlaceLess.eq (F0 : T_law29_few) (F1 : T_law29_known) (F2 : T_place_Fns) (F3 : T_place_Code) (F4 : T_place_Starts) (F5 : T_place_Startsv1) (F6 : T_place_Codev1) (L0 : T_law29_PlaceLess_L0) (L1 : T_law29_PlaceLess_L2) : ∀ v k, exF Try.f4 law29_PlaceLess.p [⟨law29_few.p, law29_few.g F0⟩, ⟨law29_known.p, law29_known.g F1⟩, ⟨place_Fns.p, place_Fns.g F2⟩, ⟨place_Code.p, place_Code.g F3⟩, ⟨place_Starts.p, place_Starts.g F4⟩, ⟨place_Startsv1.p, place_Startsv1.g F5⟩, ⟨place_Codev1.p, place_Codev1.g F6⟩] [] [⟨0, law29_PlaceLess_L0.p, law29_PlaceLess_L0.g L0⟩, ⟨2, law29_PlaceLess_L2.p, law29_PlaceLess_L2.g L1⟩] v k = law29_PlaceLess.g (law29_PlaceLess.body F0 F1 F2 F3 F4 F5 F6 L0 L1) v k := fun v k => by kernel_rfl
theorem law29_PlaceLess.ok : okF 61 law29_PlaceLess.p (law29_PlaceLess.g law29_PlaceLess) := fn2 (law29_PlaceLess.eq law29_few law29_known place_Fns place_Code place_Starts place_Startsv1 place_Codev1 (law29_PlaceLess_L0 ROUNDS) (law29_PlaceLess_L2 ROUNDS)) Try.func4 (by kernel_rfl) (.cons law29_few.ok (.cons law29_known.ok (.cons place_Fns.ok (.cons place_Code.ok (.cons place_Starts.ok (.cons place_Startsv1.ok (.cons place_Codev1.ok .nil))))))) [0, 2] (by kernel_rfl) (.cons law29_PlaceLess_L0.ok (.cons law29_PlaceLess_L2.ok .nil))
/-- function 6: sheerleg/sheerleglaw29.few -/
abbrev T_law29_fewv1 : Type := Tc17 → (Tc18 → Bool → Option Bool) → Option Bool
noncomputable def law29_fewv1.body (ref24_Few : T_ref24_Few) (ref24_Bind : T_ref24_Bind) (ref25_Few : T_ref25_Few) : T_law29_fewv1 := fun ts1519 k1 =>
  (ref24_Few ts1519
  (fun b1520 => (cond_ (! (! b1520)) (ref24_Bind ts1519 (⟨#[109, 97, 105, 110]⟩ : ByteArray)
  (fun t1521 t1522 => (ref25_Few (t1521.1, (t1521.2.1, (t1521.2.2.1, ())))
  (fun b1523 => (k1 (t1521.1, (t1521.2.1, (t1521.2.2.1, ()))) b1523))))) (k1 ([], ([], (0, ()))) false))))
noncomputable def law29_fewv1 : T_law29_fewv1 := law29_fewv1.body ref24_Few ref24_Bind ref25_Few
def law29_fewv1.p : FPat := fp 6 (pl (pb 0 80 Ty22) (ps (pa (ps (pk 0) (ps (pk 0) pz))) pz)) pz
def law29_fewv1.g (F : T_law29_fewv1) (v : law29_fewv1.p.T) (k : KR) : Option Bool := F v.1.1 (fun y0 y1 => k (.tup [(.d ⟨Ty24, y0⟩), (.d ⟨.bool, y1⟩)]) [])
theorem law29_fewv1.eq (F0 : T_ref24_Few) (F1 : T_ref24_Bind) (F2 : T_ref25_Few) : ∀ v k, exF Try.f6 law29_fewv1.p [⟨ref24_Few.p, ref24_Few.g F0⟩, ⟨ref24_Bind.p, ref24_Bind.g F1⟩, ⟨ref25_Few.p, ref25_Few.g F2⟩] [] [] v k = law29_fewv1.g (law29_fewv1.body F0 F1 F2) v k := fun v k => by kernel_rfl
theorem law29_fewv1.ok : okF 12 law29_fewv1.p (law29_fewv1.g law29_fewv1) := fn2 (law29_fewv1.eq ref24_Few ref24_Bind ref25_Few) Try.func6 (by kernel_rfl) (.cons ref24_Few.ok (.cons ref24_Bind.ok (.cons ref25_Few.ok .nil))) [] (by kernel_rfl) .nil
/-- function 5: the loop in block 0 -/
abbrev T_law29_PlaceData_L0 : Type := Int → Int → Tc15 → Tc11 → Int → (List Int) → (Bool → Option Bool) → (Int → Tc15 → Tc11 → Int → Option Bool) → Option Bool
noncomputable def law29_PlaceData_L0.body (law29_PlaceData_L0 : T_law29_PlaceData_L0) : T_law29_PlaceData_L0 := fun n1528 n1529 l1530 l1531 n1532 ns1533 k1 k2 =>
  (cond_ (decide (n1529 < (List.length ns1533 : Int))) (cond_ ((decide ((0 : Int) ≤ n1529)) && (decide (n1529 < (List.length ns1533 : Int)))) (cond_ ((List.getD ns1533 (Int.toNat n1529) (0 : Int)) != n1528) (k1 false) (cond_ ((decide ((0 : Int) ≤ n1529)) && (decide (n1529 < (List.length l1531 : Int)))) (law29_PlaceData_L0 (IntKind.wrap .i64 ((IntKind.wrap .i64 (n1528 + (1 : Int))) + (((List.length (List.getD l1531 (Int.toNat n1529) (0, (0, ((⟨#[]⟩ : ByteArray), (0, ([], ([], ([], ())))))))).2.2.2.2.1) : Nat) : Int))) (IntKind.wrap .i64 (n1529 + (1 : Int))) l1530 l1531 n1532 ns1533 k1 k2) none)) none) (k2 n1528 l1530 l1531 n1532))
noncomputable def law29_PlaceData_L0 : Nat → T_law29_PlaceData_L0
  | 0 => fun _ _ _ _ _ _ _ _ => none
  | n + 1 => law29_PlaceData_L0.body (law29_PlaceData_L0 n)
def law29_PlaceData_L0.p : LPat := lp 2 55 [3, 5, 6, 7] (ps (pq [1, 0] 0 0) (ps (pr [1, 1]) (pl (pd (.int .i64)) (pl (pd (.int .i64)) pz)))) (pl (po [1, 0] 30 3 (em (pl (pa (pl (pd Ty21) (pl (pd Ty17) (pl (pd (.int .i64)) pz)))) pz))) (pl (po [1, 1] 3 1 (ed (.int .i64))) pz))
def law29_PlaceData_L0.g (F : T_law29_PlaceData_L0) (v : law29_PlaceData_L0.p.T) (k : KE) : Option Bool := F v.1.1 v.1.2.1 v.2.1.1.1 v.2.1.1.2.1 v.2.1.1.2.2.1 v.2.2.1 (fun y0 => k .ret ⟨fillS 55 [2] [(.d ⟨.bool, y0⟩)], [], 2⟩) (fun y0 y1 y2 y3 => k (.exit 0) ⟨fillS 55 [3, 6] [(.ptr [1, 0] 0 0), (.d ⟨(.int .i64), y0⟩)], [([1, 0], ⟨30, 3, (.mix [(.agg [(.d ⟨Ty21, y1⟩), (.d ⟨Ty17, y2⟩), (.d ⟨(.int .i64), y3⟩)])])⟩)], 2⟩)
theorem law29_PlaceData_L0.step (S : T_law29_PlaceData_L0) : ∀ v k, exR 5 Try.f5 0 law29_PlaceData_L0.p [] [] [] (law29_PlaceData_L0.g S) v k = law29_PlaceData_L0.g (law29_PlaceData_L0.body S) v k := fun v k => by kernel_rfl
theorem law29_PlaceData_L0.ok : okL 5 Try.f5 0 0 law29_PlaceData_L0.p (law29_PlaceData_L0.g (law29_PlaceData_L0 ROUNDS)) := loop2 (G := fun n => law29_PlaceData_L0.g (law29_PlaceData_L0 n)) (fun n => law29_PlaceData_L0.step (law29_PlaceData_L0 n)) .nil [] (by kernel_rfl) .nil (fun _ _ => rfl)
/-- function 5: sheerleg/sheerleglaw29.PlaceData -/
abbrev T_law29_PlaceData : Type := Tc17 → (Bool → Option Bool) → Option Bool
noncomputable def law29_PlaceData.body (law29_fewv1 : T_law29_fewv1) (law29_known : T_law29_known) (place_Addrs : T_place_Addrs) (place_Words : T_place_Words) (law29_PlaceData_L0 : T_law29_PlaceData_L0) : T_law29_PlaceData := fun ts1518 k1 =>
  (law29_fewv1 ts1518
  (fun t1524 b1525 => (cond_ (! b1525) (law29_known
  (fun b1526 => (k1 b1526))) (place_Addrs (t1524.1, (t1524.2.1, (t1524.2.2.1, ())))
  (fun ns1527 => (cond_ ((List.length ns1527 : Int) != (((List.length t1524.2.1) : Nat) : Int)) (k1 false) (law29_PlaceData_L0 (0 : Int) (0 : Int) t1524.1 t1524.2.1 t1524.2.2.1 ns1527
  (fun b1534 => (k1 b1534))
  (fun n1535 l1536 l1537 n1538 => (place_Words (l1536, (l1537, (n1538, ())))
  (fun n1539 => (cond_ (n1539 == n1535) (law29_known
  (fun b1540 => (k1 b1540))) (k1 false))))))))))))
noncomputable def law29_PlaceData : T_law29_PlaceData := law29_PlaceData.body law29_fewv1 law29_known place_Addrs place_Words (law29_PlaceData_L0 ROUNDS)
def law29_PlaceData.p : FPat := fp 5 (pl (pb 0 80 Ty22) pz) pz
def law29_PlaceData.g (F : T_law29_PlaceData) (v : law29_PlaceData.p.T) (k : KR) : Option Bool := F v.1.1 (fun y0 => k (.d ⟨.bool, y0⟩) [])
theorem law29_PlaceData.eq (F0 : T_law29_fewv1) (F1 : T_law29_known) (F2 : T_place_Addrs) (F3 : T_place_Words) (L0 : T_law29_PlaceData_L0) : ∀ v k, exF Try.f5 law29_PlaceData.p [⟨law29_fewv1.p, law29_fewv1.g F0⟩, ⟨law29_known.p, law29_known.g F1⟩, ⟨place_Addrs.p, place_Addrs.g F2⟩, ⟨place_Words.p, place_Words.g F3⟩] [] [⟨0, law29_PlaceData_L0.p, law29_PlaceData_L0.g L0⟩] v k = law29_PlaceData.g (law29_PlaceData.body F0 F1 F2 F3 L0) v k := fun v k => by kernel_rfl
theorem law29_PlaceData.ok : okF 61 law29_PlaceData.p (law29_PlaceData.g law29_PlaceData) := fn2 (law29_PlaceData.eq law29_fewv1 law29_known place_Addrs place_Words (law29_PlaceData_L0 ROUNDS)) Try.func5 (by kernel_rfl) (.cons law29_fewv1.ok (.cons law29_known.ok (.cons place_Addrs.ok (.cons place_Words.ok .nil)))) [0] (by kernel_rfl) (.cons law29_PlaceData_L0.ok .nil)
-- LAWROW law29_PlaceTells | 3 | 61 | Ty23 ¦ Ty6
-- LAWROW law29_PlaceLess | 4 | 61 | Ty23 ¦ Ty6 ¦ (.int .i64) ¦ .bool
-- LAWROW law29_PlaceData | 5 | 61 | Ty23
end Go.Proofs.Ytdkgfadnhnbipaa.p
