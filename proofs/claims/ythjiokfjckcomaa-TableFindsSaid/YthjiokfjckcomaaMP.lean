/- What the functions come to that P reaches, as plain functions; written by a program of this work, each told by Lean. -/
import Derived.Test.YthjiokfjckcomaaMP1
namespace Go.Proofs.Ythjiokfjckcomaa.p
open Go.AX
set_option linter.unusedVariables false
set_option maxRecDepth 100000
set_option maxHeartbeats 4000000
/-- function 27: sheerleg/table.Source$1 -/
abbrev T_table_Sourcefn1 : Type := Tc6 → Int → (Bool → Int → Option Bool) → Option Bool
noncomputable def table_Sourcefn1.body : T_table_Sourcefn1 := fun t861 n862 k1 =>
  (cond_ (decide (t861.2.2.2.1 ≤ n862)) (k1 (decide (n862 < t861.2.2.2.2.1)) n862) (k1 false n862))
noncomputable def table_Sourcefn1 : T_table_Sourcefn1 := table_Sourcefn1.body
def table_Sourcefn1.p : FPat := fp 27 (pl (pd Ty15) (ps (pq [0, 0] 0 0) pz)) (pl (po [0, 0] 3 1 (es (.int .i64) (pl eh pz))) pz)
def table_Sourcefn1.g (F : T_table_Sourcefn1) (v : table_Sourcefn1.p.T) (k : KR) : Option Bool := F v.1.1 v.2.1.1 (fun y0 y1 => k (.d ⟨.bool, y0⟩) [([0, 0], ⟨3, 1, (.data (.int .i64) [y1])⟩)])
theorem table_Sourcefn1.eq : ∀ v k, exF Try.f27 table_Sourcefn1.p [] [] [] v k = table_Sourcefn1.g (table_Sourcefn1.body) v k := fun v k => by kernel_rfl
theorem table_Sourcefn1.ok : okF 1 table_Sourcefn1.p (table_Sourcefn1.g table_Sourcefn1) := fn2 (table_Sourcefn1.eq) Try.func27 (by kernel_rfl) .nil [] (by kernel_rfl) .nil
/-- function 26: the loop in block 0 -/
abbrev T_slices_IndexFunc_api_Fn_api_Fn_L0 : Type := Tc10 → Int → Int → Int → (Int → Int → Option Bool) → (Int → Option Bool) → Option Bool
noncomputable def slices_IndexFunc_api_Fn_api_Fn_L0.body (slices_IndexFunc_api_Fn_api_Fn_L0 : T_slices_IndexFunc_api_Fn_api_Fn_L0) (table_Sourcefn1 : T_table_Sourcefn1) : T_slices_IndexFunc_api_Fn_api_Fn_L0 := fun ts857 n858 n859 n860 k1 k2 =>
  (cond_ (decide (n859 < n858)) (cond_ ((decide ((0 : Int) ≤ n859)) && (decide (n859 < (List.length ts857 : Int)))) (table_Sourcefn1 (List.getD ts857 (Int.toNat n859) (0, (0, (0, (0, (0, (0, ()))))))) n860
  (fun b863 n864 => (cond_ b863 (k1 n859 n864) (slices_IndexFunc_api_Fn_api_Fn_L0 ts857 n858 (IntKind.wrap .i64 (n859 + (1 : Int))) n864 k1 k2)))) none) (k2 n860))
noncomputable def slices_IndexFunc_api_Fn_api_Fn_L0 : Nat → T_slices_IndexFunc_api_Fn_api_Fn_L0
  | 0 => fun _ _ _ _ _ _ => none
  | n + 1 => slices_IndexFunc_api_Fn_api_Fn_L0.body (slices_IndexFunc_api_Fn_api_Fn_L0 n) table_Sourcefn1
def slices_IndexFunc_api_Fn_api_Fn_L0.p : LPat := lp 2 19 [0, 1, 7, 8] (pl (pb 0 52 Ty15) (pl (pf 27 pz (ps (pq [0, 0] 0 0) pz)) (pl (pd (.int .i64)) (pl (pd (.int .i64)) pz)))) (pl (po [0, 0] 3 1 (es (.int .i64) (pl eh pz))) pz)
def slices_IndexFunc_api_Fn_api_Fn_L0.g (F : T_slices_IndexFunc_api_Fn_api_Fn_L0) (v : slices_IndexFunc_api_Fn_api_Fn_L0.p.T) (k : KE) : Option Bool := F v.1.1 v.1.2.2.1 v.1.2.2.2.1 v.2.1.1 (fun y0 y1 => k .ret ⟨fillS 19 [4] [(.d ⟨(.int .i64), y0⟩)], [([0, 0], ⟨3, 1, (.data (.int .i64) [y1])⟩)], 2⟩) (fun y0 => k (.exit 0) ⟨fillS 19 [] [], [([0, 0], ⟨3, 1, (.data (.int .i64) [y0])⟩)], 2⟩)
theorem slices_IndexFunc_api_Fn_api_Fn_L0.step (S : T_slices_IndexFunc_api_Fn_api_Fn_L0) (F0 : T_table_Sourcefn1) : ∀ v k, exR 26 Try.f26 0 slices_IndexFunc_api_Fn_api_Fn_L0.p [⟨table_Sourcefn1.p, table_Sourcefn1.g F0⟩] [] [] (slices_IndexFunc_api_Fn_api_Fn_L0.g S) v k = slices_IndexFunc_api_Fn_api_Fn_L0.g (slices_IndexFunc_api_Fn_api_Fn_L0.body S F0) v k := fun v k => by kernel_rfl
theorem slices_IndexFunc_api_Fn_api_Fn_L0.ok : okL 26 Try.f26 1 0 slices_IndexFunc_api_Fn_api_Fn_L0.p (slices_IndexFunc_api_Fn_api_Fn_L0.g (slices_IndexFunc_api_Fn_api_Fn_L0 ROUNDS)) := loop2 (G := fun n => slices_IndexFunc_api_Fn_api_Fn_L0.g (slices_IndexFunc_api_Fn_api_Fn_L0 n)) (fun n => slices_IndexFunc_api_Fn_api_Fn_L0.step (slices_IndexFunc_api_Fn_api_Fn_L0 n) table_Sourcefn1) (.cons table_Sourcefn1.ok .nil) [] (by kernel_rfl) .nil (fun _ _ => rfl)
/-- function 26: slices.IndexFunc[[]sheerleg/api.Fn,sheerleg/api.Fn] -/
abbrev T_slices_IndexFunc_api_Fn_api_Fn : Type := Tc10 → Int → (Int → Int → Option Bool) → Option Bool
noncomputable def slices_IndexFunc_api_Fn_api_Fn.body (slices_IndexFunc_api_Fn_api_Fn_L0 : T_slices_IndexFunc_api_Fn_api_Fn_L0) : T_slices_IndexFunc_api_Fn_api_Fn := fun ts855 n856 k1 =>
  (slices_IndexFunc_api_Fn_api_Fn_L0 ts855 (List.length ts855 : Int) (0 : Int) n856
  (fun n865 n866 => (k1 n865 n866))
  (fun n867 => (k1 (-1 : Int) n867)))
noncomputable def slices_IndexFunc_api_Fn_api_Fn : T_slices_IndexFunc_api_Fn_api_Fn := slices_IndexFunc_api_Fn_api_Fn.body (slices_IndexFunc_api_Fn_api_Fn_L0 ROUNDS)
def slices_IndexFunc_api_Fn_api_Fn.p : FPat := fp 26 (pl (pb 0 52 Ty15) (pl (pf 27 pz (ps (pq [0, 0] 0 0) pz)) pz)) (pl (po [0, 0] 3 1 (es (.int .i64) (pl eh pz))) pz)
def slices_IndexFunc_api_Fn_api_Fn.g (F : T_slices_IndexFunc_api_Fn_api_Fn) (v : slices_IndexFunc_api_Fn_api_Fn.p.T) (k : KR) : Option Bool := F v.1.1 v.2.1.1 (fun y0 y1 => k (.d ⟨(.int .i64), y0⟩) [([0, 0], ⟨3, 1, (.data (.int .i64) [y1])⟩)])
theorem slices_IndexFunc_api_Fn_api_Fn.eq (L0 : T_slices_IndexFunc_api_Fn_api_Fn_L0) : ∀ v k, exF Try.f26 slices_IndexFunc_api_Fn_api_Fn.p [] [] [⟨0, slices_IndexFunc_api_Fn_api_Fn_L0.p, slices_IndexFunc_api_Fn_api_Fn_L0.g L0⟩] v k = slices_IndexFunc_api_Fn_api_Fn.g (slices_IndexFunc_api_Fn_api_Fn.body L0) v k := fun v k => by kernel_rfl
theorem slices_IndexFunc_api_Fn_api_Fn.ok : okF 2 slices_IndexFunc_api_Fn_api_Fn.p (slices_IndexFunc_api_Fn_api_Fn.g slices_IndexFunc_api_Fn_api_Fn) := fn2 (slices_IndexFunc_api_Fn_api_Fn.eq (slices_IndexFunc_api_Fn_api_Fn_L0 ROUNDS)) Try.func26 (by kernel_rfl) .nil [0] (by kernel_rfl) (.cons slices_IndexFunc_api_Fn_api_Fn_L0.ok .nil)
/-- function 7: sheerleg/table.Source -/
abbrev T_table_Source : Type := Tc10 → Int → (Int → Int → Bool → Option Bool) → Option Bool
noncomputable def table_Source.body (slices_IndexFunc_api_Fn_api_Fn : T_slices_IndexFunc_api_Fn_api_Fn) : T_table_Source := fun ts853 n854 k1 =>
  (slices_IndexFunc_api_Fn_api_Fn ts853 n854
  (fun n868 n869 => (cond_ (decide (n868 < (0 : Int))) (k1 (0 : Int) (0 : Int) false) (cond_ ((decide ((0 : Int) ≤ n868)) && (decide (n868 < (List.length ts853 : Int)))) (k1 n868 (IntKind.wrap .i64 (n869 - (List.getD ts853 (Int.toNat n868) (0, (0, (0, (0, (0, (0, ()))))))).2.2.2.1)) true) none))))
noncomputable def table_Source : T_table_Source := table_Source.body slices_IndexFunc_api_Fn_api_Fn
def table_Source.p : FPat := fp 7 (pl (pb 0 52 Ty15) (pl (pd (.int .i64)) pz)) pz
def table_Source.g (F : T_table_Source) (v : table_Source.p.T) (k : KR) : Option Bool := F v.1.1 v.1.2.1 (fun y0 y1 y2 => k (.tup [(.d ⟨(.int .i64), y0⟩), (.d ⟨(.int .i64), y1⟩), (.d ⟨.bool, y2⟩)]) [])
theorem table_Source.eq (F0 : T_slices_IndexFunc_api_Fn_api_Fn) : ∀ v k, exF Try.f7 table_Source.p [⟨slices_IndexFunc_api_Fn_api_Fn.p, slices_IndexFunc_api_Fn_api_Fn.g F0⟩] [] [] v k = table_Source.g (table_Source.body F0) v k := fun v k => by kernel_rfl
theorem table_Source.ok : okF 3 table_Source.p (table_Source.g table_Source) := fn2 (table_Source.eq slices_IndexFunc_api_Fn_api_Fn) Try.func7 (by kernel_rfl) (.cons slices_IndexFunc_api_Fn_api_Fn.ok .nil) [] (by kernel_rfl) .nil
/-- function 8: the loop in block 0 -/
abbrev T_ref33_Source_L0 : Type := Tc10 → Int → Int → (Int → Int → Bool → Option Bool) → (Option Bool) → Option Bool
noncomputable def ref33_Source_L0.body (ref33_Source_L0 : T_ref33_Source_L0) : T_ref33_Source_L0 := fun ts875 n876 n877 k1 k2 =>
  (cond_ (decide (n877 < (List.length ts875 : Int))) (cond_ ((decide ((0 : Int) ≤ n877)) && (decide (n877 < (List.length ts875 : Int)))) (cond_ (decide (n876 ≥ (List.getD ts875 (Int.toNat n877) (0, (0, (0, (0, (0, (0, ()))))))).2.2.2.1)) (cond_ ((decide ((0 : Int) ≤ n877)) && (decide (n877 < (List.length ts875 : Int)))) (cond_ (decide (n876 < (List.getD ts875 (Int.toNat n877) (0, (0, (0, (0, (0, (0, ()))))))).2.2.2.2.1)) (cond_ ((decide ((0 : Int) ≤ n877)) && (decide (n877 < (List.length ts875 : Int)))) (k1 n877 (IntKind.wrap .i64 (n876 - (List.getD ts875 (Int.toNat n877) (0, (0, (0, (0, (0, (0, ()))))))).2.2.2.1)) true) none) (ref33_Source_L0 ts875 n876 (IntKind.wrap .i64 (n877 + (1 : Int))) k1 k2)) none) (ref33_Source_L0 ts875 n876 (IntKind.wrap .i64 (n877 + (1 : Int))) k1 k2)) none) (k2))
noncomputable def ref33_Source_L0 : Nat → T_ref33_Source_L0
  | 0 => fun _ _ _ _ _ => none
  | n + 1 => ref33_Source_L0.body (ref33_Source_L0 n)
def ref33_Source_L0.p : LPat := lp 2 38 [0, 1, 7] (pl (pb 0 52 Ty15) (pl (pd (.int .i64)) (pl (pd (.int .i64)) pz))) pz
def ref33_Source_L0.g (F : T_ref33_Source_L0) (v : ref33_Source_L0.p.T) (k : KE) : Option Bool := F v.1.1 v.1.2.1 v.1.2.2.1 (fun y0 y1 y2 => k .ret ⟨fillS 38 [4, 5, 6] [(.d ⟨(.int .i64), y0⟩), (.d ⟨(.int .i64), y1⟩), (.d ⟨.bool, y2⟩)], [], 2⟩) (k (.exit 0) ⟨fillS 38 [] [], [], 2⟩)
theorem ref33_Source_L0.step (S : T_ref33_Source_L0) : ∀ v k, exR 8 Try.f8 0 ref33_Source_L0.p [] [] [] (ref33_Source_L0.g S) v k = ref33_Source_L0.g (ref33_Source_L0.body S) v k := fun v k => by kernel_rfl
theorem ref33_Source_L0.ok : okL 8 Try.f8 0 0 ref33_Source_L0.p (ref33_Source_L0.g (ref33_Source_L0 ROUNDS)) := loop2 (G := fun n => ref33_Source_L0.g (ref33_Source_L0 n)) (fun n => ref33_Source_L0.step (ref33_Source_L0 n)) .nil [] (by kernel_rfl) .nil (fun _ _ => rfl)
/-- function 8: sheerleg/sheerlegref33.Source -/
abbrev T_ref33_Source : Type := Tc10 → Int → (Int → Int → Bool → Option Bool) → Option Bool
noncomputable def ref33_Source.body (ref33_Source_L0 : T_ref33_Source_L0) : T_ref33_Source := fun ts873 n874 k1 =>
  (ref33_Source_L0 ts873 n874 (0 : Int)
  (fun n878 n879 b880 => (k1 n878 n879 b880))
  (k1 (0 : Int) (0 : Int) false))
noncomputable def ref33_Source : T_ref33_Source := ref33_Source.body (ref33_Source_L0 ROUNDS)
def ref33_Source.p : FPat := fp 8 (pl (pb 0 52 Ty15) (pl (pd (.int .i64)) pz)) pz
def ref33_Source.g (F : T_ref33_Source) (v : ref33_Source.p.T) (k : KR) : Option Bool := F v.1.1 v.1.2.1 (fun y0 y1 y2 => k (.tup [(.d ⟨(.int .i64), y0⟩), (.d ⟨(.int .i64), y1⟩), (.d ⟨.bool, y2⟩)]) [])
theorem ref33_Source.eq (L0 : T_ref33_Source_L0) : ∀ v k, exF Try.f8 ref33_Source.p [] [] [⟨0, ref33_Source_L0.p, ref33_Source_L0.g L0⟩] v k = ref33_Source.g (ref33_Source.body L0) v k := fun v k => by kernel_rfl
theorem ref33_Source.ok : okF 1 ref33_Source.p (ref33_Source.g ref33_Source) := fn2 (ref33_Source.eq (ref33_Source_L0 ROUNDS)) Try.func8 (by kernel_rfl) .nil [0] (by kernel_rfl) (.cons ref33_Source_L0.ok .nil)
/-- function 28: sheerleg/table.rows -/
abbrev T_table_rows : Type := Tc22 → Tc2 → (Tc22 → Tc2 → Option Bool) → Option Bool
noncomputable def table_rows.body : T_table_rows := fun t886 t887 k1 =>
  (k1 t886 t887)
noncomputable def table_rows : T_table_rows := table_rows.body
def table_rows.p : FPat := fp 28 (pl (pd Ty26) (pl (pd Ty6) pz)) pz
def table_rows.g (F : T_table_rows) (v : table_rows.p.T) (k : KR) : Option Bool := F v.1.1 v.1.2.1 (fun y0 y1 => k (.fn (.func 41) [] [(.ptr [1, 0] 0 0), (.ptr [1, 1] 0 0)]) [([1, 0], ⟨31, 3, (.data Ty26 [y0])⟩), ([1, 1], ⟨26, 2, (.data Ty6 [y1])⟩)])
theorem table_rows.eq : ∀ v k, exF Try.f28 table_rows.p [] [] [] v k = table_rows.g (table_rows.body) v k := fun v k => by kernel_rfl
theorem table_rows.ok : okF 1 table_rows.p (table_rows.g table_rows) := fn2 (table_rows.eq) Try.func28 (by kernel_rfl) .nil [] (by kernel_rfl) .nil
/-- function 4295622656: sheerleg/table.Rows.round0 -/
abbrev T_table_Rows_round0 : Type := Tc0 → (Bool → Tc5 → Option Bool) → Option Bool
noncomputable def table_Rows_round0.body : T_table_Rows_round0 := fun t892 k1 =>
  (k1 true [(t892.1, (t892.2.1, (t892.2.2.1, (t892.2.2.2.1, ()))))])
noncomputable def table_Rows_round0 : T_table_Rows_round0 := table_Rows_round0.body
def table_Rows_round0.p : FPat := fp 4295622656 (pl (pd Ty9) (ps (pk 4) (ps (pk 4) (ps (pk 4) (ps (pk 4) (ps (pk 4) (ps (pq [0, 0] 0 0) (ps (pk 3) (ps (pk 4) (ps (pk 4) (ps (pk 4) (ps (pk 3) (ps (pk 3) (ps (pk 3) (ps (pk 3) (ps (pk 3) (ps (pk 4) pz))))))))))))))))) (ps (po [0, 0] 38 1 (em (ps (pk 0) pz))) pz)
def table_Rows_round0.g (F : T_table_Rows_round0) (v : table_Rows_round0.p.T) (k : KR) : Option Bool := F v.1.1 (fun y0 y1 => k (.d ⟨.bool, y0⟩) [([0, 0], ⟨38, 1, (.mix [(.ref [1, 0])])⟩), ([1, 0], ⟨47, 4, (.data Ty9 y1)⟩)])
theorem table_Rows_round0.eq : ∀ v k, exB (rbAt Try.prog 655360) table_Rows_round0.p [] [] [] v k = table_Rows_round0.g (table_Rows_round0.body) v k := fun v k => by kernel_rfl
theorem table_Rows_round0.ok : okF 1 table_Rows_round0.p (table_Rows_round0.g table_Rows_round0) := rnd2 (table_Rows_round0.eq) rfl (by kernel_rfl) .nil [] (by kernel_rfl) .nil
/-- function 4295622656: sheerleg/table.Rows.round0 -/
abbrev T_table_Rows_round0v1 : Type := Tc0 → Tc5 → (Bool → Tc5 → Option Bool) → Option Bool
noncomputable def table_Rows_round0v1.body : T_table_Rows_round0v1 := fun t895 ts896 k1 =>
  (cond_ (Nat.ble (((List.length ts896) + (List.length ((t895.1, (t895.2.1, (t895.2.2.1, (t895.2.2.2.1, ())))) :: []))) * (32 : Nat)) (140737488355328 : Nat)) (k1 true (ts896 ++ ((t895.1, (t895.2.1, (t895.2.2.1, (t895.2.2.2.1, ())))) :: []))) none)
noncomputable def table_Rows_round0v1 : T_table_Rows_round0v1 := table_Rows_round0v1.body
def table_Rows_round0v1.p : FPat := fp 4295622656 (pl (pd Ty9) (ps (pk 4) (ps (pk 4) (ps (pk 4) (ps (pk 4) (ps (pk 4) (ps (pq [0, 0] 0 0) (ps (pk 3) (ps (pk 4) (ps (pk 4) (ps (pk 4) (ps (pk 3) (ps (pk 3) (ps (pk 3) (ps (pk 3) (ps (pk 3) (ps (pk 4) pz))))))))))))))))) (ps (po [0, 0] 38 1 (em (ps (pr [0, 1]) pz))) (pl (po [0, 1] 47 4 (ed Ty9)) pz))
def table_Rows_round0v1.g (F : T_table_Rows_round0v1) (v : table_Rows_round0v1.p.T) (k : KR) : Option Bool := F v.1.1 v.2.1 (fun y0 y1 => k (.d ⟨.bool, y0⟩) [([0, 0], ⟨38, 1, (.mix [(.ref [1, 0])])⟩), ([1, 0], ⟨47, 4, (.data Ty9 y1)⟩)])
theorem table_Rows_round0v1.eq : ∀ v k, exB (rbAt Try.prog 655360) table_Rows_round0v1.p [] [] [] v k = table_Rows_round0v1.g (table_Rows_round0v1.body) v k := fun v k => by kernel_rfl
theorem table_Rows_round0v1.ok : okF 1 table_Rows_round0v1.p (table_Rows_round0v1.g table_Rows_round0v1) := rnd2 (table_Rows_round0v1.eq) rfl (by kernel_rfl) .nil [] (by kernel_rfl) .nil
/-- function 59: sheerleg/prologue.has -/
abbrev T_prologue_has : Type := (List Bool) → Int → (Bool → Option Bool) → Option Bool
noncomputable def prologue_has.body : T_prologue_has := fun bs909 n910 k1 =>
  (cond_ (decide (n910 ≥ (0 : Int))) (cond_ (decide (n910 < (List.length bs909 : Int))) (cond_ ((decide ((0 : Int) ≤ n910)) && (decide (n910 < (List.length bs909 : Int)))) (k1 (List.getD bs909 (Int.toNat n910) false)) none) (k1 false)) (k1 false))
noncomputable def prologue_has : T_prologue_has := prologue_has.body
def prologue_has.p : FPat := fp 59 (pl (pb 0 4 .bool) (pl (pd (.int .i64)) pz)) pz
def prologue_has.g (F : T_prologue_has) (v : prologue_has.p.T) (k : KR) : Option Bool := F v.1.1 v.1.2.1 (fun y0 => k (.d ⟨.bool, y0⟩) [])
theorem prologue_has.eq : ∀ v k, exF Try.f59 prologue_has.p [] [] [] v k = prologue_has.g (prologue_has.body) v k := fun v k => by kernel_rfl
theorem prologue_has.ok : okF 1 prologue_has.p (prologue_has.g prologue_has) := fn2 (prologue_has.eq) Try.func59 (by kernel_rfl) .nil [] (by kernel_rfl) .nil
/-- function 42: sheerleg/prologue.Size -/
abbrev T_prologue_Size : Type := Tc22 → Tc2 → Int → (Int → Option Bool) → Option Bool
noncomputable def prologue_Size.body (prologue_has : T_prologue_has) : T_prologue_Size := fun t906 t907 n908 k1 =>
  (cond_ (! (decide (n908 ≥ (((List.length t906.1) : Nat) : Int)))) (prologue_has t907.1 n908
  (fun b911 => (cond_ (! b911) (k1 (0 : Int)) (cond_ ((decide ((0 : Int) ≤ n908)) && (decide (n908 < (((List.length t906.1) : Nat) : Int)))) (cond_ (decide (n908 < (((List.length t907.2.1) : Nat) : Int))) (cond_ ((decide ((0 : Int) ≤ n908)) && (decide (n908 < (((List.length t907.2.1) : Nat) : Int)))) (cond_ ((List.getD t907.2.1 (Int.toNat n908) (0 : Int)) != (0 : Int)) (k1 (IntKind.wrap .i64 ((IntKind.wrap .i64 ((1 : Int) + (((List.length (List.getD t906.1 (Int.toNat n908) (0, (0, ((⟨#[]⟩ : ByteArray), (0, ([], (0, (false, (0, (0, ([], ([], ([], ([], ())))))))))))))).2.2.2.2.2.2.2.2.2.2.1) : Nat) : Int))) + (1 : Int)))) (k1 (IntKind.wrap .i64 ((1 : Int) + (((List.length (List.getD t906.1 (Int.toNat n908) (0, (0, ((⟨#[]⟩ : ByteArray), (0, ([], (0, (false, (0, (0, ([], ([], ([], ([], ())))))))))))))).2.2.2.2.2.2.2.2.2.2.1) : Nat) : Int))))) none) (k1 (IntKind.wrap .i64 ((1 : Int) + (((List.length (List.getD t906.1 (Int.toNat n908) (0, (0, ((⟨#[]⟩ : ByteArray), (0, ([], (0, (false, (0, (0, ([], ([], ([], ([], ())))))))))))))).2.2.2.2.2.2.2.2.2.2.1) : Nat) : Int))))) none)))) (k1 (0 : Int)))
noncomputable def prologue_Size : T_prologue_Size := prologue_Size.body prologue_has
def prologue_Size.p : FPat := fp 42 (pl (pd Ty26) (pl (pd Ty6) (pl (pd (.int .i64)) pz))) pz
def prologue_Size.g (F : T_prologue_Size) (v : prologue_Size.p.T) (k : KR) : Option Bool := F v.1.1 v.1.2.1 v.1.2.2.1 (fun y0 => k (.d ⟨(.int .i64), y0⟩) [])
theorem prologue_Size.eq (F0 : T_prologue_has) : ∀ v k, exF Try.f42 prologue_Size.p [⟨prologue_has.p, prologue_has.g F0⟩] [] [] v k = prologue_Size.g (prologue_Size.body F0) v k := fun v k => by kernel_rfl
theorem prologue_Size.ok : okF 2 prologue_Size.p (prologue_Size.g prologue_Size) := fn2 (prologue_Size.eq prologue_has) Try.func42 (by kernel_rfl) (.cons prologue_has.ok .nil) [] (by kernel_rfl) .nil
/-- function 41: the loop in block 2 -/
abbrev T_table_rowsfn1_L0_L2 : Type := Int → Tc19 → Int → Int → Int → Int → Tc22 → Tc2 → Tc5 → Int → Int → ByteArray → Int → (List Int) → Int → Bool → Int → Int → (List (Int × Int × Unit)) → Tc8 → Tc1 → (List Int) → (Tc22 → Tc2 → Tc5 → Option Bool) → (Int → Tc19 → Int → Int → Tc22 → Tc2 → Tc5 → Int → Int → ByteArray → Int → (List Int) → Int → Bool → Int → Int → (List (Int × Int × Unit)) → Tc8 → Tc1 → (List Int) → Option Bool) → Option Bool
noncomputable def table_rowsfn1_L0_L2.body (table_rowsfn1_L0_L2 : T_table_rowsfn1_L0_L2) (table_Rows_round0v1 : T_table_Rows_round0v1) : T_table_rowsfn1_L0_L2 := fun n913 l914 n915 n916 n917 n918 t919 t920 ts921 n922 n923 s924 n925 l926 n927 b928 n929 n930 l931 l932 l933 l934 k1 k2 =>
  (cond_ (decide (n918 < n917)) (table_Rows_round0v1 (n913, (0, (false, (0, ())))) ts921
  (fun b935 ts936 => (cond_ (! b935) (k1 t919 t920 ts936) (table_rowsfn1_L0_L2 n913 l914 n915 n916 n917 (IntKind.wrap .i64 (n918 + (1 : Int))) t919 t920 ts936 n922 n923 s924 n925 l926 n927 b928 n929 n930 l931 l932 l933 l934 k1 k2)))) (k2 n913 l914 n915 n916 t919 t920 ts921 n922 n923 s924 n925 l926 n927 b928 n929 n930 l931 l932 l933 l934))
noncomputable def table_rowsfn1_L0_L2 : Nat → T_table_rowsfn1_L0_L2
  | 0 => fun _ _ _ _ _ _ _ _ _ _ _ _ _ _ _ _ _ _ _ _ _ _ _ _ => none
  | n + 1 => table_rowsfn1_L0_L2.body (table_rowsfn1_L0_L2 n) table_Rows_round0v1
def table_rowsfn1_L0_L2.p : LPat := lp 2 76 [0, 1, 2, 4, 6, 21, 22, 23, 41, 42] (ps (py 42949672960 (ps (pk 4) (ps (pk 4) (ps (pk 4) (ps (pk 4) (ps (pk 4) (ps (pq [0, 0] 0 0) (ps (pk 3) (ps (pk 4) (ps (pk 4) (ps (pk 4) (ps (pk 3) (ps (pk 3) (ps (pk 3) (ps (pk 3) (ps (pk 3) (ps (pk 4) pz))))))))))))))))) (ps (pq [0, 1] 0 0) (ps (pq [0, 2] 0 0) (pl (pd (.int .i64)) (ps (pq [1, 1] 0 0) (pl (pd Ty23) (pl (pd (.int .i64)) (pl (pd (.int .i64)) (pl (pd (.int .i64)) (pl (pd (.int .i64)) pz)))))))))) (ps (po [0, 0] 38 1 (em (ps (pr [1, 0]) pz))) (pl (po [0, 1] 31 3 (es Ty26 (pl eh pz))) (pl (po [0, 2] 26 2 (es Ty6 (pl eh pz))) (pl (po [1, 0] 47 4 (ed Ty9)) (pl (po [1, 1] 59 13 (em (pl (pa (pl (pd (.int .i64)) (pl (pd (.int .i64)) (pl (pd .str) (pl (pd (.int .i64)) (pl (pd Ty1) (pl (pd (.int .i64)) (pl (pd .bool) (pl (pd (.int .i64)) (pl (pd (.int .i64)) (pl (pd Ty5) (pl (pd Ty14) (pl (pd Ty8) (pl (pd Ty1) pz)))))))))))))) pz))) pz)))))
def table_rowsfn1_L0_L2.g (F : T_table_rowsfn1_L0_L2) (v : table_rowsfn1_L0_L2.p.T) (k : KE) : Option Bool := F v.1.1 v.1.2.1 v.1.2.2.1 v.1.2.2.2.1 v.1.2.2.2.2.1 v.1.2.2.2.2.2.1 v.2.1.1 v.2.2.1.1 v.2.2.2.1 v.2.2.2.2.1.1.1 v.2.2.2.2.1.1.2.1 v.2.2.2.2.1.1.2.2.1 v.2.2.2.2.1.1.2.2.2.1 v.2.2.2.2.1.1.2.2.2.2.1 v.2.2.2.2.1.1.2.2.2.2.2.1 v.2.2.2.2.1.1.2.2.2.2.2.2.1 v.2.2.2.2.1.1.2.2.2.2.2.2.2.1 v.2.2.2.2.1.1.2.2.2.2.2.2.2.2.1 v.2.2.2.2.1.1.2.2.2.2.2.2.2.2.2.1 v.2.2.2.2.1.1.2.2.2.2.2.2.2.2.2.2.1 v.2.2.2.2.1.1.2.2.2.2.2.2.2.2.2.2.2.1 v.2.2.2.2.1.1.2.2.2.2.2.2.2.2.2.2.2.2.1 (fun y0 y1 y2 => k .ret ⟨fillS 76 [] [], [([0, 0], ⟨38, 1, (.mix [(.ref [1, 0])])⟩), ([0, 1], ⟨31, 3, (.data Ty26 [y0])⟩), ([0, 2], ⟨26, 2, (.data Ty6 [y1])⟩), ([1, 0], ⟨47, 4, (.data Ty9 y2)⟩)], 2⟩) (fun y0 y1 y2 y3 y4 y5 y6 y7 y8 y9 y10 y11 y12 y13 y14 y15 y16 y17 y18 y19 => k (.exit 2) ⟨fillS 76 [0, 1, 2, 4, 6, 21, 22, 23] [(.fn (.yield 42949672960) [] [.top, .top, .top, .top, .top, (.ptr [0, 0] 0 0), .undef, .top, .top, .top, .undef, .undef, .undef, .undef, .undef, .top]), (.ptr [0, 1] 0 0), (.ptr [0, 2] 0 0), (.d ⟨(.int .i64), y0⟩), (.ptr [1, 1] 0 0), (.d ⟨Ty23, y1⟩), (.d ⟨(.int .i64), y2⟩), (.d ⟨(.int .i64), y3⟩)], [([0, 0], ⟨38, 1, (.mix [(.ref [1, 0])])⟩), ([0, 1], ⟨31, 3, (.data Ty26 [y4])⟩), ([0, 2], ⟨26, 2, (.data Ty6 [y5])⟩), ([1, 0], ⟨47, 4, (.data Ty9 y6)⟩), ([1, 1], ⟨59, 13, (.mix [(.agg [(.d ⟨(.int .i64), y7⟩), (.d ⟨(.int .i64), y8⟩), (.d ⟨.str, y9⟩), (.d ⟨(.int .i64), y10⟩), (.d ⟨Ty1, y11⟩), (.d ⟨(.int .i64), y12⟩), (.d ⟨.bool, y13⟩), (.d ⟨(.int .i64), y14⟩), (.d ⟨(.int .i64), y15⟩), (.d ⟨Ty5, y16⟩), (.d ⟨Ty14, y17⟩), (.d ⟨Ty8, y18⟩), (.d ⟨Ty1, y19⟩)])])⟩)], 2⟩)
theorem table_rowsfn1_L0_L2.step (S : T_table_rowsfn1_L0_L2) (F0 : T_table_Rows_round0v1) : ∀ v k, exR 41 Try.f41 2 table_rowsfn1_L0_L2.p [⟨table_Rows_round0v1.p, table_Rows_round0v1.g F0⟩] [] [] (table_rowsfn1_L0_L2.g S) v k = table_rowsfn1_L0_L2.g (table_rowsfn1_L0_L2.body S F0) v k := fun v k => by kernel_rfl
theorem table_rowsfn1_L0_L2.ok : okL 41 Try.f41 1 2 table_rowsfn1_L0_L2.p (table_rowsfn1_L0_L2.g (table_rowsfn1_L0_L2 ROUNDS)) := loop2 (G := fun n => table_rowsfn1_L0_L2.g (table_rowsfn1_L0_L2 n)) (fun n => table_rowsfn1_L0_L2.step (table_rowsfn1_L0_L2 n) table_Rows_round0v1) (.cons table_Rows_round0v1.ok .nil) [] (by kernel_rfl) .nil (fun _ _ => rfl)
/-- function 60: sheerleg/num.Near -/
abbrev T_num_Near : Type := Int → Int → Int → (Int → Option Bool) → Option Bool
noncomputable def num_Near.body : T_num_Near := fun n961 n962 n963 k1 =>
  (cond_ (decide (n961 < n962)) (k1 n962) (cond_ (decide (n961 > n963)) (k1 n963) (k1 n961)))
noncomputable def num_Near : T_num_Near := num_Near.body
def num_Near.p : FPat := fp 60 (pl (pd (.int .i64)) (pl (pd (.int .i64)) (pl (pd (.int .i64)) pz))) pz
def num_Near.g (F : T_num_Near) (v : num_Near.p.T) (k : KR) : Option Bool := F v.1.1 v.1.2.1 v.1.2.2.1 (fun y0 => k (.d ⟨(.int .i64), y0⟩) [])
theorem num_Near.eq : ∀ v k, exF Try.f60 num_Near.p [] [] [] v k = num_Near.g (num_Near.body) v k := fun v k => by kernel_rfl
theorem num_Near.ok : okF 1 num_Near.p (num_Near.g num_Near) := fn2 (num_Near.eq) Try.func60 (by kernel_rfl) .nil [] (by kernel_rfl) .nil
/-- function 43: sheerleg/fun.Frame -/
abbrev T_fun_Frame : Type := Tc16 → (Int → Option Bool) → Option Bool
noncomputable def fun_Frame.body (num_Near : T_num_Near) : T_fun_Frame := fun t960 k1 =>
  (num_Near t960.2.2.1 (0 : Int) (1048576 : Int)
  (fun n964 => (k1 (IntKind.wrap .i64 ((((List.length t960.2.1) : Nat) : Int) + n964)))))
noncomputable def fun_Frame : T_fun_Frame := fun_Frame.body num_Near
def fun_Frame.p : FPat := fp 43 (pl (pd Ty20) pz) pz
def fun_Frame.g (F : T_fun_Frame) (v : fun_Frame.p.T) (k : KR) : Option Bool := F v.1.1 (fun y0 => k (.d ⟨(.int .i64), y0⟩) [])
theorem fun_Frame.eq (F0 : T_num_Near) : ∀ v k, exF Try.f43 fun_Frame.p [⟨num_Near.p, num_Near.g F0⟩] [] [] v k = fun_Frame.g (fun_Frame.body F0) v k := fun v k => by kernel_rfl
theorem fun_Frame.ok : okF 2 fun_Frame.p (fun_Frame.g fun_Frame) := fn2 (fun_Frame.eq num_Near) Try.func43 (by kernel_rfl) (.cons num_Near.ok .nil) [] (by kernel_rfl) .nil
/-- function 44: sheerleg/ranges.In -/
abbrev T_ranges_In : Type := Tc16 → Int → (Bool → Option Bool) → Option Bool
noncomputable def ranges_In.body : T_ranges_In := fun t989 n990 k1 =>
  (cond_ (decide (t989.2.2.2.2.1 ≤ n990)) (k1 (decide (n990 < t989.2.2.2.2.2.1))) (k1 false))
noncomputable def ranges_In : T_ranges_In := ranges_In.body
def ranges_In.p : FPat := fp 44 (pl (pd Ty20) (pl (pd (.int .i64)) pz)) pz
def ranges_In.g (F : T_ranges_In) (v : ranges_In.p.T) (k : KR) : Option Bool := F v.1.1 v.1.2.1 (fun y0 => k (.d ⟨.bool, y0⟩) [])
theorem ranges_In.eq : ∀ v k, exF Try.f44 ranges_In.p [] [] [] v k = ranges_In.g (ranges_In.body) v k := fun v k => by kernel_rfl
theorem ranges_In.ok : okF 1 ranges_In.p (ranges_In.g ranges_In) := fn2 (ranges_In.eq) Try.func44 (by kernel_rfl) .nil [] (by kernel_rfl) .nil
/-- function 45: the loop in block 0 -/
abbrev T_fun_Line_L0 : Type := Int → Int → (List (Int × Int × Unit)) → Int → Int → (Int → Option Bool) → Option Bool
noncomputable def fun_Line_L0.body (fun_Line_L0 : T_fun_Line_L0) : T_fun_Line_L0 := fun n994 n995 l996 n997 n998 k1 =>
  (cond_ (decide (n998 < n997)) (cond_ ((decide ((0 : Int) ≤ n998)) && (decide (n998 < (List.length l996 : Int)))) (cond_ (decide ((List.getD l996 (Int.toNat n998) (0, (0, ()))).1 > n994)) (k1 n995) (fun_Line_L0 n994 (List.getD l996 (Int.toNat n998) (0, (0, ()))).2.1 l996 n997 (IntKind.wrap .i64 (n998 + (1 : Int))) k1)) none) (k1 n995))
noncomputable def fun_Line_L0 : Nat → T_fun_Line_L0
  | 0 => fun _ _ _ _ _ _ => none
  | n + 1 => fun_Line_L0.body (fun_Line_L0 n)
def fun_Line_L0.p : LPat := lp 2 23 [1, 5, 9, 10, 11] (pl (pd (.int .i64)) (pl (pd (.int .i64)) (pl (pd Ty5) (pl (pd (.int .i64)) (pl (pd (.int .i64)) pz))))) pz
def fun_Line_L0.g (F : T_fun_Line_L0) (v : fun_Line_L0.p.T) (k : KE) : Option Bool := F v.1.1 v.1.2.1 v.1.2.2.1 v.1.2.2.2.1 v.1.2.2.2.2.1 (fun y0 => k (.exit 0) ⟨fillS 23 [5] [(.d ⟨(.int .i64), y0⟩)], [], 2⟩)
theorem fun_Line_L0.step (S : T_fun_Line_L0) : ∀ v k, exR 45 Try.f45 0 fun_Line_L0.p [] [] [] (fun_Line_L0.g S) v k = fun_Line_L0.g (fun_Line_L0.body S) v k := fun v k => by kernel_rfl
theorem fun_Line_L0.ok : okL 45 Try.f45 0 0 fun_Line_L0.p (fun_Line_L0.g (fun_Line_L0 ROUNDS)) := loop2 (G := fun n => fun_Line_L0.g (fun_Line_L0 n)) (fun n => fun_Line_L0.step (fun_Line_L0 n)) .nil [] (by kernel_rfl) .nil (fun _ _ => rfl)
/-- function 45: sheerleg/fun.Line -/
abbrev T_fun_Line : Type := Tc16 → Int → (Int → Option Bool) → Option Bool
noncomputable def fun_Line.body (fun_Line_L0 : T_fun_Line_L0) : T_fun_Line := fun t992 n993 k1 =>
  (fun_Line_L0 n993 (0 : Int) t992.2.2.2.2.2.2.1 (((List.length t992.2.2.2.2.2.2.1) : Nat) : Int) (0 : Int)
  (fun n999 => (k1 n999)))
noncomputable def fun_Line : T_fun_Line := fun_Line.body (fun_Line_L0 ROUNDS)
def fun_Line.p : FPat := fp 45 (pl (pd Ty20) (pl (pd (.int .i64)) pz)) pz
def fun_Line.g (F : T_fun_Line) (v : fun_Line.p.T) (k : KR) : Option Bool := F v.1.1 v.1.2.1 (fun y0 => k (.d ⟨(.int .i64), y0⟩) [])
theorem fun_Line.eq (L0 : T_fun_Line_L0) : ∀ v k, exF Try.f45 fun_Line.p [] [] [⟨0, fun_Line_L0.p, fun_Line_L0.g L0⟩] v k = fun_Line.g (fun_Line.body L0) v k := fun v k => by kernel_rfl
theorem fun_Line.ok : okF 1 fun_Line.p (fun_Line.g fun_Line) := fn2 (fun_Line.eq (fun_Line_L0 ROUNDS)) Try.func45 (by kernel_rfl) .nil [0] (by kernel_rfl) (.cons fun_Line_L0.ok .nil)
/-- function 41: the loop in block 4 -/
abbrev T_table_rowsfn1_L0_L4 : Type := Int → Int → Tc19 → Int → Int → Int → Int → Tc22 → Tc2 → Tc5 → Int → Int → ByteArray → Int → (List Int) → Int → Bool → Int → Int → (List (Int × Int × Unit)) → Tc8 → Tc1 → (List Int) → (Tc22 → Tc2 → Tc5 → Option Bool) → (Int → Tc19 → Int → Int → Tc22 → Tc2 → Tc5 → Option Bool) → Option Bool
noncomputable def table_rowsfn1_L0_L4.body (table_rowsfn1_L0_L4 : T_table_rowsfn1_L0_L4) (ranges_In : T_ranges_In) (fun_Line : T_fun_Line) (table_Rows_round0v1 : T_table_Rows_round0v1) : T_table_rowsfn1_L0_L4 := fun n966 n967 l968 n969 n970 n971 n972 t973 t974 ts975 n976 n977 s978 n979 l980 n981 b982 n983 n984 l985 l986 l987 l988 k1 k2 =>
  (cond_ (decide (n972 < n971)) (ranges_In (n979, (l980, (n981, (b982, (n983, (n984, (l985, (l986, (l987, ()))))))))) n972
  (fun b991 => (fun_Line (n979, (l980, (n981, (b982, (n983, (n984, (l985, (l986, (l987, ()))))))))) n972
  (fun n1000 => (table_Rows_round0v1 (n966, (n967, (b991, (n1000, ())))) ts975
  (fun b1001 ts1002 => (cond_ (! b1001) (k1 t973 t974 ts1002) (table_rowsfn1_L0_L4 n966 n967 l968 n969 n970 n971 (IntKind.wrap .i64 (n972 + (1 : Int))) t973 t974 ts1002 n976 n977 s978 n979 l980 n981 b982 n983 n984 l985 l986 l987 l988 k1 k2)))))))) (k2 n966 l968 n969 n970 t973 t974 ts975))
noncomputable def table_rowsfn1_L0_L4 : Nat → T_table_rowsfn1_L0_L4
  | 0 => fun _ _ _ _ _ _ _ _ _ _ _ _ _ _ _ _ _ _ _ _ _ _ _ _ _ => none
  | n + 1 => table_rowsfn1_L0_L4.body (table_rowsfn1_L0_L4 n) ranges_In fun_Line table_Rows_round0v1
def table_rowsfn1_L0_L4.p : LPat := lp 2 76 [0, 1, 2, 4, 6, 8, 21, 22, 23, 56, 57] (ps (py 42949672960 (ps (pk 4) (ps (pk 4) (ps (pk 4) (ps (pk 4) (ps (pk 4) (ps (pq [0, 0] 0 0) (ps (pk 3) (ps (pk 4) (ps (pk 4) (ps (pk 4) (ps (pk 3) (ps (pk 3) (ps (pk 3) (ps (pk 3) (ps (pk 3) (ps (pk 4) pz))))))))))))))))) (ps (pq [0, 1] 0 0) (ps (pq [0, 2] 0 0) (pl (pd (.int .i64)) (ps (pq [1, 1] 0 0) (pl (pd (.int .i64)) (pl (pd Ty23) (pl (pd (.int .i64)) (pl (pd (.int .i64)) (pl (pd (.int .i64)) (pl (pd (.int .i64)) pz))))))))))) (ps (po [0, 0] 38 1 (em (ps (pr [1, 0]) pz))) (pl (po [0, 1] 31 3 (es Ty26 (pl eh pz))) (pl (po [0, 2] 26 2 (es Ty6 (pl eh pz))) (pl (po [1, 0] 47 4 (ed Ty9)) (pl (po [1, 1] 59 13 (em (pl (pa (pl (pd (.int .i64)) (pl (pd (.int .i64)) (pl (pd .str) (pl (pd (.int .i64)) (pl (pd Ty1) (pl (pd (.int .i64)) (pl (pd .bool) (pl (pd (.int .i64)) (pl (pd (.int .i64)) (pl (pd Ty5) (pl (pd Ty14) (pl (pd Ty8) (pl (pd Ty1) pz)))))))))))))) pz))) pz)))))
def table_rowsfn1_L0_L4.g (F : T_table_rowsfn1_L0_L4) (v : table_rowsfn1_L0_L4.p.T) (k : KE) : Option Bool := F v.1.1 v.1.2.1 v.1.2.2.1 v.1.2.2.2.1 v.1.2.2.2.2.1 v.1.2.2.2.2.2.1 v.1.2.2.2.2.2.2.1 v.2.1.1 v.2.2.1.1 v.2.2.2.1 v.2.2.2.2.1.1.1 v.2.2.2.2.1.1.2.1 v.2.2.2.2.1.1.2.2.1 v.2.2.2.2.1.1.2.2.2.1 v.2.2.2.2.1.1.2.2.2.2.1 v.2.2.2.2.1.1.2.2.2.2.2.1 v.2.2.2.2.1.1.2.2.2.2.2.2.1 v.2.2.2.2.1.1.2.2.2.2.2.2.2.1 v.2.2.2.2.1.1.2.2.2.2.2.2.2.2.1 v.2.2.2.2.1.1.2.2.2.2.2.2.2.2.2.1 v.2.2.2.2.1.1.2.2.2.2.2.2.2.2.2.2.1 v.2.2.2.2.1.1.2.2.2.2.2.2.2.2.2.2.2.1 v.2.2.2.2.1.1.2.2.2.2.2.2.2.2.2.2.2.2.1 (fun y0 y1 y2 => k .ret ⟨fillS 76 [] [], [([0, 0], ⟨38, 1, (.mix [(.ref [1, 0])])⟩), ([0, 1], ⟨31, 3, (.data Ty26 [y0])⟩), ([0, 2], ⟨26, 2, (.data Ty6 [y1])⟩), ([1, 0], ⟨47, 4, (.data Ty9 y2)⟩)], 2⟩) (fun y0 y1 y2 y3 y4 y5 y6 => k (.exit 4) ⟨fillS 76 [0, 1, 2, 4, 21, 22, 23] [(.fn (.yield 42949672960) [] [.top, .top, .top, .top, .top, (.ptr [0, 0] 0 0), .undef, .top, .top, .top, .undef, .undef, .undef, .undef, .undef, .top]), (.ptr [0, 1] 0 0), (.ptr [0, 2] 0 0), (.d ⟨(.int .i64), y0⟩), (.d ⟨Ty23, y1⟩), (.d ⟨(.int .i64), y2⟩), (.d ⟨(.int .i64), y3⟩)], [([0, 0], ⟨38, 1, (.mix [(.ref [1, 0])])⟩), ([0, 1], ⟨31, 3, (.data Ty26 [y4])⟩), ([0, 2], ⟨26, 2, (.data Ty6 [y5])⟩), ([1, 0], ⟨47, 4, (.data Ty9 y6)⟩)], 2⟩)
theorem table_rowsfn1_L0_L4.step (S : T_table_rowsfn1_L0_L4) (F0 : T_ranges_In) (F1 : T_fun_Line) (F2 : T_table_Rows_round0v1) : ∀ v k, exR 41 Try.f41 4 table_rowsfn1_L0_L4.p [⟨ranges_In.p, ranges_In.g F0⟩, ⟨fun_Line.p, fun_Line.g F1⟩, ⟨table_Rows_round0v1.p, table_Rows_round0v1.g F2⟩] [] [] (table_rowsfn1_L0_L4.g S) v k = table_rowsfn1_L0_L4.g (table_rowsfn1_L0_L4.body S F0 F1 F2) v k := fun v k => by kernel_rfl
theorem table_rowsfn1_L0_L4.ok : okL 41 Try.f41 1 4 table_rowsfn1_L0_L4.p (table_rowsfn1_L0_L4.g (table_rowsfn1_L0_L4 ROUNDS)) := loop2 (G := fun n => table_rowsfn1_L0_L4.g (table_rowsfn1_L0_L4 n)) (fun n => table_rowsfn1_L0_L4.step (table_rowsfn1_L0_L4 n) ranges_In fun_Line table_Rows_round0v1) (.cons ranges_In.ok (.cons fun_Line.ok (.cons table_Rows_round0v1.ok .nil))) [] (by kernel_rfl) .nil (fun _ _ => rfl)
/-- function 41: the loop in block 0 -/
abbrev T_table_rowsfn1_L0 : Type := Int → Tc19 → Int → Int → Tc22 → Tc2 → Tc5 → (Tc22 → Tc2 → Tc5 → Option Bool) → (Tc22 → Tc2 → Tc5 → Option Bool) → Option Bool
noncomputable def table_rowsfn1_L0.body (table_rowsfn1_L0 : T_table_rowsfn1_L0) (prologue_Size : T_prologue_Size) (fun_Frame : T_fun_Frame) (table_rowsfn1_L0_L2 : T_table_rowsfn1_L0_L2) (table_rowsfn1_L0_L4 : T_table_rowsfn1_L0_L4) : T_table_rowsfn1_L0 := fun n899 l900 n901 n902 t903 t904 ts905 k1 k2 =>
  (cond_ (decide (n902 < n901)) (cond_ ((decide ((0 : Int) ≤ n902)) && (decide (n902 < (List.length l900 : Int)))) (prologue_Size t903 t904 n902
  (fun n912 => (cond_ (n912 == (0 : Int)) (table_rowsfn1_L0 n899 l900 n901 (IntKind.wrap .i64 (n902 + (1 : Int))) t903 t904 ts905 k1 k2) (table_rowsfn1_L0_L2 (IntKind.wrap .i64 (n899 + (1 : Int))) l900 n901 n902 (IntKind.wrap .i64 (n912 - (((List.length (List.getD l900 (Int.toNat n902) (0, (0, ((⟨#[]⟩ : ByteArray), (0, ([], (0, (false, (0, (0, ([], ([], ([], ([], ())))))))))))))).2.2.2.2.2.2.2.2.2.2.1) : Nat) : Int))) (0 : Int) t903 t904 ts905 (List.getD l900 (Int.toNat n902) (0, (0, ((⟨#[]⟩ : ByteArray), (0, ([], (0, (false, (0, (0, ([], ([], ([], ([], ())))))))))))))).1 (List.getD l900 (Int.toNat n902) (0, (0, ((⟨#[]⟩ : ByteArray), (0, ([], (0, (false, (0, (0, ([], ([], ([], ([], ())))))))))))))).2.1 (List.getD l900 (Int.toNat n902) (0, (0, ((⟨#[]⟩ : ByteArray), (0, ([], (0, (false, (0, (0, ([], ([], ([], ([], ())))))))))))))).2.2.1 (List.getD l900 (Int.toNat n902) (0, (0, ((⟨#[]⟩ : ByteArray), (0, ([], (0, (false, (0, (0, ([], ([], ([], ([], ())))))))))))))).2.2.2.1 (List.getD l900 (Int.toNat n902) (0, (0, ((⟨#[]⟩ : ByteArray), (0, ([], (0, (false, (0, (0, ([], ([], ([], ([], ())))))))))))))).2.2.2.2.1 (List.getD l900 (Int.toNat n902) (0, (0, ((⟨#[]⟩ : ByteArray), (0, ([], (0, (false, (0, (0, ([], ([], ([], ([], ())))))))))))))).2.2.2.2.2.1 (List.getD l900 (Int.toNat n902) (0, (0, ((⟨#[]⟩ : ByteArray), (0, ([], (0, (false, (0, (0, ([], ([], ([], ([], ())))))))))))))).2.2.2.2.2.2.1 (List.getD l900 (Int.toNat n902) (0, (0, ((⟨#[]⟩ : ByteArray), (0, ([], (0, (false, (0, (0, ([], ([], ([], ([], ())))))))))))))).2.2.2.2.2.2.2.1 (List.getD l900 (Int.toNat n902) (0, (0, ((⟨#[]⟩ : ByteArray), (0, ([], (0, (false, (0, (0, ([], ([], ([], ([], ())))))))))))))).2.2.2.2.2.2.2.2.1 (List.getD l900 (Int.toNat n902) (0, (0, ((⟨#[]⟩ : ByteArray), (0, ([], (0, (false, (0, (0, ([], ([], ([], ([], ())))))))))))))).2.2.2.2.2.2.2.2.2.1 (List.getD l900 (Int.toNat n902) (0, (0, ((⟨#[]⟩ : ByteArray), (0, ([], (0, (false, (0, (0, ([], ([], ([], ([], ())))))))))))))).2.2.2.2.2.2.2.2.2.2.1 (List.getD l900 (Int.toNat n902) (0, (0, ((⟨#[]⟩ : ByteArray), (0, ([], (0, (false, (0, (0, ([], ([], ([], ([], ())))))))))))))).2.2.2.2.2.2.2.2.2.2.2.1 (List.getD l900 (Int.toNat n902) (0, (0, ((⟨#[]⟩ : ByteArray), (0, ([], (0, (false, (0, (0, ([], ([], ([], ([], ())))))))))))))).2.2.2.2.2.2.2.2.2.2.2.2.1
  (fun t937 t938 ts939 => (k1 t937 t938 ts939))
  (fun n940 l941 n942 n943 t944 t945 ts946 n947 n948 s949 n950 l951 n952 b953 n954 n955 l956 l957 l958 l959 => (fun_Frame (n950, (l951, (n952, (b953, (n954, (n955, (l956, (l957, (l958, ())))))))))
  (fun n965 => (table_rowsfn1_L0_L4 n940 n965 l941 n942 n943 (List.length l957 : Int) (0 : Int) t944 t945 ts946 n947 n948 s949 n950 l951 n952 b953 n954 n955 l956 l957 l958 l959
  (fun t1003 t1004 ts1005 => (k1 t1003 t1004 ts1005))
  (fun n1006 l1007 n1008 n1009 t1010 t1011 ts1012 => (table_rowsfn1_L0 n1006 l1007 n1008 (IntKind.wrap .i64 (n1009 + (1 : Int))) t1010 t1011 ts1012 k1 k2)))))))))) none) (k2 t903 t904 ts905))
noncomputable def table_rowsfn1_L0 : Nat → T_table_rowsfn1_L0
  | 0 => fun _ _ _ _ _ _ _ _ _ => none
  | n + 1 => table_rowsfn1_L0.body (table_rowsfn1_L0 n) prologue_Size fun_Frame (table_rowsfn1_L0_L2 ROUNDS) (table_rowsfn1_L0_L4 ROUNDS)
def table_rowsfn1_L0.p : LPat := lp 2 76 [0, 1, 2, 4, 21, 22, 23] (ps (py 42949672960 (ps (pk 4) (ps (pk 4) (ps (pk 4) (ps (pk 4) (ps (pk 4) (ps (pq [0, 0] 0 0) (ps (pk 3) (ps (pk 4) (ps (pk 4) (ps (pk 4) (ps (pk 3) (ps (pk 3) (ps (pk 3) (ps (pk 3) (ps (pk 3) (ps (pk 4) pz))))))))))))))))) (ps (pq [0, 1] 0 0) (ps (pq [0, 2] 0 0) (pl (pd (.int .i64)) (pl (pd Ty23) (pl (pd (.int .i64)) (pl (pd (.int .i64)) pz))))))) (ps (po [0, 0] 38 1 (em (ps (pr [1, 0]) pz))) (pl (po [0, 1] 31 3 (es Ty26 (pl eh pz))) (pl (po [0, 2] 26 2 (es Ty6 (pl eh pz))) (pl (po [1, 0] 47 4 (ed Ty9)) pz))))
def table_rowsfn1_L0.g (F : T_table_rowsfn1_L0) (v : table_rowsfn1_L0.p.T) (k : KE) : Option Bool := F v.1.1 v.1.2.1 v.1.2.2.1 v.1.2.2.2.1 v.2.1.1 v.2.2.1.1 v.2.2.2.1 (fun y0 y1 y2 => k .ret ⟨fillS 76 [] [], [([0, 0], ⟨38, 1, (.mix [(.ref [1, 0])])⟩), ([0, 1], ⟨31, 3, (.data Ty26 [y0])⟩), ([0, 2], ⟨26, 2, (.data Ty6 [y1])⟩), ([1, 0], ⟨47, 4, (.data Ty9 y2)⟩)], 2⟩) (fun y0 y1 y2 => k (.exit 0) ⟨fillS 76 [] [], [([0, 0], ⟨38, 1, (.mix [(.ref [1, 0])])⟩), ([0, 1], ⟨31, 3, (.data Ty26 [y0])⟩), ([0, 2], ⟨26, 2, (.data Ty6 [y1])⟩), ([1, 0], ⟨47, 4, (.data Ty9 y2)⟩)], 2⟩)
theorem table_rowsfn1_L0.step (S : T_table_rowsfn1_L0) (F0 : T_prologue_Size) (F1 : T_fun_Frame) (L0 : T_table_rowsfn1_L0_L2) (L1 : T_table_rowsfn1_L0_L4) : ∀ v k, exR 41 Try.f41 0 table_rowsfn1_L0.p [⟨prologue_Size.p, prologue_Size.g F0⟩, ⟨fun_Frame.p, fun_Frame.g F1⟩] [] [⟨2, table_rowsfn1_L0_L2.p, table_rowsfn1_L0_L2.g L0⟩, ⟨4, table_rowsfn1_L0_L4.p, table_rowsfn1_L0_L4.g L1⟩] (table_rowsfn1_L0.g S) v k = table_rowsfn1_L0.g (table_rowsfn1_L0.body S F0 F1 L0 L1) v k := fun v k => by kernel_rfl
theorem table_rowsfn1_L0.ok : okL 41 Try.f41 2 0 table_rowsfn1_L0.p (table_rowsfn1_L0.g (table_rowsfn1_L0 ROUNDS)) := loop2 (G := fun n => table_rowsfn1_L0.g (table_rowsfn1_L0 n)) (fun n => table_rowsfn1_L0.step (table_rowsfn1_L0 n) prologue_Size fun_Frame (table_rowsfn1_L0_L2 ROUNDS) (table_rowsfn1_L0_L4 ROUNDS)) (.cons prologue_Size.ok (.cons fun_Frame.ok .nil)) [2, 4] (by kernel_rfl) (.cons table_rowsfn1_L0_L2.ok (.cons table_rowsfn1_L0_L4.ok .nil)) (fun _ _ => rfl)
/-- function 41: sheerleg/table.rows$1 -/
abbrev T_table_rowsfn1 : Type := Tc22 → Tc2 → (Tc22 → Tc2 → Tc5 → Option Bool) → Option Bool
noncomputable def table_rowsfn1.body (table_Rows_round0 : T_table_Rows_round0) (table_Rows_round0v1 : T_table_Rows_round0v1) (table_rowsfn1_L0 : T_table_rowsfn1_L0) : T_table_rowsfn1 := fun t890 t891 k1 =>
  (table_Rows_round0 (0, (0, (false, (0, ()))))
  (fun b893 ts894 => (cond_ (! (! b893)) (table_Rows_round0v1 (0, (0, (false, (0, ())))) ts894
  (fun b897 ts898 => (cond_ (! b897) (k1 t890 t891 ts898) (table_rowsfn1_L0 (0 : Int) t890.1 (((List.length t890.1) : Nat) : Int) (0 : Int) t890 t891 ts898
  (fun t1013 t1014 ts1015 => (k1 t1013 t1014 ts1015))
  (fun t1016 t1017 ts1018 => (k1 t1016 t1017 ts1018)))))) (k1 t890 t891 ts894))))
noncomputable def table_rowsfn1 : T_table_rowsfn1 := table_rowsfn1.body table_Rows_round0 table_Rows_round0v1 (table_rowsfn1_L0 ROUNDS)
def table_rowsfn1.p : FPat := fp 41 (ps (py 42949672960 (ps (pk 4) (ps (pk 4) (ps (pk 4) (ps (pk 4) (ps (pk 4) (ps (pq [0, 0] 0 0) (ps (pk 3) (ps (pk 4) (ps (pk 4) (ps (pk 4) (ps (pk 3) (ps (pk 3) (ps (pk 3) (ps (pk 3) (ps (pk 3) (ps (pk 4) pz))))))))))))))))) (ps (pq [0, 1] 0 0) (ps (pq [0, 2] 0 0) pz))) (ps (po [0, 0] 38 1 (em (ps (pk 0) pz))) (pl (po [0, 1] 31 3 (es Ty26 (pl eh pz))) (pl (po [0, 2] 26 2 (es Ty6 (pl eh pz))) pz)))
def table_rowsfn1.g (F : T_table_rowsfn1) (v : table_rowsfn1.p.T) (k : KR) : Option Bool := F v.2.1.1 v.2.2.1.1 (fun y0 y1 y2 => k (.tup []) [([0, 0], ⟨38, 1, (.mix [(.ref [1, 0])])⟩), ([0, 1], ⟨31, 3, (.data Ty26 [y0])⟩), ([0, 2], ⟨26, 2, (.data Ty6 [y1])⟩), ([1, 0], ⟨47, 4, (.data Ty9 y2)⟩)])
theorem table_rowsfn1.eq (F0 : T_table_Rows_round0) (F1 : T_table_Rows_round0v1) (L0 : T_table_rowsfn1_L0) : ∀ v k, exF Try.f41 table_rowsfn1.p [⟨table_Rows_round0.p, table_Rows_round0.g F0⟩, ⟨table_Rows_round0v1.p, table_Rows_round0v1.g F1⟩] [] [⟨0, table_rowsfn1_L0.p, table_rowsfn1_L0.g L0⟩] v k = table_rowsfn1.g (table_rowsfn1.body F0 F1 L0) v k := fun v k => by kernel_rfl
theorem table_rowsfn1.ok : okF 3 table_rowsfn1.p (table_rowsfn1.g table_rowsfn1) := fn2 (table_rowsfn1.eq table_Rows_round0 table_Rows_round0v1 (table_rowsfn1_L0 ROUNDS)) Try.func41 (by kernel_rfl) (.cons table_Rows_round0.ok (.cons table_Rows_round0v1.ok .nil)) [0] (by kernel_rfl) (.cons table_rowsfn1_L0.ok .nil)
/-- function 10: sheerleg/table.Rows -/
abbrev T_table_Rows : Type := Tc22 → Tc2 → (Tc5 → Option Bool) → Option Bool
noncomputable def table_Rows.body (table_rows : T_table_rows) (table_rowsfn1 : T_table_rowsfn1) : T_table_Rows := fun t884 t885 k1 =>
  (table_rows t884 t885
  (fun t888 t889 => (table_rowsfn1 t888 t889
  (fun t1019 t1020 ts1021 => (k1 ts1021)))))
noncomputable def table_Rows : T_table_Rows := table_Rows.body table_rows table_rowsfn1
def table_Rows.p : FPat := fp 10 (pl (pd Ty26) (pl (pd Ty6) pz)) pz
def table_Rows.g (F : T_table_Rows) (v : table_Rows.p.T) (k : KR) : Option Bool := F v.1.1 v.1.2.1 (fun y0 => k (.ref [1, 0]) [([1, 0], ⟨47, 4, (.data Ty9 y0)⟩)])
theorem table_Rows.eq (F0 : T_table_rows) (F1 : T_table_rowsfn1) : ∀ v k, exF Try.f10 table_Rows.p [⟨table_rows.p, table_rows.g F0⟩, ⟨table_rowsfn1.p, table_rowsfn1.g F1⟩] [] [] v k = table_Rows.g (table_Rows.body F0 F1) v k := fun v k => by kernel_rfl
theorem table_Rows.ok : okF 4 table_Rows.p (table_Rows.g table_Rows) := fn2 (table_Rows.eq table_rows table_rowsfn1) Try.func10 (by kernel_rfl) (.cons table_rows.ok (.cons table_rowsfn1.ok .nil)) [] (by kernel_rfl) .nil
/-- function 29: sheerleg/sheerlegref28.Kept -/
abbrev T_ref28_Kept : Type := Tc22 → Tc2 → Int → (Bool → Option Bool) → Option Bool
noncomputable def ref28_Kept.body : T_ref28_Kept := fun t1030 t1031 n1032 k1 =>
  (cond_ (decide (n1032 ≥ (0 : Int))) (cond_ (decide (n1032 < (((List.length t1030.1) : Nat) : Int))) (cond_ (decide (n1032 < (((List.length t1031.1) : Nat) : Int))) (cond_ ((decide ((0 : Int) ≤ n1032)) && (decide (n1032 < (((List.length t1031.1) : Nat) : Int)))) (k1 (List.getD t1031.1 (Int.toNat n1032) false)) none) (k1 false)) (k1 false)) (k1 false))
noncomputable def ref28_Kept : T_ref28_Kept := ref28_Kept.body
def ref28_Kept.p : FPat := fp 29 (pl (pd Ty26) (pl (pd Ty6) (pl (pd (.int .i64)) pz))) pz
def ref28_Kept.g (F : T_ref28_Kept) (v : ref28_Kept.p.T) (k : KR) : Option Bool := F v.1.1 v.1.2.1 v.1.2.2.1 (fun y0 => k (.d ⟨.bool, y0⟩) [])
theorem ref28_Kept.eq : ∀ v k, exF Try.f29 ref28_Kept.p [] [] [] v k = ref28_Kept.g (ref28_Kept.body) v k := fun v k => by kernel_rfl
theorem ref28_Kept.ok : okF 1 ref28_Kept.p (ref28_Kept.g ref28_Kept) := fn2 (ref28_Kept.eq) Try.func29 (by kernel_rfl) .nil [] (by kernel_rfl) .nil
/-- function 46: sheerleg/sheerlegref28.Check -/
abbrev T_ref28_Check : Type := Tc2 → Int → (Int → Option Bool) → Option Bool
noncomputable def ref28_Check.body : T_ref28_Check := fun t1053 n1054 k1 =>
  (cond_ (! (decide (n1054 < (0 : Int)))) (cond_ (decide (n1054 ≥ (((List.length t1053.2.1) : Nat) : Int))) (k1 (0 : Int)) (cond_ ((decide ((0 : Int) ≤ n1054)) && (decide (n1054 < (((List.length t1053.2.1) : Nat) : Int)))) (k1 (List.getD t1053.2.1 (Int.toNat n1054) (0 : Int))) none)) (k1 (0 : Int)))
noncomputable def ref28_Check : T_ref28_Check := ref28_Check.body
def ref28_Check.p : FPat := fp 46 (pl (pd Ty6) (pl (pd (.int .i64)) pz)) pz
def ref28_Check.g (F : T_ref28_Check) (v : ref28_Check.p.T) (k : KR) : Option Bool := F v.1.1 v.1.2.1 (fun y0 => k (.d ⟨(.int .i64), y0⟩) [])
theorem ref28_Check.eq : ∀ v k, exF Try.f46 ref28_Check.p [] [] [] v k = ref28_Check.g (ref28_Check.body) v k := fun v k => by kernel_rfl
theorem ref28_Check.ok : okF 1 ref28_Check.p (ref28_Check.g ref28_Check) := fn2 (ref28_Check.eq) Try.func46 (by kernel_rfl) .nil [] (by kernel_rfl) .nil
/-- function 30: sheerleg/sheerlegref28.Size -/
abbrev T_ref28_Size : Type := Tc22 → Tc2 → Int → (Int → Option Bool) → Option Bool
noncomputable def ref28_Size.body (ref28_Kept : T_ref28_Kept) (ref28_Check : T_ref28_Check) : T_ref28_Size := fun t1049 t1050 n1051 k1 =>
  (ref28_Kept t1049 t1050 n1051
  (fun b1052 => (cond_ (! b1052) (k1 (0 : Int)) (cond_ ((decide ((0 : Int) ≤ n1051)) && (decide (n1051 < (((List.length t1049.1) : Nat) : Int)))) (ref28_Check t1050 n1051
  (fun n1055 => (cond_ (n1055 != (0 : Int)) (k1 (IntKind.wrap .i64 ((IntKind.wrap .i64 ((1 : Int) + (((List.length (List.getD t1049.1 (Int.toNat n1051) (0, (0, ((⟨#[]⟩ : ByteArray), (0, ([], (0, (false, (0, (0, ([], ([], ([], ([], ())))))))))))))).2.2.2.2.2.2.2.2.2.2.1) : Nat) : Int))) + (1 : Int)))) (k1 (IntKind.wrap .i64 ((1 : Int) + (((List.length (List.getD t1049.1 (Int.toNat n1051) (0, (0, ((⟨#[]⟩ : ByteArray), (0, ([], (0, (false, (0, (0, ([], ([], ([], ([], ())))))))))))))).2.2.2.2.2.2.2.2.2.2.1) : Nat) : Int))))))) none))))
noncomputable def ref28_Size : T_ref28_Size := ref28_Size.body ref28_Kept ref28_Check
def ref28_Size.p : FPat := fp 30 (pl (pd Ty26) (pl (pd Ty6) (pl (pd (.int .i64)) pz))) pz
def ref28_Size.g (F : T_ref28_Size) (v : ref28_Size.p.T) (k : KR) : Option Bool := F v.1.1 v.1.2.1 v.1.2.2.1 (fun y0 => k (.d ⟨(.int .i64), y0⟩) [])
theorem ref28_Size.eq (F0 : T_ref28_Kept) (F1 : T_ref28_Check) : ∀ v k, exF Try.f30 ref28_Size.p [⟨ref28_Kept.p, ref28_Kept.g F0⟩, ⟨ref28_Check.p, ref28_Check.g F1⟩] [] [] v k = ref28_Size.g (ref28_Size.body F0 F1) v k := fun v k => by kernel_rfl
theorem ref28_Size.ok : okF 2 ref28_Size.p (ref28_Size.g ref28_Size) := fn2 (ref28_Size.eq ref28_Kept ref28_Check) Try.func30 (by kernel_rfl) (.cons ref28_Kept.ok (.cons ref28_Check.ok .nil)) [] (by kernel_rfl) .nil
/-- function 11: the loop in block 2 -/
abbrev T_ref33_Rows_L0_L2 : Type := Int → Int → Int → Tc22 → Tc2 → Tc5 → Int → (List Int) → Int → Bool → Int → Int → (List (Int × Int × Unit)) → Tc8 → Tc1 → (Int → Int → Tc22 → Tc2 → Tc5 → Int → (List Int) → Int → Bool → Int → Int → (List (Int × Int × Unit)) → Tc8 → Tc1 → Option Bool) → Option Bool
noncomputable def ref33_Rows_L0_L2.body (ref33_Rows_L0_L2 : T_ref33_Rows_L0_L2) (ref28_Size : T_ref28_Size) : T_ref33_Rows_L0_L2 := fun n1034 n1035 n1036 t1037 t1038 ts1039 n1040 l1041 n1042 b1043 n1044 n1045 l1046 l1047 l1048 k1 =>
  (ref28_Size t1037 t1038 n1035
  (fun n1056 => (cond_ (decide (n1036 < n1056)) (cond_ (Nat.ble (((List.length ts1039) + (List.length ((n1034, (0, (false, (0, ())))) :: []))) * (32 : Nat)) (140737488355328 : Nat)) (ref33_Rows_L0_L2 n1034 n1035 (IntKind.wrap .i64 (n1036 + (1 : Int))) t1037 t1038 (ts1039 ++ ((n1034, (0, (false, (0, ())))) :: [])) n1040 l1041 n1042 b1043 n1044 n1045 l1046 l1047 l1048 k1) none) (k1 n1034 n1035 t1037 t1038 ts1039 n1040 l1041 n1042 b1043 n1044 n1045 l1046 l1047 l1048))))
noncomputable def ref33_Rows_L0_L2 : Nat → T_ref33_Rows_L0_L2
  | 0 => fun _ _ _ _ _ _ _ _ _ _ _ _ _ _ _ _ => none
  | n + 1 => ref33_Rows_L0_L2.body (ref33_Rows_L0_L2 n) ref28_Size
def ref33_Rows_L0_L2.p : LPat := lp 2 71 [2, 3, 5, 6, 7, 8, 9] (ps (pq [1, 0] 0 0) (ps (pq [1, 1] 0 0) (ps (pr [1, 2]) (pl (pd (.int .i64)) (pl (pd (.int .i64)) (ps (pq [1, 3] 0 0) (pl (pd (.int .i64)) pz))))))) (pl (po [1, 0] 31 3 (es Ty26 (pl eh pz))) (pl (po [1, 1] 26 2 (es Ty6 (pl eh pz))) (pl (po [1, 2] 47 4 (ed Ty9)) (pl (po [1, 3] 57 9 (em (pl (pa (pl (pd (.int .i64)) (pl (pd Ty1) (pl (pd (.int .i64)) (pl (pd .bool) (pl (pd (.int .i64)) (pl (pd (.int .i64)) (pl (pd Ty5) (pl (pd Ty14) (pl (pd Ty8) pz)))))))))) pz))) pz))))
def ref33_Rows_L0_L2.g (F : T_ref33_Rows_L0_L2) (v : ref33_Rows_L0_L2.p.T) (k : KE) : Option Bool := F v.1.1 v.1.2.1 v.1.2.2.1 v.2.1.1 v.2.2.1.1 v.2.2.2.1 v.2.2.2.2.1.1.1 v.2.2.2.2.1.1.2.1 v.2.2.2.2.1.1.2.2.1 v.2.2.2.2.1.1.2.2.2.1 v.2.2.2.2.1.1.2.2.2.2.1 v.2.2.2.2.1.1.2.2.2.2.2.1 v.2.2.2.2.1.1.2.2.2.2.2.2.1 v.2.2.2.2.1.1.2.2.2.2.2.2.2.1 v.2.2.2.2.1.1.2.2.2.2.2.2.2.2.1 (fun y0 y1 y2 y3 y4 y5 y6 y7 y8 y9 y10 y11 y12 y13 => k (.exit 2) ⟨fillS 71 [2, 3, 5, 6, 7, 8] [(.ptr [1, 0] 0 0), (.ptr [1, 1] 0 0), (.ref [1, 2]), (.d ⟨(.int .i64), y0⟩), (.d ⟨(.int .i64), y1⟩), (.ptr [1, 3] 0 0)], [([1, 0], ⟨31, 3, (.data Ty26 [y2])⟩), ([1, 1], ⟨26, 2, (.data Ty6 [y3])⟩), ([1, 2], ⟨47, 4, (.data Ty9 y4)⟩), ([1, 3], ⟨57, 9, (.mix [(.agg [(.d ⟨(.int .i64), y5⟩), (.d ⟨Ty1, y6⟩), (.d ⟨(.int .i64), y7⟩), (.d ⟨.bool, y8⟩), (.d ⟨(.int .i64), y9⟩), (.d ⟨(.int .i64), y10⟩), (.d ⟨Ty5, y11⟩), (.d ⟨Ty14, y12⟩), (.d ⟨Ty8, y13⟩)])])⟩)], 2⟩)
theorem ref33_Rows_L0_L2.step (S : T_ref33_Rows_L0_L2) (F0 : T_ref28_Size) : ∀ v k, exR 11 Try.f11 2 ref33_Rows_L0_L2.p [⟨ref28_Size.p, ref28_Size.g F0⟩] [] [] (ref33_Rows_L0_L2.g S) v k = ref33_Rows_L0_L2.g (ref33_Rows_L0_L2.body S F0) v k := fun v k => by kernel_rfl
theorem ref33_Rows_L0_L2.ok : okL 11 Try.f11 2 2 ref33_Rows_L0_L2.p (ref33_Rows_L0_L2.g (ref33_Rows_L0_L2 ROUNDS)) := loop2 (G := fun n => ref33_Rows_L0_L2.g (ref33_Rows_L0_L2 n)) (fun n => ref33_Rows_L0_L2.step (ref33_Rows_L0_L2 n) ref28_Size) (.cons ref28_Size.ok .nil) [] (by kernel_rfl) .nil (fun _ _ => rfl)
/-- function 34: sheerleg/sheerlegref01.Near -/
abbrev T_ref01_Near : Type := Int → Int → Int → (Int → Option Bool) → Option Bool
noncomputable def ref01_Near.body : T_ref01_Near := fun n1087 n1088 n1089 k1 =>
  (cond_ (decide (n1087 < n1088)) (k1 n1088) (cond_ (decide (n1087 > n1089)) (k1 n1089) (k1 n1087)))
noncomputable def ref01_Near : T_ref01_Near := ref01_Near.body
def ref01_Near.p : FPat := fp 34 (pl (pd (.int .i64)) (pl (pd (.int .i64)) (pl (pd (.int .i64)) pz))) pz
def ref01_Near.g (F : T_ref01_Near) (v : ref01_Near.p.T) (k : KR) : Option Bool := F v.1.1 v.1.2.1 v.1.2.2.1 (fun y0 => k (.d ⟨(.int .i64), y0⟩) [])
theorem ref01_Near.eq : ∀ v k, exF Try.f34 ref01_Near.p [] [] [] v k = ref01_Near.g (ref01_Near.body) v k := fun v k => by kernel_rfl
theorem ref01_Near.ok : okF 1 ref01_Near.p (ref01_Near.g ref01_Near) := fn2 (ref01_Near.eq) Try.func34 (by kernel_rfl) .nil [] (by kernel_rfl) .nil
/-- function 19: sheerleg/sheerlegref16.Frame -/
abbrev T_ref16_Frame : Type := Tc16 → (Int → Option Bool) → Option Bool
noncomputable def ref16_Frame.body (ref01_Near : T_ref01_Near) : T_ref16_Frame := fun t1086 k1 =>
  (ref01_Near t1086.2.2.1 (0 : Int) (1048576 : Int)
  (fun n1090 => (k1 (IntKind.wrap .i64 ((((List.length t1086.2.1) : Nat) : Int) + n1090)))))
noncomputable def ref16_Frame : T_ref16_Frame := ref16_Frame.body ref01_Near
def ref16_Frame.p : FPat := fp 19 (pl (pd Ty20) pz) pz
def ref16_Frame.g (F : T_ref16_Frame) (v : ref16_Frame.p.T) (k : KR) : Option Bool := F v.1.1 (fun y0 => k (.d ⟨(.int .i64), y0⟩) [])
theorem ref16_Frame.eq (F0 : T_ref01_Near) : ∀ v k, exF Try.f19 ref16_Frame.p [⟨ref01_Near.p, ref01_Near.g F0⟩] [] [] v k = ref16_Frame.g (ref16_Frame.body F0) v k := fun v k => by kernel_rfl
theorem ref16_Frame.ok : okF 2 ref16_Frame.p (ref16_Frame.g ref16_Frame) := fn2 (ref16_Frame.eq ref01_Near) Try.func19 (by kernel_rfl) (.cons ref01_Near.ok .nil) [] (by kernel_rfl) .nil
/-- function 21: the loop in block 0 -/
abbrev T_ref16_Line_L0 : Type := Int → Int → Int → Tc16 → (Int → Option Bool) → Option Bool
noncomputable def ref16_Line_L0.body (ref16_Line_L0 : T_ref16_Line_L0) : T_ref16_Line_L0 := fun n1095 n1096 n1097 t1098 k1 =>
  (cond_ (decide (n1097 < (((List.length t1098.2.2.2.2.2.2.1) : Nat) : Int))) (cond_ ((decide ((0 : Int) ≤ n1097)) && (decide (n1097 < (((List.length t1098.2.2.2.2.2.2.1) : Nat) : Int)))) (cond_ (decide ((List.getD t1098.2.2.2.2.2.2.1 (Int.toNat n1097) (0, (0, ()))).1 ≤ n1095)) (cond_ ((decide ((0 : Int) ≤ n1097)) && (decide (n1097 < (((List.length t1098.2.2.2.2.2.2.1) : Nat) : Int)))) (ref16_Line_L0 n1095 (List.getD t1098.2.2.2.2.2.2.1 (Int.toNat n1097) (0, (0, ()))).2.1 (IntKind.wrap .i64 (n1097 + (1 : Int))) t1098 k1) none) (k1 n1096)) none) (k1 n1096))
noncomputable def ref16_Line_L0 : Nat → T_ref16_Line_L0
  | 0 => fun _ _ _ _ _ => none
  | n + 1 => ref16_Line_L0.body (ref16_Line_L0 n)
def ref16_Line_L0.p : LPat := lp 2 31 [1, 2, 5, 6] (pl (pd (.int .i64)) (ps (pq [1, 0] 0 0) (pl (pd (.int .i64)) (pl (pd (.int .i64)) pz)))) (pl (po [1, 0] 57 9 (es Ty20 (pl eh pz))) pz)
def ref16_Line_L0.g (F : T_ref16_Line_L0) (v : ref16_Line_L0.p.T) (k : KE) : Option Bool := F v.1.1 v.1.2.1 v.1.2.2.1 v.2.1.1 (fun y0 => k (.exit 0) ⟨fillS 31 [5] [(.d ⟨(.int .i64), y0⟩)], [], 2⟩)
theorem ref16_Line_L0.step (S : T_ref16_Line_L0) : ∀ v k, exR 21 Try.f21 0 ref16_Line_L0.p [] [] [] (ref16_Line_L0.g S) v k = ref16_Line_L0.g (ref16_Line_L0.body S) v k := fun v k => by kernel_rfl
theorem ref16_Line_L0.ok : okL 21 Try.f21 0 0 ref16_Line_L0.p (ref16_Line_L0.g (ref16_Line_L0 ROUNDS)) := loop2 (G := fun n => ref16_Line_L0.g (ref16_Line_L0 n)) (fun n => ref16_Line_L0.step (ref16_Line_L0 n)) .nil [] (by kernel_rfl) .nil (fun _ _ => rfl)
/-- function 21: sheerleg/sheerlegref16.Line -/
abbrev T_ref16_Line : Type := Tc16 → Int → (Int → Option Bool) → Option Bool
noncomputable def ref16_Line.body (ref16_Line_L0 : T_ref16_Line_L0) : T_ref16_Line := fun t1093 n1094 k1 =>
  (ref16_Line_L0 n1094 (0 : Int) (0 : Int) t1093
  (fun n1099 => (k1 n1099)))
noncomputable def ref16_Line : T_ref16_Line := ref16_Line.body (ref16_Line_L0 ROUNDS)
def ref16_Line.p : FPat := fp 21 (pl (pd Ty20) (pl (pd (.int .i64)) pz)) pz
def ref16_Line.g (F : T_ref16_Line) (v : ref16_Line.p.T) (k : KR) : Option Bool := F v.1.1 v.1.2.1 (fun y0 => k (.d ⟨(.int .i64), y0⟩) [])
theorem ref16_Line.eq (L0 : T_ref16_Line_L0) : ∀ v k, exF Try.f21 ref16_Line.p [] [] [⟨0, ref16_Line_L0.p, ref16_Line_L0.g L0⟩] v k = ref16_Line.g (ref16_Line.body L0) v k := fun v k => by kernel_rfl
theorem ref16_Line.ok : okF 1 ref16_Line.p (ref16_Line.g ref16_Line) := fn2 (ref16_Line.eq (ref16_Line_L0 ROUNDS)) Try.func21 (by kernel_rfl) .nil [0] (by kernel_rfl) (.cons ref16_Line_L0.ok .nil)
/-- function 11: the loop in block 4 -/
abbrev T_ref33_Rows_L0_L4 : Type := Int → Int → Int → Tc22 → Tc2 → Tc5 → Int → (List Int) → Int → Bool → Int → Int → (List (Int × Int × Unit)) → Tc8 → Tc1 → (Int → Int → Tc22 → Tc2 → Tc5 → Option Bool) → Option Bool
noncomputable def ref33_Rows_L0_L4.body (ref33_Rows_L0_L4 : T_ref33_Rows_L0_L4) (ref16_Frame : T_ref16_Frame) (ref18_In : T_ref18_In) (ref16_Line : T_ref16_Line) : T_ref33_Rows_L0_L4 := fun n1071 n1072 n1073 t1074 t1075 ts1076 n1077 l1078 n1079 b1080 n1081 n1082 l1083 l1084 l1085 k1 =>
  (cond_ (decide (n1073 < (List.length l1084 : Int))) (ref16_Frame (n1077, (l1078, (n1079, (b1080, (n1081, (n1082, (l1083, (l1084, (l1085, ())))))))))
  (fun n1091 => (ref18_In (n1077, (l1078, (n1079, (b1080, (n1081, (n1082, (l1083, (l1084, (l1085, ()))))))))) n1073
  (fun b1092 => (ref16_Line (n1077, (l1078, (n1079, (b1080, (n1081, (n1082, (l1083, (l1084, (l1085, ()))))))))) n1073
  (fun n1100 => (cond_ (Nat.ble (((List.length ts1076) + (List.length ((n1071, (n1091, (b1092, (n1100, ())))) :: []))) * (32 : Nat)) (140737488355328 : Nat)) (ref33_Rows_L0_L4 n1071 n1072 (IntKind.wrap .i64 (n1073 + (1 : Int))) t1074 t1075 (ts1076 ++ ((n1071, (n1091, (b1092, (n1100, ())))) :: [])) n1077 l1078 n1079 b1080 n1081 n1082 l1083 l1084 l1085 k1) none))))))) (k1 n1071 n1072 t1074 t1075 ts1076))
noncomputable def ref33_Rows_L0_L4 : Nat → T_ref33_Rows_L0_L4
  | 0 => fun _ _ _ _ _ _ _ _ _ _ _ _ _ _ _ _ => none
  | n + 1 => ref33_Rows_L0_L4.body (ref33_Rows_L0_L4 n) ref16_Frame ref18_In ref16_Line
def ref33_Rows_L0_L4.p : LPat := lp 2 71 [2, 3, 5, 6, 7, 8, 10] (ps (pq [1, 0] 0 0) (ps (pq [1, 1] 0 0) (ps (pr [1, 2]) (pl (pd (.int .i64)) (pl (pd (.int .i64)) (ps (pq [1, 3] 0 0) (pl (pd (.int .i64)) pz))))))) (pl (po [1, 0] 31 3 (es Ty26 (pl eh pz))) (pl (po [1, 1] 26 2 (es Ty6 (pl eh pz))) (pl (po [1, 2] 47 4 (ed Ty9)) (pl (po [1, 3] 57 9 (em (pl (pa (pl (pd (.int .i64)) (pl (pd Ty1) (pl (pd (.int .i64)) (pl (pd .bool) (pl (pd (.int .i64)) (pl (pd (.int .i64)) (pl (pd Ty5) (pl (pd Ty14) (pl (pd Ty8) pz)))))))))) pz))) pz))))
def ref33_Rows_L0_L4.g (F : T_ref33_Rows_L0_L4) (v : ref33_Rows_L0_L4.p.T) (k : KE) : Option Bool := F v.1.1 v.1.2.1 v.1.2.2.1 v.2.1.1 v.2.2.1.1 v.2.2.2.1 v.2.2.2.2.1.1.1 v.2.2.2.2.1.1.2.1 v.2.2.2.2.1.1.2.2.1 v.2.2.2.2.1.1.2.2.2.1 v.2.2.2.2.1.1.2.2.2.2.1 v.2.2.2.2.1.1.2.2.2.2.2.1 v.2.2.2.2.1.1.2.2.2.2.2.2.1 v.2.2.2.2.1.1.2.2.2.2.2.2.2.1 v.2.2.2.2.1.1.2.2.2.2.2.2.2.2.1 (fun y0 y1 y2 y3 y4 => k (.exit 4) ⟨fillS 71 [2, 3, 5, 6, 7] [(.ptr [1, 0] 0 0), (.ptr [1, 1] 0 0), (.ref [1, 2]), (.d ⟨(.int .i64), y0⟩), (.d ⟨(.int .i64), y1⟩)], [([1, 0], ⟨31, 3, (.data Ty26 [y2])⟩), ([1, 1], ⟨26, 2, (.data Ty6 [y3])⟩), ([1, 2], ⟨47, 4, (.data Ty9 y4)⟩)], 2⟩)
theorem ref33_Rows_L0_L4.step (S : T_ref33_Rows_L0_L4) (F0 : T_ref16_Frame) (F1 : T_ref18_In) (F2 : T_ref16_Line) : ∀ v k, exR 11 Try.f11 4 ref33_Rows_L0_L4.p [⟨ref16_Frame.p, ref16_Frame.g F0⟩, ⟨ref18_In.p, ref18_In.g F1⟩, ⟨ref16_Line.p, ref16_Line.g F2⟩] [] [] (ref33_Rows_L0_L4.g S) v k = ref33_Rows_L0_L4.g (ref33_Rows_L0_L4.body S F0 F1 F2) v k := fun v k => by kernel_rfl
theorem ref33_Rows_L0_L4.ok : okL 11 Try.f11 2 4 ref33_Rows_L0_L4.p (ref33_Rows_L0_L4.g (ref33_Rows_L0_L4 ROUNDS)) := loop2 (G := fun n => ref33_Rows_L0_L4.g (ref33_Rows_L0_L4 n)) (fun n => ref33_Rows_L0_L4.step (ref33_Rows_L0_L4 n) ref16_Frame ref18_In ref16_Line) (.cons ref16_Frame.ok (.cons ref18_In.ok (.cons ref16_Line.ok .nil))) [] (by kernel_rfl) .nil (fun _ _ => rfl)
/-- function 11: the loop in block 0 -/
abbrev T_ref33_Rows_L0 : Type := Int → Int → Tc22 → Tc2 → Tc5 → (Tc5 → Option Bool) → Option Bool
noncomputable def ref33_Rows_L0.body (ref33_Rows_L0 : T_ref33_Rows_L0) (ref28_Kept : T_ref28_Kept) (ref33_Rows_L0_L2 : T_ref33_Rows_L0_L2) (ref33_Rows_L0_L4 : T_ref33_Rows_L0_L4) : T_ref33_Rows_L0 := fun n1025 n1026 t1027 t1028 ts1029 k1 =>
  (cond_ (decide (n1026 < (((List.length t1027.1) : Nat) : Int))) (ref28_Kept t1027 t1028 n1026
  (fun b1033 => (cond_ (! b1033) (ref33_Rows_L0 n1025 (IntKind.wrap .i64 (n1026 + (1 : Int))) t1027 t1028 ts1029 k1) (cond_ ((decide ((0 : Int) ≤ n1026)) && (decide (n1026 < (((List.length t1027.1) : Nat) : Int)))) (ref33_Rows_L0_L2 (IntKind.wrap .i64 (n1025 + (1 : Int))) n1026 (((List.length (List.getD t1027.1 (Int.toNat n1026) (0, (0, ((⟨#[]⟩ : ByteArray), (0, ([], (0, (false, (0, (0, ([], ([], ([], ([], ())))))))))))))).2.2.2.2.2.2.2.2.2.2.1) : Nat) : Int) t1027 t1028 ts1029 (List.getD t1027.1 (Int.toNat n1026) (0, (0, ((⟨#[]⟩ : ByteArray), (0, ([], (0, (false, (0, (0, ([], ([], ([], ([], ())))))))))))))).2.2.2.1 (List.getD t1027.1 (Int.toNat n1026) (0, (0, ((⟨#[]⟩ : ByteArray), (0, ([], (0, (false, (0, (0, ([], ([], ([], ([], ())))))))))))))).2.2.2.2.1 (List.getD t1027.1 (Int.toNat n1026) (0, (0, ((⟨#[]⟩ : ByteArray), (0, ([], (0, (false, (0, (0, ([], ([], ([], ([], ())))))))))))))).2.2.2.2.2.1 (List.getD t1027.1 (Int.toNat n1026) (0, (0, ((⟨#[]⟩ : ByteArray), (0, ([], (0, (false, (0, (0, ([], ([], ([], ([], ())))))))))))))).2.2.2.2.2.2.1 (List.getD t1027.1 (Int.toNat n1026) (0, (0, ((⟨#[]⟩ : ByteArray), (0, ([], (0, (false, (0, (0, ([], ([], ([], ([], ())))))))))))))).2.2.2.2.2.2.2.1 (List.getD t1027.1 (Int.toNat n1026) (0, (0, ((⟨#[]⟩ : ByteArray), (0, ([], (0, (false, (0, (0, ([], ([], ([], ([], ())))))))))))))).2.2.2.2.2.2.2.2.1 (List.getD t1027.1 (Int.toNat n1026) (0, (0, ((⟨#[]⟩ : ByteArray), (0, ([], (0, (false, (0, (0, ([], ([], ([], ([], ())))))))))))))).2.2.2.2.2.2.2.2.2.1 (List.getD t1027.1 (Int.toNat n1026) (0, (0, ((⟨#[]⟩ : ByteArray), (0, ([], (0, (false, (0, (0, ([], ([], ([], ([], ())))))))))))))).2.2.2.2.2.2.2.2.2.2.1 (List.getD t1027.1 (Int.toNat n1026) (0, (0, ((⟨#[]⟩ : ByteArray), (0, ([], (0, (false, (0, (0, ([], ([], ([], ([], ())))))))))))))).2.2.2.2.2.2.2.2.2.2.2.1
  (fun n1057 n1058 t1059 t1060 ts1061 n1062 l1063 n1064 b1065 n1066 n1067 l1068 l1069 l1070 => (ref33_Rows_L0_L4 n1057 n1058 (0 : Int) t1059 t1060 ts1061 n1062 l1063 n1064 b1065 n1066 n1067 l1068 l1069 l1070
  (fun n1101 n1102 t1103 t1104 ts1105 => (ref33_Rows_L0 n1101 (IntKind.wrap .i64 (n1102 + (1 : Int))) t1103 t1104 ts1105 k1))))) none)))) (k1 ts1029))
noncomputable def ref33_Rows_L0 : Nat → T_ref33_Rows_L0
  | 0 => fun _ _ _ _ _ _ => none
  | n + 1 => ref33_Rows_L0.body (ref33_Rows_L0 n) ref28_Kept (ref33_Rows_L0_L2 ROUNDS) (ref33_Rows_L0_L4 ROUNDS)
def ref33_Rows_L0.p : LPat := lp 2 71 [2, 3, 5, 6, 7] (ps (pq [1, 0] 0 0) (ps (pq [1, 1] 0 0) (ps (pr [1, 2]) (pl (pd (.int .i64)) (pl (pd (.int .i64)) pz))))) (pl (po [1, 0] 31 3 (es Ty26 (pl eh pz))) (pl (po [1, 1] 26 2 (es Ty6 (pl eh pz))) (pl (po [1, 2] 47 4 (ed Ty9)) pz)))
def ref33_Rows_L0.g (F : T_ref33_Rows_L0) (v : ref33_Rows_L0.p.T) (k : KE) : Option Bool := F v.1.1 v.1.2.1 v.2.1.1 v.2.2.1.1 v.2.2.2.1 (fun y0 => k (.exit 0) ⟨fillS 71 [5] [(.ref [1, 0])], [([1, 0], ⟨47, 4, (.data Ty9 y0)⟩)], 2⟩)
theorem ref33_Rows_L0.step (S : T_ref33_Rows_L0) (F0 : T_ref28_Kept) (L0 : T_ref33_Rows_L0_L2) (L1 : T_ref33_Rows_L0_L4) : ∀ v k, exR 11 Try.f11 0 ref33_Rows_L0.p [⟨ref28_Kept.p, ref28_Kept.g F0⟩] [] [⟨2, ref33_Rows_L0_L2.p, ref33_Rows_L0_L2.g L0⟩, ⟨4, ref33_Rows_L0_L4.p, ref33_Rows_L0_L4.g L1⟩] (ref33_Rows_L0.g S) v k = ref33_Rows_L0.g (ref33_Rows_L0.body S F0 L0 L1) v k := fun v k => by kernel_rfl
theorem ref33_Rows_L0.ok : okL 11 Try.f11 2 0 ref33_Rows_L0.p (ref33_Rows_L0.g (ref33_Rows_L0 ROUNDS)) := loop2 (G := fun n => ref33_Rows_L0.g (ref33_Rows_L0 n)) (fun n => ref33_Rows_L0.step (ref33_Rows_L0 n) ref28_Kept (ref33_Rows_L0_L2 ROUNDS) (ref33_Rows_L0_L4 ROUNDS)) (.cons ref28_Kept.ok .nil) [2, 4] (by kernel_rfl) (.cons ref33_Rows_L0_L2.ok (.cons ref33_Rows_L0_L4.ok .nil)) (fun _ _ => rfl)
/-- function 11: sheerleg/sheerlegref33.Rows -/
abbrev T_ref33_Rows : Type := Tc22 → Tc2 → (Tc5 → Option Bool) → Option Bool
noncomputable def ref33_Rows.body (ref33_Rows_L0 : T_ref33_Rows_L0) : T_ref33_Rows := fun t1023 t1024 k1 =>
  (ref33_Rows_L0 (0 : Int) (0 : Int) t1023 t1024 [(0, (0, (false, (0, ())))), (0, (0, (false, (0, ()))))]
  (fun ts1106 => (k1 ts1106)))
noncomputable def ref33_Rows : T_ref33_Rows := ref33_Rows.body (ref33_Rows_L0 ROUNDS)
def ref33_Rows.p : FPat := fp 11 (pl (pd Ty26) (pl (pd Ty6) pz)) pz
def ref33_Rows.g (F : T_ref33_Rows) (v : ref33_Rows.p.T) (k : KR) : Option Bool := F v.1.1 v.1.2.1 (fun y0 => k (.ref [1, 0]) [([1, 0], ⟨47, 4, (.data Ty9 y0)⟩)])
theorem ref33_Rows.eq (L0 : T_ref33_Rows_L0) : ∀ v k, exF Try.f11 ref33_Rows.p [] [] [⟨0, ref33_Rows_L0.p, ref33_Rows_L0.g L0⟩] v k = ref33_Rows.g (ref33_Rows.body L0) v k := fun v k => by kernel_rfl
theorem ref33_Rows.ok : okF 3 ref33_Rows.p (ref33_Rows.g ref33_Rows) := fn2 (ref33_Rows.eq (ref33_Rows_L0 ROUNDS)) Try.func11 (by kernel_rfl) .nil [0] (by kernel_rfl) (.cons ref33_Rows_L0.ok .nil)
/-- function 9: the loop in block 0 -/
abbrev T_ref13_SameRows_L0 : Type := Tc5 → Tc5 → Int → (Bool → Option Bool) → (Option Bool) → Option Bool
noncomputable def ref13_SameRows_L0.body (ref13_SameRows_L0 : T_ref13_SameRows_L0) : T_ref13_SameRows_L0 := fun ts1110 ts1111 n1112 k1 k2 =>
  (cond_ (decide (n1112 < (List.length ts1110 : Int))) (cond_ ((decide ((0 : Int) ≤ n1112)) && (decide (n1112 < (List.length ts1110 : Int)))) (cond_ ((decide ((0 : Int) ≤ n1112)) && (decide (n1112 < (List.length ts1111 : Int)))) (cond_ (! (((List.getD ts1110 (Int.toNat n1112) (0, (0, (false, (0, ()))))).1 == (List.getD ts1111 (Int.toNat n1112) (0, (0, (false, (0, ()))))).1) && (((List.getD ts1110 (Int.toNat n1112) (0, (0, (false, (0, ()))))).2.1 == (List.getD ts1111 (Int.toNat n1112) (0, (0, (false, (0, ()))))).2.1) && (((List.getD ts1110 (Int.toNat n1112) (0, (0, (false, (0, ()))))).2.2.1 == (List.getD ts1111 (Int.toNat n1112) (0, (0, (false, (0, ()))))).2.2.1) && (((List.getD ts1110 (Int.toNat n1112) (0, (0, (false, (0, ()))))).2.2.2.1 == (List.getD ts1111 (Int.toNat n1112) (0, (0, (false, (0, ()))))).2.2.2.1) && true))))) (k1 false) (ref13_SameRows_L0 ts1110 ts1111 (IntKind.wrap .i64 (n1112 + (1 : Int))) k1 k2)) none) none) (k2))
noncomputable def ref13_SameRows_L0 : Nat → T_ref13_SameRows_L0
  | 0 => fun _ _ _ _ _ => none
  | n + 1 => ref13_SameRows_L0.body (ref13_SameRows_L0 n)
def ref13_SameRows_L0.p : LPat := lp 2 26 [0, 1, 5] (pl (pb 1 47 Ty9) (pl (pb 2 47 Ty9) (pl (pd (.int .i64)) pz))) pz
def ref13_SameRows_L0.g (F : T_ref13_SameRows_L0) (v : ref13_SameRows_L0.p.T) (k : KE) : Option Bool := F v.1.1 v.1.2.1 v.1.2.2.1 (fun y0 => k .ret ⟨fillS 26 [4] [(.d ⟨.bool, y0⟩)], [], 2⟩) (k (.exit 0) ⟨fillS 26 [] [], [], 2⟩)
theorem ref13_SameRows_L0.step (S : T_ref13_SameRows_L0) : ∀ v k, exR 9 Try.f9 0 ref13_SameRows_L0.p [] [] [] (ref13_SameRows_L0.g S) v k = ref13_SameRows_L0.g (ref13_SameRows_L0.body S) v k := fun v k => by kernel_rfl
theorem ref13_SameRows_L0.ok : okL 9 Try.f9 0 0 ref13_SameRows_L0.p (ref13_SameRows_L0.g (ref13_SameRows_L0 ROUNDS)) := loop2 (G := fun n => ref13_SameRows_L0.g (ref13_SameRows_L0 n)) (fun n => ref13_SameRows_L0.step (ref13_SameRows_L0 n)) .nil [] (by kernel_rfl) .nil (fun _ _ => rfl)
/-- function 9: sheerleg/sheerlegref13.SameRows -/
abbrev T_ref13_SameRows : Type := Tc5 → Tc5 → (Bool → Option Bool) → Option Bool
noncomputable def ref13_SameRows.body (ref13_SameRows_L0 : T_ref13_SameRows_L0) : T_ref13_SameRows := fun ts1108 ts1109 k1 =>
  (cond_ ((List.length ts1108 : Int) != (List.length ts1109 : Int)) (k1 false) (ref13_SameRows_L0 ts1108 ts1109 (0 : Int)
  (fun b1113 => (k1 b1113))
  (k1 true)))
noncomputable def ref13_SameRows : T_ref13_SameRows := ref13_SameRows.body (ref13_SameRows_L0 ROUNDS)
def ref13_SameRows.p : FPat := fp 9 (pl (pb 1 47 Ty9) (pl (pb 2 47 Ty9) pz)) pz
def ref13_SameRows.g (F : T_ref13_SameRows) (v : ref13_SameRows.p.T) (k : KR) : Option Bool := F v.1.1 v.1.2.1 (fun y0 => k (.d ⟨.bool, y0⟩) [])
theorem ref13_SameRows.eq (L0 : T_ref13_SameRows_L0) : ∀ v k, exF Try.f9 ref13_SameRows.p [] [] [⟨0, ref13_SameRows_L0.p, ref13_SameRows_L0.g L0⟩] v k = ref13_SameRows.g (ref13_SameRows.body L0) v k := fun v k => by kernel_rfl
theorem ref13_SameRows.ok : okF 1 ref13_SameRows.p (ref13_SameRows.g ref13_SameRows) := fn2 (ref13_SameRows.eq (ref13_SameRows_L0 ROUNDS)) Try.func9 (by kernel_rfl) .nil [0] (by kernel_rfl) (.cons ref13_SameRows_L0.ok .nil)
/-- function 31: the loop in block 0 -/
abbrev T_runs_Make_L0 : Type := Tc5 → Int → Int → Tc9 → (Tc9 → Option Bool) → Option Bool
noncomputable def runs_Make_L0.body (runs_Make_L0 : T_runs_Make_L0) : T_runs_Make_L0 := fun ts1142 n1143 n1144 ts1145 k1 =>
  (cond_ (decide (n1144 < n1143)) (cond_ ((decide ((0 : Int) ≤ n1144)) && (decide (n1144 < (List.length ts1142 : Int)))) (cond_ (! ((List.length ts1145 : Int) == (0 : Int))) (cond_ ((decide ((0 : Int) ≤ (IntKind.wrap .i64 ((List.length ts1145 : Int) - (1 : Int))))) && (decide ((IntKind.wrap .i64 ((List.length ts1145 : Int) - (1 : Int))) < (List.length ts1145 : Int)))) (cond_ (! (((List.getD ts1145 (Int.toNat (IntKind.wrap .i64 ((List.length ts1145 : Int) - (1 : Int)))) (0, (0, (0, (false, (0, ())))))).2.1 == (List.getD ts1142 (Int.toNat n1144) (0, (0, (false, (0, ()))))).1) && (((List.getD ts1145 (Int.toNat (IntKind.wrap .i64 ((List.length ts1145 : Int) - (1 : Int)))) (0, (0, (0, (false, (0, ())))))).2.2.1 == (List.getD ts1142 (Int.toNat n1144) (0, (0, (false, (0, ()))))).2.1) && (((List.getD ts1145 (Int.toNat (IntKind.wrap .i64 ((List.length ts1145 : Int) - (1 : Int)))) (0, (0, (0, (false, (0, ())))))).2.2.2.1 == (List.getD ts1142 (Int.toNat n1144) (0, (0, (false, (0, ()))))).2.2.1) && (((List.getD ts1145 (Int.toNat (IntKind.wrap .i64 ((List.length ts1145 : Int) - (1 : Int)))) (0, (0, (0, (false, (0, ())))))).2.2.2.2.1 == (List.getD ts1142 (Int.toNat n1144) (0, (0, (false, (0, ()))))).2.2.2.1) && true))))) (cond_ (Nat.ble (((List.length ts1145) + (List.length ((n1144, ((List.getD ts1142 (Int.toNat n1144) (0, (0, (false, (0, ()))))).1, ((List.getD ts1142 (Int.toNat n1144) (0, (0, (false, (0, ()))))).2.1, ((List.getD ts1142 (Int.toNat n1144) (0, (0, (false, (0, ()))))).2.2.1, ((List.getD ts1142 (Int.toNat n1144) (0, (0, (false, (0, ()))))).2.2.2.1, ()))))) :: []))) * (40 : Nat)) (140737488355328 : Nat)) (runs_Make_L0 ts1142 n1143 (IntKind.wrap .i64 (n1144 + (1 : Int))) (ts1145 ++ ((n1144, ((List.getD ts1142 (Int.toNat n1144) (0, (0, (false, (0, ()))))).1, ((List.getD ts1142 (Int.toNat n1144) (0, (0, (false, (0, ()))))).2.1, ((List.getD ts1142 (Int.toNat n1144) (0, (0, (false, (0, ()))))).2.2.1, ((List.getD ts1142 (Int.toNat n1144) (0, (0, (false, (0, ()))))).2.2.2.1, ()))))) :: [])) k1) none) (runs_Make_L0 ts1142 n1143 (IntKind.wrap .i64 (n1144 + (1 : Int))) ts1145 k1)) none) (cond_ (Nat.ble (((List.length ts1145) + (List.length ((n1144, ((List.getD ts1142 (Int.toNat n1144) (0, (0, (false, (0, ()))))).1, ((List.getD ts1142 (Int.toNat n1144) (0, (0, (false, (0, ()))))).2.1, ((List.getD ts1142 (Int.toNat n1144) (0, (0, (false, (0, ()))))).2.2.1, ((List.getD ts1142 (Int.toNat n1144) (0, (0, (false, (0, ()))))).2.2.2.1, ()))))) :: []))) * (40 : Nat)) (140737488355328 : Nat)) (runs_Make_L0 ts1142 n1143 (IntKind.wrap .i64 (n1144 + (1 : Int))) (ts1145 ++ ((n1144, ((List.getD ts1142 (Int.toNat n1144) (0, (0, (false, (0, ()))))).1, ((List.getD ts1142 (Int.toNat n1144) (0, (0, (false, (0, ()))))).2.1, ((List.getD ts1142 (Int.toNat n1144) (0, (0, (false, (0, ()))))).2.2.1, ((List.getD ts1142 (Int.toNat n1144) (0, (0, (false, (0, ()))))).2.2.2.1, ()))))) :: [])) k1) none)) none) (k1 ts1145))
noncomputable def runs_Make_L0 : Nat → T_runs_Make_L0
  | 0 => fun _ _ _ _ _ => none
  | n + 1 => runs_Make_L0.body (runs_Make_L0 n)
def runs_Make_L0.p : LPat := lp 2 36 [3, 7, 8, 9] (ps (pr [1, 0]) (pl (pb 1 47 Ty9) (pl (pd (.int .i64)) (pl (pd (.int .i64)) pz)))) (pl (po [1, 0] 73 5 (ed Ty11)) pz)
def runs_Make_L0.g (F : T_runs_Make_L0) (v : runs_Make_L0.p.T) (k : KE) : Option Bool := F v.1.1 v.1.2.1 v.1.2.2.1 v.2.1 (fun y0 => k (.exit 0) ⟨fillS 36 [3] [(.ref [1, 0])], [([1, 0], ⟨73, 5, (.data Ty11 y0)⟩)], 2⟩)
theorem runs_Make_L0.step (S : T_runs_Make_L0) : ∀ v k, exR 31 Try.f31 0 runs_Make_L0.p [] [] [] (runs_Make_L0.g S) v k = runs_Make_L0.g (runs_Make_L0.body S) v k := fun v k => by kernel_rfl
theorem runs_Make_L0.ok : okL 31 Try.f31 0 0 runs_Make_L0.p (runs_Make_L0.g (runs_Make_L0 ROUNDS)) := loop2 (G := fun n => runs_Make_L0.g (runs_Make_L0 n)) (fun n => runs_Make_L0.step (runs_Make_L0 n)) .nil [] (by kernel_rfl) .nil (fun _ _ => rfl)
/-- function 31: sheerleg/runs.Make -/
abbrev T_runs_Make : Type := Tc5 → (Tc9 → Option Bool) → Option Bool
noncomputable def runs_Make.body (runs_Make_L0 : T_runs_Make_L0) : T_runs_Make := fun ts1141 k1 =>
  (runs_Make_L0 ts1141 (List.length ts1141 : Int) (0 : Int) []
  (fun ts1146 => (k1 ts1146)))
noncomputable def runs_Make : T_runs_Make := runs_Make.body (runs_Make_L0 ROUNDS)
def runs_Make.p : FPat := fp 31 (pl (pb 1 47 Ty9) pz) pz
def runs_Make.g (F : T_runs_Make) (v : runs_Make.p.T) (k : KR) : Option Bool := F v.1.1 (fun y0 => k (.ref [1, 0]) [([1, 0], ⟨73, 5, (.data Ty11 y0)⟩)])
theorem runs_Make.eq (L0 : T_runs_Make_L0) : ∀ v k, exF Try.f31 runs_Make.p [] [] [⟨0, runs_Make_L0.p, runs_Make_L0.g L0⟩] v k = runs_Make.g (runs_Make.body L0) v k := fun v k => by kernel_rfl
theorem runs_Make.ok : okF 1 runs_Make.p (runs_Make.g runs_Make) := fn2 (runs_Make.eq (runs_Make_L0 ROUNDS)) Try.func31 (by kernel_rfl) .nil [0] (by kernel_rfl) (.cons runs_Make_L0.ok .nil)
/-- function 13: sheerleg/table.Make -/
abbrev T_table_Make : Type := Tc22 → Tc2 → (Tc9 → Option Bool) → Option Bool
noncomputable def table_Make.body (table_Rows : T_table_Rows) (runs_Make : T_runs_Make) : T_table_Make := fun t1138 t1139 k1 =>
  (table_Rows t1138 t1139
  (fun ts1140 => (runs_Make ts1140
  (fun ts1147 => (k1 ts1147)))))
noncomputable def table_Make : T_table_Make := table_Make.body table_Rows runs_Make
def table_Make.p : FPat := fp 13 (pl (pd Ty26) (pl (pd Ty6) pz)) pz
def table_Make.g (F : T_table_Make) (v : table_Make.p.T) (k : KR) : Option Bool := F v.1.1 v.1.2.1 (fun y0 => k (.ref [1, 0]) [([1, 0], ⟨73, 5, (.data Ty11 y0)⟩)])
theorem table_Make.eq (F0 : T_table_Rows) (F1 : T_runs_Make) : ∀ v k, exF Try.f13 table_Make.p [⟨table_Rows.p, table_Rows.g F0⟩, ⟨runs_Make.p, runs_Make.g F1⟩] [] [] v k = table_Make.g (table_Make.body F0 F1) v k := fun v k => by kernel_rfl
theorem table_Make.ok : okF 5 table_Make.p (table_Make.g table_Make) := fn2 (table_Make.eq table_Rows runs_Make) Try.func13 (by kernel_rfl) (.cons table_Rows.ok (.cons runs_Make.ok .nil)) [] (by kernel_rfl) .nil
/-- function 32: the loop in block 0 -/
abbrev T_ref13_Make_L0 : Type := Tc5 → Int → Tc9 → (Tc9 → Option Bool) → Option Bool
noncomputable def ref13_Make_L0.body (ref13_Make_L0 : T_ref13_Make_L0) : T_ref13_Make_L0 := fun ts1176 n1177 ts1178 k1 =>
  (cond_ (decide (n1177 < (List.length ts1176 : Int))) (cond_ (! (n1177 == (0 : Int))) (cond_ ((decide ((0 : Int) ≤ n1177)) && (decide (n1177 < (List.length ts1176 : Int)))) (cond_ ((decide ((0 : Int) ≤ (IntKind.wrap .i64 (n1177 - (1 : Int))))) && (decide ((IntKind.wrap .i64 (n1177 - (1 : Int))) < (List.length ts1176 : Int)))) (cond_ (! (((List.getD ts1176 (Int.toNat n1177) (0, (0, (false, (0, ()))))).1 == (List.getD ts1176 (Int.toNat (IntKind.wrap .i64 (n1177 - (1 : Int)))) (0, (0, (false, (0, ()))))).1) && (((List.getD ts1176 (Int.toNat n1177) (0, (0, (false, (0, ()))))).2.1 == (List.getD ts1176 (Int.toNat (IntKind.wrap .i64 (n1177 - (1 : Int)))) (0, (0, (false, (0, ()))))).2.1) && (((List.getD ts1176 (Int.toNat n1177) (0, (0, (false, (0, ()))))).2.2.1 == (List.getD ts1176 (Int.toNat (IntKind.wrap .i64 (n1177 - (1 : Int)))) (0, (0, (false, (0, ()))))).2.2.1) && (((List.getD ts1176 (Int.toNat n1177) (0, (0, (false, (0, ()))))).2.2.2.1 == (List.getD ts1176 (Int.toNat (IntKind.wrap .i64 (n1177 - (1 : Int)))) (0, (0, (false, (0, ()))))).2.2.2.1) && true))))) (cond_ ((decide ((0 : Int) ≤ n1177)) && (decide (n1177 < (List.length ts1176 : Int)))) (cond_ (Nat.ble (((List.length ts1178) + (List.length ((n1177, ((List.getD ts1176 (Int.toNat n1177) (0, (0, (false, (0, ()))))).1, ((List.getD ts1176 (Int.toNat n1177) (0, (0, (false, (0, ()))))).2.1, ((List.getD ts1176 (Int.toNat n1177) (0, (0, (false, (0, ()))))).2.2.1, ((List.getD ts1176 (Int.toNat n1177) (0, (0, (false, (0, ()))))).2.2.2.1, ()))))) :: []))) * (40 : Nat)) (140737488355328 : Nat)) (ref13_Make_L0 ts1176 (IntKind.wrap .i64 (n1177 + (1 : Int))) (ts1178 ++ ((n1177, ((List.getD ts1176 (Int.toNat n1177) (0, (0, (false, (0, ()))))).1, ((List.getD ts1176 (Int.toNat n1177) (0, (0, (false, (0, ()))))).2.1, ((List.getD ts1176 (Int.toNat n1177) (0, (0, (false, (0, ()))))).2.2.1, ((List.getD ts1176 (Int.toNat n1177) (0, (0, (false, (0, ()))))).2.2.2.1, ()))))) :: [])) k1) none) none) (ref13_Make_L0 ts1176 (IntKind.wrap .i64 (n1177 + (1 : Int))) ts1178 k1)) none) none) (cond_ ((decide ((0 : Int) ≤ n1177)) && (decide (n1177 < (List.length ts1176 : Int)))) (cond_ (Nat.ble (((List.length ts1178) + (List.length ((n1177, ((List.getD ts1176 (Int.toNat n1177) (0, (0, (false, (0, ()))))).1, ((List.getD ts1176 (Int.toNat n1177) (0, (0, (false, (0, ()))))).2.1, ((List.getD ts1176 (Int.toNat n1177) (0, (0, (false, (0, ()))))).2.2.1, ((List.getD ts1176 (Int.toNat n1177) (0, (0, (false, (0, ()))))).2.2.2.1, ()))))) :: []))) * (40 : Nat)) (140737488355328 : Nat)) (ref13_Make_L0 ts1176 (IntKind.wrap .i64 (n1177 + (1 : Int))) (ts1178 ++ ((n1177, ((List.getD ts1176 (Int.toNat n1177) (0, (0, (false, (0, ()))))).1, ((List.getD ts1176 (Int.toNat n1177) (0, (0, (false, (0, ()))))).2.1, ((List.getD ts1176 (Int.toNat n1177) (0, (0, (false, (0, ()))))).2.2.1, ((List.getD ts1176 (Int.toNat n1177) (0, (0, (false, (0, ()))))).2.2.2.1, ()))))) :: [])) k1) none) none)) (k1 ts1178))
noncomputable def ref13_Make_L0 : Nat → T_ref13_Make_L0
  | 0 => fun _ _ _ _ => none
  | n + 1 => ref13_Make_L0.body (ref13_Make_L0 n)
def ref13_Make_L0.p : LPat := lp 2 35 [0, 3, 4] (pl (pb 1 47 Ty9) (ps (pr [1, 0]) (pl (pd (.int .i64)) pz))) (pl (po [1, 0] 73 5 (ed Ty11)) pz)
def ref13_Make_L0.g (F : T_ref13_Make_L0) (v : ref13_Make_L0.p.T) (k : KE) : Option Bool := F v.1.1 v.1.2.1 v.2.1 (fun y0 => k (.exit 0) ⟨fillS 35 [3] [(.ref [1, 0])], [([1, 0], ⟨73, 5, (.data Ty11 y0)⟩)], 2⟩)
theorem ref13_Make_L0.step (S : T_ref13_Make_L0) : ∀ v k, exR 32 Try.f32 0 ref13_Make_L0.p [] [] [] (ref13_Make_L0.g S) v k = ref13_Make_L0.g (ref13_Make_L0.body S) v k := fun v k => by kernel_rfl
theorem ref13_Make_L0.ok : okL 32 Try.f32 0 0 ref13_Make_L0.p (ref13_Make_L0.g (ref13_Make_L0 ROUNDS)) := loop2 (G := fun n => ref13_Make_L0.g (ref13_Make_L0 n)) (fun n => ref13_Make_L0.step (ref13_Make_L0 n)) .nil [] (by kernel_rfl) .nil (fun _ _ => rfl)
/-- function 32: sheerleg/sheerlegref13.Make -/
abbrev T_ref13_Make : Type := Tc5 → (Tc9 → Option Bool) → Option Bool
noncomputable def ref13_Make.body (ref13_Make_L0 : T_ref13_Make_L0) : T_ref13_Make := fun ts1175 k1 =>
  (ref13_Make_L0 ts1175 (0 : Int) []
  (fun ts1179 => (k1 ts1179)))
noncomputable def ref13_Make : T_ref13_Make := ref13_Make.body (ref13_Make_L0 ROUNDS)
def ref13_Make.p : FPat := fp 32 (pl (pb 1 47 Ty9) pz) pz
def ref13_Make.g (F : T_ref13_Make) (v : ref13_Make.p.T) (k : KR) : Option Bool := F v.1.1 (fun y0 => k (.ref [1, 0]) [([1, 0], ⟨73, 5, (.data Ty11 y0)⟩)])
theorem ref13_Make.eq (L0 : T_ref13_Make_L0) : ∀ v k, exF Try.f32 ref13_Make.p [] [] [⟨0, ref13_Make_L0.p, ref13_Make_L0.g L0⟩] v k = ref13_Make.g (ref13_Make.body L0) v k := fun v k => by kernel_rfl
theorem ref13_Make.ok : okF 1 ref13_Make.p (ref13_Make.g ref13_Make) := fn2 (ref13_Make.eq (ref13_Make_L0 ROUNDS)) Try.func32 (by kernel_rfl) .nil [0] (by kernel_rfl) (.cons ref13_Make_L0.ok .nil)
/-- function 14: sheerleg/sheerlegref33.Make -/
abbrev T_ref33_Make : Type := Tc22 → Tc2 → (Tc9 → Option Bool) → Option Bool
noncomputable def ref33_Make.body (ref33_Rows : T_ref33_Rows) (ref13_Make : T_ref13_Make) : T_ref33_Make := fun t1172 t1173 k1 =>
  (ref33_Rows t1172 t1173
  (fun ts1174 => (ref13_Make ts1174
  (fun ts1180 => (k1 ts1180)))))
noncomputable def ref33_Make : T_ref33_Make := ref33_Make.body ref33_Rows ref13_Make
def ref33_Make.p : FPat := fp 14 (pl (pd Ty26) (pl (pd Ty6) pz)) pz
def ref33_Make.g (F : T_ref33_Make) (v : ref33_Make.p.T) (k : KR) : Option Bool := F v.1.1 v.1.2.1 (fun y0 => k (.ref [1, 0]) [([1, 0], ⟨73, 5, (.data Ty11 y0)⟩)])
theorem ref33_Make.eq (F0 : T_ref33_Rows) (F1 : T_ref13_Make) : ∀ v k, exF Try.f14 ref33_Make.p [⟨ref33_Rows.p, ref33_Rows.g F0⟩, ⟨ref13_Make.p, ref13_Make.g F1⟩] [] [] v k = ref33_Make.g (ref33_Make.body F0 F1) v k := fun v k => by kernel_rfl
theorem ref33_Make.ok : okF 4 ref33_Make.p (ref33_Make.g ref33_Make) := fn2 (ref33_Make.eq ref33_Rows ref13_Make) Try.func14 (by kernel_rfl) (.cons ref33_Rows.ok (.cons ref13_Make.ok .nil)) [] (by kernel_rfl) .nil
/-- function 12: the loop in block 0 -/
abbrev T_ref13_Same_L0 : Type := Tc9 → Tc9 → Int → (Bool → Option Bool) → (Option Bool) → Option Bool
noncomputable def ref13_Same_L0.body (ref13_Same_L0 : T_ref13_Same_L0) : T_ref13_Same_L0 := fun ts1184 ts1185 n1186 k1 k2 =>
  (cond_ (decide (n1186 < (List.length ts1184 : Int))) (cond_ ((decide ((0 : Int) ≤ n1186)) && (decide (n1186 < (List.length ts1184 : Int)))) (cond_ ((decide ((0 : Int) ≤ n1186)) && (decide (n1186 < (List.length ts1185 : Int)))) (cond_ (! (((List.getD ts1184 (Int.toNat n1186) (0, (0, (0, (false, (0, ())))))).1 == (List.getD ts1185 (Int.toNat n1186) (0, (0, (0, (false, (0, ())))))).1) && ((((List.getD ts1184 (Int.toNat n1186) (0, (0, (0, (false, (0, ())))))).2.1 == (List.getD ts1185 (Int.toNat n1186) (0, (0, (0, (false, (0, ())))))).2.1) && (((List.getD ts1184 (Int.toNat n1186) (0, (0, (0, (false, (0, ())))))).2.2.1 == (List.getD ts1185 (Int.toNat n1186) (0, (0, (0, (false, (0, ())))))).2.2.1) && (((List.getD ts1184 (Int.toNat n1186) (0, (0, (0, (false, (0, ())))))).2.2.2.1 == (List.getD ts1185 (Int.toNat n1186) (0, (0, (0, (false, (0, ())))))).2.2.2.1) && (((List.getD ts1184 (Int.toNat n1186) (0, (0, (0, (false, (0, ())))))).2.2.2.2.1 == (List.getD ts1185 (Int.toNat n1186) (0, (0, (0, (false, (0, ())))))).2.2.2.2.1) && true)))) && true))) (k1 false) (ref13_Same_L0 ts1184 ts1185 (IntKind.wrap .i64 (n1186 + (1 : Int))) k1 k2)) none) none) (k2))
noncomputable def ref13_Same_L0 : Nat → T_ref13_Same_L0
  | 0 => fun _ _ _ _ _ => none
  | n + 1 => ref13_Same_L0.body (ref13_Same_L0 n)
def ref13_Same_L0.p : LPat := lp 2 26 [0, 1, 5] (pl (pb 1 73 Ty11) (pl (pb 2 73 Ty11) (pl (pd (.int .i64)) pz))) pz
def ref13_Same_L0.g (F : T_ref13_Same_L0) (v : ref13_Same_L0.p.T) (k : KE) : Option Bool := F v.1.1 v.1.2.1 v.1.2.2.1 (fun y0 => k .ret ⟨fillS 26 [4] [(.d ⟨.bool, y0⟩)], [], 2⟩) (k (.exit 0) ⟨fillS 26 [] [], [], 2⟩)
theorem ref13_Same_L0.step (S : T_ref13_Same_L0) : ∀ v k, exR 12 Try.f12 0 ref13_Same_L0.p [] [] [] (ref13_Same_L0.g S) v k = ref13_Same_L0.g (ref13_Same_L0.body S) v k := fun v k => by kernel_rfl
theorem ref13_Same_L0.ok : okL 12 Try.f12 0 0 ref13_Same_L0.p (ref13_Same_L0.g (ref13_Same_L0 ROUNDS)) := loop2 (G := fun n => ref13_Same_L0.g (ref13_Same_L0 n)) (fun n => ref13_Same_L0.step (ref13_Same_L0 n)) .nil [] (by kernel_rfl) .nil (fun _ _ => rfl)
/-- function 12: sheerleg/sheerlegref13.Same -/
abbrev T_ref13_Same : Type := Tc9 → Tc9 → (Bool → Option Bool) → Option Bool
noncomputable def ref13_Same.body (ref13_Same_L0 : T_ref13_Same_L0) : T_ref13_Same := fun ts1182 ts1183 k1 =>
  (cond_ ((List.length ts1182 : Int) != (List.length ts1183 : Int)) (k1 false) (ref13_Same_L0 ts1182 ts1183 (0 : Int)
  (fun b1187 => (k1 b1187))
  (k1 true)))
noncomputable def ref13_Same : T_ref13_Same := ref13_Same.body (ref13_Same_L0 ROUNDS)
def ref13_Same.p : FPat := fp 12 (pl (pb 1 73 Ty11) (pl (pb 2 73 Ty11) pz)) pz
def ref13_Same.g (F : T_ref13_Same) (v : ref13_Same.p.T) (k : KR) : Option Bool := F v.1.1 v.1.2.1 (fun y0 => k (.d ⟨.bool, y0⟩) [])
theorem ref13_Same.eq (L0 : T_ref13_Same_L0) : ∀ v k, exF Try.f12 ref13_Same.p [] [] [⟨0, ref13_Same_L0.p, ref13_Same_L0.g L0⟩] v k = ref13_Same.g (ref13_Same.body L0) v k := fun v k => by kernel_rfl
theorem ref13_Same.ok : okF 1 ref13_Same.p (ref13_Same.g ref13_Same) := fn2 (ref13_Same.eq (ref13_Same_L0 ROUNDS)) Try.func12 (by kernel_rfl) .nil [0] (by kernel_rfl) (.cons ref13_Same_L0.ok .nil)
/-- function 3: sheerleg/sheerleglaw33.TableTells -/
abbrev T_law33_TableTells : Type := Tc21 → Tc2 → Tc10 → Int → (Bool → Option Bool) → Option Bool
noncomputable def law33_TableTells.body (law32_Few : T_law32_Few) (law33_known : T_law33_known) (table_Source : T_table_Source) (ref33_Source : T_ref33_Source) (table_Rows : T_table_Rows) (ref33_Rows : T_ref33_Rows) (ref13_SameRows : T_ref13_SameRows) (table_Make : T_table_Make) (ref33_Make : T_ref33_Make) (ref13_Same : T_ref13_Same) : T_law33_TableTells := fun ts1155 t1156 ts1157 n1158 k1 =>
  (law32_Few ts1155 t1156
  (fun t1159 b1160 => (cond_ (! (! b1160)) (cond_ (decide ((List.length ts1157 : Int) > (60 : Int))) (law33_known
  (fun b1161 => (k1 b1161))) (table_Source ts1157 n1158
  (fun n1162 n1163 b1164 => (ref33_Source ts1157 n1158
  (fun n1165 n1166 b1167 => (table_Rows (t1159.1, (t1159.2.1, (t1159.2.2.1, ()))) t1156
  (fun ts1168 => (ref33_Rows (t1159.1, (t1159.2.1, (t1159.2.2.1, ()))) t1156
  (fun ts1169 => (ref13_SameRows ts1168 ts1169
  (fun b1170 => (cond_ b1170 (table_Make (t1159.1, (t1159.2.1, (t1159.2.2.1, ()))) t1156
  (fun ts1171 => (ref33_Make (t1159.1, (t1159.2.1, (t1159.2.2.1, ()))) t1156
  (fun ts1181 => (ref13_Same ts1171 ts1181
  (fun b1188 => (cond_ b1188 (cond_ (n1162 == n1165) (cond_ (n1163 == n1166) (cond_ (b1164 == b1167) (law33_known
  (fun b1189 => (k1 b1189))) (k1 false)) (k1 false)) (k1 false)) (k1 false)))))))) (k1 false))))))))))))) (law33_known
  (fun b1190 => (k1 b1190))))))
noncomputable def law33_TableTells : T_law33_TableTells := law33_TableTells.body law32_Few law33_known table_Source ref33_Source table_Rows ref33_Rows ref13_SameRows table_Make ref33_Make ref13_Same
def law33_TableTells.p : FPat := fp 3 (pl (pb 0 90 Ty24) (pl (pd Ty6) (pl (pb 0 52 Ty15) (pl (pd (.int .i64)) pz)))) pz
def law33_TableTells.g (F : T_law33_TableTells) (v : law33_TableTells.p.T) (k : KR) : Option Bool := F v.1.1 v.1.2.1 v.1.2.2.1 v.1.2.2.2.1 (fun y0 => k (.d ⟨.bool, y0⟩) [])
theorem law33_TableTells.eq (F0 : T_law32_Few) (F1 : T_law33_known) (F2 : T_table_Source) (F3 : T_ref33_Source) (F4 : T_table_Rows) (F5 : T_ref33_Rows) (F6 : T_ref13_SameRows) (F7 : T_table_Make) (F8 : T_ref33_Make) (F9 : T_ref13_Same) : ∀ v k, exF Try.f3 law33_TableTells.p [⟨law32_Few.p, law32_Few.g F0⟩, ⟨law33_known.p, law33_known.g F1⟩, ⟨table_Source.p, table_Source.g F2⟩, ⟨ref33_Source.p, ref33_Source.g F3⟩, ⟨table_Rows.p, table_Rows.g F4⟩, ⟨ref33_Rows.p, ref33_Rows.g F5⟩, ⟨ref13_SameRows.p, ref13_SameRows.g F6⟩, ⟨table_Make.p, table_Make.g F7⟩, ⟨ref33_Make.p, ref33_Make.g F8⟩, ⟨ref13_Same.p, ref13_Same.g F9⟩] [] [] v k = law33_TableTells.g (law33_TableTells.body F0 F1 F2 F3 F4 F5 F6 F7 F8 F9) v k := fun v k => by kernel_rfl
theorem law33_TableTells.ok : okF 61 law33_TableTells.p (law33_TableTells.g law33_TableTells) := fn2 (law33_TableTells.eq law32_Few law33_known table_Source ref33_Source table_Rows ref33_Rows ref13_SameRows table_Make ref33_Make ref13_Same) Try.func3 (by kernel_rfl) (.cons law32_Few.ok (.cons law33_known.ok (.cons table_Source.ok (.cons ref33_Source.ok (.cons table_Rows.ok (.cons ref33_Rows.ok (.cons ref13_SameRows.ok (.cons table_Make.ok (.cons ref33_Make.ok (.cons ref13_Same.ok .nil)))))))))) [] (by kernel_rfl) .nil
/-- function 33: the loop in block 0 -/
abbrev T_ref29_start_L0 : Type := Int → Int → Int → Tc22 → Tc2 → (Int → Option Bool) → Option Bool
noncomputable def ref29_start_L0.body (ref29_start_L0 : T_ref29_start_L0) (ref28_Size : T_ref28_Size) : T_ref29_start_L0 := fun n1207 n1208 n1209 t1210 t1211 k1 =>
  (cond_ (decide (n1209 < n1207)) (ref28_Size t1210 t1211 n1209
  (fun n1212 => (ref29_start_L0 n1207 (IntKind.wrap .i64 (n1208 + n1212)) (IntKind.wrap .i64 (n1209 + (1 : Int))) t1210 t1211 k1))) (k1 n1208))
noncomputable def ref29_start_L0 : Nat → T_ref29_start_L0
  | 0 => fun _ _ _ _ _ _ => none
  | n + 1 => ref29_start_L0.body (ref29_start_L0 n) ref28_Size
def ref29_start_L0.p : LPat := lp 2 21 [2, 3, 4, 7, 8] (pl (pd (.int .i64)) (ps (pq [1, 0] 0 0) (ps (pq [1, 1] 0 0) (pl (pd (.int .i64)) (pl (pd (.int .i64)) pz))))) (pl (po [1, 0] 31 3 (es Ty26 (pl eh pz))) (pl (po [1, 1] 26 2 (es Ty6 (pl eh pz))) pz))
def ref29_start_L0.g (F : T_ref29_start_L0) (v : ref29_start_L0.p.T) (k : KE) : Option Bool := F v.1.1 v.1.2.1 v.1.2.2.1 v.2.1.1 v.2.2.1.1 (fun y0 => k (.exit 0) ⟨fillS 21 [7] [(.d ⟨(.int .i64), y0⟩)], [], 2⟩)
theorem ref29_start_L0.step (S : T_ref29_start_L0) (F0 : T_ref28_Size) : ∀ v k, exR 33 Try.f33 0 ref29_start_L0.p [⟨ref28_Size.p, ref28_Size.g F0⟩] [] [] (ref29_start_L0.g S) v k = ref29_start_L0.g (ref29_start_L0.body S F0) v k := fun v k => by kernel_rfl
theorem ref29_start_L0.ok : okL 33 Try.f33 2 0 ref29_start_L0.p (ref29_start_L0.g (ref29_start_L0 ROUNDS)) := loop2 (G := fun n => ref29_start_L0.g (ref29_start_L0 n)) (fun n => ref29_start_L0.step (ref29_start_L0 n) ref28_Size) (.cons ref28_Size.ok .nil) [] (by kernel_rfl) .nil (fun _ _ => rfl)
/-- function 33: sheerleg/sheerlegref29.start -/
abbrev T_ref29_start : Type := Tc22 → Tc2 → Int → (Int → Option Bool) → Option Bool
noncomputable def ref29_start.body (ref29_start_L0 : T_ref29_start_L0) : T_ref29_start := fun t1204 t1205 n1206 k1 =>
  (ref29_start_L0 n1206 (2 : Int) (0 : Int) t1204 t1205
  (fun n1213 => (k1 n1213)))
noncomputable def ref29_start : T_ref29_start := ref29_start.body (ref29_start_L0 ROUNDS)
def ref29_start.p : FPat := fp 33 (pl (pd Ty26) (pl (pd Ty6) (pl (pd (.int .i64)) pz))) pz
def ref29_start.g (F : T_ref29_start) (v : ref29_start.p.T) (k : KR) : Option Bool := F v.1.1 v.1.2.1 v.1.2.2.1 (fun y0 => k (.d ⟨(.int .i64), y0⟩) [])
theorem ref29_start.eq (L0 : T_ref29_start_L0) : ∀ v k, exF Try.f33 ref29_start.p [] [] [⟨0, ref29_start_L0.p, ref29_start_L0.g L0⟩] v k = ref29_start.g (ref29_start.body L0) v k := fun v k => by kernel_rfl
theorem ref29_start.ok : okF 3 ref29_start.p (ref29_start.g ref29_start) := fn2 (ref29_start.eq (ref29_start_L0 ROUNDS)) Try.func33 (by kernel_rfl) .nil [0] (by kernel_rfl) (.cons ref29_start_L0.ok .nil)
/-- function 15: the loop in block 0 -/
abbrev T_ref29_Fns_L0 : Type := Int → Tc22 → Tc2 → Tc10 → (Tc10 → Option Bool) → Option Bool
noncomputable def ref29_Fns_L0.body (ref29_Fns_L0 : T_ref29_Fns_L0) (ref28_Kept : T_ref28_Kept) (ref29_start : T_ref29_start) (ref16_Frame : T_ref16_Frame) : T_ref29_Fns_L0 := fun n1199 t1200 t1201 ts1202 k1 =>
  (cond_ (decide (n1199 < (((List.length t1200.1) : Nat) : Int))) (ref28_Kept t1200 t1201 n1199
  (fun b1203 => (cond_ (! b1203) (ref29_Fns_L0 (IntKind.wrap .i64 (n1199 + (1 : Int))) t1200 t1201 ts1202 k1) (cond_ ((decide ((0 : Int) ≤ n1199)) && (decide (n1199 < (((List.length t1200.1) : Nat) : Int)))) (ref29_start t1200 t1201 (IntKind.wrap .i64 (n1199 + (1 : Int)))
  (fun n1214 => (ref29_start t1200 t1201 n1199
  (fun n1215 => (ref16_Frame ((List.getD t1200.1 (Int.toNat n1199) (0, (0, ((⟨#[]⟩ : ByteArray), (0, ([], (0, (false, (0, (0, ([], ([], ([], ([], ())))))))))))))).2.2.2.1, ((List.getD t1200.1 (Int.toNat n1199) (0, (0, ((⟨#[]⟩ : ByteArray), (0, ([], (0, (false, (0, (0, ([], ([], ([], ([], ())))))))))))))).2.2.2.2.1, ((List.getD t1200.1 (Int.toNat n1199) (0, (0, ((⟨#[]⟩ : ByteArray), (0, ([], (0, (false, (0, (0, ([], ([], ([], ([], ())))))))))))))).2.2.2.2.2.1, ((List.getD t1200.1 (Int.toNat n1199) (0, (0, ((⟨#[]⟩ : ByteArray), (0, ([], (0, (false, (0, (0, ([], ([], ([], ([], ())))))))))))))).2.2.2.2.2.2.1, ((List.getD t1200.1 (Int.toNat n1199) (0, (0, ((⟨#[]⟩ : ByteArray), (0, ([], (0, (false, (0, (0, ([], ([], ([], ([], ())))))))))))))).2.2.2.2.2.2.2.1, ((List.getD t1200.1 (Int.toNat n1199) (0, (0, ((⟨#[]⟩ : ByteArray), (0, ([], (0, (false, (0, (0, ([], ([], ([], ([], ())))))))))))))).2.2.2.2.2.2.2.2.1, ((List.getD t1200.1 (Int.toNat n1199) (0, (0, ((⟨#[]⟩ : ByteArray), (0, ([], (0, (false, (0, (0, ([], ([], ([], ([], ())))))))))))))).2.2.2.2.2.2.2.2.2.1, ((List.getD t1200.1 (Int.toNat n1199) (0, (0, ((⟨#[]⟩ : ByteArray), (0, ([], (0, (false, (0, (0, ([], ([], ([], ([], ())))))))))))))).2.2.2.2.2.2.2.2.2.2.1, ((List.getD t1200.1 (Int.toNat n1199) (0, (0, ((⟨#[]⟩ : ByteArray), (0, ([], (0, (false, (0, (0, ([], ([], ([], ([], ())))))))))))))).2.2.2.2.2.2.2.2.2.2.2.1, ())))))))))
  (fun n1216 => (cond_ (Nat.ble (((List.length ts1202) + (List.length (((List.getD t1200.1 (Int.toNat n1199) (0, (0, ((⟨#[]⟩ : ByteArray), (0, ([], (0, (false, (0, (0, ([], ([], ([], ([], ())))))))))))))).1, ((List.getD t1200.1 (Int.toNat n1199) (0, (0, ((⟨#[]⟩ : ByteArray), (0, ([], (0, (false, (0, (0, ([], ([], ([], ([], ())))))))))))))).2.1, (n1215, ((IntKind.wrap .i64 (n1214 - (((List.length (List.getD t1200.1 (Int.toNat n1199) (0, (0, ((⟨#[]⟩ : ByteArray), (0, ([], (0, (false, (0, (0, ([], ([], ([], ([], ())))))))))))))).2.2.2.2.2.2.2.2.2.2.1) : Nat) : Int))), (n1214, (n1216, ())))))) :: []))) * (48 : Nat)) (140737488355328 : Nat)) (ref29_Fns_L0 (IntKind.wrap .i64 (n1199 + (1 : Int))) t1200 t1201 (ts1202 ++ (((List.getD t1200.1 (Int.toNat n1199) (0, (0, ((⟨#[]⟩ : ByteArray), (0, ([], (0, (false, (0, (0, ([], ([], ([], ([], ())))))))))))))).1, ((List.getD t1200.1 (Int.toNat n1199) (0, (0, ((⟨#[]⟩ : ByteArray), (0, ([], (0, (false, (0, (0, ([], ([], ([], ([], ())))))))))))))).2.1, (n1215, ((IntKind.wrap .i64 (n1214 - (((List.length (List.getD t1200.1 (Int.toNat n1199) (0, (0, ((⟨#[]⟩ : ByteArray), (0, ([], (0, (false, (0, (0, ([], ([], ([], ([], ())))))))))))))).2.2.2.2.2.2.2.2.2.2.1) : Nat) : Int))), (n1214, (n1216, ())))))) :: [])) k1) none))))))) none)))) (k1 ts1202))
noncomputable def ref29_Fns_L0 : Nat → T_ref29_Fns_L0
  | 0 => fun _ _ _ _ _ => none
  | n + 1 => ref29_Fns_L0.body (ref29_Fns_L0 n) ref28_Kept ref29_start ref16_Frame
def ref29_Fns_L0.p : LPat := lp 2 54 [2, 3, 5, 6] (ps (pq [1, 0] 0 0) (ps (pq [1, 1] 0 0) (ps (pr [1, 2]) (pl (pd (.int .i64)) pz)))) (pl (po [1, 0] 31 3 (es Ty26 (pl eh pz))) (pl (po [1, 1] 26 2 (es Ty6 (pl eh pz))) (pl (po [1, 2] 52 6 (ed Ty15)) pz)))
def ref29_Fns_L0.g (F : T_ref29_Fns_L0) (v : ref29_Fns_L0.p.T) (k : KE) : Option Bool := F v.1.1 v.2.1.1 v.2.2.1.1 v.2.2.2.1 (fun y0 => k (.exit 0) ⟨fillS 54 [5] [(.ref [1, 0])], [([1, 0], ⟨52, 6, (.data Ty15 y0)⟩)], 2⟩)
theorem ref29_Fns_L0.step (S : T_ref29_Fns_L0) (F0 : T_ref28_Kept) (F1 : T_ref29_start) (F2 : T_ref16_Frame) : ∀ v k, exR 15 Try.f15 0 ref29_Fns_L0.p [⟨ref28_Kept.p, ref28_Kept.g F0⟩, ⟨ref29_start.p, ref29_start.g F1⟩, ⟨ref16_Frame.p, ref16_Frame.g F2⟩] [] [] (ref29_Fns_L0.g S) v k = ref29_Fns_L0.g (ref29_Fns_L0.body S F0 F1 F2) v k := fun v k => by kernel_rfl
theorem ref29_Fns_L0.ok : okL 15 Try.f15 3 0 ref29_Fns_L0.p (ref29_Fns_L0.g (ref29_Fns_L0 ROUNDS)) := loop2 (G := fun n => ref29_Fns_L0.g (ref29_Fns_L0 n)) (fun n => ref29_Fns_L0.step (ref29_Fns_L0 n) ref28_Kept ref29_start ref16_Frame) (.cons ref28_Kept.ok (.cons ref29_start.ok (.cons ref16_Frame.ok .nil))) [] (by kernel_rfl) .nil (fun _ _ => rfl)
/-- function 15: sheerleg/sheerlegref29.Fns -/
abbrev T_ref29_Fns : Type := Tc22 → Tc2 → (Tc10 → Option Bool) → Option Bool
noncomputable def ref29_Fns.body (ref29_Fns_L0 : T_ref29_Fns_L0) : T_ref29_Fns := fun t1197 t1198 k1 =>
  (ref29_Fns_L0 (0 : Int) t1197 t1198 []
  (fun ts1217 => (k1 ts1217)))
noncomputable def ref29_Fns : T_ref29_Fns := ref29_Fns.body (ref29_Fns_L0 ROUNDS)
def ref29_Fns.p : FPat := fp 15 (pl (pd Ty26) (pl (pd Ty6) pz)) pz
def ref29_Fns.g (F : T_ref29_Fns) (v : ref29_Fns.p.T) (k : KR) : Option Bool := F v.1.1 v.1.2.1 (fun y0 => k (.ref [1, 0]) [([1, 0], ⟨52, 6, (.data Ty15 y0)⟩)])
theorem ref29_Fns.eq (L0 : T_ref29_Fns_L0) : ∀ v k, exF Try.f15 ref29_Fns.p [] [] [⟨0, ref29_Fns_L0.p, ref29_Fns_L0.g L0⟩] v k = ref29_Fns.g (ref29_Fns.body L0) v k := fun v k => by kernel_rfl
theorem ref29_Fns.ok : okF 4 ref29_Fns.p (ref29_Fns.g ref29_Fns) := fn2 (ref29_Fns.eq (ref29_Fns_L0 ROUNDS)) Try.func15 (by kernel_rfl) .nil [0] (by kernel_rfl) (.cons ref29_Fns_L0.ok .nil)
/-- function 16: sheerleg/sheerlegref29.Code -/
abbrev T_ref29_Code : Type := Tc22 → Tc2 → (Int → Option Bool) → Option Bool
noncomputable def ref29_Code.body (ref29_start : T_ref29_start) : T_ref29_Code := fun t1226 t1227 k1 =>
  (ref29_start t1226 t1227 (((List.length t1226.1) : Nat) : Int)
  (fun n1228 => (k1 n1228)))
noncomputable def ref29_Code : T_ref29_Code := ref29_Code.body ref29_start
def ref29_Code.p : FPat := fp 16 (pl (pd Ty26) (pl (pd Ty6) pz)) pz
def ref29_Code.g (F : T_ref29_Code) (v : ref29_Code.p.T) (k : KR) : Option Bool := F v.1.1 v.1.2.1 (fun y0 => k (.d ⟨(.int .i64), y0⟩) [])
theorem ref29_Code.eq (F0 : T_ref29_start) : ∀ v k, exF Try.f16 ref29_Code.p [⟨ref29_start.p, ref29_start.g F0⟩] [] [] v k = ref29_Code.g (ref29_Code.body F0) v k := fun v k => by kernel_rfl
theorem ref29_Code.ok : okF 4 ref29_Code.p (ref29_Code.g ref29_Code) := fn2 (ref29_Code.eq ref29_start) Try.func16 (by kernel_rfl) (.cons ref29_start.ok .nil) [] (by kernel_rfl) .nil
/-- function 17: the loop in block 0 -/
abbrev T_ref13_At_L0 : Type := Tc9 → Int → Bool → Int → Tc0 → Tc0 → (Bool → Tc0 → Tc0 → Option Bool) → Option Bool
noncomputable def ref13_At_L0.body (ref13_At_L0 : T_ref13_At_L0) : T_ref13_At_L0 := fun ts1232 n1233 b1234 n1235 t1236 t1237 k1 =>
  (cond_ (decide (n1235 < (List.length ts1232 : Int))) (cond_ ((decide ((0 : Int) ≤ n1235)) && (decide (n1235 < (List.length ts1232 : Int)))) (cond_ (decide ((List.getD ts1232 (Int.toNat n1235) (0, (0, (0, (false, (0, ())))))).1 ≤ n1233)) (cond_ ((decide ((0 : Int) ≤ n1235)) && (decide (n1235 < (List.length ts1232 : Int)))) (ref13_At_L0 ts1232 n1233 true (IntKind.wrap .i64 (n1235 + (1 : Int))) t1236 ((List.getD ts1232 (Int.toNat n1235) (0, (0, (0, (false, (0, ())))))).2.1, ((List.getD ts1232 (Int.toNat n1235) (0, (0, (0, (false, (0, ())))))).2.2.1, ((List.getD ts1232 (Int.toNat n1235) (0, (0, (0, (false, (0, ())))))).2.2.2.1, ((List.getD ts1232 (Int.toNat n1235) (0, (0, (0, (false, (0, ())))))).2.2.2.2.1, ())))) k1) none) (k1 b1234 t1236 t1237)) none) (k1 b1234 t1236 t1237))
noncomputable def ref13_At_L0 : Nat → T_ref13_At_L0
  | 0 => fun _ _ _ _ _ _ _ => none
  | n + 1 => ref13_At_L0.body (ref13_At_L0 n)
def ref13_At_L0.p : LPat := lp 2 32 [0, 1, 4, 6, 7, 8] (pl (pb 1 73 Ty11) (pl (pd (.int .i64)) (ps (pq [1, 0] 0 0) (ps (pq [1, 1] 0 0) (pl (pd .bool) (pl (pd (.int .i64)) pz)))))) (pl (po [1, 0] 47 4 (es Ty9 (pl eh pz))) (pl (po [1, 1] 47 4 (es Ty9 (pl eh pz))) pz))
def ref13_At_L0.g (F : T_ref13_At_L0) (v : ref13_At_L0.p.T) (k : KE) : Option Bool := F v.1.1 v.1.2.1 v.1.2.2.1 v.1.2.2.2.1 v.2.1.1 v.2.2.1.1 (fun y0 y1 y2 => k (.exit 0) ⟨fillS 32 [4, 6, 7] [(.ptr [1, 0] 0 0), (.ptr [1, 1] 0 0), (.d ⟨.bool, y0⟩)], [([1, 0], ⟨47, 4, (.data Ty9 [y1])⟩), ([1, 1], ⟨47, 4, (.data Ty9 [y2])⟩)], 2⟩)
theorem ref13_At_L0.step (S : T_ref13_At_L0) : ∀ v k, exR 17 Try.f17 0 ref13_At_L0.p [] [] [] (ref13_At_L0.g S) v k = ref13_At_L0.g (ref13_At_L0.body S) v k := fun v k => by kernel_rfl
theorem ref13_At_L0.ok : okL 17 Try.f17 0 0 ref13_At_L0.p (ref13_At_L0.g (ref13_At_L0 ROUNDS)) := loop2 (G := fun n => ref13_At_L0.g (ref13_At_L0 n)) (fun n => ref13_At_L0.step (ref13_At_L0 n)) .nil [] (by kernel_rfl) .nil (fun _ _ => rfl)
/-- function 17: sheerleg/sheerlegref13.At -/
abbrev T_ref13_At : Type := Tc9 → Int → (Tc0 → Bool → Option Bool) → Option Bool
noncomputable def ref13_At.body (ref13_At_L0 : T_ref13_At_L0) : T_ref13_At := fun ts1230 n1231 k1 =>
  (ref13_At_L0 ts1230 n1231 false (0 : Int) (0, (0, (false, (0, ())))) (0, (0, (false, (0, ()))))
  (fun b1238 t1239 t1240 => (k1 t1240 b1238)))
noncomputable def ref13_At : T_ref13_At := ref13_At.body (ref13_At_L0 ROUNDS)
def ref13_At.p : FPat := fp 17 (pl (pb 1 73 Ty11) (pl (pd (.int .i64)) pz)) pz
def ref13_At.g (F : T_ref13_At) (v : ref13_At.p.T) (k : KR) : Option Bool := F v.1.1 v.1.2.1 (fun y0 y1 => k (.tup [(.d ⟨Ty9, y0⟩), (.d ⟨.bool, y1⟩)]) [])
theorem ref13_At.eq (L0 : T_ref13_At_L0) : ∀ v k, exF Try.f17 ref13_At.p [] [] [⟨0, ref13_At_L0.p, ref13_At_L0.g L0⟩] v k = ref13_At.g (ref13_At.body L0) v k := fun v k => by kernel_rfl
theorem ref13_At.ok : okF 1 ref13_At.p (ref13_At.g ref13_At) := fn2 (ref13_At.eq (ref13_At_L0 ROUNDS)) Try.func17 (by kernel_rfl) .nil [0] (by kernel_rfl) (.cons ref13_At_L0.ok .nil)
/-- function 26: the loop in block 0 -/
abbrev T_slices_IndexFunc_api_Fn_api_Fnv1_L0 : Type := Tc10 → Int → Int → Int → (Int → Int → Option Bool) → (Int → Option Bool) → Option Bool
noncomputable def slices_IndexFunc_api_Fn_api_Fnv1_L0.body (slices_IndexFunc_api_Fn_api_Fnv1_L0 : T_slices_IndexFunc_api_Fn_api_Fnv1_L0) (table_Sourcefn1 : T_table_Sourcefn1) : T_slices_IndexFunc_api_Fn_api_Fnv1_L0 := fun ts1247 n1248 n1249 n1250 k1 k2 =>
  (cond_ (decide (n1249 < n1248)) (cond_ ((decide ((0 : Int) ≤ n1249)) && (decide (n1249 < (List.length ts1247 : Int)))) (table_Sourcefn1 (List.getD ts1247 (Int.toNat n1249) (0, (0, (0, (0, (0, (0, ()))))))) n1250
  (fun b1251 n1252 => (cond_ b1251 (k1 n1249 n1252) (slices_IndexFunc_api_Fn_api_Fnv1_L0 ts1247 n1248 (IntKind.wrap .i64 (n1249 + (1 : Int))) n1252 k1 k2)))) none) (k2 n1250))
noncomputable def slices_IndexFunc_api_Fn_api_Fnv1_L0 : Nat → T_slices_IndexFunc_api_Fn_api_Fnv1_L0
  | 0 => fun _ _ _ _ _ _ => none
  | n + 1 => slices_IndexFunc_api_Fn_api_Fnv1_L0.body (slices_IndexFunc_api_Fn_api_Fnv1_L0 n) table_Sourcefn1
def slices_IndexFunc_api_Fn_api_Fnv1_L0.p : LPat := lp 2 19 [0, 1, 7, 8] (pl (pb 1 52 Ty15) (pl (pf 27 pz (ps (pq [0, 0] 0 0) pz)) (pl (pd (.int .i64)) (pl (pd (.int .i64)) pz)))) (pl (po [0, 0] 3 1 (es (.int .i64) (pl eh pz))) pz)
def slices_IndexFunc_api_Fn_api_Fnv1_L0.g (F : T_slices_IndexFunc_api_Fn_api_Fnv1_L0) (v : slices_IndexFunc_api_Fn_api_Fnv1_L0.p.T) (k : KE) : Option Bool := F v.1.1 v.1.2.2.1 v.1.2.2.2.1 v.2.1.1 (fun y0 y1 => k .ret ⟨fillS 19 [4] [(.d ⟨(.int .i64), y0⟩)], [([0, 0], ⟨3, 1, (.data (.int .i64) [y1])⟩)], 2⟩) (fun y0 => k (.exit 0) ⟨fillS 19 [] [], [([0, 0], ⟨3, 1, (.data (.int .i64) [y0])⟩)], 2⟩)
theorem slices_IndexFunc_api_Fn_api_Fnv1_L0.step (S : T_slices_IndexFunc_api_Fn_api_Fnv1_L0) (F0 : T_table_Sourcefn1) : ∀ v k, exR 26 Try.f26 0 slices_IndexFunc_api_Fn_api_Fnv1_L0.p [⟨table_Sourcefn1.p, table_Sourcefn1.g F0⟩] [] [] (slices_IndexFunc_api_Fn_api_Fnv1_L0.g S) v k = slices_IndexFunc_api_Fn_api_Fnv1_L0.g (slices_IndexFunc_api_Fn_api_Fnv1_L0.body S F0) v k := fun v k => by kernel_rfl
theorem slices_IndexFunc_api_Fn_api_Fnv1_L0.ok : okL 26 Try.f26 1 0 slices_IndexFunc_api_Fn_api_Fnv1_L0.p (slices_IndexFunc_api_Fn_api_Fnv1_L0.g (slices_IndexFunc_api_Fn_api_Fnv1_L0 ROUNDS)) := loop2 (G := fun n => slices_IndexFunc_api_Fn_api_Fnv1_L0.g (slices_IndexFunc_api_Fn_api_Fnv1_L0 n)) (fun n => slices_IndexFunc_api_Fn_api_Fnv1_L0.step (slices_IndexFunc_api_Fn_api_Fnv1_L0 n) table_Sourcefn1) (.cons table_Sourcefn1.ok .nil) [] (by kernel_rfl) .nil (fun _ _ => rfl)
/-- function 26: slices.IndexFunc[[]sheerleg/api.Fn,sheerleg/api.Fn] -/
abbrev T_slices_IndexFunc_api_Fn_api_Fnv1 : Type := Tc10 → Int → (Int → Int → Option Bool) → Option Bool
noncomputable def slices_IndexFunc_api_Fn_api_Fnv1.body (slices_IndexFunc_api_Fn_api_Fnv1_L0 : T_slices_IndexFunc_api_Fn_api_Fnv1_L0) : T_slices_IndexFunc_api_Fn_api_Fnv1 := fun ts1245 n1246 k1 =>
  (slices_IndexFunc_api_Fn_api_Fnv1_L0 ts1245 (List.length ts1245 : Int) (0 : Int) n1246
  (fun n1253 n1254 => (k1 n1253 n1254))
  (fun n1255 => (k1 (-1 : Int) n1255)))
noncomputable def slices_IndexFunc_api_Fn_api_Fnv1 : T_slices_IndexFunc_api_Fn_api_Fnv1 := slices_IndexFunc_api_Fn_api_Fnv1.body (slices_IndexFunc_api_Fn_api_Fnv1_L0 ROUNDS)
def slices_IndexFunc_api_Fn_api_Fnv1.p : FPat := fp 26 (pl (pb 1 52 Ty15) (pl (pf 27 pz (ps (pq [0, 0] 0 0) pz)) pz)) (pl (po [0, 0] 3 1 (es (.int .i64) (pl eh pz))) pz)
def slices_IndexFunc_api_Fn_api_Fnv1.g (F : T_slices_IndexFunc_api_Fn_api_Fnv1) (v : slices_IndexFunc_api_Fn_api_Fnv1.p.T) (k : KR) : Option Bool := F v.1.1 v.2.1.1 (fun y0 y1 => k (.d ⟨(.int .i64), y0⟩) [([0, 0], ⟨3, 1, (.data (.int .i64) [y1])⟩)])
theorem slices_IndexFunc_api_Fn_api_Fnv1.eq (L0 : T_slices_IndexFunc_api_Fn_api_Fnv1_L0) : ∀ v k, exF Try.f26 slices_IndexFunc_api_Fn_api_Fnv1.p [] [] [⟨0, slices_IndexFunc_api_Fn_api_Fnv1_L0.p, slices_IndexFunc_api_Fn_api_Fnv1_L0.g L0⟩] v k = slices_IndexFunc_api_Fn_api_Fnv1.g (slices_IndexFunc_api_Fn_api_Fnv1.body L0) v k := fun v k => by kernel_rfl
theorem slices_IndexFunc_api_Fn_api_Fnv1.ok : okF 2 slices_IndexFunc_api_Fn_api_Fnv1.p (slices_IndexFunc_api_Fn_api_Fnv1.g slices_IndexFunc_api_Fn_api_Fnv1) := fn2 (slices_IndexFunc_api_Fn_api_Fnv1.eq (slices_IndexFunc_api_Fn_api_Fnv1_L0 ROUNDS)) Try.func26 (by kernel_rfl) .nil [0] (by kernel_rfl) (.cons slices_IndexFunc_api_Fn_api_Fnv1_L0.ok .nil)
/-- function 7: sheerleg/table.Source -/
abbrev T_table_Sourcev1 : Type := Tc10 → Int → (Int → Int → Bool → Option Bool) → Option Bool
noncomputable def table_Sourcev1.body (slices_IndexFunc_api_Fn_api_Fnv1 : T_slices_IndexFunc_api_Fn_api_Fnv1) : T_table_Sourcev1 := fun ts1243 n1244 k1 =>
  (slices_IndexFunc_api_Fn_api_Fnv1 ts1243 n1244
  (fun n1256 n1257 => (cond_ (decide (n1256 < (0 : Int))) (k1 (0 : Int) (0 : Int) false) (cond_ ((decide ((0 : Int) ≤ n1256)) && (decide (n1256 < (List.length ts1243 : Int)))) (k1 n1256 (IntKind.wrap .i64 (n1257 - (List.getD ts1243 (Int.toNat n1256) (0, (0, (0, (0, (0, (0, ()))))))).2.2.2.1)) true) none))))
noncomputable def table_Sourcev1 : T_table_Sourcev1 := table_Sourcev1.body slices_IndexFunc_api_Fn_api_Fnv1
def table_Sourcev1.p : FPat := fp 7 (pl (pb 1 52 Ty15) (pl (pd (.int .i64)) pz)) pz
def table_Sourcev1.g (F : T_table_Sourcev1) (v : table_Sourcev1.p.T) (k : KR) : Option Bool := F v.1.1 v.1.2.1 (fun y0 y1 y2 => k (.tup [(.d ⟨(.int .i64), y0⟩), (.d ⟨(.int .i64), y1⟩), (.d ⟨.bool, y2⟩)]) [])
theorem table_Sourcev1.eq (F0 : T_slices_IndexFunc_api_Fn_api_Fnv1) : ∀ v k, exF Try.f7 table_Sourcev1.p [⟨slices_IndexFunc_api_Fn_api_Fnv1.p, slices_IndexFunc_api_Fn_api_Fnv1.g F0⟩] [] [] v k = table_Sourcev1.g (table_Sourcev1.body F0) v k := fun v k => by kernel_rfl
theorem table_Sourcev1.ok : okF 3 table_Sourcev1.p (table_Sourcev1.g table_Sourcev1) := fn2 (table_Sourcev1.eq slices_IndexFunc_api_Fn_api_Fnv1) Try.func7 (by kernel_rfl) (.cons slices_IndexFunc_api_Fn_api_Fnv1.ok .nil) [] (by kernel_rfl) .nil
/-- function 18: the loop in block 0 -/
abbrev T_ref24_Fun_L0 : Type := Int → Int → Int → Tc22 → (Int → Option Bool) → (Option Bool) → Option Bool
noncomputable def ref24_Fun_L0.body (ref24_Fun_L0 : T_ref24_Fun_L0) : T_ref24_Fun_L0 := fun n1264 n1265 n1266 t1267 k1 k2 =>
  (cond_ (decide (n1266 < (((List.length t1267.1) : Nat) : Int))) (cond_ ((decide ((0 : Int) ≤ n1266)) && (decide (n1266 < (((List.length t1267.1) : Nat) : Int)))) (cond_ ((List.getD t1267.1 (Int.toNat n1266) (0, (0, ((⟨#[]⟩ : ByteArray), (0, ([], (0, (false, (0, (0, ([], ([], ([], ([], ())))))))))))))).1 == n1264) (cond_ ((decide ((0 : Int) ≤ n1266)) && (decide (n1266 < (((List.length t1267.1) : Nat) : Int)))) (cond_ ((List.getD t1267.1 (Int.toNat n1266) (0, (0, ((⟨#[]⟩ : ByteArray), (0, ([], (0, (false, (0, (0, ([], ([], ([], ([], ())))))))))))))).2.1 == n1265) (k1 n1266) (ref24_Fun_L0 n1264 n1265 (IntKind.wrap .i64 (n1266 + (1 : Int))) t1267 k1 k2)) none) (ref24_Fun_L0 n1264 n1265 (IntKind.wrap .i64 (n1266 + (1 : Int))) t1267 k1 k2)) none) (k2))
noncomputable def ref24_Fun_L0 : Nat → T_ref24_Fun_L0
  | 0 => fun _ _ _ _ _ _ => none
  | n + 1 => ref24_Fun_L0.body (ref24_Fun_L0 n)
def ref24_Fun_L0.p : LPat := lp 2 34 [1, 2, 3, 7] (pl (pd (.int .i64)) (pl (pd (.int .i64)) (ps (pq [1, 0] 0 0) (pl (pd (.int .i64)) pz)))) (pl (po [1, 0] 31 3 (es Ty26 (pl eh pz))) pz)
def ref24_Fun_L0.g (F : T_ref24_Fun_L0) (v : ref24_Fun_L0.p.T) (k : KE) : Option Bool := F v.1.1 v.1.2.1 v.1.2.2.1 v.2.1.1 (fun y0 => k .ret ⟨fillS 34 [6] [(.d ⟨(.int .i64), y0⟩)], [], 2⟩) (k (.exit 0) ⟨fillS 34 [] [], [], 2⟩)
theorem ref24_Fun_L0.step (S : T_ref24_Fun_L0) : ∀ v k, exR 18 Try.f18 0 ref24_Fun_L0.p [] [] [] (ref24_Fun_L0.g S) v k = ref24_Fun_L0.g (ref24_Fun_L0.body S) v k := fun v k => by kernel_rfl
theorem ref24_Fun_L0.ok : okL 18 Try.f18 0 0 ref24_Fun_L0.p (ref24_Fun_L0.g (ref24_Fun_L0 ROUNDS)) := loop2 (G := fun n => ref24_Fun_L0.g (ref24_Fun_L0 n)) (fun n => ref24_Fun_L0.step (ref24_Fun_L0 n)) .nil [] (by kernel_rfl) .nil (fun _ _ => rfl)
/-- function 18: sheerleg/sheerlegref24.Fun -/
abbrev T_ref24_Fun : Type := Tc22 → Int → Int → (Int → Option Bool) → Option Bool
noncomputable def ref24_Fun.body (ref24_Fun_L0 : T_ref24_Fun_L0) : T_ref24_Fun := fun t1261 n1262 n1263 k1 =>
  (ref24_Fun_L0 n1262 n1263 (0 : Int) t1261
  (fun n1268 => (k1 n1268))
  (k1 (-1 : Int)))
noncomputable def ref24_Fun : T_ref24_Fun := ref24_Fun.body (ref24_Fun_L0 ROUNDS)
def ref24_Fun.p : FPat := fp 18 (pl (pd Ty26) (pl (pd (.int .i64)) (pl (pd (.int .i64)) pz))) pz
def ref24_Fun.g (F : T_ref24_Fun) (v : ref24_Fun.p.T) (k : KR) : Option Bool := F v.1.1 v.1.2.1 v.1.2.2.1 (fun y0 => k (.d ⟨(.int .i64), y0⟩) [])
theorem ref24_Fun.eq (L0 : T_ref24_Fun_L0) : ∀ v k, exF Try.f18 ref24_Fun.p [] [] [⟨0, ref24_Fun_L0.p, ref24_Fun_L0.g L0⟩] v k = ref24_Fun.g (ref24_Fun.body L0) v k := fun v k => by kernel_rfl
theorem ref24_Fun.ok : okF 1 ref24_Fun.p (ref24_Fun.g ref24_Fun) := fn2 (ref24_Fun.eq (ref24_Fun_L0 ROUNDS)) Try.func18 (by kernel_rfl) .nil [0] (by kernel_rfl) (.cons ref24_Fun_L0.ok .nil)
/-- function 4: the loop in block 0 -/
abbrev T_law33_TableFinds_L0 : Type := Int → Tc2 → Tc19 → Tc15 → Int → Tc9 → Tc10 → (Bool → Option Bool) → (Option Bool) → Option Bool
noncomputable def law33_TableFinds_L0.body (law33_TableFinds_L0 : T_law33_TableFinds_L0) (ref29_Code : T_ref29_Code) (ref13_At : T_ref13_At) (table_Sourcev1 : T_table_Sourcev1) (ref24_Fun : T_ref24_Fun) (ref16_Frame : T_ref16_Frame) (ref18_In : T_ref18_In) (ref16_Line : T_ref16_Line) : T_law33_TableFinds_L0 := fun n1219 t1220 l1221 l1222 n1223 ts1224 ts1225 k1 k2 =>
  (ref29_Code (l1221, (l1222, (n1223, ()))) t1220
  (fun n1229 => (cond_ (decide (n1219 < n1229)) (ref13_At ts1224 n1219
  (fun t1241 b1242 => (table_Sourcev1 ts1225 n1219
  (fun n1258 n1259 b1260 => (cond_ (! (! b1242)) (cond_ b1260 (cond_ (! (decide (n1258 < (0 : Int)))) (cond_ (decide (n1258 ≥ (List.length ts1225 : Int))) (k1 false) (cond_ (! b1260) (cond_ (! (t1241.2.1 != (0 : Int))) (cond_ (! t1241.2.2.1) (cond_ (t1241.2.2.2.1 != (0 : Int)) (k1 false) (law33_TableFinds_L0 (IntKind.wrap .i64 (n1219 + (1 : Int))) t1220 l1221 l1222 n1223 ts1224 ts1225 k1 k2)) (k1 false)) (k1 false)) (cond_ ((decide ((0 : Int) ≤ n1258)) && (decide (n1258 < (List.length ts1225 : Int)))) (cond_ ((decide ((0 : Int) ≤ n1258)) && (decide (n1258 < (List.length ts1225 : Int)))) (ref24_Fun (l1221, (l1222, (n1223, ()))) (List.getD ts1225 (Int.toNat n1258) (0, (0, (0, (0, (0, (0, ()))))))).1 (List.getD ts1225 (Int.toNat n1258) (0, (0, (0, (0, (0, (0, ()))))))).2.1
  (fun n1269 => (cond_ ((decide ((0 : Int) ≤ n1269)) && (decide (n1269 < (List.length l1221 : Int)))) (cond_ (! (t1241.1 != (IntKind.wrap .i64 (n1258 + (1 : Int))))) (ref16_Frame ((List.getD l1221 (Int.toNat n1269) (0, (0, ((⟨#[]⟩ : ByteArray), (0, ([], (0, (false, (0, (0, ([], ([], ([], ([], ())))))))))))))).2.2.2.1, ((List.getD l1221 (Int.toNat n1269) (0, (0, ((⟨#[]⟩ : ByteArray), (0, ([], (0, (false, (0, (0, ([], ([], ([], ([], ())))))))))))))).2.2.2.2.1, ((List.getD l1221 (Int.toNat n1269) (0, (0, ((⟨#[]⟩ : ByteArray), (0, ([], (0, (false, (0, (0, ([], ([], ([], ([], ())))))))))))))).2.2.2.2.2.1, ((List.getD l1221 (Int.toNat n1269) (0, (0, ((⟨#[]⟩ : ByteArray), (0, ([], (0, (false, (0, (0, ([], ([], ([], ([], ())))))))))))))).2.2.2.2.2.2.1, ((List.getD l1221 (Int.toNat n1269) (0, (0, ((⟨#[]⟩ : ByteArray), (0, ([], (0, (false, (0, (0, ([], ([], ([], ([], ())))))))))))))).2.2.2.2.2.2.2.1, ((List.getD l1221 (Int.toNat n1269) (0, (0, ((⟨#[]⟩ : ByteArray), (0, ([], (0, (false, (0, (0, ([], ([], ([], ([], ())))))))))))))).2.2.2.2.2.2.2.2.1, ((List.getD l1221 (Int.toNat n1269) (0, (0, ((⟨#[]⟩ : ByteArray), (0, ([], (0, (false, (0, (0, ([], ([], ([], ([], ())))))))))))))).2.2.2.2.2.2.2.2.2.1, ((List.getD l1221 (Int.toNat n1269) (0, (0, ((⟨#[]⟩ : ByteArray), (0, ([], (0, (false, (0, (0, ([], ([], ([], ([], ())))))))))))))).2.2.2.2.2.2.2.2.2.2.1, ((List.getD l1221 (Int.toNat n1269) (0, (0, ((⟨#[]⟩ : ByteArray), (0, ([], (0, (false, (0, (0, ([], ([], ([], ([], ())))))))))))))).2.2.2.2.2.2.2.2.2.2.2.1, ())))))))))
  (fun n1270 => (cond_ (! (t1241.2.1 != n1270)) (ref18_In ((List.getD l1221 (Int.toNat n1269) (0, (0, ((⟨#[]⟩ : ByteArray), (0, ([], (0, (false, (0, (0, ([], ([], ([], ([], ())))))))))))))).2.2.2.1, ((List.getD l1221 (Int.toNat n1269) (0, (0, ((⟨#[]⟩ : ByteArray), (0, ([], (0, (false, (0, (0, ([], ([], ([], ([], ())))))))))))))).2.2.2.2.1, ((List.getD l1221 (Int.toNat n1269) (0, (0, ((⟨#[]⟩ : ByteArray), (0, ([], (0, (false, (0, (0, ([], ([], ([], ([], ())))))))))))))).2.2.2.2.2.1, ((List.getD l1221 (Int.toNat n1269) (0, (0, ((⟨#[]⟩ : ByteArray), (0, ([], (0, (false, (0, (0, ([], ([], ([], ([], ())))))))))))))).2.2.2.2.2.2.1, ((List.getD l1221 (Int.toNat n1269) (0, (0, ((⟨#[]⟩ : ByteArray), (0, ([], (0, (false, (0, (0, ([], ([], ([], ([], ())))))))))))))).2.2.2.2.2.2.2.1, ((List.getD l1221 (Int.toNat n1269) (0, (0, ((⟨#[]⟩ : ByteArray), (0, ([], (0, (false, (0, (0, ([], ([], ([], ([], ())))))))))))))).2.2.2.2.2.2.2.2.1, ((List.getD l1221 (Int.toNat n1269) (0, (0, ((⟨#[]⟩ : ByteArray), (0, ([], (0, (false, (0, (0, ([], ([], ([], ([], ())))))))))))))).2.2.2.2.2.2.2.2.2.1, ((List.getD l1221 (Int.toNat n1269) (0, (0, ((⟨#[]⟩ : ByteArray), (0, ([], (0, (false, (0, (0, ([], ([], ([], ([], ())))))))))))))).2.2.2.2.2.2.2.2.2.2.1, ((List.getD l1221 (Int.toNat n1269) (0, (0, ((⟨#[]⟩ : ByteArray), (0, ([], (0, (false, (0, (0, ([], ([], ([], ([], ())))))))))))))).2.2.2.2.2.2.2.2.2.2.2.1, ()))))))))) n1259
  (fun b1271 => (cond_ (! (! (t1241.2.2.1 == b1271))) (ref16_Line ((List.getD l1221 (Int.toNat n1269) (0, (0, ((⟨#[]⟩ : ByteArray), (0, ([], (0, (false, (0, (0, ([], ([], ([], ([], ())))))))))))))).2.2.2.1, ((List.getD l1221 (Int.toNat n1269) (0, (0, ((⟨#[]⟩ : ByteArray), (0, ([], (0, (false, (0, (0, ([], ([], ([], ([], ())))))))))))))).2.2.2.2.1, ((List.getD l1221 (Int.toNat n1269) (0, (0, ((⟨#[]⟩ : ByteArray), (0, ([], (0, (false, (0, (0, ([], ([], ([], ([], ())))))))))))))).2.2.2.2.2.1, ((List.getD l1221 (Int.toNat n1269) (0, (0, ((⟨#[]⟩ : ByteArray), (0, ([], (0, (false, (0, (0, ([], ([], ([], ([], ())))))))))))))).2.2.2.2.2.2.1, ((List.getD l1221 (Int.toNat n1269) (0, (0, ((⟨#[]⟩ : ByteArray), (0, ([], (0, (false, (0, (0, ([], ([], ([], ([], ())))))))))))))).2.2.2.2.2.2.2.1, ((List.getD l1221 (Int.toNat n1269) (0, (0, ((⟨#[]⟩ : ByteArray), (0, ([], (0, (false, (0, (0, ([], ([], ([], ([], ())))))))))))))).2.2.2.2.2.2.2.2.1, ((List.getD l1221 (Int.toNat n1269) (0, (0, ((⟨#[]⟩ : ByteArray), (0, ([], (0, (false, (0, (0, ([], ([], ([], ([], ())))))))))))))).2.2.2.2.2.2.2.2.2.1, ((List.getD l1221 (Int.toNat n1269) (0, (0, ((⟨#[]⟩ : ByteArray), (0, ([], (0, (false, (0, (0, ([], ([], ([], ([], ())))))))))))))).2.2.2.2.2.2.2.2.2.2.1, ((List.getD l1221 (Int.toNat n1269) (0, (0, ((⟨#[]⟩ : ByteArray), (0, ([], (0, (false, (0, (0, ([], ([], ([], ([], ())))))))))))))).2.2.2.2.2.2.2.2.2.2.2.1, ()))))))))) n1259
  (fun n1272 => (cond_ (t1241.2.2.2.1 != n1272) (k1 false) (law33_TableFinds_L0 (IntKind.wrap .i64 (n1219 + (1 : Int))) t1220 l1221 l1222 n1223 ts1224 ts1225 k1 k2)))) (k1 false)))) (k1 false)))) (k1 false)) none))) none) none))) (k1 false)) (cond_ (! b1260) (cond_ (! (t1241.2.1 != (0 : Int))) (cond_ (! t1241.2.2.1) (cond_ (t1241.2.2.2.1 != (0 : Int)) (k1 false) (law33_TableFinds_L0 (IntKind.wrap .i64 (n1219 + (1 : Int))) t1220 l1221 l1222 n1223 ts1224 ts1225 k1 k2)) (k1 false)) (k1 false)) (cond_ ((decide ((0 : Int) ≤ n1258)) && (decide (n1258 < (List.length ts1225 : Int)))) (cond_ ((decide ((0 : Int) ≤ n1258)) && (decide (n1258 < (List.length ts1225 : Int)))) (ref24_Fun (l1221, (l1222, (n1223, ()))) (List.getD ts1225 (Int.toNat n1258) (0, (0, (0, (0, (0, (0, ()))))))).1 (List.getD ts1225 (Int.toNat n1258) (0, (0, (0, (0, (0, (0, ()))))))).2.1
  (fun n1273 => (cond_ ((decide ((0 : Int) ≤ n1273)) && (decide (n1273 < (List.length l1221 : Int)))) (cond_ (! (t1241.1 != (IntKind.wrap .i64 (n1258 + (1 : Int))))) (ref16_Frame ((List.getD l1221 (Int.toNat n1273) (0, (0, ((⟨#[]⟩ : ByteArray), (0, ([], (0, (false, (0, (0, ([], ([], ([], ([], ())))))))))))))).2.2.2.1, ((List.getD l1221 (Int.toNat n1273) (0, (0, ((⟨#[]⟩ : ByteArray), (0, ([], (0, (false, (0, (0, ([], ([], ([], ([], ())))))))))))))).2.2.2.2.1, ((List.getD l1221 (Int.toNat n1273) (0, (0, ((⟨#[]⟩ : ByteArray), (0, ([], (0, (false, (0, (0, ([], ([], ([], ([], ())))))))))))))).2.2.2.2.2.1, ((List.getD l1221 (Int.toNat n1273) (0, (0, ((⟨#[]⟩ : ByteArray), (0, ([], (0, (false, (0, (0, ([], ([], ([], ([], ())))))))))))))).2.2.2.2.2.2.1, ((List.getD l1221 (Int.toNat n1273) (0, (0, ((⟨#[]⟩ : ByteArray), (0, ([], (0, (false, (0, (0, ([], ([], ([], ([], ())))))))))))))).2.2.2.2.2.2.2.1, ((List.getD l1221 (Int.toNat n1273) (0, (0, ((⟨#[]⟩ : ByteArray), (0, ([], (0, (false, (0, (0, ([], ([], ([], ([], ())))))))))))))).2.2.2.2.2.2.2.2.1, ((List.getD l1221 (Int.toNat n1273) (0, (0, ((⟨#[]⟩ : ByteArray), (0, ([], (0, (false, (0, (0, ([], ([], ([], ([], ())))))))))))))).2.2.2.2.2.2.2.2.2.1, ((List.getD l1221 (Int.toNat n1273) (0, (0, ((⟨#[]⟩ : ByteArray), (0, ([], (0, (false, (0, (0, ([], ([], ([], ([], ())))))))))))))).2.2.2.2.2.2.2.2.2.2.1, ((List.getD l1221 (Int.toNat n1273) (0, (0, ((⟨#[]⟩ : ByteArray), (0, ([], (0, (false, (0, (0, ([], ([], ([], ([], ())))))))))))))).2.2.2.2.2.2.2.2.2.2.2.1, ())))))))))
  (fun n1274 => (cond_ (! (t1241.2.1 != n1274)) (ref18_In ((List.getD l1221 (Int.toNat n1273) (0, (0, ((⟨#[]⟩ : ByteArray), (0, ([], (0, (false, (0, (0, ([], ([], ([], ([], ())))))))))))))).2.2.2.1, ((List.getD l1221 (Int.toNat n1273) (0, (0, ((⟨#[]⟩ : ByteArray), (0, ([], (0, (false, (0, (0, ([], ([], ([], ([], ())))))))))))))).2.2.2.2.1, ((List.getD l1221 (Int.toNat n1273) (0, (0, ((⟨#[]⟩ : ByteArray), (0, ([], (0, (false, (0, (0, ([], ([], ([], ([], ())))))))))))))).2.2.2.2.2.1, ((List.getD l1221 (Int.toNat n1273) (0, (0, ((⟨#[]⟩ : ByteArray), (0, ([], (0, (false, (0, (0, ([], ([], ([], ([], ())))))))))))))).2.2.2.2.2.2.1, ((List.getD l1221 (Int.toNat n1273) (0, (0, ((⟨#[]⟩ : ByteArray), (0, ([], (0, (false, (0, (0, ([], ([], ([], ([], ())))))))))))))).2.2.2.2.2.2.2.1, ((List.getD l1221 (Int.toNat n1273) (0, (0, ((⟨#[]⟩ : ByteArray), (0, ([], (0, (false, (0, (0, ([], ([], ([], ([], ())))))))))))))).2.2.2.2.2.2.2.2.1, ((List.getD l1221 (Int.toNat n1273) (0, (0, ((⟨#[]⟩ : ByteArray), (0, ([], (0, (false, (0, (0, ([], ([], ([], ([], ())))))))))))))).2.2.2.2.2.2.2.2.2.1, ((List.getD l1221 (Int.toNat n1273) (0, (0, ((⟨#[]⟩ : ByteArray), (0, ([], (0, (false, (0, (0, ([], ([], ([], ([], ())))))))))))))).2.2.2.2.2.2.2.2.2.2.1, ((List.getD l1221 (Int.toNat n1273) (0, (0, ((⟨#[]⟩ : ByteArray), (0, ([], (0, (false, (0, (0, ([], ([], ([], ([], ())))))))))))))).2.2.2.2.2.2.2.2.2.2.2.1, ()))))))))) n1259
  (fun b1275 => (cond_ (! (! (t1241.2.2.1 == b1275))) (ref16_Line ((List.getD l1221 (Int.toNat n1273) (0, (0, ((⟨#[]⟩ : ByteArray), (0, ([], (0, (false, (0, (0, ([], ([], ([], ([], ())))))))))))))).2.2.2.1, ((List.getD l1221 (Int.toNat n1273) (0, (0, ((⟨#[]⟩ : ByteArray), (0, ([], (0, (false, (0, (0, ([], ([], ([], ([], ())))))))))))))).2.2.2.2.1, ((List.getD l1221 (Int.toNat n1273) (0, (0, ((⟨#[]⟩ : ByteArray), (0, ([], (0, (false, (0, (0, ([], ([], ([], ([], ())))))))))))))).2.2.2.2.2.1, ((List.getD l1221 (Int.toNat n1273) (0, (0, ((⟨#[]⟩ : ByteArray), (0, ([], (0, (false, (0, (0, ([], ([], ([], ([], ())))))))))))))).2.2.2.2.2.2.1, ((List.getD l1221 (Int.toNat n1273) (0, (0, ((⟨#[]⟩ : ByteArray), (0, ([], (0, (false, (0, (0, ([], ([], ([], ([], ())))))))))))))).2.2.2.2.2.2.2.1, ((List.getD l1221 (Int.toNat n1273) (0, (0, ((⟨#[]⟩ : ByteArray), (0, ([], (0, (false, (0, (0, ([], ([], ([], ([], ())))))))))))))).2.2.2.2.2.2.2.2.1, ((List.getD l1221 (Int.toNat n1273) (0, (0, ((⟨#[]⟩ : ByteArray), (0, ([], (0, (false, (0, (0, ([], ([], ([], ([], ())))))))))))))).2.2.2.2.2.2.2.2.2.1, ((List.getD l1221 (Int.toNat n1273) (0, (0, ((⟨#[]⟩ : ByteArray), (0, ([], (0, (false, (0, (0, ([], ([], ([], ([], ())))))))))))))).2.2.2.2.2.2.2.2.2.2.1, ((List.getD l1221 (Int.toNat n1273) (0, (0, ((⟨#[]⟩ : ByteArray), (0, ([], (0, (false, (0, (0, ([], ([], ([], ([], ())))))))))))))).2.2.2.2.2.2.2.2.2.2.2.1, ()))))))))) n1259
  (fun n1276 => (cond_ (t1241.2.2.2.1 != n1276) (k1 false) (law33_TableFinds_L0 (IntKind.wrap .i64 (n1219 + (1 : Int))) t1220 l1221 l1222 n1223 ts1224 ts1225 k1 k2)))) (k1 false)))) (k1 false)))) (k1 false)) none))) none) none))) (k1 false)))))) (k2))))
noncomputable def law33_TableFinds_L0 : Nat → T_law33_TableFinds_L0
  | 0 => fun _ _ _ _ _ _ _ _ _ => none
  | n + 1 => law33_TableFinds_L0.body (law33_TableFinds_L0 n) ref29_Code ref13_At table_Sourcev1 ref24_Fun ref16_Frame ref18_In ref16_Line
def law33_TableFinds_L0.p : LPat := lp 2 128 [3, 5, 7, 8, 9] (ps (pq [1, 0] 0 0) (ps (pq [1, 1] 0 0) (ps (pr [1, 2]) (ps (pr [1, 3]) (pl (pd (.int .i64)) pz))))) (pl (po [1, 0] 26 2 (es Ty6 (pl eh pz))) (pl (po [1, 1] 31 3 (em (pl (pa (pl (pd Ty23) (pl (pd Ty19) (pl (pd (.int .i64)) pz)))) pz))) (pl (po [1, 2] 73 5 (ed Ty11)) (pl (po [1, 3] 52 6 (ed Ty15)) pz))))
def law33_TableFinds_L0.g (F : T_law33_TableFinds_L0) (v : law33_TableFinds_L0.p.T) (k : KE) : Option Bool := F v.1.1 v.2.1.1 v.2.2.1.1.1 v.2.2.1.1.2.1 v.2.2.1.1.2.2.1 v.2.2.2.1 v.2.2.2.2.1 (fun y0 => k .ret ⟨fillS 128 [4] [(.d ⟨.bool, y0⟩)], [], 2⟩) (k (.exit 0) ⟨fillS 128 [] [], [], 2⟩)
theorem law33_TableFinds_L0.step (S : T_law33_TableFinds_L0) (F0 : T_ref29_Code) (F1 : T_ref13_At) (F2 : T_table_Sourcev1) (F3 : T_ref24_Fun) (F4 : T_ref16_Frame) (F5 : T_ref18_In) (F6 : T_ref16_Line) : ∀ v k, exR 4 Try.f4 0 law33_TableFinds_L0.p [⟨ref29_Code.p, ref29_Code.g F0⟩, ⟨ref13_At.p, ref13_At.g F1⟩, ⟨table_Sourcev1.p, table_Sourcev1.g F2⟩, ⟨ref24_Fun.p, ref24_Fun.g F3⟩, ⟨ref16_Frame.p, ref16_Frame.g F4⟩, ⟨ref18_In.p, ref18_In.g F5⟩, ⟨ref16_Line.p, ref16_Line.g F6⟩] [] [] (law33_TableFinds_L0.g S) v k = law33_TableFinds_L0.g (law33_TableFinds_L0.body S F0 F1 F2 F3 F4 F5 F6) v k := fun v k => by kernel_rfl
theorem law33_TableFinds_L0.ok : okL 4 Try.f4 4 0 law33_TableFinds_L0.p (law33_TableFinds_L0.g (law33_TableFinds_L0 ROUNDS)) := loop2 (G := fun n => law33_TableFinds_L0.g (law33_TableFinds_L0 n)) (fun n => law33_TableFinds_L0.step (law33_TableFinds_L0 n) ref29_Code ref13_At table_Sourcev1 ref24_Fun ref16_Frame ref18_In ref16_Line) (.cons ref29_Code.ok (.cons ref13_At.ok (.cons table_Sourcev1.ok (.cons ref24_Fun.ok (.cons ref16_Frame.ok (.cons ref18_In.ok (.cons ref16_Line.ok .nil))))))) [] (by kernel_rfl) .nil (fun _ _ => rfl)
/-- function 4: sheerleg/sheerleglaw33.TableFinds -/
abbrev T_law33_TableFinds : Type := Tc21 → Tc2 → (Bool → Option Bool) → Option Bool
noncomputable def law33_TableFinds.body (law32_Few : T_law32_Few) (law33_known : T_law33_known) (table_Make : T_table_Make) (ref29_Fns : T_ref29_Fns) (law33_TableFinds_L0 : T_law33_TableFinds_L0) : T_law33_TableFinds := fun ts1191 t1192 k1 =>
  (law32_Few ts1191 t1192
  (fun t1193 b1194 => (cond_ (! b1194) (law33_known
  (fun b1195 => (k1 b1195))) (table_Make (t1193.1, (t1193.2.1, (t1193.2.2.1, ()))) t1192
  (fun ts1196 => (ref29_Fns (t1193.1, (t1193.2.1, (t1193.2.2.1, ()))) t1192
  (fun ts1218 => (law33_TableFinds_L0 (0 : Int) t1192 t1193.1 t1193.2.1 t1193.2.2.1 ts1196 ts1218
  (fun b1277 => (k1 b1277))
  (law33_known
  (fun b1278 => (k1 b1278)))))))))))
noncomputable def law33_TableFinds : T_law33_TableFinds := law33_TableFinds.body law32_Few law33_known table_Make ref29_Fns (law33_TableFinds_L0 ROUNDS)
def law33_TableFinds.p : FPat := fp 4 (pl (pb 0 90 Ty24) (pl (pd Ty6) pz)) pz
def law33_TableFinds.g (F : T_law33_TableFinds) (v : law33_TableFinds.p.T) (k : KR) : Option Bool := F v.1.1 v.1.2.1 (fun y0 => k (.d ⟨.bool, y0⟩) [])
theorem law33_TableFinds.eq (F0 : T_law32_Few) (F1 : T_law33_known) (F2 : T_table_Make) (F3 : T_ref29_Fns) (L0 : T_law33_TableFinds_L0) : ∀ v k, exF Try.f4 law33_TableFinds.p [⟨law32_Few.p, law32_Few.g F0⟩, ⟨law33_known.p, law33_known.g F1⟩, ⟨table_Make.p, table_Make.g F2⟩, ⟨ref29_Fns.p, ref29_Fns.g F3⟩] [] [⟨0, law33_TableFinds_L0.p, law33_TableFinds_L0.g L0⟩] v k = law33_TableFinds.g (law33_TableFinds.body F0 F1 F2 F3 L0) v k := fun v k => by kernel_rfl
theorem law33_TableFinds.ok : okF 61 law33_TableFinds.p (law33_TableFinds.g law33_TableFinds) := fn2 (law33_TableFinds.eq law32_Few law33_known table_Make ref29_Fns (law33_TableFinds_L0 ROUNDS)) Try.func4 (by kernel_rfl) (.cons law32_Few.ok (.cons law33_known.ok (.cons table_Make.ok (.cons ref29_Fns.ok .nil)))) [0] (by kernel_rfl) (.cons law33_TableFinds_L0.ok .nil)
-- LAWROW law33_TableTells | 3 | 61 | Ty25 ¦ Ty6 ¦ (.sl 52 Ty15) ¦ (.int .i64)
-- LAWROW law33_TableFinds | 4 | 61 | Ty25 ¦ Ty6
end Go.Proofs.Ythjiokfjckcomaa.p
