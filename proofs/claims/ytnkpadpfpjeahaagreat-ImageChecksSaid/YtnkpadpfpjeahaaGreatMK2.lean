/- What the functions come to that K reaches, as plain functions; written by a program of this work, each told by Lean. -/
import Derived.Test.YtnkpadpfpjeahaaGreatMK1
namespace Go.Proofs.YtnkpadpfpjeahaaGreat.k
open Go.AX
set_option linter.unusedVariables false
set_option maxRecDepth 100000
set_option maxHeartbeats 4000000
/-- function 81: the loop in block 0 -/
abbrev T_ref33_Rows_L0 : Type := Int → Int → Tc12 → Int → (List Bool) → (List Int) → Tc4 → (Tc4 → Option Bool) → Option Bool
noncomputable def ref33_Rows_L0.body (ref33_Rows_L0 : T_ref33_Rows_L0) (ref28_Kept : T_ref28_Kept) (ref33_Rows_L0_L2 : T_ref33_Rows_L0_L2) (ref33_Rows_L0_L4 : T_ref33_Rows_L0_L4) : T_ref33_Rows_L0 := fun n1132 n1133 ts1134 n1135 bs1136 ns1137 ts1138 k1 =>
  (cond_ (decide (n1133 < (List.length ts1134 : Int))) (ref28_Kept ts1134 n1135 bs1136 ns1137 n1133
  (fun b1139 => (cond_ (! b1139) (ref33_Rows_L0 n1132 (IntKind.wrap .i64 (n1133 + (1 : Int))) ts1134 n1135 bs1136 ns1137 ts1138 k1) (cond_ ((decide ((0 : Int) ≤ n1133)) && (decide (n1133 < (List.length ts1134 : Int)))) (ref33_Rows_L0_L2 (IntKind.wrap .i64 (n1132 + (1 : Int))) n1133 (((List.length (List.getD ts1134 (Int.toNat n1133) (0, (0, ((⟨#[]⟩ : ByteArray), (0, ([], (0, (false, (0, (0, ([], ([], ([], ([], ())))))))))))))).2.2.2.2.2.2.2.2.2.2.1) : Nat) : Int) ts1134 n1135 bs1136 ns1137 ts1138 (List.getD ts1134 (Int.toNat n1133) (0, (0, ((⟨#[]⟩ : ByteArray), (0, ([], (0, (false, (0, (0, ([], ([], ([], ([], ())))))))))))))).2.2.2.1 (List.getD ts1134 (Int.toNat n1133) (0, (0, ((⟨#[]⟩ : ByteArray), (0, ([], (0, (false, (0, (0, ([], ([], ([], ([], ())))))))))))))).2.2.2.2.1 (List.getD ts1134 (Int.toNat n1133) (0, (0, ((⟨#[]⟩ : ByteArray), (0, ([], (0, (false, (0, (0, ([], ([], ([], ([], ())))))))))))))).2.2.2.2.2.1 (List.getD ts1134 (Int.toNat n1133) (0, (0, ((⟨#[]⟩ : ByteArray), (0, ([], (0, (false, (0, (0, ([], ([], ([], ([], ())))))))))))))).2.2.2.2.2.2.1 (List.getD ts1134 (Int.toNat n1133) (0, (0, ((⟨#[]⟩ : ByteArray), (0, ([], (0, (false, (0, (0, ([], ([], ([], ([], ())))))))))))))).2.2.2.2.2.2.2.1 (List.getD ts1134 (Int.toNat n1133) (0, (0, ((⟨#[]⟩ : ByteArray), (0, ([], (0, (false, (0, (0, ([], ([], ([], ([], ())))))))))))))).2.2.2.2.2.2.2.2.1 (List.getD ts1134 (Int.toNat n1133) (0, (0, ((⟨#[]⟩ : ByteArray), (0, ([], (0, (false, (0, (0, ([], ([], ([], ([], ())))))))))))))).2.2.2.2.2.2.2.2.2.1 (List.getD ts1134 (Int.toNat n1133) (0, (0, ((⟨#[]⟩ : ByteArray), (0, ([], (0, (false, (0, (0, ([], ([], ([], ([], ())))))))))))))).2.2.2.2.2.2.2.2.2.2.1 (List.getD ts1134 (Int.toNat n1133) (0, (0, ((⟨#[]⟩ : ByteArray), (0, ([], (0, (false, (0, (0, ([], ([], ([], ([], ())))))))))))))).2.2.2.2.2.2.2.2.2.2.2.1
  (fun n1158 n1159 ts1160 n1161 bs1162 ns1163 ts1164 n1165 l1166 n1167 b1168 n1169 n1170 l1171 l1172 l1173 => (ref33_Rows_L0_L4 n1158 n1159 (0 : Int) ts1160 n1161 bs1162 ns1163 ts1164 n1165 l1166 n1167 b1168 n1169 n1170 l1171 l1172 l1173
  (fun n1203 n1204 ts1205 n1206 bs1207 ns1208 ts1209 => (ref33_Rows_L0 n1203 (IntKind.wrap .i64 (n1204 + (1 : Int))) ts1205 n1206 bs1207 ns1208 ts1209 k1))))) none)))) (k1 ts1138))
noncomputable def ref33_Rows_L0 : Nat → T_ref33_Rows_L0
  | 0 => fun _ _ _ _ _ _ _ _ => none
  | n + 1 => ref33_Rows_L0.body (ref33_Rows_L0 n) ref28_Kept (ref33_Rows_L0_L2 ROUNDS) (ref33_Rows_L0_L4 ROUNDS)
def ref33_Rows_L0.p : LPat := lp 2 71 [2, 3, 5, 6, 7] (ps (pq [1, 0] 0 0) (ps (pq [1, 1] 0 0) (ps (pr [1, 2]) (pl (pd (.int .i64)) (pl (pd (.int .i64)) pz))))) (pl (po [1, 0] 31 3 (em (pl (pa (pl (pb 1 87 Ty15) (ps (pk 0) (pl (pd (.int .i64)) pz)))) pz))) (pl (po [1, 1] 26 2 (em (pl (pa (pl (pb 2 4 .bool) (pl (pb 3 3 (.int .i64)) pz))) pz))) (pl (po [1, 2] 50 4 (ed Ty6)) pz)))
def ref33_Rows_L0.g (F : T_ref33_Rows_L0) (v : ref33_Rows_L0.p.T) (k : KE) : Option Bool := F v.1.1 v.1.2.1 v.2.1.1.1 v.2.1.1.2.1 v.2.2.1.1.1 v.2.2.1.1.2.1 v.2.2.2.1 (fun y0 => k (.exit 0) ⟨fillS 71 [5] [(.ref [1, 0])], [([1, 0], ⟨50, 4, (.data Ty6 y0)⟩)], 2⟩)
theorem ref33_Rows_L0.step (S : T_ref33_Rows_L0) (F0 : T_ref28_Kept) (L0 : T_ref33_Rows_L0_L2) (L1 : T_ref33_Rows_L0_L4) : ∀ v k, exR 81 Tryz.f81 0 ref33_Rows_L0.p [⟨ref28_Kept.p, ref28_Kept.g F0⟩] [] [⟨2, ref33_Rows_L0_L2.p, ref33_Rows_L0_L2.g L0⟩, ⟨4, ref33_Rows_L0_L4.p, ref33_Rows_L0_L4.g L1⟩] (ref33_Rows_L0.g S) v k = ref33_Rows_L0.g (ref33_Rows_L0.body S F0 L0 L1) v k := fun v k => by kernel_rfl
theorem ref33_Rows_L0.ok : okL 81 Tryz.f81 2 0 ref33_Rows_L0.p (ref33_Rows_L0.g (ref33_Rows_L0 ROUNDS)) := loop2 (G := fun n => ref33_Rows_L0.g (ref33_Rows_L0 n)) (fun n => ref33_Rows_L0.step (ref33_Rows_L0 n) ref28_Kept (ref33_Rows_L0_L2 ROUNDS) (ref33_Rows_L0_L4 ROUNDS)) (.cons ref28_Kept.ok .nil) [2, 4] (by kernel_rfl) (.cons ref33_Rows_L0_L2.ok (.cons ref33_Rows_L0_L4.ok .nil)) (fun _ _ => rfl)
/-- function 81: sheerleg/sheerlegref33.Rows -/
abbrev T_ref33_Rows : Type := Tc12 → Int → (List Bool) → (List Int) → (Tc4 → Option Bool) → Option Bool
noncomputable def ref33_Rows.body (ref33_Rows_L0 : T_ref33_Rows_L0) : T_ref33_Rows := fun ts1128 n1129 bs1130 ns1131 k1 =>
  (ref33_Rows_L0 (0 : Int) (0 : Int) ts1128 n1129 bs1130 ns1131 [(0, (0, (false, (0, ())))), (0, (0, (false, (0, ()))))]
  (fun ts1210 => (k1 ts1210)))
noncomputable def ref33_Rows : T_ref33_Rows := ref33_Rows.body (ref33_Rows_L0 ROUNDS)
def ref33_Rows.p : FPat := fp 81 (pl (pa (pl (pb 1 87 Ty15) (ps (pk 0) (pl (pd (.int .i64)) pz)))) (pl (pa (pl (pb 2 4 .bool) (pl (pb 3 3 (.int .i64)) pz))) pz)) pz
def ref33_Rows.g (F : T_ref33_Rows) (v : ref33_Rows.p.T) (k : KR) : Option Bool := F v.1.1.1 v.1.1.2.1 v.1.2.1.1 v.1.2.1.2.1 (fun y0 => k (.ref [1, 0]) [([1, 0], ⟨50, 4, (.data Ty6 y0)⟩)])
theorem ref33_Rows.eq (L0 : T_ref33_Rows_L0) : ∀ v k, exF Tryz.f81 ref33_Rows.p [] [] [⟨0, ref33_Rows_L0.p, ref33_Rows_L0.g L0⟩] v k = ref33_Rows.g (ref33_Rows.body L0) v k := fun v k => by kernel_rfl
theorem ref33_Rows.ok : okF 3 ref33_Rows.p (ref33_Rows.g ref33_Rows) := fn2 (ref33_Rows.eq (ref33_Rows_L0 ROUNDS)) Tryz.func81 (by kernel_rfl) .nil [0] (by kernel_rfl) (.cons ref33_Rows_L0.ok .nil)
/-- function 80: the loop in block 0 -/
abbrev T_ref13_Make_L0 : Type := Tc4 → Int → Tc7 → (Tc7 → Option Bool) → Option Bool
noncomputable def ref13_Make_L0.body (ref13_Make_L0 : T_ref13_Make_L0) : T_ref13_Make_L0 := fun ts1213 n1214 ts1215 k1 =>
  (cond_ (decide (n1214 < (List.length ts1213 : Int))) (cond_ (! (n1214 == (0 : Int))) (cond_ ((decide ((0 : Int) ≤ n1214)) && (decide (n1214 < (List.length ts1213 : Int)))) (cond_ ((decide ((0 : Int) ≤ (IntKind.wrap .i64 (n1214 - (1 : Int))))) && (decide ((IntKind.wrap .i64 (n1214 - (1 : Int))) < (List.length ts1213 : Int)))) (cond_ (! (((List.getD ts1213 (Int.toNat n1214) (0, (0, (false, (0, ()))))).1 == (List.getD ts1213 (Int.toNat (IntKind.wrap .i64 (n1214 - (1 : Int)))) (0, (0, (false, (0, ()))))).1) && (((List.getD ts1213 (Int.toNat n1214) (0, (0, (false, (0, ()))))).2.1 == (List.getD ts1213 (Int.toNat (IntKind.wrap .i64 (n1214 - (1 : Int)))) (0, (0, (false, (0, ()))))).2.1) && (((List.getD ts1213 (Int.toNat n1214) (0, (0, (false, (0, ()))))).2.2.1 == (List.getD ts1213 (Int.toNat (IntKind.wrap .i64 (n1214 - (1 : Int)))) (0, (0, (false, (0, ()))))).2.2.1) && (((List.getD ts1213 (Int.toNat n1214) (0, (0, (false, (0, ()))))).2.2.2.1 == (List.getD ts1213 (Int.toNat (IntKind.wrap .i64 (n1214 - (1 : Int)))) (0, (0, (false, (0, ()))))).2.2.2.1) && true))))) (cond_ ((decide ((0 : Int) ≤ n1214)) && (decide (n1214 < (List.length ts1213 : Int)))) (cond_ (Nat.ble (((List.length ts1215) + (List.length ((n1214, ((List.getD ts1213 (Int.toNat n1214) (0, (0, (false, (0, ()))))).1, ((List.getD ts1213 (Int.toNat n1214) (0, (0, (false, (0, ()))))).2.1, ((List.getD ts1213 (Int.toNat n1214) (0, (0, (false, (0, ()))))).2.2.1, ((List.getD ts1213 (Int.toNat n1214) (0, (0, (false, (0, ()))))).2.2.2.1, ()))))) :: []))) * (40 : Nat)) (140737488355328 : Nat)) (ref13_Make_L0 ts1213 (IntKind.wrap .i64 (n1214 + (1 : Int))) (ts1215 ++ ((n1214, ((List.getD ts1213 (Int.toNat n1214) (0, (0, (false, (0, ()))))).1, ((List.getD ts1213 (Int.toNat n1214) (0, (0, (false, (0, ()))))).2.1, ((List.getD ts1213 (Int.toNat n1214) (0, (0, (false, (0, ()))))).2.2.1, ((List.getD ts1213 (Int.toNat n1214) (0, (0, (false, (0, ()))))).2.2.2.1, ()))))) :: [])) k1) none) none) (ref13_Make_L0 ts1213 (IntKind.wrap .i64 (n1214 + (1 : Int))) ts1215 k1)) none) none) (cond_ ((decide ((0 : Int) ≤ n1214)) && (decide (n1214 < (List.length ts1213 : Int)))) (cond_ (Nat.ble (((List.length ts1215) + (List.length ((n1214, ((List.getD ts1213 (Int.toNat n1214) (0, (0, (false, (0, ()))))).1, ((List.getD ts1213 (Int.toNat n1214) (0, (0, (false, (0, ()))))).2.1, ((List.getD ts1213 (Int.toNat n1214) (0, (0, (false, (0, ()))))).2.2.1, ((List.getD ts1213 (Int.toNat n1214) (0, (0, (false, (0, ()))))).2.2.2.1, ()))))) :: []))) * (40 : Nat)) (140737488355328 : Nat)) (ref13_Make_L0 ts1213 (IntKind.wrap .i64 (n1214 + (1 : Int))) (ts1215 ++ ((n1214, ((List.getD ts1213 (Int.toNat n1214) (0, (0, (false, (0, ()))))).1, ((List.getD ts1213 (Int.toNat n1214) (0, (0, (false, (0, ()))))).2.1, ((List.getD ts1213 (Int.toNat n1214) (0, (0, (false, (0, ()))))).2.2.1, ((List.getD ts1213 (Int.toNat n1214) (0, (0, (false, (0, ()))))).2.2.2.1, ()))))) :: [])) k1) none) none)) (k1 ts1215))
noncomputable def ref13_Make_L0 : Nat → T_ref13_Make_L0
  | 0 => fun _ _ _ _ => none
  | n + 1 => ref13_Make_L0.body (ref13_Make_L0 n)
def ref13_Make_L0.p : LPat := lp 2 35 [0, 3, 4] (pl (pb 1 50 Ty6) (ps (pr [1, 0]) (pl (pd (.int .i64)) pz))) (pl (po [1, 0] 127 5 (ed Ty7)) pz)
def ref13_Make_L0.g (F : T_ref13_Make_L0) (v : ref13_Make_L0.p.T) (k : KE) : Option Bool := F v.1.1 v.1.2.1 v.2.1 (fun y0 => k (.exit 0) ⟨fillS 35 [3] [(.ref [1, 0])], [([1, 0], ⟨127, 5, (.data Ty7 y0)⟩)], 2⟩)
theorem ref13_Make_L0.step (S : T_ref13_Make_L0) : ∀ v k, exR 80 Tryz.f80 0 ref13_Make_L0.p [] [] [] (ref13_Make_L0.g S) v k = ref13_Make_L0.g (ref13_Make_L0.body S) v k := fun v k => by kernel_rfl
theorem ref13_Make_L0.ok : okL 80 Tryz.f80 0 0 ref13_Make_L0.p (ref13_Make_L0.g (ref13_Make_L0 ROUNDS)) := loop2 (G := fun n => ref13_Make_L0.g (ref13_Make_L0 n)) (fun n => ref13_Make_L0.step (ref13_Make_L0 n)) .nil [] (by kernel_rfl) .nil (fun _ _ => rfl)
/-- function 80: sheerleg/sheerlegref13.Make -/
abbrev T_ref13_Make : Type := Tc4 → (Tc7 → Option Bool) → Option Bool
noncomputable def ref13_Make.body (ref13_Make_L0 : T_ref13_Make_L0) : T_ref13_Make := fun ts1212 k1 =>
  (ref13_Make_L0 ts1212 (0 : Int) []
  (fun ts1216 => (k1 ts1216)))
noncomputable def ref13_Make : T_ref13_Make := ref13_Make.body (ref13_Make_L0 ROUNDS)
def ref13_Make.p : FPat := fp 80 (pl (pb 1 50 Ty6) pz) pz
def ref13_Make.g (F : T_ref13_Make) (v : ref13_Make.p.T) (k : KR) : Option Bool := F v.1.1 (fun y0 => k (.ref [1, 0]) [([1, 0], ⟨127, 5, (.data Ty7 y0)⟩)])
theorem ref13_Make.eq (L0 : T_ref13_Make_L0) : ∀ v k, exF Tryz.f80 ref13_Make.p [] [] [⟨0, ref13_Make_L0.p, ref13_Make_L0.g L0⟩] v k = ref13_Make.g (ref13_Make.body L0) v k := fun v k => by kernel_rfl
theorem ref13_Make.ok : okF 1 ref13_Make.p (ref13_Make.g ref13_Make) := fn2 (ref13_Make.eq (ref13_Make_L0 ROUNDS)) Tryz.func80 (by kernel_rfl) .nil [0] (by kernel_rfl) (.cons ref13_Make_L0.ok .nil)
/-- function 36: sheerleg/sheerlegref33.Make -/
abbrev T_ref33_Make : Type := Tc12 → Int → (List Bool) → (List Int) → (Tc7 → Option Bool) → Option Bool
noncomputable def ref33_Make.body (ref33_Rows : T_ref33_Rows) (ref13_Make : T_ref13_Make) : T_ref33_Make := fun ts1124 n1125 bs1126 ns1127 k1 =>
  (ref33_Rows ts1124 n1125 bs1126 ns1127
  (fun ts1211 => (ref13_Make ts1211
  (fun ts1217 => (k1 ts1217)))))
noncomputable def ref33_Make : T_ref33_Make := ref33_Make.body ref33_Rows ref13_Make
def ref33_Make.p : FPat := fp 36 (pl (pa (pl (pb 1 87 Ty15) (ps (pk 0) (pl (pd (.int .i64)) pz)))) (pl (pa (pl (pb 2 4 .bool) (pl (pb 3 3 (.int .i64)) pz))) pz)) pz
def ref33_Make.g (F : T_ref33_Make) (v : ref33_Make.p.T) (k : KR) : Option Bool := F v.1.1.1 v.1.1.2.1 v.1.2.1.1 v.1.2.1.2.1 (fun y0 => k (.ref [1, 0]) [([1, 0], ⟨127, 5, (.data Ty7 y0)⟩)])
theorem ref33_Make.eq (F0 : T_ref33_Rows) (F1 : T_ref13_Make) : ∀ v k, exF Tryz.f36 ref33_Make.p [⟨ref33_Rows.p, ref33_Rows.g F0⟩, ⟨ref13_Make.p, ref13_Make.g F1⟩] [] [] v k = ref33_Make.g (ref33_Make.body F0 F1) v k := fun v k => by kernel_rfl
theorem ref33_Make.ok : okF 4 ref33_Make.p (ref33_Make.g ref33_Make) := fn2 (ref33_Make.eq ref33_Rows ref13_Make) Tryz.func36 (by kernel_rfl) (.cons ref33_Rows.ok (.cons ref13_Make.ok .nil)) [] (by kernel_rfl) .nil
/-- function 9: sheerleg/sheerlegref34.Make -/
abbrev T_ref34_Make : Type := Tc12 → Int → (List Bool) → (List Int) → (Int → Tc6 → (List Int) → Tc8 → Tc7 → Option Bool) → Option Bool
noncomputable def ref34_Make.body (ref32_Code : T_ref32_Code) (ref32_Words : T_ref32_Words) (ref29_Fns : T_ref29_Fns) (ref33_Make : T_ref33_Make) (ref29_Starts : T_ref29_Starts) : T_ref34_Make := fun ts911 n912 bs913 ns914 k1 =>
  (ref32_Code ts911 n912 bs913 ns914
  (fun ts1097 => (ref32_Words ts911 n912 bs913 ns914
  (fun ns1107 => (ref29_Fns ts911 n912 bs913 ns914
  (fun ts1123 => (ref33_Make ts911 n912 bs913 ns914
  (fun ts1218 => (ref29_Starts ts911 n912 bs913 ns914
  (fun ns1219 => (cond_ (decide (n912 ≥ (0 : Int))) (cond_ (decide (n912 < (List.length ns1219 : Int))) (cond_ ((decide ((0 : Int) ≤ n912)) && (decide (n912 < (List.length ns1219 : Int)))) (k1 (List.getD ns1219 (Int.toNat n912) (0 : Int)) ts1097 ns1107 ts1123 ts1218) none) (k1 (-1 : Int) ts1097 ns1107 ts1123 ts1218)) (k1 (-1 : Int) ts1097 ns1107 ts1123 ts1218))))))))))))
noncomputable def ref34_Make : T_ref34_Make := ref34_Make.body ref32_Code ref32_Words ref29_Fns ref33_Make ref29_Starts
def ref34_Make.p : FPat := fp 9 (pl (pa (pl (pb 1 87 Ty15) (ps (pk 0) (pl (pd (.int .i64)) pz)))) (pl (pa (pl (pb 2 4 .bool) (pl (pb 3 3 (.int .i64)) pz))) pz)) pz
def ref34_Make.g (F : T_ref34_Make) (v : ref34_Make.p.T) (k : KR) : Option Bool := F v.1.1.1 v.1.1.2.1 v.1.2.1.1 v.1.2.1.2.1 (fun y0 y1 y2 y3 y4 => k (.agg [(.ref [1, 0]), (.ref [1, 1]), (.ref [1, 2]), (.ref [1, 3]), (.d ⟨(.int .i64), y0⟩)]) [([1, 0], ⟨75, 5, (.data Ty8 y1)⟩), ([1, 1], ⟨2, 1, (.data (.int .i64) y2)⟩), ([1, 2], ⟨78, 6, (.data Ty11 y3)⟩), ([1, 3], ⟨127, 5, (.data Ty7 y4)⟩)])
theorem ref34_Make.eq (F0 : T_ref32_Code) (F1 : T_ref32_Words) (F2 : T_ref29_Fns) (F3 : T_ref33_Make) (F4 : T_ref29_Starts) : ∀ v k, exF Tryz.f9 ref34_Make.p [⟨ref32_Code.p, ref32_Code.g F0⟩, ⟨ref32_Words.p, ref32_Words.g F1⟩, ⟨ref29_Fns.p, ref29_Fns.g F2⟩, ⟨ref33_Make.p, ref33_Make.g F3⟩, ⟨ref29_Starts.p, ref29_Starts.g F4⟩] [] [] v k = ref34_Make.g (ref34_Make.body F0 F1 F2 F3 F4) v k := fun v k => by kernel_rfl
theorem ref34_Make.ok : okF 6 ref34_Make.p (ref34_Make.g ref34_Make) := fn2 (ref34_Make.eq ref32_Code ref32_Words ref29_Fns ref33_Make ref29_Starts) Tryz.func9 (by kernel_rfl) (.cons ref32_Code.ok (.cons ref32_Words.ok (.cons ref29_Fns.ok (.cons ref33_Make.ok (.cons ref29_Starts.ok .nil))))) [] (by kernel_rfl) .nil
/-- function 29: the loop in block 0 -/
abbrev T_ref32_Same_L0 : Type := Tc6 → Tc6 → Int → (Bool → Option Bool) → (Option Bool) → Option Bool
noncomputable def ref32_Same_L0.body (ref32_Same_L0 : T_ref32_Same_L0) : T_ref32_Same_L0 := fun ts1237 ts1238 n1239 k1 k2 =>
  (cond_ (decide (n1239 < (List.length ts1237 : Int))) (cond_ ((decide ((0 : Int) ≤ n1239)) && (decide (n1239 < (List.length ts1237 : Int)))) (cond_ ((decide ((0 : Int) ≤ n1239)) && (decide (n1239 < (List.length ts1238 : Int)))) (cond_ (! (((List.getD ts1237 (Int.toNat n1239) (0, (0, (0, (0, (0, ())))))).1 == (List.getD ts1238 (Int.toNat n1239) (0, (0, (0, (0, (0, ())))))).1) && (((List.getD ts1237 (Int.toNat n1239) (0, (0, (0, (0, (0, ())))))).2.1 == (List.getD ts1238 (Int.toNat n1239) (0, (0, (0, (0, (0, ())))))).2.1) && (((List.getD ts1237 (Int.toNat n1239) (0, (0, (0, (0, (0, ())))))).2.2.1 == (List.getD ts1238 (Int.toNat n1239) (0, (0, (0, (0, (0, ())))))).2.2.1) && (((List.getD ts1237 (Int.toNat n1239) (0, (0, (0, (0, (0, ())))))).2.2.2.1 == (List.getD ts1238 (Int.toNat n1239) (0, (0, (0, (0, (0, ())))))).2.2.2.1) && (((List.getD ts1237 (Int.toNat n1239) (0, (0, (0, (0, (0, ())))))).2.2.2.2.1 == (List.getD ts1238 (Int.toNat n1239) (0, (0, (0, (0, (0, ())))))).2.2.2.2.1) && true)))))) (k1 false) (ref32_Same_L0 ts1237 ts1238 (IntKind.wrap .i64 (n1239 + (1 : Int))) k1 k2)) none) none) (k2))
noncomputable def ref32_Same_L0 : Nat → T_ref32_Same_L0
  | 0 => fun _ _ _ _ _ => none
  | n + 1 => ref32_Same_L0.body (ref32_Same_L0 n)
def ref32_Same_L0.p : LPat := lp 2 26 [0, 1, 5] (pl (pb 1 75 Ty8) (pl (pb 2 75 Ty8) (pl (pd (.int .i64)) pz))) pz
def ref32_Same_L0.g (F : T_ref32_Same_L0) (v : ref32_Same_L0.p.T) (k : KE) : Option Bool := F v.1.1 v.1.2.1 v.1.2.2.1 (fun y0 => k .ret ⟨fillS 26 [4] [(.d ⟨.bool, y0⟩)], [], 2⟩) (k (.exit 0) ⟨fillS 26 [] [], [], 2⟩)
theorem ref32_Same_L0.step (S : T_ref32_Same_L0) : ∀ v k, exR 29 Tryz.f29 0 ref32_Same_L0.p [] [] [] (ref32_Same_L0.g S) v k = ref32_Same_L0.g (ref32_Same_L0.body S) v k := fun v k => by kernel_rfl
theorem ref32_Same_L0.ok : okL 29 Tryz.f29 0 0 ref32_Same_L0.p (ref32_Same_L0.g (ref32_Same_L0 ROUNDS)) := loop2 (G := fun n => ref32_Same_L0.g (ref32_Same_L0 n)) (fun n => ref32_Same_L0.step (ref32_Same_L0 n)) .nil [] (by kernel_rfl) .nil (fun _ _ => rfl)
/-- function 29: sheerleg/sheerlegref32.Same -/
abbrev T_ref32_Same : Type := Tc6 → Tc6 → (Bool → Option Bool) → Option Bool
noncomputable def ref32_Same.body (ref32_Same_L0 : T_ref32_Same_L0) : T_ref32_Same := fun ts1235 ts1236 k1 =>
  (cond_ ((List.length ts1235 : Int) != (List.length ts1236 : Int)) (k1 false) (ref32_Same_L0 ts1235 ts1236 (0 : Int)
  (fun b1240 => (k1 b1240))
  (k1 true)))
noncomputable def ref32_Same : T_ref32_Same := ref32_Same.body (ref32_Same_L0 ROUNDS)
def ref32_Same.p : FPat := fp 29 (pl (pb 1 75 Ty8) (pl (pb 2 75 Ty8) pz)) pz
def ref32_Same.g (F : T_ref32_Same) (v : ref32_Same.p.T) (k : KR) : Option Bool := F v.1.1 v.1.2.1 (fun y0 => k (.d ⟨.bool, y0⟩) [])
theorem ref32_Same.eq (L0 : T_ref32_Same_L0) : ∀ v k, exF Tryz.f29 ref32_Same.p [] [] [⟨0, ref32_Same_L0.p, ref32_Same_L0.g L0⟩] v k = ref32_Same.g (ref32_Same.body L0) v k := fun v k => by kernel_rfl
theorem ref32_Same.ok : okF 1 ref32_Same.p (ref32_Same.g ref32_Same) := fn2 (ref32_Same.eq (ref32_Same_L0 ROUNDS)) Tryz.func29 (by kernel_rfl) .nil [0] (by kernel_rfl) (.cons ref32_Same_L0.ok .nil)
/-- function 30: the loop in block 0 -/
abbrev T_ref01_Longs_L0 : Type := (List Int) → (List Int) → Int → (Bool → Option Bool) → (Option Bool) → Option Bool
noncomputable def ref01_Longs_L0.body (ref01_Longs_L0 : T_ref01_Longs_L0) : T_ref01_Longs_L0 := fun ns1244 ns1245 n1246 k1 k2 =>
  (cond_ (decide (n1246 < (List.length ns1244 : Int))) (cond_ ((decide ((0 : Int) ≤ n1246)) && (decide (n1246 < (List.length ns1244 : Int)))) (cond_ ((decide ((0 : Int) ≤ n1246)) && (decide (n1246 < (List.length ns1245 : Int)))) (cond_ ((List.getD ns1244 (Int.toNat n1246) (0 : Int)) != (List.getD ns1245 (Int.toNat n1246) (0 : Int))) (k1 false) (ref01_Longs_L0 ns1244 ns1245 (IntKind.wrap .i64 (n1246 + (1 : Int))) k1 k2)) none) none) (k2))
noncomputable def ref01_Longs_L0 : Nat → T_ref01_Longs_L0
  | 0 => fun _ _ _ _ _ => none
  | n + 1 => ref01_Longs_L0.body (ref01_Longs_L0 n)
def ref01_Longs_L0.p : LPat := lp 2 26 [0, 1, 5] (pl (pb 1 2 (.int .i64)) (pl (pb 2 2 (.int .i64)) (pl (pd (.int .i64)) pz))) pz
def ref01_Longs_L0.g (F : T_ref01_Longs_L0) (v : ref01_Longs_L0.p.T) (k : KE) : Option Bool := F v.1.1 v.1.2.1 v.1.2.2.1 (fun y0 => k .ret ⟨fillS 26 [4] [(.d ⟨.bool, y0⟩)], [], 2⟩) (k (.exit 0) ⟨fillS 26 [] [], [], 2⟩)
theorem ref01_Longs_L0.step (S : T_ref01_Longs_L0) : ∀ v k, exR 30 Tryz.f30 0 ref01_Longs_L0.p [] [] [] (ref01_Longs_L0.g S) v k = ref01_Longs_L0.g (ref01_Longs_L0.body S) v k := fun v k => by kernel_rfl
theorem ref01_Longs_L0.ok : okL 30 Tryz.f30 0 0 ref01_Longs_L0.p (ref01_Longs_L0.g (ref01_Longs_L0 ROUNDS)) := loop2 (G := fun n => ref01_Longs_L0.g (ref01_Longs_L0 n)) (fun n => ref01_Longs_L0.step (ref01_Longs_L0 n)) .nil [] (by kernel_rfl) .nil (fun _ _ => rfl)
/-- function 30: sheerleg/sheerlegref01.Longs -/
abbrev T_ref01_Longs : Type := (List Int) → (List Int) → (Bool → Option Bool) → Option Bool
noncomputable def ref01_Longs.body (ref01_Longs_L0 : T_ref01_Longs_L0) : T_ref01_Longs := fun ns1242 ns1243 k1 =>
  (cond_ ((List.length ns1242 : Int) != (List.length ns1243 : Int)) (k1 false) (ref01_Longs_L0 ns1242 ns1243 (0 : Int)
  (fun b1247 => (k1 b1247))
  (k1 true)))
noncomputable def ref01_Longs : T_ref01_Longs := ref01_Longs.body (ref01_Longs_L0 ROUNDS)
def ref01_Longs.p : FPat := fp 30 (pl (pb 1 2 (.int .i64)) (pl (pb 2 2 (.int .i64)) pz)) pz
def ref01_Longs.g (F : T_ref01_Longs) (v : ref01_Longs.p.T) (k : KR) : Option Bool := F v.1.1 v.1.2.1 (fun y0 => k (.d ⟨.bool, y0⟩) [])
theorem ref01_Longs.eq (L0 : T_ref01_Longs_L0) : ∀ v k, exF Tryz.f30 ref01_Longs.p [] [] [⟨0, ref01_Longs_L0.p, ref01_Longs_L0.g L0⟩] v k = ref01_Longs.g (ref01_Longs.body L0) v k := fun v k => by kernel_rfl
theorem ref01_Longs.ok : okF 1 ref01_Longs.p (ref01_Longs.g ref01_Longs) := fn2 (ref01_Longs.eq (ref01_Longs_L0 ROUNDS)) Tryz.func30 (by kernel_rfl) .nil [0] (by kernel_rfl) (.cons ref01_Longs_L0.ok .nil)
/-- function 31: the loop in block 0 -/
abbrev T_ref29_Same_L0 : Type := Tc8 → Tc8 → Int → (Bool → Option Bool) → (Option Bool) → Option Bool
noncomputable def ref29_Same_L0.body (ref29_Same_L0 : T_ref29_Same_L0) : T_ref29_Same_L0 := fun ts1251 ts1252 n1253 k1 k2 =>
  (cond_ (decide (n1253 < (List.length ts1251 : Int))) (cond_ ((decide ((0 : Int) ≤ n1253)) && (decide (n1253 < (List.length ts1251 : Int)))) (cond_ ((decide ((0 : Int) ≤ n1253)) && (decide (n1253 < (List.length ts1252 : Int)))) (cond_ (! (((List.getD ts1251 (Int.toNat n1253) (0, (0, (0, (0, (0, (0, ()))))))).1 == (List.getD ts1252 (Int.toNat n1253) (0, (0, (0, (0, (0, (0, ()))))))).1) && (((List.getD ts1251 (Int.toNat n1253) (0, (0, (0, (0, (0, (0, ()))))))).2.1 == (List.getD ts1252 (Int.toNat n1253) (0, (0, (0, (0, (0, (0, ()))))))).2.1) && (((List.getD ts1251 (Int.toNat n1253) (0, (0, (0, (0, (0, (0, ()))))))).2.2.1 == (List.getD ts1252 (Int.toNat n1253) (0, (0, (0, (0, (0, (0, ()))))))).2.2.1) && (((List.getD ts1251 (Int.toNat n1253) (0, (0, (0, (0, (0, (0, ()))))))).2.2.2.1 == (List.getD ts1252 (Int.toNat n1253) (0, (0, (0, (0, (0, (0, ()))))))).2.2.2.1) && (((List.getD ts1251 (Int.toNat n1253) (0, (0, (0, (0, (0, (0, ()))))))).2.2.2.2.1 == (List.getD ts1252 (Int.toNat n1253) (0, (0, (0, (0, (0, (0, ()))))))).2.2.2.2.1) && (((List.getD ts1251 (Int.toNat n1253) (0, (0, (0, (0, (0, (0, ()))))))).2.2.2.2.2.1 == (List.getD ts1252 (Int.toNat n1253) (0, (0, (0, (0, (0, (0, ()))))))).2.2.2.2.2.1) && true))))))) (k1 false) (ref29_Same_L0 ts1251 ts1252 (IntKind.wrap .i64 (n1253 + (1 : Int))) k1 k2)) none) none) (k2))
noncomputable def ref29_Same_L0 : Nat → T_ref29_Same_L0
  | 0 => fun _ _ _ _ _ => none
  | n + 1 => ref29_Same_L0.body (ref29_Same_L0 n)
def ref29_Same_L0.p : LPat := lp 2 26 [0, 1, 5] (pl (pb 1 78 Ty11) (pl (pb 2 78 Ty11) (pl (pd (.int .i64)) pz))) pz
def ref29_Same_L0.g (F : T_ref29_Same_L0) (v : ref29_Same_L0.p.T) (k : KE) : Option Bool := F v.1.1 v.1.2.1 v.1.2.2.1 (fun y0 => k .ret ⟨fillS 26 [4] [(.d ⟨.bool, y0⟩)], [], 2⟩) (k (.exit 0) ⟨fillS 26 [] [], [], 2⟩)
theorem ref29_Same_L0.step (S : T_ref29_Same_L0) : ∀ v k, exR 31 Tryz.f31 0 ref29_Same_L0.p [] [] [] (ref29_Same_L0.g S) v k = ref29_Same_L0.g (ref29_Same_L0.body S) v k := fun v k => by kernel_rfl
theorem ref29_Same_L0.ok : okL 31 Tryz.f31 0 0 ref29_Same_L0.p (ref29_Same_L0.g (ref29_Same_L0 ROUNDS)) := loop2 (G := fun n => ref29_Same_L0.g (ref29_Same_L0 n)) (fun n => ref29_Same_L0.step (ref29_Same_L0 n)) .nil [] (by kernel_rfl) .nil (fun _ _ => rfl)
/-- function 31: sheerleg/sheerlegref29.Same -/
abbrev T_ref29_Same : Type := Tc8 → Tc8 → (Bool → Option Bool) → Option Bool
noncomputable def ref29_Same.body (ref29_Same_L0 : T_ref29_Same_L0) : T_ref29_Same := fun ts1249 ts1250 k1 =>
  (cond_ ((List.length ts1249 : Int) != (List.length ts1250 : Int)) (k1 false) (ref29_Same_L0 ts1249 ts1250 (0 : Int)
  (fun b1254 => (k1 b1254))
  (k1 true)))
noncomputable def ref29_Same : T_ref29_Same := ref29_Same.body (ref29_Same_L0 ROUNDS)
def ref29_Same.p : FPat := fp 31 (pl (pb 1 78 Ty11) (pl (pb 2 78 Ty11) pz)) pz
def ref29_Same.g (F : T_ref29_Same) (v : ref29_Same.p.T) (k : KR) : Option Bool := F v.1.1 v.1.2.1 (fun y0 => k (.d ⟨.bool, y0⟩) [])
theorem ref29_Same.eq (L0 : T_ref29_Same_L0) : ∀ v k, exF Tryz.f31 ref29_Same.p [] [] [⟨0, ref29_Same_L0.p, ref29_Same_L0.g L0⟩] v k = ref29_Same.g (ref29_Same.body L0) v k := fun v k => by kernel_rfl
theorem ref29_Same.ok : okF 1 ref29_Same.p (ref29_Same.g ref29_Same) := fn2 (ref29_Same.eq (ref29_Same_L0 ROUNDS)) Tryz.func31 (by kernel_rfl) .nil [0] (by kernel_rfl) (.cons ref29_Same_L0.ok .nil)
/-- function 32: the loop in block 0 -/
abbrev T_ref13_Same_L0 : Type := Tc7 → Tc7 → Int → (Bool → Option Bool) → (Option Bool) → Option Bool
noncomputable def ref13_Same_L0.body (ref13_Same_L0 : T_ref13_Same_L0) : T_ref13_Same_L0 := fun ts1258 ts1259 n1260 k1 k2 =>
  (cond_ (decide (n1260 < (List.length ts1258 : Int))) (cond_ ((decide ((0 : Int) ≤ n1260)) && (decide (n1260 < (List.length ts1258 : Int)))) (cond_ ((decide ((0 : Int) ≤ n1260)) && (decide (n1260 < (List.length ts1259 : Int)))) (cond_ (! (((List.getD ts1258 (Int.toNat n1260) (0, (0, (0, (false, (0, ())))))).1 == (List.getD ts1259 (Int.toNat n1260) (0, (0, (0, (false, (0, ())))))).1) && ((((List.getD ts1258 (Int.toNat n1260) (0, (0, (0, (false, (0, ())))))).2.1 == (List.getD ts1259 (Int.toNat n1260) (0, (0, (0, (false, (0, ())))))).2.1) && (((List.getD ts1258 (Int.toNat n1260) (0, (0, (0, (false, (0, ())))))).2.2.1 == (List.getD ts1259 (Int.toNat n1260) (0, (0, (0, (false, (0, ())))))).2.2.1) && (((List.getD ts1258 (Int.toNat n1260) (0, (0, (0, (false, (0, ())))))).2.2.2.1 == (List.getD ts1259 (Int.toNat n1260) (0, (0, (0, (false, (0, ())))))).2.2.2.1) && (((List.getD ts1258 (Int.toNat n1260) (0, (0, (0, (false, (0, ())))))).2.2.2.2.1 == (List.getD ts1259 (Int.toNat n1260) (0, (0, (0, (false, (0, ())))))).2.2.2.2.1) && true)))) && true))) (k1 false) (ref13_Same_L0 ts1258 ts1259 (IntKind.wrap .i64 (n1260 + (1 : Int))) k1 k2)) none) none) (k2))
noncomputable def ref13_Same_L0 : Nat → T_ref13_Same_L0
  | 0 => fun _ _ _ _ _ => none
  | n + 1 => ref13_Same_L0.body (ref13_Same_L0 n)
def ref13_Same_L0.p : LPat := lp 2 26 [0, 1, 5] (pl (pb 1 127 Ty7) (pl (pb 2 127 Ty7) (pl (pd (.int .i64)) pz))) pz
def ref13_Same_L0.g (F : T_ref13_Same_L0) (v : ref13_Same_L0.p.T) (k : KE) : Option Bool := F v.1.1 v.1.2.1 v.1.2.2.1 (fun y0 => k .ret ⟨fillS 26 [4] [(.d ⟨.bool, y0⟩)], [], 2⟩) (k (.exit 0) ⟨fillS 26 [] [], [], 2⟩)
theorem ref13_Same_L0.step (S : T_ref13_Same_L0) : ∀ v k, exR 32 Tryz.f32 0 ref13_Same_L0.p [] [] [] (ref13_Same_L0.g S) v k = ref13_Same_L0.g (ref13_Same_L0.body S) v k := fun v k => by kernel_rfl
theorem ref13_Same_L0.ok : okL 32 Tryz.f32 0 0 ref13_Same_L0.p (ref13_Same_L0.g (ref13_Same_L0 ROUNDS)) := loop2 (G := fun n => ref13_Same_L0.g (ref13_Same_L0 n)) (fun n => ref13_Same_L0.step (ref13_Same_L0 n)) .nil [] (by kernel_rfl) .nil (fun _ _ => rfl)
/-- function 32: sheerleg/sheerlegref13.Same -/
abbrev T_ref13_Same : Type := Tc7 → Tc7 → (Bool → Option Bool) → Option Bool
noncomputable def ref13_Same.body (ref13_Same_L0 : T_ref13_Same_L0) : T_ref13_Same := fun ts1256 ts1257 k1 =>
  (cond_ ((List.length ts1256 : Int) != (List.length ts1257 : Int)) (k1 false) (ref13_Same_L0 ts1256 ts1257 (0 : Int)
  (fun b1261 => (k1 b1261))
  (k1 true)))
noncomputable def ref13_Same : T_ref13_Same := ref13_Same.body (ref13_Same_L0 ROUNDS)
def ref13_Same.p : FPat := fp 32 (pl (pb 1 127 Ty7) (pl (pb 2 127 Ty7) pz)) pz
def ref13_Same.g (F : T_ref13_Same) (v : ref13_Same.p.T) (k : KR) : Option Bool := F v.1.1 v.1.2.1 (fun y0 => k (.d ⟨.bool, y0⟩) [])
theorem ref13_Same.eq (L0 : T_ref13_Same_L0) : ∀ v k, exF Tryz.f32 ref13_Same.p [] [] [⟨0, ref13_Same_L0.p, ref13_Same_L0.g L0⟩] v k = ref13_Same.g (ref13_Same.body L0) v k := fun v k => by kernel_rfl
theorem ref13_Same.ok : okF 1 ref13_Same.p (ref13_Same.g ref13_Same) := fn2 (ref13_Same.eq (ref13_Same_L0 ROUNDS)) Tryz.func32 (by kernel_rfl) .nil [0] (by kernel_rfl) (.cons ref13_Same_L0.ok .nil)
/-- function 8: sheerleg/sheerlegref34.Same -/
abbrev T_ref34_Same : Type := Tc6 → (List Int) → Tc8 → Tc7 → Int → Tc6 → (List Int) → Tc8 → Tc7 → Int → (Bool → Option Bool) → Option Bool
noncomputable def ref34_Same.body (ref32_Same : T_ref32_Same) (ref01_Longs : T_ref01_Longs) (ref29_Same : T_ref29_Same) (ref13_Same : T_ref13_Same) : T_ref34_Same := fun ts1225 ns1226 ts1227 ts1228 n1229 ts1230 ns1231 ts1232 ts1233 n1234 k1 =>
  (ref32_Same ts1225 ts1230
  (fun b1241 => (cond_ b1241 (ref01_Longs ns1226 ns1231
  (fun b1248 => (cond_ b1248 (ref29_Same ts1227 ts1232
  (fun b1255 => (cond_ b1255 (ref13_Same ts1228 ts1233
  (fun b1262 => (cond_ b1262 (k1 (n1229 == n1234)) (k1 false)))) (k1 false)))) (k1 false)))) (k1 false))))
noncomputable def ref34_Same : T_ref34_Same := ref34_Same.body ref32_Same ref01_Longs ref29_Same ref13_Same
def ref34_Same.p : FPat := fp 8 (pl (pa (pl (pb 1 75 Ty8) (pl (pb 2 2 (.int .i64)) (pl (pb 3 78 Ty11) (pl (pb 4 127 Ty7) (pl (pd (.int .i64)) pz)))))) (pl (pa (pl (pb 5 75 Ty8) (pl (pb 6 2 (.int .i64)) (pl (pb 7 78 Ty11) (pl (pb 8 127 Ty7) (pl (pd (.int .i64)) pz)))))) pz)) pz
def ref34_Same.g (F : T_ref34_Same) (v : ref34_Same.p.T) (k : KR) : Option Bool := F v.1.1.1 v.1.1.2.1 v.1.1.2.2.1 v.1.1.2.2.2.1 v.1.1.2.2.2.2.1 v.1.2.1.1 v.1.2.1.2.1 v.1.2.1.2.2.1 v.1.2.1.2.2.2.1 v.1.2.1.2.2.2.2.1 (fun y0 => k (.d ⟨.bool, y0⟩) [])
theorem ref34_Same.eq (F0 : T_ref32_Same) (F1 : T_ref01_Longs) (F2 : T_ref29_Same) (F3 : T_ref13_Same) : ∀ v k, exF Tryz.f8 ref34_Same.p [⟨ref32_Same.p, ref32_Same.g F0⟩, ⟨ref01_Longs.p, ref01_Longs.g F1⟩, ⟨ref29_Same.p, ref29_Same.g F2⟩, ⟨ref13_Same.p, ref13_Same.g F3⟩] [] [] v k = ref34_Same.g (ref34_Same.body F0 F1 F2 F3) v k := fun v k => by kernel_rfl
theorem ref34_Same.ok : okF 2 ref34_Same.p (ref34_Same.g ref34_Same) := fn2 (ref34_Same.eq ref32_Same ref01_Longs ref29_Same ref13_Same) Tryz.func8 (by kernel_rfl) (.cons ref32_Same.ok (.cons ref01_Longs.ok (.cons ref29_Same.ok (.cons ref13_Same.ok .nil)))) [] (by kernel_rfl) .nil
/-- function 39: sheerleg/image.look -/
abbrev T_image_look : Type := Int → Tc6 → (List Int) → Tc8 → Tc7 → Int → (Tc6 → (List Int) → Tc8 → Tc7 → Int → Int → Option Bool) → Option Bool
noncomputable def image_look.body : T_image_look := fun n1269 ts1270 ns1271 ts1272 ts1273 n1274 k1 =>
  (k1 ts1270 ns1271 ts1272 ts1273 n1274 n1269)
noncomputable def image_look : T_image_look := image_look.body
def image_look.p : FPat := fp 39 (pl (pd (.int .i64)) (pl (pf 40 pz (ps (pq [0, 0] 0 0) pz)) pz)) (pl (po [0, 0] 40 5 (em (pl (pa (pl (pb 1 75 Ty8) (pl (pb 2 2 (.int .i64)) (pl (pb 3 78 Ty11) (pl (pb 4 127 Ty7) (pl (pd (.int .i64)) pz)))))) pz))) pz)
def image_look.g (F : T_image_look) (v : image_look.p.T) (k : KR) : Option Bool := F v.1.1 v.2.1.1.1 v.2.1.1.2.1 v.2.1.1.2.2.1 v.2.1.1.2.2.2.1 v.2.1.1.2.2.2.2.1 (fun y0 y1 y2 y3 y4 y5 => k (.fn (.func 82) [] [(.ptr [1, 0] 0 0), (.ptr [1, 1] 0 0)]) [([0, 0], ⟨40, 5, (.mix [(.agg [(.bv 1 75 Ty8 y0), (.bv 2 2 (.int .i64) y1), (.bv 3 78 Ty11 y2), (.bv 4 127 Ty7 y3), (.d ⟨(.int .i64), y4⟩)])])⟩), ([1, 0], ⟨34, 1, (.mix [(.fn (.func 40) [] [(.ptr [0, 0] 0 0)])])⟩), ([1, 1], ⟨43, 1, (.data (.int .i64) [y5])⟩)])
theorem image_look.eq : ∀ v k, exF Tryz.f39 image_look.p [] [] [] v k = image_look.g (image_look.body) v k := fun v k => by kernel_rfl
theorem image_look.ok : okF 1 image_look.p (image_look.g image_look) := fn2 (image_look.eq) Tryz.func39 (by kernel_rfl) .nil [] (by kernel_rfl) .nil
/-- function 39: sheerleg/image.look -/
abbrev T_image_lookv1 : Type := Int → Tc6 → (List Int) → Tc8 → Tc7 → Int → (Tc6 → (List Int) → Tc8 → Tc7 → Int → Int → Option Bool) → Option Bool
noncomputable def image_lookv1.body : T_image_lookv1 := fun n1281 ts1282 ns1283 ts1284 ts1285 n1286 k1 =>
  (k1 ts1282 ns1283 ts1284 ts1285 n1286 n1281)
noncomputable def image_lookv1 : T_image_lookv1 := image_lookv1.body
def image_lookv1.p : FPat := fp 39 (pl (pd (.int .i64)) (pl (pf 41 pz (ps (pq [0, 0] 0 0) pz)) pz)) (pl (po [0, 0] 40 5 (em (pl (pa (pl (pb 1 75 Ty8) (pl (pb 2 2 (.int .i64)) (pl (pb 3 78 Ty11) (pl (pb 4 127 Ty7) (pl (pd (.int .i64)) pz)))))) pz))) pz)
def image_lookv1.g (F : T_image_lookv1) (v : image_lookv1.p.T) (k : KR) : Option Bool := F v.1.1 v.2.1.1.1 v.2.1.1.2.1 v.2.1.1.2.2.1 v.2.1.1.2.2.2.1 v.2.1.1.2.2.2.2.1 (fun y0 y1 y2 y3 y4 y5 => k (.fn (.func 82) [] [(.ptr [1, 0] 0 0), (.ptr [1, 1] 0 0)]) [([0, 0], ⟨40, 5, (.mix [(.agg [(.bv 1 75 Ty8 y0), (.bv 2 2 (.int .i64) y1), (.bv 3 78 Ty11 y2), (.bv 4 127 Ty7 y3), (.d ⟨(.int .i64), y4⟩)])])⟩), ([1, 0], ⟨34, 1, (.mix [(.fn (.func 41) [] [(.ptr [0, 0] 0 0)])])⟩), ([1, 1], ⟨43, 1, (.data (.int .i64) [y5])⟩)])
theorem image_lookv1.eq : ∀ v k, exF Tryz.f39 image_lookv1.p [] [] [] v k = image_lookv1.g (image_lookv1.body) v k := fun v k => by kernel_rfl
theorem image_lookv1.ok : okF 1 image_lookv1.p (image_lookv1.g image_lookv1) := fn2 (image_lookv1.eq) Tryz.func39 (by kernel_rfl) .nil [] (by kernel_rfl) .nil
/-- function 39: sheerleg/image.look -/
abbrev T_image_lookv2 : Type := Int → Tc6 → (List Int) → Tc8 → Tc7 → Int → (Tc6 → (List Int) → Tc8 → Tc7 → Int → Int → Option Bool) → Option Bool
noncomputable def image_lookv2.body : T_image_lookv2 := fun n1293 ts1294 ns1295 ts1296 ts1297 n1298 k1 =>
  (k1 ts1294 ns1295 ts1296 ts1297 n1298 n1293)
noncomputable def image_lookv2 : T_image_lookv2 := image_lookv2.body
def image_lookv2.p : FPat := fp 39 (pl (pd (.int .i64)) (pl (pf 42 pz (ps (pq [0, 0] 0 0) pz)) pz)) (pl (po [0, 0] 40 5 (em (pl (pa (pl (pb 1 75 Ty8) (pl (pb 2 2 (.int .i64)) (pl (pb 3 78 Ty11) (pl (pb 4 127 Ty7) (pl (pd (.int .i64)) pz)))))) pz))) pz)
def image_lookv2.g (F : T_image_lookv2) (v : image_lookv2.p.T) (k : KR) : Option Bool := F v.1.1 v.2.1.1.1 v.2.1.1.2.1 v.2.1.1.2.2.1 v.2.1.1.2.2.2.1 v.2.1.1.2.2.2.2.1 (fun y0 y1 y2 y3 y4 y5 => k (.fn (.func 82) [] [(.ptr [1, 0] 0 0), (.ptr [1, 1] 0 0)]) [([0, 0], ⟨40, 5, (.mix [(.agg [(.bv 1 75 Ty8 y0), (.bv 2 2 (.int .i64) y1), (.bv 3 78 Ty11 y2), (.bv 4 127 Ty7 y3), (.d ⟨(.int .i64), y4⟩)])])⟩), ([1, 0], ⟨34, 1, (.mix [(.fn (.func 42) [] [(.ptr [0, 0] 0 0)])])⟩), ([1, 1], ⟨43, 1, (.data (.int .i64) [y5])⟩)])
theorem image_lookv2.eq : ∀ v k, exF Tryz.f39 image_lookv2.p [] [] [] v k = image_lookv2.g (image_lookv2.body) v k := fun v k => by kernel_rfl
theorem image_lookv2.ok : okF 1 image_lookv2.p (image_lookv2.g image_lookv2) := fn2 (image_lookv2.eq) Tryz.func39 (by kernel_rfl) .nil [] (by kernel_rfl) .nil
/-- function 39: sheerleg/image.look -/
abbrev T_image_lookv3 : Type := Int → Tc6 → (List Int) → Tc8 → Tc7 → Int → (Tc6 → (List Int) → Tc8 → Tc7 → Int → Int → Option Bool) → Option Bool
noncomputable def image_lookv3.body : T_image_lookv3 := fun n1305 ts1306 ns1307 ts1308 ts1309 n1310 k1 =>
  (k1 ts1306 ns1307 ts1308 ts1309 n1310 n1305)
noncomputable def image_lookv3 : T_image_lookv3 := image_lookv3.body
def image_lookv3.p : FPat := fp 39 (pl (pd (.int .i64)) (pl (pf 44 pz (ps (pq [0, 0] 0 0) pz)) pz)) (pl (po [0, 0] 40 5 (em (pl (pa (pl (pb 1 75 Ty8) (pl (pb 2 2 (.int .i64)) (pl (pb 3 78 Ty11) (pl (pb 4 127 Ty7) (pl (pd (.int .i64)) pz)))))) pz))) pz)
def image_lookv3.g (F : T_image_lookv3) (v : image_lookv3.p.T) (k : KR) : Option Bool := F v.1.1 v.2.1.1.1 v.2.1.1.2.1 v.2.1.1.2.2.1 v.2.1.1.2.2.2.1 v.2.1.1.2.2.2.2.1 (fun y0 y1 y2 y3 y4 y5 => k (.fn (.func 82) [] [(.ptr [1, 0] 0 0), (.ptr [1, 1] 0 0)]) [([0, 0], ⟨40, 5, (.mix [(.agg [(.bv 1 75 Ty8 y0), (.bv 2 2 (.int .i64) y1), (.bv 3 78 Ty11 y2), (.bv 4 127 Ty7 y3), (.d ⟨(.int .i64), y4⟩)])])⟩), ([1, 0], ⟨34, 1, (.mix [(.fn (.func 44) [] [(.ptr [0, 0] 0 0)])])⟩), ([1, 1], ⟨43, 1, (.data (.int .i64) [y5])⟩)])
theorem image_lookv3.eq : ∀ v k, exF Tryz.f39 image_lookv3.p [] [] [] v k = image_lookv3.g (image_lookv3.body) v k := fun v k => by kernel_rfl
theorem image_lookv3.ok : okF 1 image_lookv3.p (image_lookv3.g image_lookv3) := fn2 (image_lookv3.eq) Tryz.func39 (by kernel_rfl) .nil [] (by kernel_rfl) .nil
/-- function 39: sheerleg/image.look -/
abbrev T_image_lookv4 : Type := Int → Tc6 → (List Int) → Tc8 → Tc7 → Int → (Tc6 → (List Int) → Tc8 → Tc7 → Int → Int → Option Bool) → Option Bool
noncomputable def image_lookv4.body : T_image_lookv4 := fun n1317 ts1318 ns1319 ts1320 ts1321 n1322 k1 =>
  (k1 ts1318 ns1319 ts1320 ts1321 n1322 n1317)
noncomputable def image_lookv4 : T_image_lookv4 := image_lookv4.body
def image_lookv4.p : FPat := fp 39 (pl (pd (.int .i64)) (pl (pf 49 pz (ps (pq [0, 0] 0 0) pz)) pz)) (pl (po [0, 0] 40 5 (em (pl (pa (pl (pb 1 75 Ty8) (pl (pb 2 2 (.int .i64)) (pl (pb 3 78 Ty11) (pl (pb 4 127 Ty7) (pl (pd (.int .i64)) pz)))))) pz))) pz)
def image_lookv4.g (F : T_image_lookv4) (v : image_lookv4.p.T) (k : KR) : Option Bool := F v.1.1 v.2.1.1.1 v.2.1.1.2.1 v.2.1.1.2.2.1 v.2.1.1.2.2.2.1 v.2.1.1.2.2.2.2.1 (fun y0 y1 y2 y3 y4 y5 => k (.fn (.func 82) [] [(.ptr [1, 0] 0 0), (.ptr [1, 1] 0 0)]) [([0, 0], ⟨40, 5, (.mix [(.agg [(.bv 1 75 Ty8 y0), (.bv 2 2 (.int .i64) y1), (.bv 3 78 Ty11 y2), (.bv 4 127 Ty7 y3), (.d ⟨(.int .i64), y4⟩)])])⟩), ([1, 0], ⟨34, 1, (.mix [(.fn (.func 49) [] [(.ptr [0, 0] 0 0)])])⟩), ([1, 1], ⟨43, 1, (.data (.int .i64) [y5])⟩)])
theorem image_lookv4.eq : ∀ v k, exF Tryz.f39 image_lookv4.p [] [] [] v k = image_lookv4.g (image_lookv4.body) v k := fun v k => by kernel_rfl
theorem image_lookv4.ok : okF 1 image_lookv4.p (image_lookv4.g image_lookv4) := fn2 (image_lookv4.eq) Tryz.func39 (by kernel_rfl) .nil [] (by kernel_rfl) .nil
/-- function 40: sheerleg/image.Check$1 -/
abbrev T_image_Checkfn1 : Type := Tc6 → (List Int) → Tc8 → Tc7 → Int → (Bool → Tc6 → (List Int) → Tc8 → Tc7 → Int → Option Bool) → Option Bool
noncomputable def image_Checkfn1.body : T_image_Checkfn1 := fun ts1357 ns1358 ts1359 ts1360 n1361 k1 =>
  (cond_ (! (decide ((List.length ts1357 : Int) > (65535 : Int)))) (k1 (decide ((List.length ns1358 : Int) > (65535 : Int))) ts1357 ns1358 ts1359 ts1360 n1361) (k1 true ts1357 ns1358 ts1359 ts1360 n1361))
noncomputable def image_Checkfn1 : T_image_Checkfn1 := image_Checkfn1.body
def image_Checkfn1.p : FPat := fp 40 (ps (pq [0, 0] 0 0) pz) (pl (po [0, 0] 40 5 (em (pl (pa (pl (pb 1 75 Ty8) (pl (pb 2 2 (.int .i64)) (pl (pb 3 78 Ty11) (pl (pb 4 127 Ty7) (pl (pd (.int .i64)) pz)))))) pz))) pz)
def image_Checkfn1.g (F : T_image_Checkfn1) (v : image_Checkfn1.p.T) (k : KR) : Option Bool := F v.2.1.1.1 v.2.1.1.2.1 v.2.1.1.2.2.1 v.2.1.1.2.2.2.1 v.2.1.1.2.2.2.2.1 (fun y0 y1 y2 y3 y4 y5 => k (.d ⟨.bool, y0⟩) [([0, 0], ⟨40, 5, (.mix [(.agg [(.bv 1 75 Ty8 y1), (.bv 2 2 (.int .i64) y2), (.bv 3 78 Ty11 y3), (.bv 4 127 Ty7 y4), (.d ⟨(.int .i64), y5⟩)])])⟩)])
theorem image_Checkfn1.eq : ∀ v k, exF Tryz.f40 image_Checkfn1.p [] [] [] v k = image_Checkfn1.g (image_Checkfn1.body) v k := fun v k => by kernel_rfl
theorem image_Checkfn1.ok : okF 1 image_Checkfn1.p (image_Checkfn1.g image_Checkfn1) := fn2 (image_Checkfn1.eq) Tryz.func40 (by kernel_rfl) .nil [] (by kernel_rfl) .nil
/-- function 82: sheerleg/image.look$1 -/
abbrev T_image_lookfn1 : Type := Tc6 → (List Int) → Tc8 → Tc7 → Int → Int → (Int → Tc6 → (List Int) → Tc8 → Tc7 → Int → Int → Option Bool) → Option Bool
noncomputable def image_lookfn1.body (image_Checkfn1 : T_image_Checkfn1) : T_image_lookfn1 := fun ts1351 ns1352 ts1353 ts1354 n1355 n1356 k1 =>
  (image_Checkfn1 ts1351 ns1352 ts1353 ts1354 n1355
  (fun b1362 ts1363 ns1364 ts1365 ts1366 n1367 => (cond_ b1362 (k1 n1356 ts1363 ns1364 ts1365 ts1366 n1367 n1356) (k1 (0 : Int) ts1363 ns1364 ts1365 ts1366 n1367 n1356))))
noncomputable def image_lookfn1 : T_image_lookfn1 := image_lookfn1.body image_Checkfn1
def image_lookfn1.p : FPat := fp 82 (ps (pq [0, 0] 0 0) (ps (pq [0, 2] 0 0) pz)) (pl (po [0, 0] 34 1 (em (pl (pf 40 pz (ps (pq [0, 1] 0 0) pz)) pz))) (pl (po [0, 1] 40 5 (em (pl (pa (pl (pb 1 75 Ty8) (pl (pb 2 2 (.int .i64)) (pl (pb 3 78 Ty11) (pl (pb 4 127 Ty7) (pl (pd (.int .i64)) pz)))))) pz))) (pl (po [0, 2] 43 1 (es (.int .i64) (pl eh pz))) pz)))
def image_lookfn1.g (F : T_image_lookfn1) (v : image_lookfn1.p.T) (k : KR) : Option Bool := F v.2.2.1.1.1 v.2.2.1.1.2.1 v.2.2.1.1.2.2.1 v.2.2.1.1.2.2.2.1 v.2.2.1.1.2.2.2.2.1 v.2.2.2.1.1 (fun y0 y1 y2 y3 y4 y5 y6 => k (.d ⟨(.int .i64), y0⟩) [([0, 0], ⟨34, 1, (.mix [(.fn (.func 40) [] [(.ptr [0, 1] 0 0)])])⟩), ([0, 1], ⟨40, 5, (.mix [(.agg [(.bv 1 75 Ty8 y1), (.bv 2 2 (.int .i64) y2), (.bv 3 78 Ty11 y3), (.bv 4 127 Ty7 y4), (.d ⟨(.int .i64), y5⟩)])])⟩), ([0, 2], ⟨43, 1, (.data (.int .i64) [y6])⟩)])
theorem image_lookfn1.eq (F0 : T_image_Checkfn1) : ∀ v k, exF Tryz.f82 image_lookfn1.p [⟨image_Checkfn1.p, image_Checkfn1.g F0⟩] [] [] v k = image_lookfn1.g (image_lookfn1.body F0) v k := fun v k => by kernel_rfl
theorem image_lookfn1.ok : okF 2 image_lookfn1.p (image_lookfn1.g image_lookfn1) := fn2 (image_lookfn1.eq image_Checkfn1) Tryz.func82 (by kernel_rfl) (.cons image_Checkfn1.ok .nil) [] (by kernel_rfl) .nil
/-- function 41: sheerleg/image.Check$2 -/
abbrev T_image_Checkfn2 : Type := Tc6 → (List Int) → Tc8 → Tc7 → Int → (Bool → Tc6 → (List Int) → Tc8 → Tc7 → Int → Option Bool) → Option Bool
noncomputable def image_Checkfn2.body : T_image_Checkfn2 := fun ts1381 ns1382 ts1383 ts1384 n1385 k1 =>
  (cond_ (! (decide ((List.length ts1381 : Int) < (2 : Int)))) (cond_ (true && (decide ((0 : Int) < (List.length ts1381 : Int)))) (cond_ (! (! (((List.getD ts1381 (0 : Nat) (0, (0, (0, (0, (0, ())))))).1 == (27 : Int)) && (((List.getD ts1381 (0 : Nat) (0, (0, (0, (0, (0, ())))))).2.1 == (0 : Int)) && (((List.getD ts1381 (0 : Nat) (0, (0, (0, (0, (0, ())))))).2.2.1 == (0 : Int)) && (((List.getD ts1381 (0 : Nat) (0, (0, (0, (0, (0, ())))))).2.2.2.1 == (0 : Int)) && (((List.getD ts1381 (0 : Nat) (0, (0, (0, (0, (0, ())))))).2.2.2.2.1 == (0 : Int)) && true))))))) (cond_ (true && (decide ((1 : Int) < (List.length ts1381 : Int)))) (k1 (! (((List.getD ts1381 (1 : Nat) (0, (0, (0, (0, (0, ())))))).1 == (28 : Int)) && (((List.getD ts1381 (1 : Nat) (0, (0, (0, (0, (0, ())))))).2.1 == (0 : Int)) && (((List.getD ts1381 (1 : Nat) (0, (0, (0, (0, (0, ())))))).2.2.1 == (0 : Int)) && (((List.getD ts1381 (1 : Nat) (0, (0, (0, (0, (0, ())))))).2.2.2.1 == (0 : Int)) && (((List.getD ts1381 (1 : Nat) (0, (0, (0, (0, (0, ())))))).2.2.2.2.1 == (0 : Int)) && true)))))) ts1381 ns1382 ts1383 ts1384 n1385) none) (k1 true ts1381 ns1382 ts1383 ts1384 n1385)) none) (k1 true ts1381 ns1382 ts1383 ts1384 n1385))
noncomputable def image_Checkfn2 : T_image_Checkfn2 := image_Checkfn2.body
def image_Checkfn2.p : FPat := fp 41 (ps (pq [0, 0] 0 0) pz) (pl (po [0, 0] 40 5 (em (pl (pa (pl (pb 1 75 Ty8) (pl (pb 2 2 (.int .i64)) (pl (pb 3 78 Ty11) (pl (pb 4 127 Ty7) (pl (pd (.int .i64)) pz)))))) pz))) pz)
def image_Checkfn2.g (F : T_image_Checkfn2) (v : image_Checkfn2.p.T) (k : KR) : Option Bool := F v.2.1.1.1 v.2.1.1.2.1 v.2.1.1.2.2.1 v.2.1.1.2.2.2.1 v.2.1.1.2.2.2.2.1 (fun y0 y1 y2 y3 y4 y5 => k (.d ⟨.bool, y0⟩) [([0, 0], ⟨40, 5, (.mix [(.agg [(.bv 1 75 Ty8 y1), (.bv 2 2 (.int .i64) y2), (.bv 3 78 Ty11 y3), (.bv 4 127 Ty7 y4), (.d ⟨(.int .i64), y5⟩)])])⟩)])
theorem image_Checkfn2.eq : ∀ v k, exF Tryz.f41 image_Checkfn2.p [] [] [] v k = image_Checkfn2.g (image_Checkfn2.body) v k := fun v k => by kernel_rfl
theorem image_Checkfn2.ok : okF 1 image_Checkfn2.p (image_Checkfn2.g image_Checkfn2) := fn2 (image_Checkfn2.eq) Tryz.func41 (by kernel_rfl) .nil [] (by kernel_rfl) .nil
/-- function 82: sheerleg/image.look$1 -/
abbrev T_image_lookfn1v1 : Type := Tc6 → (List Int) → Tc8 → Tc7 → Int → Int → (Int → Tc6 → (List Int) → Tc8 → Tc7 → Int → Int → Option Bool) → Option Bool
noncomputable def image_lookfn1v1.body (image_Checkfn2 : T_image_Checkfn2) : T_image_lookfn1v1 := fun ts1375 ns1376 ts1377 ts1378 n1379 n1380 k1 =>
  (image_Checkfn2 ts1375 ns1376 ts1377 ts1378 n1379
  (fun b1386 ts1387 ns1388 ts1389 ts1390 n1391 => (cond_ b1386 (k1 n1380 ts1387 ns1388 ts1389 ts1390 n1391 n1380) (k1 (0 : Int) ts1387 ns1388 ts1389 ts1390 n1391 n1380))))
noncomputable def image_lookfn1v1 : T_image_lookfn1v1 := image_lookfn1v1.body image_Checkfn2
def image_lookfn1v1.p : FPat := fp 82 (ps (pq [0, 0] 0 0) (ps (pq [0, 2] 0 0) pz)) (pl (po [0, 0] 34 1 (em (pl (pf 41 pz (ps (pq [0, 1] 0 0) pz)) pz))) (pl (po [0, 1] 40 5 (em (pl (pa (pl (pb 1 75 Ty8) (pl (pb 2 2 (.int .i64)) (pl (pb 3 78 Ty11) (pl (pb 4 127 Ty7) (pl (pd (.int .i64)) pz)))))) pz))) (pl (po [0, 2] 43 1 (es (.int .i64) (pl eh pz))) pz)))
def image_lookfn1v1.g (F : T_image_lookfn1v1) (v : image_lookfn1v1.p.T) (k : KR) : Option Bool := F v.2.2.1.1.1 v.2.2.1.1.2.1 v.2.2.1.1.2.2.1 v.2.2.1.1.2.2.2.1 v.2.2.1.1.2.2.2.2.1 v.2.2.2.1.1 (fun y0 y1 y2 y3 y4 y5 y6 => k (.d ⟨(.int .i64), y0⟩) [([0, 0], ⟨34, 1, (.mix [(.fn (.func 41) [] [(.ptr [0, 1] 0 0)])])⟩), ([0, 1], ⟨40, 5, (.mix [(.agg [(.bv 1 75 Ty8 y1), (.bv 2 2 (.int .i64) y2), (.bv 3 78 Ty11 y3), (.bv 4 127 Ty7 y4), (.d ⟨(.int .i64), y5⟩)])])⟩), ([0, 2], ⟨43, 1, (.data (.int .i64) [y6])⟩)])
theorem image_lookfn1v1.eq (F0 : T_image_Checkfn2) : ∀ v k, exF Tryz.f82 image_lookfn1v1.p [⟨image_Checkfn2.p, image_Checkfn2.g F0⟩] [] [] v k = image_lookfn1v1.g (image_lookfn1v1.body F0) v k := fun v k => by kernel_rfl
theorem image_lookfn1v1.ok : okF 2 image_lookfn1v1.p (image_lookfn1v1.g image_lookfn1v1) := fn2 (image_lookfn1v1.eq image_Checkfn2) Tryz.func82 (by kernel_rfl) (.cons image_Checkfn2.ok .nil) [] (by kernel_rfl) .nil
/-- function 43: the loop in block 0 -/
abbrev T_image_gaps_L0 : Type := Int → Tc8 → Int → Int → Tc6 → (List Int) → Tc8 → Tc7 → Int → (Bool → Option Bool) → (Int → Tc6 → (List Int) → Tc8 → Tc7 → Int → Option Bool) → Option Bool
noncomputable def image_gaps_L0.body (image_gaps_L0 : T_image_gaps_L0) : T_image_gaps_L0 := fun n1415 ts1416 n1417 n1418 ts1419 ns1420 ts1421 ts1422 n1423 k1 k2 =>
  (cond_ (decide (n1418 < n1417)) (cond_ ((decide ((0 : Int) ≤ n1418)) && (decide (n1418 < (List.length ts1416 : Int)))) (cond_ (! ((List.getD ts1416 (Int.toNat n1418) (0, (0, (0, (0, (0, (0, ()))))))).2.2.1 != n1415)) (cond_ (! (decide ((List.getD ts1416 (Int.toNat n1418) (0, (0, (0, (0, (0, (0, ()))))))).2.2.2.1 ≤ (List.getD ts1416 (Int.toNat n1418) (0, (0, (0, (0, (0, (0, ()))))))).2.2.1))) (cond_ (! (decide ((List.getD ts1416 (Int.toNat n1418) (0, (0, (0, (0, (0, (0, ()))))))).2.2.2.1 > (List.getD ts1416 (Int.toNat n1418) (0, (0, (0, (0, (0, (0, ()))))))).2.2.2.2.1))) (cond_ (decide ((List.getD ts1416 (Int.toNat n1418) (0, (0, (0, (0, (0, (0, ()))))))).2.2.2.2.2.1 < (0 : Int))) (k1 true) (image_gaps_L0 (List.getD ts1416 (Int.toNat n1418) (0, (0, (0, (0, (0, (0, ()))))))).2.2.2.2.1 ts1416 n1417 (IntKind.wrap .i64 (n1418 + (1 : Int))) ts1419 ns1420 ts1421 ts1422 n1423 k1 k2)) (k1 true)) (k1 true)) (k1 true)) none) (k2 n1415 ts1419 ns1420 ts1421 ts1422 n1423))
noncomputable def image_gaps_L0 : Nat → T_image_gaps_L0
  | 0 => fun _ _ _ _ _ _ _ _ _ _ _ => none
  | n + 1 => image_gaps_L0.body (image_gaps_L0 n)
def image_gaps_L0.p : LPat := lp 2 44 [1, 3, 7, 8, 9] (ps (pq [1, 0] 0 0) (pl (pd (.int .i64)) (pl (pb 3 78 Ty11) (pl (pd (.int .i64)) (pl (pd (.int .i64)) pz))))) (pl (po [1, 0] 40 5 (em (pl (pa (pl (pb 1 75 Ty8) (pl (pb 2 2 (.int .i64)) (pl (pb 3 78 Ty11) (pl (pb 4 127 Ty7) (pl (pd (.int .i64)) pz)))))) pz))) pz)
def image_gaps_L0.g (F : T_image_gaps_L0) (v : image_gaps_L0.p.T) (k : KE) : Option Bool := F v.1.1 v.1.2.1 v.1.2.2.1 v.1.2.2.2.1 v.2.1.1.1 v.2.1.1.2.1 v.2.1.1.2.2.1 v.2.1.1.2.2.2.1 v.2.1.1.2.2.2.2.1 (fun y0 => k .ret ⟨fillS 44 [2] [(.d ⟨.bool, y0⟩)], [], 2⟩) (fun y0 y1 y2 y3 y4 y5 => k (.exit 0) ⟨fillS 44 [1, 3] [(.ptr [1, 0] 0 0), (.d ⟨(.int .i64), y0⟩)], [([1, 0], ⟨40, 5, (.mix [(.agg [(.bv 1 75 Ty8 y1), (.bv 2 2 (.int .i64) y2), (.bv 3 78 Ty11 y3), (.bv 4 127 Ty7 y4), (.d ⟨(.int .i64), y5⟩)])])⟩)], 2⟩)
theorem image_gaps_L0.step (S : T_image_gaps_L0) : ∀ v k, exR 43 Tryz.f43 0 image_gaps_L0.p [] [] [] (image_gaps_L0.g S) v k = image_gaps_L0.g (image_gaps_L0.body S) v k := fun v k => by kernel_rfl
theorem image_gaps_L0.ok : okL 43 Tryz.f43 0 0 image_gaps_L0.p (image_gaps_L0.g (image_gaps_L0 ROUNDS)) := loop2 (G := fun n => image_gaps_L0.g (image_gaps_L0 n)) (fun n => image_gaps_L0.step (image_gaps_L0 n)) .nil [] (by kernel_rfl) .nil (fun _ _ => rfl)
/-- function 43: sheerleg/image.gaps -/
abbrev T_image_gaps : Type := Tc6 → (List Int) → Tc8 → Tc7 → Int → (Bool → Option Bool) → Option Bool
noncomputable def image_gaps.body (image_gaps_L0 : T_image_gaps_L0) : T_image_gaps := fun ts1410 ns1411 ts1412 ts1413 n1414 k1 =>
  (image_gaps_L0 (2 : Int) ts1412 (List.length ts1412 : Int) (0 : Int) ts1410 ns1411 ts1412 ts1413 n1414
  (fun b1424 => (k1 b1424))
  (fun n1425 ts1426 ns1427 ts1428 ts1429 n1430 => (k1 (n1425 != (List.length ts1426 : Int)))))
noncomputable def image_gaps : T_image_gaps := image_gaps.body (image_gaps_L0 ROUNDS)
def image_gaps.p : FPat := fp 43 (pl (pa (pl (pb 1 75 Ty8) (pl (pb 2 2 (.int .i64)) (pl (pb 3 78 Ty11) (pl (pb 4 127 Ty7) (pl (pd (.int .i64)) pz)))))) pz) pz
def image_gaps.g (F : T_image_gaps) (v : image_gaps.p.T) (k : KR) : Option Bool := F v.1.1.1 v.1.1.2.1 v.1.1.2.2.1 v.1.1.2.2.2.1 v.1.1.2.2.2.2.1 (fun y0 => k (.d ⟨.bool, y0⟩) [])
theorem image_gaps.eq (L0 : T_image_gaps_L0) : ∀ v k, exF Tryz.f43 image_gaps.p [] [] [⟨0, image_gaps_L0.p, image_gaps_L0.g L0⟩] v k = image_gaps.g (image_gaps.body L0) v k := fun v k => by kernel_rfl
theorem image_gaps.ok : okF 1 image_gaps.p (image_gaps.g image_gaps) := fn2 (image_gaps.eq (image_gaps_L0 ROUNDS)) Tryz.func43 (by kernel_rfl) .nil [0] (by kernel_rfl) (.cons image_gaps_L0.ok .nil)
/-- function 42: sheerleg/image.Check$3 -/
abbrev T_image_Checkfn3 : Type := Tc6 → (List Int) → Tc8 → Tc7 → Int → (Bool → Tc6 → (List Int) → Tc8 → Tc7 → Int → Option Bool) → Option Bool
noncomputable def image_Checkfn3.body (image_gaps : T_image_gaps) : T_image_Checkfn3 := fun ts1405 ns1406 ts1407 ts1408 n1409 k1 =>
  (image_gaps ts1405 ns1406 ts1407 ts1408 n1409
  (fun b1431 => (k1 b1431 ts1405 ns1406 ts1407 ts1408 n1409)))
noncomputable def image_Checkfn3 : T_image_Checkfn3 := image_Checkfn3.body image_gaps
def image_Checkfn3.p : FPat := fp 42 (ps (pq [0, 0] 0 0) pz) (pl (po [0, 0] 40 5 (em (pl (pa (pl (pb 1 75 Ty8) (pl (pb 2 2 (.int .i64)) (pl (pb 3 78 Ty11) (pl (pb 4 127 Ty7) (pl (pd (.int .i64)) pz)))))) pz))) pz)
def image_Checkfn3.g (F : T_image_Checkfn3) (v : image_Checkfn3.p.T) (k : KR) : Option Bool := F v.2.1.1.1 v.2.1.1.2.1 v.2.1.1.2.2.1 v.2.1.1.2.2.2.1 v.2.1.1.2.2.2.2.1 (fun y0 y1 y2 y3 y4 y5 => k (.d ⟨.bool, y0⟩) [([0, 0], ⟨40, 5, (.mix [(.agg [(.bv 1 75 Ty8 y1), (.bv 2 2 (.int .i64) y2), (.bv 3 78 Ty11 y3), (.bv 4 127 Ty7 y4), (.d ⟨(.int .i64), y5⟩)])])⟩)])
theorem image_Checkfn3.eq (F0 : T_image_gaps) : ∀ v k, exF Tryz.f42 image_Checkfn3.p [⟨image_gaps.p, image_gaps.g F0⟩] [] [] v k = image_Checkfn3.g (image_Checkfn3.body F0) v k := fun v k => by kernel_rfl
theorem image_Checkfn3.ok : okF 2 image_Checkfn3.p (image_Checkfn3.g image_Checkfn3) := fn2 (image_Checkfn3.eq image_gaps) Tryz.func42 (by kernel_rfl) (.cons image_gaps.ok .nil) [] (by kernel_rfl) .nil
/-- function 82: sheerleg/image.look$1 -/
abbrev T_image_lookfn1v2 : Type := Tc6 → (List Int) → Tc8 → Tc7 → Int → Int → (Int → Tc6 → (List Int) → Tc8 → Tc7 → Int → Int → Option Bool) → Option Bool
noncomputable def image_lookfn1v2.body (image_Checkfn3 : T_image_Checkfn3) : T_image_lookfn1v2 := fun ts1399 ns1400 ts1401 ts1402 n1403 n1404 k1 =>
  (image_Checkfn3 ts1399 ns1400 ts1401 ts1402 n1403
  (fun b1432 ts1433 ns1434 ts1435 ts1436 n1437 => (cond_ b1432 (k1 n1404 ts1433 ns1434 ts1435 ts1436 n1437 n1404) (k1 (0 : Int) ts1433 ns1434 ts1435 ts1436 n1437 n1404))))
noncomputable def image_lookfn1v2 : T_image_lookfn1v2 := image_lookfn1v2.body image_Checkfn3
def image_lookfn1v2.p : FPat := fp 82 (ps (pq [0, 0] 0 0) (ps (pq [0, 2] 0 0) pz)) (pl (po [0, 0] 34 1 (em (pl (pf 42 pz (ps (pq [0, 1] 0 0) pz)) pz))) (pl (po [0, 1] 40 5 (em (pl (pa (pl (pb 1 75 Ty8) (pl (pb 2 2 (.int .i64)) (pl (pb 3 78 Ty11) (pl (pb 4 127 Ty7) (pl (pd (.int .i64)) pz)))))) pz))) (pl (po [0, 2] 43 1 (es (.int .i64) (pl eh pz))) pz)))
def image_lookfn1v2.g (F : T_image_lookfn1v2) (v : image_lookfn1v2.p.T) (k : KR) : Option Bool := F v.2.2.1.1.1 v.2.2.1.1.2.1 v.2.2.1.1.2.2.1 v.2.2.1.1.2.2.2.1 v.2.2.1.1.2.2.2.2.1 v.2.2.2.1.1 (fun y0 y1 y2 y3 y4 y5 y6 => k (.d ⟨(.int .i64), y0⟩) [([0, 0], ⟨34, 1, (.mix [(.fn (.func 42) [] [(.ptr [0, 1] 0 0)])])⟩), ([0, 1], ⟨40, 5, (.mix [(.agg [(.bv 1 75 Ty8 y1), (.bv 2 2 (.int .i64) y2), (.bv 3 78 Ty11 y3), (.bv 4 127 Ty7 y4), (.d ⟨(.int .i64), y5⟩)])])⟩), ([0, 2], ⟨43, 1, (.data (.int .i64) [y6])⟩)])
theorem image_lookfn1v2.eq (F0 : T_image_Checkfn3) : ∀ v k, exF Tryz.f82 image_lookfn1v2.p [⟨image_Checkfn3.p, image_Checkfn3.g F0⟩] [] [] v k = image_lookfn1v2.g (image_lookfn1v2.body F0) v k := fun v k => by kernel_rfl
theorem image_lookfn1v2.ok : okF 3 image_lookfn1v2.p (image_lookfn1v2.g image_lookfn1v2) := fn2 (image_lookfn1v2.eq image_Checkfn3) Tryz.func82 (by kernel_rfl) (.cons image_Checkfn3.ok .nil) [] (by kernel_rfl) .nil
/-- function 46: sheerleg/image.odd -/
abbrev T_image_odd : Type := Tc6 → (List Int) → Tc8 → Tc7 → Int → (Tc6 → (List Int) → Tc8 → Tc7 → Int → Option Bool) → Option Bool
noncomputable def image_odd.body : T_image_odd := fun ts1456 ns1457 ts1458 ts1459 n1460 k1 =>
  (k1 ts1456 ns1457 ts1458 ts1459 n1460)
noncomputable def image_odd : T_image_odd := image_odd.body
def image_odd.p : FPat := fp 46 (pl (pa (pl (pb 1 75 Ty8) (pl (pb 2 2 (.int .i64)) (pl (pb 3 78 Ty11) (pl (pb 4 127 Ty7) (pl (pd (.int .i64)) pz)))))) pz) pz
def image_odd.g (F : T_image_odd) (v : image_odd.p.T) (k : KR) : Option Bool := F v.1.1.1 v.1.1.2.1 v.1.1.2.2.1 v.1.1.2.2.2.1 v.1.1.2.2.2.2.1 (fun y0 y1 y2 y3 y4 => k (.fn (.func 83) [] [(.ptr [1, 0] 0 0)]) [([1, 0], ⟨40, 5, (.mix [(.agg [(.bv 1 75 Ty8 y0), (.bv 2 2 (.int .i64) y1), (.bv 3 78 Ty11 y2), (.bv 4 127 Ty7 y3), (.d ⟨(.int .i64), y4⟩)])])⟩)])
theorem image_odd.eq : ∀ v k, exF Tryz.f46 image_odd.p [] [] [] v k = image_odd.g (image_odd.body) v k := fun v k => by kernel_rfl
theorem image_odd.ok : okF 1 image_odd.p (image_odd.g image_odd) := fn2 (image_odd.eq) Tryz.func46 (by kernel_rfl) .nil [] (by kernel_rfl) .nil
/-- function 83: sheerleg/image.odd$1 -/
abbrev T_image_oddfn1 : Type := Tc5 → Tc6 → (List Int) → Tc8 → Tc7 → Int → (Bool → Tc6 → (List Int) → Tc8 → Tc7 → Int → Option Bool) → Option Bool
noncomputable def image_oddfn1.body : T_image_oddfn1 := fun t1486 ts1487 ns1488 ts1489 ts1490 n1491 k1 =>
  (cond_ (((decide ((0 : Int) ≤ t1486.2.2.1)) && (decide (t1486.2.2.1 ≤ t1486.2.2.2.1))) && (decide (t1486.2.2.2.1 ≤ (List.length ts1487 : Int)))) (cond_ ((((List.length (List.take (Int.toNat (t1486.2.2.2.1 - t1486.2.2.1)) (List.drop (Int.toNat t1486.2.2.1) ts1487))) : Nat) : Int) == (2 : Int)) (cond_ (true && (decide ((0 : Int) < (((List.length (List.take (Int.toNat (t1486.2.2.2.1 - t1486.2.2.1)) (List.drop (Int.toNat t1486.2.2.1) ts1487))) : Nat) : Int)))) (cond_ ((List.getD (List.take (Int.toNat (t1486.2.2.2.1 - t1486.2.2.1)) (List.drop (Int.toNat t1486.2.2.1) ts1487)) (0 : Nat) (0, (0, (0, (0, (0, ())))))).1 == (25 : Int)) (cond_ (true && (decide ((1 : Int) ≤ (((List.length (List.take (Int.toNat (t1486.2.2.2.1 - t1486.2.2.1)) (List.drop (Int.toNat t1486.2.2.1) ts1487))) : Nat) : Int)))) (cond_ (! ((((List.length (List.take ((List.length (List.take (Int.toNat (t1486.2.2.2.1 - t1486.2.2.1)) (List.drop (Int.toNat t1486.2.2.1) ts1487))) - (1 : Nat)) (List.drop (1 : Nat) (List.take (Int.toNat (t1486.2.2.2.1 - t1486.2.2.1)) (List.drop (Int.toNat t1486.2.2.1) ts1487))))) : Nat) : Int) != (1 : Int))) (cond_ (true && (decide ((0 : Int) < (((List.length (List.take ((List.length (List.take (Int.toNat (t1486.2.2.2.1 - t1486.2.2.1)) (List.drop (Int.toNat t1486.2.2.1) ts1487))) - (1 : Nat)) (List.drop (1 : Nat) (List.take (Int.toNat (t1486.2.2.2.1 - t1486.2.2.1)) (List.drop (Int.toNat t1486.2.2.1) ts1487))))) : Nat) : Int)))) (k1 ((List.getD (List.take ((List.length (List.take (Int.toNat (t1486.2.2.2.1 - t1486.2.2.1)) (List.drop (Int.toNat t1486.2.2.1) ts1487))) - (1 : Nat)) (List.drop (1 : Nat) (List.take (Int.toNat (t1486.2.2.2.1 - t1486.2.2.1)) (List.drop (Int.toNat t1486.2.2.1) ts1487)))) (0 : Nat) (0, (0, (0, (0, (0, ())))))).1 != (26 : Int)) ts1487 ns1488 ts1489 ts1490 n1491) none) (k1 true ts1487 ns1488 ts1489 ts1490 n1491)) none) (cond_ (! ((((List.length (List.take (Int.toNat (t1486.2.2.2.1 - t1486.2.2.1)) (List.drop (Int.toNat t1486.2.2.1) ts1487))) : Nat) : Int) != (1 : Int))) (cond_ (true && (decide ((0 : Int) < (((List.length (List.take (Int.toNat (t1486.2.2.2.1 - t1486.2.2.1)) (List.drop (Int.toNat t1486.2.2.1) ts1487))) : Nat) : Int)))) (k1 ((List.getD (List.take (Int.toNat (t1486.2.2.2.1 - t1486.2.2.1)) (List.drop (Int.toNat t1486.2.2.1) ts1487)) (0 : Nat) (0, (0, (0, (0, (0, ())))))).1 != (26 : Int)) ts1487 ns1488 ts1489 ts1490 n1491) none) (k1 true ts1487 ns1488 ts1489 ts1490 n1491))) none) (cond_ (! ((((List.length (List.take (Int.toNat (t1486.2.2.2.1 - t1486.2.2.1)) (List.drop (Int.toNat t1486.2.2.1) ts1487))) : Nat) : Int) != (1 : Int))) (cond_ (true && (decide ((0 : Int) < (((List.length (List.take (Int.toNat (t1486.2.2.2.1 - t1486.2.2.1)) (List.drop (Int.toNat t1486.2.2.1) ts1487))) : Nat) : Int)))) (k1 ((List.getD (List.take (Int.toNat (t1486.2.2.2.1 - t1486.2.2.1)) (List.drop (Int.toNat t1486.2.2.1) ts1487)) (0 : Nat) (0, (0, (0, (0, (0, ())))))).1 != (26 : Int)) ts1487 ns1488 ts1489 ts1490 n1491) none) (k1 true ts1487 ns1488 ts1489 ts1490 n1491))) none)
noncomputable def image_oddfn1 : T_image_oddfn1 := image_oddfn1.body
def image_oddfn1.p : FPat := fp 83 (pl (pd Ty11) (ps (pq [0, 0] 0 0) pz)) (pl (po [0, 0] 40 5 (em (pl (pa (pl (pb 1 75 Ty8) (pl (pb 2 2 (.int .i64)) (pl (pb 3 78 Ty11) (pl (pb 4 127 Ty7) (pl (pd (.int .i64)) pz)))))) pz))) pz)
def image_oddfn1.g (F : T_image_oddfn1) (v : image_oddfn1.p.T) (k : KR) : Option Bool := F v.1.1 v.2.1.1.1 v.2.1.1.2.1 v.2.1.1.2.2.1 v.2.1.1.2.2.2.1 v.2.1.1.2.2.2.2.1 (fun y0 y1 y2 y3 y4 y5 => k (.d ⟨.bool, y0⟩) [([0, 0], ⟨40, 5, (.mix [(.agg [(.bv 1 75 Ty8 y1), (.bv 2 2 (.int .i64) y2), (.bv 3 78 Ty11 y3), (.bv 4 127 Ty7 y4), (.d ⟨(.int .i64), y5⟩)])])⟩)])
theorem image_oddfn1.eq : ∀ v k, exF Tryz.f83 image_oddfn1.p [] [] [] v k = image_oddfn1.g (image_oddfn1.body) v k := fun v k => by kernel_rfl
theorem image_oddfn1.ok : okF 1 image_oddfn1.p (image_oddfn1.g image_oddfn1) := fn2 (image_oddfn1.eq) Tryz.func83 (by kernel_rfl) .nil [] (by kernel_rfl) .nil
/-- function 56: the loop in block 0 -/
abbrev T_slices_IndexFunc_api_Fn_api_Fn_L0 : Type := Tc8 → Int → Int → Tc6 → (List Int) → Tc8 → Tc7 → Int → (Int → Tc6 → (List Int) → Tc8 → Tc7 → Int → Option Bool) → (Tc6 → (List Int) → Tc8 → Tc7 → Int → Option Bool) → Option Bool
noncomputable def slices_IndexFunc_api_Fn_api_Fn_L0.body (slices_IndexFunc_api_Fn_api_Fn_L0 : T_slices_IndexFunc_api_Fn_api_Fn_L0) (image_oddfn1 : T_image_oddfn1) : T_slices_IndexFunc_api_Fn_api_Fn_L0 := fun ts1478 n1479 n1480 ts1481 ns1482 ts1483 ts1484 n1485 k1 k2 =>
  (cond_ (decide (n1480 < n1479)) (cond_ ((decide ((0 : Int) ≤ n1480)) && (decide (n1480 < (List.length ts1478 : Int)))) (image_oddfn1 (List.getD ts1478 (Int.toNat n1480) (0, (0, (0, (0, (0, (0, ()))))))) ts1481 ns1482 ts1483 ts1484 n1485
  (fun b1492 ts1493 ns1494 ts1495 ts1496 n1497 => (cond_ b1492 (k1 n1480 ts1493 ns1494 ts1495 ts1496 n1497) (slices_IndexFunc_api_Fn_api_Fn_L0 ts1478 n1479 (IntKind.wrap .i64 (n1480 + (1 : Int))) ts1493 ns1494 ts1495 ts1496 n1497 k1 k2)))) none) (k2 ts1481 ns1482 ts1483 ts1484 n1485))
noncomputable def slices_IndexFunc_api_Fn_api_Fn_L0 : Nat → T_slices_IndexFunc_api_Fn_api_Fn_L0
  | 0 => fun _ _ _ _ _ _ _ _ _ _ => none
  | n + 1 => slices_IndexFunc_api_Fn_api_Fn_L0.body (slices_IndexFunc_api_Fn_api_Fn_L0 n) image_oddfn1
def slices_IndexFunc_api_Fn_api_Fn_L0.p : LPat := lp 2 19 [0, 1, 7, 8] (pl (pb 1 78 Ty11) (pl (pf 83 pz (ps (pq [0, 0] 0 0) pz)) (pl (pd (.int .i64)) (pl (pd (.int .i64)) pz)))) (pl (po [0, 0] 40 5 (em (pl (pa (pl (pb 2 75 Ty8) (pl (pb 3 2 (.int .i64)) (pl (pb 4 78 Ty11) (pl (pb 5 127 Ty7) (pl (pd (.int .i64)) pz)))))) pz))) pz)
def slices_IndexFunc_api_Fn_api_Fn_L0.g (F : T_slices_IndexFunc_api_Fn_api_Fn_L0) (v : slices_IndexFunc_api_Fn_api_Fn_L0.p.T) (k : KE) : Option Bool := F v.1.1 v.1.2.2.1 v.1.2.2.2.1 v.2.1.1.1 v.2.1.1.2.1 v.2.1.1.2.2.1 v.2.1.1.2.2.2.1 v.2.1.1.2.2.2.2.1 (fun y0 y1 y2 y3 y4 y5 => k .ret ⟨fillS 19 [4] [(.d ⟨(.int .i64), y0⟩)], [([0, 0], ⟨40, 5, (.mix [(.agg [(.bv 2 75 Ty8 y1), (.bv 3 2 (.int .i64) y2), (.bv 4 78 Ty11 y3), (.bv 5 127 Ty7 y4), (.d ⟨(.int .i64), y5⟩)])])⟩)], 2⟩) (fun y0 y1 y2 y3 y4 => k (.exit 0) ⟨fillS 19 [] [], [([0, 0], ⟨40, 5, (.mix [(.agg [(.bv 2 75 Ty8 y0), (.bv 3 2 (.int .i64) y1), (.bv 4 78 Ty11 y2), (.bv 5 127 Ty7 y3), (.d ⟨(.int .i64), y4⟩)])])⟩)], 2⟩)
theorem slices_IndexFunc_api_Fn_api_Fn_L0.step (S : T_slices_IndexFunc_api_Fn_api_Fn_L0) (F0 : T_image_oddfn1) : ∀ v k, exR 56 Tryz.f56 0 slices_IndexFunc_api_Fn_api_Fn_L0.p [⟨image_oddfn1.p, image_oddfn1.g F0⟩] [] [] (slices_IndexFunc_api_Fn_api_Fn_L0.g S) v k = slices_IndexFunc_api_Fn_api_Fn_L0.g (slices_IndexFunc_api_Fn_api_Fn_L0.body S F0) v k := fun v k => by kernel_rfl
theorem slices_IndexFunc_api_Fn_api_Fn_L0.ok : okL 56 Tryz.f56 1 0 slices_IndexFunc_api_Fn_api_Fn_L0.p (slices_IndexFunc_api_Fn_api_Fn_L0.g (slices_IndexFunc_api_Fn_api_Fn_L0 ROUNDS)) := loop2 (G := fun n => slices_IndexFunc_api_Fn_api_Fn_L0.g (slices_IndexFunc_api_Fn_api_Fn_L0 n)) (fun n => slices_IndexFunc_api_Fn_api_Fn_L0.step (slices_IndexFunc_api_Fn_api_Fn_L0 n) image_oddfn1) (.cons image_oddfn1.ok .nil) [] (by kernel_rfl) .nil (fun _ _ => rfl)
/-- function 56: slices.IndexFunc[[]sheerleg/api.Fn,sheerleg/api.Fn] -/
abbrev T_slices_IndexFunc_api_Fn_api_Fn : Type := Tc8 → Tc6 → (List Int) → Tc8 → Tc7 → Int → (Int → Tc6 → (List Int) → Tc8 → Tc7 → Int → Option Bool) → Option Bool
noncomputable def slices_IndexFunc_api_Fn_api_Fn.body (slices_IndexFunc_api_Fn_api_Fn_L0 : T_slices_IndexFunc_api_Fn_api_Fn_L0) : T_slices_IndexFunc_api_Fn_api_Fn := fun ts1472 ts1473 ns1474 ts1475 ts1476 n1477 k1 =>
  (slices_IndexFunc_api_Fn_api_Fn_L0 ts1472 (List.length ts1472 : Int) (0 : Int) ts1473 ns1474 ts1475 ts1476 n1477
  (fun n1498 ts1499 ns1500 ts1501 ts1502 n1503 => (k1 n1498 ts1499 ns1500 ts1501 ts1502 n1503))
  (fun ts1504 ns1505 ts1506 ts1507 n1508 => (k1 (-1 : Int) ts1504 ns1505 ts1506 ts1507 n1508)))
noncomputable def slices_IndexFunc_api_Fn_api_Fn : T_slices_IndexFunc_api_Fn_api_Fn := slices_IndexFunc_api_Fn_api_Fn.body (slices_IndexFunc_api_Fn_api_Fn_L0 ROUNDS)
def slices_IndexFunc_api_Fn_api_Fn.p : FPat := fp 56 (pl (pb 1 78 Ty11) (pl (pf 83 pz (ps (pq [0, 0] 0 0) pz)) pz)) (pl (po [0, 0] 40 5 (em (pl (pa (pl (pb 2 75 Ty8) (pl (pb 3 2 (.int .i64)) (pl (pb 4 78 Ty11) (pl (pb 5 127 Ty7) (pl (pd (.int .i64)) pz)))))) pz))) pz)
def slices_IndexFunc_api_Fn_api_Fn.g (F : T_slices_IndexFunc_api_Fn_api_Fn) (v : slices_IndexFunc_api_Fn_api_Fn.p.T) (k : KR) : Option Bool := F v.1.1 v.2.1.1.1 v.2.1.1.2.1 v.2.1.1.2.2.1 v.2.1.1.2.2.2.1 v.2.1.1.2.2.2.2.1 (fun y0 y1 y2 y3 y4 y5 => k (.d ⟨(.int .i64), y0⟩) [([0, 0], ⟨40, 5, (.mix [(.agg [(.bv 2 75 Ty8 y1), (.bv 3 2 (.int .i64) y2), (.bv 4 78 Ty11 y3), (.bv 5 127 Ty7 y4), (.d ⟨(.int .i64), y5⟩)])])⟩)])
theorem slices_IndexFunc_api_Fn_api_Fn.eq (L0 : T_slices_IndexFunc_api_Fn_api_Fn_L0) : ∀ v k, exF Tryz.f56 slices_IndexFunc_api_Fn_api_Fn.p [] [] [⟨0, slices_IndexFunc_api_Fn_api_Fn_L0.p, slices_IndexFunc_api_Fn_api_Fn_L0.g L0⟩] v k = slices_IndexFunc_api_Fn_api_Fn.g (slices_IndexFunc_api_Fn_api_Fn.body L0) v k := fun v k => by kernel_rfl
theorem slices_IndexFunc_api_Fn_api_Fn.ok : okF 2 slices_IndexFunc_api_Fn_api_Fn.p (slices_IndexFunc_api_Fn_api_Fn.g slices_IndexFunc_api_Fn_api_Fn) := fn2 (slices_IndexFunc_api_Fn_api_Fn.eq (slices_IndexFunc_api_Fn_api_Fn_L0 ROUNDS)) Tryz.func56 (by kernel_rfl) .nil [0] (by kernel_rfl) (.cons slices_IndexFunc_api_Fn_api_Fn_L0.ok .nil)
/-- function 45: slices.ContainsFunc[[]sheerleg/api.Fn,sheerleg/api.Fn] -/
abbrev T_slices_ContainsFunc_api_Fn_api_Fn : Type := Tc8 → Tc6 → (List Int) → Tc8 → Tc7 → Int → (Bool → Tc6 → (List Int) → Tc8 → Tc7 → Int → Option Bool) → Option Bool
noncomputable def slices_ContainsFunc_api_Fn_api_Fn.body (slices_IndexFunc_api_Fn_api_Fn : T_slices_IndexFunc_api_Fn_api_Fn) : T_slices_ContainsFunc_api_Fn_api_Fn := fun ts1466 ts1467 ns1468 ts1469 ts1470 n1471 k1 =>
  (slices_IndexFunc_api_Fn_api_Fn ts1466 ts1467 ns1468 ts1469 ts1470 n1471
  (fun n1509 ts1510 ns1511 ts1512 ts1513 n1514 => (k1 (decide (n1509 ≥ (0 : Int))) ts1510 ns1511 ts1512 ts1513 n1514)))
noncomputable def slices_ContainsFunc_api_Fn_api_Fn : T_slices_ContainsFunc_api_Fn_api_Fn := slices_ContainsFunc_api_Fn_api_Fn.body slices_IndexFunc_api_Fn_api_Fn
def slices_ContainsFunc_api_Fn_api_Fn.p : FPat := fp 45 (pl (pb 1 78 Ty11) (pl (pf 83 pz (ps (pq [0, 0] 0 0) pz)) pz)) (pl (po [0, 0] 40 5 (em (pl (pa (pl (pb 2 75 Ty8) (pl (pb 3 2 (.int .i64)) (pl (pb 4 78 Ty11) (pl (pb 5 127 Ty7) (pl (pd (.int .i64)) pz)))))) pz))) pz)
def slices_ContainsFunc_api_Fn_api_Fn.g (F : T_slices_ContainsFunc_api_Fn_api_Fn) (v : slices_ContainsFunc_api_Fn_api_Fn.p.T) (k : KR) : Option Bool := F v.1.1 v.2.1.1.1 v.2.1.1.2.1 v.2.1.1.2.2.1 v.2.1.1.2.2.2.1 v.2.1.1.2.2.2.2.1 (fun y0 y1 y2 y3 y4 y5 => k (.d ⟨.bool, y0⟩) [([0, 0], ⟨40, 5, (.mix [(.agg [(.bv 2 75 Ty8 y1), (.bv 3 2 (.int .i64) y2), (.bv 4 78 Ty11 y3), (.bv 5 127 Ty7 y4), (.d ⟨(.int .i64), y5⟩)])])⟩)])
theorem slices_ContainsFunc_api_Fn_api_Fn.eq (F0 : T_slices_IndexFunc_api_Fn_api_Fn) : ∀ v k, exF Tryz.f45 slices_ContainsFunc_api_Fn_api_Fn.p [⟨slices_IndexFunc_api_Fn_api_Fn.p, slices_IndexFunc_api_Fn_api_Fn.g F0⟩] [] [] v k = slices_ContainsFunc_api_Fn_api_Fn.g (slices_ContainsFunc_api_Fn_api_Fn.body F0) v k := fun v k => by kernel_rfl
theorem slices_ContainsFunc_api_Fn_api_Fn.ok : okF 3 slices_ContainsFunc_api_Fn_api_Fn.p (slices_ContainsFunc_api_Fn_api_Fn.g slices_ContainsFunc_api_Fn_api_Fn) := fn2 (slices_ContainsFunc_api_Fn_api_Fn.eq slices_IndexFunc_api_Fn_api_Fn) Tryz.func45 (by kernel_rfl) (.cons slices_IndexFunc_api_Fn_api_Fn.ok .nil) [] (by kernel_rfl) .nil
/-- function 44: sheerleg/image.Check$4 -/
abbrev T_image_Checkfn4 : Type := Tc6 → (List Int) → Tc8 → Tc7 → Int → (Bool → Tc6 → (List Int) → Tc8 → Tc7 → Int → Option Bool) → Option Bool
noncomputable def image_Checkfn4.body (image_odd : T_image_odd) (slices_ContainsFunc_api_Fn_api_Fn : T_slices_ContainsFunc_api_Fn_api_Fn) : T_image_Checkfn4 := fun ts1451 ns1452 ts1453 ts1454 n1455 k1 =>
  (image_odd ts1451 ns1452 ts1453 ts1454 n1455
  (fun ts1461 ns1462 ts1463 ts1464 n1465 => (slices_ContainsFunc_api_Fn_api_Fn ts1453 ts1461 ns1462 ts1463 ts1464 n1465
  (fun b1515 ts1516 ns1517 ts1518 ts1519 n1520 => (k1 b1515 ts1451 ns1452 ts1453 ts1454 n1455)))))
noncomputable def image_Checkfn4 : T_image_Checkfn4 := image_Checkfn4.body image_odd slices_ContainsFunc_api_Fn_api_Fn
def image_Checkfn4.p : FPat := fp 44 (ps (pq [0, 0] 0 0) pz) (pl (po [0, 0] 40 5 (em (pl (pa (pl (pb 1 75 Ty8) (pl (pb 2 2 (.int .i64)) (pl (pb 3 78 Ty11) (pl (pb 4 127 Ty7) (pl (pd (.int .i64)) pz)))))) pz))) pz)
def image_Checkfn4.g (F : T_image_Checkfn4) (v : image_Checkfn4.p.T) (k : KR) : Option Bool := F v.2.1.1.1 v.2.1.1.2.1 v.2.1.1.2.2.1 v.2.1.1.2.2.2.1 v.2.1.1.2.2.2.2.1 (fun y0 y1 y2 y3 y4 y5 => k (.d ⟨.bool, y0⟩) [([0, 0], ⟨40, 5, (.mix [(.agg [(.bv 1 75 Ty8 y1), (.bv 2 2 (.int .i64) y2), (.bv 3 78 Ty11 y3), (.bv 4 127 Ty7 y4), (.d ⟨(.int .i64), y5⟩)])])⟩)])
theorem image_Checkfn4.eq (F0 : T_image_odd) (F1 : T_slices_ContainsFunc_api_Fn_api_Fn) : ∀ v k, exF Tryz.f44 image_Checkfn4.p [⟨image_odd.p, image_odd.g F0⟩, ⟨slices_ContainsFunc_api_Fn_api_Fn.p, slices_ContainsFunc_api_Fn_api_Fn.g F1⟩] [] [] v k = image_Checkfn4.g (image_Checkfn4.body F0 F1) v k := fun v k => by kernel_rfl
theorem image_Checkfn4.ok : okF 4 image_Checkfn4.p (image_Checkfn4.g image_Checkfn4) := fn2 (image_Checkfn4.eq image_odd slices_ContainsFunc_api_Fn_api_Fn) Tryz.func44 (by kernel_rfl) (.cons image_odd.ok (.cons slices_ContainsFunc_api_Fn_api_Fn.ok .nil)) [] (by kernel_rfl) .nil
/-- function 82: sheerleg/image.look$1 -/
abbrev T_image_lookfn1v3 : Type := Tc6 → (List Int) → Tc8 → Tc7 → Int → Int → (Int → Tc6 → (List Int) → Tc8 → Tc7 → Int → Int → Option Bool) → Option Bool
noncomputable def image_lookfn1v3.body (image_Checkfn4 : T_image_Checkfn4) : T_image_lookfn1v3 := fun ts1445 ns1446 ts1447 ts1448 n1449 n1450 k1 =>
  (image_Checkfn4 ts1445 ns1446 ts1447 ts1448 n1449
  (fun b1521 ts1522 ns1523 ts1524 ts1525 n1526 => (cond_ b1521 (k1 n1450 ts1522 ns1523 ts1524 ts1525 n1526 n1450) (k1 (0 : Int) ts1522 ns1523 ts1524 ts1525 n1526 n1450))))
noncomputable def image_lookfn1v3 : T_image_lookfn1v3 := image_lookfn1v3.body image_Checkfn4
def image_lookfn1v3.p : FPat := fp 82 (ps (pq [0, 0] 0 0) (ps (pq [0, 2] 0 0) pz)) (pl (po [0, 0] 34 1 (em (pl (pf 44 pz (ps (pq [0, 1] 0 0) pz)) pz))) (pl (po [0, 1] 40 5 (em (pl (pa (pl (pb 1 75 Ty8) (pl (pb 2 2 (.int .i64)) (pl (pb 3 78 Ty11) (pl (pb 4 127 Ty7) (pl (pd (.int .i64)) pz)))))) pz))) (pl (po [0, 2] 43 1 (es (.int .i64) (pl eh pz))) pz)))
def image_lookfn1v3.g (F : T_image_lookfn1v3) (v : image_lookfn1v3.p.T) (k : KR) : Option Bool := F v.2.2.1.1.1 v.2.2.1.1.2.1 v.2.2.1.1.2.2.1 v.2.2.1.1.2.2.2.1 v.2.2.1.1.2.2.2.2.1 v.2.2.2.1.1 (fun y0 y1 y2 y3 y4 y5 y6 => k (.d ⟨(.int .i64), y0⟩) [([0, 0], ⟨34, 1, (.mix [(.fn (.func 44) [] [(.ptr [0, 1] 0 0)])])⟩), ([0, 1], ⟨40, 5, (.mix [(.agg [(.bv 1 75 Ty8 y1), (.bv 2 2 (.int .i64) y2), (.bv 3 78 Ty11 y3), (.bv 4 127 Ty7 y4), (.d ⟨(.int .i64), y5⟩)])])⟩), ([0, 2], ⟨43, 1, (.data (.int .i64) [y6])⟩)])
theorem image_lookfn1v3.eq (F0 : T_image_Checkfn4) : ∀ v k, exF Tryz.f82 image_lookfn1v3.p [⟨image_Checkfn4.p, image_Checkfn4.g F0⟩] [] [] v k = image_lookfn1v3.g (image_lookfn1v3.body F0) v k := fun v k => by kernel_rfl
theorem image_lookfn1v3.ok : okF 5 image_lookfn1v3.p (image_lookfn1v3.g image_lookfn1v3) := fn2 (image_lookfn1v3.eq image_Checkfn4) Tryz.func82 (by kernel_rfl) (.cons image_Checkfn4.ok .nil) [] (by kernel_rfl) .nil
/-- function 48: the loop in block 1 -/
abbrev T_runs_Check_L1 : Type := Tc7 → Int → Int → Tc7 → Int → Int → (Int → Option Bool) → (Tc7 → Option Bool) → Option Bool
noncomputable def runs_Check_L1.body (runs_Check_L1 : T_runs_Check_L1) : T_runs_Check_L1 := fun ts1541 n1542 n1543 ts1544 n1545 n1546 k1 k2 =>
  (cond_ (decide (n1546 < n1545)) (cond_ ((decide ((0 : Int) ≤ n1546)) && (decide (n1546 < (List.length ts1544 : Int)))) (cond_ (! (decide ((List.getD ts1544 (Int.toNat n1546) (0, (0, (0, (false, (0, ())))))).1 ≤ n1543))) (cond_ (! (decide ((List.getD ts1544 (Int.toNat n1546) (0, (0, (0, (false, (0, ())))))).1 ≥ n1542))) (cond_ (n1546 == (0 : Int)) (cond_ ((List.getD ts1544 (Int.toNat n1546) (0, (0, (0, (false, (0, ())))))).1 != (0 : Int)) (k1 (9 : Int)) (runs_Check_L1 ts1541 n1542 (List.getD ts1544 (Int.toNat n1546) (0, (0, (0, (false, (0, ())))))).1 ts1544 n1545 (IntKind.wrap .i64 (n1546 + (1 : Int))) k1 k2)) (runs_Check_L1 ts1541 n1542 (List.getD ts1544 (Int.toNat n1546) (0, (0, (0, (false, (0, ())))))).1 ts1544 n1545 (IntKind.wrap .i64 (n1546 + (1 : Int))) k1 k2)) (k1 (9 : Int))) (k1 (9 : Int))) none) (k2 ts1541))
noncomputable def runs_Check_L1 : Nat → T_runs_Check_L1
  | 0 => fun _ _ _ _ _ _ _ _ => none
  | n + 1 => runs_Check_L1.body (runs_Check_L1 n)
def runs_Check_L1.p : LPat := lp 2 67 [0, 1, 5, 20, 21, 22] (pl (pb 1 127 Ty7) (pl (pd (.int .i64)) (pl (pd (.int .i64)) (pl (pb 1 127 Ty7) (pl (pd (.int .i64)) (pl (pd (.int .i64)) pz)))))) pz
def runs_Check_L1.g (F : T_runs_Check_L1) (v : runs_Check_L1.p.T) (k : KE) : Option Bool := F v.1.1 v.1.2.1 v.1.2.2.1 v.1.2.2.2.1 v.1.2.2.2.2.1 v.1.2.2.2.2.2.1 (fun y0 => k .ret ⟨fillS 67 [4] [(.d ⟨(.int .i64), y0⟩)], [], 2⟩) (fun y0 => k (.exit 1) ⟨fillS 67 [0] [(.bv 1 127 Ty7 y0)], [], 2⟩)
theorem runs_Check_L1.step (S : T_runs_Check_L1) : ∀ v k, exR 48 Tryz.f48 1 runs_Check_L1.p [] [] [] (runs_Check_L1.g S) v k = runs_Check_L1.g (runs_Check_L1.body S) v k := fun v k => by kernel_rfl
theorem runs_Check_L1.ok : okL 48 Tryz.f48 0 1 runs_Check_L1.p (runs_Check_L1.g (runs_Check_L1 ROUNDS)) := loop2 (G := fun n => runs_Check_L1.g (runs_Check_L1 n)) (fun n => runs_Check_L1.step (runs_Check_L1 n)) .nil [] (by kernel_rfl) .nil (fun _ _ => rfl)
/-- function 48: the loop in block 3 -/
abbrev T_runs_Check_L3 : Type := Tc7 → Int → (Int → Option Bool) → (Option Bool) → Option Bool
noncomputable def runs_Check_L3.body (runs_Check_L3 : T_runs_Check_L3) : T_runs_Check_L3 := fun ts1549 n1550 k1 k2 =>
  (cond_ (decide (n1550 < (List.length ts1549 : Int))) (cond_ ((decide ((0 : Int) ≤ n1550)) && (decide (n1550 < (List.length ts1549 : Int)))) (cond_ ((decide ((0 : Int) ≤ (IntKind.wrap .i64 (n1550 - (1 : Int))))) && (decide ((IntKind.wrap .i64 (n1550 - (1 : Int))) < (List.length ts1549 : Int)))) (cond_ (((List.getD ts1549 (Int.toNat n1550) (0, (0, (0, (false, (0, ())))))).2.1 == (List.getD ts1549 (Int.toNat (IntKind.wrap .i64 (n1550 - (1 : Int)))) (0, (0, (0, (false, (0, ())))))).2.1) && (((List.getD ts1549 (Int.toNat n1550) (0, (0, (0, (false, (0, ())))))).2.2.1 == (List.getD ts1549 (Int.toNat (IntKind.wrap .i64 (n1550 - (1 : Int)))) (0, (0, (0, (false, (0, ())))))).2.2.1) && (((List.getD ts1549 (Int.toNat n1550) (0, (0, (0, (false, (0, ())))))).2.2.2.1 == (List.getD ts1549 (Int.toNat (IntKind.wrap .i64 (n1550 - (1 : Int)))) (0, (0, (0, (false, (0, ())))))).2.2.2.1) && (((List.getD ts1549 (Int.toNat n1550) (0, (0, (0, (false, (0, ())))))).2.2.2.2.1 == (List.getD ts1549 (Int.toNat (IntKind.wrap .i64 (n1550 - (1 : Int)))) (0, (0, (0, (false, (0, ())))))).2.2.2.2.1) && true)))) (k1 (12 : Int)) (runs_Check_L3 ts1549 (IntKind.wrap .i64 (n1550 + (1 : Int))) k1 k2)) none) none) (k2))
noncomputable def runs_Check_L3 : Nat → T_runs_Check_L3
  | 0 => fun _ _ _ _ => none
  | n + 1 => runs_Check_L3.body (runs_Check_L3 n)
def runs_Check_L3.p : LPat := lp 2 67 [0, 8] (pl (pb 1 127 Ty7) (pl (pd (.int .i64)) pz)) pz
def runs_Check_L3.g (F : T_runs_Check_L3) (v : runs_Check_L3.p.T) (k : KE) : Option Bool := F v.1.1 v.1.2.1 (fun y0 => k .ret ⟨fillS 67 [4] [(.d ⟨(.int .i64), y0⟩)], [], 2⟩) (k (.exit 3) ⟨fillS 67 [] [], [], 2⟩)
theorem runs_Check_L3.step (S : T_runs_Check_L3) : ∀ v k, exR 48 Tryz.f48 3 runs_Check_L3.p [] [] [] (runs_Check_L3.g S) v k = runs_Check_L3.g (runs_Check_L3.body S) v k := fun v k => by kernel_rfl
theorem runs_Check_L3.ok : okL 48 Tryz.f48 0 3 runs_Check_L3.p (runs_Check_L3.g (runs_Check_L3 ROUNDS)) := loop2 (G := fun n => runs_Check_L3.g (runs_Check_L3 n)) (fun n => runs_Check_L3.step (runs_Check_L3 n)) .nil [] (by kernel_rfl) .nil (fun _ _ => rfl)
/-- function 48: sheerleg/runs.Check -/
abbrev T_runs_Check : Type := Tc7 → Int → (Int → Option Bool) → Option Bool
noncomputable def runs_Check.body (runs_Check_L1 : T_runs_Check_L1) (runs_Check_L3 : T_runs_Check_L3) : T_runs_Check := fun ts1539 n1540 k1 =>
  (cond_ (decide ((List.length ts1539 : Int) > (4096 : Int))) (k1 (19 : Int)) (cond_ (! (((List.length ts1539 : Int) == (0 : Int)) == (decide (n1540 ≤ (0 : Int))))) (k1 (9 : Int)) (runs_Check_L1 ts1539 n1540 (-1 : Int) ts1539 (List.length ts1539 : Int) (0 : Int)
  (fun n1547 => (k1 n1547))
  (fun ts1548 => (runs_Check_L3 ts1548 (1 : Int)
  (fun n1551 => (k1 n1551))
  (k1 (0 : Int)))))))
noncomputable def runs_Check : T_runs_Check := runs_Check.body (runs_Check_L1 ROUNDS) (runs_Check_L3 ROUNDS)
def runs_Check.p : FPat := fp 48 (pl (pb 1 127 Ty7) (pl (pd (.int .i64)) pz)) pz
def runs_Check.g (F : T_runs_Check) (v : runs_Check.p.T) (k : KR) : Option Bool := F v.1.1 v.1.2.1 (fun y0 => k (.d ⟨(.int .i64), y0⟩) [])
theorem runs_Check.eq (L0 : T_runs_Check_L1) (L1 : T_runs_Check_L3) : ∀ v k, exF Tryz.f48 runs_Check.p [] [] [⟨1, runs_Check_L1.p, runs_Check_L1.g L0⟩, ⟨3, runs_Check_L3.p, runs_Check_L3.g L1⟩] v k = runs_Check.g (runs_Check.body L0 L1) v k := fun v k => by kernel_rfl
theorem runs_Check.ok : okF 1 runs_Check.p (runs_Check.g runs_Check) := fn2 (runs_Check.eq (runs_Check_L1 ROUNDS) (runs_Check_L3 ROUNDS)) Tryz.func48 (by kernel_rfl) .nil [1, 3] (by kernel_rfl) (.cons runs_Check_L1.ok (.cons runs_Check_L3.ok .nil))
/-- function 47: sheerleg/image.Check$5 -/
abbrev T_image_Checkfn5 : Type := Tc6 → (List Int) → Tc8 → Tc7 → Int → (Int → Tc6 → (List Int) → Tc8 → Tc7 → Int → Option Bool) → Option Bool
noncomputable def image_Checkfn5.body (runs_Check : T_runs_Check) : T_image_Checkfn5 := fun ts1534 ns1535 ts1536 ts1537 n1538 k1 =>
  (runs_Check ts1537 (List.length ts1534 : Int)
  (fun n1552 => (k1 n1552 ts1534 ns1535 ts1536 ts1537 n1538)))
noncomputable def image_Checkfn5 : T_image_Checkfn5 := image_Checkfn5.body runs_Check
def image_Checkfn5.p : FPat := fp 47 (ps (pq [0, 0] 0 0) pz) (pl (po [0, 0] 40 5 (em (pl (pa (pl (pb 1 75 Ty8) (pl (pb 2 2 (.int .i64)) (pl (pb 3 78 Ty11) (pl (pb 4 127 Ty7) (pl (pd (.int .i64)) pz)))))) pz))) pz)
def image_Checkfn5.g (F : T_image_Checkfn5) (v : image_Checkfn5.p.T) (k : KR) : Option Bool := F v.2.1.1.1 v.2.1.1.2.1 v.2.1.1.2.2.1 v.2.1.1.2.2.2.1 v.2.1.1.2.2.2.2.1 (fun y0 y1 y2 y3 y4 y5 => k (.d ⟨(.int .i64), y0⟩) [([0, 0], ⟨40, 5, (.mix [(.agg [(.bv 1 75 Ty8 y1), (.bv 2 2 (.int .i64) y2), (.bv 3 78 Ty11 y3), (.bv 4 127 Ty7 y4), (.d ⟨(.int .i64), y5⟩)])])⟩)])
theorem image_Checkfn5.eq (F0 : T_runs_Check) : ∀ v k, exF Tryz.f47 image_Checkfn5.p [⟨runs_Check.p, runs_Check.g F0⟩] [] [] v k = image_Checkfn5.g (image_Checkfn5.body F0) v k := fun v k => by kernel_rfl
theorem image_Checkfn5.ok : okF 2 image_Checkfn5.p (image_Checkfn5.g image_Checkfn5) := fn2 (image_Checkfn5.eq runs_Check) Tryz.func47 (by kernel_rfl) (.cons runs_Check.ok .nil) [] (by kernel_rfl) .nil
/-- function 50: sheerleg/image.Check$6$1 -/
abbrev T_image_Checkfn6fn1 : Type := Tc5 → Tc6 → (List Int) → Tc8 → Tc7 → Int → (Bool → Tc6 → (List Int) → Tc8 → Tc7 → Int → Option Bool) → Option Bool
noncomputable def image_Checkfn6fn1.body : T_image_Checkfn6fn1 := fun t1590 ts1591 ns1592 ts1593 ts1594 n1595 k1 =>
  (k1 (t1590.2.2.1 == n1595) ts1591 ns1592 ts1593 ts1594 n1595)
noncomputable def image_Checkfn6fn1 : T_image_Checkfn6fn1 := image_Checkfn6fn1.body
def image_Checkfn6fn1.p : FPat := fp 50 (pl (pd Ty11) (ps (pq [0, 0] 0 0) pz)) (pl (po [0, 0] 40 5 (em (pl (pa (pl (pb 1 75 Ty8) (pl (pb 2 2 (.int .i64)) (pl (pb 3 78 Ty11) (pl (pb 4 127 Ty7) (pl (pd (.int .i64)) pz)))))) pz))) pz)
def image_Checkfn6fn1.g (F : T_image_Checkfn6fn1) (v : image_Checkfn6fn1.p.T) (k : KR) : Option Bool := F v.1.1 v.2.1.1.1 v.2.1.1.2.1 v.2.1.1.2.2.1 v.2.1.1.2.2.2.1 v.2.1.1.2.2.2.2.1 (fun y0 y1 y2 y3 y4 y5 => k (.d ⟨.bool, y0⟩) [([0, 0], ⟨40, 5, (.mix [(.agg [(.bv 1 75 Ty8 y1), (.bv 2 2 (.int .i64) y2), (.bv 3 78 Ty11 y3), (.bv 4 127 Ty7 y4), (.d ⟨(.int .i64), y5⟩)])])⟩)])
theorem image_Checkfn6fn1.eq : ∀ v k, exF Tryz.f50 image_Checkfn6fn1.p [] [] [] v k = image_Checkfn6fn1.g (image_Checkfn6fn1.body) v k := fun v k => by kernel_rfl
theorem image_Checkfn6fn1.ok : okF 1 image_Checkfn6fn1.p (image_Checkfn6fn1.g image_Checkfn6fn1) := fn2 (image_Checkfn6fn1.eq) Tryz.func50 (by kernel_rfl) .nil [] (by kernel_rfl) .nil
/-- function 56: the loop in block 0 -/
abbrev T_slices_IndexFunc_api_Fn_api_Fnv1_L0 : Type := Tc8 → Int → Int → Tc6 → (List Int) → Tc8 → Tc7 → Int → (Int → Tc6 → (List Int) → Tc8 → Tc7 → Int → Option Bool) → (Tc6 → (List Int) → Tc8 → Tc7 → Int → Option Bool) → Option Bool
noncomputable def slices_IndexFunc_api_Fn_api_Fnv1_L0.body (slices_IndexFunc_api_Fn_api_Fnv1_L0 : T_slices_IndexFunc_api_Fn_api_Fnv1_L0) (image_Checkfn6fn1 : T_image_Checkfn6fn1) : T_slices_IndexFunc_api_Fn_api_Fnv1_L0 := fun ts1582 n1583 n1584 ts1585 ns1586 ts1587 ts1588 n1589 k1 k2 =>
  (cond_ (decide (n1584 < n1583)) (cond_ ((decide ((0 : Int) ≤ n1584)) && (decide (n1584 < (List.length ts1582 : Int)))) (image_Checkfn6fn1 (List.getD ts1582 (Int.toNat n1584) (0, (0, (0, (0, (0, (0, ()))))))) ts1585 ns1586 ts1587 ts1588 n1589
  (fun b1596 ts1597 ns1598 ts1599 ts1600 n1601 => (cond_ b1596 (k1 n1584 ts1597 ns1598 ts1599 ts1600 n1601) (slices_IndexFunc_api_Fn_api_Fnv1_L0 ts1582 n1583 (IntKind.wrap .i64 (n1584 + (1 : Int))) ts1597 ns1598 ts1599 ts1600 n1601 k1 k2)))) none) (k2 ts1585 ns1586 ts1587 ts1588 n1589))
noncomputable def slices_IndexFunc_api_Fn_api_Fnv1_L0 : Nat → T_slices_IndexFunc_api_Fn_api_Fnv1_L0
  | 0 => fun _ _ _ _ _ _ _ _ _ _ => none
  | n + 1 => slices_IndexFunc_api_Fn_api_Fnv1_L0.body (slices_IndexFunc_api_Fn_api_Fnv1_L0 n) image_Checkfn6fn1
def slices_IndexFunc_api_Fn_api_Fnv1_L0.p : LPat := lp 2 19 [0, 1, 7, 8] (pl (pb 1 78 Ty11) (pl (pf 50 pz (ps (pq [0, 0] 0 0) pz)) (pl (pd (.int .i64)) (pl (pd (.int .i64)) pz)))) (pl (po [0, 0] 40 5 (em (pl (pa (pl (pb 2 75 Ty8) (pl (pb 3 2 (.int .i64)) (pl (pb 4 78 Ty11) (pl (pb 5 127 Ty7) (pl (pd (.int .i64)) pz)))))) pz))) pz)
def slices_IndexFunc_api_Fn_api_Fnv1_L0.g (F : T_slices_IndexFunc_api_Fn_api_Fnv1_L0) (v : slices_IndexFunc_api_Fn_api_Fnv1_L0.p.T) (k : KE) : Option Bool := F v.1.1 v.1.2.2.1 v.1.2.2.2.1 v.2.1.1.1 v.2.1.1.2.1 v.2.1.1.2.2.1 v.2.1.1.2.2.2.1 v.2.1.1.2.2.2.2.1 (fun y0 y1 y2 y3 y4 y5 => k .ret ⟨fillS 19 [4] [(.d ⟨(.int .i64), y0⟩)], [([0, 0], ⟨40, 5, (.mix [(.agg [(.bv 2 75 Ty8 y1), (.bv 3 2 (.int .i64) y2), (.bv 4 78 Ty11 y3), (.bv 5 127 Ty7 y4), (.d ⟨(.int .i64), y5⟩)])])⟩)], 2⟩) (fun y0 y1 y2 y3 y4 => k (.exit 0) ⟨fillS 19 [] [], [([0, 0], ⟨40, 5, (.mix [(.agg [(.bv 2 75 Ty8 y0), (.bv 3 2 (.int .i64) y1), (.bv 4 78 Ty11 y2), (.bv 5 127 Ty7 y3), (.d ⟨(.int .i64), y4⟩)])])⟩)], 2⟩)
theorem slices_IndexFunc_api_Fn_api_Fnv1_L0.step (S : T_slices_IndexFunc_api_Fn_api_Fnv1_L0) (F0 : T_image_Checkfn6fn1) : ∀ v k, exR 56 Tryz.f56 0 slices_IndexFunc_api_Fn_api_Fnv1_L0.p [⟨image_Checkfn6fn1.p, image_Checkfn6fn1.g F0⟩] [] [] (slices_IndexFunc_api_Fn_api_Fnv1_L0.g S) v k = slices_IndexFunc_api_Fn_api_Fnv1_L0.g (slices_IndexFunc_api_Fn_api_Fnv1_L0.body S F0) v k := fun v k => by kernel_rfl
theorem slices_IndexFunc_api_Fn_api_Fnv1_L0.ok : okL 56 Tryz.f56 1 0 slices_IndexFunc_api_Fn_api_Fnv1_L0.p (slices_IndexFunc_api_Fn_api_Fnv1_L0.g (slices_IndexFunc_api_Fn_api_Fnv1_L0 ROUNDS)) := loop2 (G := fun n => slices_IndexFunc_api_Fn_api_Fnv1_L0.g (slices_IndexFunc_api_Fn_api_Fnv1_L0 n)) (fun n => slices_IndexFunc_api_Fn_api_Fnv1_L0.step (slices_IndexFunc_api_Fn_api_Fnv1_L0 n) image_Checkfn6fn1) (.cons image_Checkfn6fn1.ok .nil) [] (by kernel_rfl) .nil (fun _ _ => rfl)
/-- function 56: slices.IndexFunc[[]sheerleg/api.Fn,sheerleg/api.Fn] -/
abbrev T_slices_IndexFunc_api_Fn_api_Fnv1 : Type := Tc8 → Tc6 → (List Int) → Tc8 → Tc7 → Int → (Int → Tc6 → (List Int) → Tc8 → Tc7 → Int → Option Bool) → Option Bool
noncomputable def slices_IndexFunc_api_Fn_api_Fnv1.body (slices_IndexFunc_api_Fn_api_Fnv1_L0 : T_slices_IndexFunc_api_Fn_api_Fnv1_L0) : T_slices_IndexFunc_api_Fn_api_Fnv1 := fun ts1576 ts1577 ns1578 ts1579 ts1580 n1581 k1 =>
  (slices_IndexFunc_api_Fn_api_Fnv1_L0 ts1576 (List.length ts1576 : Int) (0 : Int) ts1577 ns1578 ts1579 ts1580 n1581
  (fun n1602 ts1603 ns1604 ts1605 ts1606 n1607 => (k1 n1602 ts1603 ns1604 ts1605 ts1606 n1607))
  (fun ts1608 ns1609 ts1610 ts1611 n1612 => (k1 (-1 : Int) ts1608 ns1609 ts1610 ts1611 n1612)))
noncomputable def slices_IndexFunc_api_Fn_api_Fnv1 : T_slices_IndexFunc_api_Fn_api_Fnv1 := slices_IndexFunc_api_Fn_api_Fnv1.body (slices_IndexFunc_api_Fn_api_Fnv1_L0 ROUNDS)
def slices_IndexFunc_api_Fn_api_Fnv1.p : FPat := fp 56 (pl (pb 1 78 Ty11) (pl (pf 50 pz (ps (pq [0, 0] 0 0) pz)) pz)) (pl (po [0, 0] 40 5 (em (pl (pa (pl (pb 2 75 Ty8) (pl (pb 3 2 (.int .i64)) (pl (pb 4 78 Ty11) (pl (pb 5 127 Ty7) (pl (pd (.int .i64)) pz)))))) pz))) pz)
def slices_IndexFunc_api_Fn_api_Fnv1.g (F : T_slices_IndexFunc_api_Fn_api_Fnv1) (v : slices_IndexFunc_api_Fn_api_Fnv1.p.T) (k : KR) : Option Bool := F v.1.1 v.2.1.1.1 v.2.1.1.2.1 v.2.1.1.2.2.1 v.2.1.1.2.2.2.1 v.2.1.1.2.2.2.2.1 (fun y0 y1 y2 y3 y4 y5 => k (.d ⟨(.int .i64), y0⟩) [([0, 0], ⟨40, 5, (.mix [(.agg [(.bv 2 75 Ty8 y1), (.bv 3 2 (.int .i64) y2), (.bv 4 78 Ty11 y3), (.bv 5 127 Ty7 y4), (.d ⟨(.int .i64), y5⟩)])])⟩)])
theorem slices_IndexFunc_api_Fn_api_Fnv1.eq (L0 : T_slices_IndexFunc_api_Fn_api_Fnv1_L0) : ∀ v k, exF Tryz.f56 slices_IndexFunc_api_Fn_api_Fnv1.p [] [] [⟨0, slices_IndexFunc_api_Fn_api_Fnv1_L0.p, slices_IndexFunc_api_Fn_api_Fnv1_L0.g L0⟩] v k = slices_IndexFunc_api_Fn_api_Fnv1.g (slices_IndexFunc_api_Fn_api_Fnv1.body L0) v k := fun v k => by kernel_rfl
theorem slices_IndexFunc_api_Fn_api_Fnv1.ok : okF 2 slices_IndexFunc_api_Fn_api_Fnv1.p (slices_IndexFunc_api_Fn_api_Fnv1.g slices_IndexFunc_api_Fn_api_Fnv1) := fn2 (slices_IndexFunc_api_Fn_api_Fnv1.eq (slices_IndexFunc_api_Fn_api_Fnv1_L0 ROUNDS)) Tryz.func56 (by kernel_rfl) .nil [0] (by kernel_rfl) (.cons slices_IndexFunc_api_Fn_api_Fnv1_L0.ok .nil)
/-- function 45: slices.ContainsFunc[[]sheerleg/api.Fn,sheerleg/api.Fn] -/
abbrev T_slices_ContainsFunc_api_Fn_api_Fnv1 : Type := Tc8 → Tc6 → (List Int) → Tc8 → Tc7 → Int → (Bool → Tc6 → (List Int) → Tc8 → Tc7 → Int → Option Bool) → Option Bool
noncomputable def slices_ContainsFunc_api_Fn_api_Fnv1.body (slices_IndexFunc_api_Fn_api_Fnv1 : T_slices_IndexFunc_api_Fn_api_Fnv1) : T_slices_ContainsFunc_api_Fn_api_Fnv1 := fun ts1570 ts1571 ns1572 ts1573 ts1574 n1575 k1 =>
  (slices_IndexFunc_api_Fn_api_Fnv1 ts1570 ts1571 ns1572 ts1573 ts1574 n1575
  (fun n1613 ts1614 ns1615 ts1616 ts1617 n1618 => (k1 (decide (n1613 ≥ (0 : Int))) ts1614 ns1615 ts1616 ts1617 n1618)))
noncomputable def slices_ContainsFunc_api_Fn_api_Fnv1 : T_slices_ContainsFunc_api_Fn_api_Fnv1 := slices_ContainsFunc_api_Fn_api_Fnv1.body slices_IndexFunc_api_Fn_api_Fnv1
def slices_ContainsFunc_api_Fn_api_Fnv1.p : FPat := fp 45 (pl (pb 1 78 Ty11) (pl (pf 50 pz (ps (pq [0, 0] 0 0) pz)) pz)) (pl (po [0, 0] 40 5 (em (pl (pa (pl (pb 2 75 Ty8) (pl (pb 3 2 (.int .i64)) (pl (pb 4 78 Ty11) (pl (pb 5 127 Ty7) (pl (pd (.int .i64)) pz)))))) pz))) pz)
def slices_ContainsFunc_api_Fn_api_Fnv1.g (F : T_slices_ContainsFunc_api_Fn_api_Fnv1) (v : slices_ContainsFunc_api_Fn_api_Fnv1.p.T) (k : KR) : Option Bool := F v.1.1 v.2.1.1.1 v.2.1.1.2.1 v.2.1.1.2.2.1 v.2.1.1.2.2.2.1 v.2.1.1.2.2.2.2.1 (fun y0 y1 y2 y3 y4 y5 => k (.d ⟨.bool, y0⟩) [([0, 0], ⟨40, 5, (.mix [(.agg [(.bv 2 75 Ty8 y1), (.bv 3 2 (.int .i64) y2), (.bv 4 78 Ty11 y3), (.bv 5 127 Ty7 y4), (.d ⟨(.int .i64), y5⟩)])])⟩)])
theorem slices_ContainsFunc_api_Fn_api_Fnv1.eq (F0 : T_slices_IndexFunc_api_Fn_api_Fnv1) : ∀ v k, exF Tryz.f45 slices_ContainsFunc_api_Fn_api_Fnv1.p [⟨slices_IndexFunc_api_Fn_api_Fnv1.p, slices_IndexFunc_api_Fn_api_Fnv1.g F0⟩] [] [] v k = slices_ContainsFunc_api_Fn_api_Fnv1.g (slices_ContainsFunc_api_Fn_api_Fnv1.body F0) v k := fun v k => by kernel_rfl
theorem slices_ContainsFunc_api_Fn_api_Fnv1.ok : okF 3 slices_ContainsFunc_api_Fn_api_Fnv1.p (slices_ContainsFunc_api_Fn_api_Fnv1.g slices_ContainsFunc_api_Fn_api_Fnv1) := fn2 (slices_ContainsFunc_api_Fn_api_Fnv1.eq slices_IndexFunc_api_Fn_api_Fnv1) Tryz.func45 (by kernel_rfl) (.cons slices_IndexFunc_api_Fn_api_Fnv1.ok .nil) [] (by kernel_rfl) .nil
/-- function 49: sheerleg/image.Check$6 -/
abbrev T_image_Checkfn6 : Type := Tc6 → (List Int) → Tc8 → Tc7 → Int → (Bool → Tc6 → (List Int) → Tc8 → Tc7 → Int → Option Bool) → Option Bool
noncomputable def image_Checkfn6.body (slices_ContainsFunc_api_Fn_api_Fnv1 : T_slices_ContainsFunc_api_Fn_api_Fnv1) : T_image_Checkfn6 := fun ts1565 ns1566 ts1567 ts1568 n1569 k1 =>
  (slices_ContainsFunc_api_Fn_api_Fnv1 ts1567 ts1565 ns1566 ts1567 ts1568 n1569
  (fun b1619 ts1620 ns1621 ts1622 ts1623 n1624 => (k1 (! b1619) ts1620 ns1621 ts1622 ts1623 n1624)))
noncomputable def image_Checkfn6 : T_image_Checkfn6 := image_Checkfn6.body slices_ContainsFunc_api_Fn_api_Fnv1
def image_Checkfn6.p : FPat := fp 49 (ps (pq [0, 0] 0 0) pz) (pl (po [0, 0] 40 5 (em (pl (pa (pl (pb 1 75 Ty8) (pl (pb 2 2 (.int .i64)) (pl (pb 3 78 Ty11) (pl (pb 4 127 Ty7) (pl (pd (.int .i64)) pz)))))) pz))) pz)
def image_Checkfn6.g (F : T_image_Checkfn6) (v : image_Checkfn6.p.T) (k : KR) : Option Bool := F v.2.1.1.1 v.2.1.1.2.1 v.2.1.1.2.2.1 v.2.1.1.2.2.2.1 v.2.1.1.2.2.2.2.1 (fun y0 y1 y2 y3 y4 y5 => k (.d ⟨.bool, y0⟩) [([0, 0], ⟨40, 5, (.mix [(.agg [(.bv 1 75 Ty8 y1), (.bv 2 2 (.int .i64) y2), (.bv 3 78 Ty11 y3), (.bv 4 127 Ty7 y4), (.d ⟨(.int .i64), y5⟩)])])⟩)])
theorem image_Checkfn6.eq (F0 : T_slices_ContainsFunc_api_Fn_api_Fnv1) : ∀ v k, exF Tryz.f49 image_Checkfn6.p [⟨slices_ContainsFunc_api_Fn_api_Fnv1.p, slices_ContainsFunc_api_Fn_api_Fnv1.g F0⟩] [] [] v k = image_Checkfn6.g (image_Checkfn6.body F0) v k := fun v k => by kernel_rfl
theorem image_Checkfn6.ok : okF 4 image_Checkfn6.p (image_Checkfn6.g image_Checkfn6) := fn2 (image_Checkfn6.eq slices_ContainsFunc_api_Fn_api_Fnv1) Tryz.func49 (by kernel_rfl) (.cons slices_ContainsFunc_api_Fn_api_Fnv1.ok .nil) [] (by kernel_rfl) .nil
/-- function 82: sheerleg/image.look$1 -/
abbrev T_image_lookfn1v4 : Type := Tc6 → (List Int) → Tc8 → Tc7 → Int → Int → (Int → Tc6 → (List Int) → Tc8 → Tc7 → Int → Int → Option Bool) → Option Bool
noncomputable def image_lookfn1v4.body (image_Checkfn6 : T_image_Checkfn6) : T_image_lookfn1v4 := fun ts1559 ns1560 ts1561 ts1562 n1563 n1564 k1 =>
  (image_Checkfn6 ts1559 ns1560 ts1561 ts1562 n1563
  (fun b1625 ts1626 ns1627 ts1628 ts1629 n1630 => (cond_ b1625 (k1 n1564 ts1626 ns1627 ts1628 ts1629 n1630 n1564) (k1 (0 : Int) ts1626 ns1627 ts1628 ts1629 n1630 n1564))))
noncomputable def image_lookfn1v4 : T_image_lookfn1v4 := image_lookfn1v4.body image_Checkfn6
def image_lookfn1v4.p : FPat := fp 82 (ps (pq [0, 0] 0 0) (ps (pq [0, 2] 0 0) pz)) (pl (po [0, 0] 34 1 (em (pl (pf 49 pz (ps (pq [0, 1] 0 0) pz)) pz))) (pl (po [0, 1] 40 5 (em (pl (pa (pl (pb 1 75 Ty8) (pl (pb 2 2 (.int .i64)) (pl (pb 3 78 Ty11) (pl (pb 4 127 Ty7) (pl (pd (.int .i64)) pz)))))) pz))) (pl (po [0, 2] 43 1 (es (.int .i64) (pl eh pz))) pz)))
def image_lookfn1v4.g (F : T_image_lookfn1v4) (v : image_lookfn1v4.p.T) (k : KR) : Option Bool := F v.2.2.1.1.1 v.2.2.1.1.2.1 v.2.2.1.1.2.2.1 v.2.2.1.1.2.2.2.1 v.2.2.1.1.2.2.2.2.1 v.2.2.2.1.1 (fun y0 y1 y2 y3 y4 y5 y6 => k (.d ⟨(.int .i64), y0⟩) [([0, 0], ⟨34, 1, (.mix [(.fn (.func 49) [] [(.ptr [0, 1] 0 0)])])⟩), ([0, 1], ⟨40, 5, (.mix [(.agg [(.bv 1 75 Ty8 y1), (.bv 2 2 (.int .i64) y2), (.bv 3 78 Ty11 y3), (.bv 4 127 Ty7 y4), (.d ⟨(.int .i64), y5⟩)])])⟩), ([0, 2], ⟨43, 1, (.data (.int .i64) [y6])⟩)])
theorem image_lookfn1v4.eq (F0 : T_image_Checkfn6) : ∀ v k, exF Tryz.f82 image_lookfn1v4.p [⟨image_Checkfn6.p, image_Checkfn6.g F0⟩] [] [] v k = image_lookfn1v4.g (image_lookfn1v4.body F0) v k := fun v k => by kernel_rfl
theorem image_lookfn1v4.ok : okF 5 image_lookfn1v4.p (image_lookfn1v4.g image_lookfn1v4) := fn2 (image_lookfn1v4.eq image_Checkfn6) Tryz.func82 (by kernel_rfl) (.cons image_Checkfn6.ok .nil) [] (by kernel_rfl) .nil
/-- function 38: the loop in block 0 -/
abbrev T_image_all_L0 : Type := Int → Int → Tc6 → (List Int) → Tc8 → Tc7 → Int → Int → Int → Int → Int → Int → (Int → Tc6 → (List Int) → Tc8 → Tc7 → Int → Int → Int → Int → Int → Int → Option Bool) → (Tc6 → (List Int) → Tc8 → Tc7 → Int → Int → Int → Int → Int → Int → Option Bool) → Option Bool
noncomputable def image_all_L0.body (image_all_L0 : T_image_all_L0) (image_lookfn1 : T_image_lookfn1) (image_lookfn1v1 : T_image_lookfn1v1) (image_lookfn1v2 : T_image_lookfn1v2) (image_lookfn1v3 : T_image_lookfn1v3) (image_Checkfn5 : T_image_Checkfn5) (image_lookfn1v4 : T_image_lookfn1v4) : T_image_all_L0 := fun n1339 n1340 ts1341 ns1342 ts1343 ts1344 n1345 n1346 n1347 n1348 n1349 n1350 k1 k2 =>
  (cond_ (decide (n1340 < n1339)) (cond_ (n1340 == (0 : Int)) (image_lookfn1 ts1341 ns1342 ts1343 ts1344 n1345 n1346
  (fun n1368 ts1369 ns1370 ts1371 ts1372 n1373 n1374 => (cond_ (n1368 != (0 : Int)) (k1 n1368 ts1369 ns1370 ts1371 ts1372 n1373 n1374 n1347 n1348 n1349 n1350) (image_all_L0 n1339 (IntKind.wrap .i64 (n1340 + (1 : Int))) ts1369 ns1370 ts1371 ts1372 n1373 n1374 n1347 n1348 n1349 n1350 k1 k2)))) (cond_ (n1340 == (1 : Int)) (image_lookfn1v1 ts1341 ns1342 ts1343 ts1344 n1345 n1347
  (fun n1392 ts1393 ns1394 ts1395 ts1396 n1397 n1398 => (cond_ (n1392 != (0 : Int)) (k1 n1392 ts1393 ns1394 ts1395 ts1396 n1397 n1346 n1398 n1348 n1349 n1350) (image_all_L0 n1339 (IntKind.wrap .i64 (n1340 + (1 : Int))) ts1393 ns1394 ts1395 ts1396 n1397 n1346 n1398 n1348 n1349 n1350 k1 k2)))) (cond_ (n1340 == (2 : Int)) (image_lookfn1v2 ts1341 ns1342 ts1343 ts1344 n1345 n1348
  (fun n1438 ts1439 ns1440 ts1441 ts1442 n1443 n1444 => (cond_ (n1438 != (0 : Int)) (k1 n1438 ts1439 ns1440 ts1441 ts1442 n1443 n1346 n1347 n1444 n1349 n1350) (image_all_L0 n1339 (IntKind.wrap .i64 (n1340 + (1 : Int))) ts1439 ns1440 ts1441 ts1442 n1443 n1346 n1347 n1444 n1349 n1350 k1 k2)))) (cond_ (n1340 == (3 : Int)) (image_lookfn1v3 ts1341 ns1342 ts1343 ts1344 n1345 n1349
  (fun n1527 ts1528 ns1529 ts1530 ts1531 n1532 n1533 => (cond_ (n1527 != (0 : Int)) (k1 n1527 ts1528 ns1529 ts1530 ts1531 n1532 n1346 n1347 n1348 n1533 n1350) (image_all_L0 n1339 (IntKind.wrap .i64 (n1340 + (1 : Int))) ts1528 ns1529 ts1530 ts1531 n1532 n1346 n1347 n1348 n1533 n1350 k1 k2)))) (cond_ (n1340 == (4 : Int)) (image_Checkfn5 ts1341 ns1342 ts1343 ts1344 n1345
  (fun n1553 ts1554 ns1555 ts1556 ts1557 n1558 => (cond_ (n1553 != (0 : Int)) (k1 n1553 ts1554 ns1555 ts1556 ts1557 n1558 n1346 n1347 n1348 n1349 n1350) (image_all_L0 n1339 (IntKind.wrap .i64 (n1340 + (1 : Int))) ts1554 ns1555 ts1556 ts1557 n1558 n1346 n1347 n1348 n1349 n1350 k1 k2)))) (cond_ (n1340 == (5 : Int)) (image_lookfn1v4 ts1341 ns1342 ts1343 ts1344 n1345 n1350
  (fun n1631 ts1632 ns1633 ts1634 ts1635 n1636 n1637 => (cond_ (n1631 != (0 : Int)) (k1 n1631 ts1632 ns1633 ts1634 ts1635 n1636 n1346 n1347 n1348 n1349 n1637) (image_all_L0 n1339 (IntKind.wrap .i64 (n1340 + (1 : Int))) ts1632 ns1633 ts1634 ts1635 n1636 n1346 n1347 n1348 n1349 n1637 k1 k2)))) none)))))) (k2 ts1341 ns1342 ts1343 ts1344 n1345 n1346 n1347 n1348 n1349 n1350))
noncomputable def image_all_L0 : Nat → T_image_all_L0
  | 0 => fun _ _ _ _ _ _ _ _ _ _ _ _ _ _ => none
  | n + 1 => image_all_L0.body (image_all_L0 n) image_lookfn1 image_lookfn1v1 image_lookfn1v2 image_lookfn1v3 image_Checkfn5 image_lookfn1v4
def image_all_L0.p : LPat := lp 2 18 [6, 7, 8] (ps (pr [0, 0]) (pl (pd (.int .i64)) (pl (pd (.int .i64)) pz))) (pl (po [0, 0] 72 1 (em (pl (pf 82 pz (ps (pq [0, 1] 0 0) (ps (pq [0, 3] 0 0) pz))) (pl (pf 82 pz (ps (pq [0, 4] 0 0) (ps (pq [0, 5] 0 0) pz))) (pl (pf 82 pz (ps (pq [0, 6] 0 0) (ps (pq [0, 7] 0 0) pz))) (pl (pf 82 pz (ps (pq [0, 8] 0 0) (ps (pq [0, 9] 0 0) pz))) (pl (pf 47 pz (ps (pq [0, 2] 0 0) pz)) (pl (pf 82 pz (ps (pq [0, 10] 0 0) (ps (pq [0, 11] 0 0) pz))) pz)))))))) (pl (po [0, 1] 34 1 (em (pl (pf 40 pz (ps (pq [0, 2] 0 0) pz)) pz))) (pl (po [0, 2] 40 5 (em (pl (pa (pl (pb 1 75 Ty8) (pl (pb 2 2 (.int .i64)) (pl (pb 3 78 Ty11) (pl (pb 4 127 Ty7) (pl (pd (.int .i64)) pz)))))) pz))) (pl (po [0, 3] 43 1 (es (.int .i64) (pl eh pz))) (pl (po [0, 4] 34 1 (em (pl (pf 41 pz (ps (pq [0, 2] 0 0) pz)) pz))) (pl (po [0, 5] 43 1 (es (.int .i64) (pl eh pz))) (pl (po [0, 6] 34 1 (em (pl (pf 42 pz (ps (pq [0, 2] 0 0) pz)) pz))) (pl (po [0, 7] 43 1 (es (.int .i64) (pl eh pz))) (pl (po [0, 8] 34 1 (em (pl (pf 44 pz (ps (pq [0, 2] 0 0) pz)) pz))) (pl (po [0, 9] 43 1 (es (.int .i64) (pl eh pz))) (pl (po [0, 10] 34 1 (em (pl (pf 49 pz (ps (pq [0, 2] 0 0) pz)) pz))) (pl (po [0, 11] 43 1 (es (.int .i64) (pl eh pz))) pz))))))))))))
def image_all_L0.g (F : T_image_all_L0) (v : image_all_L0.p.T) (k : KE) : Option Bool := F v.1.1 v.1.2.1 v.2.2.2.1.1.1 v.2.2.2.1.1.2.1 v.2.2.2.1.1.2.2.1 v.2.2.2.1.1.2.2.2.1 v.2.2.2.1.1.2.2.2.2.1 v.2.2.2.2.1.1 v.2.2.2.2.2.2.1.1 v.2.2.2.2.2.2.2.2.1.1 v.2.2.2.2.2.2.2.2.2.2.1.1 v.2.2.2.2.2.2.2.2.2.2.2.2.1.1 (fun y0 y1 y2 y3 y4 y5 y6 y7 y8 y9 y10 => k .ret ⟨fillS 18 [2] [(.d ⟨(.int .i64), y0⟩)], [([0, 0], ⟨72, 1, (.mix [(.fn (.func 82) [] [(.ptr [0, 1] 0 0), (.ptr [0, 3] 0 0)]), (.fn (.func 82) [] [(.ptr [0, 4] 0 0), (.ptr [0, 5] 0 0)]), (.fn (.func 82) [] [(.ptr [0, 6] 0 0), (.ptr [0, 7] 0 0)]), (.fn (.func 82) [] [(.ptr [0, 8] 0 0), (.ptr [0, 9] 0 0)]), (.fn (.func 47) [] [(.ptr [0, 2] 0 0)]), (.fn (.func 82) [] [(.ptr [0, 10] 0 0), (.ptr [0, 11] 0 0)])])⟩), ([0, 1], ⟨34, 1, (.mix [(.fn (.func 40) [] [(.ptr [0, 2] 0 0)])])⟩), ([0, 2], ⟨40, 5, (.mix [(.agg [(.bv 1 75 Ty8 y1), (.bv 2 2 (.int .i64) y2), (.bv 3 78 Ty11 y3), (.bv 4 127 Ty7 y4), (.d ⟨(.int .i64), y5⟩)])])⟩), ([0, 3], ⟨43, 1, (.data (.int .i64) [y6])⟩), ([0, 4], ⟨34, 1, (.mix [(.fn (.func 41) [] [(.ptr [0, 2] 0 0)])])⟩), ([0, 5], ⟨43, 1, (.data (.int .i64) [y7])⟩), ([0, 6], ⟨34, 1, (.mix [(.fn (.func 42) [] [(.ptr [0, 2] 0 0)])])⟩), ([0, 7], ⟨43, 1, (.data (.int .i64) [y8])⟩), ([0, 8], ⟨34, 1, (.mix [(.fn (.func 44) [] [(.ptr [0, 2] 0 0)])])⟩), ([0, 9], ⟨43, 1, (.data (.int .i64) [y9])⟩), ([0, 10], ⟨34, 1, (.mix [(.fn (.func 49) [] [(.ptr [0, 2] 0 0)])])⟩), ([0, 11], ⟨43, 1, (.data (.int .i64) [y10])⟩)], 2⟩) (fun y0 y1 y2 y3 y4 y5 y6 y7 y8 y9 => k (.exit 0) ⟨fillS 18 [] [], [([0, 0], ⟨72, 1, (.mix [(.fn (.func 82) [] [(.ptr [0, 1] 0 0), (.ptr [0, 3] 0 0)]), (.fn (.func 82) [] [(.ptr [0, 4] 0 0), (.ptr [0, 5] 0 0)]), (.fn (.func 82) [] [(.ptr [0, 6] 0 0), (.ptr [0, 7] 0 0)]), (.fn (.func 82) [] [(.ptr [0, 8] 0 0), (.ptr [0, 9] 0 0)]), (.fn (.func 47) [] [(.ptr [0, 2] 0 0)]), (.fn (.func 82) [] [(.ptr [0, 10] 0 0), (.ptr [0, 11] 0 0)])])⟩), ([0, 1], ⟨34, 1, (.mix [(.fn (.func 40) [] [(.ptr [0, 2] 0 0)])])⟩), ([0, 2], ⟨40, 5, (.mix [(.agg [(.bv 1 75 Ty8 y0), (.bv 2 2 (.int .i64) y1), (.bv 3 78 Ty11 y2), (.bv 4 127 Ty7 y3), (.d ⟨(.int .i64), y4⟩)])])⟩), ([0, 3], ⟨43, 1, (.data (.int .i64) [y5])⟩), ([0, 4], ⟨34, 1, (.mix [(.fn (.func 41) [] [(.ptr [0, 2] 0 0)])])⟩), ([0, 5], ⟨43, 1, (.data (.int .i64) [y6])⟩), ([0, 6], ⟨34, 1, (.mix [(.fn (.func 42) [] [(.ptr [0, 2] 0 0)])])⟩), ([0, 7], ⟨43, 1, (.data (.int .i64) [y7])⟩), ([0, 8], ⟨34, 1, (.mix [(.fn (.func 44) [] [(.ptr [0, 2] 0 0)])])⟩), ([0, 9], ⟨43, 1, (.data (.int .i64) [y8])⟩), ([0, 10], ⟨34, 1, (.mix [(.fn (.func 49) [] [(.ptr [0, 2] 0 0)])])⟩), ([0, 11], ⟨43, 1, (.data (.int .i64) [y9])⟩)], 2⟩)
theorem image_all_L0.step (S : T_image_all_L0) (F0 : T_image_lookfn1) (F1 : T_image_lookfn1v1) (F2 : T_image_lookfn1v2) (F3 : T_image_lookfn1v3) (F4 : T_image_Checkfn5) (F5 : T_image_lookfn1v4) : ∀ v k, exR 38 Tryz.f38 0 image_all_L0.p [⟨image_lookfn1.p, image_lookfn1.g F0⟩, ⟨image_lookfn1v1.p, image_lookfn1v1.g F1⟩, ⟨image_lookfn1v2.p, image_lookfn1v2.g F2⟩, ⟨image_lookfn1v3.p, image_lookfn1v3.g F3⟩, ⟨image_Checkfn5.p, image_Checkfn5.g F4⟩, ⟨image_lookfn1v4.p, image_lookfn1v4.g F5⟩] [] [] (image_all_L0.g S) v k = image_all_L0.g (image_all_L0.body S F0 F1 F2 F3 F4 F5) v k := fun v k => by kernel_rfl
theorem image_all_L0.ok : okL 38 Tryz.f38 5 0 image_all_L0.p (image_all_L0.g (image_all_L0 ROUNDS)) := loop2 (G := fun n => image_all_L0.g (image_all_L0 n)) (fun n => image_all_L0.step (image_all_L0 n) image_lookfn1 image_lookfn1v1 image_lookfn1v2 image_lookfn1v3 image_Checkfn5 image_lookfn1v4) (.cons image_lookfn1.ok (.cons image_lookfn1v1.ok (.cons image_lookfn1v2.ok (.cons image_lookfn1v3.ok (.cons image_Checkfn5.ok (.cons image_lookfn1v4.ok .nil)))))) [] (by kernel_rfl) .nil (fun _ _ => rfl)
/-- function 38: sheerleg/image.all -/
abbrev T_image_all : Type := Tc6 → (List Int) → Tc8 → Tc7 → Int → Int → Int → Int → Int → Int → (Int → Tc6 → (List Int) → Tc8 → Tc7 → Int → Int → Int → Int → Int → Int → Option Bool) → Option Bool
noncomputable def image_all.body (image_all_L0 : T_image_all_L0) : T_image_all := fun ts1329 ns1330 ts1331 ts1332 n1333 n1334 n1335 n1336 n1337 n1338 k1 =>
  (image_all_L0 (6 : Int) (0 : Int) ts1329 ns1330 ts1331 ts1332 n1333 n1334 n1335 n1336 n1337 n1338
  (fun n1638 ts1639 ns1640 ts1641 ts1642 n1643 n1644 n1645 n1646 n1647 n1648 => (k1 n1638 ts1639 ns1640 ts1641 ts1642 n1643 n1644 n1645 n1646 n1647 n1648))
  (fun ts1649 ns1650 ts1651 ts1652 n1653 n1654 n1655 n1656 n1657 n1658 => (k1 (0 : Int) ts1649 ns1650 ts1651 ts1652 n1653 n1654 n1655 n1656 n1657 n1658)))
noncomputable def image_all : T_image_all := image_all.body (image_all_L0 ROUNDS)
def image_all.p : FPat := fp 38 (ps (pr [0, 0]) pz) (pl (po [0, 0] 72 1 (em (pl (pf 82 pz (ps (pq [0, 1] 0 0) (ps (pq [0, 3] 0 0) pz))) (pl (pf 82 pz (ps (pq [0, 4] 0 0) (ps (pq [0, 5] 0 0) pz))) (pl (pf 82 pz (ps (pq [0, 6] 0 0) (ps (pq [0, 7] 0 0) pz))) (pl (pf 82 pz (ps (pq [0, 8] 0 0) (ps (pq [0, 9] 0 0) pz))) (pl (pf 47 pz (ps (pq [0, 2] 0 0) pz)) (pl (pf 82 pz (ps (pq [0, 10] 0 0) (ps (pq [0, 11] 0 0) pz))) pz)))))))) (pl (po [0, 1] 34 1 (em (pl (pf 40 pz (ps (pq [0, 2] 0 0) pz)) pz))) (pl (po [0, 2] 40 5 (em (pl (pa (pl (pb 1 75 Ty8) (pl (pb 2 2 (.int .i64)) (pl (pb 3 78 Ty11) (pl (pb 4 127 Ty7) (pl (pd (.int .i64)) pz)))))) pz))) (pl (po [0, 3] 43 1 (es (.int .i64) (pl eh pz))) (pl (po [0, 4] 34 1 (em (pl (pf 41 pz (ps (pq [0, 2] 0 0) pz)) pz))) (pl (po [0, 5] 43 1 (es (.int .i64) (pl eh pz))) (pl (po [0, 6] 34 1 (em (pl (pf 42 pz (ps (pq [0, 2] 0 0) pz)) pz))) (pl (po [0, 7] 43 1 (es (.int .i64) (pl eh pz))) (pl (po [0, 8] 34 1 (em (pl (pf 44 pz (ps (pq [0, 2] 0 0) pz)) pz))) (pl (po [0, 9] 43 1 (es (.int .i64) (pl eh pz))) (pl (po [0, 10] 34 1 (em (pl (pf 49 pz (ps (pq [0, 2] 0 0) pz)) pz))) (pl (po [0, 11] 43 1 (es (.int .i64) (pl eh pz))) pz))))))))))))
def image_all.g (F : T_image_all) (v : image_all.p.T) (k : KR) : Option Bool := F v.2.2.2.1.1.1 v.2.2.2.1.1.2.1 v.2.2.2.1.1.2.2.1 v.2.2.2.1.1.2.2.2.1 v.2.2.2.1.1.2.2.2.2.1 v.2.2.2.2.1.1 v.2.2.2.2.2.2.1.1 v.2.2.2.2.2.2.2.2.1.1 v.2.2.2.2.2.2.2.2.2.2.1.1 v.2.2.2.2.2.2.2.2.2.2.2.2.1.1 (fun y0 y1 y2 y3 y4 y5 y6 y7 y8 y9 y10 => k (.d ⟨(.int .i64), y0⟩) [([0, 0], ⟨72, 1, (.mix [(.fn (.func 82) [] [(.ptr [0, 1] 0 0), (.ptr [0, 3] 0 0)]), (.fn (.func 82) [] [(.ptr [0, 4] 0 0), (.ptr [0, 5] 0 0)]), (.fn (.func 82) [] [(.ptr [0, 6] 0 0), (.ptr [0, 7] 0 0)]), (.fn (.func 82) [] [(.ptr [0, 8] 0 0), (.ptr [0, 9] 0 0)]), (.fn (.func 47) [] [(.ptr [0, 2] 0 0)]), (.fn (.func 82) [] [(.ptr [0, 10] 0 0), (.ptr [0, 11] 0 0)])])⟩), ([0, 1], ⟨34, 1, (.mix [(.fn (.func 40) [] [(.ptr [0, 2] 0 0)])])⟩), ([0, 2], ⟨40, 5, (.mix [(.agg [(.bv 1 75 Ty8 y1), (.bv 2 2 (.int .i64) y2), (.bv 3 78 Ty11 y3), (.bv 4 127 Ty7 y4), (.d ⟨(.int .i64), y5⟩)])])⟩), ([0, 3], ⟨43, 1, (.data (.int .i64) [y6])⟩), ([0, 4], ⟨34, 1, (.mix [(.fn (.func 41) [] [(.ptr [0, 2] 0 0)])])⟩), ([0, 5], ⟨43, 1, (.data (.int .i64) [y7])⟩), ([0, 6], ⟨34, 1, (.mix [(.fn (.func 42) [] [(.ptr [0, 2] 0 0)])])⟩), ([0, 7], ⟨43, 1, (.data (.int .i64) [y8])⟩), ([0, 8], ⟨34, 1, (.mix [(.fn (.func 44) [] [(.ptr [0, 2] 0 0)])])⟩), ([0, 9], ⟨43, 1, (.data (.int .i64) [y9])⟩), ([0, 10], ⟨34, 1, (.mix [(.fn (.func 49) [] [(.ptr [0, 2] 0 0)])])⟩), ([0, 11], ⟨43, 1, (.data (.int .i64) [y10])⟩)])
theorem image_all.eq (L0 : T_image_all_L0) : ∀ v k, exF Tryz.f38 image_all.p [] [] [⟨0, image_all_L0.p, image_all_L0.g L0⟩] v k = image_all.g (image_all.body L0) v k := fun v k => by kernel_rfl
theorem image_all.ok : okF 6 image_all.p (image_all.g image_all) := fn2 (image_all.eq (image_all_L0 ROUNDS)) Tryz.func38 (by kernel_rfl) .nil [0] (by kernel_rfl) (.cons image_all_L0.ok .nil)
/-- function 10: sheerleg/image.Check -/
abbrev T_image_Check : Type := Tc6 → (List Int) → Tc8 → Tc7 → Int → (Int → Option Bool) → Option Bool
noncomputable def image_Check.body (image_look : T_image_look) (image_lookv1 : T_image_lookv1) (image_lookv2 : T_image_lookv2) (image_lookv3 : T_image_lookv3) (image_lookv4 : T_image_lookv4) (image_all : T_image_all) : T_image_Check := fun ts1264 ns1265 ts1266 ts1267 n1268 k1 =>
  (image_look (19 : Int) ts1264 ns1265 ts1266 ts1267 n1268
  (fun ts1275 ns1276 ts1277 ts1278 n1279 n1280 => (image_lookv1 (3 : Int) ts1275 ns1276 ts1277 ts1278 n1279
  (fun ts1287 ns1288 ts1289 ts1290 n1291 n1292 => (image_lookv2 (9 : Int) ts1287 ns1288 ts1289 ts1290 n1291
  (fun ts1299 ns1300 ts1301 ts1302 n1303 n1304 => (image_lookv3 (8 : Int) ts1299 ns1300 ts1301 ts1302 n1303
  (fun ts1311 ns1312 ts1313 ts1314 n1315 n1316 => (image_lookv4 (15 : Int) ts1311 ns1312 ts1313 ts1314 n1315
  (fun ts1323 ns1324 ts1325 ts1326 n1327 n1328 => (image_all ts1323 ns1324 ts1325 ts1326 n1327 n1280 n1292 n1304 n1316 n1328
  (fun n1659 ts1660 ns1661 ts1662 ts1663 n1664 n1665 n1666 n1667 n1668 n1669 => (k1 n1659)))))))))))))
noncomputable def image_Check : T_image_Check := image_Check.body image_look image_lookv1 image_lookv2 image_lookv3 image_lookv4 image_all
def image_Check.p : FPat := fp 10 (pl (pa (pl (pb 1 75 Ty8) (pl (pb 2 2 (.int .i64)) (pl (pb 3 78 Ty11) (pl (pb 4 127 Ty7) (pl (pd (.int .i64)) pz)))))) pz) pz
def image_Check.g (F : T_image_Check) (v : image_Check.p.T) (k : KR) : Option Bool := F v.1.1.1 v.1.1.2.1 v.1.1.2.2.1 v.1.1.2.2.2.1 v.1.1.2.2.2.2.1 (fun y0 => k (.d ⟨(.int .i64), y0⟩) [])
theorem image_Check.eq (F0 : T_image_look) (F1 : T_image_lookv1) (F2 : T_image_lookv2) (F3 : T_image_lookv3) (F4 : T_image_lookv4) (F5 : T_image_all) : ∀ v k, exF Tryz.f10 image_Check.p [⟨image_look.p, image_look.g F0⟩, ⟨image_lookv1.p, image_lookv1.g F1⟩, ⟨image_lookv2.p, image_lookv2.g F2⟩, ⟨image_lookv3.p, image_lookv3.g F3⟩, ⟨image_lookv4.p, image_lookv4.g F4⟩, ⟨image_all.p, image_all.g F5⟩] [] [] v k = image_Check.g (image_Check.body F0 F1 F2 F3 F4 F5) v k := fun v k => by kernel_rfl
theorem image_Check.ok : okF 7 image_Check.p (image_Check.g image_Check) := fn2 (image_Check.eq image_look image_lookv1 image_lookv2 image_lookv3 image_lookv4 image_all) Tryz.func10 (by kernel_rfl) (.cons image_look.ok (.cons image_lookv1.ok (.cons image_lookv2.ok (.cons image_lookv3.ok (.cons image_lookv4.ok (.cons image_all.ok .nil)))))) [] (by kernel_rfl) .nil
/-- function 39: sheerleg/image.look -/
abbrev T_image_lookv5 : Type := Int → Int → (Int → Int → Option Bool) → Option Bool
noncomputable def image_lookv5.body : T_image_lookv5 := fun n1672 n1673 k1 =>
  (k1 n1673 n1672)
noncomputable def image_lookv5 : T_image_lookv5 := image_lookv5.body
def image_lookv5.p : FPat := fp 39 (pl (pd (.int .i64)) (pl (pf 40 pz (ps (pq [0, 0] 0 0) pz)) pz)) (pl (po [0, 0] 40 5 (em (pl (pa (ps (pk 0) (ps (pk 0) (ps (pk 0) (ps (pk 0) (pl (pd (.int .i64)) pz)))))) pz))) pz)
def image_lookv5.g (F : T_image_lookv5) (v : image_lookv5.p.T) (k : KR) : Option Bool := F v.1.1 v.2.1.1.1 (fun y0 y1 => k (.fn (.func 82) [] [(.ptr [1, 0] 0 0), (.ptr [1, 1] 0 0)]) [([0, 0], ⟨40, 5, (.mix [(.agg [.nils, .nils, .nils, .nils, (.d ⟨(.int .i64), y0⟩)])])⟩), ([1, 0], ⟨34, 1, (.mix [(.fn (.func 40) [] [(.ptr [0, 0] 0 0)])])⟩), ([1, 1], ⟨43, 1, (.data (.int .i64) [y1])⟩)])
theorem image_lookv5.eq : ∀ v k, exF Tryz.f39 image_lookv5.p [] [] [] v k = image_lookv5.g (image_lookv5.body) v k := fun v k => by kernel_rfl
theorem image_lookv5.ok : okF 1 image_lookv5.p (image_lookv5.g image_lookv5) := fn2 (image_lookv5.eq) Tryz.func39 (by kernel_rfl) .nil [] (by kernel_rfl) .nil
/-- function 39: sheerleg/image.look -/
abbrev T_image_lookv6 : Type := Int → Int → (Int → Int → Option Bool) → Option Bool
noncomputable def image_lookv6.body : T_image_lookv6 := fun n1676 n1677 k1 =>
  (k1 n1677 n1676)
noncomputable def image_lookv6 : T_image_lookv6 := image_lookv6.body
def image_lookv6.p : FPat := fp 39 (pl (pd (.int .i64)) (pl (pf 41 pz (ps (pq [0, 0] 0 0) pz)) pz)) (pl (po [0, 0] 40 5 (em (pl (pa (ps (pk 0) (ps (pk 0) (ps (pk 0) (ps (pk 0) (pl (pd (.int .i64)) pz)))))) pz))) pz)
def image_lookv6.g (F : T_image_lookv6) (v : image_lookv6.p.T) (k : KR) : Option Bool := F v.1.1 v.2.1.1.1 (fun y0 y1 => k (.fn (.func 82) [] [(.ptr [1, 0] 0 0), (.ptr [1, 1] 0 0)]) [([0, 0], ⟨40, 5, (.mix [(.agg [.nils, .nils, .nils, .nils, (.d ⟨(.int .i64), y0⟩)])])⟩), ([1, 0], ⟨34, 1, (.mix [(.fn (.func 41) [] [(.ptr [0, 0] 0 0)])])⟩), ([1, 1], ⟨43, 1, (.data (.int .i64) [y1])⟩)])
theorem image_lookv6.eq : ∀ v k, exF Tryz.f39 image_lookv6.p [] [] [] v k = image_lookv6.g (image_lookv6.body) v k := fun v k => by kernel_rfl
theorem image_lookv6.ok : okF 1 image_lookv6.p (image_lookv6.g image_lookv6) := fn2 (image_lookv6.eq) Tryz.func39 (by kernel_rfl) .nil [] (by kernel_rfl) .nil
/-- function 39: sheerleg/image.look -/
abbrev T_image_lookv7 : Type := Int → Int → (Int → Int → Option Bool) → Option Bool
noncomputable def image_lookv7.body : T_image_lookv7 := fun n1680 n1681 k1 =>
  (k1 n1681 n1680)
noncomputable def image_lookv7 : T_image_lookv7 := image_lookv7.body
def image_lookv7.p : FPat := fp 39 (pl (pd (.int .i64)) (pl (pf 42 pz (ps (pq [0, 0] 0 0) pz)) pz)) (pl (po [0, 0] 40 5 (em (pl (pa (ps (pk 0) (ps (pk 0) (ps (pk 0) (ps (pk 0) (pl (pd (.int .i64)) pz)))))) pz))) pz)
def image_lookv7.g (F : T_image_lookv7) (v : image_lookv7.p.T) (k : KR) : Option Bool := F v.1.1 v.2.1.1.1 (fun y0 y1 => k (.fn (.func 82) [] [(.ptr [1, 0] 0 0), (.ptr [1, 1] 0 0)]) [([0, 0], ⟨40, 5, (.mix [(.agg [.nils, .nils, .nils, .nils, (.d ⟨(.int .i64), y0⟩)])])⟩), ([1, 0], ⟨34, 1, (.mix [(.fn (.func 42) [] [(.ptr [0, 0] 0 0)])])⟩), ([1, 1], ⟨43, 1, (.data (.int .i64) [y1])⟩)])
theorem image_lookv7.eq : ∀ v k, exF Tryz.f39 image_lookv7.p [] [] [] v k = image_lookv7.g (image_lookv7.body) v k := fun v k => by kernel_rfl
theorem image_lookv7.ok : okF 1 image_lookv7.p (image_lookv7.g image_lookv7) := fn2 (image_lookv7.eq) Tryz.func39 (by kernel_rfl) .nil [] (by kernel_rfl) .nil
/-- function 39: sheerleg/image.look -/
abbrev T_image_lookv8 : Type := Int → Int → (Int → Int → Option Bool) → Option Bool
noncomputable def image_lookv8.body : T_image_lookv8 := fun n1684 n1685 k1 =>
  (k1 n1685 n1684)
noncomputable def image_lookv8 : T_image_lookv8 := image_lookv8.body
def image_lookv8.p : FPat := fp 39 (pl (pd (.int .i64)) (pl (pf 44 pz (ps (pq [0, 0] 0 0) pz)) pz)) (pl (po [0, 0] 40 5 (em (pl (pa (ps (pk 0) (ps (pk 0) (ps (pk 0) (ps (pk 0) (pl (pd (.int .i64)) pz)))))) pz))) pz)
def image_lookv8.g (F : T_image_lookv8) (v : image_lookv8.p.T) (k : KR) : Option Bool := F v.1.1 v.2.1.1.1 (fun y0 y1 => k (.fn (.func 82) [] [(.ptr [1, 0] 0 0), (.ptr [1, 1] 0 0)]) [([0, 0], ⟨40, 5, (.mix [(.agg [.nils, .nils, .nils, .nils, (.d ⟨(.int .i64), y0⟩)])])⟩), ([1, 0], ⟨34, 1, (.mix [(.fn (.func 44) [] [(.ptr [0, 0] 0 0)])])⟩), ([1, 1], ⟨43, 1, (.data (.int .i64) [y1])⟩)])
theorem image_lookv8.eq : ∀ v k, exF Tryz.f39 image_lookv8.p [] [] [] v k = image_lookv8.g (image_lookv8.body) v k := fun v k => by kernel_rfl
theorem image_lookv8.ok : okF 1 image_lookv8.p (image_lookv8.g image_lookv8) := fn2 (image_lookv8.eq) Tryz.func39 (by kernel_rfl) .nil [] (by kernel_rfl) .nil
/-- function 39: sheerleg/image.look -/
abbrev T_image_lookv9 : Type := Int → Int → (Int → Int → Option Bool) → Option Bool
noncomputable def image_lookv9.body : T_image_lookv9 := fun n1688 n1689 k1 =>
  (k1 n1689 n1688)
noncomputable def image_lookv9 : T_image_lookv9 := image_lookv9.body
def image_lookv9.p : FPat := fp 39 (pl (pd (.int .i64)) (pl (pf 49 pz (ps (pq [0, 0] 0 0) pz)) pz)) (pl (po [0, 0] 40 5 (em (pl (pa (ps (pk 0) (ps (pk 0) (ps (pk 0) (ps (pk 0) (pl (pd (.int .i64)) pz)))))) pz))) pz)
def image_lookv9.g (F : T_image_lookv9) (v : image_lookv9.p.T) (k : KR) : Option Bool := F v.1.1 v.2.1.1.1 (fun y0 y1 => k (.fn (.func 82) [] [(.ptr [1, 0] 0 0), (.ptr [1, 1] 0 0)]) [([0, 0], ⟨40, 5, (.mix [(.agg [.nils, .nils, .nils, .nils, (.d ⟨(.int .i64), y0⟩)])])⟩), ([1, 0], ⟨34, 1, (.mix [(.fn (.func 49) [] [(.ptr [0, 0] 0 0)])])⟩), ([1, 1], ⟨43, 1, (.data (.int .i64) [y1])⟩)])
theorem image_lookv9.eq : ∀ v k, exF Tryz.f39 image_lookv9.p [] [] [] v k = image_lookv9.g (image_lookv9.body) v k := fun v k => by kernel_rfl
theorem image_lookv9.ok : okF 1 image_lookv9.p (image_lookv9.g image_lookv9) := fn2 (image_lookv9.eq) Tryz.func39 (by kernel_rfl) .nil [] (by kernel_rfl) .nil
/-- function 40: sheerleg/image.Check$1 -/
abbrev T_image_Checkfn1v1 : Type := Int → (Bool → Int → Option Bool) → Option Bool
noncomputable def image_Checkfn1v1.body : T_image_Checkfn1v1 := fun n1708 k1 =>
  (k1 false n1708)
noncomputable def image_Checkfn1v1 : T_image_Checkfn1v1 := image_Checkfn1v1.body
def image_Checkfn1v1.p : FPat := fp 40 (ps (pq [0, 0] 0 0) pz) (pl (po [0, 0] 40 5 (em (pl (pa (ps (pk 0) (ps (pk 0) (ps (pk 0) (ps (pk 0) (pl (pd (.int .i64)) pz)))))) pz))) pz)
def image_Checkfn1v1.g (F : T_image_Checkfn1v1) (v : image_Checkfn1v1.p.T) (k : KR) : Option Bool := F v.2.1.1.1 (fun y0 y1 => k (.d ⟨.bool, y0⟩) [([0, 0], ⟨40, 5, (.mix [(.agg [.nils, .nils, .nils, .nils, (.d ⟨(.int .i64), y1⟩)])])⟩)])
theorem image_Checkfn1v1.eq : ∀ v k, exF Tryz.f40 image_Checkfn1v1.p [] [] [] v k = image_Checkfn1v1.g (image_Checkfn1v1.body) v k := fun v k => by kernel_rfl
theorem image_Checkfn1v1.ok : okF 1 image_Checkfn1v1.p (image_Checkfn1v1.g image_Checkfn1v1) := fn2 (image_Checkfn1v1.eq) Tryz.func40 (by kernel_rfl) .nil [] (by kernel_rfl) .nil
/-- function 82: sheerleg/image.look$1 -/
abbrev T_image_lookfn1v5 : Type := Int → Int → (Int → Int → Int → Option Bool) → Option Bool
noncomputable def image_lookfn1v5.body (image_Checkfn1v1 : T_image_Checkfn1v1) : T_image_lookfn1v5 := fun n1706 n1707 k1 =>
  (image_Checkfn1v1 n1706
  (fun b1709 n1710 => (cond_ b1709 (k1 n1707 n1710 n1707) (k1 (0 : Int) n1710 n1707))))
noncomputable def image_lookfn1v5 : T_image_lookfn1v5 := image_lookfn1v5.body image_Checkfn1v1
def image_lookfn1v5.p : FPat := fp 82 (ps (pq [0, 0] 0 0) (ps (pq [0, 2] 0 0) pz)) (pl (po [0, 0] 34 1 (em (pl (pf 40 pz (ps (pq [0, 1] 0 0) pz)) pz))) (pl (po [0, 1] 40 5 (em (pl (pa (ps (pk 0) (ps (pk 0) (ps (pk 0) (ps (pk 0) (pl (pd (.int .i64)) pz)))))) pz))) (pl (po [0, 2] 43 1 (es (.int .i64) (pl eh pz))) pz)))
def image_lookfn1v5.g (F : T_image_lookfn1v5) (v : image_lookfn1v5.p.T) (k : KR) : Option Bool := F v.2.2.1.1.1 v.2.2.2.1.1 (fun y0 y1 y2 => k (.d ⟨(.int .i64), y0⟩) [([0, 0], ⟨34, 1, (.mix [(.fn (.func 40) [] [(.ptr [0, 1] 0 0)])])⟩), ([0, 1], ⟨40, 5, (.mix [(.agg [.nils, .nils, .nils, .nils, (.d ⟨(.int .i64), y1⟩)])])⟩), ([0, 2], ⟨43, 1, (.data (.int .i64) [y2])⟩)])
theorem image_lookfn1v5.eq (F0 : T_image_Checkfn1v1) : ∀ v k, exF Tryz.f82 image_lookfn1v5.p [⟨image_Checkfn1v1.p, image_Checkfn1v1.g F0⟩] [] [] v k = image_lookfn1v5.g (image_lookfn1v5.body F0) v k := fun v k => by kernel_rfl
theorem image_lookfn1v5.ok : okF 2 image_lookfn1v5.p (image_lookfn1v5.g image_lookfn1v5) := fn2 (image_lookfn1v5.eq image_Checkfn1v1) Tryz.func82 (by kernel_rfl) (.cons image_Checkfn1v1.ok .nil) [] (by kernel_rfl) .nil
/-- function 41: sheerleg/image.Check$2 -/
abbrev T_image_Checkfn2v1 : Type := Int → (Bool → Int → Option Bool) → Option Bool
noncomputable def image_Checkfn2v1.body : T_image_Checkfn2v1 := fun n1716 k1 =>
  (k1 true n1716)
noncomputable def image_Checkfn2v1 : T_image_Checkfn2v1 := image_Checkfn2v1.body
def image_Checkfn2v1.p : FPat := fp 41 (ps (pq [0, 0] 0 0) pz) (pl (po [0, 0] 40 5 (em (pl (pa (ps (pk 0) (ps (pk 0) (ps (pk 0) (ps (pk 0) (pl (pd (.int .i64)) pz)))))) pz))) pz)
def image_Checkfn2v1.g (F : T_image_Checkfn2v1) (v : image_Checkfn2v1.p.T) (k : KR) : Option Bool := F v.2.1.1.1 (fun y0 y1 => k (.d ⟨.bool, y0⟩) [([0, 0], ⟨40, 5, (.mix [(.agg [.nils, .nils, .nils, .nils, (.d ⟨(.int .i64), y1⟩)])])⟩)])
theorem image_Checkfn2v1.eq : ∀ v k, exF Tryz.f41 image_Checkfn2v1.p [] [] [] v k = image_Checkfn2v1.g (image_Checkfn2v1.body) v k := fun v k => by kernel_rfl
theorem image_Checkfn2v1.ok : okF 1 image_Checkfn2v1.p (image_Checkfn2v1.g image_Checkfn2v1) := fn2 (image_Checkfn2v1.eq) Tryz.func41 (by kernel_rfl) .nil [] (by kernel_rfl) .nil
/-- function 82: sheerleg/image.look$1 -/
abbrev T_image_lookfn1v6 : Type := Int → Int → (Int → Int → Int → Option Bool) → Option Bool
noncomputable def image_lookfn1v6.body (image_Checkfn2v1 : T_image_Checkfn2v1) : T_image_lookfn1v6 := fun n1714 n1715 k1 =>
  (image_Checkfn2v1 n1714
  (fun b1717 n1718 => (cond_ b1717 (k1 n1715 n1718 n1715) (k1 (0 : Int) n1718 n1715))))
noncomputable def image_lookfn1v6 : T_image_lookfn1v6 := image_lookfn1v6.body image_Checkfn2v1
def image_lookfn1v6.p : FPat := fp 82 (ps (pq [0, 0] 0 0) (ps (pq [0, 2] 0 0) pz)) (pl (po [0, 0] 34 1 (em (pl (pf 41 pz (ps (pq [0, 1] 0 0) pz)) pz))) (pl (po [0, 1] 40 5 (em (pl (pa (ps (pk 0) (ps (pk 0) (ps (pk 0) (ps (pk 0) (pl (pd (.int .i64)) pz)))))) pz))) (pl (po [0, 2] 43 1 (es (.int .i64) (pl eh pz))) pz)))
def image_lookfn1v6.g (F : T_image_lookfn1v6) (v : image_lookfn1v6.p.T) (k : KR) : Option Bool := F v.2.2.1.1.1 v.2.2.2.1.1 (fun y0 y1 y2 => k (.d ⟨(.int .i64), y0⟩) [([0, 0], ⟨34, 1, (.mix [(.fn (.func 41) [] [(.ptr [0, 1] 0 0)])])⟩), ([0, 1], ⟨40, 5, (.mix [(.agg [.nils, .nils, .nils, .nils, (.d ⟨(.int .i64), y1⟩)])])⟩), ([0, 2], ⟨43, 1, (.data (.int .i64) [y2])⟩)])
theorem image_lookfn1v6.eq (F0 : T_image_Checkfn2v1) : ∀ v k, exF Tryz.f82 image_lookfn1v6.p [⟨image_Checkfn2v1.p, image_Checkfn2v1.g F0⟩] [] [] v k = image_lookfn1v6.g (image_lookfn1v6.body F0) v k := fun v k => by kernel_rfl
theorem image_lookfn1v6.ok : okF 2 image_lookfn1v6.p (image_lookfn1v6.g image_lookfn1v6) := fn2 (image_lookfn1v6.eq image_Checkfn2v1) Tryz.func82 (by kernel_rfl) (.cons image_Checkfn2v1.ok .nil) [] (by kernel_rfl) .nil
/-- function 43: the loop in block 0 -/
abbrev T_image_gapsv1_L0 : Type := Int → Int → Int → Int → (Int → Int → Option Bool) → Option Bool
noncomputable def image_gapsv1_L0.body (image_gapsv1_L0 : T_image_gapsv1_L0) : T_image_gapsv1_L0 := fun n1726 n1727 n1728 n1729 k1 =>
  (cond_ (decide (n1728 < n1727)) none (k1 n1726 n1729))
noncomputable def image_gapsv1_L0 : Nat → T_image_gapsv1_L0
  | 0 => fun _ _ _ _ _ => none
  | n + 1 => image_gapsv1_L0.body (image_gapsv1_L0 n)
def image_gapsv1_L0.p : LPat := lp 2 44 [1, 3, 7, 8, 9] (ps (pq [1, 0] 0 0) (pl (pd (.int .i64)) (ps (pk 0) (pl (pd (.int .i64)) (pl (pd (.int .i64)) pz))))) (pl (po [1, 0] 40 5 (em (pl (pa (ps (pk 0) (ps (pk 0) (ps (pk 0) (ps (pk 0) (pl (pd (.int .i64)) pz)))))) pz))) pz)
def image_gapsv1_L0.g (F : T_image_gapsv1_L0) (v : image_gapsv1_L0.p.T) (k : KE) : Option Bool := F v.1.1 v.1.2.1 v.1.2.2.1 v.2.1.1.1 (fun y0 y1 => k (.exit 0) ⟨fillS 44 [1, 3] [(.ptr [1, 0] 0 0), (.d ⟨(.int .i64), y0⟩)], [([1, 0], ⟨40, 5, (.mix [(.agg [.nils, .nils, .nils, .nils, (.d ⟨(.int .i64), y1⟩)])])⟩)], 2⟩)
theorem image_gapsv1_L0.step (S : T_image_gapsv1_L0) : ∀ v k, exR 43 Tryz.f43 0 image_gapsv1_L0.p [] [] [] (image_gapsv1_L0.g S) v k = image_gapsv1_L0.g (image_gapsv1_L0.body S) v k := fun v k => by kernel_rfl
theorem image_gapsv1_L0.ok : okL 43 Tryz.f43 0 0 image_gapsv1_L0.p (image_gapsv1_L0.g (image_gapsv1_L0 ROUNDS)) := loop2 (G := fun n => image_gapsv1_L0.g (image_gapsv1_L0 n)) (fun n => image_gapsv1_L0.step (image_gapsv1_L0 n)) .nil [] (by kernel_rfl) .nil (fun _ _ => rfl)
/-- function 43: sheerleg/image.gaps -/
abbrev T_image_gapsv1 : Type := Int → (Bool → Option Bool) → Option Bool
noncomputable def image_gapsv1.body (image_gapsv1_L0 : T_image_gapsv1_L0) : T_image_gapsv1 := fun n1725 k1 =>
  (image_gapsv1_L0 (2 : Int) (0 : Int) (0 : Int) n1725
  (fun n1730 n1731 => (k1 (n1730 != (0 : Int)))))
noncomputable def image_gapsv1 : T_image_gapsv1 := image_gapsv1.body (image_gapsv1_L0 ROUNDS)
def image_gapsv1.p : FPat := fp 43 (pl (pa (ps (pk 0) (ps (pk 0) (ps (pk 0) (ps (pk 0) (pl (pd (.int .i64)) pz)))))) pz) pz
def image_gapsv1.g (F : T_image_gapsv1) (v : image_gapsv1.p.T) (k : KR) : Option Bool := F v.1.1.1 (fun y0 => k (.d ⟨.bool, y0⟩) [])
theorem image_gapsv1.eq (L0 : T_image_gapsv1_L0) : ∀ v k, exF Tryz.f43 image_gapsv1.p [] [] [⟨0, image_gapsv1_L0.p, image_gapsv1_L0.g L0⟩] v k = image_gapsv1.g (image_gapsv1.body L0) v k := fun v k => by kernel_rfl
theorem image_gapsv1.ok : okF 1 image_gapsv1.p (image_gapsv1.g image_gapsv1) := fn2 (image_gapsv1.eq (image_gapsv1_L0 ROUNDS)) Tryz.func43 (by kernel_rfl) .nil [0] (by kernel_rfl) (.cons image_gapsv1_L0.ok .nil)
/-- function 42: sheerleg/image.Check$3 -/
abbrev T_image_Checkfn3v1 : Type := Int → (Bool → Int → Option Bool) → Option Bool
noncomputable def image_Checkfn3v1.body (image_gapsv1 : T_image_gapsv1) : T_image_Checkfn3v1 := fun n1724 k1 =>
  (image_gapsv1 n1724
  (fun b1732 => (k1 b1732 n1724)))
noncomputable def image_Checkfn3v1 : T_image_Checkfn3v1 := image_Checkfn3v1.body image_gapsv1
def image_Checkfn3v1.p : FPat := fp 42 (ps (pq [0, 0] 0 0) pz) (pl (po [0, 0] 40 5 (em (pl (pa (ps (pk 0) (ps (pk 0) (ps (pk 0) (ps (pk 0) (pl (pd (.int .i64)) pz)))))) pz))) pz)
def image_Checkfn3v1.g (F : T_image_Checkfn3v1) (v : image_Checkfn3v1.p.T) (k : KR) : Option Bool := F v.2.1.1.1 (fun y0 y1 => k (.d ⟨.bool, y0⟩) [([0, 0], ⟨40, 5, (.mix [(.agg [.nils, .nils, .nils, .nils, (.d ⟨(.int .i64), y1⟩)])])⟩)])
theorem image_Checkfn3v1.eq (F0 : T_image_gapsv1) : ∀ v k, exF Tryz.f42 image_Checkfn3v1.p [⟨image_gapsv1.p, image_gapsv1.g F0⟩] [] [] v k = image_Checkfn3v1.g (image_Checkfn3v1.body F0) v k := fun v k => by kernel_rfl
theorem image_Checkfn3v1.ok : okF 2 image_Checkfn3v1.p (image_Checkfn3v1.g image_Checkfn3v1) := fn2 (image_Checkfn3v1.eq image_gapsv1) Tryz.func42 (by kernel_rfl) (.cons image_gapsv1.ok .nil) [] (by kernel_rfl) .nil
/-- function 82: sheerleg/image.look$1 -/
abbrev T_image_lookfn1v7 : Type := Int → Int → (Int → Int → Int → Option Bool) → Option Bool
noncomputable def image_lookfn1v7.body (image_Checkfn3v1 : T_image_Checkfn3v1) : T_image_lookfn1v7 := fun n1722 n1723 k1 =>
  (image_Checkfn3v1 n1722
  (fun b1733 n1734 => (cond_ b1733 (k1 n1723 n1734 n1723) (k1 (0 : Int) n1734 n1723))))
noncomputable def image_lookfn1v7 : T_image_lookfn1v7 := image_lookfn1v7.body image_Checkfn3v1
def image_lookfn1v7.p : FPat := fp 82 (ps (pq [0, 0] 0 0) (ps (pq [0, 2] 0 0) pz)) (pl (po [0, 0] 34 1 (em (pl (pf 42 pz (ps (pq [0, 1] 0 0) pz)) pz))) (pl (po [0, 1] 40 5 (em (pl (pa (ps (pk 0) (ps (pk 0) (ps (pk 0) (ps (pk 0) (pl (pd (.int .i64)) pz)))))) pz))) (pl (po [0, 2] 43 1 (es (.int .i64) (pl eh pz))) pz)))
def image_lookfn1v7.g (F : T_image_lookfn1v7) (v : image_lookfn1v7.p.T) (k : KR) : Option Bool := F v.2.2.1.1.1 v.2.2.2.1.1 (fun y0 y1 y2 => k (.d ⟨(.int .i64), y0⟩) [([0, 0], ⟨34, 1, (.mix [(.fn (.func 42) [] [(.ptr [0, 1] 0 0)])])⟩), ([0, 1], ⟨40, 5, (.mix [(.agg [.nils, .nils, .nils, .nils, (.d ⟨(.int .i64), y1⟩)])])⟩), ([0, 2], ⟨43, 1, (.data (.int .i64) [y2])⟩)])
theorem image_lookfn1v7.eq (F0 : T_image_Checkfn3v1) : ∀ v k, exF Tryz.f82 image_lookfn1v7.p [⟨image_Checkfn3v1.p, image_Checkfn3v1.g F0⟩] [] [] v k = image_lookfn1v7.g (image_lookfn1v7.body F0) v k := fun v k => by kernel_rfl
theorem image_lookfn1v7.ok : okF 3 image_lookfn1v7.p (image_lookfn1v7.g image_lookfn1v7) := fn2 (image_lookfn1v7.eq image_Checkfn3v1) Tryz.func82 (by kernel_rfl) (.cons image_Checkfn3v1.ok .nil) [] (by kernel_rfl) .nil
/-- function 46: sheerleg/image.odd -/
abbrev T_image_oddv1 : Type := Int → (Int → Option Bool) → Option Bool
noncomputable def image_oddv1.body : T_image_oddv1 := fun n1741 k1 =>
  (k1 n1741)
noncomputable def image_oddv1 : T_image_oddv1 := image_oddv1.body
def image_oddv1.p : FPat := fp 46 (pl (pa (ps (pk 0) (ps (pk 0) (ps (pk 0) (ps (pk 0) (pl (pd (.int .i64)) pz)))))) pz) pz
def image_oddv1.g (F : T_image_oddv1) (v : image_oddv1.p.T) (k : KR) : Option Bool := F v.1.1.1 (fun y0 => k (.fn (.func 83) [] [(.ptr [1, 0] 0 0)]) [([1, 0], ⟨40, 5, (.mix [(.agg [.nils, .nils, .nils, .nils, (.d ⟨(.int .i64), y0⟩)])])⟩)])
theorem image_oddv1.eq : ∀ v k, exF Tryz.f46 image_oddv1.p [] [] [] v k = image_oddv1.g (image_oddv1.body) v k := fun v k => by kernel_rfl
theorem image_oddv1.ok : okF 1 image_oddv1.p (image_oddv1.g image_oddv1) := fn2 (image_oddv1.eq) Tryz.func46 (by kernel_rfl) .nil [] (by kernel_rfl) .nil
/-- function 56: the loop in block 0 -/
abbrev T_slices_IndexFunc_api_Fn_api_Fnv2_L0 : Type := Int → Int → Int → (Int → Option Bool) → Option Bool
noncomputable def slices_IndexFunc_api_Fn_api_Fnv2_L0.body (slices_IndexFunc_api_Fn_api_Fnv2_L0 : T_slices_IndexFunc_api_Fn_api_Fnv2_L0) : T_slices_IndexFunc_api_Fn_api_Fnv2_L0 := fun n1745 n1746 n1747 k1 =>
  (cond_ (decide (n1746 < n1745)) none (k1 n1747))
noncomputable def slices_IndexFunc_api_Fn_api_Fnv2_L0 : Nat → T_slices_IndexFunc_api_Fn_api_Fnv2_L0
  | 0 => fun _ _ _ _ => none
  | n + 1 => slices_IndexFunc_api_Fn_api_Fnv2_L0.body (slices_IndexFunc_api_Fn_api_Fnv2_L0 n)
def slices_IndexFunc_api_Fn_api_Fnv2_L0.p : LPat := lp 2 19 [0, 1, 7, 8] (ps (pk 0) (pl (pf 83 pz (ps (pq [0, 0] 0 0) pz)) (pl (pd (.int .i64)) (pl (pd (.int .i64)) pz)))) (pl (po [0, 0] 40 5 (em (pl (pa (ps (pk 0) (ps (pk 0) (ps (pk 0) (ps (pk 0) (pl (pd (.int .i64)) pz)))))) pz))) pz)
def slices_IndexFunc_api_Fn_api_Fnv2_L0.g (F : T_slices_IndexFunc_api_Fn_api_Fnv2_L0) (v : slices_IndexFunc_api_Fn_api_Fnv2_L0.p.T) (k : KE) : Option Bool := F v.1.2.1 v.1.2.2.1 v.2.1.1.1 (fun y0 => k (.exit 0) ⟨fillS 19 [] [], [([0, 0], ⟨40, 5, (.mix [(.agg [.nils, .nils, .nils, .nils, (.d ⟨(.int .i64), y0⟩)])])⟩)], 2⟩)
theorem slices_IndexFunc_api_Fn_api_Fnv2_L0.step (S : T_slices_IndexFunc_api_Fn_api_Fnv2_L0) : ∀ v k, exR 56 Tryz.f56 0 slices_IndexFunc_api_Fn_api_Fnv2_L0.p [] [] [] (slices_IndexFunc_api_Fn_api_Fnv2_L0.g S) v k = slices_IndexFunc_api_Fn_api_Fnv2_L0.g (slices_IndexFunc_api_Fn_api_Fnv2_L0.body S) v k := fun v k => by kernel_rfl
theorem slices_IndexFunc_api_Fn_api_Fnv2_L0.ok : okL 56 Tryz.f56 0 0 slices_IndexFunc_api_Fn_api_Fnv2_L0.p (slices_IndexFunc_api_Fn_api_Fnv2_L0.g (slices_IndexFunc_api_Fn_api_Fnv2_L0 ROUNDS)) := loop2 (G := fun n => slices_IndexFunc_api_Fn_api_Fnv2_L0.g (slices_IndexFunc_api_Fn_api_Fnv2_L0 n)) (fun n => slices_IndexFunc_api_Fn_api_Fnv2_L0.step (slices_IndexFunc_api_Fn_api_Fnv2_L0 n)) .nil [] (by kernel_rfl) .nil (fun _ _ => rfl)
/-- function 56: slices.IndexFunc[[]sheerleg/api.Fn,sheerleg/api.Fn] -/
abbrev T_slices_IndexFunc_api_Fn_api_Fnv2 : Type := Int → (Int → Int → Option Bool) → Option Bool
noncomputable def slices_IndexFunc_api_Fn_api_Fnv2.body (slices_IndexFunc_api_Fn_api_Fnv2_L0 : T_slices_IndexFunc_api_Fn_api_Fnv2_L0) : T_slices_IndexFunc_api_Fn_api_Fnv2 := fun n1744 k1 =>
  (slices_IndexFunc_api_Fn_api_Fnv2_L0 (0 : Int) (0 : Int) n1744
  (fun n1748 => (k1 (-1 : Int) n1748)))
noncomputable def slices_IndexFunc_api_Fn_api_Fnv2 : T_slices_IndexFunc_api_Fn_api_Fnv2 := slices_IndexFunc_api_Fn_api_Fnv2.body (slices_IndexFunc_api_Fn_api_Fnv2_L0 ROUNDS)
def slices_IndexFunc_api_Fn_api_Fnv2.p : FPat := fp 56 (ps (pk 0) (pl (pf 83 pz (ps (pq [0, 0] 0 0) pz)) pz)) (pl (po [0, 0] 40 5 (em (pl (pa (ps (pk 0) (ps (pk 0) (ps (pk 0) (ps (pk 0) (pl (pd (.int .i64)) pz)))))) pz))) pz)
def slices_IndexFunc_api_Fn_api_Fnv2.g (F : T_slices_IndexFunc_api_Fn_api_Fnv2) (v : slices_IndexFunc_api_Fn_api_Fnv2.p.T) (k : KR) : Option Bool := F v.2.1.1.1 (fun y0 y1 => k (.d ⟨(.int .i64), y0⟩) [([0, 0], ⟨40, 5, (.mix [(.agg [.nils, .nils, .nils, .nils, (.d ⟨(.int .i64), y1⟩)])])⟩)])
theorem slices_IndexFunc_api_Fn_api_Fnv2.eq (L0 : T_slices_IndexFunc_api_Fn_api_Fnv2_L0) : ∀ v k, exF Tryz.f56 slices_IndexFunc_api_Fn_api_Fnv2.p [] [] [⟨0, slices_IndexFunc_api_Fn_api_Fnv2_L0.p, slices_IndexFunc_api_Fn_api_Fnv2_L0.g L0⟩] v k = slices_IndexFunc_api_Fn_api_Fnv2.g (slices_IndexFunc_api_Fn_api_Fnv2.body L0) v k := fun v k => by kernel_rfl
theorem slices_IndexFunc_api_Fn_api_Fnv2.ok : okF 1 slices_IndexFunc_api_Fn_api_Fnv2.p (slices_IndexFunc_api_Fn_api_Fnv2.g slices_IndexFunc_api_Fn_api_Fnv2) := fn2 (slices_IndexFunc_api_Fn_api_Fnv2.eq (slices_IndexFunc_api_Fn_api_Fnv2_L0 ROUNDS)) Tryz.func56 (by kernel_rfl) .nil [0] (by kernel_rfl) (.cons slices_IndexFunc_api_Fn_api_Fnv2_L0.ok .nil)
/-- function 45: slices.ContainsFunc[[]sheerleg/api.Fn,sheerleg/api.Fn] -/
abbrev T_slices_ContainsFunc_api_Fn_api_Fnv2 : Type := Int → (Bool → Int → Option Bool) → Option Bool
noncomputable def slices_ContainsFunc_api_Fn_api_Fnv2.body (slices_IndexFunc_api_Fn_api_Fnv2 : T_slices_IndexFunc_api_Fn_api_Fnv2) : T_slices_ContainsFunc_api_Fn_api_Fnv2 := fun n1743 k1 =>
  (slices_IndexFunc_api_Fn_api_Fnv2 n1743
  (fun n1749 n1750 => (k1 (decide (n1749 ≥ (0 : Int))) n1750)))
noncomputable def slices_ContainsFunc_api_Fn_api_Fnv2 : T_slices_ContainsFunc_api_Fn_api_Fnv2 := slices_ContainsFunc_api_Fn_api_Fnv2.body slices_IndexFunc_api_Fn_api_Fnv2
def slices_ContainsFunc_api_Fn_api_Fnv2.p : FPat := fp 45 (ps (pk 0) (pl (pf 83 pz (ps (pq [0, 0] 0 0) pz)) pz)) (pl (po [0, 0] 40 5 (em (pl (pa (ps (pk 0) (ps (pk 0) (ps (pk 0) (ps (pk 0) (pl (pd (.int .i64)) pz)))))) pz))) pz)
def slices_ContainsFunc_api_Fn_api_Fnv2.g (F : T_slices_ContainsFunc_api_Fn_api_Fnv2) (v : slices_ContainsFunc_api_Fn_api_Fnv2.p.T) (k : KR) : Option Bool := F v.2.1.1.1 (fun y0 y1 => k (.d ⟨.bool, y0⟩) [([0, 0], ⟨40, 5, (.mix [(.agg [.nils, .nils, .nils, .nils, (.d ⟨(.int .i64), y1⟩)])])⟩)])
theorem slices_ContainsFunc_api_Fn_api_Fnv2.eq (F0 : T_slices_IndexFunc_api_Fn_api_Fnv2) : ∀ v k, exF Tryz.f45 slices_ContainsFunc_api_Fn_api_Fnv2.p [⟨slices_IndexFunc_api_Fn_api_Fnv2.p, slices_IndexFunc_api_Fn_api_Fnv2.g F0⟩] [] [] v k = slices_ContainsFunc_api_Fn_api_Fnv2.g (slices_ContainsFunc_api_Fn_api_Fnv2.body F0) v k := fun v k => by kernel_rfl
theorem slices_ContainsFunc_api_Fn_api_Fnv2.ok : okF 2 slices_ContainsFunc_api_Fn_api_Fnv2.p (slices_ContainsFunc_api_Fn_api_Fnv2.g slices_ContainsFunc_api_Fn_api_Fnv2) := fn2 (slices_ContainsFunc_api_Fn_api_Fnv2.eq slices_IndexFunc_api_Fn_api_Fnv2) Tryz.func45 (by kernel_rfl) (.cons slices_IndexFunc_api_Fn_api_Fnv2.ok .nil) [] (by kernel_rfl) .nil
/-- function 44: sheerleg/image.Check$4 -/
abbrev T_image_Checkfn4v1 : Type := Int → (Bool → Int → Option Bool) → Option Bool
noncomputable def image_Checkfn4v1.body (image_oddv1 : T_image_oddv1) (slices_ContainsFunc_api_Fn_api_Fnv2 : T_slices_ContainsFunc_api_Fn_api_Fnv2) : T_image_Checkfn4v1 := fun n1740 k1 =>
  (image_oddv1 n1740
  (fun n1742 => (slices_ContainsFunc_api_Fn_api_Fnv2 n1742
  (fun b1751 n1752 => (k1 b1751 n1740)))))
noncomputable def image_Checkfn4v1 : T_image_Checkfn4v1 := image_Checkfn4v1.body image_oddv1 slices_ContainsFunc_api_Fn_api_Fnv2
def image_Checkfn4v1.p : FPat := fp 44 (ps (pq [0, 0] 0 0) pz) (pl (po [0, 0] 40 5 (em (pl (pa (ps (pk 0) (ps (pk 0) (ps (pk 0) (ps (pk 0) (pl (pd (.int .i64)) pz)))))) pz))) pz)
def image_Checkfn4v1.g (F : T_image_Checkfn4v1) (v : image_Checkfn4v1.p.T) (k : KR) : Option Bool := F v.2.1.1.1 (fun y0 y1 => k (.d ⟨.bool, y0⟩) [([0, 0], ⟨40, 5, (.mix [(.agg [.nils, .nils, .nils, .nils, (.d ⟨(.int .i64), y1⟩)])])⟩)])
theorem image_Checkfn4v1.eq (F0 : T_image_oddv1) (F1 : T_slices_ContainsFunc_api_Fn_api_Fnv2) : ∀ v k, exF Tryz.f44 image_Checkfn4v1.p [⟨image_oddv1.p, image_oddv1.g F0⟩, ⟨slices_ContainsFunc_api_Fn_api_Fnv2.p, slices_ContainsFunc_api_Fn_api_Fnv2.g F1⟩] [] [] v k = image_Checkfn4v1.g (image_Checkfn4v1.body F0 F1) v k := fun v k => by kernel_rfl
theorem image_Checkfn4v1.ok : okF 3 image_Checkfn4v1.p (image_Checkfn4v1.g image_Checkfn4v1) := fn2 (image_Checkfn4v1.eq image_oddv1 slices_ContainsFunc_api_Fn_api_Fnv2) Tryz.func44 (by kernel_rfl) (.cons image_oddv1.ok (.cons slices_ContainsFunc_api_Fn_api_Fnv2.ok .nil)) [] (by kernel_rfl) .nil
/-- function 82: sheerleg/image.look$1 -/
abbrev T_image_lookfn1v8 : Type := Int → Int → (Int → Int → Int → Option Bool) → Option Bool
noncomputable def image_lookfn1v8.body (image_Checkfn4v1 : T_image_Checkfn4v1) : T_image_lookfn1v8 := fun n1738 n1739 k1 =>
  (image_Checkfn4v1 n1738
  (fun b1753 n1754 => (cond_ b1753 (k1 n1739 n1754 n1739) (k1 (0 : Int) n1754 n1739))))
noncomputable def image_lookfn1v8 : T_image_lookfn1v8 := image_lookfn1v8.body image_Checkfn4v1
def image_lookfn1v8.p : FPat := fp 82 (ps (pq [0, 0] 0 0) (ps (pq [0, 2] 0 0) pz)) (pl (po [0, 0] 34 1 (em (pl (pf 44 pz (ps (pq [0, 1] 0 0) pz)) pz))) (pl (po [0, 1] 40 5 (em (pl (pa (ps (pk 0) (ps (pk 0) (ps (pk 0) (ps (pk 0) (pl (pd (.int .i64)) pz)))))) pz))) (pl (po [0, 2] 43 1 (es (.int .i64) (pl eh pz))) pz)))
def image_lookfn1v8.g (F : T_image_lookfn1v8) (v : image_lookfn1v8.p.T) (k : KR) : Option Bool := F v.2.2.1.1.1 v.2.2.2.1.1 (fun y0 y1 y2 => k (.d ⟨(.int .i64), y0⟩) [([0, 0], ⟨34, 1, (.mix [(.fn (.func 44) [] [(.ptr [0, 1] 0 0)])])⟩), ([0, 1], ⟨40, 5, (.mix [(.agg [.nils, .nils, .nils, .nils, (.d ⟨(.int .i64), y1⟩)])])⟩), ([0, 2], ⟨43, 1, (.data (.int .i64) [y2])⟩)])
theorem image_lookfn1v8.eq (F0 : T_image_Checkfn4v1) : ∀ v k, exF Tryz.f82 image_lookfn1v8.p [⟨image_Checkfn4v1.p, image_Checkfn4v1.g F0⟩] [] [] v k = image_lookfn1v8.g (image_lookfn1v8.body F0) v k := fun v k => by kernel_rfl
theorem image_lookfn1v8.ok : okF 4 image_lookfn1v8.p (image_lookfn1v8.g image_lookfn1v8) := fn2 (image_lookfn1v8.eq image_Checkfn4v1) Tryz.func82 (by kernel_rfl) (.cons image_Checkfn4v1.ok .nil) [] (by kernel_rfl) .nil
/-- function 48: the loop in block 1 -/
abbrev T_runs_Checkv1_L1 : Type := Int → Int → Int → Int → (Option Bool) → Option Bool
noncomputable def runs_Checkv1_L1.body (runs_Checkv1_L1 : T_runs_Checkv1_L1) : T_runs_Checkv1_L1 := fun n1760 n1761 n1762 n1763 k1 =>
  (cond_ (decide (n1763 < n1762)) none (k1))
noncomputable def runs_Checkv1_L1 : Nat → T_runs_Checkv1_L1
  | 0 => fun _ _ _ _ _ => none
  | n + 1 => runs_Checkv1_L1.body (runs_Checkv1_L1 n)
def runs_Checkv1_L1.p : LPat := lp 2 67 [0, 1, 5, 20, 21, 22] (ps (pk 0) (pl (pd (.int .i64)) (pl (pd (.int .i64)) (ps (pk 0) (pl (pd (.int .i64)) (pl (pd (.int .i64)) pz)))))) pz
def runs_Checkv1_L1.g (F : T_runs_Checkv1_L1) (v : runs_Checkv1_L1.p.T) (k : KE) : Option Bool := F v.1.1 v.1.2.1 v.1.2.2.1 v.1.2.2.2.1 (k (.exit 1) ⟨fillS 67 [0] [.nils], [], 2⟩)
theorem runs_Checkv1_L1.step (S : T_runs_Checkv1_L1) : ∀ v k, exR 48 Tryz.f48 1 runs_Checkv1_L1.p [] [] [] (runs_Checkv1_L1.g S) v k = runs_Checkv1_L1.g (runs_Checkv1_L1.body S) v k := fun v k => by kernel_rfl
theorem runs_Checkv1_L1.ok : okL 48 Tryz.f48 0 1 runs_Checkv1_L1.p (runs_Checkv1_L1.g (runs_Checkv1_L1 ROUNDS)) := loop2 (G := fun n => runs_Checkv1_L1.g (runs_Checkv1_L1 n)) (fun n => runs_Checkv1_L1.step (runs_Checkv1_L1 n)) .nil [] (by kernel_rfl) .nil (fun _ _ => rfl)
/-- function 48: the loop in block 3 -/
abbrev T_runs_Checkv1_L3 : Type := Int → (Option Bool) → Option Bool
noncomputable def runs_Checkv1_L3.body (runs_Checkv1_L3 : T_runs_Checkv1_L3) : T_runs_Checkv1_L3 := fun n1764 k1 =>
  (cond_ (decide (n1764 < (0 : Int))) none (k1))
noncomputable def runs_Checkv1_L3 : Nat → T_runs_Checkv1_L3
  | 0 => fun _ _ => none
  | n + 1 => runs_Checkv1_L3.body (runs_Checkv1_L3 n)
def runs_Checkv1_L3.p : LPat := lp 2 67 [0, 8] (ps (pk 0) (pl (pd (.int .i64)) pz)) pz
def runs_Checkv1_L3.g (F : T_runs_Checkv1_L3) (v : runs_Checkv1_L3.p.T) (k : KE) : Option Bool := F v.1.1 (k (.exit 3) ⟨fillS 67 [] [], [], 2⟩)
theorem runs_Checkv1_L3.step (S : T_runs_Checkv1_L3) : ∀ v k, exR 48 Tryz.f48 3 runs_Checkv1_L3.p [] [] [] (runs_Checkv1_L3.g S) v k = runs_Checkv1_L3.g (runs_Checkv1_L3.body S) v k := fun v k => by kernel_rfl
theorem runs_Checkv1_L3.ok : okL 48 Tryz.f48 0 3 runs_Checkv1_L3.p (runs_Checkv1_L3.g (runs_Checkv1_L3 ROUNDS)) := loop2 (G := fun n => runs_Checkv1_L3.g (runs_Checkv1_L3 n)) (fun n => runs_Checkv1_L3.step (runs_Checkv1_L3 n)) .nil [] (by kernel_rfl) .nil (fun _ _ => rfl)
/-- function 48: sheerleg/runs.Check -/
abbrev T_runs_Checkv1 : Type := Int → (Int → Option Bool) → Option Bool
noncomputable def runs_Checkv1.body (runs_Checkv1_L1 : T_runs_Checkv1_L1) (runs_Checkv1_L3 : T_runs_Checkv1_L3) : T_runs_Checkv1 := fun n1759 k1 =>
  (cond_ (! (true == (decide (n1759 ≤ (0 : Int))))) (k1 (9 : Int)) (runs_Checkv1_L1 n1759 (-1 : Int) (0 : Int) (0 : Int)
  (runs_Checkv1_L3 (1 : Int)
  (k1 (0 : Int)))))
noncomputable def runs_Checkv1 : T_runs_Checkv1 := runs_Checkv1.body (runs_Checkv1_L1 ROUNDS) (runs_Checkv1_L3 ROUNDS)
def runs_Checkv1.p : FPat := fp 48 (ps (pk 0) (pl (pd (.int .i64)) pz)) pz
def runs_Checkv1.g (F : T_runs_Checkv1) (v : runs_Checkv1.p.T) (k : KR) : Option Bool := F v.1.1 (fun y0 => k (.d ⟨(.int .i64), y0⟩) [])
theorem runs_Checkv1.eq (L0 : T_runs_Checkv1_L1) (L1 : T_runs_Checkv1_L3) : ∀ v k, exF Tryz.f48 runs_Checkv1.p [] [] [⟨1, runs_Checkv1_L1.p, runs_Checkv1_L1.g L0⟩, ⟨3, runs_Checkv1_L3.p, runs_Checkv1_L3.g L1⟩] v k = runs_Checkv1.g (runs_Checkv1.body L0 L1) v k := fun v k => by kernel_rfl
theorem runs_Checkv1.ok : okF 1 runs_Checkv1.p (runs_Checkv1.g runs_Checkv1) := fn2 (runs_Checkv1.eq (runs_Checkv1_L1 ROUNDS) (runs_Checkv1_L3 ROUNDS)) Tryz.func48 (by kernel_rfl) .nil [1, 3] (by kernel_rfl) (.cons runs_Checkv1_L1.ok (.cons runs_Checkv1_L3.ok .nil))
/-- function 47: sheerleg/image.Check$5 -/
abbrev T_image_Checkfn5v1 : Type := Int → (Int → Int → Option Bool) → Option Bool
noncomputable def image_Checkfn5v1.body (runs_Checkv1 : T_runs_Checkv1) : T_image_Checkfn5v1 := fun n1758 k1 =>
  (runs_Checkv1 (0 : Int)
  (fun n1765 => (k1 n1765 n1758)))
noncomputable def image_Checkfn5v1 : T_image_Checkfn5v1 := image_Checkfn5v1.body runs_Checkv1
def image_Checkfn5v1.p : FPat := fp 47 (ps (pq [0, 0] 0 0) pz) (pl (po [0, 0] 40 5 (em (pl (pa (ps (pk 0) (ps (pk 0) (ps (pk 0) (ps (pk 0) (pl (pd (.int .i64)) pz)))))) pz))) pz)
def image_Checkfn5v1.g (F : T_image_Checkfn5v1) (v : image_Checkfn5v1.p.T) (k : KR) : Option Bool := F v.2.1.1.1 (fun y0 y1 => k (.d ⟨(.int .i64), y0⟩) [([0, 0], ⟨40, 5, (.mix [(.agg [.nils, .nils, .nils, .nils, (.d ⟨(.int .i64), y1⟩)])])⟩)])
theorem image_Checkfn5v1.eq (F0 : T_runs_Checkv1) : ∀ v k, exF Tryz.f47 image_Checkfn5v1.p [⟨runs_Checkv1.p, runs_Checkv1.g F0⟩] [] [] v k = image_Checkfn5v1.g (image_Checkfn5v1.body F0) v k := fun v k => by kernel_rfl
theorem image_Checkfn5v1.ok : okF 2 image_Checkfn5v1.p (image_Checkfn5v1.g image_Checkfn5v1) := fn2 (image_Checkfn5v1.eq runs_Checkv1) Tryz.func47 (by kernel_rfl) (.cons runs_Checkv1.ok .nil) [] (by kernel_rfl) .nil
/-- function 56: the loop in block 0 -/
abbrev T_slices_IndexFunc_api_Fn_api_Fnv3_L0 : Type := Int → Int → Int → (Int → Option Bool) → Option Bool
noncomputable def slices_IndexFunc_api_Fn_api_Fnv3_L0.body (slices_IndexFunc_api_Fn_api_Fnv3_L0 : T_slices_IndexFunc_api_Fn_api_Fnv3_L0) : T_slices_IndexFunc_api_Fn_api_Fnv3_L0 := fun n1773 n1774 n1775 k1 =>
  (cond_ (decide (n1774 < n1773)) none (k1 n1775))
noncomputable def slices_IndexFunc_api_Fn_api_Fnv3_L0 : Nat → T_slices_IndexFunc_api_Fn_api_Fnv3_L0
  | 0 => fun _ _ _ _ => none
  | n + 1 => slices_IndexFunc_api_Fn_api_Fnv3_L0.body (slices_IndexFunc_api_Fn_api_Fnv3_L0 n)
def slices_IndexFunc_api_Fn_api_Fnv3_L0.p : LPat := lp 2 19 [0, 1, 7, 8] (ps (pk 0) (pl (pf 50 pz (ps (pq [0, 0] 0 0) pz)) (pl (pd (.int .i64)) (pl (pd (.int .i64)) pz)))) (pl (po [0, 0] 40 5 (em (pl (pa (ps (pk 0) (ps (pk 0) (ps (pk 0) (ps (pk 0) (pl (pd (.int .i64)) pz)))))) pz))) pz)
def slices_IndexFunc_api_Fn_api_Fnv3_L0.g (F : T_slices_IndexFunc_api_Fn_api_Fnv3_L0) (v : slices_IndexFunc_api_Fn_api_Fnv3_L0.p.T) (k : KE) : Option Bool := F v.1.2.1 v.1.2.2.1 v.2.1.1.1 (fun y0 => k (.exit 0) ⟨fillS 19 [] [], [([0, 0], ⟨40, 5, (.mix [(.agg [.nils, .nils, .nils, .nils, (.d ⟨(.int .i64), y0⟩)])])⟩)], 2⟩)
theorem slices_IndexFunc_api_Fn_api_Fnv3_L0.step (S : T_slices_IndexFunc_api_Fn_api_Fnv3_L0) : ∀ v k, exR 56 Tryz.f56 0 slices_IndexFunc_api_Fn_api_Fnv3_L0.p [] [] [] (slices_IndexFunc_api_Fn_api_Fnv3_L0.g S) v k = slices_IndexFunc_api_Fn_api_Fnv3_L0.g (slices_IndexFunc_api_Fn_api_Fnv3_L0.body S) v k := fun v k => by kernel_rfl
theorem slices_IndexFunc_api_Fn_api_Fnv3_L0.ok : okL 56 Tryz.f56 0 0 slices_IndexFunc_api_Fn_api_Fnv3_L0.p (slices_IndexFunc_api_Fn_api_Fnv3_L0.g (slices_IndexFunc_api_Fn_api_Fnv3_L0 ROUNDS)) := loop2 (G := fun n => slices_IndexFunc_api_Fn_api_Fnv3_L0.g (slices_IndexFunc_api_Fn_api_Fnv3_L0 n)) (fun n => slices_IndexFunc_api_Fn_api_Fnv3_L0.step (slices_IndexFunc_api_Fn_api_Fnv3_L0 n)) .nil [] (by kernel_rfl) .nil (fun _ _ => rfl)
/-- function 56: slices.IndexFunc[[]sheerleg/api.Fn,sheerleg/api.Fn] -/
abbrev T_slices_IndexFunc_api_Fn_api_Fnv3 : Type := Int → (Int → Int → Option Bool) → Option Bool
noncomputable def slices_IndexFunc_api_Fn_api_Fnv3.body (slices_IndexFunc_api_Fn_api_Fnv3_L0 : T_slices_IndexFunc_api_Fn_api_Fnv3_L0) : T_slices_IndexFunc_api_Fn_api_Fnv3 := fun n1772 k1 =>
  (slices_IndexFunc_api_Fn_api_Fnv3_L0 (0 : Int) (0 : Int) n1772
  (fun n1776 => (k1 (-1 : Int) n1776)))
noncomputable def slices_IndexFunc_api_Fn_api_Fnv3 : T_slices_IndexFunc_api_Fn_api_Fnv3 := slices_IndexFunc_api_Fn_api_Fnv3.body (slices_IndexFunc_api_Fn_api_Fnv3_L0 ROUNDS)
def slices_IndexFunc_api_Fn_api_Fnv3.p : FPat := fp 56 (ps (pk 0) (pl (pf 50 pz (ps (pq [0, 0] 0 0) pz)) pz)) (pl (po [0, 0] 40 5 (em (pl (pa (ps (pk 0) (ps (pk 0) (ps (pk 0) (ps (pk 0) (pl (pd (.int .i64)) pz)))))) pz))) pz)
def slices_IndexFunc_api_Fn_api_Fnv3.g (F : T_slices_IndexFunc_api_Fn_api_Fnv3) (v : slices_IndexFunc_api_Fn_api_Fnv3.p.T) (k : KR) : Option Bool := F v.2.1.1.1 (fun y0 y1 => k (.d ⟨(.int .i64), y0⟩) [([0, 0], ⟨40, 5, (.mix [(.agg [.nils, .nils, .nils, .nils, (.d ⟨(.int .i64), y1⟩)])])⟩)])
theorem slices_IndexFunc_api_Fn_api_Fnv3.eq (L0 : T_slices_IndexFunc_api_Fn_api_Fnv3_L0) : ∀ v k, exF Tryz.f56 slices_IndexFunc_api_Fn_api_Fnv3.p [] [] [⟨0, slices_IndexFunc_api_Fn_api_Fnv3_L0.p, slices_IndexFunc_api_Fn_api_Fnv3_L0.g L0⟩] v k = slices_IndexFunc_api_Fn_api_Fnv3.g (slices_IndexFunc_api_Fn_api_Fnv3.body L0) v k := fun v k => by kernel_rfl
theorem slices_IndexFunc_api_Fn_api_Fnv3.ok : okF 1 slices_IndexFunc_api_Fn_api_Fnv3.p (slices_IndexFunc_api_Fn_api_Fnv3.g slices_IndexFunc_api_Fn_api_Fnv3) := fn2 (slices_IndexFunc_api_Fn_api_Fnv3.eq (slices_IndexFunc_api_Fn_api_Fnv3_L0 ROUNDS)) Tryz.func56 (by kernel_rfl) .nil [0] (by kernel_rfl) (.cons slices_IndexFunc_api_Fn_api_Fnv3_L0.ok .nil)
/-- function 45: slices.ContainsFunc[[]sheerleg/api.Fn,sheerleg/api.Fn] -/
abbrev T_slices_ContainsFunc_api_Fn_api_Fnv3 : Type := Int → (Bool → Int → Option Bool) → Option Bool
noncomputable def slices_ContainsFunc_api_Fn_api_Fnv3.body (slices_IndexFunc_api_Fn_api_Fnv3 : T_slices_IndexFunc_api_Fn_api_Fnv3) : T_slices_ContainsFunc_api_Fn_api_Fnv3 := fun n1771 k1 =>
  (slices_IndexFunc_api_Fn_api_Fnv3 n1771
  (fun n1777 n1778 => (k1 (decide (n1777 ≥ (0 : Int))) n1778)))
noncomputable def slices_ContainsFunc_api_Fn_api_Fnv3 : T_slices_ContainsFunc_api_Fn_api_Fnv3 := slices_ContainsFunc_api_Fn_api_Fnv3.body slices_IndexFunc_api_Fn_api_Fnv3
def slices_ContainsFunc_api_Fn_api_Fnv3.p : FPat := fp 45 (ps (pk 0) (pl (pf 50 pz (ps (pq [0, 0] 0 0) pz)) pz)) (pl (po [0, 0] 40 5 (em (pl (pa (ps (pk 0) (ps (pk 0) (ps (pk 0) (ps (pk 0) (pl (pd (.int .i64)) pz)))))) pz))) pz)
def slices_ContainsFunc_api_Fn_api_Fnv3.g (F : T_slices_ContainsFunc_api_Fn_api_Fnv3) (v : slices_ContainsFunc_api_Fn_api_Fnv3.p.T) (k : KR) : Option Bool := F v.2.1.1.1 (fun y0 y1 => k (.d ⟨.bool, y0⟩) [([0, 0], ⟨40, 5, (.mix [(.agg [.nils, .nils, .nils, .nils, (.d ⟨(.int .i64), y1⟩)])])⟩)])
theorem slices_ContainsFunc_api_Fn_api_Fnv3.eq (F0 : T_slices_IndexFunc_api_Fn_api_Fnv3) : ∀ v k, exF Tryz.f45 slices_ContainsFunc_api_Fn_api_Fnv3.p [⟨slices_IndexFunc_api_Fn_api_Fnv3.p, slices_IndexFunc_api_Fn_api_Fnv3.g F0⟩] [] [] v k = slices_ContainsFunc_api_Fn_api_Fnv3.g (slices_ContainsFunc_api_Fn_api_Fnv3.body F0) v k := fun v k => by kernel_rfl
theorem slices_ContainsFunc_api_Fn_api_Fnv3.ok : okF 2 slices_ContainsFunc_api_Fn_api_Fnv3.p (slices_ContainsFunc_api_Fn_api_Fnv3.g slices_ContainsFunc_api_Fn_api_Fnv3) := fn2 (slices_ContainsFunc_api_Fn_api_Fnv3.eq slices_IndexFunc_api_Fn_api_Fnv3) Tryz.func45 (by kernel_rfl) (.cons slices_IndexFunc_api_Fn_api_Fnv3.ok .nil) [] (by kernel_rfl) .nil
/-- function 49: sheerleg/image.Check$6 -/
abbrev T_image_Checkfn6v1 : Type := Int → (Bool → Int → Option Bool) → Option Bool
noncomputable def image_Checkfn6v1.body (slices_ContainsFunc_api_Fn_api_Fnv3 : T_slices_ContainsFunc_api_Fn_api_Fnv3) : T_image_Checkfn6v1 := fun n1770 k1 =>
  (slices_ContainsFunc_api_Fn_api_Fnv3 n1770
  (fun b1779 n1780 => (k1 (! b1779) n1780)))
noncomputable def image_Checkfn6v1 : T_image_Checkfn6v1 := image_Checkfn6v1.body slices_ContainsFunc_api_Fn_api_Fnv3
def image_Checkfn6v1.p : FPat := fp 49 (ps (pq [0, 0] 0 0) pz) (pl (po [0, 0] 40 5 (em (pl (pa (ps (pk 0) (ps (pk 0) (ps (pk 0) (ps (pk 0) (pl (pd (.int .i64)) pz)))))) pz))) pz)
def image_Checkfn6v1.g (F : T_image_Checkfn6v1) (v : image_Checkfn6v1.p.T) (k : KR) : Option Bool := F v.2.1.1.1 (fun y0 y1 => k (.d ⟨.bool, y0⟩) [([0, 0], ⟨40, 5, (.mix [(.agg [.nils, .nils, .nils, .nils, (.d ⟨(.int .i64), y1⟩)])])⟩)])
theorem image_Checkfn6v1.eq (F0 : T_slices_ContainsFunc_api_Fn_api_Fnv3) : ∀ v k, exF Tryz.f49 image_Checkfn6v1.p [⟨slices_ContainsFunc_api_Fn_api_Fnv3.p, slices_ContainsFunc_api_Fn_api_Fnv3.g F0⟩] [] [] v k = image_Checkfn6v1.g (image_Checkfn6v1.body F0) v k := fun v k => by kernel_rfl
theorem image_Checkfn6v1.ok : okF 3 image_Checkfn6v1.p (image_Checkfn6v1.g image_Checkfn6v1) := fn2 (image_Checkfn6v1.eq slices_ContainsFunc_api_Fn_api_Fnv3) Tryz.func49 (by kernel_rfl) (.cons slices_ContainsFunc_api_Fn_api_Fnv3.ok .nil) [] (by kernel_rfl) .nil
/-- function 82: sheerleg/image.look$1 -/
abbrev T_image_lookfn1v9 : Type := Int → Int → (Int → Int → Int → Option Bool) → Option Bool
noncomputable def image_lookfn1v9.body (image_Checkfn6v1 : T_image_Checkfn6v1) : T_image_lookfn1v9 := fun n1768 n1769 k1 =>
  (image_Checkfn6v1 n1768
  (fun b1781 n1782 => (cond_ b1781 (k1 n1769 n1782 n1769) (k1 (0 : Int) n1782 n1769))))
noncomputable def image_lookfn1v9 : T_image_lookfn1v9 := image_lookfn1v9.body image_Checkfn6v1
def image_lookfn1v9.p : FPat := fp 82 (ps (pq [0, 0] 0 0) (ps (pq [0, 2] 0 0) pz)) (pl (po [0, 0] 34 1 (em (pl (pf 49 pz (ps (pq [0, 1] 0 0) pz)) pz))) (pl (po [0, 1] 40 5 (em (pl (pa (ps (pk 0) (ps (pk 0) (ps (pk 0) (ps (pk 0) (pl (pd (.int .i64)) pz)))))) pz))) (pl (po [0, 2] 43 1 (es (.int .i64) (pl eh pz))) pz)))
def image_lookfn1v9.g (F : T_image_lookfn1v9) (v : image_lookfn1v9.p.T) (k : KR) : Option Bool := F v.2.2.1.1.1 v.2.2.2.1.1 (fun y0 y1 y2 => k (.d ⟨(.int .i64), y0⟩) [([0, 0], ⟨34, 1, (.mix [(.fn (.func 49) [] [(.ptr [0, 1] 0 0)])])⟩), ([0, 1], ⟨40, 5, (.mix [(.agg [.nils, .nils, .nils, .nils, (.d ⟨(.int .i64), y1⟩)])])⟩), ([0, 2], ⟨43, 1, (.data (.int .i64) [y2])⟩)])
theorem image_lookfn1v9.eq (F0 : T_image_Checkfn6v1) : ∀ v k, exF Tryz.f82 image_lookfn1v9.p [⟨image_Checkfn6v1.p, image_Checkfn6v1.g F0⟩] [] [] v k = image_lookfn1v9.g (image_lookfn1v9.body F0) v k := fun v k => by kernel_rfl
theorem image_lookfn1v9.ok : okF 4 image_lookfn1v9.p (image_lookfn1v9.g image_lookfn1v9) := fn2 (image_lookfn1v9.eq image_Checkfn6v1) Tryz.func82 (by kernel_rfl) (.cons image_Checkfn6v1.ok .nil) [] (by kernel_rfl) .nil
/-- function 38: the loop in block 0 -/
abbrev T_image_allv1_L0 : Type := Int → Int → Int → Int → Int → Int → Int → Int → (Int → Int → Int → Int → Int → Int → Int → Option Bool) → (Int → Int → Int → Int → Int → Int → Option Bool) → Option Bool
noncomputable def image_allv1_L0.body (image_allv1_L0 : T_image_allv1_L0) (image_lookfn1v5 : T_image_lookfn1v5) (image_lookfn1v6 : T_image_lookfn1v6) (image_lookfn1v7 : T_image_lookfn1v7) (image_lookfn1v8 : T_image_lookfn1v8) (image_Checkfn5v1 : T_image_Checkfn5v1) (image_lookfn1v9 : T_image_lookfn1v9) : T_image_allv1_L0 := fun n1698 n1699 n1700 n1701 n1702 n1703 n1704 n1705 k1 k2 =>
  (cond_ (decide (n1699 < n1698)) (cond_ (n1699 == (0 : Int)) (image_lookfn1v5 n1700 n1701
  (fun n1711 n1712 n1713 => (cond_ (n1711 != (0 : Int)) (k1 n1711 n1712 n1713 n1702 n1703 n1704 n1705) (image_allv1_L0 n1698 (IntKind.wrap .i64 (n1699 + (1 : Int))) n1712 n1713 n1702 n1703 n1704 n1705 k1 k2)))) (cond_ (n1699 == (1 : Int)) (image_lookfn1v6 n1700 n1702
  (fun n1719 n1720 n1721 => (cond_ (n1719 != (0 : Int)) (k1 n1719 n1720 n1701 n1721 n1703 n1704 n1705) (image_allv1_L0 n1698 (IntKind.wrap .i64 (n1699 + (1 : Int))) n1720 n1701 n1721 n1703 n1704 n1705 k1 k2)))) (cond_ (n1699 == (2 : Int)) (image_lookfn1v7 n1700 n1703
  (fun n1735 n1736 n1737 => (cond_ (n1735 != (0 : Int)) (k1 n1735 n1736 n1701 n1702 n1737 n1704 n1705) (image_allv1_L0 n1698 (IntKind.wrap .i64 (n1699 + (1 : Int))) n1736 n1701 n1702 n1737 n1704 n1705 k1 k2)))) (cond_ (n1699 == (3 : Int)) (image_lookfn1v8 n1700 n1704
  (fun n1755 n1756 n1757 => (cond_ (n1755 != (0 : Int)) (k1 n1755 n1756 n1701 n1702 n1703 n1757 n1705) (image_allv1_L0 n1698 (IntKind.wrap .i64 (n1699 + (1 : Int))) n1756 n1701 n1702 n1703 n1757 n1705 k1 k2)))) (cond_ (n1699 == (4 : Int)) (image_Checkfn5v1 n1700
  (fun n1766 n1767 => (cond_ (n1766 != (0 : Int)) (k1 n1766 n1767 n1701 n1702 n1703 n1704 n1705) (image_allv1_L0 n1698 (IntKind.wrap .i64 (n1699 + (1 : Int))) n1767 n1701 n1702 n1703 n1704 n1705 k1 k2)))) (cond_ (n1699 == (5 : Int)) (image_lookfn1v9 n1700 n1705
  (fun n1783 n1784 n1785 => (cond_ (n1783 != (0 : Int)) (k1 n1783 n1784 n1701 n1702 n1703 n1704 n1785) (image_allv1_L0 n1698 (IntKind.wrap .i64 (n1699 + (1 : Int))) n1784 n1701 n1702 n1703 n1704 n1785 k1 k2)))) none)))))) (k2 n1700 n1701 n1702 n1703 n1704 n1705))
noncomputable def image_allv1_L0 : Nat → T_image_allv1_L0
  | 0 => fun _ _ _ _ _ _ _ _ _ _ => none
  | n + 1 => image_allv1_L0.body (image_allv1_L0 n) image_lookfn1v5 image_lookfn1v6 image_lookfn1v7 image_lookfn1v8 image_Checkfn5v1 image_lookfn1v9
def image_allv1_L0.p : LPat := lp 2 18 [6, 7, 8] (ps (pr [0, 0]) (pl (pd (.int .i64)) (pl (pd (.int .i64)) pz))) (pl (po [0, 0] 72 1 (em (pl (pf 82 pz (ps (pq [0, 1] 0 0) (ps (pq [0, 3] 0 0) pz))) (pl (pf 82 pz (ps (pq [0, 4] 0 0) (ps (pq [0, 5] 0 0) pz))) (pl (pf 82 pz (ps (pq [0, 6] 0 0) (ps (pq [0, 7] 0 0) pz))) (pl (pf 82 pz (ps (pq [0, 8] 0 0) (ps (pq [0, 9] 0 0) pz))) (pl (pf 47 pz (ps (pq [0, 2] 0 0) pz)) (pl (pf 82 pz (ps (pq [0, 10] 0 0) (ps (pq [0, 11] 0 0) pz))) pz)))))))) (pl (po [0, 1] 34 1 (em (pl (pf 40 pz (ps (pq [0, 2] 0 0) pz)) pz))) (pl (po [0, 2] 40 5 (em (pl (pa (ps (pk 0) (ps (pk 0) (ps (pk 0) (ps (pk 0) (pl (pd (.int .i64)) pz)))))) pz))) (pl (po [0, 3] 43 1 (es (.int .i64) (pl eh pz))) (pl (po [0, 4] 34 1 (em (pl (pf 41 pz (ps (pq [0, 2] 0 0) pz)) pz))) (pl (po [0, 5] 43 1 (es (.int .i64) (pl eh pz))) (pl (po [0, 6] 34 1 (em (pl (pf 42 pz (ps (pq [0, 2] 0 0) pz)) pz))) (pl (po [0, 7] 43 1 (es (.int .i64) (pl eh pz))) (pl (po [0, 8] 34 1 (em (pl (pf 44 pz (ps (pq [0, 2] 0 0) pz)) pz))) (pl (po [0, 9] 43 1 (es (.int .i64) (pl eh pz))) (pl (po [0, 10] 34 1 (em (pl (pf 49 pz (ps (pq [0, 2] 0 0) pz)) pz))) (pl (po [0, 11] 43 1 (es (.int .i64) (pl eh pz))) pz))))))))))))
def image_allv1_L0.g (F : T_image_allv1_L0) (v : image_allv1_L0.p.T) (k : KE) : Option Bool := F v.1.1 v.1.2.1 v.2.2.2.1.1.1 v.2.2.2.2.1.1 v.2.2.2.2.2.2.1.1 v.2.2.2.2.2.2.2.2.1.1 v.2.2.2.2.2.2.2.2.2.2.1.1 v.2.2.2.2.2.2.2.2.2.2.2.2.1.1 (fun y0 y1 y2 y3 y4 y5 y6 => k .ret ⟨fillS 18 [2] [(.d ⟨(.int .i64), y0⟩)], [([0, 0], ⟨72, 1, (.mix [(.fn (.func 82) [] [(.ptr [0, 1] 0 0), (.ptr [0, 3] 0 0)]), (.fn (.func 82) [] [(.ptr [0, 4] 0 0), (.ptr [0, 5] 0 0)]), (.fn (.func 82) [] [(.ptr [0, 6] 0 0), (.ptr [0, 7] 0 0)]), (.fn (.func 82) [] [(.ptr [0, 8] 0 0), (.ptr [0, 9] 0 0)]), (.fn (.func 47) [] [(.ptr [0, 2] 0 0)]), (.fn (.func 82) [] [(.ptr [0, 10] 0 0), (.ptr [0, 11] 0 0)])])⟩), ([0, 1], ⟨34, 1, (.mix [(.fn (.func 40) [] [(.ptr [0, 2] 0 0)])])⟩), ([0, 2], ⟨40, 5, (.mix [(.agg [.nils, .nils, .nils, .nils, (.d ⟨(.int .i64), y1⟩)])])⟩), ([0, 3], ⟨43, 1, (.data (.int .i64) [y2])⟩), ([0, 4], ⟨34, 1, (.mix [(.fn (.func 41) [] [(.ptr [0, 2] 0 0)])])⟩), ([0, 5], ⟨43, 1, (.data (.int .i64) [y3])⟩), ([0, 6], ⟨34, 1, (.mix [(.fn (.func 42) [] [(.ptr [0, 2] 0 0)])])⟩), ([0, 7], ⟨43, 1, (.data (.int .i64) [y4])⟩), ([0, 8], ⟨34, 1, (.mix [(.fn (.func 44) [] [(.ptr [0, 2] 0 0)])])⟩), ([0, 9], ⟨43, 1, (.data (.int .i64) [y5])⟩), ([0, 10], ⟨34, 1, (.mix [(.fn (.func 49) [] [(.ptr [0, 2] 0 0)])])⟩), ([0, 11], ⟨43, 1, (.data (.int .i64) [y6])⟩)], 2⟩) (fun y0 y1 y2 y3 y4 y5 => k (.exit 0) ⟨fillS 18 [] [], [([0, 0], ⟨72, 1, (.mix [(.fn (.func 82) [] [(.ptr [0, 1] 0 0), (.ptr [0, 3] 0 0)]), (.fn (.func 82) [] [(.ptr [0, 4] 0 0), (.ptr [0, 5] 0 0)]), (.fn (.func 82) [] [(.ptr [0, 6] 0 0), (.ptr [0, 7] 0 0)]), (.fn (.func 82) [] [(.ptr [0, 8] 0 0), (.ptr [0, 9] 0 0)]), (.fn (.func 47) [] [(.ptr [0, 2] 0 0)]), (.fn (.func 82) [] [(.ptr [0, 10] 0 0), (.ptr [0, 11] 0 0)])])⟩), ([0, 1], ⟨34, 1, (.mix [(.fn (.func 40) [] [(.ptr [0, 2] 0 0)])])⟩), ([0, 2], ⟨40, 5, (.mix [(.agg [.nils, .nils, .nils, .nils, (.d ⟨(.int .i64), y0⟩)])])⟩), ([0, 3], ⟨43, 1, (.data (.int .i64) [y1])⟩), ([0, 4], ⟨34, 1, (.mix [(.fn (.func 41) [] [(.ptr [0, 2] 0 0)])])⟩), ([0, 5], ⟨43, 1, (.data (.int .i64) [y2])⟩), ([0, 6], ⟨34, 1, (.mix [(.fn (.func 42) [] [(.ptr [0, 2] 0 0)])])⟩), ([0, 7], ⟨43, 1, (.data (.int .i64) [y3])⟩), ([0, 8], ⟨34, 1, (.mix [(.fn (.func 44) [] [(.ptr [0, 2] 0 0)])])⟩), ([0, 9], ⟨43, 1, (.data (.int .i64) [y4])⟩), ([0, 10], ⟨34, 1, (.mix [(.fn (.func 49) [] [(.ptr [0, 2] 0 0)])])⟩), ([0, 11], ⟨43, 1, (.data (.int .i64) [y5])⟩)], 2⟩)
theorem image_allv1_L0.step (S : T_image_allv1_L0) (F0 : T_image_lookfn1v5) (F1 : T_image_lookfn1v6) (F2 : T_image_lookfn1v7) (F3 : T_image_lookfn1v8) (F4 : T_image_Checkfn5v1) (F5 : T_image_lookfn1v9) : ∀ v k, exR 38 Tryz.f38 0 image_allv1_L0.p [⟨image_lookfn1v5.p, image_lookfn1v5.g F0⟩, ⟨image_lookfn1v6.p, image_lookfn1v6.g F1⟩, ⟨image_lookfn1v7.p, image_lookfn1v7.g F2⟩, ⟨image_lookfn1v8.p, image_lookfn1v8.g F3⟩, ⟨image_Checkfn5v1.p, image_Checkfn5v1.g F4⟩, ⟨image_lookfn1v9.p, image_lookfn1v9.g F5⟩] [] [] (image_allv1_L0.g S) v k = image_allv1_L0.g (image_allv1_L0.body S F0 F1 F2 F3 F4 F5) v k := fun v k => by kernel_rfl
theorem image_allv1_L0.ok : okL 38 Tryz.f38 4 0 image_allv1_L0.p (image_allv1_L0.g (image_allv1_L0 ROUNDS)) := loop2 (G := fun n => image_allv1_L0.g (image_allv1_L0 n)) (fun n => image_allv1_L0.step (image_allv1_L0 n) image_lookfn1v5 image_lookfn1v6 image_lookfn1v7 image_lookfn1v8 image_Checkfn5v1 image_lookfn1v9) (.cons image_lookfn1v5.ok (.cons image_lookfn1v6.ok (.cons image_lookfn1v7.ok (.cons image_lookfn1v8.ok (.cons image_Checkfn5v1.ok (.cons image_lookfn1v9.ok .nil)))))) [] (by kernel_rfl) .nil (fun _ _ => rfl)
/-- function 38: sheerleg/image.all -/
abbrev T_image_allv1 : Type := Int → Int → Int → Int → Int → Int → (Int → Int → Int → Int → Int → Int → Int → Option Bool) → Option Bool
noncomputable def image_allv1.body (image_allv1_L0 : T_image_allv1_L0) : T_image_allv1 := fun n1692 n1693 n1694 n1695 n1696 n1697 k1 =>
  (image_allv1_L0 (6 : Int) (0 : Int) n1692 n1693 n1694 n1695 n1696 n1697
  (fun n1786 n1787 n1788 n1789 n1790 n1791 n1792 => (k1 n1786 n1787 n1788 n1789 n1790 n1791 n1792))
  (fun n1793 n1794 n1795 n1796 n1797 n1798 => (k1 (0 : Int) n1793 n1794 n1795 n1796 n1797 n1798)))
noncomputable def image_allv1 : T_image_allv1 := image_allv1.body (image_allv1_L0 ROUNDS)
def image_allv1.p : FPat := fp 38 (ps (pr [0, 0]) pz) (pl (po [0, 0] 72 1 (em (pl (pf 82 pz (ps (pq [0, 1] 0 0) (ps (pq [0, 3] 0 0) pz))) (pl (pf 82 pz (ps (pq [0, 4] 0 0) (ps (pq [0, 5] 0 0) pz))) (pl (pf 82 pz (ps (pq [0, 6] 0 0) (ps (pq [0, 7] 0 0) pz))) (pl (pf 82 pz (ps (pq [0, 8] 0 0) (ps (pq [0, 9] 0 0) pz))) (pl (pf 47 pz (ps (pq [0, 2] 0 0) pz)) (pl (pf 82 pz (ps (pq [0, 10] 0 0) (ps (pq [0, 11] 0 0) pz))) pz)))))))) (pl (po [0, 1] 34 1 (em (pl (pf 40 pz (ps (pq [0, 2] 0 0) pz)) pz))) (pl (po [0, 2] 40 5 (em (pl (pa (ps (pk 0) (ps (pk 0) (ps (pk 0) (ps (pk 0) (pl (pd (.int .i64)) pz)))))) pz))) (pl (po [0, 3] 43 1 (es (.int .i64) (pl eh pz))) (pl (po [0, 4] 34 1 (em (pl (pf 41 pz (ps (pq [0, 2] 0 0) pz)) pz))) (pl (po [0, 5] 43 1 (es (.int .i64) (pl eh pz))) (pl (po [0, 6] 34 1 (em (pl (pf 42 pz (ps (pq [0, 2] 0 0) pz)) pz))) (pl (po [0, 7] 43 1 (es (.int .i64) (pl eh pz))) (pl (po [0, 8] 34 1 (em (pl (pf 44 pz (ps (pq [0, 2] 0 0) pz)) pz))) (pl (po [0, 9] 43 1 (es (.int .i64) (pl eh pz))) (pl (po [0, 10] 34 1 (em (pl (pf 49 pz (ps (pq [0, 2] 0 0) pz)) pz))) (pl (po [0, 11] 43 1 (es (.int .i64) (pl eh pz))) pz))))))))))))
def image_allv1.g (F : T_image_allv1) (v : image_allv1.p.T) (k : KR) : Option Bool := F v.2.2.2.1.1.1 v.2.2.2.2.1.1 v.2.2.2.2.2.2.1.1 v.2.2.2.2.2.2.2.2.1.1 v.2.2.2.2.2.2.2.2.2.2.1.1 v.2.2.2.2.2.2.2.2.2.2.2.2.1.1 (fun y0 y1 y2 y3 y4 y5 y6 => k (.d ⟨(.int .i64), y0⟩) [([0, 0], ⟨72, 1, (.mix [(.fn (.func 82) [] [(.ptr [0, 1] 0 0), (.ptr [0, 3] 0 0)]), (.fn (.func 82) [] [(.ptr [0, 4] 0 0), (.ptr [0, 5] 0 0)]), (.fn (.func 82) [] [(.ptr [0, 6] 0 0), (.ptr [0, 7] 0 0)]), (.fn (.func 82) [] [(.ptr [0, 8] 0 0), (.ptr [0, 9] 0 0)]), (.fn (.func 47) [] [(.ptr [0, 2] 0 0)]), (.fn (.func 82) [] [(.ptr [0, 10] 0 0), (.ptr [0, 11] 0 0)])])⟩), ([0, 1], ⟨34, 1, (.mix [(.fn (.func 40) [] [(.ptr [0, 2] 0 0)])])⟩), ([0, 2], ⟨40, 5, (.mix [(.agg [.nils, .nils, .nils, .nils, (.d ⟨(.int .i64), y1⟩)])])⟩), ([0, 3], ⟨43, 1, (.data (.int .i64) [y2])⟩), ([0, 4], ⟨34, 1, (.mix [(.fn (.func 41) [] [(.ptr [0, 2] 0 0)])])⟩), ([0, 5], ⟨43, 1, (.data (.int .i64) [y3])⟩), ([0, 6], ⟨34, 1, (.mix [(.fn (.func 42) [] [(.ptr [0, 2] 0 0)])])⟩), ([0, 7], ⟨43, 1, (.data (.int .i64) [y4])⟩), ([0, 8], ⟨34, 1, (.mix [(.fn (.func 44) [] [(.ptr [0, 2] 0 0)])])⟩), ([0, 9], ⟨43, 1, (.data (.int .i64) [y5])⟩), ([0, 10], ⟨34, 1, (.mix [(.fn (.func 49) [] [(.ptr [0, 2] 0 0)])])⟩), ([0, 11], ⟨43, 1, (.data (.int .i64) [y6])⟩)])
theorem image_allv1.eq (L0 : T_image_allv1_L0) : ∀ v k, exF Tryz.f38 image_allv1.p [] [] [⟨0, image_allv1_L0.p, image_allv1_L0.g L0⟩] v k = image_allv1.g (image_allv1.body L0) v k := fun v k => by kernel_rfl
theorem image_allv1.ok : okF 5 image_allv1.p (image_allv1.g image_allv1) := fn2 (image_allv1.eq (image_allv1_L0 ROUNDS)) Tryz.func38 (by kernel_rfl) .nil [0] (by kernel_rfl) (.cons image_allv1_L0.ok .nil)
/-- function 10: sheerleg/image.Check -/
abbrev T_image_Checkv1 : Type := Int → (Int → Option Bool) → Option Bool
noncomputable def image_Checkv1.body (image_lookv5 : T_image_lookv5) (image_lookv6 : T_image_lookv6) (image_lookv7 : T_image_lookv7) (image_lookv8 : T_image_lookv8) (image_lookv9 : T_image_lookv9) (image_allv1 : T_image_allv1) : T_image_Checkv1 := fun n1671 k1 =>
  (image_lookv5 (19 : Int) n1671
  (fun n1674 n1675 => (image_lookv6 (3 : Int) n1674
  (fun n1678 n1679 => (image_lookv7 (9 : Int) n1678
  (fun n1682 n1683 => (image_lookv8 (8 : Int) n1682
  (fun n1686 n1687 => (image_lookv9 (15 : Int) n1686
  (fun n1690 n1691 => (image_allv1 n1690 n1675 n1679 n1683 n1687 n1691
  (fun n1799 n1800 n1801 n1802 n1803 n1804 n1805 => (k1 n1799)))))))))))))
noncomputable def image_Checkv1 : T_image_Checkv1 := image_Checkv1.body image_lookv5 image_lookv6 image_lookv7 image_lookv8 image_lookv9 image_allv1
def image_Checkv1.p : FPat := fp 10 (pl (pa (ps (pk 0) (ps (pk 0) (ps (pk 0) (ps (pk 0) (pl (pd (.int .i64)) pz)))))) pz) pz
def image_Checkv1.g (F : T_image_Checkv1) (v : image_Checkv1.p.T) (k : KR) : Option Bool := F v.1.1.1 (fun y0 => k (.d ⟨(.int .i64), y0⟩) [])
theorem image_Checkv1.eq (F0 : T_image_lookv5) (F1 : T_image_lookv6) (F2 : T_image_lookv7) (F3 : T_image_lookv8) (F4 : T_image_lookv9) (F5 : T_image_allv1) : ∀ v k, exF Tryz.f10 image_Checkv1.p [⟨image_lookv5.p, image_lookv5.g F0⟩, ⟨image_lookv6.p, image_lookv6.g F1⟩, ⟨image_lookv7.p, image_lookv7.g F2⟩, ⟨image_lookv8.p, image_lookv8.g F3⟩, ⟨image_lookv9.p, image_lookv9.g F4⟩, ⟨image_allv1.p, image_allv1.g F5⟩] [] [] v k = image_Checkv1.g (image_Checkv1.body F0 F1 F2 F3 F4 F5) v k := fun v k => by kernel_rfl
theorem image_Checkv1.ok : okF 6 image_Checkv1.p (image_Checkv1.g image_Checkv1) := fn2 (image_Checkv1.eq image_lookv5 image_lookv6 image_lookv7 image_lookv8 image_lookv9 image_allv1) Tryz.func10 (by kernel_rfl) (.cons image_lookv5.ok (.cons image_lookv6.ok (.cons image_lookv7.ok (.cons image_lookv8.ok (.cons image_lookv9.ok (.cons image_allv1.ok .nil)))))) [] (by kernel_rfl) .nil
/-- function 85: sheerleg/runs.At$1 -/
abbrev T_runs_Atfn1 : Type := Tc3 → Int → (Bool → Int → Option Bool) → Option Bool
noncomputable def runs_Atfn1.body : T_runs_Atfn1 := fun t1821 n1822 k1 =>
  (k1 (decide (t1821.1 > n1822)) n1822)
noncomputable def runs_Atfn1 : T_runs_Atfn1 := runs_Atfn1.body
def runs_Atfn1.p : FPat := fp 85 (pl (pd Ty7) (ps (pq [0, 0] 0 0) pz)) (pl (po [0, 0] 3 1 (es (.int .i64) (pl eh pz))) pz)
def runs_Atfn1.g (F : T_runs_Atfn1) (v : runs_Atfn1.p.T) (k : KR) : Option Bool := F v.1.1 v.2.1.1 (fun y0 y1 => k (.d ⟨.bool, y0⟩) [([0, 0], ⟨3, 1, (.data (.int .i64) [y1])⟩)])
theorem runs_Atfn1.eq : ∀ v k, exF Tryz.f85 runs_Atfn1.p [] [] [] v k = runs_Atfn1.g (runs_Atfn1.body) v k := fun v k => by kernel_rfl
theorem runs_Atfn1.ok : okF 1 runs_Atfn1.p (runs_Atfn1.g runs_Atfn1) := fn2 (runs_Atfn1.eq) Tryz.func85 (by kernel_rfl) .nil [] (by kernel_rfl) .nil
/-- function 84: the loop in block 0 -/
abbrev T_slices_IndexFunc_api_Run_api_Run_L0 : Type := Tc7 → Int → Int → Int → (Int → Int → Option Bool) → (Int → Option Bool) → Option Bool
noncomputable def slices_IndexFunc_api_Run_api_Run_L0.body (slices_IndexFunc_api_Run_api_Run_L0 : T_slices_IndexFunc_api_Run_api_Run_L0) (runs_Atfn1 : T_runs_Atfn1) : T_slices_IndexFunc_api_Run_api_Run_L0 := fun ts1817 n1818 n1819 n1820 k1 k2 =>
  (cond_ (decide (n1819 < n1818)) (cond_ ((decide ((0 : Int) ≤ n1819)) && (decide (n1819 < (List.length ts1817 : Int)))) (runs_Atfn1 (List.getD ts1817 (Int.toNat n1819) (0, (0, (0, (false, (0, ())))))) n1820
  (fun b1823 n1824 => (cond_ b1823 (k1 n1819 n1824) (slices_IndexFunc_api_Run_api_Run_L0 ts1817 n1818 (IntKind.wrap .i64 (n1819 + (1 : Int))) n1824 k1 k2)))) none) (k2 n1820))
noncomputable def slices_IndexFunc_api_Run_api_Run_L0 : Nat → T_slices_IndexFunc_api_Run_api_Run_L0
  | 0 => fun _ _ _ _ _ _ => none
  | n + 1 => slices_IndexFunc_api_Run_api_Run_L0.body (slices_IndexFunc_api_Run_api_Run_L0 n) runs_Atfn1
def slices_IndexFunc_api_Run_api_Run_L0.p : LPat := lp 2 19 [0, 1, 7, 8] (pl (pb 1 127 Ty7) (pl (pf 85 pz (ps (pq [0, 0] 0 0) pz)) (pl (pd (.int .i64)) (pl (pd (.int .i64)) pz)))) (pl (po [0, 0] 3 1 (es (.int .i64) (pl eh pz))) pz)
def slices_IndexFunc_api_Run_api_Run_L0.g (F : T_slices_IndexFunc_api_Run_api_Run_L0) (v : slices_IndexFunc_api_Run_api_Run_L0.p.T) (k : KE) : Option Bool := F v.1.1 v.1.2.2.1 v.1.2.2.2.1 v.2.1.1 (fun y0 y1 => k .ret ⟨fillS 19 [4] [(.d ⟨(.int .i64), y0⟩)], [([0, 0], ⟨3, 1, (.data (.int .i64) [y1])⟩)], 2⟩) (fun y0 => k (.exit 0) ⟨fillS 19 [] [], [([0, 0], ⟨3, 1, (.data (.int .i64) [y0])⟩)], 2⟩)
theorem slices_IndexFunc_api_Run_api_Run_L0.step (S : T_slices_IndexFunc_api_Run_api_Run_L0) (F0 : T_runs_Atfn1) : ∀ v k, exR 84 Tryz.f84 0 slices_IndexFunc_api_Run_api_Run_L0.p [⟨runs_Atfn1.p, runs_Atfn1.g F0⟩] [] [] (slices_IndexFunc_api_Run_api_Run_L0.g S) v k = slices_IndexFunc_api_Run_api_Run_L0.g (slices_IndexFunc_api_Run_api_Run_L0.body S F0) v k := fun v k => by kernel_rfl
theorem slices_IndexFunc_api_Run_api_Run_L0.ok : okL 84 Tryz.f84 1 0 slices_IndexFunc_api_Run_api_Run_L0.p (slices_IndexFunc_api_Run_api_Run_L0.g (slices_IndexFunc_api_Run_api_Run_L0 ROUNDS)) := loop2 (G := fun n => slices_IndexFunc_api_Run_api_Run_L0.g (slices_IndexFunc_api_Run_api_Run_L0 n)) (fun n => slices_IndexFunc_api_Run_api_Run_L0.step (slices_IndexFunc_api_Run_api_Run_L0 n) runs_Atfn1) (.cons runs_Atfn1.ok .nil) [] (by kernel_rfl) .nil (fun _ _ => rfl)
/-- function 84: slices.IndexFunc[[]sheerleg/api.Run,sheerleg/api.Run] -/
abbrev T_slices_IndexFunc_api_Run_api_Run : Type := Tc7 → Int → (Int → Int → Option Bool) → Option Bool
noncomputable def slices_IndexFunc_api_Run_api_Run.body (slices_IndexFunc_api_Run_api_Run_L0 : T_slices_IndexFunc_api_Run_api_Run_L0) : T_slices_IndexFunc_api_Run_api_Run := fun ts1815 n1816 k1 =>
  (slices_IndexFunc_api_Run_api_Run_L0 ts1815 (List.length ts1815 : Int) (0 : Int) n1816
  (fun n1825 n1826 => (k1 n1825 n1826))
  (fun n1827 => (k1 (-1 : Int) n1827)))
noncomputable def slices_IndexFunc_api_Run_api_Run : T_slices_IndexFunc_api_Run_api_Run := slices_IndexFunc_api_Run_api_Run.body (slices_IndexFunc_api_Run_api_Run_L0 ROUNDS)
def slices_IndexFunc_api_Run_api_Run.p : FPat := fp 84 (pl (pb 1 127 Ty7) (pl (pf 85 pz (ps (pq [0, 0] 0 0) pz)) pz)) (pl (po [0, 0] 3 1 (es (.int .i64) (pl eh pz))) pz)
def slices_IndexFunc_api_Run_api_Run.g (F : T_slices_IndexFunc_api_Run_api_Run) (v : slices_IndexFunc_api_Run_api_Run.p.T) (k : KR) : Option Bool := F v.1.1 v.2.1.1 (fun y0 y1 => k (.d ⟨(.int .i64), y0⟩) [([0, 0], ⟨3, 1, (.data (.int .i64) [y1])⟩)])
theorem slices_IndexFunc_api_Run_api_Run.eq (L0 : T_slices_IndexFunc_api_Run_api_Run_L0) : ∀ v k, exF Tryz.f84 slices_IndexFunc_api_Run_api_Run.p [] [] [⟨0, slices_IndexFunc_api_Run_api_Run_L0.p, slices_IndexFunc_api_Run_api_Run_L0.g L0⟩] v k = slices_IndexFunc_api_Run_api_Run.g (slices_IndexFunc_api_Run_api_Run.body L0) v k := fun v k => by kernel_rfl
theorem slices_IndexFunc_api_Run_api_Run.ok : okF 2 slices_IndexFunc_api_Run_api_Run.p (slices_IndexFunc_api_Run_api_Run.g slices_IndexFunc_api_Run_api_Run) := fn2 (slices_IndexFunc_api_Run_api_Run.eq (slices_IndexFunc_api_Run_api_Run_L0 ROUNDS)) Tryz.func84 (by kernel_rfl) .nil [0] (by kernel_rfl) (.cons slices_IndexFunc_api_Run_api_Run_L0.ok .nil)
/-- function 54: sheerleg/runs.At -/
abbrev T_runs_At : Type := Tc7 → Int → (Tc0 → Bool → Option Bool) → Option Bool
noncomputable def runs_At.body (slices_IndexFunc_api_Run_api_Run : T_slices_IndexFunc_api_Run_api_Run) : T_runs_At := fun ts1813 n1814 k1 =>
  (slices_IndexFunc_api_Run_api_Run ts1813 n1814
  (fun n1828 n1829 => (cond_ (decide (n1828 < (0 : Int))) (cond_ ((List.length ts1813 : Int) == (0 : Int)) (k1 (0, (0, (false, (0, ())))) false) (cond_ ((decide ((0 : Int) ≤ (IntKind.wrap .i64 ((List.length ts1813 : Int) - (1 : Int))))) && (decide ((IntKind.wrap .i64 ((List.length ts1813 : Int) - (1 : Int))) < (List.length ts1813 : Int)))) (k1 ((List.getD ts1813 (Int.toNat (IntKind.wrap .i64 ((List.length ts1813 : Int) - (1 : Int)))) (0, (0, (0, (false, (0, ())))))).2.1, ((List.getD ts1813 (Int.toNat (IntKind.wrap .i64 ((List.length ts1813 : Int) - (1 : Int)))) (0, (0, (0, (false, (0, ())))))).2.2.1, ((List.getD ts1813 (Int.toNat (IntKind.wrap .i64 ((List.length ts1813 : Int) - (1 : Int)))) (0, (0, (0, (false, (0, ())))))).2.2.2.1, ((List.getD ts1813 (Int.toNat (IntKind.wrap .i64 ((List.length ts1813 : Int) - (1 : Int)))) (0, (0, (0, (false, (0, ())))))).2.2.2.2.1, ())))) true) none)) (cond_ (n1828 == (0 : Int)) (k1 (0, (0, (false, (0, ())))) false) (cond_ ((decide ((0 : Int) ≤ (IntKind.wrap .i64 (n1828 - (1 : Int))))) && (decide ((IntKind.wrap .i64 (n1828 - (1 : Int))) < (List.length ts1813 : Int)))) (k1 ((List.getD ts1813 (Int.toNat (IntKind.wrap .i64 (n1828 - (1 : Int)))) (0, (0, (0, (false, (0, ())))))).2.1, ((List.getD ts1813 (Int.toNat (IntKind.wrap .i64 (n1828 - (1 : Int)))) (0, (0, (0, (false, (0, ())))))).2.2.1, ((List.getD ts1813 (Int.toNat (IntKind.wrap .i64 (n1828 - (1 : Int)))) (0, (0, (0, (false, (0, ())))))).2.2.2.1, ((List.getD ts1813 (Int.toNat (IntKind.wrap .i64 (n1828 - (1 : Int)))) (0, (0, (0, (false, (0, ())))))).2.2.2.2.1, ())))) true) none)))))
noncomputable def runs_At : T_runs_At := runs_At.body slices_IndexFunc_api_Run_api_Run
def runs_At.p : FPat := fp 54 (pl (pb 1 127 Ty7) (pl (pd (.int .i64)) pz)) pz
def runs_At.g (F : T_runs_At) (v : runs_At.p.T) (k : KR) : Option Bool := F v.1.1 v.1.2.1 (fun y0 y1 => k (.tup [(.d ⟨Ty6, y0⟩), (.d ⟨.bool, y1⟩)]) [])
theorem runs_At.eq (F0 : T_slices_IndexFunc_api_Run_api_Run) : ∀ v k, exF Tryz.f54 runs_At.p [⟨slices_IndexFunc_api_Run_api_Run.p, slices_IndexFunc_api_Run_api_Run.g F0⟩] [] [] v k = runs_At.g (runs_At.body F0) v k := fun v k => by kernel_rfl
theorem runs_At.ok : okF 3 runs_At.p (runs_At.g runs_At) := fn2 (runs_At.eq slices_IndexFunc_api_Run_api_Run) Tryz.func54 (by kernel_rfl) (.cons slices_IndexFunc_api_Run_api_Run.ok .nil) [] (by kernel_rfl) .nil
/-- function 15: sheerleg/image.At -/
abbrev T_image_At : Type := Tc6 → (List Int) → Tc8 → Tc7 → Int → Int → (Tc0 → Option Bool) → Option Bool
noncomputable def image_At.body (runs_At : T_runs_At) : T_image_At := fun ts1807 ns1808 ts1809 ts1810 n1811 n1812 k1 =>
  (cond_ (! (decide (n1812 < (0 : Int)))) (cond_ (decide (n1812 ≥ (List.length ts1807 : Int))) (k1 (0, (0, (false, (0, ()))))) (runs_At ts1810 n1812
  (fun t1830 b1831 => (k1 t1830)))) (k1 (0, (0, (false, (0, ()))))))
noncomputable def image_At : T_image_At := image_At.body runs_At
def image_At.p : FPat := fp 15 (pl (pa (pl (pb 1 75 Ty8) (pl (pb 2 2 (.int .i64)) (pl (pb 3 78 Ty11) (pl (pb 4 127 Ty7) (pl (pd (.int .i64)) pz)))))) (pl (pd (.int .i64)) pz)) pz
def image_At.g (F : T_image_At) (v : image_At.p.T) (k : KR) : Option Bool := F v.1.1.1 v.1.1.2.1 v.1.1.2.2.1 v.1.1.2.2.2.1 v.1.1.2.2.2.2.1 v.1.2.1 (fun y0 => k (.d ⟨Ty6, y0⟩) [])
theorem image_At.eq (F0 : T_runs_At) : ∀ v k, exF Tryz.f15 image_At.p [⟨runs_At.p, runs_At.g F0⟩] [] [] v k = image_At.g (image_At.body F0) v k := fun v k => by kernel_rfl
theorem image_At.ok : okF 4 image_At.p (image_At.g image_At) := fn2 (image_At.eq runs_At) Tryz.func15 (by kernel_rfl) (.cons runs_At.ok .nil) [] (by kernel_rfl) .nil
/-- function 57: sheerleg/image.Fn$1 -/
abbrev T_image_Fnfn1 : Type := Tc5 → Int → (Bool → Int → Option Bool) → Option Bool
noncomputable def image_Fnfn1.body : T_image_Fnfn1 := fun t1845 n1846 k1 =>
  (cond_ (decide (t1845.2.2.1 ≤ n1846)) (k1 (decide (n1846 < t1845.2.2.2.2.1)) n1846) (k1 false n1846))
noncomputable def image_Fnfn1 : T_image_Fnfn1 := image_Fnfn1.body
def image_Fnfn1.p : FPat := fp 57 (pl (pd Ty11) (ps (pq [0, 0] 0 0) pz)) (pl (po [0, 0] 3 1 (es (.int .i64) (pl eh pz))) pz)
def image_Fnfn1.g (F : T_image_Fnfn1) (v : image_Fnfn1.p.T) (k : KR) : Option Bool := F v.1.1 v.2.1.1 (fun y0 y1 => k (.d ⟨.bool, y0⟩) [([0, 0], ⟨3, 1, (.data (.int .i64) [y1])⟩)])
theorem image_Fnfn1.eq : ∀ v k, exF Tryz.f57 image_Fnfn1.p [] [] [] v k = image_Fnfn1.g (image_Fnfn1.body) v k := fun v k => by kernel_rfl
theorem image_Fnfn1.ok : okF 1 image_Fnfn1.p (image_Fnfn1.g image_Fnfn1) := fn2 (image_Fnfn1.eq) Tryz.func57 (by kernel_rfl) .nil [] (by kernel_rfl) .nil
/-- function 56: the loop in block 0 -/
abbrev T_slices_IndexFunc_api_Fn_api_Fnv4_L0 : Type := Tc8 → Int → Int → Int → (Int → Int → Option Bool) → (Int → Option Bool) → Option Bool
noncomputable def slices_IndexFunc_api_Fn_api_Fnv4_L0.body (slices_IndexFunc_api_Fn_api_Fnv4_L0 : T_slices_IndexFunc_api_Fn_api_Fnv4_L0) (image_Fnfn1 : T_image_Fnfn1) : T_slices_IndexFunc_api_Fn_api_Fnv4_L0 := fun ts1841 n1842 n1843 n1844 k1 k2 =>
  (cond_ (decide (n1843 < n1842)) (cond_ ((decide ((0 : Int) ≤ n1843)) && (decide (n1843 < (List.length ts1841 : Int)))) (image_Fnfn1 (List.getD ts1841 (Int.toNat n1843) (0, (0, (0, (0, (0, (0, ()))))))) n1844
  (fun b1847 n1848 => (cond_ b1847 (k1 n1843 n1848) (slices_IndexFunc_api_Fn_api_Fnv4_L0 ts1841 n1842 (IntKind.wrap .i64 (n1843 + (1 : Int))) n1848 k1 k2)))) none) (k2 n1844))
noncomputable def slices_IndexFunc_api_Fn_api_Fnv4_L0 : Nat → T_slices_IndexFunc_api_Fn_api_Fnv4_L0
  | 0 => fun _ _ _ _ _ _ => none
  | n + 1 => slices_IndexFunc_api_Fn_api_Fnv4_L0.body (slices_IndexFunc_api_Fn_api_Fnv4_L0 n) image_Fnfn1
def slices_IndexFunc_api_Fn_api_Fnv4_L0.p : LPat := lp 2 19 [0, 1, 7, 8] (pl (pb 1 78 Ty11) (pl (pf 57 pz (ps (pq [0, 0] 0 0) pz)) (pl (pd (.int .i64)) (pl (pd (.int .i64)) pz)))) (pl (po [0, 0] 3 1 (es (.int .i64) (pl eh pz))) pz)
def slices_IndexFunc_api_Fn_api_Fnv4_L0.g (F : T_slices_IndexFunc_api_Fn_api_Fnv4_L0) (v : slices_IndexFunc_api_Fn_api_Fnv4_L0.p.T) (k : KE) : Option Bool := F v.1.1 v.1.2.2.1 v.1.2.2.2.1 v.2.1.1 (fun y0 y1 => k .ret ⟨fillS 19 [4] [(.d ⟨(.int .i64), y0⟩)], [([0, 0], ⟨3, 1, (.data (.int .i64) [y1])⟩)], 2⟩) (fun y0 => k (.exit 0) ⟨fillS 19 [] [], [([0, 0], ⟨3, 1, (.data (.int .i64) [y0])⟩)], 2⟩)
theorem slices_IndexFunc_api_Fn_api_Fnv4_L0.step (S : T_slices_IndexFunc_api_Fn_api_Fnv4_L0) (F0 : T_image_Fnfn1) : ∀ v k, exR 56 Tryz.f56 0 slices_IndexFunc_api_Fn_api_Fnv4_L0.p [⟨image_Fnfn1.p, image_Fnfn1.g F0⟩] [] [] (slices_IndexFunc_api_Fn_api_Fnv4_L0.g S) v k = slices_IndexFunc_api_Fn_api_Fnv4_L0.g (slices_IndexFunc_api_Fn_api_Fnv4_L0.body S F0) v k := fun v k => by kernel_rfl
theorem slices_IndexFunc_api_Fn_api_Fnv4_L0.ok : okL 56 Tryz.f56 1 0 slices_IndexFunc_api_Fn_api_Fnv4_L0.p (slices_IndexFunc_api_Fn_api_Fnv4_L0.g (slices_IndexFunc_api_Fn_api_Fnv4_L0 ROUNDS)) := loop2 (G := fun n => slices_IndexFunc_api_Fn_api_Fnv4_L0.g (slices_IndexFunc_api_Fn_api_Fnv4_L0 n)) (fun n => slices_IndexFunc_api_Fn_api_Fnv4_L0.step (slices_IndexFunc_api_Fn_api_Fnv4_L0 n) image_Fnfn1) (.cons image_Fnfn1.ok .nil) [] (by kernel_rfl) .nil (fun _ _ => rfl)
/-- function 56: slices.IndexFunc[[]sheerleg/api.Fn,sheerleg/api.Fn] -/
abbrev T_slices_IndexFunc_api_Fn_api_Fnv4 : Type := Tc8 → Int → (Int → Int → Option Bool) → Option Bool
noncomputable def slices_IndexFunc_api_Fn_api_Fnv4.body (slices_IndexFunc_api_Fn_api_Fnv4_L0 : T_slices_IndexFunc_api_Fn_api_Fnv4_L0) : T_slices_IndexFunc_api_Fn_api_Fnv4 := fun ts1839 n1840 k1 =>
  (slices_IndexFunc_api_Fn_api_Fnv4_L0 ts1839 (List.length ts1839 : Int) (0 : Int) n1840
  (fun n1849 n1850 => (k1 n1849 n1850))
  (fun n1851 => (k1 (-1 : Int) n1851)))
noncomputable def slices_IndexFunc_api_Fn_api_Fnv4 : T_slices_IndexFunc_api_Fn_api_Fnv4 := slices_IndexFunc_api_Fn_api_Fnv4.body (slices_IndexFunc_api_Fn_api_Fnv4_L0 ROUNDS)
def slices_IndexFunc_api_Fn_api_Fnv4.p : FPat := fp 56 (pl (pb 1 78 Ty11) (pl (pf 57 pz (ps (pq [0, 0] 0 0) pz)) pz)) (pl (po [0, 0] 3 1 (es (.int .i64) (pl eh pz))) pz)
def slices_IndexFunc_api_Fn_api_Fnv4.g (F : T_slices_IndexFunc_api_Fn_api_Fnv4) (v : slices_IndexFunc_api_Fn_api_Fnv4.p.T) (k : KR) : Option Bool := F v.1.1 v.2.1.1 (fun y0 y1 => k (.d ⟨(.int .i64), y0⟩) [([0, 0], ⟨3, 1, (.data (.int .i64) [y1])⟩)])
theorem slices_IndexFunc_api_Fn_api_Fnv4.eq (L0 : T_slices_IndexFunc_api_Fn_api_Fnv4_L0) : ∀ v k, exF Tryz.f56 slices_IndexFunc_api_Fn_api_Fnv4.p [] [] [⟨0, slices_IndexFunc_api_Fn_api_Fnv4_L0.p, slices_IndexFunc_api_Fn_api_Fnv4_L0.g L0⟩] v k = slices_IndexFunc_api_Fn_api_Fnv4.g (slices_IndexFunc_api_Fn_api_Fnv4.body L0) v k := fun v k => by kernel_rfl
theorem slices_IndexFunc_api_Fn_api_Fnv4.ok : okF 2 slices_IndexFunc_api_Fn_api_Fnv4.p (slices_IndexFunc_api_Fn_api_Fnv4.g slices_IndexFunc_api_Fn_api_Fnv4) := fn2 (slices_IndexFunc_api_Fn_api_Fnv4.eq (slices_IndexFunc_api_Fn_api_Fnv4_L0 ROUNDS)) Tryz.func56 (by kernel_rfl) .nil [0] (by kernel_rfl) (.cons slices_IndexFunc_api_Fn_api_Fnv4_L0.ok .nil)
/-- function 17: sheerleg/image.Fn -/
abbrev T_image_Fn : Type := Tc6 → (List Int) → Tc8 → Tc7 → Int → Int → (Int → Option Bool) → Option Bool
noncomputable def image_Fn.body (slices_IndexFunc_api_Fn_api_Fnv4 : T_slices_IndexFunc_api_Fn_api_Fnv4) : T_image_Fn := fun ts1833 ns1834 ts1835 ts1836 n1837 n1838 k1 =>
  (slices_IndexFunc_api_Fn_api_Fnv4 ts1835 n1838
  (fun n1852 n1853 => (k1 n1852)))
noncomputable def image_Fn : T_image_Fn := image_Fn.body slices_IndexFunc_api_Fn_api_Fnv4
def image_Fn.p : FPat := fp 17 (pl (pa (pl (pb 1 75 Ty8) (pl (pb 2 2 (.int .i64)) (pl (pb 3 78 Ty11) (pl (pb 4 127 Ty7) (pl (pd (.int .i64)) pz)))))) (pl (pd (.int .i64)) pz)) pz
def image_Fn.g (F : T_image_Fn) (v : image_Fn.p.T) (k : KR) : Option Bool := F v.1.1.1 v.1.1.2.1 v.1.1.2.2.1 v.1.1.2.2.2.1 v.1.1.2.2.2.2.1 v.1.2.1 (fun y0 => k (.d ⟨(.int .i64), y0⟩) [])
theorem image_Fn.eq (F0 : T_slices_IndexFunc_api_Fn_api_Fnv4) : ∀ v k, exF Tryz.f17 image_Fn.p [⟨slices_IndexFunc_api_Fn_api_Fnv4.p, slices_IndexFunc_api_Fn_api_Fnv4.g F0⟩] [] [] v k = image_Fn.g (image_Fn.body F0) v k := fun v k => by kernel_rfl
theorem image_Fn.ok : okF 3 image_Fn.p (image_Fn.g image_Fn) := fn2 (image_Fn.eq slices_IndexFunc_api_Fn_api_Fnv4) Tryz.func17 (by kernel_rfl) (.cons slices_IndexFunc_api_Fn_api_Fnv4.ok .nil) [] (by kernel_rfl) .nil
/-- function 6: sheerleg/sheerleglaw34.known -/
abbrev T_law34_known : Type := (Bool → Option Bool) → Option Bool
noncomputable def law34_known.body (law25_Two : T_law25_Two) (ref28_Full : T_ref28_Full) (image_Make : T_image_Make) (ref34_Make : T_ref34_Make) (ref34_Same : T_ref34_Same) (image_Check : T_image_Check) (image_Checkv1 : T_image_Checkv1) (image_At : T_image_At) (image_Fn : T_image_Fn) : T_law34_known := fun k1 =>
  (law25_Two
  (fun n879 ts880 => (ref28_Full ts880 n879
  (fun bs881 ns882 => (image_Make ts880 n879 bs881 ns882
  (fun n904 ts905 ns906 ts907 ts908 => (ref28_Full ts880 n879
  (fun bs909 ns910 => (ref34_Make ts880 n879 bs909 ns910
  (fun n1220 ts1221 ns1222 ts1223 ts1224 => (ref34_Same ts905 ns906 ts907 ts908 n904 ts1221 ns1222 ts1223 ts1224 n1220
  (fun b1263 => (cond_ b1263 (image_Check ts905 ns906 ts907 ts908 n904
  (fun n1670 => (cond_ (n1670 == (0 : Int)) (cond_ (n904 == (2 : Int)) (image_Checkv1 (0 : Int)
  (fun n1806 => (cond_ (n1806 == (3 : Int)) (image_At ts905 ns906 ts907 ts908 n904 (7 : Int)
  (fun t1832 => (cond_ ((t1832.1 == (1 : Int)) && ((t1832.2.1 == (2 : Int)) && ((t1832.2.2.1 == true) && ((t1832.2.2.2.1 == (0 : Int)) && true)))) (image_Fn ts905 ns906 ts907 ts908 n904 (7 : Int)
  (fun n1854 => (cond_ (n1854 == (0 : Int)) (image_Fn ts905 ns906 ts907 ts908 n904 (1 : Int)
  (fun n1855 => (k1 (n1855 == (-1 : Int))))) (k1 false)))) (k1 false)))) (k1 false)))) (k1 false)) (k1 false)))) (k1 false))))))))))))))
noncomputable def law34_known : T_law34_known := law34_known.body law25_Two ref28_Full image_Make ref34_Make ref34_Same image_Check image_Checkv1 image_At image_Fn
def law34_known.p : FPat := fp 6 pz pz
def law34_known.g (F : T_law34_known) (v : law34_known.p.T) (k : KR) : Option Bool := F (fun y0 => k (.d ⟨.bool, y0⟩) [])
theorem law34_known.eq (F0 : T_law25_Two) (F1 : T_ref28_Full) (F2 : T_image_Make) (F3 : T_ref34_Make) (F4 : T_ref34_Same) (F5 : T_image_Check) (F6 : T_image_Checkv1) (F7 : T_image_At) (F8 : T_image_Fn) : ∀ v k, exF Tryz.f6 law34_known.p [⟨law25_Two.p, law25_Two.g F0⟩, ⟨ref28_Full.p, ref28_Full.g F1⟩, ⟨image_Make.p, image_Make.g F2⟩, ⟨ref34_Make.p, ref34_Make.g F3⟩, ⟨ref34_Same.p, ref34_Same.g F4⟩, ⟨image_Check.p, image_Check.g F5⟩, ⟨image_Checkv1.p, image_Checkv1.g F6⟩, ⟨image_At.p, image_At.g F7⟩, ⟨image_Fn.p, image_Fn.g F8⟩] [] [] v k = law34_known.g (law34_known.body F0 F1 F2 F3 F4 F5 F6 F7 F8) v k := fun v k => by kernel_rfl
theorem law34_known.ok : okF 9 law34_known.p (law34_known.g law34_known) := fn2 (law34_known.eq law25_Two ref28_Full image_Make ref34_Make ref34_Same image_Check image_Checkv1 image_At image_Fn) Tryz.func6 (by kernel_rfl) (.cons law25_Two.ok (.cons ref28_Full.ok (.cons image_Make.ok (.cons ref34_Make.ok (.cons ref34_Same.ok (.cons image_Check.ok (.cons image_Checkv1.ok (.cons image_At.ok (.cons image_Fn.ok .nil))))))))) [] (by kernel_rfl) .nil
/-- function 39: sheerleg/image.look -/
abbrev T_image_lookv10 : Type := Int → Tc10 → (Tc10 → Int → Option Bool) → Option Bool
noncomputable def image_lookv10.body : T_image_lookv10 := fun n1858 t1859 k1 =>
  (k1 t1859 n1858)
noncomputable def image_lookv10 : T_image_lookv10 := image_lookv10.body
def image_lookv10.p : FPat := fp 39 (pl (pd (.int .i64)) (pl (pf 40 pz (ps (pq [0, 0] 0 0) pz)) pz)) (pl (po [0, 0] 40 5 (es Ty14 (pl eh pz))) pz)
def image_lookv10.g (F : T_image_lookv10) (v : image_lookv10.p.T) (k : KR) : Option Bool := F v.1.1 v.2.1.1 (fun y0 y1 => k (.fn (.func 82) [] [(.ptr [1, 0] 0 0), (.ptr [1, 1] 0 0)]) [([0, 0], ⟨40, 5, (.data Ty14 [y0])⟩), ([1, 0], ⟨34, 1, (.mix [(.fn (.func 40) [] [(.ptr [0, 0] 0 0)])])⟩), ([1, 1], ⟨43, 1, (.data (.int .i64) [y1])⟩)])
theorem image_lookv10.eq : ∀ v k, exF Tryz.f39 image_lookv10.p [] [] [] v k = image_lookv10.g (image_lookv10.body) v k := fun v k => by kernel_rfl
theorem image_lookv10.ok : okF 1 image_lookv10.p (image_lookv10.g image_lookv10) := fn2 (image_lookv10.eq) Tryz.func39 (by kernel_rfl) .nil [] (by kernel_rfl) .nil
/-- function 39: sheerleg/image.look -/
abbrev T_image_lookv11 : Type := Int → Tc10 → (Tc10 → Int → Option Bool) → Option Bool
noncomputable def image_lookv11.body : T_image_lookv11 := fun n1862 t1863 k1 =>
  (k1 t1863 n1862)
noncomputable def image_lookv11 : T_image_lookv11 := image_lookv11.body
def image_lookv11.p : FPat := fp 39 (pl (pd (.int .i64)) (pl (pf 41 pz (ps (pq [0, 0] 0 0) pz)) pz)) (pl (po [0, 0] 40 5 (es Ty14 (pl eh pz))) pz)
def image_lookv11.g (F : T_image_lookv11) (v : image_lookv11.p.T) (k : KR) : Option Bool := F v.1.1 v.2.1.1 (fun y0 y1 => k (.fn (.func 82) [] [(.ptr [1, 0] 0 0), (.ptr [1, 1] 0 0)]) [([0, 0], ⟨40, 5, (.data Ty14 [y0])⟩), ([1, 0], ⟨34, 1, (.mix [(.fn (.func 41) [] [(.ptr [0, 0] 0 0)])])⟩), ([1, 1], ⟨43, 1, (.data (.int .i64) [y1])⟩)])
theorem image_lookv11.eq : ∀ v k, exF Tryz.f39 image_lookv11.p [] [] [] v k = image_lookv11.g (image_lookv11.body) v k := fun v k => by kernel_rfl
theorem image_lookv11.ok : okF 1 image_lookv11.p (image_lookv11.g image_lookv11) := fn2 (image_lookv11.eq) Tryz.func39 (by kernel_rfl) .nil [] (by kernel_rfl) .nil
/-- function 39: sheerleg/image.look -/
abbrev T_image_lookv12 : Type := Int → Tc10 → (Tc10 → Int → Option Bool) → Option Bool
noncomputable def image_lookv12.body : T_image_lookv12 := fun n1866 t1867 k1 =>
  (k1 t1867 n1866)
noncomputable def image_lookv12 : T_image_lookv12 := image_lookv12.body
def image_lookv12.p : FPat := fp 39 (pl (pd (.int .i64)) (pl (pf 42 pz (ps (pq [0, 0] 0 0) pz)) pz)) (pl (po [0, 0] 40 5 (es Ty14 (pl eh pz))) pz)
def image_lookv12.g (F : T_image_lookv12) (v : image_lookv12.p.T) (k : KR) : Option Bool := F v.1.1 v.2.1.1 (fun y0 y1 => k (.fn (.func 82) [] [(.ptr [1, 0] 0 0), (.ptr [1, 1] 0 0)]) [([0, 0], ⟨40, 5, (.data Ty14 [y0])⟩), ([1, 0], ⟨34, 1, (.mix [(.fn (.func 42) [] [(.ptr [0, 0] 0 0)])])⟩), ([1, 1], ⟨43, 1, (.data (.int .i64) [y1])⟩)])
theorem image_lookv12.eq : ∀ v k, exF Tryz.f39 image_lookv12.p [] [] [] v k = image_lookv12.g (image_lookv12.body) v k := fun v k => by kernel_rfl
theorem image_lookv12.ok : okF 1 image_lookv12.p (image_lookv12.g image_lookv12) := fn2 (image_lookv12.eq) Tryz.func39 (by kernel_rfl) .nil [] (by kernel_rfl) .nil
/-- function 39: sheerleg/image.look -/
abbrev T_image_lookv13 : Type := Int → Tc10 → (Tc10 → Int → Option Bool) → Option Bool
noncomputable def image_lookv13.body : T_image_lookv13 := fun n1870 t1871 k1 =>
  (k1 t1871 n1870)
noncomputable def image_lookv13 : T_image_lookv13 := image_lookv13.body
def image_lookv13.p : FPat := fp 39 (pl (pd (.int .i64)) (pl (pf 44 pz (ps (pq [0, 0] 0 0) pz)) pz)) (pl (po [0, 0] 40 5 (es Ty14 (pl eh pz))) pz)
def image_lookv13.g (F : T_image_lookv13) (v : image_lookv13.p.T) (k : KR) : Option Bool := F v.1.1 v.2.1.1 (fun y0 y1 => k (.fn (.func 82) [] [(.ptr [1, 0] 0 0), (.ptr [1, 1] 0 0)]) [([0, 0], ⟨40, 5, (.data Ty14 [y0])⟩), ([1, 0], ⟨34, 1, (.mix [(.fn (.func 44) [] [(.ptr [0, 0] 0 0)])])⟩), ([1, 1], ⟨43, 1, (.data (.int .i64) [y1])⟩)])
theorem image_lookv13.eq : ∀ v k, exF Tryz.f39 image_lookv13.p [] [] [] v k = image_lookv13.g (image_lookv13.body) v k := fun v k => by kernel_rfl
theorem image_lookv13.ok : okF 1 image_lookv13.p (image_lookv13.g image_lookv13) := fn2 (image_lookv13.eq) Tryz.func39 (by kernel_rfl) .nil [] (by kernel_rfl) .nil
/-- function 39: sheerleg/image.look -/
abbrev T_image_lookv14 : Type := Int → Tc10 → (Tc10 → Int → Option Bool) → Option Bool
noncomputable def image_lookv14.body : T_image_lookv14 := fun n1874 t1875 k1 =>
  (k1 t1875 n1874)
noncomputable def image_lookv14 : T_image_lookv14 := image_lookv14.body
def image_lookv14.p : FPat := fp 39 (pl (pd (.int .i64)) (pl (pf 49 pz (ps (pq [0, 0] 0 0) pz)) pz)) (pl (po [0, 0] 40 5 (es Ty14 (pl eh pz))) pz)
def image_lookv14.g (F : T_image_lookv14) (v : image_lookv14.p.T) (k : KR) : Option Bool := F v.1.1 v.2.1.1 (fun y0 y1 => k (.fn (.func 82) [] [(.ptr [1, 0] 0 0), (.ptr [1, 1] 0 0)]) [([0, 0], ⟨40, 5, (.data Ty14 [y0])⟩), ([1, 0], ⟨34, 1, (.mix [(.fn (.func 49) [] [(.ptr [0, 0] 0 0)])])⟩), ([1, 1], ⟨43, 1, (.data (.int .i64) [y1])⟩)])
theorem image_lookv14.eq : ∀ v k, exF Tryz.f39 image_lookv14.p [] [] [] v k = image_lookv14.g (image_lookv14.body) v k := fun v k => by kernel_rfl
theorem image_lookv14.ok : okF 1 image_lookv14.p (image_lookv14.g image_lookv14) := fn2 (image_lookv14.eq) Tryz.func39 (by kernel_rfl) .nil [] (by kernel_rfl) .nil
/-- function 40: sheerleg/image.Check$1 -/
abbrev T_image_Checkfn1v2 : Type := Tc10 → (Bool → Tc10 → Option Bool) → Option Bool
noncomputable def image_Checkfn1v2.body : T_image_Checkfn1v2 := fun t1894 k1 =>
  (cond_ (! (decide ((((List.length t1894.1) : Nat) : Int) > (65535 : Int)))) (k1 (decide ((((List.length t1894.2.1) : Nat) : Int) > (65535 : Int))) t1894) (k1 true t1894))
noncomputable def image_Checkfn1v2 : T_image_Checkfn1v2 := image_Checkfn1v2.body
def image_Checkfn1v2.p : FPat := fp 40 (ps (pq [0, 0] 0 0) pz) (pl (po [0, 0] 40 5 (es Ty14 (pl eh pz))) pz)
def image_Checkfn1v2.g (F : T_image_Checkfn1v2) (v : image_Checkfn1v2.p.T) (k : KR) : Option Bool := F v.2.1.1 (fun y0 y1 => k (.d ⟨.bool, y0⟩) [([0, 0], ⟨40, 5, (.data Ty14 [y1])⟩)])
theorem image_Checkfn1v2.eq : ∀ v k, exF Tryz.f40 image_Checkfn1v2.p [] [] [] v k = image_Checkfn1v2.g (image_Checkfn1v2.body) v k := fun v k => by kernel_rfl
theorem image_Checkfn1v2.ok : okF 1 image_Checkfn1v2.p (image_Checkfn1v2.g image_Checkfn1v2) := fn2 (image_Checkfn1v2.eq) Tryz.func40 (by kernel_rfl) .nil [] (by kernel_rfl) .nil
/-- function 82: sheerleg/image.look$1 -/
abbrev T_image_lookfn1v10 : Type := Tc10 → Int → (Int → Tc10 → Int → Option Bool) → Option Bool
noncomputable def image_lookfn1v10.body (image_Checkfn1v2 : T_image_Checkfn1v2) : T_image_lookfn1v10 := fun t1892 n1893 k1 =>
  (image_Checkfn1v2 t1892
  (fun b1895 t1896 => (cond_ b1895 (k1 n1893 t1896 n1893) (k1 (0 : Int) t1896 n1893))))
noncomputable def image_lookfn1v10 : T_image_lookfn1v10 := image_lookfn1v10.body image_Checkfn1v2
def image_lookfn1v10.p : FPat := fp 82 (ps (pq [0, 0] 0 0) (ps (pq [0, 2] 0 0) pz)) (pl (po [0, 0] 34 1 (em (pl (pf 40 pz (ps (pq [0, 1] 0 0) pz)) pz))) (pl (po [0, 1] 40 5 (es Ty14 (pl eh pz))) (pl (po [0, 2] 43 1 (es (.int .i64) (pl eh pz))) pz)))
def image_lookfn1v10.g (F : T_image_lookfn1v10) (v : image_lookfn1v10.p.T) (k : KR) : Option Bool := F v.2.2.1.1 v.2.2.2.1.1 (fun y0 y1 y2 => k (.d ⟨(.int .i64), y0⟩) [([0, 0], ⟨34, 1, (.mix [(.fn (.func 40) [] [(.ptr [0, 1] 0 0)])])⟩), ([0, 1], ⟨40, 5, (.data Ty14 [y1])⟩), ([0, 2], ⟨43, 1, (.data (.int .i64) [y2])⟩)])
theorem image_lookfn1v10.eq (F0 : T_image_Checkfn1v2) : ∀ v k, exF Tryz.f82 image_lookfn1v10.p [⟨image_Checkfn1v2.p, image_Checkfn1v2.g F0⟩] [] [] v k = image_lookfn1v10.g (image_lookfn1v10.body F0) v k := fun v k => by kernel_rfl
theorem image_lookfn1v10.ok : okF 2 image_lookfn1v10.p (image_lookfn1v10.g image_lookfn1v10) := fn2 (image_lookfn1v10.eq image_Checkfn1v2) Tryz.func82 (by kernel_rfl) (.cons image_Checkfn1v2.ok .nil) [] (by kernel_rfl) .nil
/-- function 41: sheerleg/image.Check$2 -/
abbrev T_image_Checkfn2v2 : Type := Tc10 → (Bool → Tc10 → Option Bool) → Option Bool
noncomputable def image_Checkfn2v2.body : T_image_Checkfn2v2 := fun t1902 k1 =>
  (cond_ (! (decide ((((List.length t1902.1) : Nat) : Int) < (2 : Int)))) (cond_ (true && (decide ((0 : Int) < (((List.length t1902.1) : Nat) : Int)))) (cond_ (! (! (((List.getD t1902.1 (0 : Nat) (0, (0, (0, (0, (0, ())))))).1 == (27 : Int)) && (((List.getD t1902.1 (0 : Nat) (0, (0, (0, (0, (0, ())))))).2.1 == (0 : Int)) && (((List.getD t1902.1 (0 : Nat) (0, (0, (0, (0, (0, ())))))).2.2.1 == (0 : Int)) && (((List.getD t1902.1 (0 : Nat) (0, (0, (0, (0, (0, ())))))).2.2.2.1 == (0 : Int)) && (((List.getD t1902.1 (0 : Nat) (0, (0, (0, (0, (0, ())))))).2.2.2.2.1 == (0 : Int)) && true))))))) (cond_ (true && (decide ((1 : Int) < (((List.length t1902.1) : Nat) : Int)))) (k1 (! (((List.getD t1902.1 (1 : Nat) (0, (0, (0, (0, (0, ())))))).1 == (28 : Int)) && (((List.getD t1902.1 (1 : Nat) (0, (0, (0, (0, (0, ())))))).2.1 == (0 : Int)) && (((List.getD t1902.1 (1 : Nat) (0, (0, (0, (0, (0, ())))))).2.2.1 == (0 : Int)) && (((List.getD t1902.1 (1 : Nat) (0, (0, (0, (0, (0, ())))))).2.2.2.1 == (0 : Int)) && (((List.getD t1902.1 (1 : Nat) (0, (0, (0, (0, (0, ())))))).2.2.2.2.1 == (0 : Int)) && true)))))) t1902) none) (k1 true t1902)) none) (k1 true t1902))
noncomputable def image_Checkfn2v2 : T_image_Checkfn2v2 := image_Checkfn2v2.body
def image_Checkfn2v2.p : FPat := fp 41 (ps (pq [0, 0] 0 0) pz) (pl (po [0, 0] 40 5 (es Ty14 (pl eh pz))) pz)
def image_Checkfn2v2.g (F : T_image_Checkfn2v2) (v : image_Checkfn2v2.p.T) (k : KR) : Option Bool := F v.2.1.1 (fun y0 y1 => k (.d ⟨.bool, y0⟩) [([0, 0], ⟨40, 5, (.data Ty14 [y1])⟩)])
theorem image_Checkfn2v2.eq : ∀ v k, exF Tryz.f41 image_Checkfn2v2.p [] [] [] v k = image_Checkfn2v2.g (image_Checkfn2v2.body) v k := fun v k => by kernel_rfl
theorem image_Checkfn2v2.ok : okF 1 image_Checkfn2v2.p (image_Checkfn2v2.g image_Checkfn2v2) := fn2 (image_Checkfn2v2.eq) Tryz.func41 (by kernel_rfl) .nil [] (by kernel_rfl) .nil
/-- function 82: sheerleg/image.look$1 -/
abbrev T_image_lookfn1v11 : Type := Tc10 → Int → (Int → Tc10 → Int → Option Bool) → Option Bool
noncomputable def image_lookfn1v11.body (image_Checkfn2v2 : T_image_Checkfn2v2) : T_image_lookfn1v11 := fun t1900 n1901 k1 =>
  (image_Checkfn2v2 t1900
  (fun b1903 t1904 => (cond_ b1903 (k1 n1901 t1904 n1901) (k1 (0 : Int) t1904 n1901))))
noncomputable def image_lookfn1v11 : T_image_lookfn1v11 := image_lookfn1v11.body image_Checkfn2v2
def image_lookfn1v11.p : FPat := fp 82 (ps (pq [0, 0] 0 0) (ps (pq [0, 2] 0 0) pz)) (pl (po [0, 0] 34 1 (em (pl (pf 41 pz (ps (pq [0, 1] 0 0) pz)) pz))) (pl (po [0, 1] 40 5 (es Ty14 (pl eh pz))) (pl (po [0, 2] 43 1 (es (.int .i64) (pl eh pz))) pz)))
def image_lookfn1v11.g (F : T_image_lookfn1v11) (v : image_lookfn1v11.p.T) (k : KR) : Option Bool := F v.2.2.1.1 v.2.2.2.1.1 (fun y0 y1 y2 => k (.d ⟨(.int .i64), y0⟩) [([0, 0], ⟨34, 1, (.mix [(.fn (.func 41) [] [(.ptr [0, 1] 0 0)])])⟩), ([0, 1], ⟨40, 5, (.data Ty14 [y1])⟩), ([0, 2], ⟨43, 1, (.data (.int .i64) [y2])⟩)])
theorem image_lookfn1v11.eq (F0 : T_image_Checkfn2v2) : ∀ v k, exF Tryz.f82 image_lookfn1v11.p [⟨image_Checkfn2v2.p, image_Checkfn2v2.g F0⟩] [] [] v k = image_lookfn1v11.g (image_lookfn1v11.body F0) v k := fun v k => by kernel_rfl
theorem image_lookfn1v11.ok : okF 2 image_lookfn1v11.p (image_lookfn1v11.g image_lookfn1v11) := fn2 (image_lookfn1v11.eq image_Checkfn2v2) Tryz.func82 (by kernel_rfl) (.cons image_Checkfn2v2.ok .nil) [] (by kernel_rfl) .nil
/-- function 43: the loop in block 0 -/
abbrev T_image_gapsv2_L0 : Type := Int → Tc8 → Int → Int → Tc10 → (Bool → Option Bool) → (Int → Tc10 → Option Bool) → Option Bool
noncomputable def image_gapsv2_L0.body (image_gapsv2_L0 : T_image_gapsv2_L0) : T_image_gapsv2_L0 := fun n1912 l1913 n1914 n1915 t1916 k1 k2 =>
  (cond_ (decide (n1915 < n1914)) (cond_ ((decide ((0 : Int) ≤ n1915)) && (decide (n1915 < (List.length l1913 : Int)))) (cond_ (! ((List.getD l1913 (Int.toNat n1915) (0, (0, (0, (0, (0, (0, ()))))))).2.2.1 != n1912)) (cond_ (! (decide ((List.getD l1913 (Int.toNat n1915) (0, (0, (0, (0, (0, (0, ()))))))).2.2.2.1 ≤ (List.getD l1913 (Int.toNat n1915) (0, (0, (0, (0, (0, (0, ()))))))).2.2.1))) (cond_ (! (decide ((List.getD l1913 (Int.toNat n1915) (0, (0, (0, (0, (0, (0, ()))))))).2.2.2.1 > (List.getD l1913 (Int.toNat n1915) (0, (0, (0, (0, (0, (0, ()))))))).2.2.2.2.1))) (cond_ (decide ((List.getD l1913 (Int.toNat n1915) (0, (0, (0, (0, (0, (0, ()))))))).2.2.2.2.2.1 < (0 : Int))) (k1 true) (image_gapsv2_L0 (List.getD l1913 (Int.toNat n1915) (0, (0, (0, (0, (0, (0, ()))))))).2.2.2.2.1 l1913 n1914 (IntKind.wrap .i64 (n1915 + (1 : Int))) t1916 k1 k2)) (k1 true)) (k1 true)) (k1 true)) none) (k2 n1912 t1916))
noncomputable def image_gapsv2_L0 : Nat → T_image_gapsv2_L0
  | 0 => fun _ _ _ _ _ _ _ => none
  | n + 1 => image_gapsv2_L0.body (image_gapsv2_L0 n)
def image_gapsv2_L0.p : LPat := lp 2 44 [1, 3, 7, 8, 9] (ps (pq [1, 0] 0 0) (pl (pd (.int .i64)) (pl (pd Ty12) (pl (pd (.int .i64)) (pl (pd (.int .i64)) pz))))) (pl (po [1, 0] 40 5 (es Ty14 (pl eh pz))) pz)
def image_gapsv2_L0.g (F : T_image_gapsv2_L0) (v : image_gapsv2_L0.p.T) (k : KE) : Option Bool := F v.1.1 v.1.2.1 v.1.2.2.1 v.1.2.2.2.1 v.2.1.1 (fun y0 => k .ret ⟨fillS 44 [2] [(.d ⟨.bool, y0⟩)], [], 2⟩) (fun y0 y1 => k (.exit 0) ⟨fillS 44 [1, 3] [(.ptr [1, 0] 0 0), (.d ⟨(.int .i64), y0⟩)], [([1, 0], ⟨40, 5, (.data Ty14 [y1])⟩)], 2⟩)
theorem image_gapsv2_L0.step (S : T_image_gapsv2_L0) : ∀ v k, exR 43 Tryz.f43 0 image_gapsv2_L0.p [] [] [] (image_gapsv2_L0.g S) v k = image_gapsv2_L0.g (image_gapsv2_L0.body S) v k := fun v k => by kernel_rfl
theorem image_gapsv2_L0.ok : okL 43 Tryz.f43 0 0 image_gapsv2_L0.p (image_gapsv2_L0.g (image_gapsv2_L0 ROUNDS)) := loop2 (G := fun n => image_gapsv2_L0.g (image_gapsv2_L0 n)) (fun n => image_gapsv2_L0.step (image_gapsv2_L0 n)) .nil [] (by kernel_rfl) .nil (fun _ _ => rfl)
/-- function 43: sheerleg/image.gaps -/
abbrev T_image_gapsv2 : Type := Tc10 → (Bool → Option Bool) → Option Bool
noncomputable def image_gapsv2.body (image_gapsv2_L0 : T_image_gapsv2_L0) : T_image_gapsv2 := fun t1911 k1 =>
  (image_gapsv2_L0 (2 : Int) t1911.2.2.1 (((List.length t1911.2.2.1) : Nat) : Int) (0 : Int) t1911
  (fun b1917 => (k1 b1917))
  (fun n1918 t1919 => (k1 (n1918 != (((List.length t1919.1) : Nat) : Int)))))
noncomputable def image_gapsv2 : T_image_gapsv2 := image_gapsv2.body (image_gapsv2_L0 ROUNDS)
def image_gapsv2.p : FPat := fp 43 (pl (pd Ty14) pz) pz
def image_gapsv2.g (F : T_image_gapsv2) (v : image_gapsv2.p.T) (k : KR) : Option Bool := F v.1.1 (fun y0 => k (.d ⟨.bool, y0⟩) [])
theorem image_gapsv2.eq (L0 : T_image_gapsv2_L0) : ∀ v k, exF Tryz.f43 image_gapsv2.p [] [] [⟨0, image_gapsv2_L0.p, image_gapsv2_L0.g L0⟩] v k = image_gapsv2.g (image_gapsv2.body L0) v k := fun v k => by kernel_rfl
theorem image_gapsv2.ok : okF 1 image_gapsv2.p (image_gapsv2.g image_gapsv2) := fn2 (image_gapsv2.eq (image_gapsv2_L0 ROUNDS)) Tryz.func43 (by kernel_rfl) .nil [0] (by kernel_rfl) (.cons image_gapsv2_L0.ok .nil)
/-- function 42: sheerleg/image.Check$3 -/
abbrev T_image_Checkfn3v2 : Type := Tc10 → (Bool → Tc10 → Option Bool) → Option Bool
noncomputable def image_Checkfn3v2.body (image_gapsv2 : T_image_gapsv2) : T_image_Checkfn3v2 := fun t1910 k1 =>
  (image_gapsv2 t1910
  (fun b1920 => (k1 b1920 t1910)))
noncomputable def image_Checkfn3v2 : T_image_Checkfn3v2 := image_Checkfn3v2.body image_gapsv2
def image_Checkfn3v2.p : FPat := fp 42 (ps (pq [0, 0] 0 0) pz) (pl (po [0, 0] 40 5 (es Ty14 (pl eh pz))) pz)
def image_Checkfn3v2.g (F : T_image_Checkfn3v2) (v : image_Checkfn3v2.p.T) (k : KR) : Option Bool := F v.2.1.1 (fun y0 y1 => k (.d ⟨.bool, y0⟩) [([0, 0], ⟨40, 5, (.data Ty14 [y1])⟩)])
theorem image_Checkfn3v2.eq (F0 : T_image_gapsv2) : ∀ v k, exF Tryz.f42 image_Checkfn3v2.p [⟨image_gapsv2.p, image_gapsv2.g F0⟩] [] [] v k = image_Checkfn3v2.g (image_Checkfn3v2.body F0) v k := fun v k => by kernel_rfl
theorem image_Checkfn3v2.ok : okF 2 image_Checkfn3v2.p (image_Checkfn3v2.g image_Checkfn3v2) := fn2 (image_Checkfn3v2.eq image_gapsv2) Tryz.func42 (by kernel_rfl) (.cons image_gapsv2.ok .nil) [] (by kernel_rfl) .nil
/-- function 82: sheerleg/image.look$1 -/
abbrev T_image_lookfn1v12 : Type := Tc10 → Int → (Int → Tc10 → Int → Option Bool) → Option Bool
noncomputable def image_lookfn1v12.body (image_Checkfn3v2 : T_image_Checkfn3v2) : T_image_lookfn1v12 := fun t1908 n1909 k1 =>
  (image_Checkfn3v2 t1908
  (fun b1921 t1922 => (cond_ b1921 (k1 n1909 t1922 n1909) (k1 (0 : Int) t1922 n1909))))
noncomputable def image_lookfn1v12 : T_image_lookfn1v12 := image_lookfn1v12.body image_Checkfn3v2
def image_lookfn1v12.p : FPat := fp 82 (ps (pq [0, 0] 0 0) (ps (pq [0, 2] 0 0) pz)) (pl (po [0, 0] 34 1 (em (pl (pf 42 pz (ps (pq [0, 1] 0 0) pz)) pz))) (pl (po [0, 1] 40 5 (es Ty14 (pl eh pz))) (pl (po [0, 2] 43 1 (es (.int .i64) (pl eh pz))) pz)))
def image_lookfn1v12.g (F : T_image_lookfn1v12) (v : image_lookfn1v12.p.T) (k : KR) : Option Bool := F v.2.2.1.1 v.2.2.2.1.1 (fun y0 y1 y2 => k (.d ⟨(.int .i64), y0⟩) [([0, 0], ⟨34, 1, (.mix [(.fn (.func 42) [] [(.ptr [0, 1] 0 0)])])⟩), ([0, 1], ⟨40, 5, (.data Ty14 [y1])⟩), ([0, 2], ⟨43, 1, (.data (.int .i64) [y2])⟩)])
theorem image_lookfn1v12.eq (F0 : T_image_Checkfn3v2) : ∀ v k, exF Tryz.f82 image_lookfn1v12.p [⟨image_Checkfn3v2.p, image_Checkfn3v2.g F0⟩] [] [] v k = image_lookfn1v12.g (image_lookfn1v12.body F0) v k := fun v k => by kernel_rfl
theorem image_lookfn1v12.ok : okF 3 image_lookfn1v12.p (image_lookfn1v12.g image_lookfn1v12) := fn2 (image_lookfn1v12.eq image_Checkfn3v2) Tryz.func82 (by kernel_rfl) (.cons image_Checkfn3v2.ok .nil) [] (by kernel_rfl) .nil
/-- function 46: sheerleg/image.odd -/
abbrev T_image_oddv2 : Type := Tc10 → (Tc10 → Option Bool) → Option Bool
noncomputable def image_oddv2.body : T_image_oddv2 := fun t1929 k1 =>
  (k1 t1929)
noncomputable def image_oddv2 : T_image_oddv2 := image_oddv2.body
def image_oddv2.p : FPat := fp 46 (pl (pd Ty14) pz) pz
def image_oddv2.g (F : T_image_oddv2) (v : image_oddv2.p.T) (k : KR) : Option Bool := F v.1.1 (fun y0 => k (.fn (.func 83) [] [(.ptr [1, 0] 0 0)]) [([1, 0], ⟨40, 5, (.data Ty14 [y0])⟩)])
theorem image_oddv2.eq : ∀ v k, exF Tryz.f46 image_oddv2.p [] [] [] v k = image_oddv2.g (image_oddv2.body) v k := fun v k => by kernel_rfl
theorem image_oddv2.ok : okF 1 image_oddv2.p (image_oddv2.g image_oddv2) := fn2 (image_oddv2.eq) Tryz.func46 (by kernel_rfl) .nil [] (by kernel_rfl) .nil
/-- function 83: sheerleg/image.odd$1 -/
abbrev T_image_oddfn1v1 : Type := Tc5 → Tc10 → (Bool → Tc10 → Option Bool) → Option Bool
noncomputable def image_oddfn1v1.body : T_image_oddfn1v1 := fun t1939 t1940 k1 =>
  (cond_ (((decide ((0 : Int) ≤ t1939.2.2.1)) && (decide (t1939.2.2.1 ≤ t1939.2.2.2.1))) && (decide (t1939.2.2.2.1 ≤ (((List.length t1940.1) : Nat) : Int)))) (cond_ ((((List.length (List.take (Int.toNat (t1939.2.2.2.1 - t1939.2.2.1)) (List.drop (Int.toNat t1939.2.2.1) t1940.1))) : Nat) : Int) == (2 : Int)) (cond_ (true && (decide ((0 : Int) < (((List.length (List.take (Int.toNat (t1939.2.2.2.1 - t1939.2.2.1)) (List.drop (Int.toNat t1939.2.2.1) t1940.1))) : Nat) : Int)))) (cond_ ((List.getD (List.take (Int.toNat (t1939.2.2.2.1 - t1939.2.2.1)) (List.drop (Int.toNat t1939.2.2.1) t1940.1)) (0 : Nat) (0, (0, (0, (0, (0, ())))))).1 == (25 : Int)) (cond_ (true && (decide ((1 : Int) ≤ (((List.length (List.take (Int.toNat (t1939.2.2.2.1 - t1939.2.2.1)) (List.drop (Int.toNat t1939.2.2.1) t1940.1))) : Nat) : Int)))) (cond_ (! ((((List.length (List.take ((List.length (List.take (Int.toNat (t1939.2.2.2.1 - t1939.2.2.1)) (List.drop (Int.toNat t1939.2.2.1) t1940.1))) - (1 : Nat)) (List.drop (1 : Nat) (List.take (Int.toNat (t1939.2.2.2.1 - t1939.2.2.1)) (List.drop (Int.toNat t1939.2.2.1) t1940.1))))) : Nat) : Int) != (1 : Int))) (cond_ (true && (decide ((0 : Int) < (((List.length (List.take ((List.length (List.take (Int.toNat (t1939.2.2.2.1 - t1939.2.2.1)) (List.drop (Int.toNat t1939.2.2.1) t1940.1))) - (1 : Nat)) (List.drop (1 : Nat) (List.take (Int.toNat (t1939.2.2.2.1 - t1939.2.2.1)) (List.drop (Int.toNat t1939.2.2.1) t1940.1))))) : Nat) : Int)))) (k1 ((List.getD (List.take ((List.length (List.take (Int.toNat (t1939.2.2.2.1 - t1939.2.2.1)) (List.drop (Int.toNat t1939.2.2.1) t1940.1))) - (1 : Nat)) (List.drop (1 : Nat) (List.take (Int.toNat (t1939.2.2.2.1 - t1939.2.2.1)) (List.drop (Int.toNat t1939.2.2.1) t1940.1)))) (0 : Nat) (0, (0, (0, (0, (0, ())))))).1 != (26 : Int)) t1940) none) (k1 true t1940)) none) (cond_ (! ((((List.length (List.take (Int.toNat (t1939.2.2.2.1 - t1939.2.2.1)) (List.drop (Int.toNat t1939.2.2.1) t1940.1))) : Nat) : Int) != (1 : Int))) (cond_ (true && (decide ((0 : Int) < (((List.length (List.take (Int.toNat (t1939.2.2.2.1 - t1939.2.2.1)) (List.drop (Int.toNat t1939.2.2.1) t1940.1))) : Nat) : Int)))) (k1 ((List.getD (List.take (Int.toNat (t1939.2.2.2.1 - t1939.2.2.1)) (List.drop (Int.toNat t1939.2.2.1) t1940.1)) (0 : Nat) (0, (0, (0, (0, (0, ())))))).1 != (26 : Int)) t1940) none) (k1 true t1940))) none) (cond_ (! ((((List.length (List.take (Int.toNat (t1939.2.2.2.1 - t1939.2.2.1)) (List.drop (Int.toNat t1939.2.2.1) t1940.1))) : Nat) : Int) != (1 : Int))) (cond_ (true && (decide ((0 : Int) < (((List.length (List.take (Int.toNat (t1939.2.2.2.1 - t1939.2.2.1)) (List.drop (Int.toNat t1939.2.2.1) t1940.1))) : Nat) : Int)))) (k1 ((List.getD (List.take (Int.toNat (t1939.2.2.2.1 - t1939.2.2.1)) (List.drop (Int.toNat t1939.2.2.1) t1940.1)) (0 : Nat) (0, (0, (0, (0, (0, ())))))).1 != (26 : Int)) t1940) none) (k1 true t1940))) none)
noncomputable def image_oddfn1v1 : T_image_oddfn1v1 := image_oddfn1v1.body
def image_oddfn1v1.p : FPat := fp 83 (pl (pd Ty11) (ps (pq [0, 0] 0 0) pz)) (pl (po [0, 0] 40 5 (es Ty14 (pl eh pz))) pz)
def image_oddfn1v1.g (F : T_image_oddfn1v1) (v : image_oddfn1v1.p.T) (k : KR) : Option Bool := F v.1.1 v.2.1.1 (fun y0 y1 => k (.d ⟨.bool, y0⟩) [([0, 0], ⟨40, 5, (.data Ty14 [y1])⟩)])
theorem image_oddfn1v1.eq : ∀ v k, exF Tryz.f83 image_oddfn1v1.p [] [] [] v k = image_oddfn1v1.g (image_oddfn1v1.body) v k := fun v k => by kernel_rfl
theorem image_oddfn1v1.ok : okF 1 image_oddfn1v1.p (image_oddfn1v1.g image_oddfn1v1) := fn2 (image_oddfn1v1.eq) Tryz.func83 (by kernel_rfl) .nil [] (by kernel_rfl) .nil
/-- function 56: the loop in block 0 -/
abbrev T_slices_IndexFunc_api_Fn_api_Fnv5_L0 : Type := Tc8 → Int → Int → Tc10 → (Int → Tc10 → Option Bool) → (Tc10 → Option Bool) → Option Bool
noncomputable def slices_IndexFunc_api_Fn_api_Fnv5_L0.body (slices_IndexFunc_api_Fn_api_Fnv5_L0 : T_slices_IndexFunc_api_Fn_api_Fnv5_L0) (image_oddfn1v1 : T_image_oddfn1v1) : T_slices_IndexFunc_api_Fn_api_Fnv5_L0 := fun ts1935 n1936 n1937 t1938 k1 k2 =>
  (cond_ (decide (n1937 < n1936)) (cond_ ((decide ((0 : Int) ≤ n1937)) && (decide (n1937 < (List.length ts1935 : Int)))) (image_oddfn1v1 (List.getD ts1935 (Int.toNat n1937) (0, (0, (0, (0, (0, (0, ()))))))) t1938
  (fun b1941 t1942 => (cond_ b1941 (k1 n1937 t1942) (slices_IndexFunc_api_Fn_api_Fnv5_L0 ts1935 n1936 (IntKind.wrap .i64 (n1937 + (1 : Int))) t1942 k1 k2)))) none) (k2 t1938))
noncomputable def slices_IndexFunc_api_Fn_api_Fnv5_L0 : Nat → T_slices_IndexFunc_api_Fn_api_Fnv5_L0
  | 0 => fun _ _ _ _ _ _ => none
  | n + 1 => slices_IndexFunc_api_Fn_api_Fnv5_L0.body (slices_IndexFunc_api_Fn_api_Fnv5_L0 n) image_oddfn1v1
def slices_IndexFunc_api_Fn_api_Fnv5_L0.p : LPat := lp 2 19 [0, 1, 7, 8] (pl (pb 0 78 Ty11) (pl (pf 83 pz (ps (pq [0, 0] 0 0) pz)) (pl (pd (.int .i64)) (pl (pd (.int .i64)) pz)))) (pl (po [0, 0] 40 5 (es Ty14 (pl eh pz))) pz)
def slices_IndexFunc_api_Fn_api_Fnv5_L0.g (F : T_slices_IndexFunc_api_Fn_api_Fnv5_L0) (v : slices_IndexFunc_api_Fn_api_Fnv5_L0.p.T) (k : KE) : Option Bool := F v.1.1 v.1.2.2.1 v.1.2.2.2.1 v.2.1.1 (fun y0 y1 => k .ret ⟨fillS 19 [4] [(.d ⟨(.int .i64), y0⟩)], [([0, 0], ⟨40, 5, (.data Ty14 [y1])⟩)], 2⟩) (fun y0 => k (.exit 0) ⟨fillS 19 [] [], [([0, 0], ⟨40, 5, (.data Ty14 [y0])⟩)], 2⟩)
theorem slices_IndexFunc_api_Fn_api_Fnv5_L0.step (S : T_slices_IndexFunc_api_Fn_api_Fnv5_L0) (F0 : T_image_oddfn1v1) : ∀ v k, exR 56 Tryz.f56 0 slices_IndexFunc_api_Fn_api_Fnv5_L0.p [⟨image_oddfn1v1.p, image_oddfn1v1.g F0⟩] [] [] (slices_IndexFunc_api_Fn_api_Fnv5_L0.g S) v k = slices_IndexFunc_api_Fn_api_Fnv5_L0.g (slices_IndexFunc_api_Fn_api_Fnv5_L0.body S F0) v k := fun v k => by kernel_rfl
theorem slices_IndexFunc_api_Fn_api_Fnv5_L0.ok : okL 56 Tryz.f56 1 0 slices_IndexFunc_api_Fn_api_Fnv5_L0.p (slices_IndexFunc_api_Fn_api_Fnv5_L0.g (slices_IndexFunc_api_Fn_api_Fnv5_L0 ROUNDS)) := loop2 (G := fun n => slices_IndexFunc_api_Fn_api_Fnv5_L0.g (slices_IndexFunc_api_Fn_api_Fnv5_L0 n)) (fun n => slices_IndexFunc_api_Fn_api_Fnv5_L0.step (slices_IndexFunc_api_Fn_api_Fnv5_L0 n) image_oddfn1v1) (.cons image_oddfn1v1.ok .nil) [] (by kernel_rfl) .nil (fun _ _ => rfl)
/-- function 56: slices.IndexFunc[[]sheerleg/api.Fn,sheerleg/api.Fn] -/
abbrev T_slices_IndexFunc_api_Fn_api_Fnv5 : Type := Tc8 → Tc10 → (Int → Tc10 → Option Bool) → Option Bool
noncomputable def slices_IndexFunc_api_Fn_api_Fnv5.body (slices_IndexFunc_api_Fn_api_Fnv5_L0 : T_slices_IndexFunc_api_Fn_api_Fnv5_L0) : T_slices_IndexFunc_api_Fn_api_Fnv5 := fun ts1933 t1934 k1 =>
  (slices_IndexFunc_api_Fn_api_Fnv5_L0 ts1933 (List.length ts1933 : Int) (0 : Int) t1934
  (fun n1943 t1944 => (k1 n1943 t1944))
  (fun t1945 => (k1 (-1 : Int) t1945)))
noncomputable def slices_IndexFunc_api_Fn_api_Fnv5 : T_slices_IndexFunc_api_Fn_api_Fnv5 := slices_IndexFunc_api_Fn_api_Fnv5.body (slices_IndexFunc_api_Fn_api_Fnv5_L0 ROUNDS)
def slices_IndexFunc_api_Fn_api_Fnv5.p : FPat := fp 56 (pl (pb 0 78 Ty11) (pl (pf 83 pz (ps (pq [0, 0] 0 0) pz)) pz)) (pl (po [0, 0] 40 5 (es Ty14 (pl eh pz))) pz)
def slices_IndexFunc_api_Fn_api_Fnv5.g (F : T_slices_IndexFunc_api_Fn_api_Fnv5) (v : slices_IndexFunc_api_Fn_api_Fnv5.p.T) (k : KR) : Option Bool := F v.1.1 v.2.1.1 (fun y0 y1 => k (.d ⟨(.int .i64), y0⟩) [([0, 0], ⟨40, 5, (.data Ty14 [y1])⟩)])
theorem slices_IndexFunc_api_Fn_api_Fnv5.eq (L0 : T_slices_IndexFunc_api_Fn_api_Fnv5_L0) : ∀ v k, exF Tryz.f56 slices_IndexFunc_api_Fn_api_Fnv5.p [] [] [⟨0, slices_IndexFunc_api_Fn_api_Fnv5_L0.p, slices_IndexFunc_api_Fn_api_Fnv5_L0.g L0⟩] v k = slices_IndexFunc_api_Fn_api_Fnv5.g (slices_IndexFunc_api_Fn_api_Fnv5.body L0) v k := fun v k => by kernel_rfl
theorem slices_IndexFunc_api_Fn_api_Fnv5.ok : okF 2 slices_IndexFunc_api_Fn_api_Fnv5.p (slices_IndexFunc_api_Fn_api_Fnv5.g slices_IndexFunc_api_Fn_api_Fnv5) := fn2 (slices_IndexFunc_api_Fn_api_Fnv5.eq (slices_IndexFunc_api_Fn_api_Fnv5_L0 ROUNDS)) Tryz.func56 (by kernel_rfl) .nil [0] (by kernel_rfl) (.cons slices_IndexFunc_api_Fn_api_Fnv5_L0.ok .nil)
/-- function 45: slices.ContainsFunc[[]sheerleg/api.Fn,sheerleg/api.Fn] -/
abbrev T_slices_ContainsFunc_api_Fn_api_Fnv4 : Type := Tc8 → Tc10 → (Bool → Tc10 → Option Bool) → Option Bool
noncomputable def slices_ContainsFunc_api_Fn_api_Fnv4.body (slices_IndexFunc_api_Fn_api_Fnv5 : T_slices_IndexFunc_api_Fn_api_Fnv5) : T_slices_ContainsFunc_api_Fn_api_Fnv4 := fun ts1931 t1932 k1 =>
  (slices_IndexFunc_api_Fn_api_Fnv5 ts1931 t1932
  (fun n1946 t1947 => (k1 (decide (n1946 ≥ (0 : Int))) t1947)))
noncomputable def slices_ContainsFunc_api_Fn_api_Fnv4 : T_slices_ContainsFunc_api_Fn_api_Fnv4 := slices_ContainsFunc_api_Fn_api_Fnv4.body slices_IndexFunc_api_Fn_api_Fnv5
def slices_ContainsFunc_api_Fn_api_Fnv4.p : FPat := fp 45 (pl (pb 0 78 Ty11) (pl (pf 83 pz (ps (pq [0, 0] 0 0) pz)) pz)) (pl (po [0, 0] 40 5 (es Ty14 (pl eh pz))) pz)
def slices_ContainsFunc_api_Fn_api_Fnv4.g (F : T_slices_ContainsFunc_api_Fn_api_Fnv4) (v : slices_ContainsFunc_api_Fn_api_Fnv4.p.T) (k : KR) : Option Bool := F v.1.1 v.2.1.1 (fun y0 y1 => k (.d ⟨.bool, y0⟩) [([0, 0], ⟨40, 5, (.data Ty14 [y1])⟩)])
theorem slices_ContainsFunc_api_Fn_api_Fnv4.eq (F0 : T_slices_IndexFunc_api_Fn_api_Fnv5) : ∀ v k, exF Tryz.f45 slices_ContainsFunc_api_Fn_api_Fnv4.p [⟨slices_IndexFunc_api_Fn_api_Fnv5.p, slices_IndexFunc_api_Fn_api_Fnv5.g F0⟩] [] [] v k = slices_ContainsFunc_api_Fn_api_Fnv4.g (slices_ContainsFunc_api_Fn_api_Fnv4.body F0) v k := fun v k => by kernel_rfl
theorem slices_ContainsFunc_api_Fn_api_Fnv4.ok : okF 3 slices_ContainsFunc_api_Fn_api_Fnv4.p (slices_ContainsFunc_api_Fn_api_Fnv4.g slices_ContainsFunc_api_Fn_api_Fnv4) := fn2 (slices_ContainsFunc_api_Fn_api_Fnv4.eq slices_IndexFunc_api_Fn_api_Fnv5) Tryz.func45 (by kernel_rfl) (.cons slices_IndexFunc_api_Fn_api_Fnv5.ok .nil) [] (by kernel_rfl) .nil
/-- function 44: sheerleg/image.Check$4 -/
abbrev T_image_Checkfn4v2 : Type := Tc10 → (Bool → Tc10 → Option Bool) → Option Bool
noncomputable def image_Checkfn4v2.body (image_oddv2 : T_image_oddv2) (slices_ContainsFunc_api_Fn_api_Fnv4 : T_slices_ContainsFunc_api_Fn_api_Fnv4) : T_image_Checkfn4v2 := fun t1928 k1 =>
  (image_oddv2 t1928
  (fun t1930 => (slices_ContainsFunc_api_Fn_api_Fnv4 t1928.2.2.1 t1930
  (fun b1948 t1949 => (k1 b1948 t1928)))))
noncomputable def image_Checkfn4v2 : T_image_Checkfn4v2 := image_Checkfn4v2.body image_oddv2 slices_ContainsFunc_api_Fn_api_Fnv4
def image_Checkfn4v2.p : FPat := fp 44 (ps (pq [0, 0] 0 0) pz) (pl (po [0, 0] 40 5 (es Ty14 (pl eh pz))) pz)
def image_Checkfn4v2.g (F : T_image_Checkfn4v2) (v : image_Checkfn4v2.p.T) (k : KR) : Option Bool := F v.2.1.1 (fun y0 y1 => k (.d ⟨.bool, y0⟩) [([0, 0], ⟨40, 5, (.data Ty14 [y1])⟩)])
theorem image_Checkfn4v2.eq (F0 : T_image_oddv2) (F1 : T_slices_ContainsFunc_api_Fn_api_Fnv4) : ∀ v k, exF Tryz.f44 image_Checkfn4v2.p [⟨image_oddv2.p, image_oddv2.g F0⟩, ⟨slices_ContainsFunc_api_Fn_api_Fnv4.p, slices_ContainsFunc_api_Fn_api_Fnv4.g F1⟩] [] [] v k = image_Checkfn4v2.g (image_Checkfn4v2.body F0 F1) v k := fun v k => by kernel_rfl
theorem image_Checkfn4v2.ok : okF 4 image_Checkfn4v2.p (image_Checkfn4v2.g image_Checkfn4v2) := fn2 (image_Checkfn4v2.eq image_oddv2 slices_ContainsFunc_api_Fn_api_Fnv4) Tryz.func44 (by kernel_rfl) (.cons image_oddv2.ok (.cons slices_ContainsFunc_api_Fn_api_Fnv4.ok .nil)) [] (by kernel_rfl) .nil
/-- function 82: sheerleg/image.look$1 -/
abbrev T_image_lookfn1v13 : Type := Tc10 → Int → (Int → Tc10 → Int → Option Bool) → Option Bool
noncomputable def image_lookfn1v13.body (image_Checkfn4v2 : T_image_Checkfn4v2) : T_image_lookfn1v13 := fun t1926 n1927 k1 =>
  (image_Checkfn4v2 t1926
  (fun b1950 t1951 => (cond_ b1950 (k1 n1927 t1951 n1927) (k1 (0 : Int) t1951 n1927))))
noncomputable def image_lookfn1v13 : T_image_lookfn1v13 := image_lookfn1v13.body image_Checkfn4v2
def image_lookfn1v13.p : FPat := fp 82 (ps (pq [0, 0] 0 0) (ps (pq [0, 2] 0 0) pz)) (pl (po [0, 0] 34 1 (em (pl (pf 44 pz (ps (pq [0, 1] 0 0) pz)) pz))) (pl (po [0, 1] 40 5 (es Ty14 (pl eh pz))) (pl (po [0, 2] 43 1 (es (.int .i64) (pl eh pz))) pz)))
def image_lookfn1v13.g (F : T_image_lookfn1v13) (v : image_lookfn1v13.p.T) (k : KR) : Option Bool := F v.2.2.1.1 v.2.2.2.1.1 (fun y0 y1 y2 => k (.d ⟨(.int .i64), y0⟩) [([0, 0], ⟨34, 1, (.mix [(.fn (.func 44) [] [(.ptr [0, 1] 0 0)])])⟩), ([0, 1], ⟨40, 5, (.data Ty14 [y1])⟩), ([0, 2], ⟨43, 1, (.data (.int .i64) [y2])⟩)])
theorem image_lookfn1v13.eq (F0 : T_image_Checkfn4v2) : ∀ v k, exF Tryz.f82 image_lookfn1v13.p [⟨image_Checkfn4v2.p, image_Checkfn4v2.g F0⟩] [] [] v k = image_lookfn1v13.g (image_lookfn1v13.body F0) v k := fun v k => by kernel_rfl
theorem image_lookfn1v13.ok : okF 5 image_lookfn1v13.p (image_lookfn1v13.g image_lookfn1v13) := fn2 (image_lookfn1v13.eq image_Checkfn4v2) Tryz.func82 (by kernel_rfl) (.cons image_Checkfn4v2.ok .nil) [] (by kernel_rfl) .nil
/-- function 48: the loop in block 1 -/
abbrev T_runs_Checkv2_L1 : Type := Tc7 → Int → Int → Tc7 → Int → Int → (Int → Option Bool) → (Tc7 → Option Bool) → Option Bool
noncomputable def runs_Checkv2_L1.body (runs_Checkv2_L1 : T_runs_Checkv2_L1) : T_runs_Checkv2_L1 := fun ts1958 n1959 n1960 ts1961 n1962 n1963 k1 k2 =>
  (cond_ (decide (n1963 < n1962)) (cond_ ((decide ((0 : Int) ≤ n1963)) && (decide (n1963 < (List.length ts1961 : Int)))) (cond_ (! (decide ((List.getD ts1961 (Int.toNat n1963) (0, (0, (0, (false, (0, ())))))).1 ≤ n1960))) (cond_ (! (decide ((List.getD ts1961 (Int.toNat n1963) (0, (0, (0, (false, (0, ())))))).1 ≥ n1959))) (cond_ (n1963 == (0 : Int)) (cond_ ((List.getD ts1961 (Int.toNat n1963) (0, (0, (0, (false, (0, ())))))).1 != (0 : Int)) (k1 (9 : Int)) (runs_Checkv2_L1 ts1958 n1959 (List.getD ts1961 (Int.toNat n1963) (0, (0, (0, (false, (0, ())))))).1 ts1961 n1962 (IntKind.wrap .i64 (n1963 + (1 : Int))) k1 k2)) (runs_Checkv2_L1 ts1958 n1959 (List.getD ts1961 (Int.toNat n1963) (0, (0, (0, (false, (0, ())))))).1 ts1961 n1962 (IntKind.wrap .i64 (n1963 + (1 : Int))) k1 k2)) (k1 (9 : Int))) (k1 (9 : Int))) none) (k2 ts1958))
noncomputable def runs_Checkv2_L1 : Nat → T_runs_Checkv2_L1
  | 0 => fun _ _ _ _ _ _ _ _ => none
  | n + 1 => runs_Checkv2_L1.body (runs_Checkv2_L1 n)
def runs_Checkv2_L1.p : LPat := lp 2 67 [0, 1, 5, 20, 21, 22] (pl (pb 0 127 Ty7) (pl (pd (.int .i64)) (pl (pd (.int .i64)) (pl (pb 0 127 Ty7) (pl (pd (.int .i64)) (pl (pd (.int .i64)) pz)))))) pz
def runs_Checkv2_L1.g (F : T_runs_Checkv2_L1) (v : runs_Checkv2_L1.p.T) (k : KE) : Option Bool := F v.1.1 v.1.2.1 v.1.2.2.1 v.1.2.2.2.1 v.1.2.2.2.2.1 v.1.2.2.2.2.2.1 (fun y0 => k .ret ⟨fillS 67 [4] [(.d ⟨(.int .i64), y0⟩)], [], 2⟩) (fun y0 => k (.exit 1) ⟨fillS 67 [0] [(.bv 0 127 Ty7 y0)], [], 2⟩)
theorem runs_Checkv2_L1.step (S : T_runs_Checkv2_L1) : ∀ v k, exR 48 Tryz.f48 1 runs_Checkv2_L1.p [] [] [] (runs_Checkv2_L1.g S) v k = runs_Checkv2_L1.g (runs_Checkv2_L1.body S) v k := fun v k => by kernel_rfl
theorem runs_Checkv2_L1.ok : okL 48 Tryz.f48 0 1 runs_Checkv2_L1.p (runs_Checkv2_L1.g (runs_Checkv2_L1 ROUNDS)) := loop2 (G := fun n => runs_Checkv2_L1.g (runs_Checkv2_L1 n)) (fun n => runs_Checkv2_L1.step (runs_Checkv2_L1 n)) .nil [] (by kernel_rfl) .nil (fun _ _ => rfl)
/-- function 48: the loop in block 3 -/
abbrev T_runs_Checkv2_L3 : Type := Tc7 → Int → (Int → Option Bool) → (Option Bool) → Option Bool
noncomputable def runs_Checkv2_L3.body (runs_Checkv2_L3 : T_runs_Checkv2_L3) : T_runs_Checkv2_L3 := fun ts1966 n1967 k1 k2 =>
  (cond_ (decide (n1967 < (List.length ts1966 : Int))) (cond_ ((decide ((0 : Int) ≤ n1967)) && (decide (n1967 < (List.length ts1966 : Int)))) (cond_ ((decide ((0 : Int) ≤ (IntKind.wrap .i64 (n1967 - (1 : Int))))) && (decide ((IntKind.wrap .i64 (n1967 - (1 : Int))) < (List.length ts1966 : Int)))) (cond_ (((List.getD ts1966 (Int.toNat n1967) (0, (0, (0, (false, (0, ())))))).2.1 == (List.getD ts1966 (Int.toNat (IntKind.wrap .i64 (n1967 - (1 : Int)))) (0, (0, (0, (false, (0, ())))))).2.1) && (((List.getD ts1966 (Int.toNat n1967) (0, (0, (0, (false, (0, ())))))).2.2.1 == (List.getD ts1966 (Int.toNat (IntKind.wrap .i64 (n1967 - (1 : Int)))) (0, (0, (0, (false, (0, ())))))).2.2.1) && (((List.getD ts1966 (Int.toNat n1967) (0, (0, (0, (false, (0, ())))))).2.2.2.1 == (List.getD ts1966 (Int.toNat (IntKind.wrap .i64 (n1967 - (1 : Int)))) (0, (0, (0, (false, (0, ())))))).2.2.2.1) && (((List.getD ts1966 (Int.toNat n1967) (0, (0, (0, (false, (0, ())))))).2.2.2.2.1 == (List.getD ts1966 (Int.toNat (IntKind.wrap .i64 (n1967 - (1 : Int)))) (0, (0, (0, (false, (0, ())))))).2.2.2.2.1) && true)))) (k1 (12 : Int)) (runs_Checkv2_L3 ts1966 (IntKind.wrap .i64 (n1967 + (1 : Int))) k1 k2)) none) none) (k2))
noncomputable def runs_Checkv2_L3 : Nat → T_runs_Checkv2_L3
  | 0 => fun _ _ _ _ => none
  | n + 1 => runs_Checkv2_L3.body (runs_Checkv2_L3 n)
def runs_Checkv2_L3.p : LPat := lp 2 67 [0, 8] (pl (pb 0 127 Ty7) (pl (pd (.int .i64)) pz)) pz
def runs_Checkv2_L3.g (F : T_runs_Checkv2_L3) (v : runs_Checkv2_L3.p.T) (k : KE) : Option Bool := F v.1.1 v.1.2.1 (fun y0 => k .ret ⟨fillS 67 [4] [(.d ⟨(.int .i64), y0⟩)], [], 2⟩) (k (.exit 3) ⟨fillS 67 [] [], [], 2⟩)
theorem runs_Checkv2_L3.step (S : T_runs_Checkv2_L3) : ∀ v k, exR 48 Tryz.f48 3 runs_Checkv2_L3.p [] [] [] (runs_Checkv2_L3.g S) v k = runs_Checkv2_L3.g (runs_Checkv2_L3.body S) v k := fun v k => by kernel_rfl
theorem runs_Checkv2_L3.ok : okL 48 Tryz.f48 0 3 runs_Checkv2_L3.p (runs_Checkv2_L3.g (runs_Checkv2_L3 ROUNDS)) := loop2 (G := fun n => runs_Checkv2_L3.g (runs_Checkv2_L3 n)) (fun n => runs_Checkv2_L3.step (runs_Checkv2_L3 n)) .nil [] (by kernel_rfl) .nil (fun _ _ => rfl)
/-- function 48: sheerleg/runs.Check -/
abbrev T_runs_Checkv2 : Type := Tc7 → Int → (Int → Option Bool) → Option Bool
noncomputable def runs_Checkv2.body (runs_Checkv2_L1 : T_runs_Checkv2_L1) (runs_Checkv2_L3 : T_runs_Checkv2_L3) : T_runs_Checkv2 := fun ts1956 n1957 k1 =>
  (cond_ (decide ((List.length ts1956 : Int) > (4096 : Int))) (k1 (19 : Int)) (cond_ (! (((List.length ts1956 : Int) == (0 : Int)) == (decide (n1957 ≤ (0 : Int))))) (k1 (9 : Int)) (runs_Checkv2_L1 ts1956 n1957 (-1 : Int) ts1956 (List.length ts1956 : Int) (0 : Int)
  (fun n1964 => (k1 n1964))
  (fun ts1965 => (runs_Checkv2_L3 ts1965 (1 : Int)
  (fun n1968 => (k1 n1968))
  (k1 (0 : Int)))))))
noncomputable def runs_Checkv2 : T_runs_Checkv2 := runs_Checkv2.body (runs_Checkv2_L1 ROUNDS) (runs_Checkv2_L3 ROUNDS)
def runs_Checkv2.p : FPat := fp 48 (pl (pb 0 127 Ty7) (pl (pd (.int .i64)) pz)) pz
def runs_Checkv2.g (F : T_runs_Checkv2) (v : runs_Checkv2.p.T) (k : KR) : Option Bool := F v.1.1 v.1.2.1 (fun y0 => k (.d ⟨(.int .i64), y0⟩) [])
theorem runs_Checkv2.eq (L0 : T_runs_Checkv2_L1) (L1 : T_runs_Checkv2_L3) : ∀ v k, exF Tryz.f48 runs_Checkv2.p [] [] [⟨1, runs_Checkv2_L1.p, runs_Checkv2_L1.g L0⟩, ⟨3, runs_Checkv2_L3.p, runs_Checkv2_L3.g L1⟩] v k = runs_Checkv2.g (runs_Checkv2.body L0 L1) v k := fun v k => by kernel_rfl
theorem runs_Checkv2.ok : okF 1 runs_Checkv2.p (runs_Checkv2.g runs_Checkv2) := fn2 (runs_Checkv2.eq (runs_Checkv2_L1 ROUNDS) (runs_Checkv2_L3 ROUNDS)) Tryz.func48 (by kernel_rfl) .nil [1, 3] (by kernel_rfl) (.cons runs_Checkv2_L1.ok (.cons runs_Checkv2_L3.ok .nil))
/-- function 47: sheerleg/image.Check$5 -/
abbrev T_image_Checkfn5v2 : Type := Tc10 → (Int → Tc10 → Option Bool) → Option Bool
noncomputable def image_Checkfn5v2.body (runs_Checkv2 : T_runs_Checkv2) : T_image_Checkfn5v2 := fun t1955 k1 =>
  (runs_Checkv2 t1955.2.2.2.1 (((List.length t1955.1) : Nat) : Int)
  (fun n1969 => (k1 n1969 t1955)))
noncomputable def image_Checkfn5v2 : T_image_Checkfn5v2 := image_Checkfn5v2.body runs_Checkv2
def image_Checkfn5v2.p : FPat := fp 47 (ps (pq [0, 0] 0 0) pz) (pl (po [0, 0] 40 5 (es Ty14 (pl eh pz))) pz)
def image_Checkfn5v2.g (F : T_image_Checkfn5v2) (v : image_Checkfn5v2.p.T) (k : KR) : Option Bool := F v.2.1.1 (fun y0 y1 => k (.d ⟨(.int .i64), y0⟩) [([0, 0], ⟨40, 5, (.data Ty14 [y1])⟩)])
theorem image_Checkfn5v2.eq (F0 : T_runs_Checkv2) : ∀ v k, exF Tryz.f47 image_Checkfn5v2.p [⟨runs_Checkv2.p, runs_Checkv2.g F0⟩] [] [] v k = image_Checkfn5v2.g (image_Checkfn5v2.body F0) v k := fun v k => by kernel_rfl
theorem image_Checkfn5v2.ok : okF 2 image_Checkfn5v2.p (image_Checkfn5v2.g image_Checkfn5v2) := fn2 (image_Checkfn5v2.eq runs_Checkv2) Tryz.func47 (by kernel_rfl) (.cons runs_Checkv2.ok .nil) [] (by kernel_rfl) .nil
/-- function 50: sheerleg/image.Check$6$1 -/
abbrev T_image_Checkfn6fn1v1 : Type := Tc5 → Tc10 → (Bool → Tc10 → Option Bool) → Option Bool
noncomputable def image_Checkfn6fn1v1.body : T_image_Checkfn6fn1v1 := fun t1983 t1984 k1 =>
  (k1 (t1983.2.2.1 == t1984.2.2.2.2.1) t1984)
noncomputable def image_Checkfn6fn1v1 : T_image_Checkfn6fn1v1 := image_Checkfn6fn1v1.body
def image_Checkfn6fn1v1.p : FPat := fp 50 (pl (pd Ty11) (ps (pq [0, 0] 0 0) pz)) (pl (po [0, 0] 40 5 (es Ty14 (pl eh pz))) pz)
def image_Checkfn6fn1v1.g (F : T_image_Checkfn6fn1v1) (v : image_Checkfn6fn1v1.p.T) (k : KR) : Option Bool := F v.1.1 v.2.1.1 (fun y0 y1 => k (.d ⟨.bool, y0⟩) [([0, 0], ⟨40, 5, (.data Ty14 [y1])⟩)])
theorem image_Checkfn6fn1v1.eq : ∀ v k, exF Tryz.f50 image_Checkfn6fn1v1.p [] [] [] v k = image_Checkfn6fn1v1.g (image_Checkfn6fn1v1.body) v k := fun v k => by kernel_rfl
theorem image_Checkfn6fn1v1.ok : okF 1 image_Checkfn6fn1v1.p (image_Checkfn6fn1v1.g image_Checkfn6fn1v1) := fn2 (image_Checkfn6fn1v1.eq) Tryz.func50 (by kernel_rfl) .nil [] (by kernel_rfl) .nil
/-- function 56: the loop in block 0 -/
abbrev T_slices_IndexFunc_api_Fn_api_Fnv6_L0 : Type := Tc8 → Int → Int → Tc10 → (Int → Tc10 → Option Bool) → (Tc10 → Option Bool) → Option Bool
noncomputable def slices_IndexFunc_api_Fn_api_Fnv6_L0.body (slices_IndexFunc_api_Fn_api_Fnv6_L0 : T_slices_IndexFunc_api_Fn_api_Fnv6_L0) (image_Checkfn6fn1v1 : T_image_Checkfn6fn1v1) : T_slices_IndexFunc_api_Fn_api_Fnv6_L0 := fun ts1979 n1980 n1981 t1982 k1 k2 =>
  (cond_ (decide (n1981 < n1980)) (cond_ ((decide ((0 : Int) ≤ n1981)) && (decide (n1981 < (List.length ts1979 : Int)))) (image_Checkfn6fn1v1 (List.getD ts1979 (Int.toNat n1981) (0, (0, (0, (0, (0, (0, ()))))))) t1982
  (fun b1985 t1986 => (cond_ b1985 (k1 n1981 t1986) (slices_IndexFunc_api_Fn_api_Fnv6_L0 ts1979 n1980 (IntKind.wrap .i64 (n1981 + (1 : Int))) t1986 k1 k2)))) none) (k2 t1982))
noncomputable def slices_IndexFunc_api_Fn_api_Fnv6_L0 : Nat → T_slices_IndexFunc_api_Fn_api_Fnv6_L0
  | 0 => fun _ _ _ _ _ _ => none
  | n + 1 => slices_IndexFunc_api_Fn_api_Fnv6_L0.body (slices_IndexFunc_api_Fn_api_Fnv6_L0 n) image_Checkfn6fn1v1
def slices_IndexFunc_api_Fn_api_Fnv6_L0.p : LPat := lp 2 19 [0, 1, 7, 8] (pl (pb 0 78 Ty11) (pl (pf 50 pz (ps (pq [0, 0] 0 0) pz)) (pl (pd (.int .i64)) (pl (pd (.int .i64)) pz)))) (pl (po [0, 0] 40 5 (es Ty14 (pl eh pz))) pz)
def slices_IndexFunc_api_Fn_api_Fnv6_L0.g (F : T_slices_IndexFunc_api_Fn_api_Fnv6_L0) (v : slices_IndexFunc_api_Fn_api_Fnv6_L0.p.T) (k : KE) : Option Bool := F v.1.1 v.1.2.2.1 v.1.2.2.2.1 v.2.1.1 (fun y0 y1 => k .ret ⟨fillS 19 [4] [(.d ⟨(.int .i64), y0⟩)], [([0, 0], ⟨40, 5, (.data Ty14 [y1])⟩)], 2⟩) (fun y0 => k (.exit 0) ⟨fillS 19 [] [], [([0, 0], ⟨40, 5, (.data Ty14 [y0])⟩)], 2⟩)
theorem slices_IndexFunc_api_Fn_api_Fnv6_L0.step (S : T_slices_IndexFunc_api_Fn_api_Fnv6_L0) (F0 : T_image_Checkfn6fn1v1) : ∀ v k, exR 56 Tryz.f56 0 slices_IndexFunc_api_Fn_api_Fnv6_L0.p [⟨image_Checkfn6fn1v1.p, image_Checkfn6fn1v1.g F0⟩] [] [] (slices_IndexFunc_api_Fn_api_Fnv6_L0.g S) v k = slices_IndexFunc_api_Fn_api_Fnv6_L0.g (slices_IndexFunc_api_Fn_api_Fnv6_L0.body S F0) v k := fun v k => by kernel_rfl
theorem slices_IndexFunc_api_Fn_api_Fnv6_L0.ok : okL 56 Tryz.f56 1 0 slices_IndexFunc_api_Fn_api_Fnv6_L0.p (slices_IndexFunc_api_Fn_api_Fnv6_L0.g (slices_IndexFunc_api_Fn_api_Fnv6_L0 ROUNDS)) := loop2 (G := fun n => slices_IndexFunc_api_Fn_api_Fnv6_L0.g (slices_IndexFunc_api_Fn_api_Fnv6_L0 n)) (fun n => slices_IndexFunc_api_Fn_api_Fnv6_L0.step (slices_IndexFunc_api_Fn_api_Fnv6_L0 n) image_Checkfn6fn1v1) (.cons image_Checkfn6fn1v1.ok .nil) [] (by kernel_rfl) .nil (fun _ _ => rfl)
/-- function 56: slices.IndexFunc[[]sheerleg/api.Fn,sheerleg/api.Fn] -/
abbrev T_slices_IndexFunc_api_Fn_api_Fnv6 : Type := Tc8 → Tc10 → (Int → Tc10 → Option Bool) → Option Bool
noncomputable def slices_IndexFunc_api_Fn_api_Fnv6.body (slices_IndexFunc_api_Fn_api_Fnv6_L0 : T_slices_IndexFunc_api_Fn_api_Fnv6_L0) : T_slices_IndexFunc_api_Fn_api_Fnv6 := fun ts1977 t1978 k1 =>
  (slices_IndexFunc_api_Fn_api_Fnv6_L0 ts1977 (List.length ts1977 : Int) (0 : Int) t1978
  (fun n1987 t1988 => (k1 n1987 t1988))
  (fun t1989 => (k1 (-1 : Int) t1989)))
noncomputable def slices_IndexFunc_api_Fn_api_Fnv6 : T_slices_IndexFunc_api_Fn_api_Fnv6 := slices_IndexFunc_api_Fn_api_Fnv6.body (slices_IndexFunc_api_Fn_api_Fnv6_L0 ROUNDS)
def slices_IndexFunc_api_Fn_api_Fnv6.p : FPat := fp 56 (pl (pb 0 78 Ty11) (pl (pf 50 pz (ps (pq [0, 0] 0 0) pz)) pz)) (pl (po [0, 0] 40 5 (es Ty14 (pl eh pz))) pz)
def slices_IndexFunc_api_Fn_api_Fnv6.g (F : T_slices_IndexFunc_api_Fn_api_Fnv6) (v : slices_IndexFunc_api_Fn_api_Fnv6.p.T) (k : KR) : Option Bool := F v.1.1 v.2.1.1 (fun y0 y1 => k (.d ⟨(.int .i64), y0⟩) [([0, 0], ⟨40, 5, (.data Ty14 [y1])⟩)])
theorem slices_IndexFunc_api_Fn_api_Fnv6.eq (L0 : T_slices_IndexFunc_api_Fn_api_Fnv6_L0) : ∀ v k, exF Tryz.f56 slices_IndexFunc_api_Fn_api_Fnv6.p [] [] [⟨0, slices_IndexFunc_api_Fn_api_Fnv6_L0.p, slices_IndexFunc_api_Fn_api_Fnv6_L0.g L0⟩] v k = slices_IndexFunc_api_Fn_api_Fnv6.g (slices_IndexFunc_api_Fn_api_Fnv6.body L0) v k := fun v k => by kernel_rfl
theorem slices_IndexFunc_api_Fn_api_Fnv6.ok : okF 2 slices_IndexFunc_api_Fn_api_Fnv6.p (slices_IndexFunc_api_Fn_api_Fnv6.g slices_IndexFunc_api_Fn_api_Fnv6) := fn2 (slices_IndexFunc_api_Fn_api_Fnv6.eq (slices_IndexFunc_api_Fn_api_Fnv6_L0 ROUNDS)) Tryz.func56 (by kernel_rfl) .nil [0] (by kernel_rfl) (.cons slices_IndexFunc_api_Fn_api_Fnv6_L0.ok .nil)
/-- function 45: slices.ContainsFunc[[]sheerleg/api.Fn,sheerleg/api.Fn] -/
abbrev T_slices_ContainsFunc_api_Fn_api_Fnv5 : Type := Tc8 → Tc10 → (Bool → Tc10 → Option Bool) → Option Bool
noncomputable def slices_ContainsFunc_api_Fn_api_Fnv5.body (slices_IndexFunc_api_Fn_api_Fnv6 : T_slices_IndexFunc_api_Fn_api_Fnv6) : T_slices_ContainsFunc_api_Fn_api_Fnv5 := fun ts1975 t1976 k1 =>
  (slices_IndexFunc_api_Fn_api_Fnv6 ts1975 t1976
  (fun n1990 t1991 => (k1 (decide (n1990 ≥ (0 : Int))) t1991)))
noncomputable def slices_ContainsFunc_api_Fn_api_Fnv5 : T_slices_ContainsFunc_api_Fn_api_Fnv5 := slices_ContainsFunc_api_Fn_api_Fnv5.body slices_IndexFunc_api_Fn_api_Fnv6
def slices_ContainsFunc_api_Fn_api_Fnv5.p : FPat := fp 45 (pl (pb 0 78 Ty11) (pl (pf 50 pz (ps (pq [0, 0] 0 0) pz)) pz)) (pl (po [0, 0] 40 5 (es Ty14 (pl eh pz))) pz)
def slices_ContainsFunc_api_Fn_api_Fnv5.g (F : T_slices_ContainsFunc_api_Fn_api_Fnv5) (v : slices_ContainsFunc_api_Fn_api_Fnv5.p.T) (k : KR) : Option Bool := F v.1.1 v.2.1.1 (fun y0 y1 => k (.d ⟨.bool, y0⟩) [([0, 0], ⟨40, 5, (.data Ty14 [y1])⟩)])
theorem slices_ContainsFunc_api_Fn_api_Fnv5.eq (F0 : T_slices_IndexFunc_api_Fn_api_Fnv6) : ∀ v k, exF Tryz.f45 slices_ContainsFunc_api_Fn_api_Fnv5.p [⟨slices_IndexFunc_api_Fn_api_Fnv6.p, slices_IndexFunc_api_Fn_api_Fnv6.g F0⟩] [] [] v k = slices_ContainsFunc_api_Fn_api_Fnv5.g (slices_ContainsFunc_api_Fn_api_Fnv5.body F0) v k := fun v k => by kernel_rfl
theorem slices_ContainsFunc_api_Fn_api_Fnv5.ok : okF 3 slices_ContainsFunc_api_Fn_api_Fnv5.p (slices_ContainsFunc_api_Fn_api_Fnv5.g slices_ContainsFunc_api_Fn_api_Fnv5) := fn2 (slices_ContainsFunc_api_Fn_api_Fnv5.eq slices_IndexFunc_api_Fn_api_Fnv6) Tryz.func45 (by kernel_rfl) (.cons slices_IndexFunc_api_Fn_api_Fnv6.ok .nil) [] (by kernel_rfl) .nil
/-- function 49: sheerleg/image.Check$6 -/
abbrev T_image_Checkfn6v2 : Type := Tc10 → (Bool → Tc10 → Option Bool) → Option Bool
noncomputable def image_Checkfn6v2.body (slices_ContainsFunc_api_Fn_api_Fnv5 : T_slices_ContainsFunc_api_Fn_api_Fnv5) : T_image_Checkfn6v2 := fun t1974 k1 =>
  (slices_ContainsFunc_api_Fn_api_Fnv5 t1974.2.2.1 t1974
  (fun b1992 t1993 => (k1 (! b1992) t1993)))
noncomputable def image_Checkfn6v2 : T_image_Checkfn6v2 := image_Checkfn6v2.body slices_ContainsFunc_api_Fn_api_Fnv5
def image_Checkfn6v2.p : FPat := fp 49 (ps (pq [0, 0] 0 0) pz) (pl (po [0, 0] 40 5 (es Ty14 (pl eh pz))) pz)
def image_Checkfn6v2.g (F : T_image_Checkfn6v2) (v : image_Checkfn6v2.p.T) (k : KR) : Option Bool := F v.2.1.1 (fun y0 y1 => k (.d ⟨.bool, y0⟩) [([0, 0], ⟨40, 5, (.data Ty14 [y1])⟩)])
theorem image_Checkfn6v2.eq (F0 : T_slices_ContainsFunc_api_Fn_api_Fnv5) : ∀ v k, exF Tryz.f49 image_Checkfn6v2.p [⟨slices_ContainsFunc_api_Fn_api_Fnv5.p, slices_ContainsFunc_api_Fn_api_Fnv5.g F0⟩] [] [] v k = image_Checkfn6v2.g (image_Checkfn6v2.body F0) v k := fun v k => by kernel_rfl
theorem image_Checkfn6v2.ok : okF 4 image_Checkfn6v2.p (image_Checkfn6v2.g image_Checkfn6v2) := fn2 (image_Checkfn6v2.eq slices_ContainsFunc_api_Fn_api_Fnv5) Tryz.func49 (by kernel_rfl) (.cons slices_ContainsFunc_api_Fn_api_Fnv5.ok .nil) [] (by kernel_rfl) .nil
/-- function 82: sheerleg/image.look$1 -/
abbrev T_image_lookfn1v14 : Type := Tc10 → Int → (Int → Tc10 → Int → Option Bool) → Option Bool
noncomputable def image_lookfn1v14.body (image_Checkfn6v2 : T_image_Checkfn6v2) : T_image_lookfn1v14 := fun t1972 n1973 k1 =>
  (image_Checkfn6v2 t1972
  (fun b1994 t1995 => (cond_ b1994 (k1 n1973 t1995 n1973) (k1 (0 : Int) t1995 n1973))))
noncomputable def image_lookfn1v14 : T_image_lookfn1v14 := image_lookfn1v14.body image_Checkfn6v2
def image_lookfn1v14.p : FPat := fp 82 (ps (pq [0, 0] 0 0) (ps (pq [0, 2] 0 0) pz)) (pl (po [0, 0] 34 1 (em (pl (pf 49 pz (ps (pq [0, 1] 0 0) pz)) pz))) (pl (po [0, 1] 40 5 (es Ty14 (pl eh pz))) (pl (po [0, 2] 43 1 (es (.int .i64) (pl eh pz))) pz)))
def image_lookfn1v14.g (F : T_image_lookfn1v14) (v : image_lookfn1v14.p.T) (k : KR) : Option Bool := F v.2.2.1.1 v.2.2.2.1.1 (fun y0 y1 y2 => k (.d ⟨(.int .i64), y0⟩) [([0, 0], ⟨34, 1, (.mix [(.fn (.func 49) [] [(.ptr [0, 1] 0 0)])])⟩), ([0, 1], ⟨40, 5, (.data Ty14 [y1])⟩), ([0, 2], ⟨43, 1, (.data (.int .i64) [y2])⟩)])
theorem image_lookfn1v14.eq (F0 : T_image_Checkfn6v2) : ∀ v k, exF Tryz.f82 image_lookfn1v14.p [⟨image_Checkfn6v2.p, image_Checkfn6v2.g F0⟩] [] [] v k = image_lookfn1v14.g (image_lookfn1v14.body F0) v k := fun v k => by kernel_rfl
theorem image_lookfn1v14.ok : okF 5 image_lookfn1v14.p (image_lookfn1v14.g image_lookfn1v14) := fn2 (image_lookfn1v14.eq image_Checkfn6v2) Tryz.func82 (by kernel_rfl) (.cons image_Checkfn6v2.ok .nil) [] (by kernel_rfl) .nil
/-- function 38: the loop in block 0 -/
abbrev T_image_allv2_L0 : Type := Int → Int → Tc10 → Int → Int → Int → Int → Int → (Int → Tc10 → Int → Int → Int → Int → Int → Option Bool) → (Tc10 → Int → Int → Int → Int → Int → Option Bool) → Option Bool
noncomputable def image_allv2_L0.body (image_allv2_L0 : T_image_allv2_L0) (image_lookfn1v10 : T_image_lookfn1v10) (image_lookfn1v11 : T_image_lookfn1v11) (image_lookfn1v12 : T_image_lookfn1v12) (image_lookfn1v13 : T_image_lookfn1v13) (image_Checkfn5v2 : T_image_Checkfn5v2) (image_lookfn1v14 : T_image_lookfn1v14) : T_image_allv2_L0 := fun n1884 n1885 t1886 n1887 n1888 n1889 n1890 n1891 k1 k2 =>
  (cond_ (decide (n1885 < n1884)) (cond_ (n1885 == (0 : Int)) (image_lookfn1v10 t1886 n1887
  (fun n1897 t1898 n1899 => (cond_ (n1897 != (0 : Int)) (k1 n1897 t1898 n1899 n1888 n1889 n1890 n1891) (image_allv2_L0 n1884 (IntKind.wrap .i64 (n1885 + (1 : Int))) t1898 n1899 n1888 n1889 n1890 n1891 k1 k2)))) (cond_ (n1885 == (1 : Int)) (image_lookfn1v11 t1886 n1888
  (fun n1905 t1906 n1907 => (cond_ (n1905 != (0 : Int)) (k1 n1905 t1906 n1887 n1907 n1889 n1890 n1891) (image_allv2_L0 n1884 (IntKind.wrap .i64 (n1885 + (1 : Int))) t1906 n1887 n1907 n1889 n1890 n1891 k1 k2)))) (cond_ (n1885 == (2 : Int)) (image_lookfn1v12 t1886 n1889
  (fun n1923 t1924 n1925 => (cond_ (n1923 != (0 : Int)) (k1 n1923 t1924 n1887 n1888 n1925 n1890 n1891) (image_allv2_L0 n1884 (IntKind.wrap .i64 (n1885 + (1 : Int))) t1924 n1887 n1888 n1925 n1890 n1891 k1 k2)))) (cond_ (n1885 == (3 : Int)) (image_lookfn1v13 t1886 n1890
  (fun n1952 t1953 n1954 => (cond_ (n1952 != (0 : Int)) (k1 n1952 t1953 n1887 n1888 n1889 n1954 n1891) (image_allv2_L0 n1884 (IntKind.wrap .i64 (n1885 + (1 : Int))) t1953 n1887 n1888 n1889 n1954 n1891 k1 k2)))) (cond_ (n1885 == (4 : Int)) (image_Checkfn5v2 t1886
  (fun n1970 t1971 => (cond_ (n1970 != (0 : Int)) (k1 n1970 t1971 n1887 n1888 n1889 n1890 n1891) (image_allv2_L0 n1884 (IntKind.wrap .i64 (n1885 + (1 : Int))) t1971 n1887 n1888 n1889 n1890 n1891 k1 k2)))) (cond_ (n1885 == (5 : Int)) (image_lookfn1v14 t1886 n1891
  (fun n1996 t1997 n1998 => (cond_ (n1996 != (0 : Int)) (k1 n1996 t1997 n1887 n1888 n1889 n1890 n1998) (image_allv2_L0 n1884 (IntKind.wrap .i64 (n1885 + (1 : Int))) t1997 n1887 n1888 n1889 n1890 n1998 k1 k2)))) none)))))) (k2 t1886 n1887 n1888 n1889 n1890 n1891))
noncomputable def image_allv2_L0 : Nat → T_image_allv2_L0
  | 0 => fun _ _ _ _ _ _ _ _ _ _ => none
  | n + 1 => image_allv2_L0.body (image_allv2_L0 n) image_lookfn1v10 image_lookfn1v11 image_lookfn1v12 image_lookfn1v13 image_Checkfn5v2 image_lookfn1v14
def image_allv2_L0.p : LPat := lp 2 18 [6, 7, 8] (ps (pr [0, 0]) (pl (pd (.int .i64)) (pl (pd (.int .i64)) pz))) (pl (po [0, 0] 72 1 (em (pl (pf 82 pz (ps (pq [0, 1] 0 0) (ps (pq [0, 3] 0 0) pz))) (pl (pf 82 pz (ps (pq [0, 4] 0 0) (ps (pq [0, 5] 0 0) pz))) (pl (pf 82 pz (ps (pq [0, 6] 0 0) (ps (pq [0, 7] 0 0) pz))) (pl (pf 82 pz (ps (pq [0, 8] 0 0) (ps (pq [0, 9] 0 0) pz))) (pl (pf 47 pz (ps (pq [0, 2] 0 0) pz)) (pl (pf 82 pz (ps (pq [0, 10] 0 0) (ps (pq [0, 11] 0 0) pz))) pz)))))))) (pl (po [0, 1] 34 1 (em (pl (pf 40 pz (ps (pq [0, 2] 0 0) pz)) pz))) (pl (po [0, 2] 40 5 (es Ty14 (pl eh pz))) (pl (po [0, 3] 43 1 (es (.int .i64) (pl eh pz))) (pl (po [0, 4] 34 1 (em (pl (pf 41 pz (ps (pq [0, 2] 0 0) pz)) pz))) (pl (po [0, 5] 43 1 (es (.int .i64) (pl eh pz))) (pl (po [0, 6] 34 1 (em (pl (pf 42 pz (ps (pq [0, 2] 0 0) pz)) pz))) (pl (po [0, 7] 43 1 (es (.int .i64) (pl eh pz))) (pl (po [0, 8] 34 1 (em (pl (pf 44 pz (ps (pq [0, 2] 0 0) pz)) pz))) (pl (po [0, 9] 43 1 (es (.int .i64) (pl eh pz))) (pl (po [0, 10] 34 1 (em (pl (pf 49 pz (ps (pq [0, 2] 0 0) pz)) pz))) (pl (po [0, 11] 43 1 (es (.int .i64) (pl eh pz))) pz))))))))))))
def image_allv2_L0.g (F : T_image_allv2_L0) (v : image_allv2_L0.p.T) (k : KE) : Option Bool := F v.1.1 v.1.2.1 v.2.2.2.1.1 v.2.2.2.2.1.1 v.2.2.2.2.2.2.1.1 v.2.2.2.2.2.2.2.2.1.1 v.2.2.2.2.2.2.2.2.2.2.1.1 v.2.2.2.2.2.2.2.2.2.2.2.2.1.1 (fun y0 y1 y2 y3 y4 y5 y6 => k .ret ⟨fillS 18 [2] [(.d ⟨(.int .i64), y0⟩)], [([0, 0], ⟨72, 1, (.mix [(.fn (.func 82) [] [(.ptr [0, 1] 0 0), (.ptr [0, 3] 0 0)]), (.fn (.func 82) [] [(.ptr [0, 4] 0 0), (.ptr [0, 5] 0 0)]), (.fn (.func 82) [] [(.ptr [0, 6] 0 0), (.ptr [0, 7] 0 0)]), (.fn (.func 82) [] [(.ptr [0, 8] 0 0), (.ptr [0, 9] 0 0)]), (.fn (.func 47) [] [(.ptr [0, 2] 0 0)]), (.fn (.func 82) [] [(.ptr [0, 10] 0 0), (.ptr [0, 11] 0 0)])])⟩), ([0, 1], ⟨34, 1, (.mix [(.fn (.func 40) [] [(.ptr [0, 2] 0 0)])])⟩), ([0, 2], ⟨40, 5, (.data Ty14 [y1])⟩), ([0, 3], ⟨43, 1, (.data (.int .i64) [y2])⟩), ([0, 4], ⟨34, 1, (.mix [(.fn (.func 41) [] [(.ptr [0, 2] 0 0)])])⟩), ([0, 5], ⟨43, 1, (.data (.int .i64) [y3])⟩), ([0, 6], ⟨34, 1, (.mix [(.fn (.func 42) [] [(.ptr [0, 2] 0 0)])])⟩), ([0, 7], ⟨43, 1, (.data (.int .i64) [y4])⟩), ([0, 8], ⟨34, 1, (.mix [(.fn (.func 44) [] [(.ptr [0, 2] 0 0)])])⟩), ([0, 9], ⟨43, 1, (.data (.int .i64) [y5])⟩), ([0, 10], ⟨34, 1, (.mix [(.fn (.func 49) [] [(.ptr [0, 2] 0 0)])])⟩), ([0, 11], ⟨43, 1, (.data (.int .i64) [y6])⟩)], 2⟩) (fun y0 y1 y2 y3 y4 y5 => k (.exit 0) ⟨fillS 18 [] [], [([0, 0], ⟨72, 1, (.mix [(.fn (.func 82) [] [(.ptr [0, 1] 0 0), (.ptr [0, 3] 0 0)]), (.fn (.func 82) [] [(.ptr [0, 4] 0 0), (.ptr [0, 5] 0 0)]), (.fn (.func 82) [] [(.ptr [0, 6] 0 0), (.ptr [0, 7] 0 0)]), (.fn (.func 82) [] [(.ptr [0, 8] 0 0), (.ptr [0, 9] 0 0)]), (.fn (.func 47) [] [(.ptr [0, 2] 0 0)]), (.fn (.func 82) [] [(.ptr [0, 10] 0 0), (.ptr [0, 11] 0 0)])])⟩), ([0, 1], ⟨34, 1, (.mix [(.fn (.func 40) [] [(.ptr [0, 2] 0 0)])])⟩), ([0, 2], ⟨40, 5, (.data Ty14 [y0])⟩), ([0, 3], ⟨43, 1, (.data (.int .i64) [y1])⟩), ([0, 4], ⟨34, 1, (.mix [(.fn (.func 41) [] [(.ptr [0, 2] 0 0)])])⟩), ([0, 5], ⟨43, 1, (.data (.int .i64) [y2])⟩), ([0, 6], ⟨34, 1, (.mix [(.fn (.func 42) [] [(.ptr [0, 2] 0 0)])])⟩), ([0, 7], ⟨43, 1, (.data (.int .i64) [y3])⟩), ([0, 8], ⟨34, 1, (.mix [(.fn (.func 44) [] [(.ptr [0, 2] 0 0)])])⟩), ([0, 9], ⟨43, 1, (.data (.int .i64) [y4])⟩), ([0, 10], ⟨34, 1, (.mix [(.fn (.func 49) [] [(.ptr [0, 2] 0 0)])])⟩), ([0, 11], ⟨43, 1, (.data (.int .i64) [y5])⟩)], 2⟩)
theorem image_allv2_L0.step (S : T_image_allv2_L0) (F0 : T_image_lookfn1v10) (F1 : T_image_lookfn1v11) (F2 : T_image_lookfn1v12) (F3 : T_image_lookfn1v13) (F4 : T_image_Checkfn5v2) (F5 : T_image_lookfn1v14) : ∀ v k, exR 38 Tryz.f38 0 image_allv2_L0.p [⟨image_lookfn1v10.p, image_lookfn1v10.g F0⟩, ⟨image_lookfn1v11.p, image_lookfn1v11.g F1⟩, ⟨image_lookfn1v12.p, image_lookfn1v12.g F2⟩, ⟨image_lookfn1v13.p, image_lookfn1v13.g F3⟩, ⟨image_Checkfn5v2.p, image_Checkfn5v2.g F4⟩, ⟨image_lookfn1v14.p, image_lookfn1v14.g F5⟩] [] [] (image_allv2_L0.g S) v k = image_allv2_L0.g (image_allv2_L0.body S F0 F1 F2 F3 F4 F5) v k := fun v k => by kernel_rfl
theorem image_allv2_L0.ok : okL 38 Tryz.f38 5 0 image_allv2_L0.p (image_allv2_L0.g (image_allv2_L0 ROUNDS)) := loop2 (G := fun n => image_allv2_L0.g (image_allv2_L0 n)) (fun n => image_allv2_L0.step (image_allv2_L0 n) image_lookfn1v10 image_lookfn1v11 image_lookfn1v12 image_lookfn1v13 image_Checkfn5v2 image_lookfn1v14) (.cons image_lookfn1v10.ok (.cons image_lookfn1v11.ok (.cons image_lookfn1v12.ok (.cons image_lookfn1v13.ok (.cons image_Checkfn5v2.ok (.cons image_lookfn1v14.ok .nil)))))) [] (by kernel_rfl) .nil (fun _ _ => rfl)
/-- function 38: sheerleg/image.all -/
abbrev T_image_allv2 : Type := Tc10 → Int → Int → Int → Int → Int → (Int → Tc10 → Int → Int → Int → Int → Int → Option Bool) → Option Bool
noncomputable def image_allv2.body (image_allv2_L0 : T_image_allv2_L0) : T_image_allv2 := fun t1878 n1879 n1880 n1881 n1882 n1883 k1 =>
  (image_allv2_L0 (6 : Int) (0 : Int) t1878 n1879 n1880 n1881 n1882 n1883
  (fun n1999 t2000 n2001 n2002 n2003 n2004 n2005 => (k1 n1999 t2000 n2001 n2002 n2003 n2004 n2005))
  (fun t2006 n2007 n2008 n2009 n2010 n2011 => (k1 (0 : Int) t2006 n2007 n2008 n2009 n2010 n2011)))
noncomputable def image_allv2 : T_image_allv2 := image_allv2.body (image_allv2_L0 ROUNDS)
def image_allv2.p : FPat := fp 38 (ps (pr [0, 0]) pz) (pl (po [0, 0] 72 1 (em (pl (pf 82 pz (ps (pq [0, 1] 0 0) (ps (pq [0, 3] 0 0) pz))) (pl (pf 82 pz (ps (pq [0, 4] 0 0) (ps (pq [0, 5] 0 0) pz))) (pl (pf 82 pz (ps (pq [0, 6] 0 0) (ps (pq [0, 7] 0 0) pz))) (pl (pf 82 pz (ps (pq [0, 8] 0 0) (ps (pq [0, 9] 0 0) pz))) (pl (pf 47 pz (ps (pq [0, 2] 0 0) pz)) (pl (pf 82 pz (ps (pq [0, 10] 0 0) (ps (pq [0, 11] 0 0) pz))) pz)))))))) (pl (po [0, 1] 34 1 (em (pl (pf 40 pz (ps (pq [0, 2] 0 0) pz)) pz))) (pl (po [0, 2] 40 5 (es Ty14 (pl eh pz))) (pl (po [0, 3] 43 1 (es (.int .i64) (pl eh pz))) (pl (po [0, 4] 34 1 (em (pl (pf 41 pz (ps (pq [0, 2] 0 0) pz)) pz))) (pl (po [0, 5] 43 1 (es (.int .i64) (pl eh pz))) (pl (po [0, 6] 34 1 (em (pl (pf 42 pz (ps (pq [0, 2] 0 0) pz)) pz))) (pl (po [0, 7] 43 1 (es (.int .i64) (pl eh pz))) (pl (po [0, 8] 34 1 (em (pl (pf 44 pz (ps (pq [0, 2] 0 0) pz)) pz))) (pl (po [0, 9] 43 1 (es (.int .i64) (pl eh pz))) (pl (po [0, 10] 34 1 (em (pl (pf 49 pz (ps (pq [0, 2] 0 0) pz)) pz))) (pl (po [0, 11] 43 1 (es (.int .i64) (pl eh pz))) pz))))))))))))
def image_allv2.g (F : T_image_allv2) (v : image_allv2.p.T) (k : KR) : Option Bool := F v.2.2.2.1.1 v.2.2.2.2.1.1 v.2.2.2.2.2.2.1.1 v.2.2.2.2.2.2.2.2.1.1 v.2.2.2.2.2.2.2.2.2.2.1.1 v.2.2.2.2.2.2.2.2.2.2.2.2.1.1 (fun y0 y1 y2 y3 y4 y5 y6 => k (.d ⟨(.int .i64), y0⟩) [([0, 0], ⟨72, 1, (.mix [(.fn (.func 82) [] [(.ptr [0, 1] 0 0), (.ptr [0, 3] 0 0)]), (.fn (.func 82) [] [(.ptr [0, 4] 0 0), (.ptr [0, 5] 0 0)]), (.fn (.func 82) [] [(.ptr [0, 6] 0 0), (.ptr [0, 7] 0 0)]), (.fn (.func 82) [] [(.ptr [0, 8] 0 0), (.ptr [0, 9] 0 0)]), (.fn (.func 47) [] [(.ptr [0, 2] 0 0)]), (.fn (.func 82) [] [(.ptr [0, 10] 0 0), (.ptr [0, 11] 0 0)])])⟩), ([0, 1], ⟨34, 1, (.mix [(.fn (.func 40) [] [(.ptr [0, 2] 0 0)])])⟩), ([0, 2], ⟨40, 5, (.data Ty14 [y1])⟩), ([0, 3], ⟨43, 1, (.data (.int .i64) [y2])⟩), ([0, 4], ⟨34, 1, (.mix [(.fn (.func 41) [] [(.ptr [0, 2] 0 0)])])⟩), ([0, 5], ⟨43, 1, (.data (.int .i64) [y3])⟩), ([0, 6], ⟨34, 1, (.mix [(.fn (.func 42) [] [(.ptr [0, 2] 0 0)])])⟩), ([0, 7], ⟨43, 1, (.data (.int .i64) [y4])⟩), ([0, 8], ⟨34, 1, (.mix [(.fn (.func 44) [] [(.ptr [0, 2] 0 0)])])⟩), ([0, 9], ⟨43, 1, (.data (.int .i64) [y5])⟩), ([0, 10], ⟨34, 1, (.mix [(.fn (.func 49) [] [(.ptr [0, 2] 0 0)])])⟩), ([0, 11], ⟨43, 1, (.data (.int .i64) [y6])⟩)])
theorem image_allv2.eq (L0 : T_image_allv2_L0) : ∀ v k, exF Tryz.f38 image_allv2.p [] [] [⟨0, image_allv2_L0.p, image_allv2_L0.g L0⟩] v k = image_allv2.g (image_allv2.body L0) v k := fun v k => by kernel_rfl
theorem image_allv2.ok : okF 6 image_allv2.p (image_allv2.g image_allv2) := fn2 (image_allv2.eq (image_allv2_L0 ROUNDS)) Tryz.func38 (by kernel_rfl) .nil [0] (by kernel_rfl) (.cons image_allv2_L0.ok .nil)
/-- function 10: sheerleg/image.Check -/
abbrev T_image_Checkv2 : Type := Tc10 → (Int → Option Bool) → Option Bool
noncomputable def image_Checkv2.body (image_lookv10 : T_image_lookv10) (image_lookv11 : T_image_lookv11) (image_lookv12 : T_image_lookv12) (image_lookv13 : T_image_lookv13) (image_lookv14 : T_image_lookv14) (image_allv2 : T_image_allv2) : T_image_Checkv2 := fun t1857 k1 =>
  (image_lookv10 (19 : Int) t1857
  (fun t1860 n1861 => (image_lookv11 (3 : Int) t1860
  (fun t1864 n1865 => (image_lookv12 (9 : Int) t1864
  (fun t1868 n1869 => (image_lookv13 (8 : Int) t1868
  (fun t1872 n1873 => (image_lookv14 (15 : Int) t1872
  (fun t1876 n1877 => (image_allv2 t1876 n1861 n1865 n1869 n1873 n1877
  (fun n2012 t2013 n2014 n2015 n2016 n2017 n2018 => (k1 n2012)))))))))))))
noncomputable def image_Checkv2 : T_image_Checkv2 := image_Checkv2.body image_lookv10 image_lookv11 image_lookv12 image_lookv13 image_lookv14 image_allv2
def image_Checkv2.p : FPat := fp 10 (pl (pd Ty14) pz) pz
def image_Checkv2.g (F : T_image_Checkv2) (v : image_Checkv2.p.T) (k : KR) : Option Bool := F v.1.1 (fun y0 => k (.d ⟨(.int .i64), y0⟩) [])
theorem image_Checkv2.eq (F0 : T_image_lookv10) (F1 : T_image_lookv11) (F2 : T_image_lookv12) (F3 : T_image_lookv13) (F4 : T_image_lookv14) (F5 : T_image_allv2) : ∀ v k, exF Tryz.f10 image_Checkv2.p [⟨image_lookv10.p, image_lookv10.g F0⟩, ⟨image_lookv11.p, image_lookv11.g F1⟩, ⟨image_lookv12.p, image_lookv12.g F2⟩, ⟨image_lookv13.p, image_lookv13.g F3⟩, ⟨image_lookv14.p, image_lookv14.g F4⟩, ⟨image_allv2.p, image_allv2.g F5⟩] [] [] v k = image_Checkv2.g (image_Checkv2.body F0 F1 F2 F3 F4 F5) v k := fun v k => by kernel_rfl
theorem image_Checkv2.ok : okF 7 image_Checkv2.p (image_Checkv2.g image_Checkv2) := fn2 (image_Checkv2.eq image_lookv10 image_lookv11 image_lookv12 image_lookv13 image_lookv14 image_allv2) Tryz.func10 (by kernel_rfl) (.cons image_lookv10.ok (.cons image_lookv11.ok (.cons image_lookv12.ok (.cons image_lookv13.ok (.cons image_lookv14.ok (.cons image_allv2.ok .nil)))))) [] (by kernel_rfl) .nil
/-- function 51: the loop in block 0 -/
abbrev T_ref34_gaps_L0 : Type := Int → Int → Tc10 → (Bool → Option Bool) → (Int → Tc10 → Option Bool) → Option Bool
noncomputable def ref34_gaps_L0.body (ref34_gaps_L0 : T_ref34_gaps_L0) : T_ref34_gaps_L0 := fun n2022 n2023 t2024 k1 k2 =>
  (cond_ (decide (n2023 < (((List.length t2024.2.2.1) : Nat) : Int))) (cond_ ((decide ((0 : Int) ≤ n2023)) && (decide (n2023 < (((List.length t2024.2.2.1) : Nat) : Int)))) (cond_ (! ((List.getD t2024.2.2.1 (Int.toNat n2023) (0, (0, (0, (0, (0, (0, ()))))))).2.2.1 != n2022)) (cond_ (! (decide ((List.getD t2024.2.2.1 (Int.toNat n2023) (0, (0, (0, (0, (0, (0, ()))))))).2.2.2.1 ≤ (List.getD t2024.2.2.1 (Int.toNat n2023) (0, (0, (0, (0, (0, (0, ()))))))).2.2.1))) (cond_ (! (decide ((List.getD t2024.2.2.1 (Int.toNat n2023) (0, (0, (0, (0, (0, (0, ()))))))).2.2.2.2.1 < (List.getD t2024.2.2.1 (Int.toNat n2023) (0, (0, (0, (0, (0, (0, ()))))))).2.2.2.1))) (cond_ (decide ((List.getD t2024.2.2.1 (Int.toNat n2023) (0, (0, (0, (0, (0, (0, ()))))))).2.2.2.2.2.1 < (0 : Int))) (k1 true) (ref34_gaps_L0 (List.getD t2024.2.2.1 (Int.toNat n2023) (0, (0, (0, (0, (0, (0, ()))))))).2.2.2.2.1 (IntKind.wrap .i64 (n2023 + (1 : Int))) t2024 k1 k2)) (k1 true)) (k1 true)) (k1 true)) none) (k2 n2022 t2024))
noncomputable def ref34_gaps_L0 : Nat → T_ref34_gaps_L0
  | 0 => fun _ _ _ _ _ => none
  | n + 1 => ref34_gaps_L0.body (ref34_gaps_L0 n)
def ref34_gaps_L0.p : LPat := lp 2 48 [1, 3, 4] (ps (pq [1, 0] 0 0) (pl (pd (.int .i64)) (pl (pd (.int .i64)) pz))) (pl (po [1, 0] 40 5 (es Ty14 (pl eh pz))) pz)
def ref34_gaps_L0.g (F : T_ref34_gaps_L0) (v : ref34_gaps_L0.p.T) (k : KE) : Option Bool := F v.1.1 v.1.2.1 v.2.1.1 (fun y0 => k .ret ⟨fillS 48 [2] [(.d ⟨.bool, y0⟩)], [], 2⟩) (fun y0 y1 => k (.exit 0) ⟨fillS 48 [1, 3] [(.ptr [1, 0] 0 0), (.d ⟨(.int .i64), y0⟩)], [([1, 0], ⟨40, 5, (.data Ty14 [y1])⟩)], 2⟩)
theorem ref34_gaps_L0.step (S : T_ref34_gaps_L0) : ∀ v k, exR 51 Tryz.f51 0 ref34_gaps_L0.p [] [] [] (ref34_gaps_L0.g S) v k = ref34_gaps_L0.g (ref34_gaps_L0.body S) v k := fun v k => by kernel_rfl
theorem ref34_gaps_L0.ok : okL 51 Tryz.f51 0 0 ref34_gaps_L0.p (ref34_gaps_L0.g (ref34_gaps_L0 ROUNDS)) := loop2 (G := fun n => ref34_gaps_L0.g (ref34_gaps_L0 n)) (fun n => ref34_gaps_L0.step (ref34_gaps_L0 n)) .nil [] (by kernel_rfl) .nil (fun _ _ => rfl)
/-- function 51: sheerleg/sheerlegref34.gaps -/
abbrev T_ref34_gaps : Type := Tc10 → (Bool → Option Bool) → Option Bool
noncomputable def ref34_gaps.body (ref34_gaps_L0 : T_ref34_gaps_L0) : T_ref34_gaps := fun t2021 k1 =>
  (ref34_gaps_L0 (2 : Int) (0 : Int) t2021
  (fun b2025 => (k1 b2025))
  (fun n2026 t2027 => (k1 (n2026 != (((List.length t2027.1) : Nat) : Int)))))
noncomputable def ref34_gaps : T_ref34_gaps := ref34_gaps.body (ref34_gaps_L0 ROUNDS)
def ref34_gaps.p : FPat := fp 51 (pl (pd Ty14) pz) pz
def ref34_gaps.g (F : T_ref34_gaps) (v : ref34_gaps.p.T) (k : KR) : Option Bool := F v.1.1 (fun y0 => k (.d ⟨.bool, y0⟩) [])
theorem ref34_gaps.eq (L0 : T_ref34_gaps_L0) : ∀ v k, exF Tryz.f51 ref34_gaps.p [] [] [⟨0, ref34_gaps_L0.p, ref34_gaps_L0.g L0⟩] v k = ref34_gaps.g (ref34_gaps.body L0) v k := fun v k => by kernel_rfl
theorem ref34_gaps.ok : okF 1 ref34_gaps.p (ref34_gaps.g ref34_gaps) := fn2 (ref34_gaps.eq (ref34_gaps_L0 ROUNDS)) Tryz.func51 (by kernel_rfl) .nil [0] (by kernel_rfl) (.cons ref34_gaps_L0.ok .nil)
/-- function 52: sheerleg/sheerlegref34.head -/
abbrev T_ref34_head : Type := Tc10 → Tc5 → (Bool → Option Bool) → Option Bool
noncomputable def ref34_head.body : T_ref34_head := fun t2031 t2032 k1 =>
  (cond_ (! (decide ((IntKind.wrap .i64 (t2032.2.2.2.1 - t2032.2.2.1)) < (1 : Int)))) (cond_ (! (decide ((IntKind.wrap .i64 (t2032.2.2.2.1 - t2032.2.2.1)) > (2 : Int)))) (cond_ ((decide ((0 : Int) ≤ (IntKind.wrap .i64 (t2032.2.2.2.1 - (1 : Int))))) && (decide ((IntKind.wrap .i64 (t2032.2.2.2.1 - (1 : Int))) < (((List.length t2031.1) : Nat) : Int)))) (cond_ ((List.getD t2031.1 (Int.toNat (IntKind.wrap .i64 (t2032.2.2.2.1 - (1 : Int)))) (0, (0, (0, (0, (0, ())))))).1 != (26 : Int)) (k1 false) (cond_ (! ((IntKind.wrap .i64 (t2032.2.2.2.1 - t2032.2.2.1)) == (1 : Int))) (cond_ ((decide ((0 : Int) ≤ t2032.2.2.1)) && (decide (t2032.2.2.1 < (((List.length t2031.1) : Nat) : Int)))) (k1 ((List.getD t2031.1 (Int.toNat t2032.2.2.1) (0, (0, (0, (0, (0, ())))))).1 == (25 : Int))) none) (k1 true))) none) (k1 false)) (k1 false))
noncomputable def ref34_head : T_ref34_head := ref34_head.body
def ref34_head.p : FPat := fp 52 (pl (pd Ty14) (pl (pd Ty11) pz)) pz
def ref34_head.g (F : T_ref34_head) (v : ref34_head.p.T) (k : KR) : Option Bool := F v.1.1 v.1.2.1 (fun y0 => k (.d ⟨.bool, y0⟩) [])
theorem ref34_head.eq : ∀ v k, exF Tryz.f52 ref34_head.p [] [] [] v k = ref34_head.g (ref34_head.body) v k := fun v k => by kernel_rfl
theorem ref34_head.ok : okF 1 ref34_head.p (ref34_head.g ref34_head) := fn2 (ref34_head.eq) Tryz.func52 (by kernel_rfl) .nil [] (by kernel_rfl) .nil
/-- function 14: the loop in block 0 -/
abbrev T_ref34_Check_L0 : Type := Int → Tc10 → (Int → Option Bool) → (Tc10 → Option Bool) → Option Bool
noncomputable def ref34_Check_L0.body (ref34_Check_L0 : T_ref34_Check_L0) (ref34_head : T_ref34_head) : T_ref34_Check_L0 := fun n2029 t2030 k1 k2 =>
  (cond_ (decide (n2029 < (((List.length t2030.2.2.1) : Nat) : Int))) (cond_ ((decide ((0 : Int) ≤ n2029)) && (decide (n2029 < (((List.length t2030.2.2.1) : Nat) : Int)))) (ref34_head t2030 (List.getD t2030.2.2.1 (Int.toNat n2029) (0, (0, (0, (0, (0, (0, ())))))))
  (fun b2033 => (cond_ (! b2033) (k1 (8 : Int)) (ref34_Check_L0 (IntKind.wrap .i64 (n2029 + (1 : Int))) t2030 k1 k2)))) none) (k2 t2030))
noncomputable def ref34_Check_L0 : Nat → T_ref34_Check_L0
  | 0 => fun _ _ _ _ => none
  | n + 1 => ref34_Check_L0.body (ref34_Check_L0 n) ref34_head
def ref34_Check_L0.p : LPat := lp 2 78 [1, 3] (ps (pq [1, 0] 0 0) (pl (pd (.int .i64)) pz)) (pl (po [1, 0] 40 5 (es Ty14 (pl eh pz))) pz)
def ref34_Check_L0.g (F : T_ref34_Check_L0) (v : ref34_Check_L0.p.T) (k : KE) : Option Bool := F v.1.1 v.2.1.1 (fun y0 => k .ret ⟨fillS 78 [2] [(.d ⟨(.int .i64), y0⟩)], [], 2⟩) (fun y0 => k (.exit 0) ⟨fillS 78 [1] [(.ptr [1, 0] 0 0)], [([1, 0], ⟨40, 5, (.data Ty14 [y0])⟩)], 2⟩)
theorem ref34_Check_L0.step (S : T_ref34_Check_L0) (F0 : T_ref34_head) : ∀ v k, exR 14 Tryz.f14 0 ref34_Check_L0.p [⟨ref34_head.p, ref34_head.g F0⟩] [] [] (ref34_Check_L0.g S) v k = ref34_Check_L0.g (ref34_Check_L0.body S F0) v k := fun v k => by kernel_rfl
theorem ref34_Check_L0.ok : okL 14 Tryz.f14 1 0 ref34_Check_L0.p (ref34_Check_L0.g (ref34_Check_L0 ROUNDS)) := loop2 (G := fun n => ref34_Check_L0.g (ref34_Check_L0 n)) (fun n => ref34_Check_L0.step (ref34_Check_L0 n) ref34_head) (.cons ref34_head.ok .nil) [] (by kernel_rfl) .nil (fun _ _ => rfl)
/-- function 53: the loop in block 0 -/
abbrev T_ref13_Check_L0 : Type := Tc7 → Int → Int → (Int → Option Bool) → (Tc7 → Option Bool) → Option Bool
noncomputable def ref13_Check_L0.body (ref13_Check_L0 : T_ref13_Check_L0) : T_ref13_Check_L0 := fun ts2038 n2039 n2040 k1 k2 =>
  (cond_ (decide (n2040 < (List.length ts2038 : Int))) (cond_ ((decide ((0 : Int) ≤ n2040)) && (decide (n2040 < (List.length ts2038 : Int)))) (cond_ (! (decide ((List.getD ts2038 (Int.toNat n2040) (0, (0, (0, (false, (0, ())))))).1 ≥ n2039))) (cond_ (n2040 == (0 : Int)) (cond_ ((decide ((0 : Int) ≤ n2040)) && (decide (n2040 < (List.length ts2038 : Int)))) (cond_ (! ((List.getD ts2038 (Int.toNat n2040) (0, (0, (0, (false, (0, ())))))).1 != (0 : Int))) (cond_ (decide (n2040 > (0 : Int))) (cond_ ((decide ((0 : Int) ≤ n2040)) && (decide (n2040 < (List.length ts2038 : Int)))) (cond_ ((decide ((0 : Int) ≤ (IntKind.wrap .i64 (n2040 - (1 : Int))))) && (decide ((IntKind.wrap .i64 (n2040 - (1 : Int))) < (List.length ts2038 : Int)))) (cond_ (decide ((List.getD ts2038 (Int.toNat n2040) (0, (0, (0, (false, (0, ())))))).1 ≤ (List.getD ts2038 (Int.toNat (IntKind.wrap .i64 (n2040 - (1 : Int)))) (0, (0, (0, (false, (0, ())))))).1)) (k1 (9 : Int)) (ref13_Check_L0 ts2038 n2039 (IntKind.wrap .i64 (n2040 + (1 : Int))) k1 k2)) none) none) (ref13_Check_L0 ts2038 n2039 (IntKind.wrap .i64 (n2040 + (1 : Int))) k1 k2)) (k1 (9 : Int))) none) (cond_ (decide (n2040 > (0 : Int))) (cond_ ((decide ((0 : Int) ≤ n2040)) && (decide (n2040 < (List.length ts2038 : Int)))) (cond_ ((decide ((0 : Int) ≤ (IntKind.wrap .i64 (n2040 - (1 : Int))))) && (decide ((IntKind.wrap .i64 (n2040 - (1 : Int))) < (List.length ts2038 : Int)))) (cond_ (decide ((List.getD ts2038 (Int.toNat n2040) (0, (0, (0, (false, (0, ())))))).1 ≤ (List.getD ts2038 (Int.toNat (IntKind.wrap .i64 (n2040 - (1 : Int)))) (0, (0, (0, (false, (0, ())))))).1)) (k1 (9 : Int)) (ref13_Check_L0 ts2038 n2039 (IntKind.wrap .i64 (n2040 + (1 : Int))) k1 k2)) none) none) (ref13_Check_L0 ts2038 n2039 (IntKind.wrap .i64 (n2040 + (1 : Int))) k1 k2))) (k1 (9 : Int))) none) (k2 ts2038))
noncomputable def ref13_Check_L0 : Nat → T_ref13_Check_L0
  | 0 => fun _ _ _ _ _ => none
  | n + 1 => ref13_Check_L0.body (ref13_Check_L0 n)
def ref13_Check_L0.p : LPat := lp 2 77 [0, 1, 5] (pl (pb 0 127 Ty7) (pl (pd (.int .i64)) (pl (pd (.int .i64)) pz))) pz
def ref13_Check_L0.g (F : T_ref13_Check_L0) (v : ref13_Check_L0.p.T) (k : KE) : Option Bool := F v.1.1 v.1.2.1 v.1.2.2.1 (fun y0 => k .ret ⟨fillS 77 [4] [(.d ⟨(.int .i64), y0⟩)], [], 2⟩) (fun y0 => k (.exit 0) ⟨fillS 77 [0] [(.bv 0 127 Ty7 y0)], [], 2⟩)
theorem ref13_Check_L0.step (S : T_ref13_Check_L0) : ∀ v k, exR 53 Tryz.f53 0 ref13_Check_L0.p [] [] [] (ref13_Check_L0.g S) v k = ref13_Check_L0.g (ref13_Check_L0.body S) v k := fun v k => by kernel_rfl
theorem ref13_Check_L0.ok : okL 53 Tryz.f53 0 0 ref13_Check_L0.p (ref13_Check_L0.g (ref13_Check_L0 ROUNDS)) := loop2 (G := fun n => ref13_Check_L0.g (ref13_Check_L0 n)) (fun n => ref13_Check_L0.step (ref13_Check_L0 n)) .nil [] (by kernel_rfl) .nil (fun _ _ => rfl)
/-- function 53: the loop in block 2 -/
abbrev T_ref13_Check_L2 : Type := Tc7 → Int → (Int → Option Bool) → (Option Bool) → Option Bool
noncomputable def ref13_Check_L2.body (ref13_Check_L2 : T_ref13_Check_L2) : T_ref13_Check_L2 := fun ts2043 n2044 k1 k2 =>
  (cond_ (decide (n2044 < (List.length ts2043 : Int))) (cond_ ((decide ((0 : Int) ≤ n2044)) && (decide (n2044 < (List.length ts2043 : Int)))) (cond_ ((decide ((0 : Int) ≤ (IntKind.wrap .i64 (n2044 - (1 : Int))))) && (decide ((IntKind.wrap .i64 (n2044 - (1 : Int))) < (List.length ts2043 : Int)))) (cond_ (((List.getD ts2043 (Int.toNat n2044) (0, (0, (0, (false, (0, ())))))).2.1 == (List.getD ts2043 (Int.toNat (IntKind.wrap .i64 (n2044 - (1 : Int)))) (0, (0, (0, (false, (0, ())))))).2.1) && (((List.getD ts2043 (Int.toNat n2044) (0, (0, (0, (false, (0, ())))))).2.2.1 == (List.getD ts2043 (Int.toNat (IntKind.wrap .i64 (n2044 - (1 : Int)))) (0, (0, (0, (false, (0, ())))))).2.2.1) && (((List.getD ts2043 (Int.toNat n2044) (0, (0, (0, (false, (0, ())))))).2.2.2.1 == (List.getD ts2043 (Int.toNat (IntKind.wrap .i64 (n2044 - (1 : Int)))) (0, (0, (0, (false, (0, ())))))).2.2.2.1) && (((List.getD ts2043 (Int.toNat n2044) (0, (0, (0, (false, (0, ())))))).2.2.2.2.1 == (List.getD ts2043 (Int.toNat (IntKind.wrap .i64 (n2044 - (1 : Int)))) (0, (0, (0, (false, (0, ())))))).2.2.2.2.1) && true)))) (k1 (12 : Int)) (ref13_Check_L2 ts2043 (IntKind.wrap .i64 (n2044 + (1 : Int))) k1 k2)) none) none) (k2))
noncomputable def ref13_Check_L2 : Nat → T_ref13_Check_L2
  | 0 => fun _ _ _ _ => none
  | n + 1 => ref13_Check_L2.body (ref13_Check_L2 n)
def ref13_Check_L2.p : LPat := lp 2 77 [0, 6] (pl (pb 0 127 Ty7) (pl (pd (.int .i64)) pz)) pz
def ref13_Check_L2.g (F : T_ref13_Check_L2) (v : ref13_Check_L2.p.T) (k : KE) : Option Bool := F v.1.1 v.1.2.1 (fun y0 => k .ret ⟨fillS 77 [4] [(.d ⟨(.int .i64), y0⟩)], [], 2⟩) (k (.exit 2) ⟨fillS 77 [] [], [], 2⟩)
theorem ref13_Check_L2.step (S : T_ref13_Check_L2) : ∀ v k, exR 53 Tryz.f53 2 ref13_Check_L2.p [] [] [] (ref13_Check_L2.g S) v k = ref13_Check_L2.g (ref13_Check_L2.body S) v k := fun v k => by kernel_rfl
theorem ref13_Check_L2.ok : okL 53 Tryz.f53 0 2 ref13_Check_L2.p (ref13_Check_L2.g (ref13_Check_L2 ROUNDS)) := loop2 (G := fun n => ref13_Check_L2.g (ref13_Check_L2 n)) (fun n => ref13_Check_L2.step (ref13_Check_L2 n)) .nil [] (by kernel_rfl) .nil (fun _ _ => rfl)
/-- function 53: sheerleg/sheerlegref13.Check -/
abbrev T_ref13_Check : Type := Tc7 → Int → (Int → Option Bool) → Option Bool
noncomputable def ref13_Check.body (ref13_Check_L0 : T_ref13_Check_L0) (ref13_Check_L2 : T_ref13_Check_L2) : T_ref13_Check := fun ts2036 n2037 k1 =>
  (cond_ (decide ((List.length ts2036 : Int) > (4096 : Int))) (k1 (19 : Int)) (cond_ (! ((decide ((List.length ts2036 : Int) > (0 : Int))) == (decide (n2037 > (0 : Int))))) (k1 (9 : Int)) (ref13_Check_L0 ts2036 n2037 (0 : Int)
  (fun n2041 => (k1 n2041))
  (fun ts2042 => (ref13_Check_L2 ts2042 (1 : Int)
  (fun n2045 => (k1 n2045))
  (k1 (0 : Int)))))))
noncomputable def ref13_Check : T_ref13_Check := ref13_Check.body (ref13_Check_L0 ROUNDS) (ref13_Check_L2 ROUNDS)
def ref13_Check.p : FPat := fp 53 (pl (pb 0 127 Ty7) (pl (pd (.int .i64)) pz)) pz
def ref13_Check.g (F : T_ref13_Check) (v : ref13_Check.p.T) (k : KR) : Option Bool := F v.1.1 v.1.2.1 (fun y0 => k (.d ⟨(.int .i64), y0⟩) [])
theorem ref13_Check.eq (L0 : T_ref13_Check_L0) (L1 : T_ref13_Check_L2) : ∀ v k, exF Tryz.f53 ref13_Check.p [] [] [⟨0, ref13_Check_L0.p, ref13_Check_L0.g L0⟩, ⟨2, ref13_Check_L2.p, ref13_Check_L2.g L1⟩] v k = ref13_Check.g (ref13_Check.body L0 L1) v k := fun v k => by kernel_rfl
theorem ref13_Check.ok : okF 1 ref13_Check.p (ref13_Check.g ref13_Check) := fn2 (ref13_Check.eq (ref13_Check_L0 ROUNDS) (ref13_Check_L2 ROUNDS)) Tryz.func53 (by kernel_rfl) .nil [0, 2] (by kernel_rfl) (.cons ref13_Check_L0.ok (.cons ref13_Check_L2.ok .nil))
/-- function 14: the loop in block 2 -/
abbrev T_ref34_Check_L2 : Type := Int → Tc10 → (Int → Option Bool) → (Option Bool) → Option Bool
noncomputable def ref34_Check_L2.body (ref34_Check_L2 : T_ref34_Check_L2) : T_ref34_Check_L2 := fun n2047 t2048 k1 k2 =>
  (cond_ (decide (n2047 < (((List.length t2048.2.2.1) : Nat) : Int))) (cond_ ((decide ((0 : Int) ≤ n2047)) && (decide (n2047 < (((List.length t2048.2.2.1) : Nat) : Int)))) (cond_ ((List.getD t2048.2.2.1 (Int.toNat n2047) (0, (0, (0, (0, (0, (0, ()))))))).2.2.1 == t2048.2.2.2.2.1) (k1 (0 : Int)) (ref34_Check_L2 (IntKind.wrap .i64 (n2047 + (1 : Int))) t2048 k1 k2)) none) (k2))
noncomputable def ref34_Check_L2 : Nat → T_ref34_Check_L2
  | 0 => fun _ _ _ _ => none
  | n + 1 => ref34_Check_L2.body (ref34_Check_L2 n)
def ref34_Check_L2.p : LPat := lp 2 78 [1, 5] (ps (pq [1, 0] 0 0) (pl (pd (.int .i64)) pz)) (pl (po [1, 0] 40 5 (es Ty14 (pl eh pz))) pz)
def ref34_Check_L2.g (F : T_ref34_Check_L2) (v : ref34_Check_L2.p.T) (k : KE) : Option Bool := F v.1.1 v.2.1.1 (fun y0 => k .ret ⟨fillS 78 [2] [(.d ⟨(.int .i64), y0⟩)], [], 2⟩) (k (.exit 2) ⟨fillS 78 [] [], [], 2⟩)
theorem ref34_Check_L2.step (S : T_ref34_Check_L2) : ∀ v k, exR 14 Tryz.f14 2 ref34_Check_L2.p [] [] [] (ref34_Check_L2.g S) v k = ref34_Check_L2.g (ref34_Check_L2.body S) v k := fun v k => by kernel_rfl
theorem ref34_Check_L2.ok : okL 14 Tryz.f14 0 2 ref34_Check_L2.p (ref34_Check_L2.g (ref34_Check_L2 ROUNDS)) := loop2 (G := fun n => ref34_Check_L2.g (ref34_Check_L2 n)) (fun n => ref34_Check_L2.step (ref34_Check_L2 n)) .nil [] (by kernel_rfl) .nil (fun _ _ => rfl)
/-- function 14: sheerleg/sheerlegref34.Check -/
abbrev T_ref34_Check : Type := Tc10 → (Int → Option Bool) → Option Bool
noncomputable def ref34_Check.body (ref34_gaps : T_ref34_gaps) (ref13_Check : T_ref13_Check) (ref34_Check_L0 : T_ref34_Check_L0) (ref34_Check_L2 : T_ref34_Check_L2) : T_ref34_Check := fun t2020 k1 =>
  (cond_ (! (decide ((((List.length t2020.1) : Nat) : Int) > (65535 : Int)))) (cond_ (decide ((((List.length t2020.2.1) : Nat) : Int) > (65535 : Int))) (k1 (19 : Int)) (cond_ (! (decide ((((List.length t2020.1) : Nat) : Int) < (2 : Int)))) (cond_ (true && (decide ((0 : Int) < (((List.length t2020.1) : Nat) : Int)))) (cond_ (! (! (((List.getD t2020.1 (0 : Nat) (0, (0, (0, (0, (0, ())))))).1 == (27 : Int)) && (((List.getD t2020.1 (0 : Nat) (0, (0, (0, (0, (0, ())))))).2.1 == (0 : Int)) && (((List.getD t2020.1 (0 : Nat) (0, (0, (0, (0, (0, ())))))).2.2.1 == (0 : Int)) && (((List.getD t2020.1 (0 : Nat) (0, (0, (0, (0, (0, ())))))).2.2.2.1 == (0 : Int)) && (((List.getD t2020.1 (0 : Nat) (0, (0, (0, (0, (0, ())))))).2.2.2.2.1 == (0 : Int)) && true))))))) (cond_ (true && (decide ((1 : Int) < (((List.length t2020.1) : Nat) : Int)))) (cond_ (! (((List.getD t2020.1 (1 : Nat) (0, (0, (0, (0, (0, ())))))).1 == (28 : Int)) && (((List.getD t2020.1 (1 : Nat) (0, (0, (0, (0, (0, ())))))).2.1 == (0 : Int)) && (((List.getD t2020.1 (1 : Nat) (0, (0, (0, (0, (0, ())))))).2.2.1 == (0 : Int)) && (((List.getD t2020.1 (1 : Nat) (0, (0, (0, (0, (0, ())))))).2.2.2.1 == (0 : Int)) && (((List.getD t2020.1 (1 : Nat) (0, (0, (0, (0, (0, ())))))).2.2.2.2.1 == (0 : Int)) && true)))))) (k1 (3 : Int)) (ref34_gaps t2020
  (fun b2028 => (cond_ b2028 (k1 (9 : Int)) (ref34_Check_L0 (0 : Int) t2020
  (fun n2034 => (k1 n2034))
  (fun t2035 => (ref13_Check t2035.2.2.2.1 (((List.length t2035.1) : Nat) : Int)
  (fun n2046 => (cond_ (n2046 != (0 : Int)) (k1 n2046) (ref34_Check_L2 (0 : Int) t2035
  (fun n2049 => (k1 n2049))
  (k1 (15 : Int)))))))))))) none) (k1 (3 : Int))) none) (k1 (3 : Int)))) (k1 (19 : Int)))
noncomputable def ref34_Check : T_ref34_Check := ref34_Check.body ref34_gaps ref13_Check (ref34_Check_L0 ROUNDS) (ref34_Check_L2 ROUNDS)
def ref34_Check.p : FPat := fp 14 (pl (pd Ty14) pz) pz
def ref34_Check.g (F : T_ref34_Check) (v : ref34_Check.p.T) (k : KR) : Option Bool := F v.1.1 (fun y0 => k (.d ⟨(.int .i64), y0⟩) [])
theorem ref34_Check.eq (F0 : T_ref34_gaps) (F1 : T_ref13_Check) (L0 : T_ref34_Check_L0) (L1 : T_ref34_Check_L2) : ∀ v k, exF Tryz.f14 ref34_Check.p [⟨ref34_gaps.p, ref34_gaps.g F0⟩, ⟨ref13_Check.p, ref13_Check.g F1⟩] [] [⟨0, ref34_Check_L0.p, ref34_Check_L0.g L0⟩, ⟨2, ref34_Check_L2.p, ref34_Check_L2.g L1⟩] v k = ref34_Check.g (ref34_Check.body F0 F1 L0 L1) v k := fun v k => by kernel_rfl
theorem ref34_Check.ok : okF 2 ref34_Check.p (ref34_Check.g ref34_Check) := fn2 (ref34_Check.eq ref34_gaps ref13_Check (ref34_Check_L0 ROUNDS) (ref34_Check_L2 ROUNDS)) Tryz.func14 (by kernel_rfl) (.cons ref34_gaps.ok (.cons ref13_Check.ok .nil)) [0, 2] (by kernel_rfl) (.cons ref34_Check_L0.ok (.cons ref34_Check_L2.ok .nil))
/-- function 84: the loop in block 0 -/
abbrev T_slices_IndexFunc_api_Run_api_Runv1_L0 : Type := Tc7 → Int → Int → Int → (Int → Int → Option Bool) → (Int → Option Bool) → Option Bool
noncomputable def slices_IndexFunc_api_Run_api_Runv1_L0.body (slices_IndexFunc_api_Run_api_Runv1_L0 : T_slices_IndexFunc_api_Run_api_Runv1_L0) (runs_Atfn1 : T_runs_Atfn1) : T_slices_IndexFunc_api_Run_api_Runv1_L0 := fun ts2057 n2058 n2059 n2060 k1 k2 =>
  (cond_ (decide (n2059 < n2058)) (cond_ ((decide ((0 : Int) ≤ n2059)) && (decide (n2059 < (List.length ts2057 : Int)))) (runs_Atfn1 (List.getD ts2057 (Int.toNat n2059) (0, (0, (0, (false, (0, ())))))) n2060
  (fun b2061 n2062 => (cond_ b2061 (k1 n2059 n2062) (slices_IndexFunc_api_Run_api_Runv1_L0 ts2057 n2058 (IntKind.wrap .i64 (n2059 + (1 : Int))) n2062 k1 k2)))) none) (k2 n2060))
noncomputable def slices_IndexFunc_api_Run_api_Runv1_L0 : Nat → T_slices_IndexFunc_api_Run_api_Runv1_L0
  | 0 => fun _ _ _ _ _ _ => none
  | n + 1 => slices_IndexFunc_api_Run_api_Runv1_L0.body (slices_IndexFunc_api_Run_api_Runv1_L0 n) runs_Atfn1
def slices_IndexFunc_api_Run_api_Runv1_L0.p : LPat := lp 2 19 [0, 1, 7, 8] (pl (pb 0 127 Ty7) (pl (pf 85 pz (ps (pq [0, 0] 0 0) pz)) (pl (pd (.int .i64)) (pl (pd (.int .i64)) pz)))) (pl (po [0, 0] 3 1 (es (.int .i64) (pl eh pz))) pz)
def slices_IndexFunc_api_Run_api_Runv1_L0.g (F : T_slices_IndexFunc_api_Run_api_Runv1_L0) (v : slices_IndexFunc_api_Run_api_Runv1_L0.p.T) (k : KE) : Option Bool := F v.1.1 v.1.2.2.1 v.1.2.2.2.1 v.2.1.1 (fun y0 y1 => k .ret ⟨fillS 19 [4] [(.d ⟨(.int .i64), y0⟩)], [([0, 0], ⟨3, 1, (.data (.int .i64) [y1])⟩)], 2⟩) (fun y0 => k (.exit 0) ⟨fillS 19 [] [], [([0, 0], ⟨3, 1, (.data (.int .i64) [y0])⟩)], 2⟩)
theorem slices_IndexFunc_api_Run_api_Runv1_L0.step (S : T_slices_IndexFunc_api_Run_api_Runv1_L0) (F0 : T_runs_Atfn1) : ∀ v k, exR 84 Tryz.f84 0 slices_IndexFunc_api_Run_api_Runv1_L0.p [⟨runs_Atfn1.p, runs_Atfn1.g F0⟩] [] [] (slices_IndexFunc_api_Run_api_Runv1_L0.g S) v k = slices_IndexFunc_api_Run_api_Runv1_L0.g (slices_IndexFunc_api_Run_api_Runv1_L0.body S F0) v k := fun v k => by kernel_rfl
theorem slices_IndexFunc_api_Run_api_Runv1_L0.ok : okL 84 Tryz.f84 1 0 slices_IndexFunc_api_Run_api_Runv1_L0.p (slices_IndexFunc_api_Run_api_Runv1_L0.g (slices_IndexFunc_api_Run_api_Runv1_L0 ROUNDS)) := loop2 (G := fun n => slices_IndexFunc_api_Run_api_Runv1_L0.g (slices_IndexFunc_api_Run_api_Runv1_L0 n)) (fun n => slices_IndexFunc_api_Run_api_Runv1_L0.step (slices_IndexFunc_api_Run_api_Runv1_L0 n) runs_Atfn1) (.cons runs_Atfn1.ok .nil) [] (by kernel_rfl) .nil (fun _ _ => rfl)
/-- function 84: slices.IndexFunc[[]sheerleg/api.Run,sheerleg/api.Run] -/
abbrev T_slices_IndexFunc_api_Run_api_Runv1 : Type := Tc7 → Int → (Int → Int → Option Bool) → Option Bool
noncomputable def slices_IndexFunc_api_Run_api_Runv1.body (slices_IndexFunc_api_Run_api_Runv1_L0 : T_slices_IndexFunc_api_Run_api_Runv1_L0) : T_slices_IndexFunc_api_Run_api_Runv1 := fun ts2055 n2056 k1 =>
  (slices_IndexFunc_api_Run_api_Runv1_L0 ts2055 (List.length ts2055 : Int) (0 : Int) n2056
  (fun n2063 n2064 => (k1 n2063 n2064))
  (fun n2065 => (k1 (-1 : Int) n2065)))
noncomputable def slices_IndexFunc_api_Run_api_Runv1 : T_slices_IndexFunc_api_Run_api_Runv1 := slices_IndexFunc_api_Run_api_Runv1.body (slices_IndexFunc_api_Run_api_Runv1_L0 ROUNDS)
def slices_IndexFunc_api_Run_api_Runv1.p : FPat := fp 84 (pl (pb 0 127 Ty7) (pl (pf 85 pz (ps (pq [0, 0] 0 0) pz)) pz)) (pl (po [0, 0] 3 1 (es (.int .i64) (pl eh pz))) pz)
def slices_IndexFunc_api_Run_api_Runv1.g (F : T_slices_IndexFunc_api_Run_api_Runv1) (v : slices_IndexFunc_api_Run_api_Runv1.p.T) (k : KR) : Option Bool := F v.1.1 v.2.1.1 (fun y0 y1 => k (.d ⟨(.int .i64), y0⟩) [([0, 0], ⟨3, 1, (.data (.int .i64) [y1])⟩)])
theorem slices_IndexFunc_api_Run_api_Runv1.eq (L0 : T_slices_IndexFunc_api_Run_api_Runv1_L0) : ∀ v k, exF Tryz.f84 slices_IndexFunc_api_Run_api_Runv1.p [] [] [⟨0, slices_IndexFunc_api_Run_api_Runv1_L0.p, slices_IndexFunc_api_Run_api_Runv1_L0.g L0⟩] v k = slices_IndexFunc_api_Run_api_Runv1.g (slices_IndexFunc_api_Run_api_Runv1.body L0) v k := fun v k => by kernel_rfl
theorem slices_IndexFunc_api_Run_api_Runv1.ok : okF 2 slices_IndexFunc_api_Run_api_Runv1.p (slices_IndexFunc_api_Run_api_Runv1.g slices_IndexFunc_api_Run_api_Runv1) := fn2 (slices_IndexFunc_api_Run_api_Runv1.eq (slices_IndexFunc_api_Run_api_Runv1_L0 ROUNDS)) Tryz.func84 (by kernel_rfl) .nil [0] (by kernel_rfl) (.cons slices_IndexFunc_api_Run_api_Runv1_L0.ok .nil)
/-- function 54: sheerleg/runs.At -/
abbrev T_runs_Atv1 : Type := Tc7 → Int → (Tc0 → Bool → Option Bool) → Option Bool
noncomputable def runs_Atv1.body (slices_IndexFunc_api_Run_api_Runv1 : T_slices_IndexFunc_api_Run_api_Runv1) : T_runs_Atv1 := fun ts2053 n2054 k1 =>
  (slices_IndexFunc_api_Run_api_Runv1 ts2053 n2054
  (fun n2066 n2067 => (cond_ (decide (n2066 < (0 : Int))) (cond_ ((List.length ts2053 : Int) == (0 : Int)) (k1 (0, (0, (false, (0, ())))) false) (cond_ ((decide ((0 : Int) ≤ (IntKind.wrap .i64 ((List.length ts2053 : Int) - (1 : Int))))) && (decide ((IntKind.wrap .i64 ((List.length ts2053 : Int) - (1 : Int))) < (List.length ts2053 : Int)))) (k1 ((List.getD ts2053 (Int.toNat (IntKind.wrap .i64 ((List.length ts2053 : Int) - (1 : Int)))) (0, (0, (0, (false, (0, ())))))).2.1, ((List.getD ts2053 (Int.toNat (IntKind.wrap .i64 ((List.length ts2053 : Int) - (1 : Int)))) (0, (0, (0, (false, (0, ())))))).2.2.1, ((List.getD ts2053 (Int.toNat (IntKind.wrap .i64 ((List.length ts2053 : Int) - (1 : Int)))) (0, (0, (0, (false, (0, ())))))).2.2.2.1, ((List.getD ts2053 (Int.toNat (IntKind.wrap .i64 ((List.length ts2053 : Int) - (1 : Int)))) (0, (0, (0, (false, (0, ())))))).2.2.2.2.1, ())))) true) none)) (cond_ (n2066 == (0 : Int)) (k1 (0, (0, (false, (0, ())))) false) (cond_ ((decide ((0 : Int) ≤ (IntKind.wrap .i64 (n2066 - (1 : Int))))) && (decide ((IntKind.wrap .i64 (n2066 - (1 : Int))) < (List.length ts2053 : Int)))) (k1 ((List.getD ts2053 (Int.toNat (IntKind.wrap .i64 (n2066 - (1 : Int)))) (0, (0, (0, (false, (0, ())))))).2.1, ((List.getD ts2053 (Int.toNat (IntKind.wrap .i64 (n2066 - (1 : Int)))) (0, (0, (0, (false, (0, ())))))).2.2.1, ((List.getD ts2053 (Int.toNat (IntKind.wrap .i64 (n2066 - (1 : Int)))) (0, (0, (0, (false, (0, ())))))).2.2.2.1, ((List.getD ts2053 (Int.toNat (IntKind.wrap .i64 (n2066 - (1 : Int)))) (0, (0, (0, (false, (0, ())))))).2.2.2.2.1, ())))) true) none)))))
noncomputable def runs_Atv1 : T_runs_Atv1 := runs_Atv1.body slices_IndexFunc_api_Run_api_Runv1
def runs_Atv1.p : FPat := fp 54 (pl (pb 0 127 Ty7) (pl (pd (.int .i64)) pz)) pz
def runs_Atv1.g (F : T_runs_Atv1) (v : runs_Atv1.p.T) (k : KR) : Option Bool := F v.1.1 v.1.2.1 (fun y0 y1 => k (.tup [(.d ⟨Ty6, y0⟩), (.d ⟨.bool, y1⟩)]) [])
theorem runs_Atv1.eq (F0 : T_slices_IndexFunc_api_Run_api_Runv1) : ∀ v k, exF Tryz.f54 runs_Atv1.p [⟨slices_IndexFunc_api_Run_api_Runv1.p, slices_IndexFunc_api_Run_api_Runv1.g F0⟩] [] [] v k = runs_Atv1.g (runs_Atv1.body F0) v k := fun v k => by kernel_rfl
theorem runs_Atv1.ok : okF 3 runs_Atv1.p (runs_Atv1.g runs_Atv1) := fn2 (runs_Atv1.eq slices_IndexFunc_api_Run_api_Runv1) Tryz.func54 (by kernel_rfl) (.cons slices_IndexFunc_api_Run_api_Runv1.ok .nil) [] (by kernel_rfl) .nil
end Go.Proofs.YtnkpadpfpjeahaaGreat.k
