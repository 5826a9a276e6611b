/- What the functions come to that G reaches, as plain functions; written by a program of this work, each told by Lean. -/
import Derived.Test.YtlmggajbalnpjaaMG1
namespace Go.Proofs.Ytlmggajbalnpjaa.g
open Go.AX
set_option linter.unusedVariables false
set_option maxRecDepth 100000
set_option maxHeartbeats 4000000
/-- function 25: (*sheerleg/defers.row[sheerleg/api.Rec]).last -/
noncomputable def defers_row_api_Rec_lastv2.body (b705 : Bool) (ts706 : List (Int × Int × Int × Unit)) (k1 : Bool → (List (Int × Int × Int × Unit)) → Option Bool) (k2 : Nat → Bool → (List (Int × Int × Int × Unit)) → Option Bool) : Option Bool :=
  (cond_ ((((List.length ts706) : Nat) : Int) == (0 : Int)) (k1 b705 ts706) (cond_ ((decide ((0 : Int) ≤ (IntKind.wrap .i64 ((((List.length ts706) : Nat) : Int) - (1 : Int))))) && (decide ((IntKind.wrap .i64 ((((List.length ts706) : Nat) : Int) - (1 : Int))) < (((List.length ts706) : Nat) : Int)))) (k2 (Int.toNat (IntKind.wrap .i64 ((((List.length ts706) : Nat) : Int) - (1 : Int)))) b705 ts706) none))
noncomputable def defers_row_api_Rec_lastv2 (b705 : Bool) (ts706 : List (Int × Int × Int × Unit)) (k1 : Bool → (List (Int × Int × Int × Unit)) → Option Bool) (k2 : Nat → Bool → (List (Int × Int × Int × Unit)) → Option Bool) : Option Bool := defers_row_api_Rec_lastv2.body b705 ts706 k1 k2
noncomputable def defers_row_api_Rec_lastv2.get (F : Bool → (List (Int × Int × Int × Unit)) → (Bool → (List (Int × Int × Int × Unit)) → Option Bool) → (Nat → Bool → (List (Int × Int × Int × Unit)) → Option Bool) → Option Bool) (e : Option Bool) (g : FuncId) (a : List AV) (h : Heap) (k : KR) : Option Bool := match g, a, h with
  | 25, [(.ptr [0, 0] 0 0)], [([0, 0], ⟨52, 3, (.mix [(.agg [(.ref [0, 1]), .nils, (.d ⟨.bool, b705⟩)])])⟩), ([0, 1], ⟨33, 3, (.data (.st [(.int .i64), (.int .i64), (.int .i64)]) ts706)⟩)] => F b705 ts706 (fun y0 y1 => k .nilp [([0, 0], ⟨52, 3, (.mix [(.agg [(.ref [0, 1]), .nils, (.d ⟨.bool, y0⟩)])])⟩), ([0, 1], ⟨33, 3, (.data (.st [(.int .i64), (.int .i64), (.int .i64)]) y1)⟩)]) (fun y0 y1 y2 => k (.ptr [0, 1] y0 0) [([0, 0], ⟨52, 3, (.mix [(.agg [(.ref [0, 1]), .nils, (.d ⟨.bool, y1⟩)])])⟩), ([0, 1], ⟨33, 3, (.data (.st [(.int .i64), (.int .i64), (.int .i64)]) y2)⟩)])
  | _, _, _ => e
noncomputable def defers_row_api_Rec_lastv2.calls : RecF := fun g a h k => none
noncomputable def defers_row_api_Rec_lastv2.loops : LoopF := fun b => none
set_option maxRecDepth 100000 in
theorem defers_row_api_Rec_lastv2.eq (b705 : Bool) (ts706 : List (Int × Int × Int × Unit)) (k : KR) : execL Try.prog ht 25 (callfOf (defers_row_api_Rec_lastv2.calls)) (defers_row_api_Rec_lastv2.loops) 0 (codeOf Try.f25) ⟨[(.ptr [0, 0] 0 0)] ++ List.replicate (Try.f25.ntmps - ([(.ptr [0, 0] 0 0)] : List AV).length) .undef, [([0, 0], ⟨52, 3, (.mix [(.agg [(.ref [0, 1]), .nils, (.d ⟨.bool, b705⟩)])])⟩), ([0, 1], ⟨33, 3, (.data (.st [(.int .i64), (.int .i64), (.int .i64)]) ts706)⟩)], 2⟩ (leave Try.prog Try.f25 k) = defers_row_api_Rec_lastv2.body b705 ts706 (fun y0 y1 => k .nilp [([0, 0], ⟨52, 3, (.mix [(.agg [(.ref [0, 1]), .nils, (.d ⟨.bool, y0⟩)])])⟩), ([0, 1], ⟨33, 3, (.data (.st [(.int .i64), (.int .i64), (.int .i64)]) y1)⟩)]) (fun y0 y1 y2 => k (.ptr [0, 1] y0 0) [([0, 0], ⟨52, 3, (.mix [(.agg [(.ref [0, 1]), .nils, (.d ⟨.bool, y1⟩)])])⟩), ([0, 1], ⟨33, 3, (.data (.st [(.int .i64), (.int .i64), (.int .i64)]) y2)⟩)]) := by kernel_rfl
theorem defers_row_api_Rec_lastv2.ok (d : Nat) (hd : 1 ≤ d) (b705 : Bool) (ts706 : List (Int × Int × Int × Unit)) (k : KR) (hx : defers_row_api_Rec_lastv2 b705 ts706 (fun y0 y1 => k .nilp [([0, 0], ⟨52, 3, (.mix [(.agg [(.ref [0, 1]), .nils, (.d ⟨.bool, y0⟩)])])⟩), ([0, 1], ⟨33, 3, (.data (.st [(.int .i64), (.int .i64), (.int .i64)]) y1)⟩)]) (fun y0 y1 y2 => k (.ptr [0, 1] y0 0) [([0, 0], ⟨52, 3, (.mix [(.agg [(.ref [0, 1]), .nils, (.d ⟨.bool, y1⟩)])])⟩), ([0, 1], ⟨33, 3, (.data (.st [(.int .i64), (.int .i64), (.int .i64)]) y2)⟩)]) = some true) : callK Try.prog ht d 25 [(.ptr [0, 0] 0 0)] [([0, 0], ⟨52, 3, (.mix [(.agg [(.ref [0, 1]), .nils, (.d ⟨.bool, b705⟩)])])⟩), ([0, 1], ⟨33, 3, (.data (.st [(.int .i64), (.int .i64), (.int .i64)]) ts706)⟩)] k = some true := by
  obtain ⟨d, rfl⟩ : ∃ e, d = e + 1 := ⟨d - 1, by omega⟩
  exact fn_ok (c := codeOf Try.f25) Try.func25 (by kernel_rfl) (rec := defers_row_api_Rec_lastv2.calls) (fun g a h k hx => by
    cases hx) (loopf := defers_row_api_Rec_lastv2.loops) (by
    have e : loopsOf (defers_row_api_Rec_lastv2.loops) 0 (codeOf Try.f25) = [] := by kernel_rfl
    rw [e]
    intro p hp
    cases hp) ((defers_row_api_Rec_lastv2.eq b705 ts706 k).trans hx)
theorem defers_row_api_Rec_lastv2.look (d : Nat) (hd : 1 ≤ d) {e : Option Bool} {g : FuncId} {a : List AV} {h : Heap} {k : KR} (hx : defers_row_api_Rec_lastv2.get defers_row_api_Rec_lastv2 e g a h k = some true) : e = some true ∨ callK Try.prog ht d g a h k = some true := by
  unfold defers_row_api_Rec_lastv2.get at hx
  split at hx
  · exact .inr (defers_row_api_Rec_lastv2.ok d hd _ _ _ hx)
  · exact .inl hx
/-- function 26: (*sheerleg/defers.row[sheerleg/api.Rec]).drop -/
noncomputable def defers_row_api_Rec_dropv1.body (b712 : Bool) (ts713 : List (Int × Int × Int × Unit)) (k1 : Nat → Bool → (List (Int × Int × Int × Unit)) → Option Bool) : Option Bool :=
  (cond_ ((true && (decide ((0 : Int) ≤ (IntKind.wrap .i64 ((((List.length ts713) : Nat) : Int) - (1 : Int)))))) && (decide ((IntKind.wrap .i64 ((((List.length ts713) : Nat) : Int) - (1 : Int))) ≤ (((List.length ts713) : Nat) : Int)))) (k1 (Int.toNat ((IntKind.wrap .i64 ((((List.length ts713) : Nat) : Int) - (1 : Int))) - (0 : Int))) b712 ts713) none)
noncomputable def defers_row_api_Rec_dropv1 (b712 : Bool) (ts713 : List (Int × Int × Int × Unit)) (k1 : Nat → Bool → (List (Int × Int × Int × Unit)) → Option Bool) : Option Bool := defers_row_api_Rec_dropv1.body b712 ts713 k1
noncomputable def defers_row_api_Rec_dropv1.get (F : Bool → (List (Int × Int × Int × Unit)) → (Nat → Bool → (List (Int × Int × Int × Unit)) → Option Bool) → Option Bool) (e : Option Bool) (g : FuncId) (a : List AV) (h : Heap) (k : KR) : Option Bool := match g, a, h with
  | 26, [(.ptr [0, 0] 0 0)], [([0, 0], ⟨52, 3, (.mix [(.agg [(.ref [0, 1]), .nils, (.d ⟨.bool, b712⟩)])])⟩), ([0, 1], ⟨33, 3, (.data (.st [(.int .i64), (.int .i64), (.int .i64)]) ts713)⟩)] => F b712 ts713 (fun y0 y1 y2 => k (.tup []) [([0, 0], ⟨52, 3, (.mix [(.agg [(.cut [0, 1] 0 y0), .nils, (.d ⟨.bool, y1⟩)])])⟩), ([0, 1], ⟨33, 3, (.data (.st [(.int .i64), (.int .i64), (.int .i64)]) y2)⟩)])
  | _, _, _ => e
noncomputable def defers_row_api_Rec_dropv1.calls : RecF := fun g a h k => none
noncomputable def defers_row_api_Rec_dropv1.loops : LoopF := fun b => none
set_option maxRecDepth 100000 in
theorem defers_row_api_Rec_dropv1.eq (b712 : Bool) (ts713 : List (Int × Int × Int × Unit)) (k : KR) : execL Try.prog ht 26 (callfOf (defers_row_api_Rec_dropv1.calls)) (defers_row_api_Rec_dropv1.loops) 0 (codeOf Try.f26) ⟨[(.ptr [0, 0] 0 0)] ++ List.replicate (Try.f26.ntmps - ([(.ptr [0, 0] 0 0)] : List AV).length) .undef, [([0, 0], ⟨52, 3, (.mix [(.agg [(.ref [0, 1]), .nils, (.d ⟨.bool, b712⟩)])])⟩), ([0, 1], ⟨33, 3, (.data (.st [(.int .i64), (.int .i64), (.int .i64)]) ts713)⟩)], 2⟩ (leave Try.prog Try.f26 k) = defers_row_api_Rec_dropv1.body b712 ts713 (fun y0 y1 y2 => k (.tup []) [([0, 0], ⟨52, 3, (.mix [(.agg [(.cut [0, 1] 0 y0), .nils, (.d ⟨.bool, y1⟩)])])⟩), ([0, 1], ⟨33, 3, (.data (.st [(.int .i64), (.int .i64), (.int .i64)]) y2)⟩)]) := by kernel_rfl
theorem defers_row_api_Rec_dropv1.ok (d : Nat) (hd : 1 ≤ d) (b712 : Bool) (ts713 : List (Int × Int × Int × Unit)) (k : KR) (hx : defers_row_api_Rec_dropv1 b712 ts713 (fun y0 y1 y2 => k (.tup []) [([0, 0], ⟨52, 3, (.mix [(.agg [(.cut [0, 1] 0 y0), .nils, (.d ⟨.bool, y1⟩)])])⟩), ([0, 1], ⟨33, 3, (.data (.st [(.int .i64), (.int .i64), (.int .i64)]) y2)⟩)]) = some true) : callK Try.prog ht d 26 [(.ptr [0, 0] 0 0)] [([0, 0], ⟨52, 3, (.mix [(.agg [(.ref [0, 1]), .nils, (.d ⟨.bool, b712⟩)])])⟩), ([0, 1], ⟨33, 3, (.data (.st [(.int .i64), (.int .i64), (.int .i64)]) ts713)⟩)] k = some true := by
  obtain ⟨d, rfl⟩ : ∃ e, d = e + 1 := ⟨d - 1, by omega⟩
  exact fn_ok (c := codeOf Try.f26) Try.func26 (by kernel_rfl) (rec := defers_row_api_Rec_dropv1.calls) (fun g a h k hx => by
    cases hx) (loopf := defers_row_api_Rec_dropv1.loops) (by
    have e : loopsOf (defers_row_api_Rec_dropv1.loops) 0 (codeOf Try.f26) = [] := by kernel_rfl
    rw [e]
    intro p hp
    cases hp) ((defers_row_api_Rec_dropv1.eq b712 ts713 k).trans hx)
theorem defers_row_api_Rec_dropv1.look (d : Nat) (hd : 1 ≤ d) {e : Option Bool} {g : FuncId} {a : List AV} {h : Heap} {k : KR} (hx : defers_row_api_Rec_dropv1.get defers_row_api_Rec_dropv1 e g a h k = some true) : e = some true ∨ callK Try.prog ht d g a h k = some true := by
  unfold defers_row_api_Rec_dropv1.get at hx
  split at hx
  · exact .inr (defers_row_api_Rec_dropv1.ok d hd _ _ _ hx)
  · exact .inl hx
/-- function 12: (*sheerleg/defers.List).Take -/
noncomputable def defers_List_Takev1.body (defers_List_nonev2 : Bool → (List (Int × Int × Int × Unit)) → (Bool → Bool → (List (Int × Int × Int × Unit)) → Option Bool) → Option Bool) (defers_row_api_Rec_lastv2 : Bool → (List (Int × Int × Int × Unit)) → (Bool → (List (Int × Int × Int × Unit)) → Option Bool) → (Nat → Bool → (List (Int × Int × Int × Unit)) → Option Bool) → Option Bool) (defers_row_api_Rec_dropv1 : Bool → (List (Int × Int × Int × Unit)) → (Nat → Bool → (List (Int × Int × Int × Unit)) → Option Bool) → Option Bool) (n699 : Int) (b700 : Bool) (ts701 : List (Int × Int × Int × Unit)) (k1 : (Int × Int × Int × Unit) → Bool → Bool → (List (Int × Int × Int × Unit)) → Option Bool) (k2 : (Int × Int × Int × Unit) → Bool → Bool → (List (Int × Int × Int × Unit)) → Option Bool) : Option Bool :=
  (defers_List_nonev2 b700 ts701
  (fun b702 b703 ts704 => (cond_ b702 (k1 ((0 : Int), ((0 : Int), ((0 : Int), ()))) false b703 ts704) (defers_row_api_Rec_lastv2 b703 ts704
  (fun b707 ts708 => (k1 ((0 : Int), ((0 : Int), ((0 : Int), ()))) false b707 ts708))
  (fun m709 b710 ts711 => (cond_ ((List.getD ts711 m709 ((0 : Int), ((0 : Int), ((0 : Int), ())))).1 != n699) (k1 ((0 : Int), ((0 : Int), ((0 : Int), ()))) false b710 ts711) (defers_row_api_Rec_dropv1 b710 ts711
  (fun m714 b715 ts716 => (k2 (List.getD ts711 m709 ((0 : Int), ((0 : Int), ((0 : Int), ())))) true b715 (List.take m714 ts716))))))))))
noncomputable def defers_List_Takev1 (n699 : Int) (b700 : Bool) (ts701 : List (Int × Int × Int × Unit)) (k1 : (Int × Int × Int × Unit) → Bool → Bool → (List (Int × Int × Int × Unit)) → Option Bool) (k2 : (Int × Int × Int × Unit) → Bool → Bool → (List (Int × Int × Int × Unit)) → Option Bool) : Option Bool := defers_List_Takev1.body defers_List_nonev2 defers_row_api_Rec_lastv2 defers_row_api_Rec_dropv1 n699 b700 ts701 k1 k2
noncomputable def defers_List_Takev1.get (F : Int → Bool → (List (Int × Int × Int × Unit)) → ((Int × Int × Int × Unit) → Bool → Bool → (List (Int × Int × Int × Unit)) → Option Bool) → ((Int × Int × Int × Unit) → Bool → Bool → (List (Int × Int × Int × Unit)) → Option Bool) → Option Bool) (e : Option Bool) (g : FuncId) (a : List AV) (h : Heap) (k : KR) : Option Bool := match g, a, h with
  | 12, [(.ptr [0, 0] 0 0), (.d ⟨(.int .i64), n699⟩)], [([0, 0], ⟨52, 3, (.mix [(.agg [(.ref [0, 1]), .nils, (.d ⟨.bool, b700⟩)])])⟩), ([0, 1], ⟨33, 3, (.data (.st [(.int .i64), (.int .i64), (.int .i64)]) ts701)⟩)] => F n699 b700 ts701 (fun y0 y1 y2 y3 => k (.tup [(.d ⟨(.st [(.int .i64), (.int .i64), (.int .i64)]), y0⟩), (.d ⟨.bool, y1⟩)]) [([0, 0], ⟨52, 3, (.mix [(.agg [(.ref [0, 1]), .nils, (.d ⟨.bool, y2⟩)])])⟩), ([0, 1], ⟨33, 3, (.data (.st [(.int .i64), (.int .i64), (.int .i64)]) y3)⟩)]) (fun y0 y1 y2 y3 => k (.tup [(.d ⟨(.st [(.int .i64), (.int .i64), (.int .i64)]), y0⟩), (.d ⟨.bool, y1⟩)]) [([0, 0], ⟨52, 3, (.mix [(.agg [(.ref [1, 0]), .nils, (.d ⟨.bool, y2⟩)])])⟩), ([1, 0], ⟨33, 3, (.data (.st [(.int .i64), (.int .i64), (.int .i64)]) y3)⟩)])
  | _, _, _ => e
noncomputable def defers_List_Takev1.calls (F0 : Bool → (List (Int × Int × Int × Unit)) → (Bool → Bool → (List (Int × Int × Int × Unit)) → Option Bool) → Option Bool) (F1 : Bool → (List (Int × Int × Int × Unit)) → (Bool → (List (Int × Int × Int × Unit)) → Option Bool) → (Nat → Bool → (List (Int × Int × Int × Unit)) → Option Bool) → Option Bool) (F2 : Bool → (List (Int × Int × Int × Unit)) → (Nat → Bool → (List (Int × Int × Int × Unit)) → Option Bool) → Option Bool) : RecF := fun g a h k => (defers_List_nonev2.get F0 (defers_row_api_Rec_lastv2.get F1 (defers_row_api_Rec_dropv1.get F2 none g a h k) g a h k) g a h k)
noncomputable def defers_List_Takev1.loops : LoopF := fun b => none
set_option maxRecDepth 100000 in
theorem defers_List_Takev1.eq (F0 : Bool → (List (Int × Int × Int × Unit)) → (Bool → Bool → (List (Int × Int × Int × Unit)) → Option Bool) → Option Bool) (F1 : Bool → (List (Int × Int × Int × Unit)) → (Bool → (List (Int × Int × Int × Unit)) → Option Bool) → (Nat → Bool → (List (Int × Int × Int × Unit)) → Option Bool) → Option Bool) (F2 : Bool → (List (Int × Int × Int × Unit)) → (Nat → Bool → (List (Int × Int × Int × Unit)) → Option Bool) → Option Bool) (n699 : Int) (b700 : Bool) (ts701 : List (Int × Int × Int × Unit)) (k : KR) : execL Try.prog ht 12 (callfOf (defers_List_Takev1.calls F0 F1 F2)) (defers_List_Takev1.loops) 0 (codeOf Try.f12) ⟨[(.ptr [0, 0] 0 0), (.d ⟨(.int .i64), n699⟩)] ++ List.replicate (Try.f12.ntmps - ([(.ptr [0, 0] 0 0), (.d ⟨(.int .i64), n699⟩)] : List AV).length) .undef, [([0, 0], ⟨52, 3, (.mix [(.agg [(.ref [0, 1]), .nils, (.d ⟨.bool, b700⟩)])])⟩), ([0, 1], ⟨33, 3, (.data (.st [(.int .i64), (.int .i64), (.int .i64)]) ts701)⟩)], 2⟩ (leave Try.prog Try.f12 k) = defers_List_Takev1.body F0 F1 F2 n699 b700 ts701 (fun y0 y1 y2 y3 => k (.tup [(.d ⟨(.st [(.int .i64), (.int .i64), (.int .i64)]), y0⟩), (.d ⟨.bool, y1⟩)]) [([0, 0], ⟨52, 3, (.mix [(.agg [(.ref [0, 1]), .nils, (.d ⟨.bool, y2⟩)])])⟩), ([0, 1], ⟨33, 3, (.data (.st [(.int .i64), (.int .i64), (.int .i64)]) y3)⟩)]) (fun y0 y1 y2 y3 => k (.tup [(.d ⟨(.st [(.int .i64), (.int .i64), (.int .i64)]), y0⟩), (.d ⟨.bool, y1⟩)]) [([0, 0], ⟨52, 3, (.mix [(.agg [(.ref [1, 0]), .nils, (.d ⟨.bool, y2⟩)])])⟩), ([1, 0], ⟨33, 3, (.data (.st [(.int .i64), (.int .i64), (.int .i64)]) y3)⟩)]) := by kernel_rfl
theorem defers_List_Takev1.ok (d : Nat) (hd : 2 ≤ d) (n699 : Int) (b700 : Bool) (ts701 : List (Int × Int × Int × Unit)) (k : KR) (hx : defers_List_Takev1 n699 b700 ts701 (fun y0 y1 y2 y3 => k (.tup [(.d ⟨(.st [(.int .i64), (.int .i64), (.int .i64)]), y0⟩), (.d ⟨.bool, y1⟩)]) [([0, 0], ⟨52, 3, (.mix [(.agg [(.ref [0, 1]), .nils, (.d ⟨.bool, y2⟩)])])⟩), ([0, 1], ⟨33, 3, (.data (.st [(.int .i64), (.int .i64), (.int .i64)]) y3)⟩)]) (fun y0 y1 y2 y3 => k (.tup [(.d ⟨(.st [(.int .i64), (.int .i64), (.int .i64)]), y0⟩), (.d ⟨.bool, y1⟩)]) [([0, 0], ⟨52, 3, (.mix [(.agg [(.ref [1, 0]), .nils, (.d ⟨.bool, y2⟩)])])⟩), ([1, 0], ⟨33, 3, (.data (.st [(.int .i64), (.int .i64), (.int .i64)]) y3)⟩)]) = some true) : callK Try.prog ht d 12 [(.ptr [0, 0] 0 0), (.d ⟨(.int .i64), n699⟩)] [([0, 0], ⟨52, 3, (.mix [(.agg [(.ref [0, 1]), .nils, (.d ⟨.bool, b700⟩)])])⟩), ([0, 1], ⟨33, 3, (.data (.st [(.int .i64), (.int .i64), (.int .i64)]) ts701)⟩)] k = some true := by
  obtain ⟨d, rfl⟩ : ∃ e, d = e + 1 := ⟨d - 1, by omega⟩
  exact fn_ok (c := codeOf Try.f12) Try.func12 (by kernel_rfl) (rec := defers_List_Takev1.calls defers_List_nonev2 defers_row_api_Rec_lastv2 defers_row_api_Rec_dropv1) (fun g a h k hx => by
    rcases defers_List_nonev2.look d (by omega) hx with hx | hx
    rotate_left
    · exact hx
    rcases defers_row_api_Rec_lastv2.look d (by omega) hx with hx | hx
    rotate_left
    · exact hx
    rcases defers_row_api_Rec_dropv1.look d (by omega) hx with hx | hx
    rotate_left
    · exact hx
    cases hx) (loopf := defers_List_Takev1.loops) (by
    have e : loopsOf (defers_List_Takev1.loops) 0 (codeOf Try.f12) = [] := by kernel_rfl
    rw [e]
    intro p hp
    cases hp) ((defers_List_Takev1.eq defers_List_nonev2 defers_row_api_Rec_lastv2 defers_row_api_Rec_dropv1 n699 b700 ts701 k).trans hx)
theorem defers_List_Takev1.look (d : Nat) (hd : 2 ≤ d) {e : Option Bool} {g : FuncId} {a : List AV} {h : Heap} {k : KR} (hx : defers_List_Takev1.get defers_List_Takev1 e g a h k = some true) : e = some true ∨ callK Try.prog ht d g a h k = some true := by
  unfold defers_List_Takev1.get at hx
  split at hx
  · exact .inr (defers_List_Takev1.ok d hd _ _ _ _ hx)
  · exact .inl hx
/-- function 4: the loop in block 2 -/
noncomputable def law40_DefersLast_L2.body (law40_DefersLast_L2 : (List Int) → Int → Int → Int → Bool → (List (Int × Int × Int × Unit)) → (Bool → Option Bool) → (Bool → (List (Int × Int × Int × Unit)) → Option Bool) → Option Bool) (defers_List_Takev1 : Int → Bool → (List (Int × Int × Int × Unit)) → ((Int × Int × Int × Unit) → Bool → Bool → (List (Int × Int × Int × Unit)) → Option Bool) → ((Int × Int × Int × Unit) → Bool → Bool → (List (Int × Int × Int × Unit)) → Option Bool) → Option Bool) (ns693 : List Int) (n694 : Int) (n695 : Int) (n696 : Int) (b697 : Bool) (ts698 : List (Int × Int × Int × Unit)) (k1 : Bool → Option Bool) (k2 : Bool → (List (Int × Int × Int × Unit)) → Option Bool) : Option Bool :=
  (cond_ (decide (n696 ≥ (0 : Int))) (defers_List_Takev1 n695 b697 ts698
  (fun t717 b718 b719 ts720 => (defers_List_Takev1 n694 b719 ts720
  (fun t721 b722 b723 ts724 => (cond_ (! b718) (cond_ (! (! b722)) (cond_ ((decide ((0 : Int) ≤ n696)) && (decide (n696 < (((List.length ns693) : Nat) : Int)))) (cond_ (t721.2.1 != (List.getD ns693 (Int.toNat n696) (0 : Int))) (k1 false) (law40_DefersLast_L2 ns693 n694 n695 (IntKind.wrap .i64 (n696 - (1 : Int))) b723 ts724 k1 k2)) none) (k1 false)) (k1 false)))
  (fun t725 b726 b727 ts728 => (cond_ (! b718) (cond_ (! (! b726)) (cond_ ((decide ((0 : Int) ≤ n696)) && (decide (n696 < (((List.length ns693) : Nat) : Int)))) (cond_ (t725.2.1 != (List.getD ns693 (Int.toNat n696) (0 : Int))) (k1 false) (law40_DefersLast_L2 ns693 n694 n695 (IntKind.wrap .i64 (n696 - (1 : Int))) b727 ts728 k1 k2)) none) (k1 false)) (k1 false)))))
  (fun t729 b730 b731 ts732 => (defers_List_Takev1 n694 b731 ts732
  (fun t733 b734 b735 ts736 => (cond_ (! b730) (cond_ (! (! b734)) (cond_ ((decide ((0 : Int) ≤ n696)) && (decide (n696 < (((List.length ns693) : Nat) : Int)))) (cond_ (t733.2.1 != (List.getD ns693 (Int.toNat n696) (0 : Int))) (k1 false) (law40_DefersLast_L2 ns693 n694 n695 (IntKind.wrap .i64 (n696 - (1 : Int))) b735 ts736 k1 k2)) none) (k1 false)) (k1 false)))
  (fun t737 b738 b739 ts740 => (cond_ (! b730) (cond_ (! (! b738)) (cond_ ((decide ((0 : Int) ≤ n696)) && (decide (n696 < (((List.length ns693) : Nat) : Int)))) (cond_ (t737.2.1 != (List.getD ns693 (Int.toNat n696) (0 : Int))) (k1 false) (law40_DefersLast_L2 ns693 n694 n695 (IntKind.wrap .i64 (n696 - (1 : Int))) b739 ts740 k1 k2)) none) (k1 false)) (k1 false)))))) (k2 b697 ts698))
noncomputable def law40_DefersLast_L2 : Nat → (List Int) → Int → Int → Int → Bool → (List (Int × Int × Int × Unit)) → (Bool → Option Bool) → (Bool → (List (Int × Int × Int × Unit)) → Option Bool) → Option Bool
  | 0 => fun _ _ _ _ _ _ _ _ => none
  | n + 1 => law40_DefersLast_L2.body (law40_DefersLast_L2 n) defers_List_Takev1
noncomputable def law40_DefersLast_L2.get (F : (List Int) → Int → Int → Int → Bool → (List (Int × Int × Int × Unit)) → (Bool → Option Bool) → (Bool → (List (Int × Int × Int × Unit)) → Option Bool) → Option Bool) (e : Option Bool) (st : St) (k : KE) : Option Bool := match st with
  | ⟨sl, hp, m⟩ => match Nat.beq m 2, pickS 78 [0, 1, 2, 7, 9] sl, hp with
    | true, some [(.bv 0 3 (.int .i64) ns693), (.d ⟨(.int .i64), n694⟩), (.d ⟨(.int .i64), n695⟩), (.ptr [1, 0] 0 0), (.d ⟨(.int .i64), n696⟩)], [([1, 0], ⟨52, 3, (.mix [(.agg [(.ref [1, 1]), .nils, (.d ⟨.bool, b697⟩)])])⟩), ([1, 1], ⟨33, 3, (.data (.st [(.int .i64), (.int .i64), (.int .i64)]) ts698)⟩)] => F ns693 n694 n695 n696 b697 ts698 (fun y0 => k .ret ⟨fillS 78 [6] [(.d ⟨.bool, y0⟩)], [], 2⟩) (fun y0 y1 => k (.exit 2) ⟨fillS 78 [7] [(.ptr [1, 0] 0 0)], [([1, 0], ⟨52, 3, (.mix [(.agg [(.ref [1, 1]), .nils, (.d ⟨.bool, y0⟩)])])⟩), ([1, 1], ⟨33, 3, (.data (.st [(.int .i64), (.int .i64), (.int .i64)]) y1)⟩)], 2⟩)
    | _, _, _ => e
noncomputable def law40_DefersLast_L2.calls (F0 : Int → Bool → (List (Int × Int × Int × Unit)) → ((Int × Int × Int × Unit) → Bool → Bool → (List (Int × Int × Int × Unit)) → Option Bool) → ((Int × Int × Int × Unit) → Bool → Bool → (List (Int × Int × Int × Unit)) → Option Bool) → Option Bool) : RecF := fun g a h k => (defers_List_Takev1.get F0 none g a h k)
noncomputable def law40_DefersLast_L2.loops : LoopF := fun b => none
set_option maxRecDepth 100000 in
theorem law40_DefersLast_L2.step (S : (List Int) → Int → Int → Int → Bool → (List (Int × Int × Int × Unit)) → (Bool → Option Bool) → (Bool → (List (Int × Int × Int × Unit)) → Option Bool) → Option Bool) (F0 : Int → Bool → (List (Int × Int × Int × Unit)) → ((Int × Int × Int × Unit) → Bool → Bool → (List (Int × Int × Int × Unit)) → Option Bool) → ((Int × Int × Int × Unit) → Bool → Bool → (List (Int × Int × Int × Unit)) → Option Bool) → Option Bool) (ns693 : List Int) (n694 : Int) (n695 : Int) (n696 : Int) (b697 : Bool) (ts698 : List (Int × Int × Int × Unit)) (k : KE) : execL Try.prog ht 4 (callfOf (law40_DefersLast_L2.calls F0)) (law40_DefersLast_L2.loops) 2 (loopAt 2 (codeOf Try.f4)) ⟨fillS 78 [0, 1, 2, 7, 9] [(.bv 0 3 (.int .i64) ns693), (.d ⟨(.int .i64), n694⟩), (.d ⟨(.int .i64), n695⟩), (.ptr [1, 0] 0 0), (.d ⟨(.int .i64), n696⟩)], [([1, 0], ⟨52, 3, (.mix [(.agg [(.ref [1, 1]), .nils, (.d ⟨.bool, b697⟩)])])⟩), ([1, 1], ⟨33, 3, (.data (.st [(.int .i64), (.int .i64), (.int .i64)]) ts698)⟩)], 2⟩ (again (law40_DefersLast_L2.get S none) (plan Try.prog (ht 4 2)) k) = law40_DefersLast_L2.body S F0 ns693 n694 n695 n696 b697 ts698 (fun y0 => k .ret ⟨fillS 78 [6] [(.d ⟨.bool, y0⟩)], [], 2⟩) (fun y0 y1 => k (.exit 2) ⟨fillS 78 [7] [(.ptr [1, 0] 0 0)], [([1, 0], ⟨52, 3, (.mix [(.agg [(.ref [1, 1]), .nils, (.d ⟨.bool, y0⟩)])])⟩), ([1, 1], ⟨33, 3, (.data (.st [(.int .i64), (.int .i64), (.int .i64)]) y1)⟩)], 2⟩) := by kernel_rfl
theorem law40_DefersLast_L2.ok (d : Nat) (hd : 2 ≤ d) : ∀ n st k, law40_DefersLast_L2.get (law40_DefersLast_L2 n) none st k = some true → iter n (plan Try.prog (ht 4 2)) (fun st k => execK Try.prog ht 4 (callfOf (callK Try.prog ht d)) 2 (loopAt 2 (codeOf Try.f4)) st k) st k = some true :=
  loop_ok (lfn := fun n st k => law40_DefersLast_L2.get (law40_DefersLast_L2 n) none st k) (rec := law40_DefersLast_L2.calls defers_List_Takev1) (fun g a h k hx => by
    rcases defers_List_Takev1.look d (by omega) hx with hx | hx
    rotate_left
    · exact hx
    cases hx) (loopf := law40_DefersLast_L2.loops) (by
    have e : loopsOf (law40_DefersLast_L2.loops) 2 (loopAt 2 (codeOf Try.f4)) = [] := by kernel_rfl
    rw [e]
    intro p hp
    cases hp) (fun st k h => by
    obtain ⟨sl, hp, m⟩ := st
    unfold law40_DefersLast_L2.get at h
    dsimp only at h
    split at h
    · have h' : (none : Option Bool) = some true := h
      cases h'
    · cases h) (fun n st k h => by
    obtain ⟨sl, hp, m⟩ := st
    unfold law40_DefersLast_L2.get at h
    dsimp only at h
    split at h
    · rename_i h1 h2
      obtain rfl := pickS_ok h2
      obtain rfl := Nat.eq_of_beq_eq_true h1
      exact (law40_DefersLast_L2.step (law40_DefersLast_L2 n) defers_List_Takev1 _ _ _ _ _ _ k).trans h
    · cases h)
theorem law40_DefersLast_L2.look {F : (List Int) → Int → Int → Int → Bool → (List (Int × Int × Int × Unit)) → (Bool → Option Bool) → (Bool → (List (Int × Int × Int × Unit)) → Option Bool) → Option Bool} {e : Option Bool} {st : St} {k : KE} (hx : law40_DefersLast_L2.get F e st k = some true) : e = some true ∨ law40_DefersLast_L2.get F none st k = some true := by
  obtain ⟨sl, hp, m⟩ := st
  unfold law40_DefersLast_L2.get at hx ⊢
  dsimp only at hx ⊢
  split at hx
  · exact .inr hx
  · exact .inl hx
/-- function 4: sheerleg/sheerleglaw40.DefersLast -/
noncomputable def law40_DefersLast.body (law40_known : (Bool → Option Bool) → Option Bool) (defers_New : (Bool → Option Bool) → Option Bool) (defers_List_Lenv2 : Bool → (List (Int × Int × Int × Unit)) → (Int → Bool → (List (Int × Int × Int × Unit)) → Option Bool) → Option Bool) (law40_DefersLast_L0 : (List Int) → Int → Int → Int → Bool → (List (Int × Int × Int × Unit)) → (Bool → Option Bool) → ((List Int) → Int → Int → Bool → (List (Int × Int × Int × Unit)) → Option Bool) → Option Bool) (law40_DefersLast_L2 : (List Int) → Int → Int → Int → Bool → (List (Int × Int × Int × Unit)) → (Bool → Option Bool) → (Bool → (List (Int × Int × Int × Unit)) → Option Bool) → Option Bool) (ns649 : List Int) (n650 : Int) (n651 : Int) (k1 : Bool → Option Bool) : Option Bool :=
  (cond_ (! (decide ((((List.length ns649) : Nat) : Int) > (32 : Int)))) (cond_ (n650 == n651) (law40_known
  (fun b652 => (k1 b652))) (defers_New
  (fun b653 => (law40_DefersLast_L0 ns649 n650 n651 (0 : Int) b653 []
  (fun b687 => (k1 b687))
  (fun ns688 n689 n690 b691 ts692 => (law40_DefersLast_L2 ns688 n689 n690 (IntKind.wrap .i64 ((((List.length ns688) : Nat) : Int) - (1 : Int))) b691 ts692
  (fun b741 => (k1 b741))
  (fun b742 ts743 => (defers_List_Lenv2 b742 ts743
  (fun n744 b745 ts746 => (cond_ (n744 == (0 : Int)) (law40_known
  (fun b747 => (k1 b747))) (k1 false))))))))))) (law40_known
  (fun b748 => (k1 b748))))
noncomputable def law40_DefersLast (ns649 : List Int) (n650 : Int) (n651 : Int) (k1 : Bool → Option Bool) : Option Bool := law40_DefersLast.body law40_known defers_New defers_List_Lenv2 (law40_DefersLast_L0 ROUNDS) (law40_DefersLast_L2 ROUNDS) ns649 n650 n651 k1
noncomputable def law40_DefersLast.get (F : (List Int) → Int → Int → (Bool → Option Bool) → Option Bool) (e : Option Bool) (g : FuncId) (a : List AV) (h : Heap) (k : KR) : Option Bool := match g, a, h with
  | 4, [(.bv 0 3 (.int .i64) ns649), (.d ⟨(.int .i64), n650⟩), (.d ⟨(.int .i64), n651⟩)], [] => F ns649 n650 n651 (fun y0 => k (.d ⟨.bool, y0⟩) [])
  | _, _, _ => e
noncomputable def law40_DefersLast.calls (F0 : (Bool → Option Bool) → Option Bool) (F1 : (Bool → Option Bool) → Option Bool) (F2 : Bool → (List (Int × Int × Int × Unit)) → (Int → Bool → (List (Int × Int × Int × Unit)) → Option Bool) → Option Bool) : RecF := fun g a h k => (law40_known.get F0 (defers_New.get F1 (defers_List_Lenv2.get F2 none g a h k) g a h k) g a h k)
noncomputable def law40_DefersLast.loops (L0 : (List Int) → Int → Int → Int → Bool → (List (Int × Int × Int × Unit)) → (Bool → Option Bool) → ((List Int) → Int → Int → Bool → (List (Int × Int × Int × Unit)) → Option Bool) → Option Bool) (L1 : (List Int) → Int → Int → Int → Bool → (List (Int × Int × Int × Unit)) → (Bool → Option Bool) → (Bool → (List (Int × Int × Int × Unit)) → Option Bool) → Option Bool) : LoopF := fun b => match Nat.beq b 0 with | true => some (fun st k => (law40_DefersLast_L0.get L0 none st k)) | false => match Nat.beq b 2 with | true => some (fun st k => (law40_DefersLast_L2.get L1 none st k)) | false => none
set_option maxRecDepth 100000 in
theorem law40_DefersLast.eq (F0 : (Bool → Option Bool) → Option Bool) (F1 : (Bool → Option Bool) → Option Bool) (F2 : Bool → (List (Int × Int × Int × Unit)) → (Int → Bool → (List (Int × Int × Int × Unit)) → Option Bool) → Option Bool) (L0 : (List Int) → Int → Int → Int → Bool → (List (Int × Int × Int × Unit)) → (Bool → Option Bool) → ((List Int) → Int → Int → Bool → (List (Int × Int × Int × Unit)) → Option Bool) → Option Bool) (L1 : (List Int) → Int → Int → Int → Bool → (List (Int × Int × Int × Unit)) → (Bool → Option Bool) → (Bool → (List (Int × Int × Int × Unit)) → Option Bool) → Option Bool) (ns649 : List Int) (n650 : Int) (n651 : Int) (k : KR) : execL Try.prog ht 4 (callfOf (law40_DefersLast.calls F0 F1 F2)) (law40_DefersLast.loops L0 L1) 0 (codeOf Try.f4) ⟨[(.bv 0 3 (.int .i64) ns649), (.d ⟨(.int .i64), n650⟩), (.d ⟨(.int .i64), n651⟩)] ++ List.replicate (Try.f4.ntmps - ([(.bv 0 3 (.int .i64) ns649), (.d ⟨(.int .i64), n650⟩), (.d ⟨(.int .i64), n651⟩)] : List AV).length) .undef, [], 2⟩ (leave Try.prog Try.f4 k) = law40_DefersLast.body F0 F1 F2 L0 L1 ns649 n650 n651 (fun y0 => k (.d ⟨.bool, y0⟩) []) := by kernel_rfl
theorem law40_DefersLast.ok (d : Nat) (hd : 61 ≤ d) (ns649 : List Int) (n650 : Int) (n651 : Int) (k : KR) (hx : law40_DefersLast ns649 n650 n651 (fun y0 => k (.d ⟨.bool, y0⟩) []) = some true) : callK Try.prog ht d 4 [(.bv 0 3 (.int .i64) ns649), (.d ⟨(.int .i64), n650⟩), (.d ⟨(.int .i64), n651⟩)] [] k = some true := by
  obtain ⟨d, rfl⟩ : ∃ e, d = e + 1 := ⟨d - 1, by omega⟩
  exact fn_ok (c := codeOf Try.f4) Try.func4 (by kernel_rfl) (rec := law40_DefersLast.calls law40_known defers_New defers_List_Lenv2) (fun g a h k hx => by
    rcases law40_known.look d (by omega) hx with hx | hx
    rotate_left
    · exact hx
    rcases defers_New.look d (by omega) hx with hx | hx
    rotate_left
    · exact hx
    rcases defers_List_Lenv2.look d (by omega) hx with hx | hx
    rotate_left
    · exact hx
    cases hx) (loopf := law40_DefersLast.loops (law40_DefersLast_L0 ROUNDS) (law40_DefersLast_L2 ROUNDS)) (by
    have e : loopsOf (law40_DefersLast.loops (law40_DefersLast_L0 ROUNDS) (law40_DefersLast_L2 ROUNDS)) 0 (codeOf Try.f4) = [(0, loopAt 0 (codeOf Try.f4)), (2, loopAt 2 (codeOf Try.f4))] := by kernel_rfl
    rw [e]
    intro p hp
    simp only [List.mem_cons, List.not_mem_nil, or_false] at hp
    rcases hp with rfl | rfl
    · refine loopRef_of (callf := callfOf (callK Try.prog ht d)) (callfOf_ref (callK_mono d)) fun lf st k hb hx => ?_
      cases hb
      rcases law40_DefersLast_L0.look hx with hx | hx
      rotate_left
      · exact law40_DefersLast_L0.ok d (by omega) _ _ _ hx
      cases hx
    · refine loopRef_of (callf := callfOf (callK Try.prog ht d)) (callfOf_ref (callK_mono d)) fun lf st k hb hx => ?_
      cases hb
      rcases law40_DefersLast_L2.look hx with hx | hx
      rotate_left
      · exact law40_DefersLast_L2.ok d (by omega) _ _ _ hx
      cases hx) ((law40_DefersLast.eq law40_known defers_New defers_List_Lenv2 (law40_DefersLast_L0 ROUNDS) (law40_DefersLast_L2 ROUNDS) ns649 n650 n651 k).trans hx)
theorem law40_DefersLast.look (d : Nat) (hd : 61 ≤ d) {e : Option Bool} {g : FuncId} {a : List AV} {h : Heap} {k : KR} (hx : law40_DefersLast.get law40_DefersLast e g a h k = some true) : e = some true ∨ callK Try.prog ht d g a h k = some true := by
  unfold law40_DefersLast.get at hx
  split at hx
  · exact .inr (law40_DefersLast.ok d hd _ _ _ _ hx)
  · exact .inl hx
/-- function 23: (*sheerleg/defers.List).none -/
noncomputable def defers_List_nonev3.body (k1 : Bool → Option Bool) : Option Bool :=
  (k1 true)
noncomputable def defers_List_nonev3 (k1 : Bool → Option Bool) : Option Bool := defers_List_nonev3.body k1
noncomputable def defers_List_nonev3.get (F : (Bool → Option Bool) → Option Bool) (e : Option Bool) (g : FuncId) (a : List AV) (h : Heap) (k : KR) : Option Bool := match g, a, h with
  | 23, [.nilp], [] => F (fun y0 => k (.d ⟨.bool, y0⟩) [])
  | _, _, _ => e
noncomputable def defers_List_nonev3.calls : RecF := fun g a h k => none
noncomputable def defers_List_nonev3.loops : LoopF := fun b => none
set_option maxRecDepth 100000 in
theorem defers_List_nonev3.eq (k : KR) : execL Try.prog ht 23 (callfOf (defers_List_nonev3.calls)) (defers_List_nonev3.loops) 0 (codeOf Try.f23) ⟨[.nilp] ++ List.replicate (Try.f23.ntmps - ([.nilp] : List AV).length) .undef, [], 2⟩ (leave Try.prog Try.f23 k) = defers_List_nonev3.body (fun y0 => k (.d ⟨.bool, y0⟩) []) := by kernel_rfl
theorem defers_List_nonev3.ok (d : Nat) (hd : 1 ≤ d) (k : KR) (hx : defers_List_nonev3 (fun y0 => k (.d ⟨.bool, y0⟩) []) = some true) : callK Try.prog ht d 23 [.nilp] [] k = some true := by
  obtain ⟨d, rfl⟩ : ∃ e, d = e + 1 := ⟨d - 1, by omega⟩
  exact fn_ok (c := codeOf Try.f23) Try.func23 (by kernel_rfl) (rec := defers_List_nonev3.calls) (fun g a h k hx => by
    cases hx) (loopf := defers_List_nonev3.loops) (by
    have e : loopsOf (defers_List_nonev3.loops) 0 (codeOf Try.f23) = [] := by kernel_rfl
    rw [e]
    intro p hp
    cases hp) ((defers_List_nonev3.eq k).trans hx)
theorem defers_List_nonev3.look (d : Nat) (hd : 1 ≤ d) {e : Option Bool} {g : FuncId} {a : List AV} {h : Heap} {k : KR} (hx : defers_List_nonev3.get defers_List_nonev3 e g a h k = some true) : e = some true ∨ callK Try.prog ht d g a h k = some true := by
  unfold defers_List_nonev3.get at hx
  split at hx
  · exact .inr (defers_List_nonev3.ok d hd _ hx)
  · exact .inl hx
/-- function 12: (*sheerleg/defers.List).Take -/
noncomputable def defers_List_Takev2.body (defers_List_nonev3 : (Bool → Option Bool) → Option Bool) (n751 : Int) (k1 : (Int × Int × Int × Unit) → Bool → Option Bool) : Option Bool :=
  (defers_List_nonev3
  (fun b752 => (cond_ b752 (k1 ((0 : Int), ((0 : Int), ((0 : Int), ()))) false) none)))
noncomputable def defers_List_Takev2 (n751 : Int) (k1 : (Int × Int × Int × Unit) → Bool → Option Bool) : Option Bool := defers_List_Takev2.body defers_List_nonev3 n751 k1
noncomputable def defers_List_Takev2.get (F : Int → ((Int × Int × Int × Unit) → Bool → Option Bool) → Option Bool) (e : Option Bool) (g : FuncId) (a : List AV) (h : Heap) (k : KR) : Option Bool := match g, a, h with
  | 12, [.nilp, (.d ⟨(.int .i64), n751⟩)], [] => F n751 (fun y0 y1 => k (.tup [(.d ⟨(.st [(.int .i64), (.int .i64), (.int .i64)]), y0⟩), (.d ⟨.bool, y1⟩)]) [])
  | _, _, _ => e
noncomputable def defers_List_Takev2.calls (F0 : (Bool → Option Bool) → Option Bool) : RecF := fun g a h k => (defers_List_nonev3.get F0 none g a h k)
noncomputable def defers_List_Takev2.loops : LoopF := fun b => none
set_option maxRecDepth 100000 in
theorem defers_List_Takev2.eq (F0 : (Bool → Option Bool) → Option Bool) (n751 : Int) (k : KR) : execL Try.prog ht 12 (callfOf (defers_List_Takev2.calls F0)) (defers_List_Takev2.loops) 0 (codeOf Try.f12) ⟨[.nilp, (.d ⟨(.int .i64), n751⟩)] ++ List.replicate (Try.f12.ntmps - ([.nilp, (.d ⟨(.int .i64), n751⟩)] : List AV).length) .undef, [], 2⟩ (leave Try.prog Try.f12 k) = defers_List_Takev2.body F0 n751 (fun y0 y1 => k (.tup [(.d ⟨(.st [(.int .i64), (.int .i64), (.int .i64)]), y0⟩), (.d ⟨.bool, y1⟩)]) []) := by kernel_rfl
theorem defers_List_Takev2.ok (d : Nat) (hd : 2 ≤ d) (n751 : Int) (k : KR) (hx : defers_List_Takev2 n751 (fun y0 y1 => k (.tup [(.d ⟨(.st [(.int .i64), (.int .i64), (.int .i64)]), y0⟩), (.d ⟨.bool, y1⟩)]) []) = some true) : callK Try.prog ht d 12 [.nilp, (.d ⟨(.int .i64), n751⟩)] [] k = some true := by
  obtain ⟨d, rfl⟩ : ∃ e, d = e + 1 := ⟨d - 1, by omega⟩
  exact fn_ok (c := codeOf Try.f12) Try.func12 (by kernel_rfl) (rec := defers_List_Takev2.calls defers_List_nonev3) (fun g a h k hx => by
    rcases defers_List_nonev3.look d (by omega) hx with hx | hx
    rotate_left
    · exact hx
    cases hx) (loopf := defers_List_Takev2.loops) (by
    have e : loopsOf (defers_List_Takev2.loops) 0 (codeOf Try.f12) = [] := by kernel_rfl
    rw [e]
    intro p hp
    cases hp) ((defers_List_Takev2.eq defers_List_nonev3 n751 k).trans hx)
theorem defers_List_Takev2.look (d : Nat) (hd : 2 ≤ d) {e : Option Bool} {g : FuncId} {a : List AV} {h : Heap} {k : KR} (hx : defers_List_Takev2.get defers_List_Takev2 e g a h k = some true) : e = some true ∨ callK Try.prog ht d g a h k = some true := by
  unfold defers_List_Takev2.get at hx
  split at hx
  · exact .inr (defers_List_Takev2.ok d hd _ _ hx)
  · exact .inl hx
/-- function 12: (*sheerleg/defers.List).Take -/
noncomputable def defers_List_Takev3.body (defers_List_none : Bool → (Bool → Bool → Option Bool) → Option Bool) (defers_row_api_Rec_last : Bool → (Bool → Option Bool) → Option Bool) (n755 : Int) (b756 : Bool) (k1 : (Int × Int × Int × Unit) → Bool → Bool → Option Bool) : Option Bool :=
  (defers_List_none b756
  (fun b757 b758 => (cond_ b757 (k1 ((0 : Int), ((0 : Int), ((0 : Int), ()))) false b758) (defers_row_api_Rec_last b758
  (fun b759 => (k1 ((0 : Int), ((0 : Int), ((0 : Int), ()))) false b759))))))
noncomputable def defers_List_Takev3 (n755 : Int) (b756 : Bool) (k1 : (Int × Int × Int × Unit) → Bool → Bool → Option Bool) : Option Bool := defers_List_Takev3.body defers_List_none defers_row_api_Rec_last n755 b756 k1
noncomputable def defers_List_Takev3.get (F : Int → Bool → ((Int × Int × Int × Unit) → Bool → Bool → Option Bool) → Option Bool) (e : Option Bool) (g : FuncId) (a : List AV) (h : Heap) (k : KR) : Option Bool := match g, a, h with
  | 12, [(.ptr [0, 0] 0 0), (.d ⟨(.int .i64), n755⟩)], [([0, 0], ⟨52, 3, (.mix [(.agg [.nils, .nils, (.d ⟨.bool, b756⟩)])])⟩)] => F n755 b756 (fun y0 y1 y2 => k (.tup [(.d ⟨(.st [(.int .i64), (.int .i64), (.int .i64)]), y0⟩), (.d ⟨.bool, y1⟩)]) [([0, 0], ⟨52, 3, (.mix [(.agg [.nils, .nils, (.d ⟨.bool, y2⟩)])])⟩)])
  | _, _, _ => e
noncomputable def defers_List_Takev3.calls (F0 : Bool → (Bool → Bool → Option Bool) → Option Bool) (F1 : Bool → (Bool → Option Bool) → Option Bool) : RecF := fun g a h k => (defers_List_none.get F0 (defers_row_api_Rec_last.get F1 none g a h k) g a h k)
noncomputable def defers_List_Takev3.loops : LoopF := fun b => none
set_option maxRecDepth 100000 in
theorem defers_List_Takev3.eq (F0 : Bool → (Bool → Bool → Option Bool) → Option Bool) (F1 : Bool → (Bool → Option Bool) → Option Bool) (n755 : Int) (b756 : Bool) (k : KR) : execL Try.prog ht 12 (callfOf (defers_List_Takev3.calls F0 F1)) (defers_List_Takev3.loops) 0 (codeOf Try.f12) ⟨[(.ptr [0, 0] 0 0), (.d ⟨(.int .i64), n755⟩)] ++ List.replicate (Try.f12.ntmps - ([(.ptr [0, 0] 0 0), (.d ⟨(.int .i64), n755⟩)] : List AV).length) .undef, [([0, 0], ⟨52, 3, (.mix [(.agg [.nils, .nils, (.d ⟨.bool, b756⟩)])])⟩)], 2⟩ (leave Try.prog Try.f12 k) = defers_List_Takev3.body F0 F1 n755 b756 (fun y0 y1 y2 => k (.tup [(.d ⟨(.st [(.int .i64), (.int .i64), (.int .i64)]), y0⟩), (.d ⟨.bool, y1⟩)]) [([0, 0], ⟨52, 3, (.mix [(.agg [.nils, .nils, (.d ⟨.bool, y2⟩)])])⟩)]) := by kernel_rfl
theorem defers_List_Takev3.ok (d : Nat) (hd : 2 ≤ d) (n755 : Int) (b756 : Bool) (k : KR) (hx : defers_List_Takev3 n755 b756 (fun y0 y1 y2 => k (.tup [(.d ⟨(.st [(.int .i64), (.int .i64), (.int .i64)]), y0⟩), (.d ⟨.bool, y1⟩)]) [([0, 0], ⟨52, 3, (.mix [(.agg [.nils, .nils, (.d ⟨.bool, y2⟩)])])⟩)]) = some true) : callK Try.prog ht d 12 [(.ptr [0, 0] 0 0), (.d ⟨(.int .i64), n755⟩)] [([0, 0], ⟨52, 3, (.mix [(.agg [.nils, .nils, (.d ⟨.bool, b756⟩)])])⟩)] k = some true := by
  obtain ⟨d, rfl⟩ : ∃ e, d = e + 1 := ⟨d - 1, by omega⟩
  exact fn_ok (c := codeOf Try.f12) Try.func12 (by kernel_rfl) (rec := defers_List_Takev3.calls defers_List_none defers_row_api_Rec_last) (fun g a h k hx => by
    rcases defers_List_none.look d (by omega) hx with hx | hx
    rotate_left
    · exact hx
    rcases defers_row_api_Rec_last.look d (by omega) hx with hx | hx
    rotate_left
    · exact hx
    cases hx) (loopf := defers_List_Takev3.loops) (by
    have e : loopsOf (defers_List_Takev3.loops) 0 (codeOf Try.f12) = [] := by kernel_rfl
    rw [e]
    intro p hp
    cases hp) ((defers_List_Takev3.eq defers_List_none defers_row_api_Rec_last n755 b756 k).trans hx)
theorem defers_List_Takev3.look (d : Nat) (hd : 2 ≤ d) {e : Option Bool} {g : FuncId} {a : List AV} {h : Heap} {k : KR} (hx : defers_List_Takev3.get defers_List_Takev3 e g a h k = some true) : e = some true ∨ callK Try.prog ht d g a h k = some true := by
  unfold defers_List_Takev3.get at hx
  split at hx
  · exact .inr (defers_List_Takev3.ok d hd _ _ _ hx)
  · exact .inl hx
/-- function 10: (*sheerleg/defers.List).Depth -/
noncomputable def defers_List_Depthv2.body (defers_List_nonev3 : (Bool → Option Bool) → Option Bool) (k1 : Int → Option Bool) : Option Bool :=
  (defers_List_nonev3
  (fun b763 => (cond_ b763 (k1 (0 : Int)) none)))
noncomputable def defers_List_Depthv2 (k1 : Int → Option Bool) : Option Bool := defers_List_Depthv2.body defers_List_nonev3 k1
noncomputable def defers_List_Depthv2.get (F : (Int → Option Bool) → Option Bool) (e : Option Bool) (g : FuncId) (a : List AV) (h : Heap) (k : KR) : Option Bool := match g, a, h with
  | 10, [.nilp], [] => F (fun y0 => k (.d ⟨(.int .i64), y0⟩) [])
  | _, _, _ => e
noncomputable def defers_List_Depthv2.calls (F0 : (Bool → Option Bool) → Option Bool) : RecF := fun g a h k => (defers_List_nonev3.get F0 none g a h k)
noncomputable def defers_List_Depthv2.loops : LoopF := fun b => none
set_option maxRecDepth 100000 in
theorem defers_List_Depthv2.eq (F0 : (Bool → Option Bool) → Option Bool) (k : KR) : execL Try.prog ht 10 (callfOf (defers_List_Depthv2.calls F0)) (defers_List_Depthv2.loops) 0 (codeOf Try.f10) ⟨[.nilp] ++ List.replicate (Try.f10.ntmps - ([.nilp] : List AV).length) .undef, [], 2⟩ (leave Try.prog Try.f10 k) = defers_List_Depthv2.body F0 (fun y0 => k (.d ⟨(.int .i64), y0⟩) []) := by kernel_rfl
theorem defers_List_Depthv2.ok (d : Nat) (hd : 2 ≤ d) (k : KR) (hx : defers_List_Depthv2 (fun y0 => k (.d ⟨(.int .i64), y0⟩) []) = some true) : callK Try.prog ht d 10 [.nilp] [] k = some true := by
  obtain ⟨d, rfl⟩ : ∃ e, d = e + 1 := ⟨d - 1, by omega⟩
  exact fn_ok (c := codeOf Try.f10) Try.func10 (by kernel_rfl) (rec := defers_List_Depthv2.calls defers_List_nonev3) (fun g a h k hx => by
    rcases defers_List_nonev3.look d (by omega) hx with hx | hx
    rotate_left
    · exact hx
    cases hx) (loopf := defers_List_Depthv2.loops) (by
    have e : loopsOf (defers_List_Depthv2.loops) 0 (codeOf Try.f10) = [] := by kernel_rfl
    rw [e]
    intro p hp
    cases hp) ((defers_List_Depthv2.eq defers_List_nonev3 k).trans hx)
theorem defers_List_Depthv2.look (d : Nat) (hd : 2 ≤ d) {e : Option Bool} {g : FuncId} {a : List AV} {h : Heap} {k : KR} (hx : defers_List_Depthv2.get defers_List_Depthv2 e g a h k = some true) : e = some true ∨ callK Try.prog ht d g a h k = some true := by
  unfold defers_List_Depthv2.get at hx
  split at hx
  · exact .inr (defers_List_Depthv2.ok d hd _ hx)
  · exact .inl hx
/-- function 13: (*sheerleg/defers.List).Top -/
noncomputable def defers_List_Topv2.body (defers_List_Depthv2 : (Int → Option Bool) → Option Bool) (k1 : (Int × Int × Int × Int × Bool × Unit) → Bool → Option Bool) : Option Bool :=
  (defers_List_Depthv2
  (fun n764 => (cond_ (n764 == (0 : Int)) (k1 ((0 : Int), ((0 : Int), ((0 : Int), ((0 : Int), (false, ()))))) false) none)))
noncomputable def defers_List_Topv2 (k1 : (Int × Int × Int × Int × Bool × Unit) → Bool → Option Bool) : Option Bool := defers_List_Topv2.body defers_List_Depthv2 k1
noncomputable def defers_List_Topv2.get (F : ((Int × Int × Int × Int × Bool × Unit) → Bool → Option Bool) → Option Bool) (e : Option Bool) (g : FuncId) (a : List AV) (h : Heap) (k : KR) : Option Bool := match g, a, h with
  | 13, [.nilp], [] => F (fun y0 y1 => k (.tup [(.d ⟨(.st [(.int .i64), (.int .i64), (.int .i64), (.int .i64), .bool]), y0⟩), (.d ⟨.bool, y1⟩)]) [])
  | _, _, _ => e
noncomputable def defers_List_Topv2.calls (F0 : (Int → Option Bool) → Option Bool) : RecF := fun g a h k => (defers_List_Depthv2.get F0 none g a h k)
noncomputable def defers_List_Topv2.loops : LoopF := fun b => none
set_option maxRecDepth 100000 in
theorem defers_List_Topv2.eq (F0 : (Int → Option Bool) → Option Bool) (k : KR) : execL Try.prog ht 13 (callfOf (defers_List_Topv2.calls F0)) (defers_List_Topv2.loops) 0 (codeOf Try.f13) ⟨[.nilp] ++ List.replicate (Try.f13.ntmps - ([.nilp] : List AV).length) .undef, [], 2⟩ (leave Try.prog Try.f13 k) = defers_List_Topv2.body F0 (fun y0 y1 => k (.tup [(.d ⟨(.st [(.int .i64), (.int .i64), (.int .i64), (.int .i64), .bool]), y0⟩), (.d ⟨.bool, y1⟩)]) []) := by kernel_rfl
theorem defers_List_Topv2.ok (d : Nat) (hd : 3 ≤ d) (k : KR) (hx : defers_List_Topv2 (fun y0 y1 => k (.tup [(.d ⟨(.st [(.int .i64), (.int .i64), (.int .i64), (.int .i64), .bool]), y0⟩), (.d ⟨.bool, y1⟩)]) []) = some true) : callK Try.prog ht d 13 [.nilp] [] k = some true := by
  obtain ⟨d, rfl⟩ : ∃ e, d = e + 1 := ⟨d - 1, by omega⟩
  exact fn_ok (c := codeOf Try.f13) Try.func13 (by kernel_rfl) (rec := defers_List_Topv2.calls defers_List_Depthv2) (fun g a h k hx => by
    rcases defers_List_Depthv2.look d (by omega) hx with hx | hx
    rotate_left
    · exact hx
    cases hx) (loopf := defers_List_Topv2.loops) (by
    have e : loopsOf (defers_List_Topv2.loops) 0 (codeOf Try.f13) = [] := by kernel_rfl
    rw [e]
    intro p hp
    cases hp) ((defers_List_Topv2.eq defers_List_Depthv2 k).trans hx)
theorem defers_List_Topv2.look (d : Nat) (hd : 3 ≤ d) {e : Option Bool} {g : FuncId} {a : List AV} {h : Heap} {k : KR} (hx : defers_List_Topv2.get defers_List_Topv2 e g a h k = some true) : e = some true ∨ callK Try.prog ht d g a h k = some true := by
  unfold defers_List_Topv2.get at hx
  split at hx
  · exact .inr (defers_List_Topv2.ok d hd _ hx)
  · exact .inl hx
/-- function 14: (*sheerleg/defers.List).Recover -/
noncomputable def defers_List_Recoverv2.body (defers_List_Depthv2 : (Int → Option Bool) → Option Bool) (k1 : Int → Bool → Option Bool) : Option Bool :=
  (defers_List_Depthv2
  (fun n770 => (cond_ (n770 == (0 : Int)) (k1 (0 : Int) false) none)))
noncomputable def defers_List_Recoverv2 (k1 : Int → Bool → Option Bool) : Option Bool := defers_List_Recoverv2.body defers_List_Depthv2 k1
noncomputable def defers_List_Recoverv2.get (F : (Int → Bool → Option Bool) → Option Bool) (e : Option Bool) (g : FuncId) (a : List AV) (h : Heap) (k : KR) : Option Bool := match g, a, h with
  | 14, [.nilp], [] => F (fun y0 y1 => k (.tup [(.d ⟨(.int .i64), y0⟩), (.d ⟨.bool, y1⟩)]) [])
  | _, _, _ => e
noncomputable def defers_List_Recoverv2.calls (F0 : (Int → Option Bool) → Option Bool) : RecF := fun g a h k => (defers_List_Depthv2.get F0 none g a h k)
noncomputable def defers_List_Recoverv2.loops : LoopF := fun b => none
set_option maxRecDepth 100000 in
theorem defers_List_Recoverv2.eq (F0 : (Int → Option Bool) → Option Bool) (k : KR) : execL Try.prog ht 14 (callfOf (defers_List_Recoverv2.calls F0)) (defers_List_Recoverv2.loops) 0 (codeOf Try.f14) ⟨[.nilp] ++ List.replicate (Try.f14.ntmps - ([.nilp] : List AV).length) .undef, [], 2⟩ (leave Try.prog Try.f14 k) = defers_List_Recoverv2.body F0 (fun y0 y1 => k (.tup [(.d ⟨(.int .i64), y0⟩), (.d ⟨.bool, y1⟩)]) []) := by kernel_rfl
theorem defers_List_Recoverv2.ok (d : Nat) (hd : 3 ≤ d) (k : KR) (hx : defers_List_Recoverv2 (fun y0 y1 => k (.tup [(.d ⟨(.int .i64), y0⟩), (.d ⟨.bool, y1⟩)]) []) = some true) : callK Try.prog ht d 14 [.nilp] [] k = some true := by
  obtain ⟨d, rfl⟩ : ∃ e, d = e + 1 := ⟨d - 1, by omega⟩
  exact fn_ok (c := codeOf Try.f14) Try.func14 (by kernel_rfl) (rec := defers_List_Recoverv2.calls defers_List_Depthv2) (fun g a h k hx => by
    rcases defers_List_Depthv2.look d (by omega) hx with hx | hx
    rotate_left
    · exact hx
    cases hx) (loopf := defers_List_Recoverv2.loops) (by
    have e : loopsOf (defers_List_Recoverv2.loops) 0 (codeOf Try.f14) = [] := by kernel_rfl
    rw [e]
    intro p hp
    cases hp) ((defers_List_Recoverv2.eq defers_List_Depthv2 k).trans hx)
theorem defers_List_Recoverv2.look (d : Nat) (hd : 3 ≤ d) {e : Option Bool} {g : FuncId} {a : List AV} {h : Heap} {k : KR} (hx : defers_List_Recoverv2.get defers_List_Recoverv2 e g a h k = some true) : e = some true ∨ callK Try.prog ht d g a h k = some true := by
  unfold defers_List_Recoverv2.get at hx
  split at hx
  · exact .inr (defers_List_Recoverv2.ok d hd _ hx)
  · exact .inl hx
/-- function 15: (*sheerleg/defers.List).Done -/
noncomputable def defers_List_Donev1.body (defers_List_Topv2 : ((Int × Int × Int × Int × Bool × Unit) → Bool → Option Bool) → Option Bool) (k1 : (Int × Int × Int × Int × Bool × Unit) → Bool → Option Bool) : Option Bool :=
  (defers_List_Topv2
  (fun t776 b777 => (cond_ b777 none (k1 t776 b777))))
noncomputable def defers_List_Donev1 (k1 : (Int × Int × Int × Int × Bool × Unit) → Bool → Option Bool) : Option Bool := defers_List_Donev1.body defers_List_Topv2 k1
noncomputable def defers_List_Donev1.get (F : ((Int × Int × Int × Int × Bool × Unit) → Bool → Option Bool) → Option Bool) (e : Option Bool) (g : FuncId) (a : List AV) (h : Heap) (k : KR) : Option Bool := match g, a, h with
  | 15, [.nilp], [] => F (fun y0 y1 => k (.tup [(.d ⟨(.st [(.int .i64), (.int .i64), (.int .i64), (.int .i64), .bool]), y0⟩), (.d ⟨.bool, y1⟩)]) [])
  | _, _, _ => e
noncomputable def defers_List_Donev1.calls (F0 : ((Int × Int × Int × Int × Bool × Unit) → Bool → Option Bool) → Option Bool) : RecF := fun g a h k => (defers_List_Topv2.get F0 none g a h k)
noncomputable def defers_List_Donev1.loops : LoopF := fun b => none
set_option maxRecDepth 100000 in
theorem defers_List_Donev1.eq (F0 : ((Int × Int × Int × Int × Bool × Unit) → Bool → Option Bool) → Option Bool) (k : KR) : execL Try.prog ht 15 (callfOf (defers_List_Donev1.calls F0)) (defers_List_Donev1.loops) 0 (codeOf Try.f15) ⟨[.nilp] ++ List.replicate (Try.f15.ntmps - ([.nilp] : List AV).length) .undef, [], 2⟩ (leave Try.prog Try.f15 k) = defers_List_Donev1.body F0 (fun y0 y1 => k (.tup [(.d ⟨(.st [(.int .i64), (.int .i64), (.int .i64), (.int .i64), .bool]), y0⟩), (.d ⟨.bool, y1⟩)]) []) := by kernel_rfl
theorem defers_List_Donev1.ok (d : Nat) (hd : 4 ≤ d) (k : KR) (hx : defers_List_Donev1 (fun y0 y1 => k (.tup [(.d ⟨(.st [(.int .i64), (.int .i64), (.int .i64), (.int .i64), .bool]), y0⟩), (.d ⟨.bool, y1⟩)]) []) = some true) : callK Try.prog ht d 15 [.nilp] [] k = some true := by
  obtain ⟨d, rfl⟩ : ∃ e, d = e + 1 := ⟨d - 1, by omega⟩
  exact fn_ok (c := codeOf Try.f15) Try.func15 (by kernel_rfl) (rec := defers_List_Donev1.calls defers_List_Topv2) (fun g a h k hx => by
    rcases defers_List_Topv2.look d (by omega) hx with hx | hx
    rotate_left
    · exact hx
    cases hx) (loopf := defers_List_Donev1.loops) (by
    have e : loopsOf (defers_List_Donev1.loops) 0 (codeOf Try.f15) = [] := by kernel_rfl
    rw [e]
    intro p hp
    cases hp) ((defers_List_Donev1.eq defers_List_Topv2 k).trans hx)
theorem defers_List_Donev1.look (d : Nat) (hd : 4 ≤ d) {e : Option Bool} {g : FuncId} {a : List AV} {h : Heap} {k : KR} (hx : defers_List_Donev1.get defers_List_Donev1 e g a h k = some true) : e = some true ∨ callK Try.prog ht d g a h k = some true := by
  unfold defers_List_Donev1.get at hx
  split at hx
  · exact .inr (defers_List_Donev1.ok d hd _ hx)
  · exact .inl hx
/-- function 15: (*sheerleg/defers.List).Done -/
noncomputable def defers_List_Donev2.body (defers_List_Top : Bool → ((Int × Int × Int × Int × Bool × Unit) → Bool → Bool → Option Bool) → Option Bool) (defers_row_api_Driver_drop : Bool → Option Bool) (b780 : Bool) (k1 : (Int × Int × Int × Int × Bool × Unit) → Bool → Bool → Option Bool) : Option Bool :=
  (defers_List_Top b780
  (fun t781 b782 b783 => (cond_ b782 (defers_row_api_Driver_drop b783) (k1 t781 b782 b783))))
noncomputable def defers_List_Donev2 (b780 : Bool) (k1 : (Int × Int × Int × Int × Bool × Unit) → Bool → Bool → Option Bool) : Option Bool := defers_List_Donev2.body defers_List_Top defers_row_api_Driver_drop b780 k1
noncomputable def defers_List_Donev2.get (F : Bool → ((Int × Int × Int × Int × Bool × Unit) → Bool → Bool → Option Bool) → Option Bool) (e : Option Bool) (g : FuncId) (a : List AV) (h : Heap) (k : KR) : Option Bool := match g, a, h with
  | 15, [(.ptr [0, 0] 0 0)], [([0, 0], ⟨52, 3, (.mix [(.agg [.nils, .nils, (.d ⟨.bool, b780⟩)])])⟩)] => F b780 (fun y0 y1 y2 => k (.tup [(.d ⟨(.st [(.int .i64), (.int .i64), (.int .i64), (.int .i64), .bool]), y0⟩), (.d ⟨.bool, y1⟩)]) [([0, 0], ⟨52, 3, (.mix [(.agg [.nils, .nils, (.d ⟨.bool, y2⟩)])])⟩)])
  | _, _, _ => e
noncomputable def defers_List_Donev2.calls (F0 : Bool → ((Int × Int × Int × Int × Bool × Unit) → Bool → Bool → Option Bool) → Option Bool) (F1 : Bool → Option Bool) : RecF := fun g a h k => (defers_List_Top.get F0 (defers_row_api_Driver_drop.get F1 none g a h k) g a h k)
noncomputable def defers_List_Donev2.loops : LoopF := fun b => none
set_option maxRecDepth 100000 in
theorem defers_List_Donev2.eq (F0 : Bool → ((Int × Int × Int × Int × Bool × Unit) → Bool → Bool → Option Bool) → Option Bool) (F1 : Bool → Option Bool) (b780 : Bool) (k : KR) : execL Try.prog ht 15 (callfOf (defers_List_Donev2.calls F0 F1)) (defers_List_Donev2.loops) 0 (codeOf Try.f15) ⟨[(.ptr [0, 0] 0 0)] ++ List.replicate (Try.f15.ntmps - ([(.ptr [0, 0] 0 0)] : List AV).length) .undef, [([0, 0], ⟨52, 3, (.mix [(.agg [.nils, .nils, (.d ⟨.bool, b780⟩)])])⟩)], 2⟩ (leave Try.prog Try.f15 k) = defers_List_Donev2.body F0 F1 b780 (fun y0 y1 y2 => k (.tup [(.d ⟨(.st [(.int .i64), (.int .i64), (.int .i64), (.int .i64), .bool]), y0⟩), (.d ⟨.bool, y1⟩)]) [([0, 0], ⟨52, 3, (.mix [(.agg [.nils, .nils, (.d ⟨.bool, y2⟩)])])⟩)]) := by kernel_rfl
theorem defers_List_Donev2.ok (d : Nat) (hd : 4 ≤ d) (b780 : Bool) (k : KR) (hx : defers_List_Donev2 b780 (fun y0 y1 y2 => k (.tup [(.d ⟨(.st [(.int .i64), (.int .i64), (.int .i64), (.int .i64), .bool]), y0⟩), (.d ⟨.bool, y1⟩)]) [([0, 0], ⟨52, 3, (.mix [(.agg [.nils, .nils, (.d ⟨.bool, y2⟩)])])⟩)]) = some true) : callK Try.prog ht d 15 [(.ptr [0, 0] 0 0)] [([0, 0], ⟨52, 3, (.mix [(.agg [.nils, .nils, (.d ⟨.bool, b780⟩)])])⟩)] k = some true := by
  obtain ⟨d, rfl⟩ : ∃ e, d = e + 1 := ⟨d - 1, by omega⟩
  exact fn_ok (c := codeOf Try.f15) Try.func15 (by kernel_rfl) (rec := defers_List_Donev2.calls defers_List_Top defers_row_api_Driver_drop) (fun g a h k hx => by
    rcases defers_List_Top.look d (by omega) hx with hx | hx
    rotate_left
    · exact hx
    rcases defers_row_api_Driver_drop.look d (by omega) hx with hx | hx
    rotate_left
    · exact hx
    cases hx) (loopf := defers_List_Donev2.loops) (by
    have e : loopsOf (defers_List_Donev2.loops) 0 (codeOf Try.f15) = [] := by kernel_rfl
    rw [e]
    intro p hp
    cases hp) ((defers_List_Donev2.eq defers_List_Top defers_row_api_Driver_drop b780 k).trans hx)
theorem defers_List_Donev2.look (d : Nat) (hd : 4 ≤ d) {e : Option Bool} {g : FuncId} {a : List AV} {h : Heap} {k : KR} (hx : defers_List_Donev2.get defers_List_Donev2 e g a h k = some true) : e = some true ∨ callK Try.prog ht d g a h k = some true := by
  unfold defers_List_Donev2.get at hx
  split at hx
  · exact .inr (defers_List_Donev2.ok d hd _ _ hx)
  · exact .inl hx
/-- function 9: (*sheerleg/defers.List).Len -/
noncomputable def defers_List_Lenv3.body (defers_List_nonev3 : (Bool → Option Bool) → Option Bool) (k1 : Int → Option Bool) : Option Bool :=
  (defers_List_nonev3
  (fun b789 => (cond_ b789 (k1 (0 : Int)) none)))
noncomputable def defers_List_Lenv3 (k1 : Int → Option Bool) : Option Bool := defers_List_Lenv3.body defers_List_nonev3 k1
noncomputable def defers_List_Lenv3.get (F : (Int → Option Bool) → Option Bool) (e : Option Bool) (g : FuncId) (a : List AV) (h : Heap) (k : KR) : Option Bool := match g, a, h with
  | 9, [.nilp], [] => F (fun y0 => k (.d ⟨(.int .i64), y0⟩) [])
  | _, _, _ => e
noncomputable def defers_List_Lenv3.calls (F0 : (Bool → Option Bool) → Option Bool) : RecF := fun g a h k => (defers_List_nonev3.get F0 none g a h k)
noncomputable def defers_List_Lenv3.loops : LoopF := fun b => none
set_option maxRecDepth 100000 in
theorem defers_List_Lenv3.eq (F0 : (Bool → Option Bool) → Option Bool) (k : KR) : execL Try.prog ht 9 (callfOf (defers_List_Lenv3.calls F0)) (defers_List_Lenv3.loops) 0 (codeOf Try.f9) ⟨[.nilp] ++ List.replicate (Try.f9.ntmps - ([.nilp] : List AV).length) .undef, [], 2⟩ (leave Try.prog Try.f9 k) = defers_List_Lenv3.body F0 (fun y0 => k (.d ⟨(.int .i64), y0⟩) []) := by kernel_rfl
theorem defers_List_Lenv3.ok (d : Nat) (hd : 2 ≤ d) (k : KR) (hx : defers_List_Lenv3 (fun y0 => k (.d ⟨(.int .i64), y0⟩) []) = some true) : callK Try.prog ht d 9 [.nilp] [] k = some true := by
  obtain ⟨d, rfl⟩ : ∃ e, d = e + 1 := ⟨d - 1, by omega⟩
  exact fn_ok (c := codeOf Try.f9) Try.func9 (by kernel_rfl) (rec := defers_List_Lenv3.calls defers_List_nonev3) (fun g a h k hx => by
    rcases defers_List_nonev3.look d (by omega) hx with hx | hx
    rotate_left
    · exact hx
    cases hx) (loopf := defers_List_Lenv3.loops) (by
    have e : loopsOf (defers_List_Lenv3.loops) 0 (codeOf Try.f9) = [] := by kernel_rfl
    rw [e]
    intro p hp
    cases hp) ((defers_List_Lenv3.eq defers_List_nonev3 k).trans hx)
theorem defers_List_Lenv3.look (d : Nat) (hd : 2 ≤ d) {e : Option Bool} {g : FuncId} {a : List AV} {h : Heap} {k : KR} (hx : defers_List_Lenv3.get defers_List_Lenv3 e g a h k = some true) : e = some true ∨ callK Try.prog ht d g a h k = some true := by
  unfold defers_List_Lenv3.get at hx
  split at hx
  · exact .inr (defers_List_Lenv3.ok d hd _ hx)
  · exact .inl hx
/-- function 11: (*sheerleg/defers.List).Put -/
noncomputable def defers_List_Putv3.body (defers_List_nonev3 : (Bool → Option Bool) → Option Bool) (defers_List_Lenv3 : (Int → Option Bool) → Option Bool) (t787 : Int × Int × Int × Unit) (k1 : Bool → Option Bool) : Option Bool :=
  (defers_List_nonev3
  (fun b788 => (cond_ (! b788) (defers_List_Lenv3
  (fun n790 => (cond_ (decide (n790 ≥ (32 : Int))) (k1 false) none))) (k1 false))))
noncomputable def defers_List_Putv3 (t787 : Int × Int × Int × Unit) (k1 : Bool → Option Bool) : Option Bool := defers_List_Putv3.body defers_List_nonev3 defers_List_Lenv3 t787 k1
noncomputable def defers_List_Putv3.get (F : (Int × Int × Int × Unit) → (Bool → Option Bool) → Option Bool) (e : Option Bool) (g : FuncId) (a : List AV) (h : Heap) (k : KR) : Option Bool := match g, a, h with
  | 11, [.nilp, (.d ⟨(.st [(.int .i64), (.int .i64), (.int .i64)]), t787⟩)], [] => F t787 (fun y0 => k (.d ⟨.bool, y0⟩) [])
  | _, _, _ => e
noncomputable def defers_List_Putv3.calls (F0 : (Bool → Option Bool) → Option Bool) (F1 : (Int → Option Bool) → Option Bool) : RecF := fun g a h k => (defers_List_nonev3.get F0 (defers_List_Lenv3.get F1 none g a h k) g a h k)
noncomputable def defers_List_Putv3.loops : LoopF := fun b => none
set_option maxRecDepth 100000 in
theorem defers_List_Putv3.eq (F0 : (Bool → Option Bool) → Option Bool) (F1 : (Int → Option Bool) → Option Bool) (t787 : Int × Int × Int × Unit) (k : KR) : execL Try.prog ht 11 (callfOf (defers_List_Putv3.calls F0 F1)) (defers_List_Putv3.loops) 0 (codeOf Try.f11) ⟨[.nilp, (.d ⟨(.st [(.int .i64), (.int .i64), (.int .i64)]), t787⟩)] ++ List.replicate (Try.f11.ntmps - ([.nilp, (.d ⟨(.st [(.int .i64), (.int .i64), (.int .i64)]), t787⟩)] : List AV).length) .undef, [], 2⟩ (leave Try.prog Try.f11 k) = defers_List_Putv3.body F0 F1 t787 (fun y0 => k (.d ⟨.bool, y0⟩) []) := by kernel_rfl
theorem defers_List_Putv3.ok (d : Nat) (hd : 3 ≤ d) (t787 : Int × Int × Int × Unit) (k : KR) (hx : defers_List_Putv3 t787 (fun y0 => k (.d ⟨.bool, y0⟩) []) = some true) : callK Try.prog ht d 11 [.nilp, (.d ⟨(.st [(.int .i64), (.int .i64), (.int .i64)]), t787⟩)] [] k = some true := by
  obtain ⟨d, rfl⟩ : ∃ e, d = e + 1 := ⟨d - 1, by omega⟩
  exact fn_ok (c := codeOf Try.f11) Try.func11 (by kernel_rfl) (rec := defers_List_Putv3.calls defers_List_nonev3 defers_List_Lenv3) (fun g a h k hx => by
    rcases defers_List_nonev3.look d (by omega) hx with hx | hx
    rotate_left
    · exact hx
    rcases defers_List_Lenv3.look d (by omega) hx with hx | hx
    rotate_left
    · exact hx
    cases hx) (loopf := defers_List_Putv3.loops) (by
    have e : loopsOf (defers_List_Putv3.loops) 0 (codeOf Try.f11) = [] := by kernel_rfl
    rw [e]
    intro p hp
    cases hp) ((defers_List_Putv3.eq defers_List_nonev3 defers_List_Lenv3 t787 k).trans hx)
theorem defers_List_Putv3.look (d : Nat) (hd : 3 ≤ d) {e : Option Bool} {g : FuncId} {a : List AV} {h : Heap} {k : KR} (hx : defers_List_Putv3.get defers_List_Putv3 e g a h k = some true) : e = some true ∨ callK Try.prog ht d g a h k = some true := by
  unfold defers_List_Putv3.get at hx
  split at hx
  · exact .inr (defers_List_Putv3.ok d hd _ _ hx)
  · exact .inl hx
/-- function 16: (*sheerleg/defers.List).Drive -/
noncomputable def defers_List_Drivev2.body (defers_List_nonev3 : (Bool → Option Bool) → Option Bool) (t795 : Int × Int × Int × Int × Bool × Unit) (k1 : Bool → Option Bool) : Option Bool :=
  (defers_List_nonev3
  (fun b796 => (cond_ b796 (k1 false) none)))
noncomputable def defers_List_Drivev2 (t795 : Int × Int × Int × Int × Bool × Unit) (k1 : Bool → Option Bool) : Option Bool := defers_List_Drivev2.body defers_List_nonev3 t795 k1
noncomputable def defers_List_Drivev2.get (F : (Int × Int × Int × Int × Bool × Unit) → (Bool → Option Bool) → Option Bool) (e : Option Bool) (g : FuncId) (a : List AV) (h : Heap) (k : KR) : Option Bool := match g, a, h with
  | 16, [.nilp, (.d ⟨(.st [(.int .i64), (.int .i64), (.int .i64), (.int .i64), .bool]), t795⟩)], [] => F t795 (fun y0 => k (.d ⟨.bool, y0⟩) [])
  | _, _, _ => e
noncomputable def defers_List_Drivev2.calls (F0 : (Bool → Option Bool) → Option Bool) : RecF := fun g a h k => (defers_List_nonev3.get F0 none g a h k)
noncomputable def defers_List_Drivev2.loops : LoopF := fun b => none
set_option maxRecDepth 100000 in
theorem defers_List_Drivev2.eq (F0 : (Bool → Option Bool) → Option Bool) (t795 : Int × Int × Int × Int × Bool × Unit) (k : KR) : execL Try.prog ht 16 (callfOf (defers_List_Drivev2.calls F0)) (defers_List_Drivev2.loops) 0 (codeOf Try.f16) ⟨[.nilp, (.d ⟨(.st [(.int .i64), (.int .i64), (.int .i64), (.int .i64), .bool]), t795⟩)] ++ List.replicate (Try.f16.ntmps - ([.nilp, (.d ⟨(.st [(.int .i64), (.int .i64), (.int .i64), (.int .i64), .bool]), t795⟩)] : List AV).length) .undef, [], 2⟩ (leave Try.prog Try.f16 k) = defers_List_Drivev2.body F0 t795 (fun y0 => k (.d ⟨.bool, y0⟩) []) := by kernel_rfl
theorem defers_List_Drivev2.ok (d : Nat) (hd : 2 ≤ d) (t795 : Int × Int × Int × Int × Bool × Unit) (k : KR) (hx : defers_List_Drivev2 t795 (fun y0 => k (.d ⟨.bool, y0⟩) []) = some true) : callK Try.prog ht d 16 [.nilp, (.d ⟨(.st [(.int .i64), (.int .i64), (.int .i64), (.int .i64), .bool]), t795⟩)] [] k = some true := by
  obtain ⟨d, rfl⟩ : ∃ e, d = e + 1 := ⟨d - 1, by omega⟩
  exact fn_ok (c := codeOf Try.f16) Try.func16 (by kernel_rfl) (rec := defers_List_Drivev2.calls defers_List_nonev3) (fun g a h k hx => by
    rcases defers_List_nonev3.look d (by omega) hx with hx | hx
    rotate_left
    · exact hx
    cases hx) (loopf := defers_List_Drivev2.loops) (by
    have e : loopsOf (defers_List_Drivev2.loops) 0 (codeOf Try.f16) = [] := by kernel_rfl
    rw [e]
    intro p hp
    cases hp) ((defers_List_Drivev2.eq defers_List_nonev3 t795 k).trans hx)
theorem defers_List_Drivev2.look (d : Nat) (hd : 2 ≤ d) {e : Option Bool} {g : FuncId} {a : List AV} {h : Heap} {k : KR} (hx : defers_List_Drivev2.get defers_List_Drivev2 e g a h k = some true) : e = some true ∨ callK Try.prog ht d g a h k = some true := by
  unfold defers_List_Drivev2.get at hx
  split at hx
  · exact .inr (defers_List_Drivev2.ok d hd _ _ hx)
  · exact .inl hx
/-- function 29: (*sheerleg/defers.row[sheerleg/api.Driver]).put -/
noncomputable def defers_row_api_Driver_putv2.body (t804 : Int × Int × Int × Int × Bool × Unit) (b805 : Bool) (ts806 : List (Int × Int × Int × Unit)) (k1 : Bool → (List (Int × Int × Int × Unit)) → (List (Int × Int × Int × Int × Bool × Unit)) → Option Bool) : Option Bool :=
  (k1 b805 ts806 [(t804.1, (t804.2.1, (t804.2.2.1, (t804.2.2.2.1, (t804.2.2.2.2.1, ())))))])
noncomputable def defers_row_api_Driver_putv2 (t804 : Int × Int × Int × Int × Bool × Unit) (b805 : Bool) (ts806 : List (Int × Int × Int × Unit)) (k1 : Bool → (List (Int × Int × Int × Unit)) → (List (Int × Int × Int × Int × Bool × Unit)) → Option Bool) : Option Bool := defers_row_api_Driver_putv2.body t804 b805 ts806 k1
noncomputable def defers_row_api_Driver_putv2.get (F : (Int × Int × Int × Int × Bool × Unit) → Bool → (List (Int × Int × Int × Unit)) → (Bool → (List (Int × Int × Int × Unit)) → (List (Int × Int × Int × Int × Bool × Unit)) → Option Bool) → Option Bool) (e : Option Bool) (g : FuncId) (a : List AV) (h : Heap) (k : KR) : Option Bool := match g, a, h with
  | 29, [(.ptr [0, 0] 0 1), (.d ⟨(.st [(.int .i64), (.int .i64), (.int .i64), (.int .i64), .bool]), t804⟩)], [([0, 0], ⟨52, 3, (.mix [(.agg [(.ref [0, 1]), .nils, (.d ⟨.bool, b805⟩)])])⟩), ([0, 1], ⟨33, 3, (.data (.st [(.int .i64), (.int .i64), (.int .i64)]) ts806)⟩)] => F t804 b805 ts806 (fun y0 y1 y2 => k (.tup []) [([0, 0], ⟨52, 3, (.mix [(.agg [(.ref [0, 1]), (.ref [1, 0]), (.d ⟨.bool, y0⟩)])])⟩), ([0, 1], ⟨33, 3, (.data (.st [(.int .i64), (.int .i64), (.int .i64)]) y1)⟩), ([1, 0], ⟨35, 5, (.data (.st [(.int .i64), (.int .i64), (.int .i64), (.int .i64), .bool]) y2)⟩)])
  | _, _, _ => e
noncomputable def defers_row_api_Driver_putv2.calls : RecF := fun g a h k => none
noncomputable def defers_row_api_Driver_putv2.loops : LoopF := fun b => none
set_option maxRecDepth 100000 in
theorem defers_row_api_Driver_putv2.eq (t804 : Int × Int × Int × Int × Bool × Unit) (b805 : Bool) (ts806 : List (Int × Int × Int × Unit)) (k : KR) : execL Try.prog ht 29 (callfOf (defers_row_api_Driver_putv2.calls)) (defers_row_api_Driver_putv2.loops) 0 (codeOf Try.f29) ⟨[(.ptr [0, 0] 0 1), (.d ⟨(.st [(.int .i64), (.int .i64), (.int .i64), (.int .i64), .bool]), t804⟩)] ++ List.replicate (Try.f29.ntmps - ([(.ptr [0, 0] 0 1), (.d ⟨(.st [(.int .i64), (.int .i64), (.int .i64), (.int .i64), .bool]), t804⟩)] : List AV).length) .undef, [([0, 0], ⟨52, 3, (.mix [(.agg [(.ref [0, 1]), .nils, (.d ⟨.bool, b805⟩)])])⟩), ([0, 1], ⟨33, 3, (.data (.st [(.int .i64), (.int .i64), (.int .i64)]) ts806)⟩)], 2⟩ (leave Try.prog Try.f29 k) = defers_row_api_Driver_putv2.body t804 b805 ts806 (fun y0 y1 y2 => k (.tup []) [([0, 0], ⟨52, 3, (.mix [(.agg [(.ref [0, 1]), (.ref [1, 0]), (.d ⟨.bool, y0⟩)])])⟩), ([0, 1], ⟨33, 3, (.data (.st [(.int .i64), (.int .i64), (.int .i64)]) y1)⟩), ([1, 0], ⟨35, 5, (.data (.st [(.int .i64), (.int .i64), (.int .i64), (.int .i64), .bool]) y2)⟩)]) := by kernel_rfl
theorem defers_row_api_Driver_putv2.ok (d : Nat) (hd : 1 ≤ d) (t804 : Int × Int × Int × Int × Bool × Unit) (b805 : Bool) (ts806 : List (Int × Int × Int × Unit)) (k : KR) (hx : defers_row_api_Driver_putv2 t804 b805 ts806 (fun y0 y1 y2 => k (.tup []) [([0, 0], ⟨52, 3, (.mix [(.agg [(.ref [0, 1]), (.ref [1, 0]), (.d ⟨.bool, y0⟩)])])⟩), ([0, 1], ⟨33, 3, (.data (.st [(.int .i64), (.int .i64), (.int .i64)]) y1)⟩), ([1, 0], ⟨35, 5, (.data (.st [(.int .i64), (.int .i64), (.int .i64), (.int .i64), .bool]) y2)⟩)]) = some true) : callK Try.prog ht d 29 [(.ptr [0, 0] 0 1), (.d ⟨(.st [(.int .i64), (.int .i64), (.int .i64), (.int .i64), .bool]), t804⟩)] [([0, 0], ⟨52, 3, (.mix [(.agg [(.ref [0, 1]), .nils, (.d ⟨.bool, b805⟩)])])⟩), ([0, 1], ⟨33, 3, (.data (.st [(.int .i64), (.int .i64), (.int .i64)]) ts806)⟩)] k = some true := by
  obtain ⟨d, rfl⟩ : ∃ e, d = e + 1 := ⟨d - 1, by omega⟩
  exact fn_ok (c := codeOf Try.f29) Try.func29 (by kernel_rfl) (rec := defers_row_api_Driver_putv2.calls) (fun g a h k hx => by
    cases hx) (loopf := defers_row_api_Driver_putv2.loops) (by
    have e : loopsOf (defers_row_api_Driver_putv2.loops) 0 (codeOf Try.f29) = [] := by kernel_rfl
    rw [e]
    intro p hp
    cases hp) ((defers_row_api_Driver_putv2.eq t804 b805 ts806 k).trans hx)
theorem defers_row_api_Driver_putv2.look (d : Nat) (hd : 1 ≤ d) {e : Option Bool} {g : FuncId} {a : List AV} {h : Heap} {k : KR} (hx : defers_row_api_Driver_putv2.get defers_row_api_Driver_putv2 e g a h k = some true) : e = some true ∨ callK Try.prog ht d g a h k = some true := by
  unfold defers_row_api_Driver_putv2.get at hx
  split at hx
  · exact .inr (defers_row_api_Driver_putv2.ok d hd _ _ _ _ hx)
  · exact .inl hx
/-- function 16: (*sheerleg/defers.List).Drive -/
noncomputable def defers_List_Drivev3.body (defers_List_nonev2 : Bool → (List (Int × Int × Int × Unit)) → (Bool → Bool → (List (Int × Int × Int × Unit)) → Option Bool) → Option Bool) (defers_row_api_Driver_putv2 : (Int × Int × Int × Int × Bool × Unit) → Bool → (List (Int × Int × Int × Unit)) → (Bool → (List (Int × Int × Int × Unit)) → (List (Int × Int × Int × Int × Bool × Unit)) → Option Bool) → Option Bool) (t798 : Int × Int × Int × Int × Bool × Unit) (b799 : Bool) (ts800 : List (Int × Int × Int × Unit)) (k1 : Bool → Bool → (List (Int × Int × Int × Unit)) → (List (Int × Int × Int × Int × Bool × Unit)) → Option Bool) : Option Bool :=
  (defers_List_nonev2 b799 ts800
  (fun b801 b802 ts803 => (cond_ b801 (k1 false b802 ts803 []) (defers_row_api_Driver_putv2 t798 b802 ts803
  (fun b807 ts808 ts809 => (k1 true b807 ts808 ts809))))))
noncomputable def defers_List_Drivev3 (t798 : Int × Int × Int × Int × Bool × Unit) (b799 : Bool) (ts800 : List (Int × Int × Int × Unit)) (k1 : Bool → Bool → (List (Int × Int × Int × Unit)) → (List (Int × Int × Int × Int × Bool × Unit)) → Option Bool) : Option Bool := defers_List_Drivev3.body defers_List_nonev2 defers_row_api_Driver_putv2 t798 b799 ts800 k1
noncomputable def defers_List_Drivev3.get (F : (Int × Int × Int × Int × Bool × Unit) → Bool → (List (Int × Int × Int × Unit)) → (Bool → Bool → (List (Int × Int × Int × Unit)) → (List (Int × Int × Int × Int × Bool × Unit)) → Option Bool) → Option Bool) (e : Option Bool) (g : FuncId) (a : List AV) (h : Heap) (k : KR) : Option Bool := match g, a, h with
  | 16, [(.ptr [0, 0] 0 0), (.d ⟨(.st [(.int .i64), (.int .i64), (.int .i64), (.int .i64), .bool]), t798⟩)], [([0, 0], ⟨52, 3, (.mix [(.agg [(.ref [0, 1]), .nils, (.d ⟨.bool, b799⟩)])])⟩), ([0, 1], ⟨33, 3, (.data (.st [(.int .i64), (.int .i64), (.int .i64)]) ts800)⟩)] => F t798 b799 ts800 (fun y0 y1 y2 y3 => k (.d ⟨.bool, y0⟩) [([0, 0], ⟨52, 3, (.mix [(.agg [(.ref [0, 1]), (.ref [1, 0]), (.d ⟨.bool, y1⟩)])])⟩), ([0, 1], ⟨33, 3, (.data (.st [(.int .i64), (.int .i64), (.int .i64)]) y2)⟩), ([1, 0], ⟨35, 5, (.data (.st [(.int .i64), (.int .i64), (.int .i64), (.int .i64), .bool]) y3)⟩)])
  | _, _, _ => e
noncomputable def defers_List_Drivev3.calls (F0 : Bool → (List (Int × Int × Int × Unit)) → (Bool → Bool → (List (Int × Int × Int × Unit)) → Option Bool) → Option Bool) (F1 : (Int × Int × Int × Int × Bool × Unit) → Bool → (List (Int × Int × Int × Unit)) → (Bool → (List (Int × Int × Int × Unit)) → (List (Int × Int × Int × Int × Bool × Unit)) → Option Bool) → Option Bool) : RecF := fun g a h k => (defers_List_nonev2.get F0 (defers_row_api_Driver_putv2.get F1 none g a h k) g a h k)
noncomputable def defers_List_Drivev3.loops : LoopF := fun b => none
set_option maxRecDepth 100000 in
theorem defers_List_Drivev3.eq (F0 : Bool → (List (Int × Int × Int × Unit)) → (Bool → Bool → (List (Int × Int × Int × Unit)) → Option Bool) → Option Bool) (F1 : (Int × Int × Int × Int × Bool × Unit) → Bool → (List (Int × Int × Int × Unit)) → (Bool → (List (Int × Int × Int × Unit)) → (List (Int × Int × Int × Int × Bool × Unit)) → Option Bool) → Option Bool) (t798 : Int × Int × Int × Int × Bool × Unit) (b799 : Bool) (ts800 : List (Int × Int × Int × Unit)) (k : KR) : execL Try.prog ht 16 (callfOf (defers_List_Drivev3.calls F0 F1)) (defers_List_Drivev3.loops) 0 (codeOf Try.f16) ⟨[(.ptr [0, 0] 0 0), (.d ⟨(.st [(.int .i64), (.int .i64), (.int .i64), (.int .i64), .bool]), t798⟩)] ++ List.replicate (Try.f16.ntmps - ([(.ptr [0, 0] 0 0), (.d ⟨(.st [(.int .i64), (.int .i64), (.int .i64), (.int .i64), .bool]), t798⟩)] : List AV).length) .undef, [([0, 0], ⟨52, 3, (.mix [(.agg [(.ref [0, 1]), .nils, (.d ⟨.bool, b799⟩)])])⟩), ([0, 1], ⟨33, 3, (.data (.st [(.int .i64), (.int .i64), (.int .i64)]) ts800)⟩)], 2⟩ (leave Try.prog Try.f16 k) = defers_List_Drivev3.body F0 F1 t798 b799 ts800 (fun y0 y1 y2 y3 => k (.d ⟨.bool, y0⟩) [([0, 0], ⟨52, 3, (.mix [(.agg [(.ref [0, 1]), (.ref [1, 0]), (.d ⟨.bool, y1⟩)])])⟩), ([0, 1], ⟨33, 3, (.data (.st [(.int .i64), (.int .i64), (.int .i64)]) y2)⟩), ([1, 0], ⟨35, 5, (.data (.st [(.int .i64), (.int .i64), (.int .i64), (.int .i64), .bool]) y3)⟩)]) := by kernel_rfl
theorem defers_List_Drivev3.ok (d : Nat) (hd : 2 ≤ d) (t798 : Int × Int × Int × Int × Bool × Unit) (b799 : Bool) (ts800 : List (Int × Int × Int × Unit)) (k : KR) (hx : defers_List_Drivev3 t798 b799 ts800 (fun y0 y1 y2 y3 => k (.d ⟨.bool, y0⟩) [([0, 0], ⟨52, 3, (.mix [(.agg [(.ref [0, 1]), (.ref [1, 0]), (.d ⟨.bool, y1⟩)])])⟩), ([0, 1], ⟨33, 3, (.data (.st [(.int .i64), (.int .i64), (.int .i64)]) y2)⟩), ([1, 0], ⟨35, 5, (.data (.st [(.int .i64), (.int .i64), (.int .i64), (.int .i64), .bool]) y3)⟩)]) = some true) : callK Try.prog ht d 16 [(.ptr [0, 0] 0 0), (.d ⟨(.st [(.int .i64), (.int .i64), (.int .i64), (.int .i64), .bool]), t798⟩)] [([0, 0], ⟨52, 3, (.mix [(.agg [(.ref [0, 1]), .nils, (.d ⟨.bool, b799⟩)])])⟩), ([0, 1], ⟨33, 3, (.data (.st [(.int .i64), (.int .i64), (.int .i64)]) ts800)⟩)] k = some true := by
  obtain ⟨d, rfl⟩ : ∃ e, d = e + 1 := ⟨d - 1, by omega⟩
  exact fn_ok (c := codeOf Try.f16) Try.func16 (by kernel_rfl) (rec := defers_List_Drivev3.calls defers_List_nonev2 defers_row_api_Driver_putv2) (fun g a h k hx => by
    rcases defers_List_nonev2.look d (by omega) hx with hx | hx
    rotate_left
    · exact hx
    rcases defers_row_api_Driver_putv2.look d (by omega) hx with hx | hx
    rotate_left
    · exact hx
    cases hx) (loopf := defers_List_Drivev3.loops) (by
    have e : loopsOf (defers_List_Drivev3.loops) 0 (codeOf Try.f16) = [] := by kernel_rfl
    rw [e]
    intro p hp
    cases hp) ((defers_List_Drivev3.eq defers_List_nonev2 defers_row_api_Driver_putv2 t798 b799 ts800 k).trans hx)
theorem defers_List_Drivev3.look (d : Nat) (hd : 2 ≤ d) {e : Option Bool} {g : FuncId} {a : List AV} {h : Heap} {k : KR} (hx : defers_List_Drivev3.get defers_List_Drivev3 e g a h k = some true) : e = some true ∨ callK Try.prog ht d g a h k = some true := by
  unfold defers_List_Drivev3.get at hx
  split at hx
  · exact .inr (defers_List_Drivev3.ok d hd _ _ _ _ hx)
  · exact .inl hx
/-- function 5: sheerleg/sheerleglaw40.DefersNobody -/
noncomputable def law40_DefersNobody.body (defers_List_Takev2 : Int → ((Int × Int × Int × Unit) → Bool → Option Bool) → Option Bool) (defers_List_Takev3 : Int → Bool → ((Int × Int × Int × Unit) → Bool → Bool → Option Bool) → Option Bool) (defers_List_Topv2 : ((Int × Int × Int × Int × Bool × Unit) → Bool → Option Bool) → Option Bool) (defers_List_Top : Bool → ((Int × Int × Int × Int × Bool × Unit) → Bool → Bool → Option Bool) → Option Bool) (defers_List_Recoverv2 : (Int → Bool → Option Bool) → Option Bool) (defers_List_Recover : Bool → (Int → Bool → Bool → Option Bool) → Option Bool) (defers_List_Donev1 : ((Int × Int × Int × Int × Bool × Unit) → Bool → Option Bool) → Option Bool) (defers_List_Donev2 : Bool → ((Int × Int × Int × Int × Bool × Unit) → Bool → Bool → Option Bool) → Option Bool) (defers_List_Putv3 : (Int × Int × Int × Unit) → (Bool → Option Bool) → Option Bool) (defers_List_Put : (Int × Int × Int × Unit) → Bool → (Bool → Bool → (List (Int × Int × Int × Unit)) → Option Bool) → Option Bool) (defers_List_Drivev2 : (Int × Int × Int × Int × Bool × Unit) → (Bool → Option Bool) → Option Bool) (defers_List_Drivev3 : (Int × Int × Int × Int × Bool × Unit) → Bool → (List (Int × Int × Int × Unit)) → (Bool → Bool → (List (Int × Int × Int × Unit)) → (List (Int × Int × Int × Int × Bool × Unit)) → Option Bool) → Option Bool) (defers_List_Lenv3 : (Int → Option Bool) → Option Bool) (defers_List_Lenv1 : Bool → (List (Int × Int × Int × Unit)) → (List (Int × Int × Int × Int × Bool × Unit)) → (Int → Bool → (List (Int × Int × Int × Unit)) → (List (Int × Int × Int × Int × Bool × Unit)) → Option Bool) → Option Bool) (defers_List_Depthv2 : (Int → Option Bool) → Option Bool) (defers_List_Depthv1 : Bool → (List (Int × Int × Int × Unit)) → (List (Int × Int × Int × Int × Bool × Unit)) → (Int → Bool → (List (Int × Int × Int × Unit)) → (List (Int × Int × Int × Int × Bool × Unit)) → Option Bool) → Option Bool) (law40_known : (Bool → Option Bool) → Option Bool) (t749 : Int × Int × Int × Unit) (t750 : Int × Int × Int × Int × Bool × Unit) (k1 : Bool → Option Bool) : Option Bool :=
  (defers_List_Takev2 t749.1
  (fun t753 b754 => (defers_List_Takev3 t749.1 false
  (fun t760 b761 b762 => (defers_List_Topv2
  (fun t765 b766 => (defers_List_Top b762
  (fun t767 b768 b769 => (defers_List_Recoverv2
  (fun n771 b772 => (defers_List_Recover b769
  (fun n773 b774 b775 => (defers_List_Donev1
  (fun t778 b779 => (defers_List_Donev2 b775
  (fun t784 b785 b786 => (cond_ (! b754) (cond_ (! b761) (cond_ (! b766) (cond_ (! b768) (cond_ (! b772) (cond_ (! b774) (cond_ (! b779) (cond_ (! b785) (defers_List_Putv3 t749
  (fun b791 => (cond_ (! b791) (defers_List_Put t749 b786
  (fun b792 b793 ts794 => (cond_ (! b792) (defers_List_Drivev2 t750
  (fun b797 => (cond_ (! b797) (defers_List_Drivev3 t750 b793 ts794
  (fun b810 b811 ts812 ts813 => (cond_ (! b810) (defers_List_Lenv3
  (fun n814 => (defers_List_Lenv1 b811 ts812 ts813
  (fun n815 b816 ts817 ts818 => (defers_List_Depthv2
  (fun n819 => (defers_List_Depthv1 b816 ts817 ts818
  (fun n820 b821 ts822 ts823 => (cond_ ((IntKind.wrap .i64 ((IntKind.wrap .i64 ((IntKind.wrap .i64 (n814 + n815)) + n819)) + n820)) == (0 : Int)) (law40_known
  (fun b824 => (k1 b824))) (k1 false)))))))))) (k1 false)))) (k1 false)))) (k1 false)))) (k1 false)))) (k1 false)) (k1 false)) (k1 false)) (k1 false)) (k1 false)) (k1 false)) (k1 false)) (k1 false))))))))))))))))))
noncomputable def law40_DefersNobody (t749 : Int × Int × Int × Unit) (t750 : Int × Int × Int × Int × Bool × Unit) (k1 : Bool → Option Bool) : Option Bool := law40_DefersNobody.body defers_List_Takev2 defers_List_Takev3 defers_List_Topv2 defers_List_Top defers_List_Recoverv2 defers_List_Recover defers_List_Donev1 defers_List_Donev2 defers_List_Putv3 defers_List_Put defers_List_Drivev2 defers_List_Drivev3 defers_List_Lenv3 defers_List_Lenv1 defers_List_Depthv2 defers_List_Depthv1 law40_known t749 t750 k1
noncomputable def law40_DefersNobody.get (F : (Int × Int × Int × Unit) → (Int × Int × Int × Int × Bool × Unit) → (Bool → Option Bool) → Option Bool) (e : Option Bool) (g : FuncId) (a : List AV) (h : Heap) (k : KR) : Option Bool := match g, a, h with
  | 5, [(.d ⟨(.st [(.int .i64), (.int .i64), (.int .i64)]), t749⟩), (.d ⟨(.st [(.int .i64), (.int .i64), (.int .i64), (.int .i64), .bool]), t750⟩)], [] => F t749 t750 (fun y0 => k (.d ⟨.bool, y0⟩) [])
  | _, _, _ => e
noncomputable def law40_DefersNobody.calls (F0 : Int → ((Int × Int × Int × Unit) → Bool → Option Bool) → Option Bool) (F1 : Int → Bool → ((Int × Int × Int × Unit) → Bool → Bool → Option Bool) → Option Bool) (F2 : ((Int × Int × Int × Int × Bool × Unit) → Bool → Option Bool) → Option Bool) (F3 : Bool → ((Int × Int × Int × Int × Bool × Unit) → Bool → Bool → Option Bool) → Option Bool) (F4 : (Int → Bool → Option Bool) → Option Bool) (F5 : Bool → (Int → Bool → Bool → Option Bool) → Option Bool) (F6 : ((Int × Int × Int × Int × Bool × Unit) → Bool → Option Bool) → Option Bool) (F7 : Bool → ((Int × Int × Int × Int × Bool × Unit) → Bool → Bool → Option Bool) → Option Bool) (F8 : (Int × Int × Int × Unit) → (Bool → Option Bool) → Option Bool) (F9 : (Int × Int × Int × Unit) → Bool → (Bool → Bool → (List (Int × Int × Int × Unit)) → Option Bool) → Option Bool) (F10 : (Int × Int × Int × Int × Bool × Unit) → (Bool → Option Bool) → Option Bool) (F11 : (Int × Int × Int × Int × Bool × Unit) → Bool → (List (Int × Int × Int × Unit)) → (Bool → Bool → (List (Int × Int × Int × Unit)) → (List (Int × Int × Int × Int × Bool × Unit)) → Option Bool) → Option Bool) (F12 : (Int → Option Bool) → Option Bool) (F13 : Bool → (List (Int × Int × Int × Unit)) → (List (Int × Int × Int × Int × Bool × Unit)) → (Int → Bool → (List (Int × Int × Int × Unit)) → (List (Int × Int × Int × Int × Bool × Unit)) → Option Bool) → Option Bool) (F14 : (Int → Option Bool) → Option Bool) (F15 : Bool → (List (Int × Int × Int × Unit)) → (List (Int × Int × Int × Int × Bool × Unit)) → (Int → Bool → (List (Int × Int × Int × Unit)) → (List (Int × Int × Int × Int × Bool × Unit)) → Option Bool) → Option Bool) (F16 : (Bool → Option Bool) → Option Bool) : RecF := fun g a h k => (defers_List_Takev2.get F0 (defers_List_Takev3.get F1 (defers_List_Topv2.get F2 (defers_List_Top.get F3 (defers_List_Recoverv2.get F4 (defers_List_Recover.get F5 (defers_List_Donev1.get F6 (defers_List_Donev2.get F7 (defers_List_Putv3.get F8 (defers_List_Put.get F9 (defers_List_Drivev2.get F10 (defers_List_Drivev3.get F11 (defers_List_Lenv3.get F12 (defers_List_Lenv1.get F13 (defers_List_Depthv2.get F14 (defers_List_Depthv1.get F15 (law40_known.get F16 none g a h k) g a h k) g a h k) g a h k) g a h k) g a h k) g a h k) g a h k) g a h k) g a h k) g a h k) g a h k) g a h k) g a h k) g a h k) g a h k) g a h k)
noncomputable def law40_DefersNobody.loops : LoopF := fun b => none
set_option maxRecDepth 100000 in
theorem law40_DefersNobody.eq (F0 : Int → ((Int × Int × Int × Unit) → Bool → Option Bool) → Option Bool) (F1 : Int → Bool → ((Int × Int × Int × Unit) → Bool → Bool → Option Bool) → Option Bool) (F2 : ((Int × Int × Int × Int × Bool × Unit) → Bool → Option Bool) → Option Bool) (F3 : Bool → ((Int × Int × Int × Int × Bool × Unit) → Bool → Bool → Option Bool) → Option Bool) (F4 : (Int → Bool → Option Bool) → Option Bool) (F5 : Bool → (Int → Bool → Bool → Option Bool) → Option Bool) (F6 : ((Int × Int × Int × Int × Bool × Unit) → Bool → Option Bool) → Option Bool) (F7 : Bool → ((Int × Int × Int × Int × Bool × Unit) → Bool → Bool → Option Bool) → Option Bool) (F8 : (Int × Int × Int × Unit) → (Bool → Option Bool) → Option Bool) (F9 : (Int × Int × Int × Unit) → Bool → (Bool → Bool → (List (Int × Int × Int × Unit)) → Option Bool) → Option Bool) (F10 : (Int × Int × Int × Int × Bool × Unit) → (Bool → Option Bool) → Option Bool) (F11 : (Int × Int × Int × Int × Bool × Unit) → Bool → (List (Int × Int × Int × Unit)) → (Bool → Bool → (List (Int × Int × Int × Unit)) → (List (Int × Int × Int × Int × Bool × Unit)) → Option Bool) → Option Bool) (F12 : (Int → Option Bool) → Option Bool) (F13 : Bool → (List (Int × Int × Int × Unit)) → (List (Int × Int × Int × Int × Bool × Unit)) → (Int → Bool → (List (Int × Int × Int × Unit)) → (List (Int × Int × Int × Int × Bool × Unit)) → Option Bool) → Option Bool) (F14 : (Int → Option Bool) → Option Bool) (F15 : Bool → (List (Int × Int × Int × Unit)) → (List (Int × Int × Int × Int × Bool × Unit)) → (Int → Bool → (List (Int × Int × Int × Unit)) → (List (Int × Int × Int × Int × Bool × Unit)) → Option Bool) → Option Bool) (F16 : (Bool → Option Bool) → Option Bool) (t749 : Int × Int × Int × Unit) (t750 : Int × Int × Int × Int × Bool × Unit) (k : KR) : execL Try.prog ht 5 (callfOf (law40_DefersNobody.calls F0 F1 F2 F3 F4 F5 F6 F7 F8 F9 F10 F11 F12 F13 F14 F15 F16)) (law40_DefersNobody.loops) 0 (codeOf Try.f5) ⟨[(.d ⟨(.st [(.int .i64), (.int .i64), (.int .i64)]), t749⟩), (.d ⟨(.st [(.int .i64), (.int .i64), (.int .i64), (.int .i64), .bool]), t750⟩)] ++ List.replicate (Try.f5.ntmps - ([(.d ⟨(.st [(.int .i64), (.int .i64), (.int .i64)]), t749⟩), (.d ⟨(.st [(.int .i64), (.int .i64), (.int .i64), (.int .i64), .bool]), t750⟩)] : List AV).length) .undef, [], 2⟩ (leave Try.prog Try.f5 k) = law40_DefersNobody.body F0 F1 F2 F3 F4 F5 F6 F7 F8 F9 F10 F11 F12 F13 F14 F15 F16 t749 t750 (fun y0 => k (.d ⟨.bool, y0⟩) []) := by kernel_rfl
theorem law40_DefersNobody.ok (d : Nat) (hd : 61 ≤ d) (t749 : Int × Int × Int × Unit) (t750 : Int × Int × Int × Int × Bool × Unit) (k : KR) (hx : law40_DefersNobody t749 t750 (fun y0 => k (.d ⟨.bool, y0⟩) []) = some true) : callK Try.prog ht d 5 [(.d ⟨(.st [(.int .i64), (.int .i64), (.int .i64)]), t749⟩), (.d ⟨(.st [(.int .i64), (.int .i64), (.int .i64), (.int .i64), .bool]), t750⟩)] [] k = some true := by
  obtain ⟨d, rfl⟩ : ∃ e, d = e + 1 := ⟨d - 1, by omega⟩
  exact fn_ok (c := codeOf Try.f5) Try.func5 (by kernel_rfl) (rec := law40_DefersNobody.calls defers_List_Takev2 defers_List_Takev3 defers_List_Topv2 defers_List_Top defers_List_Recoverv2 defers_List_Recover defers_List_Donev1 defers_List_Donev2 defers_List_Putv3 defers_List_Put defers_List_Drivev2 defers_List_Drivev3 defers_List_Lenv3 defers_List_Lenv1 defers_List_Depthv2 defers_List_Depthv1 law40_known) (fun g a h k hx => by
    rcases defers_List_Takev2.look d (by omega) hx with hx | hx
    rotate_left
    · exact hx
    rcases defers_List_Takev3.look d (by omega) hx with hx | hx
    rotate_left
    · exact hx
    rcases defers_List_Topv2.look d (by omega) hx with hx | hx
    rotate_left
    · exact hx
    rcases defers_List_Top.look d (by omega) hx with hx | hx
    rotate_left
    · exact hx
    rcases defers_List_Recoverv2.look d (by omega) hx with hx | hx
    rotate_left
    · exact hx
    rcases defers_List_Recover.look d (by omega) hx with hx | hx
    rotate_left
    · exact hx
    rcases defers_List_Donev1.look d (by omega) hx with hx | hx
    rotate_left
    · exact hx
    rcases defers_List_Donev2.look d (by omega) hx with hx | hx
    rotate_left
    · exact hx
    rcases defers_List_Putv3.look d (by omega) hx with hx | hx
    rotate_left
    · exact hx
    rcases defers_List_Put.look d (by omega) hx with hx | hx
    rotate_left
    · exact hx
    rcases defers_List_Drivev2.look d (by omega) hx with hx | hx
    rotate_left
    · exact hx
    rcases defers_List_Drivev3.look d (by omega) hx with hx | hx
    rotate_left
    · exact hx
    rcases defers_List_Lenv3.look d (by omega) hx with hx | hx
    rotate_left
    · exact hx
    rcases defers_List_Lenv1.look d (by omega) hx with hx | hx
    rotate_left
    · exact hx
    rcases defers_List_Depthv2.look d (by omega) hx with hx | hx
    rotate_left
    · exact hx
    rcases defers_List_Depthv1.look d (by omega) hx with hx | hx
    rotate_left
    · exact hx
    rcases law40_known.look d (by omega) hx with hx | hx
    rotate_left
    · exact hx
    cases hx) (loopf := law40_DefersNobody.loops) (by
    have e : loopsOf (law40_DefersNobody.loops) 0 (codeOf Try.f5) = [] := by kernel_rfl
    rw [e]
    intro p hp
    cases hp) ((law40_DefersNobody.eq defers_List_Takev2 defers_List_Takev3 defers_List_Topv2 defers_List_Top defers_List_Recoverv2 defers_List_Recover defers_List_Donev1 defers_List_Donev2 defers_List_Putv3 defers_List_Put defers_List_Drivev2 defers_List_Drivev3 defers_List_Lenv3 defers_List_Lenv1 defers_List_Depthv2 defers_List_Depthv1 law40_known t749 t750 k).trans hx)
theorem law40_DefersNobody.look (d : Nat) (hd : 61 ≤ d) {e : Option Bool} {g : FuncId} {a : List AV} {h : Heap} {k : KR} (hx : law40_DefersNobody.get law40_DefersNobody e g a h k = some true) : e = some true ∨ callK Try.prog ht d g a h k = some true := by
  unfold law40_DefersNobody.get at hx
  split at hx
  · exact .inr (law40_DefersNobody.ok d hd _ _ _ hx)
  · exact .inl hx
end Go.Proofs.Ytlmggajbalnpjaa.g
