/- What the functions come to that G reaches, as plain functions; written by a program of this work, each told by Lean. -/
import Derived.Test.YtlmggajbalnpjaaA3
import Derived.Test.YtlmggajbalnpjaaChecked
namespace Go.Proofs.Ytlmggajbalnpjaa.g
open Go.AX
set_option linter.unusedVariables false
set_option maxRecDepth 100000
set_option maxHeartbeats 4000000
def ht : Hints := hintsOf [(16, [(2000000, ⟨[0, 4], [(.virtP 0 1 35 5)]⟩)]),
  (11, [(2000000, ⟨[0, 4], [(.virtP 0 0 33 3)]⟩)]),
  (15, [(2000000, ⟨[0, 2, 3], [(.trimP 0 1)]⟩)]),
  (12, [(2000000, ⟨[0, 4, 5], [(.trimP 0 0)]⟩)]),
  (4, [(0, ⟨[0, 1, 2, 7, 8], [(.virtP 7 0 33 3)]⟩), (2, ⟨[0, 1, 2, 7, 9], []⟩), (2000000, ⟨[6], []⟩), (1000000, ⟨[0, 1, 2, 7], []⟩), (1000002, ⟨[7], []⟩)]),
  (3, [(0, ⟨[0, 3, 4, 5], [(.virtP 3 0 33 3), (.virtP 3 1 35 5), (.giveP 4)]⟩), (2000000, ⟨[2], []⟩), (1000000, ⟨[], []⟩)]),
  (8, [(2000000, ⟨[0, 6, 7], [(.virtP 0 0 33 3), (.virtP 0 1 35 5), (.giveP 6)]⟩)]),
  (21, [(2000000, ⟨[2, 3, 4], [(.giveP 2)]⟩)]),
  (17, [(2000000, ⟨[4, 5], [(.giveP 4)]⟩)])]
/-- function 6: sheerleg/sheerleglaw40.known, all of it at once -/
def law40_known (k1 : Bool → Option Bool) : Option Bool := k1 true
def law40_known.get (F : (Bool → Option Bool) → Option Bool) (e : Option Bool) (g : FuncId) (a : List AV) (h : Heap) (k : KR) : Option Bool := match g, a, h with
  | 6, [], [] => F (fun y => k (.d ⟨.bool, y⟩) [])
  | _, _, _ => e
set_option maxRecDepth 100000 in
theorem law40_known.all (k : KR) : callK Try.prog ht 60 6 [] [] k = k (.d ⟨.bool, true⟩) [] := by kernel_rfl
theorem law40_known.look (d : Nat) (hd : 60 ≤ d) {e : Option Bool} {g : FuncId} {a : List AV} {h : Heap} {k : KR} (hx : law40_known.get law40_known e g a h k = some true) : e = some true ∨ callK Try.prog ht d g a h k = some true := by
  unfold law40_known.get at hx
  split at hx
  · exact .inr (callK_le hd _ _ _ _ _ (fun _ _ h => h) ((law40_known.all _).trans hx))
  · exact .inl hx
/-- function 7: sheerleg/defers.New -/
noncomputable def defers_New.body (k1 : Bool → Option Bool) : Option Bool :=
  (k1 true)
noncomputable def defers_New (k1 : Bool → Option Bool) : Option Bool := defers_New.body k1
noncomputable def defers_New.get (F : (Bool → Option Bool) → Option Bool) (e : Option Bool) (g : FuncId) (a : List AV) (h : Heap) (k : KR) : Option Bool := match g, a, h with
  | 7, [], [] => F (fun y0 => k (.ptr [1, 0] 0 0) [([1, 0], ⟨52, 3, (.mix [(.agg [.nils, .nils, (.d ⟨.bool, y0⟩)])])⟩)])
  | _, _, _ => e
noncomputable def defers_New.calls : RecF := fun g a h k => none
noncomputable def defers_New.loops : LoopF := fun b => none
set_option maxRecDepth 100000 in
theorem defers_New.eq (k : KR) : execL Try.prog ht 7 (callfOf (defers_New.calls)) (defers_New.loops) 0 (codeOf Try.f7) ⟨[] ++ List.replicate (Try.f7.ntmps - ([] : List AV).length) .undef, [], 2⟩ (leave Try.prog Try.f7 k) = defers_New.body (fun y0 => k (.ptr [1, 0] 0 0) [([1, 0], ⟨52, 3, (.mix [(.agg [.nils, .nils, (.d ⟨.bool, y0⟩)])])⟩)]) := by kernel_rfl
theorem defers_New.ok (d : Nat) (hd : 1 ≤ d) (k : KR) (hx : defers_New (fun y0 => k (.ptr [1, 0] 0 0) [([1, 0], ⟨52, 3, (.mix [(.agg [.nils, .nils, (.d ⟨.bool, y0⟩)])])⟩)]) = some true) : callK Try.prog ht d 7 [] [] k = some true := by
  obtain ⟨d, rfl⟩ : ∃ e, d = e + 1 := ⟨d - 1, by omega⟩
  exact fn_ok (c := codeOf Try.f7) Try.func7 (by kernel_rfl) (rec := defers_New.calls) (fun g a h k hx => by
    cases hx) (loopf := defers_New.loops) (by
    have e : loopsOf (defers_New.loops) 0 (codeOf Try.f7) = [] := by kernel_rfl
    rw [e]
    intro p hp
    cases hp) ((defers_New.eq k).trans hx)
theorem defers_New.look (d : Nat) (hd : 1 ≤ d) {e : Option Bool} {g : FuncId} {a : List AV} {h : Heap} {k : KR} (hx : defers_New.get defers_New e g a h k = some true) : e = some true ∨ callK Try.prog ht d g a h k = some true := by
  unfold defers_New.get at hx
  split at hx
  · exact .inr (defers_New.ok d hd _ hx)
  · exact .inl hx
/-- function 23: (*sheerleg/defers.List).none -/
noncomputable def defers_List_none.body (b13 : Bool) (k1 : Bool → Bool → Option Bool) : Option Bool :=
  (k1 (! b13) b13)
noncomputable def defers_List_none (b13 : Bool) (k1 : Bool → Bool → Option Bool) : Option Bool := defers_List_none.body b13 k1
noncomputable def defers_List_none.get (F : Bool → (Bool → Bool → Option Bool) → Option Bool) (e : Option Bool) (g : FuncId) (a : List AV) (h : Heap) (k : KR) : Option Bool := match g, a, h with
  | 23, [(.ptr [0, 0] 0 0)], [([0, 0], ⟨52, 3, (.mix [(.agg [.nils, .nils, (.d ⟨.bool, b13⟩)])])⟩)] => F b13 (fun y0 y1 => k (.d ⟨.bool, y0⟩) [([0, 0], ⟨52, 3, (.mix [(.agg [.nils, .nils, (.d ⟨.bool, y1⟩)])])⟩)])
  | _, _, _ => e
noncomputable def defers_List_none.calls : RecF := fun g a h k => none
noncomputable def defers_List_none.loops : LoopF := fun b => none
set_option maxRecDepth 100000 in
theorem defers_List_none.eq (b13 : Bool) (k : KR) : execL Try.prog ht 23 (callfOf (defers_List_none.calls)) (defers_List_none.loops) 0 (codeOf Try.f23) ⟨[(.ptr [0, 0] 0 0)] ++ List.replicate (Try.f23.ntmps - ([(.ptr [0, 0] 0 0)] : List AV).length) .undef, [([0, 0], ⟨52, 3, (.mix [(.agg [.nils, .nils, (.d ⟨.bool, b13⟩)])])⟩)], 2⟩ (leave Try.prog Try.f23 k) = defers_List_none.body b13 (fun y0 y1 => k (.d ⟨.bool, y0⟩) [([0, 0], ⟨52, 3, (.mix [(.agg [.nils, .nils, (.d ⟨.bool, y1⟩)])])⟩)]) := by kernel_rfl
theorem defers_List_none.ok (d : Nat) (hd : 1 ≤ d) (b13 : Bool) (k : KR) (hx : defers_List_none b13 (fun y0 y1 => k (.d ⟨.bool, y0⟩) [([0, 0], ⟨52, 3, (.mix [(.agg [.nils, .nils, (.d ⟨.bool, y1⟩)])])⟩)]) = some true) : callK Try.prog ht d 23 [(.ptr [0, 0] 0 0)] [([0, 0], ⟨52, 3, (.mix [(.agg [.nils, .nils, (.d ⟨.bool, b13⟩)])])⟩)] k = some true := by
  obtain ⟨d, rfl⟩ : ∃ e, d = e + 1 := ⟨d - 1, by omega⟩
  exact fn_ok (c := codeOf Try.f23) Try.func23 (by kernel_rfl) (rec := defers_List_none.calls) (fun g a h k hx => by
    cases hx) (loopf := defers_List_none.loops) (by
    have e : loopsOf (defers_List_none.loops) 0 (codeOf Try.f23) = [] := by kernel_rfl
    rw [e]
    intro p hp
    cases hp) ((defers_List_none.eq b13 k).trans hx)
theorem defers_List_none.look (d : Nat) (hd : 1 ≤ d) {e : Option Bool} {g : FuncId} {a : List AV} {h : Heap} {k : KR} (hx : defers_List_none.get defers_List_none e g a h k = some true) : e = some true ∨ callK Try.prog ht d g a h k = some true := by
  unfold defers_List_none.get at hx
  split at hx
  · exact .inr (defers_List_none.ok d hd _ _ hx)
  · exact .inl hx
/-- function 9: (*sheerleg/defers.List).Len -/
noncomputable def defers_List_Len.body (defers_List_none : Bool → (Bool → Bool → Option Bool) → Option Bool) (b16 : Bool) (k1 : Int → Bool → Option Bool) : Option Bool :=
  (defers_List_none b16
  (fun b17 b18 => (cond_ b17 (k1 (0 : Int) b18) (k1 (0 : Int) b18))))
noncomputable def defers_List_Len (b16 : Bool) (k1 : Int → Bool → Option Bool) : Option Bool := defers_List_Len.body defers_List_none b16 k1
noncomputable def defers_List_Len.get (F : Bool → (Int → Bool → Option Bool) → Option Bool) (e : Option Bool) (g : FuncId) (a : List AV) (h : Heap) (k : KR) : Option Bool := match g, a, h with
  | 9, [(.ptr [0, 0] 0 0)], [([0, 0], ⟨52, 3, (.mix [(.agg [.nils, .nils, (.d ⟨.bool, b16⟩)])])⟩)] => F b16 (fun y0 y1 => k (.d ⟨(.int .i64), y0⟩) [([0, 0], ⟨52, 3, (.mix [(.agg [.nils, .nils, (.d ⟨.bool, y1⟩)])])⟩)])
  | _, _, _ => e
noncomputable def defers_List_Len.calls (F0 : Bool → (Bool → Bool → Option Bool) → Option Bool) : RecF := fun g a h k => (defers_List_none.get F0 none g a h k)
noncomputable def defers_List_Len.loops : LoopF := fun b => none
set_option maxRecDepth 100000 in
theorem defers_List_Len.eq (F0 : Bool → (Bool → Bool → Option Bool) → Option Bool) (b16 : Bool) (k : KR) : execL Try.prog ht 9 (callfOf (defers_List_Len.calls F0)) (defers_List_Len.loops) 0 (codeOf Try.f9) ⟨[(.ptr [0, 0] 0 0)] ++ List.replicate (Try.f9.ntmps - ([(.ptr [0, 0] 0 0)] : List AV).length) .undef, [([0, 0], ⟨52, 3, (.mix [(.agg [.nils, .nils, (.d ⟨.bool, b16⟩)])])⟩)], 2⟩ (leave Try.prog Try.f9 k) = defers_List_Len.body F0 b16 (fun y0 y1 => k (.d ⟨(.int .i64), y0⟩) [([0, 0], ⟨52, 3, (.mix [(.agg [.nils, .nils, (.d ⟨.bool, y1⟩)])])⟩)]) := by kernel_rfl
theorem defers_List_Len.ok (d : Nat) (hd : 2 ≤ d) (b16 : Bool) (k : KR) (hx : defers_List_Len b16 (fun y0 y1 => k (.d ⟨(.int .i64), y0⟩) [([0, 0], ⟨52, 3, (.mix [(.agg [.nils, .nils, (.d ⟨.bool, y1⟩)])])⟩)]) = some true) : callK Try.prog ht d 9 [(.ptr [0, 0] 0 0)] [([0, 0], ⟨52, 3, (.mix [(.agg [.nils, .nils, (.d ⟨.bool, b16⟩)])])⟩)] k = some true := by
  obtain ⟨d, rfl⟩ : ∃ e, d = e + 1 := ⟨d - 1, by omega⟩
  exact fn_ok (c := codeOf Try.f9) Try.func9 (by kernel_rfl) (rec := defers_List_Len.calls defers_List_none) (fun g a h k hx => by
    rcases defers_List_none.look d (by omega) hx with hx | hx
    rotate_left
    · exact hx
    cases hx) (loopf := defers_List_Len.loops) (by
    have e : loopsOf (defers_List_Len.loops) 0 (codeOf Try.f9) = [] := by kernel_rfl
    rw [e]
    intro p hp
    cases hp) ((defers_List_Len.eq defers_List_none b16 k).trans hx)
theorem defers_List_Len.look (d : Nat) (hd : 2 ≤ d) {e : Option Bool} {g : FuncId} {a : List AV} {h : Heap} {k : KR} (hx : defers_List_Len.get defers_List_Len e g a h k = some true) : e = some true ∨ callK Try.prog ht d g a h k = some true := by
  unfold defers_List_Len.get at hx
  split at hx
  · exact .inr (defers_List_Len.ok d hd _ _ hx)
  · exact .inl hx
/-- function 24: (*sheerleg/defers.row[sheerleg/api.Rec]).put -/
noncomputable def defers_row_api_Rec_put.body (t21 : Int × Int × Int × Unit) (b22 : Bool) (k1 : Bool → (List (Int × Int × Int × Unit)) → Option Bool) : Option Bool :=
  (k1 b22 [(t21.1, (t21.2.1, (t21.2.2.1, ())))])
noncomputable def defers_row_api_Rec_put (t21 : Int × Int × Int × Unit) (b22 : Bool) (k1 : Bool → (List (Int × Int × Int × Unit)) → Option Bool) : Option Bool := defers_row_api_Rec_put.body t21 b22 k1
noncomputable def defers_row_api_Rec_put.get (F : (Int × Int × Int × Unit) → Bool → (Bool → (List (Int × Int × Int × Unit)) → Option Bool) → Option Bool) (e : Option Bool) (g : FuncId) (a : List AV) (h : Heap) (k : KR) : Option Bool := match g, a, h with
  | 24, [(.ptr [0, 0] 0 0), (.d ⟨(.st [(.int .i64), (.int .i64), (.int .i64)]), t21⟩)], [([0, 0], ⟨52, 3, (.mix [(.agg [.nils, .nils, (.d ⟨.bool, b22⟩)])])⟩)] => F t21 b22 (fun y0 y1 => k (.tup []) [([0, 0], ⟨52, 3, (.mix [(.agg [(.ref [1, 0]), .nils, (.d ⟨.bool, y0⟩)])])⟩), ([1, 0], ⟨33, 3, (.data (.st [(.int .i64), (.int .i64), (.int .i64)]) y1)⟩)])
  | _, _, _ => e
noncomputable def defers_row_api_Rec_put.calls : RecF := fun g a h k => none
noncomputable def defers_row_api_Rec_put.loops : LoopF := fun b => none
set_option maxRecDepth 100000 in
theorem defers_row_api_Rec_put.eq (t21 : Int × Int × Int × Unit) (b22 : Bool) (k : KR) : execL Try.prog ht 24 (callfOf (defers_row_api_Rec_put.calls)) (defers_row_api_Rec_put.loops) 0 (codeOf Try.f24) ⟨[(.ptr [0, 0] 0 0), (.d ⟨(.st [(.int .i64), (.int .i64), (.int .i64)]), t21⟩)] ++ List.replicate (Try.f24.ntmps - ([(.ptr [0, 0] 0 0), (.d ⟨(.st [(.int .i64), (.int .i64), (.int .i64)]), t21⟩)] : List AV).length) .undef, [([0, 0], ⟨52, 3, (.mix [(.agg [.nils, .nils, (.d ⟨.bool, b22⟩)])])⟩)], 2⟩ (leave Try.prog Try.f24 k) = defers_row_api_Rec_put.body t21 b22 (fun y0 y1 => k (.tup []) [([0, 0], ⟨52, 3, (.mix [(.agg [(.ref [1, 0]), .nils, (.d ⟨.bool, y0⟩)])])⟩), ([1, 0], ⟨33, 3, (.data (.st [(.int .i64), (.int .i64), (.int .i64)]) y1)⟩)]) := by kernel_rfl
theorem defers_row_api_Rec_put.ok (d : Nat) (hd : 1 ≤ d) (t21 : Int × Int × Int × Unit) (b22 : Bool) (k : KR) (hx : defers_row_api_Rec_put t21 b22 (fun y0 y1 => k (.tup []) [([0, 0], ⟨52, 3, (.mix [(.agg [(.ref [1, 0]), .nils, (.d ⟨.bool, y0⟩)])])⟩), ([1, 0], ⟨33, 3, (.data (.st [(.int .i64), (.int .i64), (.int .i64)]) y1)⟩)]) = some true) : callK Try.prog ht d 24 [(.ptr [0, 0] 0 0), (.d ⟨(.st [(.int .i64), (.int .i64), (.int .i64)]), t21⟩)] [([0, 0], ⟨52, 3, (.mix [(.agg [.nils, .nils, (.d ⟨.bool, b22⟩)])])⟩)] k = some true := by
  obtain ⟨d, rfl⟩ : ∃ e, d = e + 1 := ⟨d - 1, by omega⟩
  exact fn_ok (c := codeOf Try.f24) Try.func24 (by kernel_rfl) (rec := defers_row_api_Rec_put.calls) (fun g a h k hx => by
    cases hx) (loopf := defers_row_api_Rec_put.loops) (by
    have e : loopsOf (defers_row_api_Rec_put.loops) 0 (codeOf Try.f24) = [] := by kernel_rfl
    rw [e]
    intro p hp
    cases hp) ((defers_row_api_Rec_put.eq t21 b22 k).trans hx)
theorem defers_row_api_Rec_put.look (d : Nat) (hd : 1 ≤ d) {e : Option Bool} {g : FuncId} {a : List AV} {h : Heap} {k : KR} (hx : defers_row_api_Rec_put.get defers_row_api_Rec_put e g a h k = some true) : e = some true ∨ callK Try.prog ht d g a h k = some true := by
  unfold defers_row_api_Rec_put.get at hx
  split at hx
  · exact .inr (defers_row_api_Rec_put.ok d hd _ _ _ hx)
  · exact .inl hx
/-- function 11: (*sheerleg/defers.List).Put -/
noncomputable def defers_List_Put.body (defers_List_none : Bool → (Bool → Bool → Option Bool) → Option Bool) (defers_List_Len : Bool → (Int → Bool → Option Bool) → Option Bool) (defers_row_api_Rec_put : (Int × Int × Int × Unit) → Bool → (Bool → (List (Int × Int × Int × Unit)) → Option Bool) → Option Bool) (t35 : Int × Int × Int × Unit) (b36 : Bool) (k1 : Bool → Bool → (List (Int × Int × Int × Unit)) → Option Bool) : Option Bool :=
  (defers_List_none b36
  (fun b37 b38 => (cond_ (! b37) (defers_List_Len b38
  (fun n39 b40 => (cond_ (decide (n39 ≥ (32 : Int))) (k1 false b40 []) (defers_row_api_Rec_put t35 b40
  (fun b41 ts42 => (k1 true b41 ts42)))))) (k1 false b38 []))))
noncomputable def defers_List_Put (t35 : Int × Int × Int × Unit) (b36 : Bool) (k1 : Bool → Bool → (List (Int × Int × Int × Unit)) → Option Bool) : Option Bool := defers_List_Put.body defers_List_none defers_List_Len defers_row_api_Rec_put t35 b36 k1
noncomputable def defers_List_Put.get (F : (Int × Int × Int × Unit) → Bool → (Bool → Bool → (List (Int × Int × Int × Unit)) → Option Bool) → Option Bool) (e : Option Bool) (g : FuncId) (a : List AV) (h : Heap) (k : KR) : Option Bool := match g, a, h with
  | 11, [(.ptr [0, 0] 0 0), (.d ⟨(.st [(.int .i64), (.int .i64), (.int .i64)]), t35⟩)], [([0, 0], ⟨52, 3, (.mix [(.agg [.nils, .nils, (.d ⟨.bool, b36⟩)])])⟩)] => F t35 b36 (fun y0 y1 y2 => k (.d ⟨.bool, y0⟩) [([0, 0], ⟨52, 3, (.mix [(.agg [(.ref [1, 0]), .nils, (.d ⟨.bool, y1⟩)])])⟩), ([1, 0], ⟨33, 3, (.data (.st [(.int .i64), (.int .i64), (.int .i64)]) y2)⟩)])
  | _, _, _ => e
noncomputable def defers_List_Put.calls (F0 : Bool → (Bool → Bool → Option Bool) → Option Bool) (F1 : Bool → (Int → Bool → Option Bool) → Option Bool) (F2 : (Int × Int × Int × Unit) → Bool → (Bool → (List (Int × Int × Int × Unit)) → Option Bool) → Option Bool) : RecF := fun g a h k => (defers_List_none.get F0 (defers_List_Len.get F1 (defers_row_api_Rec_put.get F2 none g a h k) g a h k) g a h k)
noncomputable def defers_List_Put.loops : LoopF := fun b => none
set_option maxRecDepth 100000 in
theorem defers_List_Put.eq (F0 : Bool → (Bool → Bool → Option Bool) → Option Bool) (F1 : Bool → (Int → Bool → Option Bool) → Option Bool) (F2 : (Int × Int × Int × Unit) → Bool → (Bool → (List (Int × Int × Int × Unit)) → Option Bool) → Option Bool) (t35 : Int × Int × Int × Unit) (b36 : Bool) (k : KR) : execL Try.prog ht 11 (callfOf (defers_List_Put.calls F0 F1 F2)) (defers_List_Put.loops) 0 (codeOf Try.f11) ⟨[(.ptr [0, 0] 0 0), (.d ⟨(.st [(.int .i64), (.int .i64), (.int .i64)]), t35⟩)] ++ List.replicate (Try.f11.ntmps - ([(.ptr [0, 0] 0 0), (.d ⟨(.st [(.int .i64), (.int .i64), (.int .i64)]), t35⟩)] : List AV).length) .undef, [([0, 0], ⟨52, 3, (.mix [(.agg [.nils, .nils, (.d ⟨.bool, b36⟩)])])⟩)], 2⟩ (leave Try.prog Try.f11 k) = defers_List_Put.body F0 F1 F2 t35 b36 (fun y0 y1 y2 => k (.d ⟨.bool, y0⟩) [([0, 0], ⟨52, 3, (.mix [(.agg [(.ref [1, 0]), .nils, (.d ⟨.bool, y1⟩)])])⟩), ([1, 0], ⟨33, 3, (.data (.st [(.int .i64), (.int .i64), (.int .i64)]) y2)⟩)]) := by kernel_rfl
theorem defers_List_Put.ok (d : Nat) (hd : 3 ≤ d) (t35 : Int × Int × Int × Unit) (b36 : Bool) (k : KR) (hx : defers_List_Put t35 b36 (fun y0 y1 y2 => k (.d ⟨.bool, y0⟩) [([0, 0], ⟨52, 3, (.mix [(.agg [(.ref [1, 0]), .nils, (.d ⟨.bool, y1⟩)])])⟩), ([1, 0], ⟨33, 3, (.data (.st [(.int .i64), (.int .i64), (.int .i64)]) y2)⟩)]) = some true) : callK Try.prog ht d 11 [(.ptr [0, 0] 0 0), (.d ⟨(.st [(.int .i64), (.int .i64), (.int .i64)]), t35⟩)] [([0, 0], ⟨52, 3, (.mix [(.agg [.nils, .nils, (.d ⟨.bool, b36⟩)])])⟩)] k = some true := by
  obtain ⟨d, rfl⟩ : ∃ e, d = e + 1 := ⟨d - 1, by omega⟩
  exact fn_ok (c := codeOf Try.f11) Try.func11 (by kernel_rfl) (rec := defers_List_Put.calls defers_List_none defers_List_Len defers_row_api_Rec_put) (fun g a h k hx => by
    rcases defers_List_none.look d (by omega) hx with hx | hx
    rotate_left
    · exact hx
    rcases defers_List_Len.look d (by omega) hx with hx | hx
    rotate_left
    · exact hx
    rcases defers_row_api_Rec_put.look d (by omega) hx with hx | hx
    rotate_left
    · exact hx
    cases hx) (loopf := defers_List_Put.loops) (by
    have e : loopsOf (defers_List_Put.loops) 0 (codeOf Try.f11) = [] := by kernel_rfl
    rw [e]
    intro p hp
    cases hp) ((defers_List_Put.eq defers_List_none defers_List_Len defers_row_api_Rec_put t35 b36 k).trans hx)
theorem defers_List_Put.look (d : Nat) (hd : 3 ≤ d) {e : Option Bool} {g : FuncId} {a : List AV} {h : Heap} {k : KR} (hx : defers_List_Put.get defers_List_Put e g a h k = some true) : e = some true ∨ callK Try.prog ht d g a h k = some true := by
  unfold defers_List_Put.get at hx
  split at hx
  · exact .inr (defers_List_Put.ok d hd _ _ _ hx)
  · exact .inl hx
/-- function 18: sheerleg/sheerlegref40.Take -/
noncomputable def ref40_Take.body (n46 : Int) (k1 : (Int × Int × Int × Unit) → Bool → Option Bool) : Option Bool :=
  (k1 ((0 : Int), ((0 : Int), ((0 : Int), ()))) false)
noncomputable def ref40_Take (n46 : Int) (k1 : (Int × Int × Int × Unit) → Bool → Option Bool) : Option Bool := ref40_Take.body n46 k1
noncomputable def ref40_Take.get (F : Int → ((Int × Int × Int × Unit) → Bool → Option Bool) → Option Bool) (e : Option Bool) (g : FuncId) (a : List AV) (h : Heap) (k : KR) : Option Bool := match g, a, h with
  | 18, [(.agg [.nils, .nils]), (.d ⟨(.int .i64), n46⟩)], [] => F n46 (fun y0 y1 => k (.tup [(.agg [.nils, .nils]), (.d ⟨(.st [(.int .i64), (.int .i64), (.int .i64)]), y0⟩), (.d ⟨.bool, y1⟩)]) [])
  | _, _, _ => e
noncomputable def ref40_Take.calls : RecF := fun g a h k => none
noncomputable def ref40_Take.loops : LoopF := fun b => none
set_option maxRecDepth 100000 in
theorem ref40_Take.eq (n46 : Int) (k : KR) : execL Try.prog ht 18 (callfOf (ref40_Take.calls)) (ref40_Take.loops) 0 (codeOf Try.f18) ⟨[(.agg [.nils, .nils]), (.d ⟨(.int .i64), n46⟩)] ++ List.replicate (Try.f18.ntmps - ([(.agg [.nils, .nils]), (.d ⟨(.int .i64), n46⟩)] : List AV).length) .undef, [], 2⟩ (leave Try.prog Try.f18 k) = ref40_Take.body n46 (fun y0 y1 => k (.tup [(.agg [.nils, .nils]), (.d ⟨(.st [(.int .i64), (.int .i64), (.int .i64)]), y0⟩), (.d ⟨.bool, y1⟩)]) []) := by kernel_rfl
theorem ref40_Take.ok (d : Nat) (hd : 1 ≤ d) (n46 : Int) (k : KR) (hx : ref40_Take n46 (fun y0 y1 => k (.tup [(.agg [.nils, .nils]), (.d ⟨(.st [(.int .i64), (.int .i64), (.int .i64)]), y0⟩), (.d ⟨.bool, y1⟩)]) []) = some true) : callK Try.prog ht d 18 [(.agg [.nils, .nils]), (.d ⟨(.int .i64), n46⟩)] [] k = some true := by
  obtain ⟨d, rfl⟩ : ∃ e, d = e + 1 := ⟨d - 1, by omega⟩
  exact fn_ok (c := codeOf Try.f18) Try.func18 (by kernel_rfl) (rec := ref40_Take.calls) (fun g a h k hx => by
    cases hx) (loopf := ref40_Take.loops) (by
    have e : loopsOf (ref40_Take.loops) 0 (codeOf Try.f18) = [] := by kernel_rfl
    rw [e]
    intro p hp
    cases hp) ((ref40_Take.eq n46 k).trans hx)
theorem ref40_Take.look (d : Nat) (hd : 1 ≤ d) {e : Option Bool} {g : FuncId} {a : List AV} {h : Heap} {k : KR} (hx : ref40_Take.get ref40_Take e g a h k = some true) : e = some true ∨ callK Try.prog ht d g a h k = some true := by
  unfold ref40_Take.get at hx
  split at hx
  · exact .inr (ref40_Take.ok d hd _ _ hx)
  · exact .inl hx
/-- function 25: (*sheerleg/defers.row[sheerleg/api.Rec]).last -/
noncomputable def defers_row_api_Rec_last.body (b53 : Bool) (k1 : Bool → Option Bool) : Option Bool :=
  (k1 b53)
noncomputable def defers_row_api_Rec_last (b53 : Bool) (k1 : Bool → Option Bool) : Option Bool := defers_row_api_Rec_last.body b53 k1
noncomputable def defers_row_api_Rec_last.get (F : Bool → (Bool → Option Bool) → Option Bool) (e : Option Bool) (g : FuncId) (a : List AV) (h : Heap) (k : KR) : Option Bool := match g, a, h with
  | 25, [(.ptr [0, 0] 0 0)], [([0, 0], ⟨52, 3, (.mix [(.agg [.nils, .nils, (.d ⟨.bool, b53⟩)])])⟩)] => F b53 (fun y0 => k .nilp [([0, 0], ⟨52, 3, (.mix [(.agg [.nils, .nils, (.d ⟨.bool, y0⟩)])])⟩)])
  | _, _, _ => e
noncomputable def defers_row_api_Rec_last.calls : RecF := fun g a h k => none
noncomputable def defers_row_api_Rec_last.loops : LoopF := fun b => none
set_option maxRecDepth 100000 in
theorem defers_row_api_Rec_last.eq (b53 : Bool) (k : KR) : execL Try.prog ht 25 (callfOf (defers_row_api_Rec_last.calls)) (defers_row_api_Rec_last.loops) 0 (codeOf Try.f25) ⟨[(.ptr [0, 0] 0 0)] ++ List.replicate (Try.f25.ntmps - ([(.ptr [0, 0] 0 0)] : List AV).length) .undef, [([0, 0], ⟨52, 3, (.mix [(.agg [.nils, .nils, (.d ⟨.bool, b53⟩)])])⟩)], 2⟩ (leave Try.prog Try.f25 k) = defers_row_api_Rec_last.body b53 (fun y0 => k .nilp [([0, 0], ⟨52, 3, (.mix [(.agg [.nils, .nils, (.d ⟨.bool, y0⟩)])])⟩)]) := by kernel_rfl
theorem defers_row_api_Rec_last.ok (d : Nat) (hd : 1 ≤ d) (b53 : Bool) (k : KR) (hx : defers_row_api_Rec_last b53 (fun y0 => k .nilp [([0, 0], ⟨52, 3, (.mix [(.agg [.nils, .nils, (.d ⟨.bool, y0⟩)])])⟩)]) = some true) : callK Try.prog ht d 25 [(.ptr [0, 0] 0 0)] [([0, 0], ⟨52, 3, (.mix [(.agg [.nils, .nils, (.d ⟨.bool, b53⟩)])])⟩)] k = some true := by
  obtain ⟨d, rfl⟩ : ∃ e, d = e + 1 := ⟨d - 1, by omega⟩
  exact fn_ok (c := codeOf Try.f25) Try.func25 (by kernel_rfl) (rec := defers_row_api_Rec_last.calls) (fun g a h k hx => by
    cases hx) (loopf := defers_row_api_Rec_last.loops) (by
    have e : loopsOf (defers_row_api_Rec_last.loops) 0 (codeOf Try.f25) = [] := by kernel_rfl
    rw [e]
    intro p hp
    cases hp) ((defers_row_api_Rec_last.eq b53 k).trans hx)
theorem defers_row_api_Rec_last.look (d : Nat) (hd : 1 ≤ d) {e : Option Bool} {g : FuncId} {a : List AV} {h : Heap} {k : KR} (hx : defers_row_api_Rec_last.get defers_row_api_Rec_last e g a h k = some true) : e = some true ∨ callK Try.prog ht d g a h k = some true := by
  unfold defers_row_api_Rec_last.get at hx
  split at hx
  · exact .inr (defers_row_api_Rec_last.ok d hd _ _ hx)
  · exact .inl hx
/-- function 19: sheerleg/sheerlegref40.Drive -/
noncomputable def ref40_Drive.body (t76 : Int × Int × Int × Int × Bool × Unit) (k1 : (List (Int × Int × Int × Int × Bool × Unit)) → Option Bool) : Option Bool :=
  (k1 [(t76.1, (t76.2.1, (t76.2.2.1, (t76.2.2.2.1, (t76.2.2.2.2.1, ())))))])
noncomputable def ref40_Drive (t76 : Int × Int × Int × Int × Bool × Unit) (k1 : (List (Int × Int × Int × Int × Bool × Unit)) → Option Bool) : Option Bool := ref40_Drive.body t76 k1
noncomputable def ref40_Drive.get (F : (Int × Int × Int × Int × Bool × Unit) → ((List (Int × Int × Int × Int × Bool × Unit)) → Option Bool) → Option Bool) (e : Option Bool) (g : FuncId) (a : List AV) (h : Heap) (k : KR) : Option Bool := match g, a, h with
  | 19, [(.agg [.nils, .nils]), (.d ⟨(.st [(.int .i64), (.int .i64), (.int .i64), (.int .i64), .bool]), t76⟩)], [] => F t76 (fun y0 => k (.agg [.nils, (.ref [1, 0])]) [([1, 0], ⟨35, 5, (.data (.st [(.int .i64), (.int .i64), (.int .i64), (.int .i64), .bool]) y0)⟩)])
  | _, _, _ => e
noncomputable def ref40_Drive.calls : RecF := fun g a h k => none
noncomputable def ref40_Drive.loops : LoopF := fun b => none
set_option maxRecDepth 100000 in
theorem ref40_Drive.eq (t76 : Int × Int × Int × Int × Bool × Unit) (k : KR) : execL Try.prog ht 19 (callfOf (ref40_Drive.calls)) (ref40_Drive.loops) 0 (codeOf Try.f19) ⟨[(.agg [.nils, .nils]), (.d ⟨(.st [(.int .i64), (.int .i64), (.int .i64), (.int .i64), .bool]), t76⟩)] ++ List.replicate (Try.f19.ntmps - ([(.agg [.nils, .nils]), (.d ⟨(.st [(.int .i64), (.int .i64), (.int .i64), (.int .i64), .bool]), t76⟩)] : List AV).length) .undef, [], 2⟩ (leave Try.prog Try.f19 k) = ref40_Drive.body t76 (fun y0 => k (.agg [.nils, (.ref [1, 0])]) [([1, 0], ⟨35, 5, (.data (.st [(.int .i64), (.int .i64), (.int .i64), (.int .i64), .bool]) y0)⟩)]) := by kernel_rfl
theorem ref40_Drive.ok (d : Nat) (hd : 1 ≤ d) (t76 : Int × Int × Int × Int × Bool × Unit) (k : KR) (hx : ref40_Drive t76 (fun y0 => k (.agg [.nils, (.ref [1, 0])]) [([1, 0], ⟨35, 5, (.data (.st [(.int .i64), (.int .i64), (.int .i64), (.int .i64), .bool]) y0)⟩)]) = some true) : callK Try.prog ht d 19 [(.agg [.nils, .nils]), (.d ⟨(.st [(.int .i64), (.int .i64), (.int .i64), (.int .i64), .bool]), t76⟩)] [] k = some true := by
  obtain ⟨d, rfl⟩ : ∃ e, d = e + 1 := ⟨d - 1, by omega⟩
  exact fn_ok (c := codeOf Try.f19) Try.func19 (by kernel_rfl) (rec := ref40_Drive.calls) (fun g a h k hx => by
    cases hx) (loopf := ref40_Drive.loops) (by
    have e : loopsOf (ref40_Drive.loops) 0 (codeOf Try.f19) = [] := by kernel_rfl
    rw [e]
    intro p hp
    cases hp) ((ref40_Drive.eq t76 k).trans hx)
theorem ref40_Drive.look (d : Nat) (hd : 1 ≤ d) {e : Option Bool} {g : FuncId} {a : List AV} {h : Heap} {k : KR} (hx : ref40_Drive.get ref40_Drive e g a h k = some true) : e = some true ∨ callK Try.prog ht d g a h k = some true := by
  unfold ref40_Drive.get at hx
  split at hx
  · exact .inr (ref40_Drive.ok d hd _ _ hx)
  · exact .inl hx
/-- function 29: (*sheerleg/defers.row[sheerleg/api.Driver]).put -/
noncomputable def defers_row_api_Driver_put.body (t82 : Int × Int × Int × Int × Bool × Unit) (b83 : Bool) (k1 : Bool → (List (Int × Int × Int × Int × Bool × Unit)) → Option Bool) : Option Bool :=
  (k1 b83 [(t82.1, (t82.2.1, (t82.2.2.1, (t82.2.2.2.1, (t82.2.2.2.2.1, ())))))])
noncomputable def defers_row_api_Driver_put (t82 : Int × Int × Int × Int × Bool × Unit) (b83 : Bool) (k1 : Bool → (List (Int × Int × Int × Int × Bool × Unit)) → Option Bool) : Option Bool := defers_row_api_Driver_put.body t82 b83 k1
noncomputable def defers_row_api_Driver_put.get (F : (Int × Int × Int × Int × Bool × Unit) → Bool → (Bool → (List (Int × Int × Int × Int × Bool × Unit)) → Option Bool) → Option Bool) (e : Option Bool) (g : FuncId) (a : List AV) (h : Heap) (k : KR) : Option Bool := match g, a, h with
  | 29, [(.ptr [0, 0] 0 1), (.d ⟨(.st [(.int .i64), (.int .i64), (.int .i64), (.int .i64), .bool]), t82⟩)], [([0, 0], ⟨52, 3, (.mix [(.agg [.nils, .nils, (.d ⟨.bool, b83⟩)])])⟩)] => F t82 b83 (fun y0 y1 => k (.tup []) [([0, 0], ⟨52, 3, (.mix [(.agg [.nils, (.ref [1, 0]), (.d ⟨.bool, y0⟩)])])⟩), ([1, 0], ⟨35, 5, (.data (.st [(.int .i64), (.int .i64), (.int .i64), (.int .i64), .bool]) y1)⟩)])
  | _, _, _ => e
noncomputable def defers_row_api_Driver_put.calls : RecF := fun g a h k => none
noncomputable def defers_row_api_Driver_put.loops : LoopF := fun b => none
set_option maxRecDepth 100000 in
theorem defers_row_api_Driver_put.eq (t82 : Int × Int × Int × Int × Bool × Unit) (b83 : Bool) (k : KR) : execL Try.prog ht 29 (callfOf (defers_row_api_Driver_put.calls)) (defers_row_api_Driver_put.loops) 0 (codeOf Try.f29) ⟨[(.ptr [0, 0] 0 1), (.d ⟨(.st [(.int .i64), (.int .i64), (.int .i64), (.int .i64), .bool]), t82⟩)] ++ List.replicate (Try.f29.ntmps - ([(.ptr [0, 0] 0 1), (.d ⟨(.st [(.int .i64), (.int .i64), (.int .i64), (.int .i64), .bool]), t82⟩)] : List AV).length) .undef, [([0, 0], ⟨52, 3, (.mix [(.agg [.nils, .nils, (.d ⟨.bool, b83⟩)])])⟩)], 2⟩ (leave Try.prog Try.f29 k) = defers_row_api_Driver_put.body t82 b83 (fun y0 y1 => k (.tup []) [([0, 0], ⟨52, 3, (.mix [(.agg [.nils, (.ref [1, 0]), (.d ⟨.bool, y0⟩)])])⟩), ([1, 0], ⟨35, 5, (.data (.st [(.int .i64), (.int .i64), (.int .i64), (.int .i64), .bool]) y1)⟩)]) := by kernel_rfl
theorem defers_row_api_Driver_put.ok (d : Nat) (hd : 1 ≤ d) (t82 : Int × Int × Int × Int × Bool × Unit) (b83 : Bool) (k : KR) (hx : defers_row_api_Driver_put t82 b83 (fun y0 y1 => k (.tup []) [([0, 0], ⟨52, 3, (.mix [(.agg [.nils, (.ref [1, 0]), (.d ⟨.bool, y0⟩)])])⟩), ([1, 0], ⟨35, 5, (.data (.st [(.int .i64), (.int .i64), (.int .i64), (.int .i64), .bool]) y1)⟩)]) = some true) : callK Try.prog ht d 29 [(.ptr [0, 0] 0 1), (.d ⟨(.st [(.int .i64), (.int .i64), (.int .i64), (.int .i64), .bool]), t82⟩)] [([0, 0], ⟨52, 3, (.mix [(.agg [.nils, .nils, (.d ⟨.bool, b83⟩)])])⟩)] k = some true := by
  obtain ⟨d, rfl⟩ : ∃ e, d = e + 1 := ⟨d - 1, by omega⟩
  exact fn_ok (c := codeOf Try.f29) Try.func29 (by kernel_rfl) (rec := defers_row_api_Driver_put.calls) (fun g a h k hx => by
    cases hx) (loopf := defers_row_api_Driver_put.loops) (by
    have e : loopsOf (defers_row_api_Driver_put.loops) 0 (codeOf Try.f29) = [] := by kernel_rfl
    rw [e]
    intro p hp
    cases hp) ((defers_row_api_Driver_put.eq t82 b83 k).trans hx)
theorem defers_row_api_Driver_put.look (d : Nat) (hd : 1 ≤ d) {e : Option Bool} {g : FuncId} {a : List AV} {h : Heap} {k : KR} (hx : defers_row_api_Driver_put.get defers_row_api_Driver_put e g a h k = some true) : e = some true ∨ callK Try.prog ht d g a h k = some true := by
  unfold defers_row_api_Driver_put.get at hx
  split at hx
  · exact .inr (defers_row_api_Driver_put.ok d hd _ _ _ hx)
  · exact .inl hx
/-- function 16: (*sheerleg/defers.List).Drive -/
noncomputable def defers_List_Drive.body (defers_List_none : Bool → (Bool → Bool → Option Bool) → Option Bool) (defers_row_api_Driver_put : (Int × Int × Int × Int × Bool × Unit) → Bool → (Bool → (List (Int × Int × Int × Int × Bool × Unit)) → Option Bool) → Option Bool) (t105 : Int × Int × Int × Int × Bool × Unit) (b106 : Bool) (k1 : Bool → Bool → (List (Int × Int × Int × Int × Bool × Unit)) → Option Bool) : Option Bool :=
  (defers_List_none b106
  (fun b107 b108 => (cond_ b107 (k1 false b108 []) (defers_row_api_Driver_put t105 b108
  (fun b109 ts110 => (k1 true b109 ts110))))))
noncomputable def defers_List_Drive (t105 : Int × Int × Int × Int × Bool × Unit) (b106 : Bool) (k1 : Bool → Bool → (List (Int × Int × Int × Int × Bool × Unit)) → Option Bool) : Option Bool := defers_List_Drive.body defers_List_none defers_row_api_Driver_put t105 b106 k1
noncomputable def defers_List_Drive.get (F : (Int × Int × Int × Int × Bool × Unit) → Bool → (Bool → Bool → (List (Int × Int × Int × Int × Bool × Unit)) → Option Bool) → Option Bool) (e : Option Bool) (g : FuncId) (a : List AV) (h : Heap) (k : KR) : Option Bool := match g, a, h with
  | 16, [(.ptr [0, 0] 0 0), (.d ⟨(.st [(.int .i64), (.int .i64), (.int .i64), (.int .i64), .bool]), t105⟩)], [([0, 0], ⟨52, 3, (.mix [(.agg [.nils, .nils, (.d ⟨.bool, b106⟩)])])⟩)] => F t105 b106 (fun y0 y1 y2 => k (.d ⟨.bool, y0⟩) [([0, 0], ⟨52, 3, (.mix [(.agg [.nils, (.ref [1, 0]), (.d ⟨.bool, y1⟩)])])⟩), ([1, 0], ⟨35, 5, (.data (.st [(.int .i64), (.int .i64), (.int .i64), (.int .i64), .bool]) y2)⟩)])
  | _, _, _ => e
noncomputable def defers_List_Drive.calls (F0 : Bool → (Bool → Bool → Option Bool) → Option Bool) (F1 : (Int × Int × Int × Int × Bool × Unit) → Bool → (Bool → (List (Int × Int × Int × Int × Bool × Unit)) → Option Bool) → Option Bool) : RecF := fun g a h k => (defers_List_none.get F0 (defers_row_api_Driver_put.get F1 none g a h k) g a h k)
noncomputable def defers_List_Drive.loops : LoopF := fun b => none
set_option maxRecDepth 100000 in
theorem defers_List_Drive.eq (F0 : Bool → (Bool → Bool → Option Bool) → Option Bool) (F1 : (Int × Int × Int × Int × Bool × Unit) → Bool → (Bool → (List (Int × Int × Int × Int × Bool × Unit)) → Option Bool) → Option Bool) (t105 : Int × Int × Int × Int × Bool × Unit) (b106 : Bool) (k : KR) : execL Try.prog ht 16 (callfOf (defers_List_Drive.calls F0 F1)) (defers_List_Drive.loops) 0 (codeOf Try.f16) ⟨[(.ptr [0, 0] 0 0), (.d ⟨(.st [(.int .i64), (.int .i64), (.int .i64), (.int .i64), .bool]), t105⟩)] ++ List.replicate (Try.f16.ntmps - ([(.ptr [0, 0] 0 0), (.d ⟨(.st [(.int .i64), (.int .i64), (.int .i64), (.int .i64), .bool]), t105⟩)] : List AV).length) .undef, [([0, 0], ⟨52, 3, (.mix [(.agg [.nils, .nils, (.d ⟨.bool, b106⟩)])])⟩)], 2⟩ (leave Try.prog Try.f16 k) = defers_List_Drive.body F0 F1 t105 b106 (fun y0 y1 y2 => k (.d ⟨.bool, y0⟩) [([0, 0], ⟨52, 3, (.mix [(.agg [.nils, (.ref [1, 0]), (.d ⟨.bool, y1⟩)])])⟩), ([1, 0], ⟨35, 5, (.data (.st [(.int .i64), (.int .i64), (.int .i64), (.int .i64), .bool]) y2)⟩)]) := by kernel_rfl
theorem defers_List_Drive.ok (d : Nat) (hd : 2 ≤ d) (t105 : Int × Int × Int × Int × Bool × Unit) (b106 : Bool) (k : KR) (hx : defers_List_Drive t105 b106 (fun y0 y1 y2 => k (.d ⟨.bool, y0⟩) [([0, 0], ⟨52, 3, (.mix [(.agg [.nils, (.ref [1, 0]), (.d ⟨.bool, y1⟩)])])⟩), ([1, 0], ⟨35, 5, (.data (.st [(.int .i64), (.int .i64), (.int .i64), (.int .i64), .bool]) y2)⟩)]) = some true) : callK Try.prog ht d 16 [(.ptr [0, 0] 0 0), (.d ⟨(.st [(.int .i64), (.int .i64), (.int .i64), (.int .i64), .bool]), t105⟩)] [([0, 0], ⟨52, 3, (.mix [(.agg [.nils, .nils, (.d ⟨.bool, b106⟩)])])⟩)] k = some true := by
  obtain ⟨d, rfl⟩ : ∃ e, d = e + 1 := ⟨d - 1, by omega⟩
  exact fn_ok (c := codeOf Try.f16) Try.func16 (by kernel_rfl) (rec := defers_List_Drive.calls defers_List_none defers_row_api_Driver_put) (fun g a h k hx => by
    rcases defers_List_none.look d (by omega) hx with hx | hx
    rotate_left
    · exact hx
    rcases defers_row_api_Driver_put.look d (by omega) hx with hx | hx
    rotate_left
    · exact hx
    cases hx) (loopf := defers_List_Drive.loops) (by
    have e : loopsOf (defers_List_Drive.loops) 0 (codeOf Try.f16) = [] := by kernel_rfl
    rw [e]
    intro p hp
    cases hp) ((defers_List_Drive.eq defers_List_none defers_row_api_Driver_put t105 b106 k).trans hx)
theorem defers_List_Drive.look (d : Nat) (hd : 2 ≤ d) {e : Option Bool} {g : FuncId} {a : List AV} {h : Heap} {k : KR} (hx : defers_List_Drive.get defers_List_Drive e g a h k = some true) : e = some true ∨ callK Try.prog ht d g a h k = some true := by
  unfold defers_List_Drive.get at hx
  split at hx
  · exact .inr (defers_List_Drive.ok d hd _ _ _ hx)
  · exact .inl hx
/-- function 20: sheerleg/sheerlegref40.Top -/
noncomputable def ref40_Top.body (k1 : (Int × Int × Int × Int × Bool × Unit) → Bool → Option Bool) : Option Bool :=
  (k1 ((0 : Int), ((0 : Int), ((0 : Int), ((0 : Int), (false, ()))))) false)
noncomputable def ref40_Top (k1 : (Int × Int × Int × Int × Bool × Unit) → Bool → Option Bool) : Option Bool := ref40_Top.body k1
noncomputable def ref40_Top.get (F : ((Int × Int × Int × Int × Bool × Unit) → Bool → Option Bool) → Option Bool) (e : Option Bool) (g : FuncId) (a : List AV) (h : Heap) (k : KR) : Option Bool := match g, a, h with
  | 20, [(.agg [.nils, .nils])], [] => F (fun y0 y1 => k (.tup [(.d ⟨(.st [(.int .i64), (.int .i64), (.int .i64), (.int .i64), .bool]), y0⟩), (.d ⟨.bool, y1⟩)]) [])
  | _, _, _ => e
noncomputable def ref40_Top.calls : RecF := fun g a h k => none
noncomputable def ref40_Top.loops : LoopF := fun b => none
set_option maxRecDepth 100000 in
theorem ref40_Top.eq (k : KR) : execL Try.prog ht 20 (callfOf (ref40_Top.calls)) (ref40_Top.loops) 0 (codeOf Try.f20) ⟨[(.agg [.nils, .nils])] ++ List.replicate (Try.f20.ntmps - ([(.agg [.nils, .nils])] : List AV).length) .undef, [], 2⟩ (leave Try.prog Try.f20 k) = ref40_Top.body (fun y0 y1 => k (.tup [(.d ⟨(.st [(.int .i64), (.int .i64), (.int .i64), (.int .i64), .bool]), y0⟩), (.d ⟨.bool, y1⟩)]) []) := by kernel_rfl
theorem ref40_Top.ok (d : Nat) (hd : 1 ≤ d) (k : KR) (hx : ref40_Top (fun y0 y1 => k (.tup [(.d ⟨(.st [(.int .i64), (.int .i64), (.int .i64), (.int .i64), .bool]), y0⟩), (.d ⟨.bool, y1⟩)]) []) = some true) : callK Try.prog ht d 20 [(.agg [.nils, .nils])] [] k = some true := by
  obtain ⟨d, rfl⟩ : ∃ e, d = e + 1 := ⟨d - 1, by omega⟩
  exact fn_ok (c := codeOf Try.f20) Try.func20 (by kernel_rfl) (rec := ref40_Top.calls) (fun g a h k hx => by
    cases hx) (loopf := ref40_Top.loops) (by
    have e : loopsOf (ref40_Top.loops) 0 (codeOf Try.f20) = [] := by kernel_rfl
    rw [e]
    intro p hp
    cases hp) ((ref40_Top.eq k).trans hx)
theorem ref40_Top.look (d : Nat) (hd : 1 ≤ d) {e : Option Bool} {g : FuncId} {a : List AV} {h : Heap} {k : KR} (hx : ref40_Top.get ref40_Top e g a h k = some true) : e = some true ∨ callK Try.prog ht d g a h k = some true := by
  unfold ref40_Top.get at hx
  split at hx
  · exact .inr (ref40_Top.ok d hd _ hx)
  · exact .inl hx
/-- function 10: (*sheerleg/defers.List).Depth -/
noncomputable def defers_List_Depth.body (defers_List_none : Bool → (Bool → Bool → Option Bool) → Option Bool) (b139 : Bool) (k1 : Int → Bool → Option Bool) : Option Bool :=
  (defers_List_none b139
  (fun b140 b141 => (cond_ b140 (k1 (0 : Int) b141) (k1 (0 : Int) b141))))
noncomputable def defers_List_Depth (b139 : Bool) (k1 : Int → Bool → Option Bool) : Option Bool := defers_List_Depth.body defers_List_none b139 k1
noncomputable def defers_List_Depth.get (F : Bool → (Int → Bool → Option Bool) → Option Bool) (e : Option Bool) (g : FuncId) (a : List AV) (h : Heap) (k : KR) : Option Bool := match g, a, h with
  | 10, [(.ptr [0, 0] 0 0)], [([0, 0], ⟨52, 3, (.mix [(.agg [.nils, .nils, (.d ⟨.bool, b139⟩)])])⟩)] => F b139 (fun y0 y1 => k (.d ⟨(.int .i64), y0⟩) [([0, 0], ⟨52, 3, (.mix [(.agg [.nils, .nils, (.d ⟨.bool, y1⟩)])])⟩)])
  | _, _, _ => e
noncomputable def defers_List_Depth.calls (F0 : Bool → (Bool → Bool → Option Bool) → Option Bool) : RecF := fun g a h k => (defers_List_none.get F0 none g a h k)
noncomputable def defers_List_Depth.loops : LoopF := fun b => none
set_option maxRecDepth 100000 in
theorem defers_List_Depth.eq (F0 : Bool → (Bool → Bool → Option Bool) → Option Bool) (b139 : Bool) (k : KR) : execL Try.prog ht 10 (callfOf (defers_List_Depth.calls F0)) (defers_List_Depth.loops) 0 (codeOf Try.f10) ⟨[(.ptr [0, 0] 0 0)] ++ List.replicate (Try.f10.ntmps - ([(.ptr [0, 0] 0 0)] : List AV).length) .undef, [([0, 0], ⟨52, 3, (.mix [(.agg [.nils, .nils, (.d ⟨.bool, b139⟩)])])⟩)], 2⟩ (leave Try.prog Try.f10 k) = defers_List_Depth.body F0 b139 (fun y0 y1 => k (.d ⟨(.int .i64), y0⟩) [([0, 0], ⟨52, 3, (.mix [(.agg [.nils, .nils, (.d ⟨.bool, y1⟩)])])⟩)]) := by kernel_rfl
theorem defers_List_Depth.ok (d : Nat) (hd : 2 ≤ d) (b139 : Bool) (k : KR) (hx : defers_List_Depth b139 (fun y0 y1 => k (.d ⟨(.int .i64), y0⟩) [([0, 0], ⟨52, 3, (.mix [(.agg [.nils, .nils, (.d ⟨.bool, y1⟩)])])⟩)]) = some true) : callK Try.prog ht d 10 [(.ptr [0, 0] 0 0)] [([0, 0], ⟨52, 3, (.mix [(.agg [.nils, .nils, (.d ⟨.bool, b139⟩)])])⟩)] k = some true := by
  obtain ⟨d, rfl⟩ : ∃ e, d = e + 1 := ⟨d - 1, by omega⟩
  exact fn_ok (c := codeOf Try.f10) Try.func10 (by kernel_rfl) (rec := defers_List_Depth.calls defers_List_none) (fun g a h k hx => by
    rcases defers_List_none.look d (by omega) hx with hx | hx
    rotate_left
    · exact hx
    cases hx) (loopf := defers_List_Depth.loops) (by
    have e : loopsOf (defers_List_Depth.loops) 0 (codeOf Try.f10) = [] := by kernel_rfl
    rw [e]
    intro p hp
    cases hp) ((defers_List_Depth.eq defers_List_none b139 k).trans hx)
theorem defers_List_Depth.look (d : Nat) (hd : 2 ≤ d) {e : Option Bool} {g : FuncId} {a : List AV} {h : Heap} {k : KR} (hx : defers_List_Depth.get defers_List_Depth e g a h k = some true) : e = some true ∨ callK Try.prog ht d g a h k = some true := by
  unfold defers_List_Depth.get at hx
  split at hx
  · exact .inr (defers_List_Depth.ok d hd _ _ hx)
  · exact .inl hx
/-- function 27: (*sheerleg/defers.row[sheerleg/api.Driver]).last -/
noncomputable def defers_row_api_Driver_last.body (b144 : Bool) (k1 : Bool → Option Bool) : Option Bool :=
  (k1 b144)
noncomputable def defers_row_api_Driver_last (b144 : Bool) (k1 : Bool → Option Bool) : Option Bool := defers_row_api_Driver_last.body b144 k1
noncomputable def defers_row_api_Driver_last.get (F : Bool → (Bool → Option Bool) → Option Bool) (e : Option Bool) (g : FuncId) (a : List AV) (h : Heap) (k : KR) : Option Bool := match g, a, h with
  | 27, [(.ptr [0, 0] 0 1)], [([0, 0], ⟨52, 3, (.mix [(.agg [.nils, .nils, (.d ⟨.bool, b144⟩)])])⟩)] => F b144 (fun y0 => k .nilp [([0, 0], ⟨52, 3, (.mix [(.agg [.nils, .nils, (.d ⟨.bool, y0⟩)])])⟩)])
  | _, _, _ => e
noncomputable def defers_row_api_Driver_last.calls : RecF := fun g a h k => none
noncomputable def defers_row_api_Driver_last.loops : LoopF := fun b => none
set_option maxRecDepth 100000 in
theorem defers_row_api_Driver_last.eq (b144 : Bool) (k : KR) : execL Try.prog ht 27 (callfOf (defers_row_api_Driver_last.calls)) (defers_row_api_Driver_last.loops) 0 (codeOf Try.f27) ⟨[(.ptr [0, 0] 0 1)] ++ List.replicate (Try.f27.ntmps - ([(.ptr [0, 0] 0 1)] : List AV).length) .undef, [([0, 0], ⟨52, 3, (.mix [(.agg [.nils, .nils, (.d ⟨.bool, b144⟩)])])⟩)], 2⟩ (leave Try.prog Try.f27 k) = defers_row_api_Driver_last.body b144 (fun y0 => k .nilp [([0, 0], ⟨52, 3, (.mix [(.agg [.nils, .nils, (.d ⟨.bool, y0⟩)])])⟩)]) := by kernel_rfl
theorem defers_row_api_Driver_last.ok (d : Nat) (hd : 1 ≤ d) (b144 : Bool) (k : KR) (hx : defers_row_api_Driver_last b144 (fun y0 => k .nilp [([0, 0], ⟨52, 3, (.mix [(.agg [.nils, .nils, (.d ⟨.bool, y0⟩)])])⟩)]) = some true) : callK Try.prog ht d 27 [(.ptr [0, 0] 0 1)] [([0, 0], ⟨52, 3, (.mix [(.agg [.nils, .nils, (.d ⟨.bool, b144⟩)])])⟩)] k = some true := by
  obtain ⟨d, rfl⟩ : ∃ e, d = e + 1 := ⟨d - 1, by omega⟩
  exact fn_ok (c := codeOf Try.f27) Try.func27 (by kernel_rfl) (rec := defers_row_api_Driver_last.calls) (fun g a h k hx => by
    cases hx) (loopf := defers_row_api_Driver_last.loops) (by
    have e : loopsOf (defers_row_api_Driver_last.loops) 0 (codeOf Try.f27) = [] := by kernel_rfl
    rw [e]
    intro p hp
    cases hp) ((defers_row_api_Driver_last.eq b144 k).trans hx)
theorem defers_row_api_Driver_last.look (d : Nat) (hd : 1 ≤ d) {e : Option Bool} {g : FuncId} {a : List AV} {h : Heap} {k : KR} (hx : defers_row_api_Driver_last.get defers_row_api_Driver_last e g a h k = some true) : e = some true ∨ callK Try.prog ht d g a h k = some true := by
  unfold defers_row_api_Driver_last.get at hx
  split at hx
  · exact .inr (defers_row_api_Driver_last.ok d hd _ _ hx)
  · exact .inl hx
/-- function 13: (*sheerleg/defers.List).Top -/
noncomputable def defers_List_Top.body (defers_List_Depth : Bool → (Int → Bool → Option Bool) → Option Bool) (defers_row_api_Driver_last : Bool → (Bool → Option Bool) → Option Bool) (b138 : Bool) (k1 : (Int × Int × Int × Int × Bool × Unit) → Bool → Bool → Option Bool) : Option Bool :=
  (defers_List_Depth b138
  (fun n142 b143 => (cond_ (n142 == (0 : Int)) (k1 ((0 : Int), ((0 : Int), ((0 : Int), ((0 : Int), (false, ()))))) false b143) (defers_row_api_Driver_last b143
  (fun b145 => none)))))
noncomputable def defers_List_Top (b138 : Bool) (k1 : (Int × Int × Int × Int × Bool × Unit) → Bool → Bool → Option Bool) : Option Bool := defers_List_Top.body defers_List_Depth defers_row_api_Driver_last b138 k1
noncomputable def defers_List_Top.get (F : Bool → ((Int × Int × Int × Int × Bool × Unit) → Bool → Bool → Option Bool) → Option Bool) (e : Option Bool) (g : FuncId) (a : List AV) (h : Heap) (k : KR) : Option Bool := match g, a, h with
  | 13, [(.ptr [0, 0] 0 0)], [([0, 0], ⟨52, 3, (.mix [(.agg [.nils, .nils, (.d ⟨.bool, b138⟩)])])⟩)] => F b138 (fun y0 y1 y2 => k (.tup [(.d ⟨(.st [(.int .i64), (.int .i64), (.int .i64), (.int .i64), .bool]), y0⟩), (.d ⟨.bool, y1⟩)]) [([0, 0], ⟨52, 3, (.mix [(.agg [.nils, .nils, (.d ⟨.bool, y2⟩)])])⟩)])
  | _, _, _ => e
noncomputable def defers_List_Top.calls (F0 : Bool → (Int → Bool → Option Bool) → Option Bool) (F1 : Bool → (Bool → Option Bool) → Option Bool) : RecF := fun g a h k => (defers_List_Depth.get F0 (defers_row_api_Driver_last.get F1 none g a h k) g a h k)
noncomputable def defers_List_Top.loops : LoopF := fun b => none
set_option maxRecDepth 100000 in
theorem defers_List_Top.eq (F0 : Bool → (Int → Bool → Option Bool) → Option Bool) (F1 : Bool → (Bool → Option Bool) → Option Bool) (b138 : Bool) (k : KR) : execL Try.prog ht 13 (callfOf (defers_List_Top.calls F0 F1)) (defers_List_Top.loops) 0 (codeOf Try.f13) ⟨[(.ptr [0, 0] 0 0)] ++ List.replicate (Try.f13.ntmps - ([(.ptr [0, 0] 0 0)] : List AV).length) .undef, [([0, 0], ⟨52, 3, (.mix [(.agg [.nils, .nils, (.d ⟨.bool, b138⟩)])])⟩)], 2⟩ (leave Try.prog Try.f13 k) = defers_List_Top.body F0 F1 b138 (fun y0 y1 y2 => k (.tup [(.d ⟨(.st [(.int .i64), (.int .i64), (.int .i64), (.int .i64), .bool]), y0⟩), (.d ⟨.bool, y1⟩)]) [([0, 0], ⟨52, 3, (.mix [(.agg [.nils, .nils, (.d ⟨.bool, y2⟩)])])⟩)]) := by kernel_rfl
theorem defers_List_Top.ok (d : Nat) (hd : 3 ≤ d) (b138 : Bool) (k : KR) (hx : defers_List_Top b138 (fun y0 y1 y2 => k (.tup [(.d ⟨(.st [(.int .i64), (.int .i64), (.int .i64), (.int .i64), .bool]), y0⟩), (.d ⟨.bool, y1⟩)]) [([0, 0], ⟨52, 3, (.mix [(.agg [.nils, .nils, (.d ⟨.bool, y2⟩)])])⟩)]) = some true) : callK Try.prog ht d 13 [(.ptr [0, 0] 0 0)] [([0, 0], ⟨52, 3, (.mix [(.agg [.nils, .nils, (.d ⟨.bool, b138⟩)])])⟩)] k = some true := by
  obtain ⟨d, rfl⟩ : ∃ e, d = e + 1 := ⟨d - 1, by omega⟩
  exact fn_ok (c := codeOf Try.f13) Try.func13 (by kernel_rfl) (rec := defers_List_Top.calls defers_List_Depth defers_row_api_Driver_last) (fun g a h k hx => by
    rcases defers_List_Depth.look d (by omega) hx with hx | hx
    rotate_left
    · exact hx
    rcases defers_row_api_Driver_last.look d (by omega) hx with hx | hx
    rotate_left
    · exact hx
    cases hx) (loopf := defers_List_Top.loops) (by
    have e : loopsOf (defers_List_Top.loops) 0 (codeOf Try.f13) = [] := by kernel_rfl
    rw [e]
    intro p hp
    cases hp) ((defers_List_Top.eq defers_List_Depth defers_row_api_Driver_last b138 k).trans hx)
theorem defers_List_Top.look (d : Nat) (hd : 3 ≤ d) {e : Option Bool} {g : FuncId} {a : List AV} {h : Heap} {k : KR} (hx : defers_List_Top.get defers_List_Top e g a h k = some true) : e = some true ∨ callK Try.prog ht d g a h k = some true := by
  unfold defers_List_Top.get at hx
  split at hx
  · exact .inr (defers_List_Top.ok d hd _ _ hx)
  · exact .inl hx
/-- function 14: (*sheerleg/defers.List).Recover -/
noncomputable def defers_List_Recover.body (defers_List_Depth : Bool → (Int → Bool → Option Bool) → Option Bool) (defers_row_api_Driver_last : Bool → (Bool → Option Bool) → Option Bool) (b153 : Bool) (k1 : Int → Bool → Bool → Option Bool) : Option Bool :=
  (defers_List_Depth b153
  (fun n154 b155 => (cond_ (n154 == (0 : Int)) (k1 (0 : Int) false b155) (defers_row_api_Driver_last b155
  (fun b156 => none)))))
noncomputable def defers_List_Recover (b153 : Bool) (k1 : Int → Bool → Bool → Option Bool) : Option Bool := defers_List_Recover.body defers_List_Depth defers_row_api_Driver_last b153 k1
noncomputable def defers_List_Recover.get (F : Bool → (Int → Bool → Bool → Option Bool) → Option Bool) (e : Option Bool) (g : FuncId) (a : List AV) (h : Heap) (k : KR) : Option Bool := match g, a, h with
  | 14, [(.ptr [0, 0] 0 0)], [([0, 0], ⟨52, 3, (.mix [(.agg [.nils, .nils, (.d ⟨.bool, b153⟩)])])⟩)] => F b153 (fun y0 y1 y2 => k (.tup [(.d ⟨(.int .i64), y0⟩), (.d ⟨.bool, y1⟩)]) [([0, 0], ⟨52, 3, (.mix [(.agg [.nils, .nils, (.d ⟨.bool, y2⟩)])])⟩)])
  | _, _, _ => e
noncomputable def defers_List_Recover.calls (F0 : Bool → (Int → Bool → Option Bool) → Option Bool) (F1 : Bool → (Bool → Option Bool) → Option Bool) : RecF := fun g a h k => (defers_List_Depth.get F0 (defers_row_api_Driver_last.get F1 none g a h k) g a h k)
noncomputable def defers_List_Recover.loops : LoopF := fun b => none
set_option maxRecDepth 100000 in
theorem defers_List_Recover.eq (F0 : Bool → (Int → Bool → Option Bool) → Option Bool) (F1 : Bool → (Bool → Option Bool) → Option Bool) (b153 : Bool) (k : KR) : execL Try.prog ht 14 (callfOf (defers_List_Recover.calls F0 F1)) (defers_List_Recover.loops) 0 (codeOf Try.f14) ⟨[(.ptr [0, 0] 0 0)] ++ List.replicate (Try.f14.ntmps - ([(.ptr [0, 0] 0 0)] : List AV).length) .undef, [([0, 0], ⟨52, 3, (.mix [(.agg [.nils, .nils, (.d ⟨.bool, b153⟩)])])⟩)], 2⟩ (leave Try.prog Try.f14 k) = defers_List_Recover.body F0 F1 b153 (fun y0 y1 y2 => k (.tup [(.d ⟨(.int .i64), y0⟩), (.d ⟨.bool, y1⟩)]) [([0, 0], ⟨52, 3, (.mix [(.agg [.nils, .nils, (.d ⟨.bool, y2⟩)])])⟩)]) := by kernel_rfl
theorem defers_List_Recover.ok (d : Nat) (hd : 3 ≤ d) (b153 : Bool) (k : KR) (hx : defers_List_Recover b153 (fun y0 y1 y2 => k (.tup [(.d ⟨(.int .i64), y0⟩), (.d ⟨.bool, y1⟩)]) [([0, 0], ⟨52, 3, (.mix [(.agg [.nils, .nils, (.d ⟨.bool, y2⟩)])])⟩)]) = some true) : callK Try.prog ht d 14 [(.ptr [0, 0] 0 0)] [([0, 0], ⟨52, 3, (.mix [(.agg [.nils, .nils, (.d ⟨.bool, b153⟩)])])⟩)] k = some true := by
  obtain ⟨d, rfl⟩ : ∃ e, d = e + 1 := ⟨d - 1, by omega⟩
  exact fn_ok (c := codeOf Try.f14) Try.func14 (by kernel_rfl) (rec := defers_List_Recover.calls defers_List_Depth defers_row_api_Driver_last) (fun g a h k hx => by
    rcases defers_List_Depth.look d (by omega) hx with hx | hx
    rotate_left
    · exact hx
    rcases defers_row_api_Driver_last.look d (by omega) hx with hx | hx
    rotate_left
    · exact hx
    cases hx) (loopf := defers_List_Recover.loops) (by
    have e : loopsOf (defers_List_Recover.loops) 0 (codeOf Try.f14) = [] := by kernel_rfl
    rw [e]
    intro p hp
    cases hp) ((defers_List_Recover.eq defers_List_Depth defers_row_api_Driver_last b153 k).trans hx)
theorem defers_List_Recover.look (d : Nat) (hd : 3 ≤ d) {e : Option Bool} {g : FuncId} {a : List AV} {h : Heap} {k : KR} (hx : defers_List_Recover.get defers_List_Recover e g a h k = some true) : e = some true ∨ callK Try.prog ht d g a h k = some true := by
  unfold defers_List_Recover.get at hx
  split at hx
  · exact .inr (defers_List_Recover.ok d hd _ _ hx)
  · exact .inl hx
/-- function 22: sheerleg/sheerlegref40.Done -/
noncomputable def ref40_Done.body (ref40_Top : ((Int × Int × Int × Int × Bool × Unit) → Bool → Option Bool) → Option Bool) (k1 : (Int × Int × Int × Int × Bool × Unit) → Bool → Option Bool) : Option Bool :=
  (ref40_Top
  (fun t160 b161 => (cond_ b161 none (k1 t160 b161))))
noncomputable def ref40_Done (k1 : (Int × Int × Int × Int × Bool × Unit) → Bool → Option Bool) : Option Bool := ref40_Done.body ref40_Top k1
noncomputable def ref40_Done.get (F : ((Int × Int × Int × Int × Bool × Unit) → Bool → Option Bool) → Option Bool) (e : Option Bool) (g : FuncId) (a : List AV) (h : Heap) (k : KR) : Option Bool := match g, a, h with
  | 22, [(.agg [.nils, .nils])], [] => F (fun y0 y1 => k (.tup [(.agg [.nils, .nils]), (.d ⟨(.st [(.int .i64), (.int .i64), (.int .i64), (.int .i64), .bool]), y0⟩), (.d ⟨.bool, y1⟩)]) [])
  | _, _, _ => e
noncomputable def ref40_Done.calls (F0 : ((Int × Int × Int × Int × Bool × Unit) → Bool → Option Bool) → Option Bool) : RecF := fun g a h k => (ref40_Top.get F0 none g a h k)
noncomputable def ref40_Done.loops : LoopF := fun b => none
set_option maxRecDepth 100000 in
theorem ref40_Done.eq (F0 : ((Int × Int × Int × Int × Bool × Unit) → Bool → Option Bool) → Option Bool) (k : KR) : execL Try.prog ht 22 (callfOf (ref40_Done.calls F0)) (ref40_Done.loops) 0 (codeOf Try.f22) ⟨[(.agg [.nils, .nils])] ++ List.replicate (Try.f22.ntmps - ([(.agg [.nils, .nils])] : List AV).length) .undef, [], 2⟩ (leave Try.prog Try.f22 k) = ref40_Done.body F0 (fun y0 y1 => k (.tup [(.agg [.nils, .nils]), (.d ⟨(.st [(.int .i64), (.int .i64), (.int .i64), (.int .i64), .bool]), y0⟩), (.d ⟨.bool, y1⟩)]) []) := by kernel_rfl
theorem ref40_Done.ok (d : Nat) (hd : 2 ≤ d) (k : KR) (hx : ref40_Done (fun y0 y1 => k (.tup [(.agg [.nils, .nils]), (.d ⟨(.st [(.int .i64), (.int .i64), (.int .i64), (.int .i64), .bool]), y0⟩), (.d ⟨.bool, y1⟩)]) []) = some true) : callK Try.prog ht d 22 [(.agg [.nils, .nils])] [] k = some true := by
  obtain ⟨d, rfl⟩ : ∃ e, d = e + 1 := ⟨d - 1, by omega⟩
  exact fn_ok (c := codeOf Try.f22) Try.func22 (by kernel_rfl) (rec := ref40_Done.calls ref40_Top) (fun g a h k hx => by
    rcases ref40_Top.look d (by omega) hx with hx | hx
    rotate_left
    · exact hx
    cases hx) (loopf := ref40_Done.loops) (by
    have e : loopsOf (ref40_Done.loops) 0 (codeOf Try.f22) = [] := by kernel_rfl
    rw [e]
    intro p hp
    cases hp) ((ref40_Done.eq ref40_Top k).trans hx)
theorem ref40_Done.look (d : Nat) (hd : 2 ≤ d) {e : Option Bool} {g : FuncId} {a : List AV} {h : Heap} {k : KR} (hx : ref40_Done.get ref40_Done e g a h k = some true) : e = some true ∨ callK Try.prog ht d g a h k = some true := by
  unfold ref40_Done.get at hx
  split at hx
  · exact .inr (ref40_Done.ok d hd _ hx)
  · exact .inl hx
/-- function 28: (*sheerleg/defers.row[sheerleg/api.Driver]).drop -/
noncomputable def defers_row_api_Driver_drop.body (b168 : Bool) : Option Bool :=
  none
noncomputable def defers_row_api_Driver_drop (b168 : Bool) : Option Bool := defers_row_api_Driver_drop.body b168
noncomputable def defers_row_api_Driver_drop.get (F : Bool → Option Bool) (e : Option Bool) (g : FuncId) (a : List AV) (h : Heap) (k : KR) : Option Bool := match g, a, h with
  | 28, [(.ptr [0, 0] 0 1)], [([0, 0], ⟨52, 3, (.mix [(.agg [.nils, .nils, (.d ⟨.bool, b168⟩)])])⟩)] => F b168
  | _, _, _ => e
noncomputable def defers_row_api_Driver_drop.calls : RecF := fun g a h k => none
noncomputable def defers_row_api_Driver_drop.loops : LoopF := fun b => none
set_option maxRecDepth 100000 in
theorem defers_row_api_Driver_drop.eq (b168 : Bool) (k : KR) : execL Try.prog ht 28 (callfOf (defers_row_api_Driver_drop.calls)) (defers_row_api_Driver_drop.loops) 0 (codeOf Try.f28) ⟨[(.ptr [0, 0] 0 1)] ++ List.replicate (Try.f28.ntmps - ([(.ptr [0, 0] 0 1)] : List AV).length) .undef, [([0, 0], ⟨52, 3, (.mix [(.agg [.nils, .nils, (.d ⟨.bool, b168⟩)])])⟩)], 2⟩ (leave Try.prog Try.f28 k) = defers_row_api_Driver_drop.body b168 := by kernel_rfl
theorem defers_row_api_Driver_drop.ok (d : Nat) (hd : 1 ≤ d) (b168 : Bool) (k : KR) (hx : defers_row_api_Driver_drop b168 = some true) : callK Try.prog ht d 28 [(.ptr [0, 0] 0 1)] [([0, 0], ⟨52, 3, (.mix [(.agg [.nils, .nils, (.d ⟨.bool, b168⟩)])])⟩)] k = some true := by
  obtain ⟨d, rfl⟩ : ∃ e, d = e + 1 := ⟨d - 1, by omega⟩
  exact fn_ok (c := codeOf Try.f28) Try.func28 (by kernel_rfl) (rec := defers_row_api_Driver_drop.calls) (fun g a h k hx => by
    cases hx) (loopf := defers_row_api_Driver_drop.loops) (by
    have e : loopsOf (defers_row_api_Driver_drop.loops) 0 (codeOf Try.f28) = [] := by kernel_rfl
    rw [e]
    intro p hp
    cases hp) ((defers_row_api_Driver_drop.eq b168 k).trans hx)
theorem defers_row_api_Driver_drop.look (d : Nat) (hd : 1 ≤ d) {e : Option Bool} {g : FuncId} {a : List AV} {h : Heap} {k : KR} (hx : defers_row_api_Driver_drop.get defers_row_api_Driver_drop e g a h k = some true) : e = some true ∨ callK Try.prog ht d g a h k = some true := by
  unfold defers_row_api_Driver_drop.get at hx
  split at hx
  · exact .inr (defers_row_api_Driver_drop.ok d hd _ _ hx)
  · exact .inl hx
/-- function 23: (*sheerleg/defers.List).none -/
noncomputable def defers_List_nonev1.body (b180 : Bool) (ts181 : List (Int × Int × Int × Unit)) (ts182 : List (Int × Int × Int × Int × Bool × Unit)) (k1 : Bool → Bool → (List (Int × Int × Int × Unit)) → (List (Int × Int × Int × Int × Bool × Unit)) → Option Bool) : Option Bool :=
  (k1 (! b180) b180 ts181 ts182)
noncomputable def defers_List_nonev1 (b180 : Bool) (ts181 : List (Int × Int × Int × Unit)) (ts182 : List (Int × Int × Int × Int × Bool × Unit)) (k1 : Bool → Bool → (List (Int × Int × Int × Unit)) → (List (Int × Int × Int × Int × Bool × Unit)) → Option Bool) : Option Bool := defers_List_nonev1.body b180 ts181 ts182 k1
noncomputable def defers_List_nonev1.get (F : Bool → (List (Int × Int × Int × Unit)) → (List (Int × Int × Int × Int × Bool × Unit)) → (Bool → Bool → (List (Int × Int × Int × Unit)) → (List (Int × Int × Int × Int × Bool × Unit)) → Option Bool) → Option Bool) (e : Option Bool) (g : FuncId) (a : List AV) (h : Heap) (k : KR) : Option Bool := match g, a, h with
  | 23, [(.ptr [0, 0] 0 0)], [([0, 0], ⟨52, 3, (.mix [(.agg [(.ref [0, 1]), (.ref [0, 2]), (.d ⟨.bool, b180⟩)])])⟩), ([0, 1], ⟨33, 3, (.data (.st [(.int .i64), (.int .i64), (.int .i64)]) ts181)⟩), ([0, 2], ⟨35, 5, (.data (.st [(.int .i64), (.int .i64), (.int .i64), (.int .i64), .bool]) ts182)⟩)] => F b180 ts181 ts182 (fun y0 y1 y2 y3 => k (.d ⟨.bool, y0⟩) [([0, 0], ⟨52, 3, (.mix [(.agg [(.ref [0, 1]), (.ref [0, 2]), (.d ⟨.bool, y1⟩)])])⟩), ([0, 1], ⟨33, 3, (.data (.st [(.int .i64), (.int .i64), (.int .i64)]) y2)⟩), ([0, 2], ⟨35, 5, (.data (.st [(.int .i64), (.int .i64), (.int .i64), (.int .i64), .bool]) y3)⟩)])
  | _, _, _ => e
noncomputable def defers_List_nonev1.calls : RecF := fun g a h k => none
noncomputable def defers_List_nonev1.loops : LoopF := fun b => none
set_option maxRecDepth 100000 in
theorem defers_List_nonev1.eq (b180 : Bool) (ts181 : List (Int × Int × Int × Unit)) (ts182 : List (Int × Int × Int × Int × Bool × Unit)) (k : KR) : execL Try.prog ht 23 (callfOf (defers_List_nonev1.calls)) (defers_List_nonev1.loops) 0 (codeOf Try.f23) ⟨[(.ptr [0, 0] 0 0)] ++ List.replicate (Try.f23.ntmps - ([(.ptr [0, 0] 0 0)] : List AV).length) .undef, [([0, 0], ⟨52, 3, (.mix [(.agg [(.ref [0, 1]), (.ref [0, 2]), (.d ⟨.bool, b180⟩)])])⟩), ([0, 1], ⟨33, 3, (.data (.st [(.int .i64), (.int .i64), (.int .i64)]) ts181)⟩), ([0, 2], ⟨35, 5, (.data (.st [(.int .i64), (.int .i64), (.int .i64), (.int .i64), .bool]) ts182)⟩)], 2⟩ (leave Try.prog Try.f23 k) = defers_List_nonev1.body b180 ts181 ts182 (fun y0 y1 y2 y3 => k (.d ⟨.bool, y0⟩) [([0, 0], ⟨52, 3, (.mix [(.agg [(.ref [0, 1]), (.ref [0, 2]), (.d ⟨.bool, y1⟩)])])⟩), ([0, 1], ⟨33, 3, (.data (.st [(.int .i64), (.int .i64), (.int .i64)]) y2)⟩), ([0, 2], ⟨35, 5, (.data (.st [(.int .i64), (.int .i64), (.int .i64), (.int .i64), .bool]) y3)⟩)]) := by kernel_rfl
theorem defers_List_nonev1.ok (d : Nat) (hd : 1 ≤ d) (b180 : Bool) (ts181 : List (Int × Int × Int × Unit)) (ts182 : List (Int × Int × Int × Int × Bool × Unit)) (k : KR) (hx : defers_List_nonev1 b180 ts181 ts182 (fun y0 y1 y2 y3 => k (.d ⟨.bool, y0⟩) [([0, 0], ⟨52, 3, (.mix [(.agg [(.ref [0, 1]), (.ref [0, 2]), (.d ⟨.bool, y1⟩)])])⟩), ([0, 1], ⟨33, 3, (.data (.st [(.int .i64), (.int .i64), (.int .i64)]) y2)⟩), ([0, 2], ⟨35, 5, (.data (.st [(.int .i64), (.int .i64), (.int .i64), (.int .i64), .bool]) y3)⟩)]) = some true) : callK Try.prog ht d 23 [(.ptr [0, 0] 0 0)] [([0, 0], ⟨52, 3, (.mix [(.agg [(.ref [0, 1]), (.ref [0, 2]), (.d ⟨.bool, b180⟩)])])⟩), ([0, 1], ⟨33, 3, (.data (.st [(.int .i64), (.int .i64), (.int .i64)]) ts181)⟩), ([0, 2], ⟨35, 5, (.data (.st [(.int .i64), (.int .i64), (.int .i64), (.int .i64), .bool]) ts182)⟩)] k = some true := by
  obtain ⟨d, rfl⟩ : ∃ e, d = e + 1 := ⟨d - 1, by omega⟩
  exact fn_ok (c := codeOf Try.f23) Try.func23 (by kernel_rfl) (rec := defers_List_nonev1.calls) (fun g a h k hx => by
    cases hx) (loopf := defers_List_nonev1.loops) (by
    have e : loopsOf (defers_List_nonev1.loops) 0 (codeOf Try.f23) = [] := by kernel_rfl
    rw [e]
    intro p hp
    cases hp) ((defers_List_nonev1.eq b180 ts181 ts182 k).trans hx)
theorem defers_List_nonev1.look (d : Nat) (hd : 1 ≤ d) {e : Option Bool} {g : FuncId} {a : List AV} {h : Heap} {k : KR} (hx : defers_List_nonev1.get defers_List_nonev1 e g a h k = some true) : e = some true ∨ callK Try.prog ht d g a h k = some true := by
  unfold defers_List_nonev1.get at hx
  split at hx
  · exact .inr (defers_List_nonev1.ok d hd _ _ _ _ hx)
  · exact .inl hx
/-- function 9: (*sheerleg/defers.List).Len -/
noncomputable def defers_List_Lenv1.body (defers_List_nonev1 : Bool → (List (Int × Int × Int × Unit)) → (List (Int × Int × Int × Int × Bool × Unit)) → (Bool → Bool → (List (Int × Int × Int × Unit)) → (List (Int × Int × Int × Int × Bool × Unit)) → Option Bool) → Option Bool) (b177 : Bool) (ts178 : List (Int × Int × Int × Unit)) (ts179 : List (Int × Int × Int × Int × Bool × Unit)) (k1 : Int → Bool → (List (Int × Int × Int × Unit)) → (List (Int × Int × Int × Int × Bool × Unit)) → Option Bool) : Option Bool :=
  (defers_List_nonev1 b177 ts178 ts179
  (fun b183 b184 ts185 ts186 => (cond_ b183 (k1 (0 : Int) b184 ts185 ts186) (k1 (((List.length ts185) : Nat) : Int) b184 ts185 ts186))))
noncomputable def defers_List_Lenv1 (b177 : Bool) (ts178 : List (Int × Int × Int × Unit)) (ts179 : List (Int × Int × Int × Int × Bool × Unit)) (k1 : Int → Bool → (List (Int × Int × Int × Unit)) → (List (Int × Int × Int × Int × Bool × Unit)) → Option Bool) : Option Bool := defers_List_Lenv1.body defers_List_nonev1 b177 ts178 ts179 k1
noncomputable def defers_List_Lenv1.get (F : Bool → (List (Int × Int × Int × Unit)) → (List (Int × Int × Int × Int × Bool × Unit)) → (Int → Bool → (List (Int × Int × Int × Unit)) → (List (Int × Int × Int × Int × Bool × Unit)) → Option Bool) → Option Bool) (e : Option Bool) (g : FuncId) (a : List AV) (h : Heap) (k : KR) : Option Bool := match g, a, h with
  | 9, [(.ptr [0, 0] 0 0)], [([0, 0], ⟨52, 3, (.mix [(.agg [(.ref [0, 1]), (.ref [0, 2]), (.d ⟨.bool, b177⟩)])])⟩), ([0, 1], ⟨33, 3, (.data (.st [(.int .i64), (.int .i64), (.int .i64)]) ts178)⟩), ([0, 2], ⟨35, 5, (.data (.st [(.int .i64), (.int .i64), (.int .i64), (.int .i64), .bool]) ts179)⟩)] => F b177 ts178 ts179 (fun y0 y1 y2 y3 => k (.d ⟨(.int .i64), y0⟩) [([0, 0], ⟨52, 3, (.mix [(.agg [(.ref [0, 1]), (.ref [0, 2]), (.d ⟨.bool, y1⟩)])])⟩), ([0, 1], ⟨33, 3, (.data (.st [(.int .i64), (.int .i64), (.int .i64)]) y2)⟩), ([0, 2], ⟨35, 5, (.data (.st [(.int .i64), (.int .i64), (.int .i64), (.int .i64), .bool]) y3)⟩)])
  | _, _, _ => e
noncomputable def defers_List_Lenv1.calls (F0 : Bool → (List (Int × Int × Int × Unit)) → (List (Int × Int × Int × Int × Bool × Unit)) → (Bool → Bool → (List (Int × Int × Int × Unit)) → (List (Int × Int × Int × Int × Bool × Unit)) → Option Bool) → Option Bool) : RecF := fun g a h k => (defers_List_nonev1.get F0 none g a h k)
noncomputable def defers_List_Lenv1.loops : LoopF := fun b => none
set_option maxRecDepth 100000 in
theorem defers_List_Lenv1.eq (F0 : Bool → (List (Int × Int × Int × Unit)) → (List (Int × Int × Int × Int × Bool × Unit)) → (Bool → Bool → (List (Int × Int × Int × Unit)) → (List (Int × Int × Int × Int × Bool × Unit)) → Option Bool) → Option Bool) (b177 : Bool) (ts178 : List (Int × Int × Int × Unit)) (ts179 : List (Int × Int × Int × Int × Bool × Unit)) (k : KR) : execL Try.prog ht 9 (callfOf (defers_List_Lenv1.calls F0)) (defers_List_Lenv1.loops) 0 (codeOf Try.f9) ⟨[(.ptr [0, 0] 0 0)] ++ List.replicate (Try.f9.ntmps - ([(.ptr [0, 0] 0 0)] : List AV).length) .undef, [([0, 0], ⟨52, 3, (.mix [(.agg [(.ref [0, 1]), (.ref [0, 2]), (.d ⟨.bool, b177⟩)])])⟩), ([0, 1], ⟨33, 3, (.data (.st [(.int .i64), (.int .i64), (.int .i64)]) ts178)⟩), ([0, 2], ⟨35, 5, (.data (.st [(.int .i64), (.int .i64), (.int .i64), (.int .i64), .bool]) ts179)⟩)], 2⟩ (leave Try.prog Try.f9 k) = defers_List_Lenv1.body F0 b177 ts178 ts179 (fun y0 y1 y2 y3 => k (.d ⟨(.int .i64), y0⟩) [([0, 0], ⟨52, 3, (.mix [(.agg [(.ref [0, 1]), (.ref [0, 2]), (.d ⟨.bool, y1⟩)])])⟩), ([0, 1], ⟨33, 3, (.data (.st [(.int .i64), (.int .i64), (.int .i64)]) y2)⟩), ([0, 2], ⟨35, 5, (.data (.st [(.int .i64), (.int .i64), (.int .i64), (.int .i64), .bool]) y3)⟩)]) := by kernel_rfl
theorem defers_List_Lenv1.ok (d : Nat) (hd : 2 ≤ d) (b177 : Bool) (ts178 : List (Int × Int × Int × Unit)) (ts179 : List (Int × Int × Int × Int × Bool × Unit)) (k : KR) (hx : defers_List_Lenv1 b177 ts178 ts179 (fun y0 y1 y2 y3 => k (.d ⟨(.int .i64), y0⟩) [([0, 0], ⟨52, 3, (.mix [(.agg [(.ref [0, 1]), (.ref [0, 2]), (.d ⟨.bool, y1⟩)])])⟩), ([0, 1], ⟨33, 3, (.data (.st [(.int .i64), (.int .i64), (.int .i64)]) y2)⟩), ([0, 2], ⟨35, 5, (.data (.st [(.int .i64), (.int .i64), (.int .i64), (.int .i64), .bool]) y3)⟩)]) = some true) : callK Try.prog ht d 9 [(.ptr [0, 0] 0 0)] [([0, 0], ⟨52, 3, (.mix [(.agg [(.ref [0, 1]), (.ref [0, 2]), (.d ⟨.bool, b177⟩)])])⟩), ([0, 1], ⟨33, 3, (.data (.st [(.int .i64), (.int .i64), (.int .i64)]) ts178)⟩), ([0, 2], ⟨35, 5, (.data (.st [(.int .i64), (.int .i64), (.int .i64), (.int .i64), .bool]) ts179)⟩)] k = some true := by
  obtain ⟨d, rfl⟩ : ∃ e, d = e + 1 := ⟨d - 1, by omega⟩
  exact fn_ok (c := codeOf Try.f9) Try.func9 (by kernel_rfl) (rec := defers_List_Lenv1.calls defers_List_nonev1) (fun g a h k hx => by
    rcases defers_List_nonev1.look d (by omega) hx with hx | hx
    rotate_left
    · exact hx
    cases hx) (loopf := defers_List_Lenv1.loops) (by
    have e : loopsOf (defers_List_Lenv1.loops) 0 (codeOf Try.f9) = [] := by kernel_rfl
    rw [e]
    intro p hp
    cases hp) ((defers_List_Lenv1.eq defers_List_nonev1 b177 ts178 ts179 k).trans hx)
theorem defers_List_Lenv1.look (d : Nat) (hd : 2 ≤ d) {e : Option Bool} {g : FuncId} {a : List AV} {h : Heap} {k : KR} (hx : defers_List_Lenv1.get defers_List_Lenv1 e g a h k = some true) : e = some true ∨ callK Try.prog ht d g a h k = some true := by
  unfold defers_List_Lenv1.get at hx
  split at hx
  · exact .inr (defers_List_Lenv1.ok d hd _ _ _ _ hx)
  · exact .inl hx
/-- function 10: (*sheerleg/defers.List).Depth -/
noncomputable def defers_List_Depthv1.body (defers_List_nonev1 : Bool → (List (Int × Int × Int × Unit)) → (List (Int × Int × Int × Int × Bool × Unit)) → (Bool → Bool → (List (Int × Int × Int × Unit)) → (List (Int × Int × Int × Int × Bool × Unit)) → Option Bool) → Option Bool) (b191 : Bool) (ts192 : List (Int × Int × Int × Unit)) (ts193 : List (Int × Int × Int × Int × Bool × Unit)) (k1 : Int → Bool → (List (Int × Int × Int × Unit)) → (List (Int × Int × Int × Int × Bool × Unit)) → Option Bool) : Option Bool :=
  (defers_List_nonev1 b191 ts192 ts193
  (fun b194 b195 ts196 ts197 => (cond_ b194 (k1 (0 : Int) b195 ts196 ts197) (k1 (((List.length ts197) : Nat) : Int) b195 ts196 ts197))))
noncomputable def defers_List_Depthv1 (b191 : Bool) (ts192 : List (Int × Int × Int × Unit)) (ts193 : List (Int × Int × Int × Int × Bool × Unit)) (k1 : Int → Bool → (List (Int × Int × Int × Unit)) → (List (Int × Int × Int × Int × Bool × Unit)) → Option Bool) : Option Bool := defers_List_Depthv1.body defers_List_nonev1 b191 ts192 ts193 k1
noncomputable def defers_List_Depthv1.get (F : Bool → (List (Int × Int × Int × Unit)) → (List (Int × Int × Int × Int × Bool × Unit)) → (Int → Bool → (List (Int × Int × Int × Unit)) → (List (Int × Int × Int × Int × Bool × Unit)) → Option Bool) → Option Bool) (e : Option Bool) (g : FuncId) (a : List AV) (h : Heap) (k : KR) : Option Bool := match g, a, h with
  | 10, [(.ptr [0, 0] 0 0)], [([0, 0], ⟨52, 3, (.mix [(.agg [(.ref [0, 1]), (.ref [0, 2]), (.d ⟨.bool, b191⟩)])])⟩), ([0, 1], ⟨33, 3, (.data (.st [(.int .i64), (.int .i64), (.int .i64)]) ts192)⟩), ([0, 2], ⟨35, 5, (.data (.st [(.int .i64), (.int .i64), (.int .i64), (.int .i64), .bool]) ts193)⟩)] => F b191 ts192 ts193 (fun y0 y1 y2 y3 => k (.d ⟨(.int .i64), y0⟩) [([0, 0], ⟨52, 3, (.mix [(.agg [(.ref [0, 1]), (.ref [0, 2]), (.d ⟨.bool, y1⟩)])])⟩), ([0, 1], ⟨33, 3, (.data (.st [(.int .i64), (.int .i64), (.int .i64)]) y2)⟩), ([0, 2], ⟨35, 5, (.data (.st [(.int .i64), (.int .i64), (.int .i64), (.int .i64), .bool]) y3)⟩)])
  | _, _, _ => e
noncomputable def defers_List_Depthv1.calls (F0 : Bool → (List (Int × Int × Int × Unit)) → (List (Int × Int × Int × Int × Bool × Unit)) → (Bool → Bool → (List (Int × Int × Int × Unit)) → (List (Int × Int × Int × Int × Bool × Unit)) → Option Bool) → Option Bool) : RecF := fun g a h k => (defers_List_nonev1.get F0 none g a h k)
noncomputable def defers_List_Depthv1.loops : LoopF := fun b => none
set_option maxRecDepth 100000 in
theorem defers_List_Depthv1.eq (F0 : Bool → (List (Int × Int × Int × Unit)) → (List (Int × Int × Int × Int × Bool × Unit)) → (Bool → Bool → (List (Int × Int × Int × Unit)) → (List (Int × Int × Int × Int × Bool × Unit)) → Option Bool) → Option Bool) (b191 : Bool) (ts192 : List (Int × Int × Int × Unit)) (ts193 : List (Int × Int × Int × Int × Bool × Unit)) (k : KR) : execL Try.prog ht 10 (callfOf (defers_List_Depthv1.calls F0)) (defers_List_Depthv1.loops) 0 (codeOf Try.f10) ⟨[(.ptr [0, 0] 0 0)] ++ List.replicate (Try.f10.ntmps - ([(.ptr [0, 0] 0 0)] : List AV).length) .undef, [([0, 0], ⟨52, 3, (.mix [(.agg [(.ref [0, 1]), (.ref [0, 2]), (.d ⟨.bool, b191⟩)])])⟩), ([0, 1], ⟨33, 3, (.data (.st [(.int .i64), (.int .i64), (.int .i64)]) ts192)⟩), ([0, 2], ⟨35, 5, (.data (.st [(.int .i64), (.int .i64), (.int .i64), (.int .i64), .bool]) ts193)⟩)], 2⟩ (leave Try.prog Try.f10 k) = defers_List_Depthv1.body F0 b191 ts192 ts193 (fun y0 y1 y2 y3 => k (.d ⟨(.int .i64), y0⟩) [([0, 0], ⟨52, 3, (.mix [(.agg [(.ref [0, 1]), (.ref [0, 2]), (.d ⟨.bool, y1⟩)])])⟩), ([0, 1], ⟨33, 3, (.data (.st [(.int .i64), (.int .i64), (.int .i64)]) y2)⟩), ([0, 2], ⟨35, 5, (.data (.st [(.int .i64), (.int .i64), (.int .i64), (.int .i64), .bool]) y3)⟩)]) := by kernel_rfl
theorem defers_List_Depthv1.ok (d : Nat) (hd : 2 ≤ d) (b191 : Bool) (ts192 : List (Int × Int × Int × Unit)) (ts193 : List (Int × Int × Int × Int × Bool × Unit)) (k : KR) (hx : defers_List_Depthv1 b191 ts192 ts193 (fun y0 y1 y2 y3 => k (.d ⟨(.int .i64), y0⟩) [([0, 0], ⟨52, 3, (.mix [(.agg [(.ref [0, 1]), (.ref [0, 2]), (.d ⟨.bool, y1⟩)])])⟩), ([0, 1], ⟨33, 3, (.data (.st [(.int .i64), (.int .i64), (.int .i64)]) y2)⟩), ([0, 2], ⟨35, 5, (.data (.st [(.int .i64), (.int .i64), (.int .i64), (.int .i64), .bool]) y3)⟩)]) = some true) : callK Try.prog ht d 10 [(.ptr [0, 0] 0 0)] [([0, 0], ⟨52, 3, (.mix [(.agg [(.ref [0, 1]), (.ref [0, 2]), (.d ⟨.bool, b191⟩)])])⟩), ([0, 1], ⟨33, 3, (.data (.st [(.int .i64), (.int .i64), (.int .i64)]) ts192)⟩), ([0, 2], ⟨35, 5, (.data (.st [(.int .i64), (.int .i64), (.int .i64), (.int .i64), .bool]) ts193)⟩)] k = some true := by
  obtain ⟨d, rfl⟩ : ∃ e, d = e + 1 := ⟨d - 1, by omega⟩
  exact fn_ok (c := codeOf Try.f10) Try.func10 (by kernel_rfl) (rec := defers_List_Depthv1.calls defers_List_nonev1) (fun g a h k hx => by
    rcases defers_List_nonev1.look d (by omega) hx with hx | hx
    rotate_left
    · exact hx
    cases hx) (loopf := defers_List_Depthv1.loops) (by
    have e : loopsOf (defers_List_Depthv1.loops) 0 (codeOf Try.f10) = [] := by kernel_rfl
    rw [e]
    intro p hp
    cases hp) ((defers_List_Depthv1.eq defers_List_nonev1 b191 ts192 ts193 k).trans hx)
theorem defers_List_Depthv1.look (d : Nat) (hd : 2 ≤ d) {e : Option Bool} {g : FuncId} {a : List AV} {h : Heap} {k : KR} (hx : defers_List_Depthv1.get defers_List_Depthv1 e g a h k = some true) : e = some true ∨ callK Try.prog ht d g a h k = some true := by
  unfold defers_List_Depthv1.get at hx
  split at hx
  · exact .inr (defers_List_Depthv1.ok d hd _ _ _ _ hx)
  · exact .inl hx
/-- function 17: sheerleg/sheerlegref40.Put -/
noncomputable def ref40_Put.body (t232 : (List (Int × Int × Int × Unit)) × (List (Int × Int × Int × Int × Bool × Unit)) × Unit) (t233 : Int × Int × Int × Unit) (k1 : ((List (Int × Int × Int × Unit)) × (List (Int × Int × Int × Int × Bool × Unit)) × Unit) → Bool → Option Bool) : Option Bool :=
  (cond_ (decide ((((List.length t232.1) : Nat) : Int) ≥ (32 : Int))) (k1 (t232.1, (t232.2.1, ())) false) (cond_ (Nat.ble ((List.length t232.1) * (24 : Nat)) (140737488355328 : Nat)) (cond_ (Nat.ble (((List.length t232.1) + (List.length ((t233.1, (t233.2.1, (t233.2.2.1, ()))) :: []))) * (24 : Nat)) (140737488355328 : Nat)) (k1 ((t232.1 ++ ((t233.1, (t233.2.1, (t233.2.2.1, ()))) :: [])), (t232.2.1, ())) true) none) none))
noncomputable def ref40_Put (t232 : (List (Int × Int × Int × Unit)) × (List (Int × Int × Int × Int × Bool × Unit)) × Unit) (t233 : Int × Int × Int × Unit) (k1 : ((List (Int × Int × Int × Unit)) × (List (Int × Int × Int × Int × Bool × Unit)) × Unit) → Bool → Option Bool) : Option Bool := ref40_Put.body t232 t233 k1
noncomputable def ref40_Put.get (F : ((List (Int × Int × Int × Unit)) × (List (Int × Int × Int × Int × Bool × Unit)) × Unit) → (Int × Int × Int × Unit) → (((List (Int × Int × Int × Unit)) × (List (Int × Int × Int × Int × Bool × Unit)) × Unit) → Bool → Option Bool) → Option Bool) (e : Option Bool) (g : FuncId) (a : List AV) (h : Heap) (k : KR) : Option Bool := match g, a, h with
  | 17, [(.d ⟨(.st [(.sl 33 (.st [(.int .i64), (.int .i64), (.int .i64)])), (.sl 35 (.st [(.int .i64), (.int .i64), (.int .i64), (.int .i64), .bool]))]), t232⟩), (.d ⟨(.st [(.int .i64), (.int .i64), (.int .i64)]), t233⟩)], [] => F t232 t233 (fun y0 y1 => k (.tup [(.d ⟨(.st [(.sl 33 (.st [(.int .i64), (.int .i64), (.int .i64)])), (.sl 35 (.st [(.int .i64), (.int .i64), (.int .i64), (.int .i64), .bool]))]), y0⟩), (.d ⟨.bool, y1⟩)]) [])
  | _, _, _ => e
noncomputable def ref40_Put.calls : RecF := fun g a h k => none
noncomputable def ref40_Put.loops : LoopF := fun b => none
set_option maxRecDepth 100000 in
theorem ref40_Put.eq (t232 : (List (Int × Int × Int × Unit)) × (List (Int × Int × Int × Int × Bool × Unit)) × Unit) (t233 : Int × Int × Int × Unit) (k : KR) : execL Try.prog ht 17 (callfOf (ref40_Put.calls)) (ref40_Put.loops) 0 (codeOf Try.f17) ⟨[(.d ⟨(.st [(.sl 33 (.st [(.int .i64), (.int .i64), (.int .i64)])), (.sl 35 (.st [(.int .i64), (.int .i64), (.int .i64), (.int .i64), .bool]))]), t232⟩), (.d ⟨(.st [(.int .i64), (.int .i64), (.int .i64)]), t233⟩)] ++ List.replicate (Try.f17.ntmps - ([(.d ⟨(.st [(.sl 33 (.st [(.int .i64), (.int .i64), (.int .i64)])), (.sl 35 (.st [(.int .i64), (.int .i64), (.int .i64), (.int .i64), .bool]))]), t232⟩), (.d ⟨(.st [(.int .i64), (.int .i64), (.int .i64)]), t233⟩)] : List AV).length) .undef, [], 2⟩ (leave Try.prog Try.f17 k) = ref40_Put.body t232 t233 (fun y0 y1 => k (.tup [(.d ⟨(.st [(.sl 33 (.st [(.int .i64), (.int .i64), (.int .i64)])), (.sl 35 (.st [(.int .i64), (.int .i64), (.int .i64), (.int .i64), .bool]))]), y0⟩), (.d ⟨.bool, y1⟩)]) []) := by kernel_rfl
theorem ref40_Put.ok (d : Nat) (hd : 1 ≤ d) (t232 : (List (Int × Int × Int × Unit)) × (List (Int × Int × Int × Int × Bool × Unit)) × Unit) (t233 : Int × Int × Int × Unit) (k : KR) (hx : ref40_Put t232 t233 (fun y0 y1 => k (.tup [(.d ⟨(.st [(.sl 33 (.st [(.int .i64), (.int .i64), (.int .i64)])), (.sl 35 (.st [(.int .i64), (.int .i64), (.int .i64), (.int .i64), .bool]))]), y0⟩), (.d ⟨.bool, y1⟩)]) []) = some true) : callK Try.prog ht d 17 [(.d ⟨(.st [(.sl 33 (.st [(.int .i64), (.int .i64), (.int .i64)])), (.sl 35 (.st [(.int .i64), (.int .i64), (.int .i64), (.int .i64), .bool]))]), t232⟩), (.d ⟨(.st [(.int .i64), (.int .i64), (.int .i64)]), t233⟩)] [] k = some true := by
  obtain ⟨d, rfl⟩ : ∃ e, d = e + 1 := ⟨d - 1, by omega⟩
  exact fn_ok (c := codeOf Try.f17) Try.func17 (by kernel_rfl) (rec := ref40_Put.calls) (fun g a h k hx => by
    cases hx) (loopf := ref40_Put.loops) (by
    have e : loopsOf (ref40_Put.loops) 0 (codeOf Try.f17) = [] := by kernel_rfl
    rw [e]
    intro p hp
    cases hp) ((ref40_Put.eq t232 t233 k).trans hx)
theorem ref40_Put.look (d : Nat) (hd : 1 ≤ d) {e : Option Bool} {g : FuncId} {a : List AV} {h : Heap} {k : KR} (hx : ref40_Put.get ref40_Put e g a h k = some true) : e = some true ∨ callK Try.prog ht d g a h k = some true := by
  unfold ref40_Put.get at hx
  split at hx
  · exact .inr (ref40_Put.ok d hd _ _ _ hx)
  · exact .inl hx
/-- function 24: (*sheerleg/defers.row[sheerleg/api.Rec]).put -/
noncomputable def defers_row_api_Rec_putv1.body (t248 : Int × Int × Int × Unit) (b249 : Bool) (ts250 : List (Int × Int × Int × Unit)) (ts251 : List (Int × Int × Int × Int × Bool × Unit)) (k1 : Bool → (List (Int × Int × Int × Int × Bool × Unit)) → (List (Int × Int × Int × Unit)) → Option Bool) : Option Bool :=
  (cond_ (Nat.ble (((List.length ts250) + (List.length ((t248.1, (t248.2.1, (t248.2.2.1, ()))) :: []))) * (24 : Nat)) (140737488355328 : Nat)) (k1 b249 ts251 (ts250 ++ ((t248.1, (t248.2.1, (t248.2.2.1, ()))) :: []))) none)
noncomputable def defers_row_api_Rec_putv1 (t248 : Int × Int × Int × Unit) (b249 : Bool) (ts250 : List (Int × Int × Int × Unit)) (ts251 : List (Int × Int × Int × Int × Bool × Unit)) (k1 : Bool → (List (Int × Int × Int × Int × Bool × Unit)) → (List (Int × Int × Int × Unit)) → Option Bool) : Option Bool := defers_row_api_Rec_putv1.body t248 b249 ts250 ts251 k1
noncomputable def defers_row_api_Rec_putv1.get (F : (Int × Int × Int × Unit) → Bool → (List (Int × Int × Int × Unit)) → (List (Int × Int × Int × Int × Bool × Unit)) → (Bool → (List (Int × Int × Int × Int × Bool × Unit)) → (List (Int × Int × Int × Unit)) → Option Bool) → Option Bool) (e : Option Bool) (g : FuncId) (a : List AV) (h : Heap) (k : KR) : Option Bool := match g, a, h with
  | 24, [(.ptr [0, 0] 0 0), (.d ⟨(.st [(.int .i64), (.int .i64), (.int .i64)]), t248⟩)], [([0, 0], ⟨52, 3, (.mix [(.agg [(.ref [0, 1]), (.ref [0, 2]), (.d ⟨.bool, b249⟩)])])⟩), ([0, 1], ⟨33, 3, (.data (.st [(.int .i64), (.int .i64), (.int .i64)]) ts250)⟩), ([0, 2], ⟨35, 5, (.data (.st [(.int .i64), (.int .i64), (.int .i64), (.int .i64), .bool]) ts251)⟩)] => F t248 b249 ts250 ts251 (fun y0 y1 y2 => k (.tup []) [([0, 0], ⟨52, 3, (.mix [(.agg [(.ref [1, 0]), (.ref [0, 2]), (.d ⟨.bool, y0⟩)])])⟩), ([0, 2], ⟨35, 5, (.data (.st [(.int .i64), (.int .i64), (.int .i64), (.int .i64), .bool]) y1)⟩), ([1, 0], ⟨33, 3, (.data (.st [(.int .i64), (.int .i64), (.int .i64)]) y2)⟩)])
  | _, _, _ => e
noncomputable def defers_row_api_Rec_putv1.calls : RecF := fun g a h k => none
noncomputable def defers_row_api_Rec_putv1.loops : LoopF := fun b => none
set_option maxRecDepth 100000 in
theorem defers_row_api_Rec_putv1.eq (t248 : Int × Int × Int × Unit) (b249 : Bool) (ts250 : List (Int × Int × Int × Unit)) (ts251 : List (Int × Int × Int × Int × Bool × Unit)) (k : KR) : execL Try.prog ht 24 (callfOf (defers_row_api_Rec_putv1.calls)) (defers_row_api_Rec_putv1.loops) 0 (codeOf Try.f24) ⟨[(.ptr [0, 0] 0 0), (.d ⟨(.st [(.int .i64), (.int .i64), (.int .i64)]), t248⟩)] ++ List.replicate (Try.f24.ntmps - ([(.ptr [0, 0] 0 0), (.d ⟨(.st [(.int .i64), (.int .i64), (.int .i64)]), t248⟩)] : List AV).length) .undef, [([0, 0], ⟨52, 3, (.mix [(.agg [(.ref [0, 1]), (.ref [0, 2]), (.d ⟨.bool, b249⟩)])])⟩), ([0, 1], ⟨33, 3, (.data (.st [(.int .i64), (.int .i64), (.int .i64)]) ts250)⟩), ([0, 2], ⟨35, 5, (.data (.st [(.int .i64), (.int .i64), (.int .i64), (.int .i64), .bool]) ts251)⟩)], 2⟩ (leave Try.prog Try.f24 k) = defers_row_api_Rec_putv1.body t248 b249 ts250 ts251 (fun y0 y1 y2 => k (.tup []) [([0, 0], ⟨52, 3, (.mix [(.agg [(.ref [1, 0]), (.ref [0, 2]), (.d ⟨.bool, y0⟩)])])⟩), ([0, 2], ⟨35, 5, (.data (.st [(.int .i64), (.int .i64), (.int .i64), (.int .i64), .bool]) y1)⟩), ([1, 0], ⟨33, 3, (.data (.st [(.int .i64), (.int .i64), (.int .i64)]) y2)⟩)]) := by kernel_rfl
theorem defers_row_api_Rec_putv1.ok (d : Nat) (hd : 1 ≤ d) (t248 : Int × Int × Int × Unit) (b249 : Bool) (ts250 : List (Int × Int × Int × Unit)) (ts251 : List (Int × Int × Int × Int × Bool × Unit)) (k : KR) (hx : defers_row_api_Rec_putv1 t248 b249 ts250 ts251 (fun y0 y1 y2 => k (.tup []) [([0, 0], ⟨52, 3, (.mix [(.agg [(.ref [1, 0]), (.ref [0, 2]), (.d ⟨.bool, y0⟩)])])⟩), ([0, 2], ⟨35, 5, (.data (.st [(.int .i64), (.int .i64), (.int .i64), (.int .i64), .bool]) y1)⟩), ([1, 0], ⟨33, 3, (.data (.st [(.int .i64), (.int .i64), (.int .i64)]) y2)⟩)]) = some true) : callK Try.prog ht d 24 [(.ptr [0, 0] 0 0), (.d ⟨(.st [(.int .i64), (.int .i64), (.int .i64)]), t248⟩)] [([0, 0], ⟨52, 3, (.mix [(.agg [(.ref [0, 1]), (.ref [0, 2]), (.d ⟨.bool, b249⟩)])])⟩), ([0, 1], ⟨33, 3, (.data (.st [(.int .i64), (.int .i64), (.int .i64)]) ts250)⟩), ([0, 2], ⟨35, 5, (.data (.st [(.int .i64), (.int .i64), (.int .i64), (.int .i64), .bool]) ts251)⟩)] k = some true := by
  obtain ⟨d, rfl⟩ : ∃ e, d = e + 1 := ⟨d - 1, by omega⟩
  exact fn_ok (c := codeOf Try.f24) Try.func24 (by kernel_rfl) (rec := defers_row_api_Rec_putv1.calls) (fun g a h k hx => by
    cases hx) (loopf := defers_row_api_Rec_putv1.loops) (by
    have e : loopsOf (defers_row_api_Rec_putv1.loops) 0 (codeOf Try.f24) = [] := by kernel_rfl
    rw [e]
    intro p hp
    cases hp) ((defers_row_api_Rec_putv1.eq t248 b249 ts250 ts251 k).trans hx)
theorem defers_row_api_Rec_putv1.look (d : Nat) (hd : 1 ≤ d) {e : Option Bool} {g : FuncId} {a : List AV} {h : Heap} {k : KR} (hx : defers_row_api_Rec_putv1.get defers_row_api_Rec_putv1 e g a h k = some true) : e = some true ∨ callK Try.prog ht d g a h k = some true := by
  unfold defers_row_api_Rec_putv1.get at hx
  split at hx
  · exact .inr (defers_row_api_Rec_putv1.ok d hd _ _ _ _ _ hx)
  · exact .inl hx
/-- function 11: (*sheerleg/defers.List).Put -/
noncomputable def defers_List_Putv1.body (defers_List_nonev1 : Bool → (List (Int × Int × Int × Unit)) → (List (Int × Int × Int × Int × Bool × Unit)) → (Bool → Bool → (List (Int × Int × Int × Unit)) → (List (Int × Int × Int × Int × Bool × Unit)) → Option Bool) → Option Bool) (defers_List_Lenv1 : Bool → (List (Int × Int × Int × Unit)) → (List (Int × Int × Int × Int × Bool × Unit)) → (Int → Bool → (List (Int × Int × Int × Unit)) → (List (Int × Int × Int × Int × Bool × Unit)) → Option Bool) → Option Bool) (defers_row_api_Rec_putv1 : (Int × Int × Int × Unit) → Bool → (List (Int × Int × Int × Unit)) → (List (Int × Int × Int × Int × Bool × Unit)) → (Bool → (List (Int × Int × Int × Int × Bool × Unit)) → (List (Int × Int × Int × Unit)) → Option Bool) → Option Bool) (t236 : Int × Int × Int × Unit) (b237 : Bool) (ts238 : List (Int × Int × Int × Unit)) (ts239 : List (Int × Int × Int × Int × Bool × Unit)) (k1 : Bool → Bool → (List (Int × Int × Int × Unit)) → (List (Int × Int × Int × Int × Bool × Unit)) → Option Bool) (k2 : Bool → Bool → (List (Int × Int × Int × Int × Bool × Unit)) → (List (Int × Int × Int × Unit)) → Option Bool) : Option Bool :=
  (defers_List_nonev1 b237 ts238 ts239
  (fun b240 b241 ts242 ts243 => (cond_ (! b240) (defers_List_Lenv1 b241 ts242 ts243
  (fun n244 b245 ts246 ts247 => (cond_ (decide (n244 ≥ (32 : Int))) (k1 false b245 ts246 ts247) (defers_row_api_Rec_putv1 t236 b245 ts246 ts247
  (fun b252 ts253 ts254 => (k2 true b252 ts253 ts254)))))) (k1 false b241 ts242 ts243))))
noncomputable def defers_List_Putv1 (t236 : Int × Int × Int × Unit) (b237 : Bool) (ts238 : List (Int × Int × Int × Unit)) (ts239 : List (Int × Int × Int × Int × Bool × Unit)) (k1 : Bool → Bool → (List (Int × Int × Int × Unit)) → (List (Int × Int × Int × Int × Bool × Unit)) → Option Bool) (k2 : Bool → Bool → (List (Int × Int × Int × Int × Bool × Unit)) → (List (Int × Int × Int × Unit)) → Option Bool) : Option Bool := defers_List_Putv1.body defers_List_nonev1 defers_List_Lenv1 defers_row_api_Rec_putv1 t236 b237 ts238 ts239 k1 k2
noncomputable def defers_List_Putv1.get (F : (Int × Int × Int × Unit) → Bool → (List (Int × Int × Int × Unit)) → (List (Int × Int × Int × Int × Bool × Unit)) → (Bool → Bool → (List (Int × Int × Int × Unit)) → (List (Int × Int × Int × Int × Bool × Unit)) → Option Bool) → (Bool → Bool → (List (Int × Int × Int × Int × Bool × Unit)) → (List (Int × Int × Int × Unit)) → Option Bool) → Option Bool) (e : Option Bool) (g : FuncId) (a : List AV) (h : Heap) (k : KR) : Option Bool := match g, a, h with
  | 11, [(.ptr [0, 0] 0 0), (.d ⟨(.st [(.int .i64), (.int .i64), (.int .i64)]), t236⟩)], [([0, 0], ⟨52, 3, (.mix [(.agg [(.ref [0, 1]), (.ref [0, 2]), (.d ⟨.bool, b237⟩)])])⟩), ([0, 1], ⟨33, 3, (.data (.st [(.int .i64), (.int .i64), (.int .i64)]) ts238)⟩), ([0, 2], ⟨35, 5, (.data (.st [(.int .i64), (.int .i64), (.int .i64), (.int .i64), .bool]) ts239)⟩)] => F t236 b237 ts238 ts239 (fun y0 y1 y2 y3 => k (.d ⟨.bool, y0⟩) [([0, 0], ⟨52, 3, (.mix [(.agg [(.ref [0, 1]), (.ref [0, 2]), (.d ⟨.bool, y1⟩)])])⟩), ([0, 1], ⟨33, 3, (.data (.st [(.int .i64), (.int .i64), (.int .i64)]) y2)⟩), ([0, 2], ⟨35, 5, (.data (.st [(.int .i64), (.int .i64), (.int .i64), (.int .i64), .bool]) y3)⟩)]) (fun y0 y1 y2 y3 => k (.d ⟨.bool, y0⟩) [([0, 0], ⟨52, 3, (.mix [(.agg [(.ref [1, 0]), (.ref [0, 2]), (.d ⟨.bool, y1⟩)])])⟩), ([0, 2], ⟨35, 5, (.data (.st [(.int .i64), (.int .i64), (.int .i64), (.int .i64), .bool]) y2)⟩), ([1, 0], ⟨33, 3, (.data (.st [(.int .i64), (.int .i64), (.int .i64)]) y3)⟩)])
  | _, _, _ => e
noncomputable def defers_List_Putv1.calls (F0 : Bool → (List (Int × Int × Int × Unit)) → (List (Int × Int × Int × Int × Bool × Unit)) → (Bool → Bool → (List (Int × Int × Int × Unit)) → (List (Int × Int × Int × Int × Bool × Unit)) → Option Bool) → Option Bool) (F1 : Bool → (List (Int × Int × Int × Unit)) → (List (Int × Int × Int × Int × Bool × Unit)) → (Int → Bool → (List (Int × Int × Int × Unit)) → (List (Int × Int × Int × Int × Bool × Unit)) → Option Bool) → Option Bool) (F2 : (Int × Int × Int × Unit) → Bool → (List (Int × Int × Int × Unit)) → (List (Int × Int × Int × Int × Bool × Unit)) → (Bool → (List (Int × Int × Int × Int × Bool × Unit)) → (List (Int × Int × Int × Unit)) → Option Bool) → Option Bool) : RecF := fun g a h k => (defers_List_nonev1.get F0 (defers_List_Lenv1.get F1 (defers_row_api_Rec_putv1.get F2 none g a h k) g a h k) g a h k)
noncomputable def defers_List_Putv1.loops : LoopF := fun b => none
set_option maxRecDepth 100000 in
theorem defers_List_Putv1.eq (F0 : Bool → (List (Int × Int × Int × Unit)) → (List (Int × Int × Int × Int × Bool × Unit)) → (Bool → Bool → (List (Int × Int × Int × Unit)) → (List (Int × Int × Int × Int × Bool × Unit)) → Option Bool) → Option Bool) (F1 : Bool → (List (Int × Int × Int × Unit)) → (List (Int × Int × Int × Int × Bool × Unit)) → (Int → Bool → (List (Int × Int × Int × Unit)) → (List (Int × Int × Int × Int × Bool × Unit)) → Option Bool) → Option Bool) (F2 : (Int × Int × Int × Unit) → Bool → (List (Int × Int × Int × Unit)) → (List (Int × Int × Int × Int × Bool × Unit)) → (Bool → (List (Int × Int × Int × Int × Bool × Unit)) → (List (Int × Int × Int × Unit)) → Option Bool) → Option Bool) (t236 : Int × Int × Int × Unit) (b237 : Bool) (ts238 : List (Int × Int × Int × Unit)) (ts239 : List (Int × Int × Int × Int × Bool × Unit)) (k : KR) : execL Try.prog ht 11 (callfOf (defers_List_Putv1.calls F0 F1 F2)) (defers_List_Putv1.loops) 0 (codeOf Try.f11) ⟨[(.ptr [0, 0] 0 0), (.d ⟨(.st [(.int .i64), (.int .i64), (.int .i64)]), t236⟩)] ++ List.replicate (Try.f11.ntmps - ([(.ptr [0, 0] 0 0), (.d ⟨(.st [(.int .i64), (.int .i64), (.int .i64)]), t236⟩)] : List AV).length) .undef, [([0, 0], ⟨52, 3, (.mix [(.agg [(.ref [0, 1]), (.ref [0, 2]), (.d ⟨.bool, b237⟩)])])⟩), ([0, 1], ⟨33, 3, (.data (.st [(.int .i64), (.int .i64), (.int .i64)]) ts238)⟩), ([0, 2], ⟨35, 5, (.data (.st [(.int .i64), (.int .i64), (.int .i64), (.int .i64), .bool]) ts239)⟩)], 2⟩ (leave Try.prog Try.f11 k) = defers_List_Putv1.body F0 F1 F2 t236 b237 ts238 ts239 (fun y0 y1 y2 y3 => k (.d ⟨.bool, y0⟩) [([0, 0], ⟨52, 3, (.mix [(.agg [(.ref [0, 1]), (.ref [0, 2]), (.d ⟨.bool, y1⟩)])])⟩), ([0, 1], ⟨33, 3, (.data (.st [(.int .i64), (.int .i64), (.int .i64)]) y2)⟩), ([0, 2], ⟨35, 5, (.data (.st [(.int .i64), (.int .i64), (.int .i64), (.int .i64), .bool]) y3)⟩)]) (fun y0 y1 y2 y3 => k (.d ⟨.bool, y0⟩) [([0, 0], ⟨52, 3, (.mix [(.agg [(.ref [1, 0]), (.ref [0, 2]), (.d ⟨.bool, y1⟩)])])⟩), ([0, 2], ⟨35, 5, (.data (.st [(.int .i64), (.int .i64), (.int .i64), (.int .i64), .bool]) y2)⟩), ([1, 0], ⟨33, 3, (.data (.st [(.int .i64), (.int .i64), (.int .i64)]) y3)⟩)]) := by kernel_rfl
theorem defers_List_Putv1.ok (d : Nat) (hd : 3 ≤ d) (t236 : Int × Int × Int × Unit) (b237 : Bool) (ts238 : List (Int × Int × Int × Unit)) (ts239 : List (Int × Int × Int × Int × Bool × Unit)) (k : KR) (hx : defers_List_Putv1 t236 b237 ts238 ts239 (fun y0 y1 y2 y3 => k (.d ⟨.bool, y0⟩) [([0, 0], ⟨52, 3, (.mix [(.agg [(.ref [0, 1]), (.ref [0, 2]), (.d ⟨.bool, y1⟩)])])⟩), ([0, 1], ⟨33, 3, (.data (.st [(.int .i64), (.int .i64), (.int .i64)]) y2)⟩), ([0, 2], ⟨35, 5, (.data (.st [(.int .i64), (.int .i64), (.int .i64), (.int .i64), .bool]) y3)⟩)]) (fun y0 y1 y2 y3 => k (.d ⟨.bool, y0⟩) [([0, 0], ⟨52, 3, (.mix [(.agg [(.ref [1, 0]), (.ref [0, 2]), (.d ⟨.bool, y1⟩)])])⟩), ([0, 2], ⟨35, 5, (.data (.st [(.int .i64), (.int .i64), (.int .i64), (.int .i64), .bool]) y2)⟩), ([1, 0], ⟨33, 3, (.data (.st [(.int .i64), (.int .i64), (.int .i64)]) y3)⟩)]) = some true) : callK Try.prog ht d 11 [(.ptr [0, 0] 0 0), (.d ⟨(.st [(.int .i64), (.int .i64), (.int .i64)]), t236⟩)] [([0, 0], ⟨52, 3, (.mix [(.agg [(.ref [0, 1]), (.ref [0, 2]), (.d ⟨.bool, b237⟩)])])⟩), ([0, 1], ⟨33, 3, (.data (.st [(.int .i64), (.int .i64), (.int .i64)]) ts238)⟩), ([0, 2], ⟨35, 5, (.data (.st [(.int .i64), (.int .i64), (.int .i64), (.int .i64), .bool]) ts239)⟩)] k = some true := by
  obtain ⟨d, rfl⟩ : ∃ e, d = e + 1 := ⟨d - 1, by omega⟩
  exact fn_ok (c := codeOf Try.f11) Try.func11 (by kernel_rfl) (rec := defers_List_Putv1.calls defers_List_nonev1 defers_List_Lenv1 defers_row_api_Rec_putv1) (fun g a h k hx => by
    rcases defers_List_nonev1.look d (by omega) hx with hx | hx
    rotate_left
    · exact hx
    rcases defers_List_Lenv1.look d (by omega) hx with hx | hx
    rotate_left
    · exact hx
    rcases defers_row_api_Rec_putv1.look d (by omega) hx with hx | hx
    rotate_left
    · exact hx
    cases hx) (loopf := defers_List_Putv1.loops) (by
    have e : loopsOf (defers_List_Putv1.loops) 0 (codeOf Try.f11) = [] := by kernel_rfl
    rw [e]
    intro p hp
    cases hp) ((defers_List_Putv1.eq defers_List_nonev1 defers_List_Lenv1 defers_row_api_Rec_putv1 t236 b237 ts238 ts239 k).trans hx)
theorem defers_List_Putv1.look (d : Nat) (hd : 3 ≤ d) {e : Option Bool} {g : FuncId} {a : List AV} {h : Heap} {k : KR} (hx : defers_List_Putv1.get defers_List_Putv1 e g a h k = some true) : e = some true ∨ callK Try.prog ht d g a h k = some true := by
  unfold defers_List_Putv1.get at hx
  split at hx
  · exact .inr (defers_List_Putv1.ok d hd _ _ _ _ _ hx)
  · exact .inl hx
/-- function 18: sheerleg/sheerlegref40.Take -/
noncomputable def ref40_Takev1.body (t263 : (List (Int × Int × Int × Unit)) × (List (Int × Int × Int × Int × Bool × Unit)) × Unit) (n264 : Int) (k1 : ((List (Int × Int × Int × Unit)) × (List (Int × Int × Int × Int × Bool × Unit)) × Unit) → (Int × Int × Int × Unit) → Bool → Option Bool) : Option Bool :=
  (cond_ (! ((((List.length t263.1) : Nat) : Int) == (0 : Int))) (cond_ ((decide ((0 : Int) ≤ (IntKind.wrap .i64 ((((List.length t263.1) : Nat) : Int) - (1 : Int))))) && (decide ((IntKind.wrap .i64 ((((List.length t263.1) : Nat) : Int) - (1 : Int))) < (((List.length t263.1) : Nat) : Int)))) (cond_ ((List.getD t263.1 (Int.toNat (IntKind.wrap .i64 ((((List.length t263.1) : Nat) : Int) - (1 : Int)))) ((0 : Int), ((0 : Int), ((0 : Int), ())))).1 != n264) (k1 (t263.1, (t263.2.1, ())) ((0 : Int), ((0 : Int), ((0 : Int), ()))) false) (cond_ ((decide ((0 : Int) ≤ (IntKind.wrap .i64 ((((List.length t263.1) : Nat) : Int) - (1 : Int))))) && (decide ((IntKind.wrap .i64 ((((List.length t263.1) : Nat) : Int) - (1 : Int))) < (((List.length t263.1) : Nat) : Int)))) (cond_ ((true && (decide ((0 : Int) ≤ (IntKind.wrap .i64 ((((List.length t263.1) : Nat) : Int) - (1 : Int)))))) && (decide ((IntKind.wrap .i64 ((((List.length t263.1) : Nat) : Int) - (1 : Int))) ≤ (((List.length t263.1) : Nat) : Int)))) (k1 (((List.take (Int.toNat ((IntKind.wrap .i64 ((((List.length t263.1) : Nat) : Int) - (1 : Int))) - (0 : Int))) (List.drop (0 : Nat) t263.1)), (t263.2.1, ())).1, (((List.take (Int.toNat ((IntKind.wrap .i64 ((((List.length t263.1) : Nat) : Int) - (1 : Int))) - (0 : Int))) (List.drop (0 : Nat) t263.1)), (t263.2.1, ())).2.1, ())) (List.getD t263.1 (Int.toNat (IntKind.wrap .i64 ((((List.length t263.1) : Nat) : Int) - (1 : Int)))) ((0 : Int), ((0 : Int), ((0 : Int), ())))) true) none) none)) none) (k1 (t263.1, (t263.2.1, ())) ((0 : Int), ((0 : Int), ((0 : Int), ()))) false))
noncomputable def ref40_Takev1 (t263 : (List (Int × Int × Int × Unit)) × (List (Int × Int × Int × Int × Bool × Unit)) × Unit) (n264 : Int) (k1 : ((List (Int × Int × Int × Unit)) × (List (Int × Int × Int × Int × Bool × Unit)) × Unit) → (Int × Int × Int × Unit) → Bool → Option Bool) : Option Bool := ref40_Takev1.body t263 n264 k1
noncomputable def ref40_Takev1.get (F : ((List (Int × Int × Int × Unit)) × (List (Int × Int × Int × Int × Bool × Unit)) × Unit) → Int → (((List (Int × Int × Int × Unit)) × (List (Int × Int × Int × Int × Bool × Unit)) × Unit) → (Int × Int × Int × Unit) → Bool → Option Bool) → Option Bool) (e : Option Bool) (g : FuncId) (a : List AV) (h : Heap) (k : KR) : Option Bool := match g, a, h with
  | 18, [(.d ⟨(.st [(.sl 33 (.st [(.int .i64), (.int .i64), (.int .i64)])), (.sl 35 (.st [(.int .i64), (.int .i64), (.int .i64), (.int .i64), .bool]))]), t263⟩), (.d ⟨(.int .i64), n264⟩)], [] => F t263 n264 (fun y0 y1 y2 => k (.tup [(.d ⟨(.st [(.sl 33 (.st [(.int .i64), (.int .i64), (.int .i64)])), (.sl 35 (.st [(.int .i64), (.int .i64), (.int .i64), (.int .i64), .bool]))]), y0⟩), (.d ⟨(.st [(.int .i64), (.int .i64), (.int .i64)]), y1⟩), (.d ⟨.bool, y2⟩)]) [])
  | _, _, _ => e
noncomputable def ref40_Takev1.calls : RecF := fun g a h k => none
noncomputable def ref40_Takev1.loops : LoopF := fun b => none
set_option maxRecDepth 100000 in
theorem ref40_Takev1.eq (t263 : (List (Int × Int × Int × Unit)) × (List (Int × Int × Int × Int × Bool × Unit)) × Unit) (n264 : Int) (k : KR) : execL Try.prog ht 18 (callfOf (ref40_Takev1.calls)) (ref40_Takev1.loops) 0 (codeOf Try.f18) ⟨[(.d ⟨(.st [(.sl 33 (.st [(.int .i64), (.int .i64), (.int .i64)])), (.sl 35 (.st [(.int .i64), (.int .i64), (.int .i64), (.int .i64), .bool]))]), t263⟩), (.d ⟨(.int .i64), n264⟩)] ++ List.replicate (Try.f18.ntmps - ([(.d ⟨(.st [(.sl 33 (.st [(.int .i64), (.int .i64), (.int .i64)])), (.sl 35 (.st [(.int .i64), (.int .i64), (.int .i64), (.int .i64), .bool]))]), t263⟩), (.d ⟨(.int .i64), n264⟩)] : List AV).length) .undef, [], 2⟩ (leave Try.prog Try.f18 k) = ref40_Takev1.body t263 n264 (fun y0 y1 y2 => k (.tup [(.d ⟨(.st [(.sl 33 (.st [(.int .i64), (.int .i64), (.int .i64)])), (.sl 35 (.st [(.int .i64), (.int .i64), (.int .i64), (.int .i64), .bool]))]), y0⟩), (.d ⟨(.st [(.int .i64), (.int .i64), (.int .i64)]), y1⟩), (.d ⟨.bool, y2⟩)]) []) := by kernel_rfl
theorem ref40_Takev1.ok (d : Nat) (hd : 1 ≤ d) (t263 : (List (Int × Int × Int × Unit)) × (List (Int × Int × Int × Int × Bool × Unit)) × Unit) (n264 : Int) (k : KR) (hx : ref40_Takev1 t263 n264 (fun y0 y1 y2 => k (.tup [(.d ⟨(.st [(.sl 33 (.st [(.int .i64), (.int .i64), (.int .i64)])), (.sl 35 (.st [(.int .i64), (.int .i64), (.int .i64), (.int .i64), .bool]))]), y0⟩), (.d ⟨(.st [(.int .i64), (.int .i64), (.int .i64)]), y1⟩), (.d ⟨.bool, y2⟩)]) []) = some true) : callK Try.prog ht d 18 [(.d ⟨(.st [(.sl 33 (.st [(.int .i64), (.int .i64), (.int .i64)])), (.sl 35 (.st [(.int .i64), (.int .i64), (.int .i64), (.int .i64), .bool]))]), t263⟩), (.d ⟨(.int .i64), n264⟩)] [] k = some true := by
  obtain ⟨d, rfl⟩ : ∃ e, d = e + 1 := ⟨d - 1, by omega⟩
  exact fn_ok (c := codeOf Try.f18) Try.func18 (by kernel_rfl) (rec := ref40_Takev1.calls) (fun g a h k hx => by
    cases hx) (loopf := ref40_Takev1.loops) (by
    have e : loopsOf (ref40_Takev1.loops) 0 (codeOf Try.f18) = [] := by kernel_rfl
    rw [e]
    intro p hp
    cases hp) ((ref40_Takev1.eq t263 n264 k).trans hx)
theorem ref40_Takev1.look (d : Nat) (hd : 1 ≤ d) {e : Option Bool} {g : FuncId} {a : List AV} {h : Heap} {k : KR} (hx : ref40_Takev1.get ref40_Takev1 e g a h k = some true) : e = some true ∨ callK Try.prog ht d g a h k = some true := by
  unfold ref40_Takev1.get at hx
  split at hx
  · exact .inr (ref40_Takev1.ok d hd _ _ _ hx)
  · exact .inl hx
/-- function 25: (*sheerleg/defers.row[sheerleg/api.Rec]).last -/
noncomputable def defers_row_api_Rec_lastv1.body (b276 : Bool) (ts277 : List (Int × Int × Int × Unit)) (ts278 : List (Int × Int × Int × Int × Bool × Unit)) (k1 : Bool → (List (Int × Int × Int × Unit)) → (List (Int × Int × Int × Int × Bool × Unit)) → Option Bool) (k2 : Nat → Bool → (List (Int × Int × Int × Unit)) → (List (Int × Int × Int × Int × Bool × Unit)) → Option Bool) : Option Bool :=
  (cond_ ((((List.length ts277) : Nat) : Int) == (0 : Int)) (k1 b276 ts277 ts278) (cond_ ((decide ((0 : Int) ≤ (IntKind.wrap .i64 ((((List.length ts277) : Nat) : Int) - (1 : Int))))) && (decide ((IntKind.wrap .i64 ((((List.length ts277) : Nat) : Int) - (1 : Int))) < (((List.length ts277) : Nat) : Int)))) (k2 (Int.toNat (IntKind.wrap .i64 ((((List.length ts277) : Nat) : Int) - (1 : Int)))) b276 ts277 ts278) none))
noncomputable def defers_row_api_Rec_lastv1 (b276 : Bool) (ts277 : List (Int × Int × Int × Unit)) (ts278 : List (Int × Int × Int × Int × Bool × Unit)) (k1 : Bool → (List (Int × Int × Int × Unit)) → (List (Int × Int × Int × Int × Bool × Unit)) → Option Bool) (k2 : Nat → Bool → (List (Int × Int × Int × Unit)) → (List (Int × Int × Int × Int × Bool × Unit)) → Option Bool) : Option Bool := defers_row_api_Rec_lastv1.body b276 ts277 ts278 k1 k2
noncomputable def defers_row_api_Rec_lastv1.get (F : Bool → (List (Int × Int × Int × Unit)) → (List (Int × Int × Int × Int × Bool × Unit)) → (Bool → (List (Int × Int × Int × Unit)) → (List (Int × Int × Int × Int × Bool × Unit)) → Option Bool) → (Nat → Bool → (List (Int × Int × Int × Unit)) → (List (Int × Int × Int × Int × Bool × Unit)) → Option Bool) → Option Bool) (e : Option Bool) (g : FuncId) (a : List AV) (h : Heap) (k : KR) : Option Bool := match g, a, h with
  | 25, [(.ptr [0, 0] 0 0)], [([0, 0], ⟨52, 3, (.mix [(.agg [(.ref [0, 1]), (.ref [0, 2]), (.d ⟨.bool, b276⟩)])])⟩), ([0, 1], ⟨33, 3, (.data (.st [(.int .i64), (.int .i64), (.int .i64)]) ts277)⟩), ([0, 2], ⟨35, 5, (.data (.st [(.int .i64), (.int .i64), (.int .i64), (.int .i64), .bool]) ts278)⟩)] => F b276 ts277 ts278 (fun y0 y1 y2 => k .nilp [([0, 0], ⟨52, 3, (.mix [(.agg [(.ref [0, 1]), (.ref [0, 2]), (.d ⟨.bool, y0⟩)])])⟩), ([0, 1], ⟨33, 3, (.data (.st [(.int .i64), (.int .i64), (.int .i64)]) y1)⟩), ([0, 2], ⟨35, 5, (.data (.st [(.int .i64), (.int .i64), (.int .i64), (.int .i64), .bool]) y2)⟩)]) (fun y0 y1 y2 y3 => k (.ptr [0, 1] y0 0) [([0, 0], ⟨52, 3, (.mix [(.agg [(.ref [0, 1]), (.ref [0, 2]), (.d ⟨.bool, y1⟩)])])⟩), ([0, 1], ⟨33, 3, (.data (.st [(.int .i64), (.int .i64), (.int .i64)]) y2)⟩), ([0, 2], ⟨35, 5, (.data (.st [(.int .i64), (.int .i64), (.int .i64), (.int .i64), .bool]) y3)⟩)])
  | _, _, _ => e
noncomputable def defers_row_api_Rec_lastv1.calls : RecF := fun g a h k => none
noncomputable def defers_row_api_Rec_lastv1.loops : LoopF := fun b => none
set_option maxRecDepth 100000 in
theorem defers_row_api_Rec_lastv1.eq (b276 : Bool) (ts277 : List (Int × Int × Int × Unit)) (ts278 : List (Int × Int × Int × Int × Bool × Unit)) (k : KR) : execL Try.prog ht 25 (callfOf (defers_row_api_Rec_lastv1.calls)) (defers_row_api_Rec_lastv1.loops) 0 (codeOf Try.f25) ⟨[(.ptr [0, 0] 0 0)] ++ List.replicate (Try.f25.ntmps - ([(.ptr [0, 0] 0 0)] : List AV).length) .undef, [([0, 0], ⟨52, 3, (.mix [(.agg [(.ref [0, 1]), (.ref [0, 2]), (.d ⟨.bool, b276⟩)])])⟩), ([0, 1], ⟨33, 3, (.data (.st [(.int .i64), (.int .i64), (.int .i64)]) ts277)⟩), ([0, 2], ⟨35, 5, (.data (.st [(.int .i64), (.int .i64), (.int .i64), (.int .i64), .bool]) ts278)⟩)], 2⟩ (leave Try.prog Try.f25 k) = defers_row_api_Rec_lastv1.body b276 ts277 ts278 (fun y0 y1 y2 => k .nilp [([0, 0], ⟨52, 3, (.mix [(.agg [(.ref [0, 1]), (.ref [0, 2]), (.d ⟨.bool, y0⟩)])])⟩), ([0, 1], ⟨33, 3, (.data (.st [(.int .i64), (.int .i64), (.int .i64)]) y1)⟩), ([0, 2], ⟨35, 5, (.data (.st [(.int .i64), (.int .i64), (.int .i64), (.int .i64), .bool]) y2)⟩)]) (fun y0 y1 y2 y3 => k (.ptr [0, 1] y0 0) [([0, 0], ⟨52, 3, (.mix [(.agg [(.ref [0, 1]), (.ref [0, 2]), (.d ⟨.bool, y1⟩)])])⟩), ([0, 1], ⟨33, 3, (.data (.st [(.int .i64), (.int .i64), (.int .i64)]) y2)⟩), ([0, 2], ⟨35, 5, (.data (.st [(.int .i64), (.int .i64), (.int .i64), (.int .i64), .bool]) y3)⟩)]) := by kernel_rfl
theorem defers_row_api_Rec_lastv1.ok (d : Nat) (hd : 1 ≤ d) (b276 : Bool) (ts277 : List (Int × Int × Int × Unit)) (ts278 : List (Int × Int × Int × Int × Bool × Unit)) (k : KR) (hx : defers_row_api_Rec_lastv1 b276 ts277 ts278 (fun y0 y1 y2 => k .nilp [([0, 0], ⟨52, 3, (.mix [(.agg [(.ref [0, 1]), (.ref [0, 2]), (.d ⟨.bool, y0⟩)])])⟩), ([0, 1], ⟨33, 3, (.data (.st [(.int .i64), (.int .i64), (.int .i64)]) y1)⟩), ([0, 2], ⟨35, 5, (.data (.st [(.int .i64), (.int .i64), (.int .i64), (.int .i64), .bool]) y2)⟩)]) (fun y0 y1 y2 y3 => k (.ptr [0, 1] y0 0) [([0, 0], ⟨52, 3, (.mix [(.agg [(.ref [0, 1]), (.ref [0, 2]), (.d ⟨.bool, y1⟩)])])⟩), ([0, 1], ⟨33, 3, (.data (.st [(.int .i64), (.int .i64), (.int .i64)]) y2)⟩), ([0, 2], ⟨35, 5, (.data (.st [(.int .i64), (.int .i64), (.int .i64), (.int .i64), .bool]) y3)⟩)]) = some true) : callK Try.prog ht d 25 [(.ptr [0, 0] 0 0)] [([0, 0], ⟨52, 3, (.mix [(.agg [(.ref [0, 1]), (.ref [0, 2]), (.d ⟨.bool, b276⟩)])])⟩), ([0, 1], ⟨33, 3, (.data (.st [(.int .i64), (.int .i64), (.int .i64)]) ts277)⟩), ([0, 2], ⟨35, 5, (.data (.st [(.int .i64), (.int .i64), (.int .i64), (.int .i64), .bool]) ts278)⟩)] k = some true := by
  obtain ⟨d, rfl⟩ : ∃ e, d = e + 1 := ⟨d - 1, by omega⟩
  exact fn_ok (c := codeOf Try.f25) Try.func25 (by kernel_rfl) (rec := defers_row_api_Rec_lastv1.calls) (fun g a h k hx => by
    cases hx) (loopf := defers_row_api_Rec_lastv1.loops) (by
    have e : loopsOf (defers_row_api_Rec_lastv1.loops) 0 (codeOf Try.f25) = [] := by kernel_rfl
    rw [e]
    intro p hp
    cases hp) ((defers_row_api_Rec_lastv1.eq b276 ts277 ts278 k).trans hx)
theorem defers_row_api_Rec_lastv1.look (d : Nat) (hd : 1 ≤ d) {e : Option Bool} {g : FuncId} {a : List AV} {h : Heap} {k : KR} (hx : defers_row_api_Rec_lastv1.get defers_row_api_Rec_lastv1 e g a h k = some true) : e = some true ∨ callK Try.prog ht d g a h k = some true := by
  unfold defers_row_api_Rec_lastv1.get at hx
  split at hx
  · exact .inr (defers_row_api_Rec_lastv1.ok d hd _ _ _ _ hx)
  · exact .inl hx
/-- function 26: (*sheerleg/defers.row[sheerleg/api.Rec]).drop -/
noncomputable def defers_row_api_Rec_drop.body (b286 : Bool) (ts287 : List (Int × Int × Int × Unit)) (ts288 : List (Int × Int × Int × Int × Bool × Unit)) (k1 : Nat → Bool → (List (Int × Int × Int × Unit)) → (List (Int × Int × Int × Int × Bool × Unit)) → Option Bool) : Option Bool :=
  (cond_ ((true && (decide ((0 : Int) ≤ (IntKind.wrap .i64 ((((List.length ts287) : Nat) : Int) - (1 : Int)))))) && (decide ((IntKind.wrap .i64 ((((List.length ts287) : Nat) : Int) - (1 : Int))) ≤ (((List.length ts287) : Nat) : Int)))) (k1 (Int.toNat ((IntKind.wrap .i64 ((((List.length ts287) : Nat) : Int) - (1 : Int))) - (0 : Int))) b286 ts287 ts288) none)
noncomputable def defers_row_api_Rec_drop (b286 : Bool) (ts287 : List (Int × Int × Int × Unit)) (ts288 : List (Int × Int × Int × Int × Bool × Unit)) (k1 : Nat → Bool → (List (Int × Int × Int × Unit)) → (List (Int × Int × Int × Int × Bool × Unit)) → Option Bool) : Option Bool := defers_row_api_Rec_drop.body b286 ts287 ts288 k1
noncomputable def defers_row_api_Rec_drop.get (F : Bool → (List (Int × Int × Int × Unit)) → (List (Int × Int × Int × Int × Bool × Unit)) → (Nat → Bool → (List (Int × Int × Int × Unit)) → (List (Int × Int × Int × Int × Bool × Unit)) → Option Bool) → Option Bool) (e : Option Bool) (g : FuncId) (a : List AV) (h : Heap) (k : KR) : Option Bool := match g, a, h with
  | 26, [(.ptr [0, 0] 0 0)], [([0, 0], ⟨52, 3, (.mix [(.agg [(.ref [0, 1]), (.ref [0, 2]), (.d ⟨.bool, b286⟩)])])⟩), ([0, 1], ⟨33, 3, (.data (.st [(.int .i64), (.int .i64), (.int .i64)]) ts287)⟩), ([0, 2], ⟨35, 5, (.data (.st [(.int .i64), (.int .i64), (.int .i64), (.int .i64), .bool]) ts288)⟩)] => F b286 ts287 ts288 (fun y0 y1 y2 y3 => k (.tup []) [([0, 0], ⟨52, 3, (.mix [(.agg [(.cut [0, 1] 0 y0), (.ref [0, 2]), (.d ⟨.bool, y1⟩)])])⟩), ([0, 1], ⟨33, 3, (.data (.st [(.int .i64), (.int .i64), (.int .i64)]) y2)⟩), ([0, 2], ⟨35, 5, (.data (.st [(.int .i64), (.int .i64), (.int .i64), (.int .i64), .bool]) y3)⟩)])
  | _, _, _ => e
noncomputable def defers_row_api_Rec_drop.calls : RecF := fun g a h k => none
noncomputable def defers_row_api_Rec_drop.loops : LoopF := fun b => none
set_option maxRecDepth 100000 in
theorem defers_row_api_Rec_drop.eq (b286 : Bool) (ts287 : List (Int × Int × Int × Unit)) (ts288 : List (Int × Int × Int × Int × Bool × Unit)) (k : KR) : execL Try.prog ht 26 (callfOf (defers_row_api_Rec_drop.calls)) (defers_row_api_Rec_drop.loops) 0 (codeOf Try.f26) ⟨[(.ptr [0, 0] 0 0)] ++ List.replicate (Try.f26.ntmps - ([(.ptr [0, 0] 0 0)] : List AV).length) .undef, [([0, 0], ⟨52, 3, (.mix [(.agg [(.ref [0, 1]), (.ref [0, 2]), (.d ⟨.bool, b286⟩)])])⟩), ([0, 1], ⟨33, 3, (.data (.st [(.int .i64), (.int .i64), (.int .i64)]) ts287)⟩), ([0, 2], ⟨35, 5, (.data (.st [(.int .i64), (.int .i64), (.int .i64), (.int .i64), .bool]) ts288)⟩)], 2⟩ (leave Try.prog Try.f26 k) = defers_row_api_Rec_drop.body b286 ts287 ts288 (fun y0 y1 y2 y3 => k (.tup []) [([0, 0], ⟨52, 3, (.mix [(.agg [(.cut [0, 1] 0 y0), (.ref [0, 2]), (.d ⟨.bool, y1⟩)])])⟩), ([0, 1], ⟨33, 3, (.data (.st [(.int .i64), (.int .i64), (.int .i64)]) y2)⟩), ([0, 2], ⟨35, 5, (.data (.st [(.int .i64), (.int .i64), (.int .i64), (.int .i64), .bool]) y3)⟩)]) := by kernel_rfl
theorem defers_row_api_Rec_drop.ok (d : Nat) (hd : 1 ≤ d) (b286 : Bool) (ts287 : List (Int × Int × Int × Unit)) (ts288 : List (Int × Int × Int × Int × Bool × Unit)) (k : KR) (hx : defers_row_api_Rec_drop b286 ts287 ts288 (fun y0 y1 y2 y3 => k (.tup []) [([0, 0], ⟨52, 3, (.mix [(.agg [(.cut [0, 1] 0 y0), (.ref [0, 2]), (.d ⟨.bool, y1⟩)])])⟩), ([0, 1], ⟨33, 3, (.data (.st [(.int .i64), (.int .i64), (.int .i64)]) y2)⟩), ([0, 2], ⟨35, 5, (.data (.st [(.int .i64), (.int .i64), (.int .i64), (.int .i64), .bool]) y3)⟩)]) = some true) : callK Try.prog ht d 26 [(.ptr [0, 0] 0 0)] [([0, 0], ⟨52, 3, (.mix [(.agg [(.ref [0, 1]), (.ref [0, 2]), (.d ⟨.bool, b286⟩)])])⟩), ([0, 1], ⟨33, 3, (.data (.st [(.int .i64), (.int .i64), (.int .i64)]) ts287)⟩), ([0, 2], ⟨35, 5, (.data (.st [(.int .i64), (.int .i64), (.int .i64), (.int .i64), .bool]) ts288)⟩)] k = some true := by
  obtain ⟨d, rfl⟩ : ∃ e, d = e + 1 := ⟨d - 1, by omega⟩
  exact fn_ok (c := codeOf Try.f26) Try.func26 (by kernel_rfl) (rec := defers_row_api_Rec_drop.calls) (fun g a h k hx => by
    cases hx) (loopf := defers_row_api_Rec_drop.loops) (by
    have e : loopsOf (defers_row_api_Rec_drop.loops) 0 (codeOf Try.f26) = [] := by kernel_rfl
    rw [e]
    intro p hp
    cases hp) ((defers_row_api_Rec_drop.eq b286 ts287 ts288 k).trans hx)
theorem defers_row_api_Rec_drop.look (d : Nat) (hd : 1 ≤ d) {e : Option Bool} {g : FuncId} {a : List AV} {h : Heap} {k : KR} (hx : defers_row_api_Rec_drop.get defers_row_api_Rec_drop e g a h k = some true) : e = some true ∨ callK Try.prog ht d g a h k = some true := by
  unfold defers_row_api_Rec_drop.get at hx
  split at hx
  · exact .inr (defers_row_api_Rec_drop.ok d hd _ _ _ _ hx)
  · exact .inl hx
/-- function 12: (*sheerleg/defers.List).Take -/
noncomputable def defers_List_Take.body (defers_List_nonev1 : Bool → (List (Int × Int × Int × Unit)) → (List (Int × Int × Int × Int × Bool × Unit)) → (Bool → Bool → (List (Int × Int × Int × Unit)) → (List (Int × Int × Int × Int × Bool × Unit)) → Option Bool) → Option Bool) (defers_row_api_Rec_lastv1 : Bool → (List (Int × Int × Int × Unit)) → (List (Int × Int × Int × Int × Bool × Unit)) → (Bool → (List (Int × Int × Int × Unit)) → (List (Int × Int × Int × Int × Bool × Unit)) → Option Bool) → (Nat → Bool → (List (Int × Int × Int × Unit)) → (List (Int × Int × Int × Int × Bool × Unit)) → Option Bool) → Option Bool) (defers_row_api_Rec_drop : Bool → (List (Int × Int × Int × Unit)) → (List (Int × Int × Int × Int × Bool × Unit)) → (Nat → Bool → (List (Int × Int × Int × Unit)) → (List (Int × Int × Int × Int × Bool × Unit)) → Option Bool) → Option Bool) (n320 : Int) (b321 : Bool) (ts322 : List (Int × Int × Int × Unit)) (ts323 : List (Int × Int × Int × Int × Bool × Unit)) (k1 : (Int × Int × Int × Unit) → Bool → Bool → (List (Int × Int × Int × Unit)) → (List (Int × Int × Int × Int × Bool × Unit)) → Option Bool) (k2 : (Int × Int × Int × Unit) → Bool → Bool → (List (Int × Int × Int × Int × Bool × Unit)) → (List (Int × Int × Int × Unit)) → Option Bool) : Option Bool :=
  (defers_List_nonev1 b321 ts322 ts323
  (fun b324 b325 ts326 ts327 => (cond_ b324 (k1 ((0 : Int), ((0 : Int), ((0 : Int), ()))) false b325 ts326 ts327) (defers_row_api_Rec_lastv1 b325 ts326 ts327
  (fun b328 ts329 ts330 => (k1 ((0 : Int), ((0 : Int), ((0 : Int), ()))) false b328 ts329 ts330))
  (fun m331 b332 ts333 ts334 => (cond_ ((List.getD ts333 m331 ((0 : Int), ((0 : Int), ((0 : Int), ())))).1 != n320) (k1 ((0 : Int), ((0 : Int), ((0 : Int), ()))) false b332 ts333 ts334) (defers_row_api_Rec_drop b332 ts333 ts334
  (fun m335 b336 ts337 ts338 => (k2 (List.getD ts333 m331 ((0 : Int), ((0 : Int), ((0 : Int), ())))) true b336 ts338 (List.take m335 ts337))))))))))
noncomputable def defers_List_Take (n320 : Int) (b321 : Bool) (ts322 : List (Int × Int × Int × Unit)) (ts323 : List (Int × Int × Int × Int × Bool × Unit)) (k1 : (Int × Int × Int × Unit) → Bool → Bool → (List (Int × Int × Int × Unit)) → (List (Int × Int × Int × Int × Bool × Unit)) → Option Bool) (k2 : (Int × Int × Int × Unit) → Bool → Bool → (List (Int × Int × Int × Int × Bool × Unit)) → (List (Int × Int × Int × Unit)) → Option Bool) : Option Bool := defers_List_Take.body defers_List_nonev1 defers_row_api_Rec_lastv1 defers_row_api_Rec_drop n320 b321 ts322 ts323 k1 k2
noncomputable def defers_List_Take.get (F : Int → Bool → (List (Int × Int × Int × Unit)) → (List (Int × Int × Int × Int × Bool × Unit)) → ((Int × Int × Int × Unit) → Bool → Bool → (List (Int × Int × Int × Unit)) → (List (Int × Int × Int × Int × Bool × Unit)) → Option Bool) → ((Int × Int × Int × Unit) → Bool → Bool → (List (Int × Int × Int × Int × Bool × Unit)) → (List (Int × Int × Int × Unit)) → Option Bool) → Option Bool) (e : Option Bool) (g : FuncId) (a : List AV) (h : Heap) (k : KR) : Option Bool := match g, a, h with
  | 12, [(.ptr [0, 0] 0 0), (.d ⟨(.int .i64), n320⟩)], [([0, 0], ⟨52, 3, (.mix [(.agg [(.ref [0, 1]), (.ref [0, 2]), (.d ⟨.bool, b321⟩)])])⟩), ([0, 1], ⟨33, 3, (.data (.st [(.int .i64), (.int .i64), (.int .i64)]) ts322)⟩), ([0, 2], ⟨35, 5, (.data (.st [(.int .i64), (.int .i64), (.int .i64), (.int .i64), .bool]) ts323)⟩)] => F n320 b321 ts322 ts323 (fun y0 y1 y2 y3 y4 => k (.tup [(.d ⟨(.st [(.int .i64), (.int .i64), (.int .i64)]), y0⟩), (.d ⟨.bool, y1⟩)]) [([0, 0], ⟨52, 3, (.mix [(.agg [(.ref [0, 1]), (.ref [0, 2]), (.d ⟨.bool, y2⟩)])])⟩), ([0, 1], ⟨33, 3, (.data (.st [(.int .i64), (.int .i64), (.int .i64)]) y3)⟩), ([0, 2], ⟨35, 5, (.data (.st [(.int .i64), (.int .i64), (.int .i64), (.int .i64), .bool]) y4)⟩)]) (fun y0 y1 y2 y3 y4 => k (.tup [(.d ⟨(.st [(.int .i64), (.int .i64), (.int .i64)]), y0⟩), (.d ⟨.bool, y1⟩)]) [([0, 0], ⟨52, 3, (.mix [(.agg [(.ref [1, 0]), (.ref [0, 2]), (.d ⟨.bool, y2⟩)])])⟩), ([0, 2], ⟨35, 5, (.data (.st [(.int .i64), (.int .i64), (.int .i64), (.int .i64), .bool]) y3)⟩), ([1, 0], ⟨33, 3, (.data (.st [(.int .i64), (.int .i64), (.int .i64)]) y4)⟩)])
  | _, _, _ => e
noncomputable def defers_List_Take.calls (F0 : Bool → (List (Int × Int × Int × Unit)) → (List (Int × Int × Int × Int × Bool × Unit)) → (Bool → Bool → (List (Int × Int × Int × Unit)) → (List (Int × Int × Int × Int × Bool × Unit)) → Option Bool) → Option Bool) (F1 : Bool → (List (Int × Int × Int × Unit)) → (List (Int × Int × Int × Int × Bool × Unit)) → (Bool → (List (Int × Int × Int × Unit)) → (List (Int × Int × Int × Int × Bool × Unit)) → Option Bool) → (Nat → Bool → (List (Int × Int × Int × Unit)) → (List (Int × Int × Int × Int × Bool × Unit)) → Option Bool) → Option Bool) (F2 : Bool → (List (Int × Int × Int × Unit)) → (List (Int × Int × Int × Int × Bool × Unit)) → (Nat → Bool → (List (Int × Int × Int × Unit)) → (List (Int × Int × Int × Int × Bool × Unit)) → Option Bool) → Option Bool) : RecF := fun g a h k => (defers_List_nonev1.get F0 (defers_row_api_Rec_lastv1.get F1 (defers_row_api_Rec_drop.get F2 none g a h k) g a h k) g a h k)
noncomputable def defers_List_Take.loops : LoopF := fun b => none
set_option maxRecDepth 100000 in
theorem defers_List_Take.eq (F0 : Bool → (List (Int × Int × Int × Unit)) → (List (Int × Int × Int × Int × Bool × Unit)) → (Bool → Bool → (List (Int × Int × Int × Unit)) → (List (Int × Int × Int × Int × Bool × Unit)) → Option Bool) → Option Bool) (F1 : Bool → (List (Int × Int × Int × Unit)) → (List (Int × Int × Int × Int × Bool × Unit)) → (Bool → (List (Int × Int × Int × Unit)) → (List (Int × Int × Int × Int × Bool × Unit)) → Option Bool) → (Nat → Bool → (List (Int × Int × Int × Unit)) → (List (Int × Int × Int × Int × Bool × Unit)) → Option Bool) → Option Bool) (F2 : Bool → (List (Int × Int × Int × Unit)) → (List (Int × Int × Int × Int × Bool × Unit)) → (Nat → Bool → (List (Int × Int × Int × Unit)) → (List (Int × Int × Int × Int × Bool × Unit)) → Option Bool) → Option Bool) (n320 : Int) (b321 : Bool) (ts322 : List (Int × Int × Int × Unit)) (ts323 : List (Int × Int × Int × Int × Bool × Unit)) (k : KR) : execL Try.prog ht 12 (callfOf (defers_List_Take.calls F0 F1 F2)) (defers_List_Take.loops) 0 (codeOf Try.f12) ⟨[(.ptr [0, 0] 0 0), (.d ⟨(.int .i64), n320⟩)] ++ List.replicate (Try.f12.ntmps - ([(.ptr [0, 0] 0 0), (.d ⟨(.int .i64), n320⟩)] : List AV).length) .undef, [([0, 0], ⟨52, 3, (.mix [(.agg [(.ref [0, 1]), (.ref [0, 2]), (.d ⟨.bool, b321⟩)])])⟩), ([0, 1], ⟨33, 3, (.data (.st [(.int .i64), (.int .i64), (.int .i64)]) ts322)⟩), ([0, 2], ⟨35, 5, (.data (.st [(.int .i64), (.int .i64), (.int .i64), (.int .i64), .bool]) ts323)⟩)], 2⟩ (leave Try.prog Try.f12 k) = defers_List_Take.body F0 F1 F2 n320 b321 ts322 ts323 (fun y0 y1 y2 y3 y4 => k (.tup [(.d ⟨(.st [(.int .i64), (.int .i64), (.int .i64)]), y0⟩), (.d ⟨.bool, y1⟩)]) [([0, 0], ⟨52, 3, (.mix [(.agg [(.ref [0, 1]), (.ref [0, 2]), (.d ⟨.bool, y2⟩)])])⟩), ([0, 1], ⟨33, 3, (.data (.st [(.int .i64), (.int .i64), (.int .i64)]) y3)⟩), ([0, 2], ⟨35, 5, (.data (.st [(.int .i64), (.int .i64), (.int .i64), (.int .i64), .bool]) y4)⟩)]) (fun y0 y1 y2 y3 y4 => k (.tup [(.d ⟨(.st [(.int .i64), (.int .i64), (.int .i64)]), y0⟩), (.d ⟨.bool, y1⟩)]) [([0, 0], ⟨52, 3, (.mix [(.agg [(.ref [1, 0]), (.ref [0, 2]), (.d ⟨.bool, y2⟩)])])⟩), ([0, 2], ⟨35, 5, (.data (.st [(.int .i64), (.int .i64), (.int .i64), (.int .i64), .bool]) y3)⟩), ([1, 0], ⟨33, 3, (.data (.st [(.int .i64), (.int .i64), (.int .i64)]) y4)⟩)]) := by kernel_rfl
theorem defers_List_Take.ok (d : Nat) (hd : 2 ≤ d) (n320 : Int) (b321 : Bool) (ts322 : List (Int × Int × Int × Unit)) (ts323 : List (Int × Int × Int × Int × Bool × Unit)) (k : KR) (hx : defers_List_Take n320 b321 ts322 ts323 (fun y0 y1 y2 y3 y4 => k (.tup [(.d ⟨(.st [(.int .i64), (.int .i64), (.int .i64)]), y0⟩), (.d ⟨.bool, y1⟩)]) [([0, 0], ⟨52, 3, (.mix [(.agg [(.ref [0, 1]), (.ref [0, 2]), (.d ⟨.bool, y2⟩)])])⟩), ([0, 1], ⟨33, 3, (.data (.st [(.int .i64), (.int .i64), (.int .i64)]) y3)⟩), ([0, 2], ⟨35, 5, (.data (.st [(.int .i64), (.int .i64), (.int .i64), (.int .i64), .bool]) y4)⟩)]) (fun y0 y1 y2 y3 y4 => k (.tup [(.d ⟨(.st [(.int .i64), (.int .i64), (.int .i64)]), y0⟩), (.d ⟨.bool, y1⟩)]) [([0, 0], ⟨52, 3, (.mix [(.agg [(.ref [1, 0]), (.ref [0, 2]), (.d ⟨.bool, y2⟩)])])⟩), ([0, 2], ⟨35, 5, (.data (.st [(.int .i64), (.int .i64), (.int .i64), (.int .i64), .bool]) y3)⟩), ([1, 0], ⟨33, 3, (.data (.st [(.int .i64), (.int .i64), (.int .i64)]) y4)⟩)]) = some true) : callK Try.prog ht d 12 [(.ptr [0, 0] 0 0), (.d ⟨(.int .i64), n320⟩)] [([0, 0], ⟨52, 3, (.mix [(.agg [(.ref [0, 1]), (.ref [0, 2]), (.d ⟨.bool, b321⟩)])])⟩), ([0, 1], ⟨33, 3, (.data (.st [(.int .i64), (.int .i64), (.int .i64)]) ts322)⟩), ([0, 2], ⟨35, 5, (.data (.st [(.int .i64), (.int .i64), (.int .i64), (.int .i64), .bool]) ts323)⟩)] k = some true := by
  obtain ⟨d, rfl⟩ : ∃ e, d = e + 1 := ⟨d - 1, by omega⟩
  exact fn_ok (c := codeOf Try.f12) Try.func12 (by kernel_rfl) (rec := defers_List_Take.calls defers_List_nonev1 defers_row_api_Rec_lastv1 defers_row_api_Rec_drop) (fun g a h k hx => by
    rcases defers_List_nonev1.look d (by omega) hx with hx | hx
    rotate_left
    · exact hx
    rcases defers_row_api_Rec_lastv1.look d (by omega) hx with hx | hx
    rotate_left
    · exact hx
    rcases defers_row_api_Rec_drop.look d (by omega) hx with hx | hx
    rotate_left
    · exact hx
    cases hx) (loopf := defers_List_Take.loops) (by
    have e : loopsOf (defers_List_Take.loops) 0 (codeOf Try.f12) = [] := by kernel_rfl
    rw [e]
    intro p hp
    cases hp) ((defers_List_Take.eq defers_List_nonev1 defers_row_api_Rec_lastv1 defers_row_api_Rec_drop n320 b321 ts322 ts323 k).trans hx)
theorem defers_List_Take.look (d : Nat) (hd : 2 ≤ d) {e : Option Bool} {g : FuncId} {a : List AV} {h : Heap} {k : KR} (hx : defers_List_Take.get defers_List_Take e g a h k = some true) : e = some true ∨ callK Try.prog ht d g a h k = some true := by
  unfold defers_List_Take.get at hx
  split at hx
  · exact .inr (defers_List_Take.ok d hd _ _ _ _ _ hx)
  · exact .inl hx
/-- function 19: sheerleg/sheerlegref40.Drive -/
noncomputable def ref40_Drivev1.body (t349 : (List (Int × Int × Int × Unit)) × (List (Int × Int × Int × Int × Bool × Unit)) × Unit) (t350 : Int × Int × Int × Int × Bool × Unit) (k1 : (List (Int × Int × Int × Unit)) → (List (Int × Int × Int × Int × Bool × Unit)) → Option Bool) : Option Bool :=
  (cond_ (Nat.ble ((List.length t349.2.1) * (40 : Nat)) (140737488355328 : Nat)) (cond_ (Nat.ble (((List.length t349.2.1) + (List.length ((t350.1, (t350.2.1, (t350.2.2.1, (t350.2.2.2.1, (t350.2.2.2.2.1, ()))))) :: []))) * (40 : Nat)) (140737488355328 : Nat)) (k1 t349.1 (t349.2.1 ++ ((t350.1, (t350.2.1, (t350.2.2.1, (t350.2.2.2.1, (t350.2.2.2.2.1, ()))))) :: []))) none) none)
noncomputable def ref40_Drivev1 (t349 : (List (Int × Int × Int × Unit)) × (List (Int × Int × Int × Int × Bool × Unit)) × Unit) (t350 : Int × Int × Int × Int × Bool × Unit) (k1 : (List (Int × Int × Int × Unit)) → (List (Int × Int × Int × Int × Bool × Unit)) → Option Bool) : Option Bool := ref40_Drivev1.body t349 t350 k1
noncomputable def ref40_Drivev1.get (F : ((List (Int × Int × Int × Unit)) × (List (Int × Int × Int × Int × Bool × Unit)) × Unit) → (Int × Int × Int × Int × Bool × Unit) → ((List (Int × Int × Int × Unit)) → (List (Int × Int × Int × Int × Bool × Unit)) → Option Bool) → Option Bool) (e : Option Bool) (g : FuncId) (a : List AV) (h : Heap) (k : KR) : Option Bool := match g, a, h with
  | 19, [(.d ⟨(.st [(.sl 33 (.st [(.int .i64), (.int .i64), (.int .i64)])), (.sl 35 (.st [(.int .i64), (.int .i64), (.int .i64), (.int .i64), .bool]))]), t349⟩), (.d ⟨(.st [(.int .i64), (.int .i64), (.int .i64), (.int .i64), .bool]), t350⟩)], [] => F t349 t350 (fun y0 y1 => k (.agg [(.d ⟨(.sl 33 (.st [(.int .i64), (.int .i64), (.int .i64)])), y0⟩), (.ref [1, 0])]) [([1, 0], ⟨35, 5, (.data (.st [(.int .i64), (.int .i64), (.int .i64), (.int .i64), .bool]) y1)⟩)])
  | _, _, _ => e
noncomputable def ref40_Drivev1.calls : RecF := fun g a h k => none
noncomputable def ref40_Drivev1.loops : LoopF := fun b => none
set_option maxRecDepth 100000 in
theorem ref40_Drivev1.eq (t349 : (List (Int × Int × Int × Unit)) × (List (Int × Int × Int × Int × Bool × Unit)) × Unit) (t350 : Int × Int × Int × Int × Bool × Unit) (k : KR) : execL Try.prog ht 19 (callfOf (ref40_Drivev1.calls)) (ref40_Drivev1.loops) 0 (codeOf Try.f19) ⟨[(.d ⟨(.st [(.sl 33 (.st [(.int .i64), (.int .i64), (.int .i64)])), (.sl 35 (.st [(.int .i64), (.int .i64), (.int .i64), (.int .i64), .bool]))]), t349⟩), (.d ⟨(.st [(.int .i64), (.int .i64), (.int .i64), (.int .i64), .bool]), t350⟩)] ++ List.replicate (Try.f19.ntmps - ([(.d ⟨(.st [(.sl 33 (.st [(.int .i64), (.int .i64), (.int .i64)])), (.sl 35 (.st [(.int .i64), (.int .i64), (.int .i64), (.int .i64), .bool]))]), t349⟩), (.d ⟨(.st [(.int .i64), (.int .i64), (.int .i64), (.int .i64), .bool]), t350⟩)] : List AV).length) .undef, [], 2⟩ (leave Try.prog Try.f19 k) = ref40_Drivev1.body t349 t350 (fun y0 y1 => k (.agg [(.d ⟨(.sl 33 (.st [(.int .i64), (.int .i64), (.int .i64)])), y0⟩), (.ref [1, 0])]) [([1, 0], ⟨35, 5, (.data (.st [(.int .i64), (.int .i64), (.int .i64), (.int .i64), .bool]) y1)⟩)]) := by kernel_rfl
theorem ref40_Drivev1.ok (d : Nat) (hd : 1 ≤ d) (t349 : (List (Int × Int × Int × Unit)) × (List (Int × Int × Int × Int × Bool × Unit)) × Unit) (t350 : Int × Int × Int × Int × Bool × Unit) (k : KR) (hx : ref40_Drivev1 t349 t350 (fun y0 y1 => k (.agg [(.d ⟨(.sl 33 (.st [(.int .i64), (.int .i64), (.int .i64)])), y0⟩), (.ref [1, 0])]) [([1, 0], ⟨35, 5, (.data (.st [(.int .i64), (.int .i64), (.int .i64), (.int .i64), .bool]) y1)⟩)]) = some true) : callK Try.prog ht d 19 [(.d ⟨(.st [(.sl 33 (.st [(.int .i64), (.int .i64), (.int .i64)])), (.sl 35 (.st [(.int .i64), (.int .i64), (.int .i64), (.int .i64), .bool]))]), t349⟩), (.d ⟨(.st [(.int .i64), (.int .i64), (.int .i64), (.int .i64), .bool]), t350⟩)] [] k = some true := by
  obtain ⟨d, rfl⟩ : ∃ e, d = e + 1 := ⟨d - 1, by omega⟩
  exact fn_ok (c := codeOf Try.f19) Try.func19 (by kernel_rfl) (rec := ref40_Drivev1.calls) (fun g a h k hx => by
    cases hx) (loopf := ref40_Drivev1.loops) (by
    have e : loopsOf (ref40_Drivev1.loops) 0 (codeOf Try.f19) = [] := by kernel_rfl
    rw [e]
    intro p hp
    cases hp) ((ref40_Drivev1.eq t349 t350 k).trans hx)
theorem ref40_Drivev1.look (d : Nat) (hd : 1 ≤ d) {e : Option Bool} {g : FuncId} {a : List AV} {h : Heap} {k : KR} (hx : ref40_Drivev1.get ref40_Drivev1 e g a h k = some true) : e = some true ∨ callK Try.prog ht d g a h k = some true := by
  unfold ref40_Drivev1.get at hx
  split at hx
  · exact .inr (ref40_Drivev1.ok d hd _ _ _ hx)
  · exact .inl hx
/-- function 29: (*sheerleg/defers.row[sheerleg/api.Driver]).put -/
noncomputable def defers_row_api_Driver_putv1.body (t361 : Int × Int × Int × Int × Bool × Unit) (b362 : Bool) (ts363 : List (Int × Int × Int × Unit)) (ts364 : List (Int × Int × Int × Int × Bool × Unit)) (k1 : Bool → (List (Int × Int × Int × Unit)) → (List (Int × Int × Int × Int × Bool × Unit)) → Option Bool) : Option Bool :=
  (cond_ (Nat.ble (((List.length ts364) + (List.length ((t361.1, (t361.2.1, (t361.2.2.1, (t361.2.2.2.1, (t361.2.2.2.2.1, ()))))) :: []))) * (40 : Nat)) (140737488355328 : Nat)) (k1 b362 ts363 (ts364 ++ ((t361.1, (t361.2.1, (t361.2.2.1, (t361.2.2.2.1, (t361.2.2.2.2.1, ()))))) :: []))) none)
noncomputable def defers_row_api_Driver_putv1 (t361 : Int × Int × Int × Int × Bool × Unit) (b362 : Bool) (ts363 : List (Int × Int × Int × Unit)) (ts364 : List (Int × Int × Int × Int × Bool × Unit)) (k1 : Bool → (List (Int × Int × Int × Unit)) → (List (Int × Int × Int × Int × Bool × Unit)) → Option Bool) : Option Bool := defers_row_api_Driver_putv1.body t361 b362 ts363 ts364 k1
noncomputable def defers_row_api_Driver_putv1.get (F : (Int × Int × Int × Int × Bool × Unit) → Bool → (List (Int × Int × Int × Unit)) → (List (Int × Int × Int × Int × Bool × Unit)) → (Bool → (List (Int × Int × Int × Unit)) → (List (Int × Int × Int × Int × Bool × Unit)) → Option Bool) → Option Bool) (e : Option Bool) (g : FuncId) (a : List AV) (h : Heap) (k : KR) : Option Bool := match g, a, h with
  | 29, [(.ptr [0, 0] 0 1), (.d ⟨(.st [(.int .i64), (.int .i64), (.int .i64), (.int .i64), .bool]), t361⟩)], [([0, 0], ⟨52, 3, (.mix [(.agg [(.ref [0, 1]), (.ref [0, 2]), (.d ⟨.bool, b362⟩)])])⟩), ([0, 1], ⟨33, 3, (.data (.st [(.int .i64), (.int .i64), (.int .i64)]) ts363)⟩), ([0, 2], ⟨35, 5, (.data (.st [(.int .i64), (.int .i64), (.int .i64), (.int .i64), .bool]) ts364)⟩)] => F t361 b362 ts363 ts364 (fun y0 y1 y2 => k (.tup []) [([0, 0], ⟨52, 3, (.mix [(.agg [(.ref [0, 1]), (.ref [1, 0]), (.d ⟨.bool, y0⟩)])])⟩), ([0, 1], ⟨33, 3, (.data (.st [(.int .i64), (.int .i64), (.int .i64)]) y1)⟩), ([1, 0], ⟨35, 5, (.data (.st [(.int .i64), (.int .i64), (.int .i64), (.int .i64), .bool]) y2)⟩)])
  | _, _, _ => e
noncomputable def defers_row_api_Driver_putv1.calls : RecF := fun g a h k => none
noncomputable def defers_row_api_Driver_putv1.loops : LoopF := fun b => none
set_option maxRecDepth 100000 in
theorem defers_row_api_Driver_putv1.eq (t361 : Int × Int × Int × Int × Bool × Unit) (b362 : Bool) (ts363 : List (Int × Int × Int × Unit)) (ts364 : List (Int × Int × Int × Int × Bool × Unit)) (k : KR) : execL Try.prog ht 29 (callfOf (defers_row_api_Driver_putv1.calls)) (defers_row_api_Driver_putv1.loops) 0 (codeOf Try.f29) ⟨[(.ptr [0, 0] 0 1), (.d ⟨(.st [(.int .i64), (.int .i64), (.int .i64), (.int .i64), .bool]), t361⟩)] ++ List.replicate (Try.f29.ntmps - ([(.ptr [0, 0] 0 1), (.d ⟨(.st [(.int .i64), (.int .i64), (.int .i64), (.int .i64), .bool]), t361⟩)] : List AV).length) .undef, [([0, 0], ⟨52, 3, (.mix [(.agg [(.ref [0, 1]), (.ref [0, 2]), (.d ⟨.bool, b362⟩)])])⟩), ([0, 1], ⟨33, 3, (.data (.st [(.int .i64), (.int .i64), (.int .i64)]) ts363)⟩), ([0, 2], ⟨35, 5, (.data (.st [(.int .i64), (.int .i64), (.int .i64), (.int .i64), .bool]) ts364)⟩)], 2⟩ (leave Try.prog Try.f29 k) = defers_row_api_Driver_putv1.body t361 b362 ts363 ts364 (fun y0 y1 y2 => k (.tup []) [([0, 0], ⟨52, 3, (.mix [(.agg [(.ref [0, 1]), (.ref [1, 0]), (.d ⟨.bool, y0⟩)])])⟩), ([0, 1], ⟨33, 3, (.data (.st [(.int .i64), (.int .i64), (.int .i64)]) y1)⟩), ([1, 0], ⟨35, 5, (.data (.st [(.int .i64), (.int .i64), (.int .i64), (.int .i64), .bool]) y2)⟩)]) := by kernel_rfl
theorem defers_row_api_Driver_putv1.ok (d : Nat) (hd : 1 ≤ d) (t361 : Int × Int × Int × Int × Bool × Unit) (b362 : Bool) (ts363 : List (Int × Int × Int × Unit)) (ts364 : List (Int × Int × Int × Int × Bool × Unit)) (k : KR) (hx : defers_row_api_Driver_putv1 t361 b362 ts363 ts364 (fun y0 y1 y2 => k (.tup []) [([0, 0], ⟨52, 3, (.mix [(.agg [(.ref [0, 1]), (.ref [1, 0]), (.d ⟨.bool, y0⟩)])])⟩), ([0, 1], ⟨33, 3, (.data (.st [(.int .i64), (.int .i64), (.int .i64)]) y1)⟩), ([1, 0], ⟨35, 5, (.data (.st [(.int .i64), (.int .i64), (.int .i64), (.int .i64), .bool]) y2)⟩)]) = some true) : callK Try.prog ht d 29 [(.ptr [0, 0] 0 1), (.d ⟨(.st [(.int .i64), (.int .i64), (.int .i64), (.int .i64), .bool]), t361⟩)] [([0, 0], ⟨52, 3, (.mix [(.agg [(.ref [0, 1]), (.ref [0, 2]), (.d ⟨.bool, b362⟩)])])⟩), ([0, 1], ⟨33, 3, (.data (.st [(.int .i64), (.int .i64), (.int .i64)]) ts363)⟩), ([0, 2], ⟨35, 5, (.data (.st [(.int .i64), (.int .i64), (.int .i64), (.int .i64), .bool]) ts364)⟩)] k = some true := by
  obtain ⟨d, rfl⟩ : ∃ e, d = e + 1 := ⟨d - 1, by omega⟩
  exact fn_ok (c := codeOf Try.f29) Try.func29 (by kernel_rfl) (rec := defers_row_api_Driver_putv1.calls) (fun g a h k hx => by
    cases hx) (loopf := defers_row_api_Driver_putv1.loops) (by
    have e : loopsOf (defers_row_api_Driver_putv1.loops) 0 (codeOf Try.f29) = [] := by kernel_rfl
    rw [e]
    intro p hp
    cases hp) ((defers_row_api_Driver_putv1.eq t361 b362 ts363 ts364 k).trans hx)
theorem defers_row_api_Driver_putv1.look (d : Nat) (hd : 1 ≤ d) {e : Option Bool} {g : FuncId} {a : List AV} {h : Heap} {k : KR} (hx : defers_row_api_Driver_putv1.get defers_row_api_Driver_putv1 e g a h k = some true) : e = some true ∨ callK Try.prog ht d g a h k = some true := by
  unfold defers_row_api_Driver_putv1.get at hx
  split at hx
  · exact .inr (defers_row_api_Driver_putv1.ok d hd _ _ _ _ _ hx)
  · exact .inl hx
/-- function 16: (*sheerleg/defers.List).Drive -/
noncomputable def defers_List_Drivev1.body (defers_List_nonev1 : Bool → (List (Int × Int × Int × Unit)) → (List (Int × Int × Int × Int × Bool × Unit)) → (Bool → Bool → (List (Int × Int × Int × Unit)) → (List (Int × Int × Int × Int × Bool × Unit)) → Option Bool) → Option Bool) (defers_row_api_Driver_putv1 : (Int × Int × Int × Int × Bool × Unit) → Bool → (List (Int × Int × Int × Unit)) → (List (Int × Int × Int × Int × Bool × Unit)) → (Bool → (List (Int × Int × Int × Unit)) → (List (Int × Int × Int × Int × Bool × Unit)) → Option Bool) → Option Bool) (t353 : Int × Int × Int × Int × Bool × Unit) (b354 : Bool) (ts355 : List (Int × Int × Int × Unit)) (ts356 : List (Int × Int × Int × Int × Bool × Unit)) (k1 : Bool → Bool → (List (Int × Int × Int × Unit)) → (List (Int × Int × Int × Int × Bool × Unit)) → Option Bool) (k2 : Bool → Bool → (List (Int × Int × Int × Unit)) → (List (Int × Int × Int × Int × Bool × Unit)) → Option Bool) : Option Bool :=
  (defers_List_nonev1 b354 ts355 ts356
  (fun b357 b358 ts359 ts360 => (cond_ b357 (k1 false b358 ts359 ts360) (defers_row_api_Driver_putv1 t353 b358 ts359 ts360
  (fun b365 ts366 ts367 => (k2 true b365 ts366 ts367))))))
noncomputable def defers_List_Drivev1 (t353 : Int × Int × Int × Int × Bool × Unit) (b354 : Bool) (ts355 : List (Int × Int × Int × Unit)) (ts356 : List (Int × Int × Int × Int × Bool × Unit)) (k1 : Bool → Bool → (List (Int × Int × Int × Unit)) → (List (Int × Int × Int × Int × Bool × Unit)) → Option Bool) (k2 : Bool → Bool → (List (Int × Int × Int × Unit)) → (List (Int × Int × Int × Int × Bool × Unit)) → Option Bool) : Option Bool := defers_List_Drivev1.body defers_List_nonev1 defers_row_api_Driver_putv1 t353 b354 ts355 ts356 k1 k2
noncomputable def defers_List_Drivev1.get (F : (Int × Int × Int × Int × Bool × Unit) → Bool → (List (Int × Int × Int × Unit)) → (List (Int × Int × Int × Int × Bool × Unit)) → (Bool → Bool → (List (Int × Int × Int × Unit)) → (List (Int × Int × Int × Int × Bool × Unit)) → Option Bool) → (Bool → Bool → (List (Int × Int × Int × Unit)) → (List (Int × Int × Int × Int × Bool × Unit)) → Option Bool) → Option Bool) (e : Option Bool) (g : FuncId) (a : List AV) (h : Heap) (k : KR) : Option Bool := match g, a, h with
  | 16, [(.ptr [0, 0] 0 0), (.d ⟨(.st [(.int .i64), (.int .i64), (.int .i64), (.int .i64), .bool]), t353⟩)], [([0, 0], ⟨52, 3, (.mix [(.agg [(.ref [0, 1]), (.ref [0, 2]), (.d ⟨.bool, b354⟩)])])⟩), ([0, 1], ⟨33, 3, (.data (.st [(.int .i64), (.int .i64), (.int .i64)]) ts355)⟩), ([0, 2], ⟨35, 5, (.data (.st [(.int .i64), (.int .i64), (.int .i64), (.int .i64), .bool]) ts356)⟩)] => F t353 b354 ts355 ts356 (fun y0 y1 y2 y3 => k (.d ⟨.bool, y0⟩) [([0, 0], ⟨52, 3, (.mix [(.agg [(.ref [0, 1]), (.ref [0, 2]), (.d ⟨.bool, y1⟩)])])⟩), ([0, 1], ⟨33, 3, (.data (.st [(.int .i64), (.int .i64), (.int .i64)]) y2)⟩), ([0, 2], ⟨35, 5, (.data (.st [(.int .i64), (.int .i64), (.int .i64), (.int .i64), .bool]) y3)⟩)]) (fun y0 y1 y2 y3 => k (.d ⟨.bool, y0⟩) [([0, 0], ⟨52, 3, (.mix [(.agg [(.ref [0, 1]), (.ref [1, 0]), (.d ⟨.bool, y1⟩)])])⟩), ([0, 1], ⟨33, 3, (.data (.st [(.int .i64), (.int .i64), (.int .i64)]) y2)⟩), ([1, 0], ⟨35, 5, (.data (.st [(.int .i64), (.int .i64), (.int .i64), (.int .i64), .bool]) y3)⟩)])
  | _, _, _ => e
noncomputable def defers_List_Drivev1.calls (F0 : Bool → (List (Int × Int × Int × Unit)) → (List (Int × Int × Int × Int × Bool × Unit)) → (Bool → Bool → (List (Int × Int × Int × Unit)) → (List (Int × Int × Int × Int × Bool × Unit)) → Option Bool) → Option Bool) (F1 : (Int × Int × Int × Int × Bool × Unit) → Bool → (List (Int × Int × Int × Unit)) → (List (Int × Int × Int × Int × Bool × Unit)) → (Bool → (List (Int × Int × Int × Unit)) → (List (Int × Int × Int × Int × Bool × Unit)) → Option Bool) → Option Bool) : RecF := fun g a h k => (defers_List_nonev1.get F0 (defers_row_api_Driver_putv1.get F1 none g a h k) g a h k)
noncomputable def defers_List_Drivev1.loops : LoopF := fun b => none
set_option maxRecDepth 100000 in
theorem defers_List_Drivev1.eq (F0 : Bool → (List (Int × Int × Int × Unit)) → (List (Int × Int × Int × Int × Bool × Unit)) → (Bool → Bool → (List (Int × Int × Int × Unit)) → (List (Int × Int × Int × Int × Bool × Unit)) → Option Bool) → Option Bool) (F1 : (Int × Int × Int × Int × Bool × Unit) → Bool → (List (Int × Int × Int × Unit)) → (List (Int × Int × Int × Int × Bool × Unit)) → (Bool → (List (Int × Int × Int × Unit)) → (List (Int × Int × Int × Int × Bool × Unit)) → Option Bool) → Option Bool) (t353 : Int × Int × Int × Int × Bool × Unit) (b354 : Bool) (ts355 : List (Int × Int × Int × Unit)) (ts356 : List (Int × Int × Int × Int × Bool × Unit)) (k : KR) : execL Try.prog ht 16 (callfOf (defers_List_Drivev1.calls F0 F1)) (defers_List_Drivev1.loops) 0 (codeOf Try.f16) ⟨[(.ptr [0, 0] 0 0), (.d ⟨(.st [(.int .i64), (.int .i64), (.int .i64), (.int .i64), .bool]), t353⟩)] ++ List.replicate (Try.f16.ntmps - ([(.ptr [0, 0] 0 0), (.d ⟨(.st [(.int .i64), (.int .i64), (.int .i64), (.int .i64), .bool]), t353⟩)] : List AV).length) .undef, [([0, 0], ⟨52, 3, (.mix [(.agg [(.ref [0, 1]), (.ref [0, 2]), (.d ⟨.bool, b354⟩)])])⟩), ([0, 1], ⟨33, 3, (.data (.st [(.int .i64), (.int .i64), (.int .i64)]) ts355)⟩), ([0, 2], ⟨35, 5, (.data (.st [(.int .i64), (.int .i64), (.int .i64), (.int .i64), .bool]) ts356)⟩)], 2⟩ (leave Try.prog Try.f16 k) = defers_List_Drivev1.body F0 F1 t353 b354 ts355 ts356 (fun y0 y1 y2 y3 => k (.d ⟨.bool, y0⟩) [([0, 0], ⟨52, 3, (.mix [(.agg [(.ref [0, 1]), (.ref [0, 2]), (.d ⟨.bool, y1⟩)])])⟩), ([0, 1], ⟨33, 3, (.data (.st [(.int .i64), (.int .i64), (.int .i64)]) y2)⟩), ([0, 2], ⟨35, 5, (.data (.st [(.int .i64), (.int .i64), (.int .i64), (.int .i64), .bool]) y3)⟩)]) (fun y0 y1 y2 y3 => k (.d ⟨.bool, y0⟩) [([0, 0], ⟨52, 3, (.mix [(.agg [(.ref [0, 1]), (.ref [1, 0]), (.d ⟨.bool, y1⟩)])])⟩), ([0, 1], ⟨33, 3, (.data (.st [(.int .i64), (.int .i64), (.int .i64)]) y2)⟩), ([1, 0], ⟨35, 5, (.data (.st [(.int .i64), (.int .i64), (.int .i64), (.int .i64), .bool]) y3)⟩)]) := by kernel_rfl
theorem defers_List_Drivev1.ok (d : Nat) (hd : 2 ≤ d) (t353 : Int × Int × Int × Int × Bool × Unit) (b354 : Bool) (ts355 : List (Int × Int × Int × Unit)) (ts356 : List (Int × Int × Int × Int × Bool × Unit)) (k : KR) (hx : defers_List_Drivev1 t353 b354 ts355 ts356 (fun y0 y1 y2 y3 => k (.d ⟨.bool, y0⟩) [([0, 0], ⟨52, 3, (.mix [(.agg [(.ref [0, 1]), (.ref [0, 2]), (.d ⟨.bool, y1⟩)])])⟩), ([0, 1], ⟨33, 3, (.data (.st [(.int .i64), (.int .i64), (.int .i64)]) y2)⟩), ([0, 2], ⟨35, 5, (.data (.st [(.int .i64), (.int .i64), (.int .i64), (.int .i64), .bool]) y3)⟩)]) (fun y0 y1 y2 y3 => k (.d ⟨.bool, y0⟩) [([0, 0], ⟨52, 3, (.mix [(.agg [(.ref [0, 1]), (.ref [1, 0]), (.d ⟨.bool, y1⟩)])])⟩), ([0, 1], ⟨33, 3, (.data (.st [(.int .i64), (.int .i64), (.int .i64)]) y2)⟩), ([1, 0], ⟨35, 5, (.data (.st [(.int .i64), (.int .i64), (.int .i64), (.int .i64), .bool]) y3)⟩)]) = some true) : callK Try.prog ht d 16 [(.ptr [0, 0] 0 0), (.d ⟨(.st [(.int .i64), (.int .i64), (.int .i64), (.int .i64), .bool]), t353⟩)] [([0, 0], ⟨52, 3, (.mix [(.agg [(.ref [0, 1]), (.ref [0, 2]), (.d ⟨.bool, b354⟩)])])⟩), ([0, 1], ⟨33, 3, (.data (.st [(.int .i64), (.int .i64), (.int .i64)]) ts355)⟩), ([0, 2], ⟨35, 5, (.data (.st [(.int .i64), (.int .i64), (.int .i64), (.int .i64), .bool]) ts356)⟩)] k = some true := by
  obtain ⟨d, rfl⟩ : ∃ e, d = e + 1 := ⟨d - 1, by omega⟩
  exact fn_ok (c := codeOf Try.f16) Try.func16 (by kernel_rfl) (rec := defers_List_Drivev1.calls defers_List_nonev1 defers_row_api_Driver_putv1) (fun g a h k hx => by
    rcases defers_List_nonev1.look d (by omega) hx with hx | hx
    rotate_left
    · exact hx
    rcases defers_row_api_Driver_putv1.look d (by omega) hx with hx | hx
    rotate_left
    · exact hx
    cases hx) (loopf := defers_List_Drivev1.loops) (by
    have e : loopsOf (defers_List_Drivev1.loops) 0 (codeOf Try.f16) = [] := by kernel_rfl
    rw [e]
    intro p hp
    cases hp) ((defers_List_Drivev1.eq defers_List_nonev1 defers_row_api_Driver_putv1 t353 b354 ts355 ts356 k).trans hx)
theorem defers_List_Drivev1.look (d : Nat) (hd : 2 ≤ d) {e : Option Bool} {g : FuncId} {a : List AV} {h : Heap} {k : KR} (hx : defers_List_Drivev1.get defers_List_Drivev1 e g a h k = some true) : e = some true ∨ callK Try.prog ht d g a h k = some true := by
  unfold defers_List_Drivev1.get at hx
  split at hx
  · exact .inr (defers_List_Drivev1.ok d hd _ _ _ _ _ hx)
  · exact .inl hx
/-- function 20: sheerleg/sheerlegref40.Top -/
noncomputable def ref40_Topv1.body (t376 : (List (Int × Int × Int × Unit)) × (List (Int × Int × Int × Int × Bool × Unit)) × Unit) (k1 : (Int × Int × Int × Int × Bool × Unit) → Bool → Option Bool) : Option Bool :=
  (cond_ ((((List.length t376.2.1) : Nat) : Int) == (0 : Int)) (k1 ((0 : Int), ((0 : Int), ((0 : Int), ((0 : Int), (false, ()))))) false) (cond_ ((decide ((0 : Int) ≤ (IntKind.wrap .i64 ((((List.length t376.2.1) : Nat) : Int) - (1 : Int))))) && (decide ((IntKind.wrap .i64 ((((List.length t376.2.1) : Nat) : Int) - (1 : Int))) < (((List.length t376.2.1) : Nat) : Int)))) (k1 (List.getD t376.2.1 (Int.toNat (IntKind.wrap .i64 ((((List.length t376.2.1) : Nat) : Int) - (1 : Int)))) ((0 : Int), ((0 : Int), ((0 : Int), ((0 : Int), (false, ())))))) true) none))
noncomputable def ref40_Topv1 (t376 : (List (Int × Int × Int × Unit)) × (List (Int × Int × Int × Int × Bool × Unit)) × Unit) (k1 : (Int × Int × Int × Int × Bool × Unit) → Bool → Option Bool) : Option Bool := ref40_Topv1.body t376 k1
noncomputable def ref40_Topv1.get (F : ((List (Int × Int × Int × Unit)) × (List (Int × Int × Int × Int × Bool × Unit)) × Unit) → ((Int × Int × Int × Int × Bool × Unit) → Bool → Option Bool) → Option Bool) (e : Option Bool) (g : FuncId) (a : List AV) (h : Heap) (k : KR) : Option Bool := match g, a, h with
  | 20, [(.d ⟨(.st [(.sl 33 (.st [(.int .i64), (.int .i64), (.int .i64)])), (.sl 35 (.st [(.int .i64), (.int .i64), (.int .i64), (.int .i64), .bool]))]), t376⟩)], [] => F t376 (fun y0 y1 => k (.tup [(.d ⟨(.st [(.int .i64), (.int .i64), (.int .i64), (.int .i64), .bool]), y0⟩), (.d ⟨.bool, y1⟩)]) [])
  | _, _, _ => e
noncomputable def ref40_Topv1.calls : RecF := fun g a h k => none
noncomputable def ref40_Topv1.loops : LoopF := fun b => none
set_option maxRecDepth 100000 in
theorem ref40_Topv1.eq (t376 : (List (Int × Int × Int × Unit)) × (List (Int × Int × Int × Int × Bool × Unit)) × Unit) (k : KR) : execL Try.prog ht 20 (callfOf (ref40_Topv1.calls)) (ref40_Topv1.loops) 0 (codeOf Try.f20) ⟨[(.d ⟨(.st [(.sl 33 (.st [(.int .i64), (.int .i64), (.int .i64)])), (.sl 35 (.st [(.int .i64), (.int .i64), (.int .i64), (.int .i64), .bool]))]), t376⟩)] ++ List.replicate (Try.f20.ntmps - ([(.d ⟨(.st [(.sl 33 (.st [(.int .i64), (.int .i64), (.int .i64)])), (.sl 35 (.st [(.int .i64), (.int .i64), (.int .i64), (.int .i64), .bool]))]), t376⟩)] : List AV).length) .undef, [], 2⟩ (leave Try.prog Try.f20 k) = ref40_Topv1.body t376 (fun y0 y1 => k (.tup [(.d ⟨(.st [(.int .i64), (.int .i64), (.int .i64), (.int .i64), .bool]), y0⟩), (.d ⟨.bool, y1⟩)]) []) := by kernel_rfl
theorem ref40_Topv1.ok (d : Nat) (hd : 1 ≤ d) (t376 : (List (Int × Int × Int × Unit)) × (List (Int × Int × Int × Int × Bool × Unit)) × Unit) (k : KR) (hx : ref40_Topv1 t376 (fun y0 y1 => k (.tup [(.d ⟨(.st [(.int .i64), (.int .i64), (.int .i64), (.int .i64), .bool]), y0⟩), (.d ⟨.bool, y1⟩)]) []) = some true) : callK Try.prog ht d 20 [(.d ⟨(.st [(.sl 33 (.st [(.int .i64), (.int .i64), (.int .i64)])), (.sl 35 (.st [(.int .i64), (.int .i64), (.int .i64), (.int .i64), .bool]))]), t376⟩)] [] k = some true := by
  obtain ⟨d, rfl⟩ : ∃ e, d = e + 1 := ⟨d - 1, by omega⟩
  exact fn_ok (c := codeOf Try.f20) Try.func20 (by kernel_rfl) (rec := ref40_Topv1.calls) (fun g a h k hx => by
    cases hx) (loopf := ref40_Topv1.loops) (by
    have e : loopsOf (ref40_Topv1.loops) 0 (codeOf Try.f20) = [] := by kernel_rfl
    rw [e]
    intro p hp
    cases hp) ((ref40_Topv1.eq t376 k).trans hx)
theorem ref40_Topv1.look (d : Nat) (hd : 1 ≤ d) {e : Option Bool} {g : FuncId} {a : List AV} {h : Heap} {k : KR} (hx : ref40_Topv1.get ref40_Topv1 e g a h k = some true) : e = some true ∨ callK Try.prog ht d g a h k = some true := by
  unfold ref40_Topv1.get at hx
  split at hx
  · exact .inr (ref40_Topv1.ok d hd _ _ hx)
  · exact .inl hx
/-- function 27: (*sheerleg/defers.row[sheerleg/api.Driver]).last -/
noncomputable def defers_row_api_Driver_lastv1.body (b386 : Bool) (ts387 : List (Int × Int × Int × Unit)) (ts388 : List (Int × Int × Int × Int × Bool × Unit)) (k1 : Bool → (List (Int × Int × Int × Unit)) → (List (Int × Int × Int × Int × Bool × Unit)) → Option Bool) (k2 : Nat → Bool → (List (Int × Int × Int × Unit)) → (List (Int × Int × Int × Int × Bool × Unit)) → Option Bool) : Option Bool :=
  (cond_ ((((List.length ts388) : Nat) : Int) == (0 : Int)) (k1 b386 ts387 ts388) (cond_ ((decide ((0 : Int) ≤ (IntKind.wrap .i64 ((((List.length ts388) : Nat) : Int) - (1 : Int))))) && (decide ((IntKind.wrap .i64 ((((List.length ts388) : Nat) : Int) - (1 : Int))) < (((List.length ts388) : Nat) : Int)))) (k2 (Int.toNat (IntKind.wrap .i64 ((((List.length ts388) : Nat) : Int) - (1 : Int)))) b386 ts387 ts388) none))
noncomputable def defers_row_api_Driver_lastv1 (b386 : Bool) (ts387 : List (Int × Int × Int × Unit)) (ts388 : List (Int × Int × Int × Int × Bool × Unit)) (k1 : Bool → (List (Int × Int × Int × Unit)) → (List (Int × Int × Int × Int × Bool × Unit)) → Option Bool) (k2 : Nat → Bool → (List (Int × Int × Int × Unit)) → (List (Int × Int × Int × Int × Bool × Unit)) → Option Bool) : Option Bool := defers_row_api_Driver_lastv1.body b386 ts387 ts388 k1 k2
noncomputable def defers_row_api_Driver_lastv1.get (F : Bool → (List (Int × Int × Int × Unit)) → (List (Int × Int × Int × Int × Bool × Unit)) → (Bool → (List (Int × Int × Int × Unit)) → (List (Int × Int × Int × Int × Bool × Unit)) → Option Bool) → (Nat → Bool → (List (Int × Int × Int × Unit)) → (List (Int × Int × Int × Int × Bool × Unit)) → Option Bool) → Option Bool) (e : Option Bool) (g : FuncId) (a : List AV) (h : Heap) (k : KR) : Option Bool := match g, a, h with
  | 27, [(.ptr [0, 0] 0 1)], [([0, 0], ⟨52, 3, (.mix [(.agg [(.ref [0, 1]), (.ref [0, 2]), (.d ⟨.bool, b386⟩)])])⟩), ([0, 1], ⟨33, 3, (.data (.st [(.int .i64), (.int .i64), (.int .i64)]) ts387)⟩), ([0, 2], ⟨35, 5, (.data (.st [(.int .i64), (.int .i64), (.int .i64), (.int .i64), .bool]) ts388)⟩)] => F b386 ts387 ts388 (fun y0 y1 y2 => k .nilp [([0, 0], ⟨52, 3, (.mix [(.agg [(.ref [0, 1]), (.ref [0, 2]), (.d ⟨.bool, y0⟩)])])⟩), ([0, 1], ⟨33, 3, (.data (.st [(.int .i64), (.int .i64), (.int .i64)]) y1)⟩), ([0, 2], ⟨35, 5, (.data (.st [(.int .i64), (.int .i64), (.int .i64), (.int .i64), .bool]) y2)⟩)]) (fun y0 y1 y2 y3 => k (.ptr [0, 2] y0 0) [([0, 0], ⟨52, 3, (.mix [(.agg [(.ref [0, 1]), (.ref [0, 2]), (.d ⟨.bool, y1⟩)])])⟩), ([0, 1], ⟨33, 3, (.data (.st [(.int .i64), (.int .i64), (.int .i64)]) y2)⟩), ([0, 2], ⟨35, 5, (.data (.st [(.int .i64), (.int .i64), (.int .i64), (.int .i64), .bool]) y3)⟩)])
  | _, _, _ => e
noncomputable def defers_row_api_Driver_lastv1.calls : RecF := fun g a h k => none
noncomputable def defers_row_api_Driver_lastv1.loops : LoopF := fun b => none
set_option maxRecDepth 100000 in
theorem defers_row_api_Driver_lastv1.eq (b386 : Bool) (ts387 : List (Int × Int × Int × Unit)) (ts388 : List (Int × Int × Int × Int × Bool × Unit)) (k : KR) : execL Try.prog ht 27 (callfOf (defers_row_api_Driver_lastv1.calls)) (defers_row_api_Driver_lastv1.loops) 0 (codeOf Try.f27) ⟨[(.ptr [0, 0] 0 1)] ++ List.replicate (Try.f27.ntmps - ([(.ptr [0, 0] 0 1)] : List AV).length) .undef, [([0, 0], ⟨52, 3, (.mix [(.agg [(.ref [0, 1]), (.ref [0, 2]), (.d ⟨.bool, b386⟩)])])⟩), ([0, 1], ⟨33, 3, (.data (.st [(.int .i64), (.int .i64), (.int .i64)]) ts387)⟩), ([0, 2], ⟨35, 5, (.data (.st [(.int .i64), (.int .i64), (.int .i64), (.int .i64), .bool]) ts388)⟩)], 2⟩ (leave Try.prog Try.f27 k) = defers_row_api_Driver_lastv1.body b386 ts387 ts388 (fun y0 y1 y2 => k .nilp [([0, 0], ⟨52, 3, (.mix [(.agg [(.ref [0, 1]), (.ref [0, 2]), (.d ⟨.bool, y0⟩)])])⟩), ([0, 1], ⟨33, 3, (.data (.st [(.int .i64), (.int .i64), (.int .i64)]) y1)⟩), ([0, 2], ⟨35, 5, (.data (.st [(.int .i64), (.int .i64), (.int .i64), (.int .i64), .bool]) y2)⟩)]) (fun y0 y1 y2 y3 => k (.ptr [0, 2] y0 0) [([0, 0], ⟨52, 3, (.mix [(.agg [(.ref [0, 1]), (.ref [0, 2]), (.d ⟨.bool, y1⟩)])])⟩), ([0, 1], ⟨33, 3, (.data (.st [(.int .i64), (.int .i64), (.int .i64)]) y2)⟩), ([0, 2], ⟨35, 5, (.data (.st [(.int .i64), (.int .i64), (.int .i64), (.int .i64), .bool]) y3)⟩)]) := by kernel_rfl
theorem defers_row_api_Driver_lastv1.ok (d : Nat) (hd : 1 ≤ d) (b386 : Bool) (ts387 : List (Int × Int × Int × Unit)) (ts388 : List (Int × Int × Int × Int × Bool × Unit)) (k : KR) (hx : defers_row_api_Driver_lastv1 b386 ts387 ts388 (fun y0 y1 y2 => k .nilp [([0, 0], ⟨52, 3, (.mix [(.agg [(.ref [0, 1]), (.ref [0, 2]), (.d ⟨.bool, y0⟩)])])⟩), ([0, 1], ⟨33, 3, (.data (.st [(.int .i64), (.int .i64), (.int .i64)]) y1)⟩), ([0, 2], ⟨35, 5, (.data (.st [(.int .i64), (.int .i64), (.int .i64), (.int .i64), .bool]) y2)⟩)]) (fun y0 y1 y2 y3 => k (.ptr [0, 2] y0 0) [([0, 0], ⟨52, 3, (.mix [(.agg [(.ref [0, 1]), (.ref [0, 2]), (.d ⟨.bool, y1⟩)])])⟩), ([0, 1], ⟨33, 3, (.data (.st [(.int .i64), (.int .i64), (.int .i64)]) y2)⟩), ([0, 2], ⟨35, 5, (.data (.st [(.int .i64), (.int .i64), (.int .i64), (.int .i64), .bool]) y3)⟩)]) = some true) : callK Try.prog ht d 27 [(.ptr [0, 0] 0 1)] [([0, 0], ⟨52, 3, (.mix [(.agg [(.ref [0, 1]), (.ref [0, 2]), (.d ⟨.bool, b386⟩)])])⟩), ([0, 1], ⟨33, 3, (.data (.st [(.int .i64), (.int .i64), (.int .i64)]) ts387)⟩), ([0, 2], ⟨35, 5, (.data (.st [(.int .i64), (.int .i64), (.int .i64), (.int .i64), .bool]) ts388)⟩)] k = some true := by
  obtain ⟨d, rfl⟩ : ∃ e, d = e + 1 := ⟨d - 1, by omega⟩
  exact fn_ok (c := codeOf Try.f27) Try.func27 (by kernel_rfl) (rec := defers_row_api_Driver_lastv1.calls) (fun g a h k hx => by
    cases hx) (loopf := defers_row_api_Driver_lastv1.loops) (by
    have e : loopsOf (defers_row_api_Driver_lastv1.loops) 0 (codeOf Try.f27) = [] := by kernel_rfl
    rw [e]
    intro p hp
    cases hp) ((defers_row_api_Driver_lastv1.eq b386 ts387 ts388 k).trans hx)
theorem defers_row_api_Driver_lastv1.look (d : Nat) (hd : 1 ≤ d) {e : Option Bool} {g : FuncId} {a : List AV} {h : Heap} {k : KR} (hx : defers_row_api_Driver_lastv1.get defers_row_api_Driver_lastv1 e g a h k = some true) : e = some true ∨ callK Try.prog ht d g a h k = some true := by
  unfold defers_row_api_Driver_lastv1.get at hx
  split at hx
  · exact .inr (defers_row_api_Driver_lastv1.ok d hd _ _ _ _ hx)
  · exact .inl hx
/-- function 13: (*sheerleg/defers.List).Top -/
noncomputable def defers_List_Topv1.body (defers_List_Depthv1 : Bool → (List (Int × Int × Int × Unit)) → (List (Int × Int × Int × Int × Bool × Unit)) → (Int → Bool → (List (Int × Int × Int × Unit)) → (List (Int × Int × Int × Int × Bool × Unit)) → Option Bool) → Option Bool) (defers_row_api_Driver_lastv1 : Bool → (List (Int × Int × Int × Unit)) → (List (Int × Int × Int × Int × Bool × Unit)) → (Bool → (List (Int × Int × Int × Unit)) → (List (Int × Int × Int × Int × Bool × Unit)) → Option Bool) → (Nat → Bool → (List (Int × Int × Int × Unit)) → (List (Int × Int × Int × Int × Bool × Unit)) → Option Bool) → Option Bool) (b379 : Bool) (ts380 : List (Int × Int × Int × Unit)) (ts381 : List (Int × Int × Int × Int × Bool × Unit)) (k1 : (Int × Int × Int × Int × Bool × Unit) → Bool → Bool → (List (Int × Int × Int × Unit)) → (List (Int × Int × Int × Int × Bool × Unit)) → Option Bool) : Option Bool :=
  (defers_List_Depthv1 b379 ts380 ts381
  (fun n382 b383 ts384 ts385 => (cond_ (n382 == (0 : Int)) (k1 ((0 : Int), ((0 : Int), ((0 : Int), ((0 : Int), (false, ()))))) false b383 ts384 ts385) (defers_row_api_Driver_lastv1 b383 ts384 ts385
  (fun b389 ts390 ts391 => none)
  (fun m392 b393 ts394 ts395 => (k1 (List.getD ts395 m392 ((0 : Int), ((0 : Int), ((0 : Int), ((0 : Int), (false, ())))))) true b393 ts394 ts395))))))
noncomputable def defers_List_Topv1 (b379 : Bool) (ts380 : List (Int × Int × Int × Unit)) (ts381 : List (Int × Int × Int × Int × Bool × Unit)) (k1 : (Int × Int × Int × Int × Bool × Unit) → Bool → Bool → (List (Int × Int × Int × Unit)) → (List (Int × Int × Int × Int × Bool × Unit)) → Option Bool) : Option Bool := defers_List_Topv1.body defers_List_Depthv1 defers_row_api_Driver_lastv1 b379 ts380 ts381 k1
noncomputable def defers_List_Topv1.get (F : Bool → (List (Int × Int × Int × Unit)) → (List (Int × Int × Int × Int × Bool × Unit)) → ((Int × Int × Int × Int × Bool × Unit) → Bool → Bool → (List (Int × Int × Int × Unit)) → (List (Int × Int × Int × Int × Bool × Unit)) → Option Bool) → Option Bool) (e : Option Bool) (g : FuncId) (a : List AV) (h : Heap) (k : KR) : Option Bool := match g, a, h with
  | 13, [(.ptr [0, 0] 0 0)], [([0, 0], ⟨52, 3, (.mix [(.agg [(.ref [0, 1]), (.ref [0, 2]), (.d ⟨.bool, b379⟩)])])⟩), ([0, 1], ⟨33, 3, (.data (.st [(.int .i64), (.int .i64), (.int .i64)]) ts380)⟩), ([0, 2], ⟨35, 5, (.data (.st [(.int .i64), (.int .i64), (.int .i64), (.int .i64), .bool]) ts381)⟩)] => F b379 ts380 ts381 (fun y0 y1 y2 y3 y4 => k (.tup [(.d ⟨(.st [(.int .i64), (.int .i64), (.int .i64), (.int .i64), .bool]), y0⟩), (.d ⟨.bool, y1⟩)]) [([0, 0], ⟨52, 3, (.mix [(.agg [(.ref [0, 1]), (.ref [0, 2]), (.d ⟨.bool, y2⟩)])])⟩), ([0, 1], ⟨33, 3, (.data (.st [(.int .i64), (.int .i64), (.int .i64)]) y3)⟩), ([0, 2], ⟨35, 5, (.data (.st [(.int .i64), (.int .i64), (.int .i64), (.int .i64), .bool]) y4)⟩)])
  | _, _, _ => e
noncomputable def defers_List_Topv1.calls (F0 : Bool → (List (Int × Int × Int × Unit)) → (List (Int × Int × Int × Int × Bool × Unit)) → (Int → Bool → (List (Int × Int × Int × Unit)) → (List (Int × Int × Int × Int × Bool × Unit)) → Option Bool) → Option Bool) (F1 : Bool → (List (Int × Int × Int × Unit)) → (List (Int × Int × Int × Int × Bool × Unit)) → (Bool → (List (Int × Int × Int × Unit)) → (List (Int × Int × Int × Int × Bool × Unit)) → Option Bool) → (Nat → Bool → (List (Int × Int × Int × Unit)) → (List (Int × Int × Int × Int × Bool × Unit)) → Option Bool) → Option Bool) : RecF := fun g a h k => (defers_List_Depthv1.get F0 (defers_row_api_Driver_lastv1.get F1 none g a h k) g a h k)
noncomputable def defers_List_Topv1.loops : LoopF := fun b => none
set_option maxRecDepth 100000 in
theorem defers_List_Topv1.eq (F0 : Bool → (List (Int × Int × Int × Unit)) → (List (Int × Int × Int × Int × Bool × Unit)) → (Int → Bool → (List (Int × Int × Int × Unit)) → (List (Int × Int × Int × Int × Bool × Unit)) → Option Bool) → Option Bool) (F1 : Bool → (List (Int × Int × Int × Unit)) → (List (Int × Int × Int × Int × Bool × Unit)) → (Bool → (List (Int × Int × Int × Unit)) → (List (Int × Int × Int × Int × Bool × Unit)) → Option Bool) → (Nat → Bool → (List (Int × Int × Int × Unit)) → (List (Int × Int × Int × Int × Bool × Unit)) → Option Bool) → Option Bool) (b379 : Bool) (ts380 : List (Int × Int × Int × Unit)) (ts381 : List (Int × Int × Int × Int × Bool × Unit)) (k : KR) : execL Try.prog ht 13 (callfOf (defers_List_Topv1.calls F0 F1)) (defers_List_Topv1.loops) 0 (codeOf Try.f13) ⟨[(.ptr [0, 0] 0 0)] ++ List.replicate (Try.f13.ntmps - ([(.ptr [0, 0] 0 0)] : List AV).length) .undef, [([0, 0], ⟨52, 3, (.mix [(.agg [(.ref [0, 1]), (.ref [0, 2]), (.d ⟨.bool, b379⟩)])])⟩), ([0, 1], ⟨33, 3, (.data (.st [(.int .i64), (.int .i64), (.int .i64)]) ts380)⟩), ([0, 2], ⟨35, 5, (.data (.st [(.int .i64), (.int .i64), (.int .i64), (.int .i64), .bool]) ts381)⟩)], 2⟩ (leave Try.prog Try.f13 k) = defers_List_Topv1.body F0 F1 b379 ts380 ts381 (fun y0 y1 y2 y3 y4 => k (.tup [(.d ⟨(.st [(.int .i64), (.int .i64), (.int .i64), (.int .i64), .bool]), y0⟩), (.d ⟨.bool, y1⟩)]) [([0, 0], ⟨52, 3, (.mix [(.agg [(.ref [0, 1]), (.ref [0, 2]), (.d ⟨.bool, y2⟩)])])⟩), ([0, 1], ⟨33, 3, (.data (.st [(.int .i64), (.int .i64), (.int .i64)]) y3)⟩), ([0, 2], ⟨35, 5, (.data (.st [(.int .i64), (.int .i64), (.int .i64), (.int .i64), .bool]) y4)⟩)]) := by kernel_rfl
theorem defers_List_Topv1.ok (d : Nat) (hd : 3 ≤ d) (b379 : Bool) (ts380 : List (Int × Int × Int × Unit)) (ts381 : List (Int × Int × Int × Int × Bool × Unit)) (k : KR) (hx : defers_List_Topv1 b379 ts380 ts381 (fun y0 y1 y2 y3 y4 => k (.tup [(.d ⟨(.st [(.int .i64), (.int .i64), (.int .i64), (.int .i64), .bool]), y0⟩), (.d ⟨.bool, y1⟩)]) [([0, 0], ⟨52, 3, (.mix [(.agg [(.ref [0, 1]), (.ref [0, 2]), (.d ⟨.bool, y2⟩)])])⟩), ([0, 1], ⟨33, 3, (.data (.st [(.int .i64), (.int .i64), (.int .i64)]) y3)⟩), ([0, 2], ⟨35, 5, (.data (.st [(.int .i64), (.int .i64), (.int .i64), (.int .i64), .bool]) y4)⟩)]) = some true) : callK Try.prog ht d 13 [(.ptr [0, 0] 0 0)] [([0, 0], ⟨52, 3, (.mix [(.agg [(.ref [0, 1]), (.ref [0, 2]), (.d ⟨.bool, b379⟩)])])⟩), ([0, 1], ⟨33, 3, (.data (.st [(.int .i64), (.int .i64), (.int .i64)]) ts380)⟩), ([0, 2], ⟨35, 5, (.data (.st [(.int .i64), (.int .i64), (.int .i64), (.int .i64), .bool]) ts381)⟩)] k = some true := by
  obtain ⟨d, rfl⟩ : ∃ e, d = e + 1 := ⟨d - 1, by omega⟩
  exact fn_ok (c := codeOf Try.f13) Try.func13 (by kernel_rfl) (rec := defers_List_Topv1.calls defers_List_Depthv1 defers_row_api_Driver_lastv1) (fun g a h k hx => by
    rcases defers_List_Depthv1.look d (by omega) hx with hx | hx
    rotate_left
    · exact hx
    rcases defers_row_api_Driver_lastv1.look d (by omega) hx with hx | hx
    rotate_left
    · exact hx
    cases hx) (loopf := defers_List_Topv1.loops) (by
    have e : loopsOf (defers_List_Topv1.loops) 0 (codeOf Try.f13) = [] := by kernel_rfl
    rw [e]
    intro p hp
    cases hp) ((defers_List_Topv1.eq defers_List_Depthv1 defers_row_api_Driver_lastv1 b379 ts380 ts381 k).trans hx)
theorem defers_List_Topv1.look (d : Nat) (hd : 3 ≤ d) {e : Option Bool} {g : FuncId} {a : List AV} {h : Heap} {k : KR} (hx : defers_List_Topv1.get defers_List_Topv1 e g a h k = some true) : e = some true ∨ callK Try.prog ht d g a h k = some true := by
  unfold defers_List_Topv1.get at hx
  split at hx
  · exact .inr (defers_List_Topv1.ok d hd _ _ _ _ hx)
  · exact .inl hx
/-- function 21: sheerleg/sheerlegref40.Recover -/
noncomputable def ref40_Recover.body (ref40_Topv1 : ((List (Int × Int × Int × Unit)) × (List (Int × Int × Int × Int × Bool × Unit)) × Unit) → ((Int × Int × Int × Int × Bool × Unit) → Bool → Option Bool) → Option Bool) (ref40_Drivev1 : ((List (Int × Int × Int × Unit)) × (List (Int × Int × Int × Int × Bool × Unit)) × Unit) → (Int × Int × Int × Int × Bool × Unit) → ((List (Int × Int × Int × Unit)) → (List (Int × Int × Int × Int × Bool × Unit)) → Option Bool) → Option Bool) (t460 : (List (Int × Int × Int × Unit)) × (List (Int × Int × Int × Int × Bool × Unit)) × Unit) (k1 : ((List (Int × Int × Int × Unit)) × (List (Int × Int × Int × Int × Bool × Unit)) × Unit) → Int → Bool → Option Bool) : Option Bool :=
  (ref40_Topv1 t460
  (fun t461 b462 => (cond_ (! (! b462)) (cond_ (! (t461.2.2.1 != (2 : Int))) (cond_ t461.2.2.2.2.1 (k1 (t460.1, (t460.2.1, ())) (0 : Int) false) (cond_ ((true && (decide ((0 : Int) ≤ (IntKind.wrap .i64 ((((List.length t460.2.1) : Nat) : Int) - (1 : Int)))))) && (decide ((IntKind.wrap .i64 ((((List.length t460.2.1) : Nat) : Int) - (1 : Int))) ≤ (((List.length t460.2.1) : Nat) : Int)))) (ref40_Drivev1 (t460.1, ((List.take (Int.toNat ((IntKind.wrap .i64 ((((List.length t460.2.1) : Nat) : Int) - (1 : Int))) - (0 : Int))) (List.drop (0 : Nat) t460.2.1)), ())) (t461.1, (t461.2.1, (t461.2.2.1, (t461.2.2.2.1, (true, ())))))
  (fun l463 ts464 => (k1 (l463, (ts464, ())) (t461.1, (t461.2.1, (t461.2.2.1, (t461.2.2.2.1, (true, ()))))).2.2.2.1 true))) none)) (k1 (t460.1, (t460.2.1, ())) (0 : Int) false)) (k1 (t460.1, (t460.2.1, ())) (0 : Int) false))))
noncomputable def ref40_Recover (t460 : (List (Int × Int × Int × Unit)) × (List (Int × Int × Int × Int × Bool × Unit)) × Unit) (k1 : ((List (Int × Int × Int × Unit)) × (List (Int × Int × Int × Int × Bool × Unit)) × Unit) → Int → Bool → Option Bool) : Option Bool := ref40_Recover.body ref40_Topv1 ref40_Drivev1 t460 k1
noncomputable def ref40_Recover.get (F : ((List (Int × Int × Int × Unit)) × (List (Int × Int × Int × Int × Bool × Unit)) × Unit) → (((List (Int × Int × Int × Unit)) × (List (Int × Int × Int × Int × Bool × Unit)) × Unit) → Int → Bool → Option Bool) → Option Bool) (e : Option Bool) (g : FuncId) (a : List AV) (h : Heap) (k : KR) : Option Bool := match g, a, h with
  | 21, [(.d ⟨(.st [(.sl 33 (.st [(.int .i64), (.int .i64), (.int .i64)])), (.sl 35 (.st [(.int .i64), (.int .i64), (.int .i64), (.int .i64), .bool]))]), t460⟩)], [] => F t460 (fun y0 y1 y2 => k (.tup [(.d ⟨(.st [(.sl 33 (.st [(.int .i64), (.int .i64), (.int .i64)])), (.sl 35 (.st [(.int .i64), (.int .i64), (.int .i64), (.int .i64), .bool]))]), y0⟩), (.d ⟨(.int .i64), y1⟩), (.d ⟨.bool, y2⟩)]) [])
  | _, _, _ => e
noncomputable def ref40_Recover.calls (F0 : ((List (Int × Int × Int × Unit)) × (List (Int × Int × Int × Int × Bool × Unit)) × Unit) → ((Int × Int × Int × Int × Bool × Unit) → Bool → Option Bool) → Option Bool) (F1 : ((List (Int × Int × Int × Unit)) × (List (Int × Int × Int × Int × Bool × Unit)) × Unit) → (Int × Int × Int × Int × Bool × Unit) → ((List (Int × Int × Int × Unit)) → (List (Int × Int × Int × Int × Bool × Unit)) → Option Bool) → Option Bool) : RecF := fun g a h k => (ref40_Topv1.get F0 (ref40_Drivev1.get F1 none g a h k) g a h k)
noncomputable def ref40_Recover.loops : LoopF := fun b => none
set_option maxRecDepth 100000 in
theorem ref40_Recover.eq (F0 : ((List (Int × Int × Int × Unit)) × (List (Int × Int × Int × Int × Bool × Unit)) × Unit) → ((Int × Int × Int × Int × Bool × Unit) → Bool → Option Bool) → Option Bool) (F1 : ((List (Int × Int × Int × Unit)) × (List (Int × Int × Int × Int × Bool × Unit)) × Unit) → (Int × Int × Int × Int × Bool × Unit) → ((List (Int × Int × Int × Unit)) → (List (Int × Int × Int × Int × Bool × Unit)) → Option Bool) → Option Bool) (t460 : (List (Int × Int × Int × Unit)) × (List (Int × Int × Int × Int × Bool × Unit)) × Unit) (k : KR) : execL Try.prog ht 21 (callfOf (ref40_Recover.calls F0 F1)) (ref40_Recover.loops) 0 (codeOf Try.f21) ⟨[(.d ⟨(.st [(.sl 33 (.st [(.int .i64), (.int .i64), (.int .i64)])), (.sl 35 (.st [(.int .i64), (.int .i64), (.int .i64), (.int .i64), .bool]))]), t460⟩)] ++ List.replicate (Try.f21.ntmps - ([(.d ⟨(.st [(.sl 33 (.st [(.int .i64), (.int .i64), (.int .i64)])), (.sl 35 (.st [(.int .i64), (.int .i64), (.int .i64), (.int .i64), .bool]))]), t460⟩)] : List AV).length) .undef, [], 2⟩ (leave Try.prog Try.f21 k) = ref40_Recover.body F0 F1 t460 (fun y0 y1 y2 => k (.tup [(.d ⟨(.st [(.sl 33 (.st [(.int .i64), (.int .i64), (.int .i64)])), (.sl 35 (.st [(.int .i64), (.int .i64), (.int .i64), (.int .i64), .bool]))]), y0⟩), (.d ⟨(.int .i64), y1⟩), (.d ⟨.bool, y2⟩)]) []) := by kernel_rfl
theorem ref40_Recover.ok (d : Nat) (hd : 2 ≤ d) (t460 : (List (Int × Int × Int × Unit)) × (List (Int × Int × Int × Int × Bool × Unit)) × Unit) (k : KR) (hx : ref40_Recover t460 (fun y0 y1 y2 => k (.tup [(.d ⟨(.st [(.sl 33 (.st [(.int .i64), (.int .i64), (.int .i64)])), (.sl 35 (.st [(.int .i64), (.int .i64), (.int .i64), (.int .i64), .bool]))]), y0⟩), (.d ⟨(.int .i64), y1⟩), (.d ⟨.bool, y2⟩)]) []) = some true) : callK Try.prog ht d 21 [(.d ⟨(.st [(.sl 33 (.st [(.int .i64), (.int .i64), (.int .i64)])), (.sl 35 (.st [(.int .i64), (.int .i64), (.int .i64), (.int .i64), .bool]))]), t460⟩)] [] k = some true := by
  obtain ⟨d, rfl⟩ : ∃ e, d = e + 1 := ⟨d - 1, by omega⟩
  exact fn_ok (c := codeOf Try.f21) Try.func21 (by kernel_rfl) (rec := ref40_Recover.calls ref40_Topv1 ref40_Drivev1) (fun g a h k hx => by
    rcases ref40_Topv1.look d (by omega) hx with hx | hx
    rotate_left
    · exact hx
    rcases ref40_Drivev1.look d (by omega) hx with hx | hx
    rotate_left
    · exact hx
    cases hx) (loopf := ref40_Recover.loops) (by
    have e : loopsOf (ref40_Recover.loops) 0 (codeOf Try.f21) = [] := by kernel_rfl
    rw [e]
    intro p hp
    cases hp) ((ref40_Recover.eq ref40_Topv1 ref40_Drivev1 t460 k).trans hx)
theorem ref40_Recover.look (d : Nat) (hd : 2 ≤ d) {e : Option Bool} {g : FuncId} {a : List AV} {h : Heap} {k : KR} (hx : ref40_Recover.get ref40_Recover e g a h k = some true) : e = some true ∨ callK Try.prog ht d g a h k = some true := by
  unfold ref40_Recover.get at hx
  split at hx
  · exact .inr (ref40_Recover.ok d hd _ _ hx)
  · exact .inl hx
/-- function 14: (*sheerleg/defers.List).Recover -/
noncomputable def defers_List_Recoverv1.body (defers_List_Depthv1 : Bool → (List (Int × Int × Int × Unit)) → (List (Int × Int × Int × Int × Bool × Unit)) → (Int → Bool → (List (Int × Int × Int × Unit)) → (List (Int × Int × Int × Int × Bool × Unit)) → Option Bool) → Option Bool) (defers_row_api_Driver_lastv1 : Bool → (List (Int × Int × Int × Unit)) → (List (Int × Int × Int × Int × Bool × Unit)) → (Bool → (List (Int × Int × Int × Unit)) → (List (Int × Int × Int × Int × Bool × Unit)) → Option Bool) → (Nat → Bool → (List (Int × Int × Int × Unit)) → (List (Int × Int × Int × Int × Bool × Unit)) → Option Bool) → Option Bool) (b468 : Bool) (ts469 : List (Int × Int × Int × Unit)) (ts470 : List (Int × Int × Int × Int × Bool × Unit)) (k1 : Int → Bool → Bool → (List (Int × Int × Int × Unit)) → (List (Int × Int × Int × Int × Bool × Unit)) → Option Bool) : Option Bool :=
  (defers_List_Depthv1 b468 ts469 ts470
  (fun n471 b472 ts473 ts474 => (cond_ (n471 == (0 : Int)) (k1 (0 : Int) false b472 ts473 ts474) (defers_row_api_Driver_lastv1 b472 ts473 ts474
  (fun b475 ts476 ts477 => none)
  (fun m478 b479 ts480 ts481 => (cond_ (! ((List.getD ts481 m478 ((0 : Int), ((0 : Int), ((0 : Int), ((0 : Int), (false, ())))))).2.2.1 != (2 : Int))) (cond_ (List.getD ts481 m478 ((0 : Int), ((0 : Int), ((0 : Int), ((0 : Int), (false, ())))))).2.2.2.2.1 (k1 (0 : Int) false b479 ts480 ts481) (k1 (List.getD (List.set ts481 m478 ((List.getD ts481 m478 ((0 : Int), ((0 : Int), ((0 : Int), ((0 : Int), (false, ())))))).1, ((List.getD ts481 m478 ((0 : Int), ((0 : Int), ((0 : Int), ((0 : Int), (false, ())))))).2.1, ((List.getD ts481 m478 ((0 : Int), ((0 : Int), ((0 : Int), ((0 : Int), (false, ())))))).2.2.1, ((List.getD ts481 m478 ((0 : Int), ((0 : Int), ((0 : Int), ((0 : Int), (false, ())))))).2.2.2.1, (true, ())))))) m478 ((0 : Int), ((0 : Int), ((0 : Int), ((0 : Int), (false, ())))))).2.2.2.1 true b479 ts480 (List.set ts481 m478 ((List.getD ts481 m478 ((0 : Int), ((0 : Int), ((0 : Int), ((0 : Int), (false, ())))))).1, ((List.getD ts481 m478 ((0 : Int), ((0 : Int), ((0 : Int), ((0 : Int), (false, ())))))).2.1, ((List.getD ts481 m478 ((0 : Int), ((0 : Int), ((0 : Int), ((0 : Int), (false, ())))))).2.2.1, ((List.getD ts481 m478 ((0 : Int), ((0 : Int), ((0 : Int), ((0 : Int), (false, ())))))).2.2.2.1, (true, ())))))))) (k1 (0 : Int) false b479 ts480 ts481)))))))
noncomputable def defers_List_Recoverv1 (b468 : Bool) (ts469 : List (Int × Int × Int × Unit)) (ts470 : List (Int × Int × Int × Int × Bool × Unit)) (k1 : Int → Bool → Bool → (List (Int × Int × Int × Unit)) → (List (Int × Int × Int × Int × Bool × Unit)) → Option Bool) : Option Bool := defers_List_Recoverv1.body defers_List_Depthv1 defers_row_api_Driver_lastv1 b468 ts469 ts470 k1
noncomputable def defers_List_Recoverv1.get (F : Bool → (List (Int × Int × Int × Unit)) → (List (Int × Int × Int × Int × Bool × Unit)) → (Int → Bool → Bool → (List (Int × Int × Int × Unit)) → (List (Int × Int × Int × Int × Bool × Unit)) → Option Bool) → Option Bool) (e : Option Bool) (g : FuncId) (a : List AV) (h : Heap) (k : KR) : Option Bool := match g, a, h with
  | 14, [(.ptr [0, 0] 0 0)], [([0, 0], ⟨52, 3, (.mix [(.agg [(.ref [0, 1]), (.ref [0, 2]), (.d ⟨.bool, b468⟩)])])⟩), ([0, 1], ⟨33, 3, (.data (.st [(.int .i64), (.int .i64), (.int .i64)]) ts469)⟩), ([0, 2], ⟨35, 5, (.data (.st [(.int .i64), (.int .i64), (.int .i64), (.int .i64), .bool]) ts470)⟩)] => F b468 ts469 ts470 (fun y0 y1 y2 y3 y4 => k (.tup [(.d ⟨(.int .i64), y0⟩), (.d ⟨.bool, y1⟩)]) [([0, 0], ⟨52, 3, (.mix [(.agg [(.ref [0, 1]), (.ref [0, 2]), (.d ⟨.bool, y2⟩)])])⟩), ([0, 1], ⟨33, 3, (.data (.st [(.int .i64), (.int .i64), (.int .i64)]) y3)⟩), ([0, 2], ⟨35, 5, (.data (.st [(.int .i64), (.int .i64), (.int .i64), (.int .i64), .bool]) y4)⟩)])
  | _, _, _ => e
noncomputable def defers_List_Recoverv1.calls (F0 : Bool → (List (Int × Int × Int × Unit)) → (List (Int × Int × Int × Int × Bool × Unit)) → (Int → Bool → (List (Int × Int × Int × Unit)) → (List (Int × Int × Int × Int × Bool × Unit)) → Option Bool) → Option Bool) (F1 : Bool → (List (Int × Int × Int × Unit)) → (List (Int × Int × Int × Int × Bool × Unit)) → (Bool → (List (Int × Int × Int × Unit)) → (List (Int × Int × Int × Int × Bool × Unit)) → Option Bool) → (Nat → Bool → (List (Int × Int × Int × Unit)) → (List (Int × Int × Int × Int × Bool × Unit)) → Option Bool) → Option Bool) : RecF := fun g a h k => (defers_List_Depthv1.get F0 (defers_row_api_Driver_lastv1.get F1 none g a h k) g a h k)
noncomputable def defers_List_Recoverv1.loops : LoopF := fun b => none
set_option maxRecDepth 100000 in
theorem defers_List_Recoverv1.eq (F0 : Bool → (List (Int × Int × Int × Unit)) → (List (Int × Int × Int × Int × Bool × Unit)) → (Int → Bool → (List (Int × Int × Int × Unit)) → (List (Int × Int × Int × Int × Bool × Unit)) → Option Bool) → Option Bool) (F1 : Bool → (List (Int × Int × Int × Unit)) → (List (Int × Int × Int × Int × Bool × Unit)) → (Bool → (List (Int × Int × Int × Unit)) → (List (Int × Int × Int × Int × Bool × Unit)) → Option Bool) → (Nat → Bool → (List (Int × Int × Int × Unit)) → (List (Int × Int × Int × Int × Bool × Unit)) → Option Bool) → Option Bool) (b468 : Bool) (ts469 : List (Int × Int × Int × Unit)) (ts470 : List (Int × Int × Int × Int × Bool × Unit)) (k : KR) : execL Try.prog ht 14 (callfOf (defers_List_Recoverv1.calls F0 F1)) (defers_List_Recoverv1.loops) 0 (codeOf Try.f14) ⟨[(.ptr [0, 0] 0 0)] ++ List.replicate (Try.f14.ntmps - ([(.ptr [0, 0] 0 0)] : List AV).length) .undef, [([0, 0], ⟨52, 3, (.mix [(.agg [(.ref [0, 1]), (.ref [0, 2]), (.d ⟨.bool, b468⟩)])])⟩), ([0, 1], ⟨33, 3, (.data (.st [(.int .i64), (.int .i64), (.int .i64)]) ts469)⟩), ([0, 2], ⟨35, 5, (.data (.st [(.int .i64), (.int .i64), (.int .i64), (.int .i64), .bool]) ts470)⟩)], 2⟩ (leave Try.prog Try.f14 k) = defers_List_Recoverv1.body F0 F1 b468 ts469 ts470 (fun y0 y1 y2 y3 y4 => k (.tup [(.d ⟨(.int .i64), y0⟩), (.d ⟨.bool, y1⟩)]) [([0, 0], ⟨52, 3, (.mix [(.agg [(.ref [0, 1]), (.ref [0, 2]), (.d ⟨.bool, y2⟩)])])⟩), ([0, 1], ⟨33, 3, (.data (.st [(.int .i64), (.int .i64), (.int .i64)]) y3)⟩), ([0, 2], ⟨35, 5, (.data (.st [(.int .i64), (.int .i64), (.int .i64), (.int .i64), .bool]) y4)⟩)]) := by kernel_rfl
theorem defers_List_Recoverv1.ok (d : Nat) (hd : 3 ≤ d) (b468 : Bool) (ts469 : List (Int × Int × Int × Unit)) (ts470 : List (Int × Int × Int × Int × Bool × Unit)) (k : KR) (hx : defers_List_Recoverv1 b468 ts469 ts470 (fun y0 y1 y2 y3 y4 => k (.tup [(.d ⟨(.int .i64), y0⟩), (.d ⟨.bool, y1⟩)]) [([0, 0], ⟨52, 3, (.mix [(.agg [(.ref [0, 1]), (.ref [0, 2]), (.d ⟨.bool, y2⟩)])])⟩), ([0, 1], ⟨33, 3, (.data (.st [(.int .i64), (.int .i64), (.int .i64)]) y3)⟩), ([0, 2], ⟨35, 5, (.data (.st [(.int .i64), (.int .i64), (.int .i64), (.int .i64), .bool]) y4)⟩)]) = some true) : callK Try.prog ht d 14 [(.ptr [0, 0] 0 0)] [([0, 0], ⟨52, 3, (.mix [(.agg [(.ref [0, 1]), (.ref [0, 2]), (.d ⟨.bool, b468⟩)])])⟩), ([0, 1], ⟨33, 3, (.data (.st [(.int .i64), (.int .i64), (.int .i64)]) ts469)⟩), ([0, 2], ⟨35, 5, (.data (.st [(.int .i64), (.int .i64), (.int .i64), (.int .i64), .bool]) ts470)⟩)] k = some true := by
  obtain ⟨d, rfl⟩ : ∃ e, d = e + 1 := ⟨d - 1, by omega⟩
  exact fn_ok (c := codeOf Try.f14) Try.func14 (by kernel_rfl) (rec := defers_List_Recoverv1.calls defers_List_Depthv1 defers_row_api_Driver_lastv1) (fun g a h k hx => by
    rcases defers_List_Depthv1.look d (by omega) hx with hx | hx
    rotate_left
    · exact hx
    rcases defers_row_api_Driver_lastv1.look d (by omega) hx with hx | hx
    rotate_left
    · exact hx
    cases hx) (loopf := defers_List_Recoverv1.loops) (by
    have e : loopsOf (defers_List_Recoverv1.loops) 0 (codeOf Try.f14) = [] := by kernel_rfl
    rw [e]
    intro p hp
    cases hp) ((defers_List_Recoverv1.eq defers_List_Depthv1 defers_row_api_Driver_lastv1 b468 ts469 ts470 k).trans hx)
theorem defers_List_Recoverv1.look (d : Nat) (hd : 3 ≤ d) {e : Option Bool} {g : FuncId} {a : List AV} {h : Heap} {k : KR} (hx : defers_List_Recoverv1.get defers_List_Recoverv1 e g a h k = some true) : e = some true ∨ callK Try.prog ht d g a h k = some true := by
  unfold defers_List_Recoverv1.get at hx
  split at hx
  · exact .inr (defers_List_Recoverv1.ok d hd _ _ _ _ hx)
  · exact .inl hx
/-- function 22: sheerleg/sheerlegref40.Done -/
noncomputable def ref40_Donev1.body (ref40_Topv1 : ((List (Int × Int × Int × Unit)) × (List (Int × Int × Int × Int × Bool × Unit)) × Unit) → ((Int × Int × Int × Int × Bool × Unit) → Bool → Option Bool) → Option Bool) (t487 : (List (Int × Int × Int × Unit)) × (List (Int × Int × Int × Int × Bool × Unit)) × Unit) (k1 : ((List (Int × Int × Int × Unit)) × (List (Int × Int × Int × Int × Bool × Unit)) × Unit) → (Int × Int × Int × Int × Bool × Unit) → Bool → Option Bool) : Option Bool :=
  (ref40_Topv1 t487
  (fun t488 b489 => (cond_ b489 (cond_ ((true && (decide ((0 : Int) ≤ (IntKind.wrap .i64 ((((List.length t487.2.1) : Nat) : Int) - (1 : Int)))))) && (decide ((IntKind.wrap .i64 ((((List.length t487.2.1) : Nat) : Int) - (1 : Int))) ≤ (((List.length t487.2.1) : Nat) : Int)))) (k1 ((t487.1, ((List.take (Int.toNat ((IntKind.wrap .i64 ((((List.length t487.2.1) : Nat) : Int) - (1 : Int))) - (0 : Int))) (List.drop (0 : Nat) t487.2.1)), ())).1, ((t487.1, ((List.take (Int.toNat ((IntKind.wrap .i64 ((((List.length t487.2.1) : Nat) : Int) - (1 : Int))) - (0 : Int))) (List.drop (0 : Nat) t487.2.1)), ())).2.1, ())) t488 b489) none) (k1 (t487.1, (t487.2.1, ())) t488 b489))))
noncomputable def ref40_Donev1 (t487 : (List (Int × Int × Int × Unit)) × (List (Int × Int × Int × Int × Bool × Unit)) × Unit) (k1 : ((List (Int × Int × Int × Unit)) × (List (Int × Int × Int × Int × Bool × Unit)) × Unit) → (Int × Int × Int × Int × Bool × Unit) → Bool → Option Bool) : Option Bool := ref40_Donev1.body ref40_Topv1 t487 k1
noncomputable def ref40_Donev1.get (F : ((List (Int × Int × Int × Unit)) × (List (Int × Int × Int × Int × Bool × Unit)) × Unit) → (((List (Int × Int × Int × Unit)) × (List (Int × Int × Int × Int × Bool × Unit)) × Unit) → (Int × Int × Int × Int × Bool × Unit) → Bool → Option Bool) → Option Bool) (e : Option Bool) (g : FuncId) (a : List AV) (h : Heap) (k : KR) : Option Bool := match g, a, h with
  | 22, [(.d ⟨(.st [(.sl 33 (.st [(.int .i64), (.int .i64), (.int .i64)])), (.sl 35 (.st [(.int .i64), (.int .i64), (.int .i64), (.int .i64), .bool]))]), t487⟩)], [] => F t487 (fun y0 y1 y2 => k (.tup [(.d ⟨(.st [(.sl 33 (.st [(.int .i64), (.int .i64), (.int .i64)])), (.sl 35 (.st [(.int .i64), (.int .i64), (.int .i64), (.int .i64), .bool]))]), y0⟩), (.d ⟨(.st [(.int .i64), (.int .i64), (.int .i64), (.int .i64), .bool]), y1⟩), (.d ⟨.bool, y2⟩)]) [])
  | _, _, _ => e
noncomputable def ref40_Donev1.calls (F0 : ((List (Int × Int × Int × Unit)) × (List (Int × Int × Int × Int × Bool × Unit)) × Unit) → ((Int × Int × Int × Int × Bool × Unit) → Bool → Option Bool) → Option Bool) : RecF := fun g a h k => (ref40_Topv1.get F0 none g a h k)
noncomputable def ref40_Donev1.loops : LoopF := fun b => none
set_option maxRecDepth 100000 in
theorem ref40_Donev1.eq (F0 : ((List (Int × Int × Int × Unit)) × (List (Int × Int × Int × Int × Bool × Unit)) × Unit) → ((Int × Int × Int × Int × Bool × Unit) → Bool → Option Bool) → Option Bool) (t487 : (List (Int × Int × Int × Unit)) × (List (Int × Int × Int × Int × Bool × Unit)) × Unit) (k : KR) : execL Try.prog ht 22 (callfOf (ref40_Donev1.calls F0)) (ref40_Donev1.loops) 0 (codeOf Try.f22) ⟨[(.d ⟨(.st [(.sl 33 (.st [(.int .i64), (.int .i64), (.int .i64)])), (.sl 35 (.st [(.int .i64), (.int .i64), (.int .i64), (.int .i64), .bool]))]), t487⟩)] ++ List.replicate (Try.f22.ntmps - ([(.d ⟨(.st [(.sl 33 (.st [(.int .i64), (.int .i64), (.int .i64)])), (.sl 35 (.st [(.int .i64), (.int .i64), (.int .i64), (.int .i64), .bool]))]), t487⟩)] : List AV).length) .undef, [], 2⟩ (leave Try.prog Try.f22 k) = ref40_Donev1.body F0 t487 (fun y0 y1 y2 => k (.tup [(.d ⟨(.st [(.sl 33 (.st [(.int .i64), (.int .i64), (.int .i64)])), (.sl 35 (.st [(.int .i64), (.int .i64), (.int .i64), (.int .i64), .bool]))]), y0⟩), (.d ⟨(.st [(.int .i64), (.int .i64), (.int .i64), (.int .i64), .bool]), y1⟩), (.d ⟨.bool, y2⟩)]) []) := by kernel_rfl
theorem ref40_Donev1.ok (d : Nat) (hd : 2 ≤ d) (t487 : (List (Int × Int × Int × Unit)) × (List (Int × Int × Int × Int × Bool × Unit)) × Unit) (k : KR) (hx : ref40_Donev1 t487 (fun y0 y1 y2 => k (.tup [(.d ⟨(.st [(.sl 33 (.st [(.int .i64), (.int .i64), (.int .i64)])), (.sl 35 (.st [(.int .i64), (.int .i64), (.int .i64), (.int .i64), .bool]))]), y0⟩), (.d ⟨(.st [(.int .i64), (.int .i64), (.int .i64), (.int .i64), .bool]), y1⟩), (.d ⟨.bool, y2⟩)]) []) = some true) : callK Try.prog ht d 22 [(.d ⟨(.st [(.sl 33 (.st [(.int .i64), (.int .i64), (.int .i64)])), (.sl 35 (.st [(.int .i64), (.int .i64), (.int .i64), (.int .i64), .bool]))]), t487⟩)] [] k = some true := by
  obtain ⟨d, rfl⟩ : ∃ e, d = e + 1 := ⟨d - 1, by omega⟩
  exact fn_ok (c := codeOf Try.f22) Try.func22 (by kernel_rfl) (rec := ref40_Donev1.calls ref40_Topv1) (fun g a h k hx => by
    rcases ref40_Topv1.look d (by omega) hx with hx | hx
    rotate_left
    · exact hx
    cases hx) (loopf := ref40_Donev1.loops) (by
    have e : loopsOf (ref40_Donev1.loops) 0 (codeOf Try.f22) = [] := by kernel_rfl
    rw [e]
    intro p hp
    cases hp) ((ref40_Donev1.eq ref40_Topv1 t487 k).trans hx)
theorem ref40_Donev1.look (d : Nat) (hd : 2 ≤ d) {e : Option Bool} {g : FuncId} {a : List AV} {h : Heap} {k : KR} (hx : ref40_Donev1.get ref40_Donev1 e g a h k = some true) : e = some true ∨ callK Try.prog ht d g a h k = some true := by
  unfold ref40_Donev1.get at hx
  split at hx
  · exact .inr (ref40_Donev1.ok d hd _ _ hx)
  · exact .inl hx
/-- function 28: (*sheerleg/defers.row[sheerleg/api.Driver]).drop -/
noncomputable def defers_row_api_Driver_dropv1.body (b501 : Bool) (ts502 : List (Int × Int × Int × Unit)) (ts503 : List (Int × Int × Int × Int × Bool × Unit)) (k1 : Nat → Bool → (List (Int × Int × Int × Unit)) → (List (Int × Int × Int × Int × Bool × Unit)) → Option Bool) : Option Bool :=
  (cond_ ((true && (decide ((0 : Int) ≤ (IntKind.wrap .i64 ((((List.length ts503) : Nat) : Int) - (1 : Int)))))) && (decide ((IntKind.wrap .i64 ((((List.length ts503) : Nat) : Int) - (1 : Int))) ≤ (((List.length ts503) : Nat) : Int)))) (k1 (Int.toNat ((IntKind.wrap .i64 ((((List.length ts503) : Nat) : Int) - (1 : Int))) - (0 : Int))) b501 ts502 ts503) none)
noncomputable def defers_row_api_Driver_dropv1 (b501 : Bool) (ts502 : List (Int × Int × Int × Unit)) (ts503 : List (Int × Int × Int × Int × Bool × Unit)) (k1 : Nat → Bool → (List (Int × Int × Int × Unit)) → (List (Int × Int × Int × Int × Bool × Unit)) → Option Bool) : Option Bool := defers_row_api_Driver_dropv1.body b501 ts502 ts503 k1
noncomputable def defers_row_api_Driver_dropv1.get (F : Bool → (List (Int × Int × Int × Unit)) → (List (Int × Int × Int × Int × Bool × Unit)) → (Nat → Bool → (List (Int × Int × Int × Unit)) → (List (Int × Int × Int × Int × Bool × Unit)) → Option Bool) → Option Bool) (e : Option Bool) (g : FuncId) (a : List AV) (h : Heap) (k : KR) : Option Bool := match g, a, h with
  | 28, [(.ptr [0, 0] 0 1)], [([0, 0], ⟨52, 3, (.mix [(.agg [(.ref [0, 1]), (.ref [0, 2]), (.d ⟨.bool, b501⟩)])])⟩), ([0, 1], ⟨33, 3, (.data (.st [(.int .i64), (.int .i64), (.int .i64)]) ts502)⟩), ([0, 2], ⟨35, 5, (.data (.st [(.int .i64), (.int .i64), (.int .i64), (.int .i64), .bool]) ts503)⟩)] => F b501 ts502 ts503 (fun y0 y1 y2 y3 => k (.tup []) [([0, 0], ⟨52, 3, (.mix [(.agg [(.ref [0, 1]), (.cut [0, 2] 0 y0), (.d ⟨.bool, y1⟩)])])⟩), ([0, 1], ⟨33, 3, (.data (.st [(.int .i64), (.int .i64), (.int .i64)]) y2)⟩), ([0, 2], ⟨35, 5, (.data (.st [(.int .i64), (.int .i64), (.int .i64), (.int .i64), .bool]) y3)⟩)])
  | _, _, _ => e
noncomputable def defers_row_api_Driver_dropv1.calls : RecF := fun g a h k => none
noncomputable def defers_row_api_Driver_dropv1.loops : LoopF := fun b => none
set_option maxRecDepth 100000 in
theorem defers_row_api_Driver_dropv1.eq (b501 : Bool) (ts502 : List (Int × Int × Int × Unit)) (ts503 : List (Int × Int × Int × Int × Bool × Unit)) (k : KR) : execL Try.prog ht 28 (callfOf (defers_row_api_Driver_dropv1.calls)) (defers_row_api_Driver_dropv1.loops) 0 (codeOf Try.f28) ⟨[(.ptr [0, 0] 0 1)] ++ List.replicate (Try.f28.ntmps - ([(.ptr [0, 0] 0 1)] : List AV).length) .undef, [([0, 0], ⟨52, 3, (.mix [(.agg [(.ref [0, 1]), (.ref [0, 2]), (.d ⟨.bool, b501⟩)])])⟩), ([0, 1], ⟨33, 3, (.data (.st [(.int .i64), (.int .i64), (.int .i64)]) ts502)⟩), ([0, 2], ⟨35, 5, (.data (.st [(.int .i64), (.int .i64), (.int .i64), (.int .i64), .bool]) ts503)⟩)], 2⟩ (leave Try.prog Try.f28 k) = defers_row_api_Driver_dropv1.body b501 ts502 ts503 (fun y0 y1 y2 y3 => k (.tup []) [([0, 0], ⟨52, 3, (.mix [(.agg [(.ref [0, 1]), (.cut [0, 2] 0 y0), (.d ⟨.bool, y1⟩)])])⟩), ([0, 1], ⟨33, 3, (.data (.st [(.int .i64), (.int .i64), (.int .i64)]) y2)⟩), ([0, 2], ⟨35, 5, (.data (.st [(.int .i64), (.int .i64), (.int .i64), (.int .i64), .bool]) y3)⟩)]) := by kernel_rfl
theorem defers_row_api_Driver_dropv1.ok (d : Nat) (hd : 1 ≤ d) (b501 : Bool) (ts502 : List (Int × Int × Int × Unit)) (ts503 : List (Int × Int × Int × Int × Bool × Unit)) (k : KR) (hx : defers_row_api_Driver_dropv1 b501 ts502 ts503 (fun y0 y1 y2 y3 => k (.tup []) [([0, 0], ⟨52, 3, (.mix [(.agg [(.ref [0, 1]), (.cut [0, 2] 0 y0), (.d ⟨.bool, y1⟩)])])⟩), ([0, 1], ⟨33, 3, (.data (.st [(.int .i64), (.int .i64), (.int .i64)]) y2)⟩), ([0, 2], ⟨35, 5, (.data (.st [(.int .i64), (.int .i64), (.int .i64), (.int .i64), .bool]) y3)⟩)]) = some true) : callK Try.prog ht d 28 [(.ptr [0, 0] 0 1)] [([0, 0], ⟨52, 3, (.mix [(.agg [(.ref [0, 1]), (.ref [0, 2]), (.d ⟨.bool, b501⟩)])])⟩), ([0, 1], ⟨33, 3, (.data (.st [(.int .i64), (.int .i64), (.int .i64)]) ts502)⟩), ([0, 2], ⟨35, 5, (.data (.st [(.int .i64), (.int .i64), (.int .i64), (.int .i64), .bool]) ts503)⟩)] k = some true := by
  obtain ⟨d, rfl⟩ : ∃ e, d = e + 1 := ⟨d - 1, by omega⟩
  exact fn_ok (c := codeOf Try.f28) Try.func28 (by kernel_rfl) (rec := defers_row_api_Driver_dropv1.calls) (fun g a h k hx => by
    cases hx) (loopf := defers_row_api_Driver_dropv1.loops) (by
    have e : loopsOf (defers_row_api_Driver_dropv1.loops) 0 (codeOf Try.f28) = [] := by kernel_rfl
    rw [e]
    intro p hp
    cases hp) ((defers_row_api_Driver_dropv1.eq b501 ts502 ts503 k).trans hx)
theorem defers_row_api_Driver_dropv1.look (d : Nat) (hd : 1 ≤ d) {e : Option Bool} {g : FuncId} {a : List AV} {h : Heap} {k : KR} (hx : defers_row_api_Driver_dropv1.get defers_row_api_Driver_dropv1 e g a h k = some true) : e = some true ∨ callK Try.prog ht d g a h k = some true := by
  unfold defers_row_api_Driver_dropv1.get at hx
  split at hx
  · exact .inr (defers_row_api_Driver_dropv1.ok d hd _ _ _ _ hx)
  · exact .inl hx
/-- function 15: (*sheerleg/defers.List).Done -/
noncomputable def defers_List_Done.body (defers_List_Topv1 : Bool → (List (Int × Int × Int × Unit)) → (List (Int × Int × Int × Int × Bool × Unit)) → ((Int × Int × Int × Int × Bool × Unit) → Bool → Bool → (List (Int × Int × Int × Unit)) → (List (Int × Int × Int × Int × Bool × Unit)) → Option Bool) → Option Bool) (defers_row_api_Driver_dropv1 : Bool → (List (Int × Int × Int × Unit)) → (List (Int × Int × Int × Int × Bool × Unit)) → (Nat → Bool → (List (Int × Int × Int × Unit)) → (List (Int × Int × Int × Int × Bool × Unit)) → Option Bool) → Option Bool) (b573 : Bool) (ts574 : List (Int × Int × Int × Unit)) (ts575 : List (Int × Int × Int × Int × Bool × Unit)) (k1 : (Int × Int × Int × Int × Bool × Unit) → Bool → Bool → (List (Int × Int × Int × Unit)) → (List (Int × Int × Int × Int × Bool × Unit)) → Option Bool) (k2 : (Int × Int × Int × Int × Bool × Unit) → Bool → Bool → (List (Int × Int × Int × Unit)) → (List (Int × Int × Int × Int × Bool × Unit)) → Option Bool) : Option Bool :=
  (defers_List_Topv1 b573 ts574 ts575
  (fun t576 b577 b578 ts579 ts580 => (cond_ b577 (defers_row_api_Driver_dropv1 b578 ts579 ts580
  (fun m581 b582 ts583 ts584 => (k1 t576 b577 b582 ts583 (List.take m581 ts584)))) (k2 t576 b577 b578 ts579 ts580))))
noncomputable def defers_List_Done (b573 : Bool) (ts574 : List (Int × Int × Int × Unit)) (ts575 : List (Int × Int × Int × Int × Bool × Unit)) (k1 : (Int × Int × Int × Int × Bool × Unit) → Bool → Bool → (List (Int × Int × Int × Unit)) → (List (Int × Int × Int × Int × Bool × Unit)) → Option Bool) (k2 : (Int × Int × Int × Int × Bool × Unit) → Bool → Bool → (List (Int × Int × Int × Unit)) → (List (Int × Int × Int × Int × Bool × Unit)) → Option Bool) : Option Bool := defers_List_Done.body defers_List_Topv1 defers_row_api_Driver_dropv1 b573 ts574 ts575 k1 k2
noncomputable def defers_List_Done.get (F : Bool → (List (Int × Int × Int × Unit)) → (List (Int × Int × Int × Int × Bool × Unit)) → ((Int × Int × Int × Int × Bool × Unit) → Bool → Bool → (List (Int × Int × Int × Unit)) → (List (Int × Int × Int × Int × Bool × Unit)) → Option Bool) → ((Int × Int × Int × Int × Bool × Unit) → Bool → Bool → (List (Int × Int × Int × Unit)) → (List (Int × Int × Int × Int × Bool × Unit)) → Option Bool) → Option Bool) (e : Option Bool) (g : FuncId) (a : List AV) (h : Heap) (k : KR) : Option Bool := match g, a, h with
  | 15, [(.ptr [0, 0] 0 0)], [([0, 0], ⟨52, 3, (.mix [(.agg [(.ref [0, 1]), (.ref [0, 2]), (.d ⟨.bool, b573⟩)])])⟩), ([0, 1], ⟨33, 3, (.data (.st [(.int .i64), (.int .i64), (.int .i64)]) ts574)⟩), ([0, 2], ⟨35, 5, (.data (.st [(.int .i64), (.int .i64), (.int .i64), (.int .i64), .bool]) ts575)⟩)] => F b573 ts574 ts575 (fun y0 y1 y2 y3 y4 => k (.tup [(.d ⟨(.st [(.int .i64), (.int .i64), (.int .i64), (.int .i64), .bool]), y0⟩), (.d ⟨.bool, y1⟩)]) [([0, 0], ⟨52, 3, (.mix [(.agg [(.ref [0, 1]), (.ref [1, 0]), (.d ⟨.bool, y2⟩)])])⟩), ([0, 1], ⟨33, 3, (.data (.st [(.int .i64), (.int .i64), (.int .i64)]) y3)⟩), ([1, 0], ⟨35, 5, (.data (.st [(.int .i64), (.int .i64), (.int .i64), (.int .i64), .bool]) y4)⟩)]) (fun y0 y1 y2 y3 y4 => k (.tup [(.d ⟨(.st [(.int .i64), (.int .i64), (.int .i64), (.int .i64), .bool]), y0⟩), (.d ⟨.bool, y1⟩)]) [([0, 0], ⟨52, 3, (.mix [(.agg [(.ref [0, 1]), (.ref [0, 2]), (.d ⟨.bool, y2⟩)])])⟩), ([0, 1], ⟨33, 3, (.data (.st [(.int .i64), (.int .i64), (.int .i64)]) y3)⟩), ([0, 2], ⟨35, 5, (.data (.st [(.int .i64), (.int .i64), (.int .i64), (.int .i64), .bool]) y4)⟩)])
  | _, _, _ => e
noncomputable def defers_List_Done.calls (F0 : Bool → (List (Int × Int × Int × Unit)) → (List (Int × Int × Int × Int × Bool × Unit)) → ((Int × Int × Int × Int × Bool × Unit) → Bool → Bool → (List (Int × Int × Int × Unit)) → (List (Int × Int × Int × Int × Bool × Unit)) → Option Bool) → Option Bool) (F1 : Bool → (List (Int × Int × Int × Unit)) → (List (Int × Int × Int × Int × Bool × Unit)) → (Nat → Bool → (List (Int × Int × Int × Unit)) → (List (Int × Int × Int × Int × Bool × Unit)) → Option Bool) → Option Bool) : RecF := fun g a h k => (defers_List_Topv1.get F0 (defers_row_api_Driver_dropv1.get F1 none g a h k) g a h k)
noncomputable def defers_List_Done.loops : LoopF := fun b => none
set_option maxRecDepth 100000 in
theorem defers_List_Done.eq (F0 : Bool → (List (Int × Int × Int × Unit)) → (List (Int × Int × Int × Int × Bool × Unit)) → ((Int × Int × Int × Int × Bool × Unit) → Bool → Bool → (List (Int × Int × Int × Unit)) → (List (Int × Int × Int × Int × Bool × Unit)) → Option Bool) → Option Bool) (F1 : Bool → (List (Int × Int × Int × Unit)) → (List (Int × Int × Int × Int × Bool × Unit)) → (Nat → Bool → (List (Int × Int × Int × Unit)) → (List (Int × Int × Int × Int × Bool × Unit)) → Option Bool) → Option Bool) (b573 : Bool) (ts574 : List (Int × Int × Int × Unit)) (ts575 : List (Int × Int × Int × Int × Bool × Unit)) (k : KR) : execL Try.prog ht 15 (callfOf (defers_List_Done.calls F0 F1)) (defers_List_Done.loops) 0 (codeOf Try.f15) ⟨[(.ptr [0, 0] 0 0)] ++ List.replicate (Try.f15.ntmps - ([(.ptr [0, 0] 0 0)] : List AV).length) .undef, [([0, 0], ⟨52, 3, (.mix [(.agg [(.ref [0, 1]), (.ref [0, 2]), (.d ⟨.bool, b573⟩)])])⟩), ([0, 1], ⟨33, 3, (.data (.st [(.int .i64), (.int .i64), (.int .i64)]) ts574)⟩), ([0, 2], ⟨35, 5, (.data (.st [(.int .i64), (.int .i64), (.int .i64), (.int .i64), .bool]) ts575)⟩)], 2⟩ (leave Try.prog Try.f15 k) = defers_List_Done.body F0 F1 b573 ts574 ts575 (fun y0 y1 y2 y3 y4 => k (.tup [(.d ⟨(.st [(.int .i64), (.int .i64), (.int .i64), (.int .i64), .bool]), y0⟩), (.d ⟨.bool, y1⟩)]) [([0, 0], ⟨52, 3, (.mix [(.agg [(.ref [0, 1]), (.ref [1, 0]), (.d ⟨.bool, y2⟩)])])⟩), ([0, 1], ⟨33, 3, (.data (.st [(.int .i64), (.int .i64), (.int .i64)]) y3)⟩), ([1, 0], ⟨35, 5, (.data (.st [(.int .i64), (.int .i64), (.int .i64), (.int .i64), .bool]) y4)⟩)]) (fun y0 y1 y2 y3 y4 => k (.tup [(.d ⟨(.st [(.int .i64), (.int .i64), (.int .i64), (.int .i64), .bool]), y0⟩), (.d ⟨.bool, y1⟩)]) [([0, 0], ⟨52, 3, (.mix [(.agg [(.ref [0, 1]), (.ref [0, 2]), (.d ⟨.bool, y2⟩)])])⟩), ([0, 1], ⟨33, 3, (.data (.st [(.int .i64), (.int .i64), (.int .i64)]) y3)⟩), ([0, 2], ⟨35, 5, (.data (.st [(.int .i64), (.int .i64), (.int .i64), (.int .i64), .bool]) y4)⟩)]) := by kernel_rfl
theorem defers_List_Done.ok (d : Nat) (hd : 4 ≤ d) (b573 : Bool) (ts574 : List (Int × Int × Int × Unit)) (ts575 : List (Int × Int × Int × Int × Bool × Unit)) (k : KR) (hx : defers_List_Done b573 ts574 ts575 (fun y0 y1 y2 y3 y4 => k (.tup [(.d ⟨(.st [(.int .i64), (.int .i64), (.int .i64), (.int .i64), .bool]), y0⟩), (.d ⟨.bool, y1⟩)]) [([0, 0], ⟨52, 3, (.mix [(.agg [(.ref [0, 1]), (.ref [1, 0]), (.d ⟨.bool, y2⟩)])])⟩), ([0, 1], ⟨33, 3, (.data (.st [(.int .i64), (.int .i64), (.int .i64)]) y3)⟩), ([1, 0], ⟨35, 5, (.data (.st [(.int .i64), (.int .i64), (.int .i64), (.int .i64), .bool]) y4)⟩)]) (fun y0 y1 y2 y3 y4 => k (.tup [(.d ⟨(.st [(.int .i64), (.int .i64), (.int .i64), (.int .i64), .bool]), y0⟩), (.d ⟨.bool, y1⟩)]) [([0, 0], ⟨52, 3, (.mix [(.agg [(.ref [0, 1]), (.ref [0, 2]), (.d ⟨.bool, y2⟩)])])⟩), ([0, 1], ⟨33, 3, (.data (.st [(.int .i64), (.int .i64), (.int .i64)]) y3)⟩), ([0, 2], ⟨35, 5, (.data (.st [(.int .i64), (.int .i64), (.int .i64), (.int .i64), .bool]) y4)⟩)]) = some true) : callK Try.prog ht d 15 [(.ptr [0, 0] 0 0)] [([0, 0], ⟨52, 3, (.mix [(.agg [(.ref [0, 1]), (.ref [0, 2]), (.d ⟨.bool, b573⟩)])])⟩), ([0, 1], ⟨33, 3, (.data (.st [(.int .i64), (.int .i64), (.int .i64)]) ts574)⟩), ([0, 2], ⟨35, 5, (.data (.st [(.int .i64), (.int .i64), (.int .i64), (.int .i64), .bool]) ts575)⟩)] k = some true := by
  obtain ⟨d, rfl⟩ : ∃ e, d = e + 1 := ⟨d - 1, by omega⟩
  exact fn_ok (c := codeOf Try.f15) Try.func15 (by kernel_rfl) (rec := defers_List_Done.calls defers_List_Topv1 defers_row_api_Driver_dropv1) (fun g a h k hx => by
    rcases defers_List_Topv1.look d (by omega) hx with hx | hx
    rotate_left
    · exact hx
    rcases defers_row_api_Driver_dropv1.look d (by omega) hx with hx | hx
    rotate_left
    · exact hx
    cases hx) (loopf := defers_List_Done.loops) (by
    have e : loopsOf (defers_List_Done.loops) 0 (codeOf Try.f15) = [] := by kernel_rfl
    rw [e]
    intro p hp
    cases hp) ((defers_List_Done.eq defers_List_Topv1 defers_row_api_Driver_dropv1 b573 ts574 ts575 k).trans hx)
theorem defers_List_Done.look (d : Nat) (hd : 4 ≤ d) {e : Option Bool} {g : FuncId} {a : List AV} {h : Heap} {k : KR} (hx : defers_List_Done.get defers_List_Done e g a h k = some true) : e = some true ∨ callK Try.prog ht d g a h k = some true := by
  unfold defers_List_Done.get at hx
  split at hx
  · exact .inr (defers_List_Done.ok d hd _ _ _ _ hx)
  · exact .inl hx
/-- function 8: sheerleg/sheerleglaw40.play -/
noncomputable def law40_play.body (ref40_Put : ((List (Int × Int × Int × Unit)) × (List (Int × Int × Int × Int × Bool × Unit)) × Unit) → (Int × Int × Int × Unit) → (((List (Int × Int × Int × Unit)) × (List (Int × Int × Int × Int × Bool × Unit)) × Unit) → Bool → Option Bool) → Option Bool) (defers_List_Putv1 : (Int × Int × Int × Unit) → Bool → (List (Int × Int × Int × Unit)) → (List (Int × Int × Int × Int × Bool × Unit)) → (Bool → Bool → (List (Int × Int × Int × Unit)) → (List (Int × Int × Int × Int × Bool × Unit)) → Option Bool) → (Bool → Bool → (List (Int × Int × Int × Int × Bool × Unit)) → (List (Int × Int × Int × Unit)) → Option Bool) → Option Bool) (ref40_Takev1 : ((List (Int × Int × Int × Unit)) × (List (Int × Int × Int × Int × Bool × Unit)) × Unit) → Int → (((List (Int × Int × Int × Unit)) × (List (Int × Int × Int × Int × Bool × Unit)) × Unit) → (Int × Int × Int × Unit) → Bool → Option Bool) → Option Bool) (defers_List_Take : Int → Bool → (List (Int × Int × Int × Unit)) → (List (Int × Int × Int × Int × Bool × Unit)) → ((Int × Int × Int × Unit) → Bool → Bool → (List (Int × Int × Int × Unit)) → (List (Int × Int × Int × Int × Bool × Unit)) → Option Bool) → ((Int × Int × Int × Unit) → Bool → Bool → (List (Int × Int × Int × Int × Bool × Unit)) → (List (Int × Int × Int × Unit)) → Option Bool) → Option Bool) (ref40_Drivev1 : ((List (Int × Int × Int × Unit)) × (List (Int × Int × Int × Int × Bool × Unit)) × Unit) → (Int × Int × Int × Int × Bool × Unit) → ((List (Int × Int × Int × Unit)) → (List (Int × Int × Int × Int × Bool × Unit)) → Option Bool) → Option Bool) (defers_List_Drivev1 : (Int × Int × Int × Int × Bool × Unit) → Bool → (List (Int × Int × Int × Unit)) → (List (Int × Int × Int × Int × Bool × Unit)) → (Bool → Bool → (List (Int × Int × Int × Unit)) → (List (Int × Int × Int × Int × Bool × Unit)) → Option Bool) → (Bool → Bool → (List (Int × Int × Int × Unit)) → (List (Int × Int × Int × Int × Bool × Unit)) → Option Bool) → Option Bool) (ref40_Topv1 : ((List (Int × Int × Int × Unit)) × (List (Int × Int × Int × Int × Bool × Unit)) × Unit) → ((Int × Int × Int × Int × Bool × Unit) → Bool → Option Bool) → Option Bool) (defers_List_Topv1 : Bool → (List (Int × Int × Int × Unit)) → (List (Int × Int × Int × Int × Bool × Unit)) → ((Int × Int × Int × Int × Bool × Unit) → Bool → Bool → (List (Int × Int × Int × Unit)) → (List (Int × Int × Int × Int × Bool × Unit)) → Option Bool) → Option Bool) (ref40_Recover : ((List (Int × Int × Int × Unit)) × (List (Int × Int × Int × Int × Bool × Unit)) × Unit) → (((List (Int × Int × Int × Unit)) × (List (Int × Int × Int × Int × Bool × Unit)) × Unit) → Int → Bool → Option Bool) → Option Bool) (defers_List_Recoverv1 : Bool → (List (Int × Int × Int × Unit)) → (List (Int × Int × Int × Int × Bool × Unit)) → (Int → Bool → Bool → (List (Int × Int × Int × Unit)) → (List (Int × Int × Int × Int × Bool × Unit)) → Option Bool) → Option Bool) (ref40_Donev1 : ((List (Int × Int × Int × Unit)) × (List (Int × Int × Int × Int × Bool × Unit)) × Unit) → (((List (Int × Int × Int × Unit)) × (List (Int × Int × Int × Int × Bool × Unit)) × Unit) → (Int × Int × Int × Int × Bool × Unit) → Bool → Option Bool) → Option Bool) (defers_List_Done : Bool → (List (Int × Int × Int × Unit)) → (List (Int × Int × Int × Int × Bool × Unit)) → ((Int × Int × Int × Int × Bool × Unit) → Bool → Bool → (List (Int × Int × Int × Unit)) → (List (Int × Int × Int × Int × Bool × Unit)) → Option Bool) → ((Int × Int × Int × Int × Bool × Unit) → Bool → Bool → (List (Int × Int × Int × Unit)) → (List (Int × Int × Int × Int × Bool × Unit)) → Option Bool) → Option Bool) (t517 : (List (Int × Int × Int × Unit)) × (List (Int × Int × Int × Int × Bool × Unit)) × Unit) (t518 : Int × Int × Int × Int × Int × Int × Int × Int × Bool × Unit) (b519 : Bool) (ts520 : List (Int × Int × Int × Unit)) (ts521 : List (Int × Int × Int × Int × Bool × Unit)) (k1 : ((List (Int × Int × Int × Unit)) × (List (Int × Int × Int × Int × Bool × Unit)) × Unit) → Bool → Bool → (List (Int × Int × Int × Unit)) → (List (Int × Int × Int × Int × Bool × Unit)) → Option Bool) (k2 : ((List (Int × Int × Int × Unit)) × (List (Int × Int × Int × Int × Bool × Unit)) × Unit) → Bool → Bool → (List (Int × Int × Int × Int × Bool × Unit)) → (List (Int × Int × Int × Unit)) → Option Bool) (k3 : ((List (Int × Int × Int × Unit)) × (List (Int × Int × Int × Int × Bool × Unit)) × Unit) → Bool → Bool → (List (Int × Int × Int × Unit)) → (List (Int × Int × Int × Int × Bool × Unit)) → Option Bool) : Option Bool :=
  (cond_ (t518.1 == (0 : Int)) (ref40_Put t517 (t518.2.1, (t518.2.2.1, (t518.2.2.2.1, ())))
  (fun t522 b523 => (defers_List_Putv1 (t518.2.1, (t518.2.2.1, (t518.2.2.2.1, ()))) b519 ts520 ts521
  (fun b524 b525 ts526 ts527 => (k1 (t522.1, (t522.2.1, ())) (b524 == b523) b525 ts526 ts527))
  (fun b528 b529 ts530 ts531 => (k2 (t522.1, (t522.2.1, ())) (b528 == b523) b529 ts530 ts531))))) (cond_ (t518.1 == (1 : Int)) (ref40_Takev1 t517 t518.2.1
  (fun t532 t533 b534 => (defers_List_Take t518.2.1 b519 ts520 ts521
  (fun t535 b536 b537 ts538 ts539 => (cond_ ((t533.1 == t535.1) && ((t533.2.1 == t535.2.1) && ((t533.2.2.1 == t535.2.2.1) && true))) (k1 (t532.1, (t532.2.1, ())) (b534 == b536) b537 ts538 ts539) (k1 (t532.1, (t532.2.1, ())) false b537 ts538 ts539)))
  (fun t540 b541 b542 ts543 ts544 => (cond_ ((t533.1 == t540.1) && ((t533.2.1 == t540.2.1) && ((t533.2.2.1 == t540.2.2.1) && true))) (k2 (t532.1, (t532.2.1, ())) (b534 == b541) b542 ts543 ts544) (k2 (t532.1, (t532.2.1, ())) false b542 ts543 ts544)))))) (cond_ (t518.1 == (2 : Int)) (ref40_Drivev1 t517 (t518.2.2.2.2.1, (t518.2.2.2.2.2.1, (t518.2.2.2.2.2.2.1, (t518.2.2.2.2.2.2.2.1, (t518.2.2.2.2.2.2.2.2.1, ())))))
  (fun l545 ts546 => (defers_List_Drivev1 (t518.2.2.2.2.1, (t518.2.2.2.2.2.1, (t518.2.2.2.2.2.2.1, (t518.2.2.2.2.2.2.2.1, (t518.2.2.2.2.2.2.2.2.1, ()))))) b519 ts520 ts521
  (fun b547 b548 ts549 ts550 => (k1 (l545, (ts546, ())) b547 b548 ts549 ts550))
  (fun b551 b552 ts553 ts554 => (k3 (l545, (ts546, ())) b551 b552 ts553 ts554))))) (cond_ (t518.1 == (3 : Int)) (ref40_Topv1 t517
  (fun t555 b556 => (defers_List_Topv1 b519 ts520 ts521
  (fun t557 b558 b559 ts560 ts561 => (cond_ ((t555.1 == t557.1) && ((t555.2.1 == t557.2.1) && ((t555.2.2.1 == t557.2.2.1) && ((t555.2.2.2.1 == t557.2.2.2.1) && ((t555.2.2.2.2.1 == t557.2.2.2.2.1) && true))))) (k1 (t517.1, (t517.2.1, ())) (b556 == b558) b559 ts560 ts561) (k1 (t517.1, (t517.2.1, ())) false b559 ts560 ts561)))))) (cond_ (t518.1 == (4 : Int)) (ref40_Recover t517
  (fun t562 n563 b564 => (defers_List_Recoverv1 b519 ts520 ts521
  (fun n565 b566 b567 ts568 ts569 => (cond_ (n563 == n565) (k1 (t562.1, (t562.2.1, ())) (b564 == b566) b567 ts568 ts569) (k1 (t562.1, (t562.2.1, ())) false b567 ts568 ts569)))))) (ref40_Donev1 t517
  (fun t570 t571 b572 => (defers_List_Done b519 ts520 ts521
  (fun t585 b586 b587 ts588 ts589 => (cond_ ((t571.1 == t585.1) && ((t571.2.1 == t585.2.1) && ((t571.2.2.1 == t585.2.2.1) && ((t571.2.2.2.1 == t585.2.2.2.1) && ((t571.2.2.2.2.1 == t585.2.2.2.2.1) && true))))) (k3 (t570.1, (t570.2.1, ())) (b572 == b586) b587 ts588 ts589) (k3 (t570.1, (t570.2.1, ())) false b587 ts588 ts589)))
  (fun t590 b591 b592 ts593 ts594 => (cond_ ((t571.1 == t590.1) && ((t571.2.1 == t590.2.1) && ((t571.2.2.1 == t590.2.2.1) && ((t571.2.2.2.1 == t590.2.2.2.1) && ((t571.2.2.2.2.1 == t590.2.2.2.2.1) && true))))) (k1 (t570.1, (t570.2.1, ())) (b572 == b591) b592 ts593 ts594) (k1 (t570.1, (t570.2.1, ())) false b592 ts593 ts594)))))))))))
noncomputable def law40_play (t517 : (List (Int × Int × Int × Unit)) × (List (Int × Int × Int × Int × Bool × Unit)) × Unit) (t518 : Int × Int × Int × Int × Int × Int × Int × Int × Bool × Unit) (b519 : Bool) (ts520 : List (Int × Int × Int × Unit)) (ts521 : List (Int × Int × Int × Int × Bool × Unit)) (k1 : ((List (Int × Int × Int × Unit)) × (List (Int × Int × Int × Int × Bool × Unit)) × Unit) → Bool → Bool → (List (Int × Int × Int × Unit)) → (List (Int × Int × Int × Int × Bool × Unit)) → Option Bool) (k2 : ((List (Int × Int × Int × Unit)) × (List (Int × Int × Int × Int × Bool × Unit)) × Unit) → Bool → Bool → (List (Int × Int × Int × Int × Bool × Unit)) → (List (Int × Int × Int × Unit)) → Option Bool) (k3 : ((List (Int × Int × Int × Unit)) × (List (Int × Int × Int × Int × Bool × Unit)) × Unit) → Bool → Bool → (List (Int × Int × Int × Unit)) → (List (Int × Int × Int × Int × Bool × Unit)) → Option Bool) : Option Bool := law40_play.body ref40_Put defers_List_Putv1 ref40_Takev1 defers_List_Take ref40_Drivev1 defers_List_Drivev1 ref40_Topv1 defers_List_Topv1 ref40_Recover defers_List_Recoverv1 ref40_Donev1 defers_List_Done t517 t518 b519 ts520 ts521 k1 k2 k3
noncomputable def law40_play.get (F : ((List (Int × Int × Int × Unit)) × (List (Int × Int × Int × Int × Bool × Unit)) × Unit) → (Int × Int × Int × Int × Int × Int × Int × Int × Bool × Unit) → Bool → (List (Int × Int × Int × Unit)) → (List (Int × Int × Int × Int × Bool × Unit)) → (((List (Int × Int × Int × Unit)) × (List (Int × Int × Int × Int × Bool × Unit)) × Unit) → Bool → Bool → (List (Int × Int × Int × Unit)) → (List (Int × Int × Int × Int × Bool × Unit)) → Option Bool) → (((List (Int × Int × Int × Unit)) × (List (Int × Int × Int × Int × Bool × Unit)) × Unit) → Bool → Bool → (List (Int × Int × Int × Int × Bool × Unit)) → (List (Int × Int × Int × Unit)) → Option Bool) → (((List (Int × Int × Int × Unit)) × (List (Int × Int × Int × Int × Bool × Unit)) × Unit) → Bool → Bool → (List (Int × Int × Int × Unit)) → (List (Int × Int × Int × Int × Bool × Unit)) → Option Bool) → Option Bool) (e : Option Bool) (g : FuncId) (a : List AV) (h : Heap) (k : KR) : Option Bool := match g, a, h with
  | 8, [(.ptr [0, 0] 0 0), (.d ⟨(.st [(.sl 33 (.st [(.int .i64), (.int .i64), (.int .i64)])), (.sl 35 (.st [(.int .i64), (.int .i64), (.int .i64), (.int .i64), .bool]))]), t517⟩), (.d ⟨(.st [(.int .i64), (.int .i64), (.int .i64), (.int .i64), (.int .i64), (.int .i64), (.int .i64), (.int .i64), .bool]), t518⟩)], [([0, 0], ⟨52, 3, (.mix [(.agg [(.ref [0, 1]), (.ref [0, 2]), (.d ⟨.bool, b519⟩)])])⟩), ([0, 1], ⟨33, 3, (.data (.st [(.int .i64), (.int .i64), (.int .i64)]) ts520)⟩), ([0, 2], ⟨35, 5, (.data (.st [(.int .i64), (.int .i64), (.int .i64), (.int .i64), .bool]) ts521)⟩)] => F t517 t518 b519 ts520 ts521 (fun y0 y1 y2 y3 y4 => k (.tup [(.d ⟨(.st [(.sl 33 (.st [(.int .i64), (.int .i64), (.int .i64)])), (.sl 35 (.st [(.int .i64), (.int .i64), (.int .i64), (.int .i64), .bool]))]), y0⟩), (.d ⟨.bool, y1⟩)]) [([0, 0], ⟨52, 3, (.mix [(.agg [(.ref [0, 1]), (.ref [0, 2]), (.d ⟨.bool, y2⟩)])])⟩), ([0, 1], ⟨33, 3, (.data (.st [(.int .i64), (.int .i64), (.int .i64)]) y3)⟩), ([0, 2], ⟨35, 5, (.data (.st [(.int .i64), (.int .i64), (.int .i64), (.int .i64), .bool]) y4)⟩)]) (fun y0 y1 y2 y3 y4 => k (.tup [(.d ⟨(.st [(.sl 33 (.st [(.int .i64), (.int .i64), (.int .i64)])), (.sl 35 (.st [(.int .i64), (.int .i64), (.int .i64), (.int .i64), .bool]))]), y0⟩), (.d ⟨.bool, y1⟩)]) [([0, 0], ⟨52, 3, (.mix [(.agg [(.ref [1, 0]), (.ref [0, 2]), (.d ⟨.bool, y2⟩)])])⟩), ([0, 2], ⟨35, 5, (.data (.st [(.int .i64), (.int .i64), (.int .i64), (.int .i64), .bool]) y3)⟩), ([1, 0], ⟨33, 3, (.data (.st [(.int .i64), (.int .i64), (.int .i64)]) y4)⟩)]) (fun y0 y1 y2 y3 y4 => k (.tup [(.d ⟨(.st [(.sl 33 (.st [(.int .i64), (.int .i64), (.int .i64)])), (.sl 35 (.st [(.int .i64), (.int .i64), (.int .i64), (.int .i64), .bool]))]), y0⟩), (.d ⟨.bool, y1⟩)]) [([0, 0], ⟨52, 3, (.mix [(.agg [(.ref [0, 1]), (.ref [1, 0]), (.d ⟨.bool, y2⟩)])])⟩), ([0, 1], ⟨33, 3, (.data (.st [(.int .i64), (.int .i64), (.int .i64)]) y3)⟩), ([1, 0], ⟨35, 5, (.data (.st [(.int .i64), (.int .i64), (.int .i64), (.int .i64), .bool]) y4)⟩)])
  | _, _, _ => e
noncomputable def law40_play.calls (F0 : ((List (Int × Int × Int × Unit)) × (List (Int × Int × Int × Int × Bool × Unit)) × Unit) → (Int × Int × Int × Unit) → (((List (Int × Int × Int × Unit)) × (List (Int × Int × Int × Int × Bool × Unit)) × Unit) → Bool → Option Bool) → Option Bool) (F1 : (Int × Int × Int × Unit) → Bool → (List (Int × Int × Int × Unit)) → (List (Int × Int × Int × Int × Bool × Unit)) → (Bool → Bool → (List (Int × Int × Int × Unit)) → (List (Int × Int × Int × Int × Bool × Unit)) → Option Bool) → (Bool → Bool → (List (Int × Int × Int × Int × Bool × Unit)) → (List (Int × Int × Int × Unit)) → Option Bool) → Option Bool) (F2 : ((List (Int × Int × Int × Unit)) × (List (Int × Int × Int × Int × Bool × Unit)) × Unit) → Int → (((List (Int × Int × Int × Unit)) × (List (Int × Int × Int × Int × Bool × Unit)) × Unit) → (Int × Int × Int × Unit) → Bool → Option Bool) → Option Bool) (F3 : Int → Bool → (List (Int × Int × Int × Unit)) → (List (Int × Int × Int × Int × Bool × Unit)) → ((Int × Int × Int × Unit) → Bool → Bool → (List (Int × Int × Int × Unit)) → (List (Int × Int × Int × Int × Bool × Unit)) → Option Bool) → ((Int × Int × Int × Unit) → Bool → Bool → (List (Int × Int × Int × Int × Bool × Unit)) → (List (Int × Int × Int × Unit)) → Option Bool) → Option Bool) (F4 : ((List (Int × Int × Int × Unit)) × (List (Int × Int × Int × Int × Bool × Unit)) × Unit) → (Int × Int × Int × Int × Bool × Unit) → ((List (Int × Int × Int × Unit)) → (List (Int × Int × Int × Int × Bool × Unit)) → Option Bool) → Option Bool) (F5 : (Int × Int × Int × Int × Bool × Unit) → Bool → (List (Int × Int × Int × Unit)) → (List (Int × Int × Int × Int × Bool × Unit)) → (Bool → Bool → (List (Int × Int × Int × Unit)) → (List (Int × Int × Int × Int × Bool × Unit)) → Option Bool) → (Bool → Bool → (List (Int × Int × Int × Unit)) → (List (Int × Int × Int × Int × Bool × Unit)) → Option Bool) → Option Bool) (F6 : ((List (Int × Int × Int × Unit)) × (List (Int × Int × Int × Int × Bool × Unit)) × Unit) → ((Int × Int × Int × Int × Bool × Unit) → Bool → Option Bool) → Option Bool) (F7 : Bool → (List (Int × Int × Int × Unit)) → (List (Int × Int × Int × Int × Bool × Unit)) → ((Int × Int × Int × Int × Bool × Unit) → Bool → Bool → (List (Int × Int × Int × Unit)) → (List (Int × Int × Int × Int × Bool × Unit)) → Option Bool) → Option Bool) (F8 : ((List (Int × Int × Int × Unit)) × (List (Int × Int × Int × Int × Bool × Unit)) × Unit) → (((List (Int × Int × Int × Unit)) × (List (Int × Int × Int × Int × Bool × Unit)) × Unit) → Int → Bool → Option Bool) → Option Bool) (F9 : Bool → (List (Int × Int × Int × Unit)) → (List (Int × Int × Int × Int × Bool × Unit)) → (Int → Bool → Bool → (List (Int × Int × Int × Unit)) → (List (Int × Int × Int × Int × Bool × Unit)) → Option Bool) → Option Bool) (F10 : ((List (Int × Int × Int × Unit)) × (List (Int × Int × Int × Int × Bool × Unit)) × Unit) → (((List (Int × Int × Int × Unit)) × (List (Int × Int × Int × Int × Bool × Unit)) × Unit) → (Int × Int × Int × Int × Bool × Unit) → Bool → Option Bool) → Option Bool) (F11 : Bool → (List (Int × Int × Int × Unit)) → (List (Int × Int × Int × Int × Bool × Unit)) → ((Int × Int × Int × Int × Bool × Unit) → Bool → Bool → (List (Int × Int × Int × Unit)) → (List (Int × Int × Int × Int × Bool × Unit)) → Option Bool) → ((Int × Int × Int × Int × Bool × Unit) → Bool → Bool → (List (Int × Int × Int × Unit)) → (List (Int × Int × Int × Int × Bool × Unit)) → Option Bool) → Option Bool) : RecF := fun g a h k => (ref40_Put.get F0 (defers_List_Putv1.get F1 (ref40_Takev1.get F2 (defers_List_Take.get F3 (ref40_Drivev1.get F4 (defers_List_Drivev1.get F5 (ref40_Topv1.get F6 (defers_List_Topv1.get F7 (ref40_Recover.get F8 (defers_List_Recoverv1.get F9 (ref40_Donev1.get F10 (defers_List_Done.get F11 none g a h k) g a h k) g a h k) g a h k) g a h k) g a h k) g a h k) g a h k) g a h k) g a h k) g a h k) g a h k)
noncomputable def law40_play.loops : LoopF := fun b => none
set_option maxRecDepth 100000 in
theorem law40_play.eq (F0 : ((List (Int × Int × Int × Unit)) × (List (Int × Int × Int × Int × Bool × Unit)) × Unit) → (Int × Int × Int × Unit) → (((List (Int × Int × Int × Unit)) × (List (Int × Int × Int × Int × Bool × Unit)) × Unit) → Bool → Option Bool) → Option Bool) (F1 : (Int × Int × Int × Unit) → Bool → (List (Int × Int × Int × Unit)) → (List (Int × Int × Int × Int × Bool × Unit)) → (Bool → Bool → (List (Int × Int × Int × Unit)) → (List (Int × Int × Int × Int × Bool × Unit)) → Option Bool) → (Bool → Bool → (List (Int × Int × Int × Int × Bool × Unit)) → (List (Int × Int × Int × Unit)) → Option Bool) → Option Bool) (F2 : ((List (Int × Int × Int × Unit)) × (List (Int × Int × Int × Int × Bool × Unit)) × Unit) → Int → (((List (Int × Int × Int × Unit)) × (List (Int × Int × Int × Int × Bool × Unit)) × Unit) → (Int × Int × Int × Unit) → Bool → Option Bool) → Option Bool) (F3 : Int → Bool → (List (Int × Int × Int × Unit)) → (List (Int × Int × Int × Int × Bool × Unit)) → ((Int × Int × Int × Unit) → Bool → Bool → (List (Int × Int × Int × Unit)) → (List (Int × Int × Int × Int × Bool × Unit)) → Option Bool) → ((Int × Int × Int × Unit) → Bool → Bool → (List (Int × Int × Int × Int × Bool × Unit)) → (List (Int × Int × Int × Unit)) → Option Bool) → Option Bool) (F4 : ((List (Int × Int × Int × Unit)) × (List (Int × Int × Int × Int × Bool × Unit)) × Unit) → (Int × Int × Int × Int × Bool × Unit) → ((List (Int × Int × Int × Unit)) → (List (Int × Int × Int × Int × Bool × Unit)) → Option Bool) → Option Bool) (F5 : (Int × Int × Int × Int × Bool × Unit) → Bool → (List (Int × Int × Int × Unit)) → (List (Int × Int × Int × Int × Bool × Unit)) → (Bool → Bool → (List (Int × Int × Int × Unit)) → (List (Int × Int × Int × Int × Bool × Unit)) → Option Bool) → (Bool → Bool → (List (Int × Int × Int × Unit)) → (List (Int × Int × Int × Int × Bool × Unit)) → Option Bool) → Option Bool) (F6 : ((List (Int × Int × Int × Unit)) × (List (Int × Int × Int × Int × Bool × Unit)) × Unit) → ((Int × Int × Int × Int × Bool × Unit) → Bool → Option Bool) → Option Bool) (F7 : Bool → (List (Int × Int × Int × Unit)) → (List (Int × Int × Int × Int × Bool × Unit)) → ((Int × Int × Int × Int × Bool × Unit) → Bool → Bool → (List (Int × Int × Int × Unit)) → (List (Int × Int × Int × Int × Bool × Unit)) → Option Bool) → Option Bool) (F8 : ((List (Int × Int × Int × Unit)) × (List (Int × Int × Int × Int × Bool × Unit)) × Unit) → (((List (Int × Int × Int × Unit)) × (List (Int × Int × Int × Int × Bool × Unit)) × Unit) → Int → Bool → Option Bool) → Option Bool) (F9 : Bool → (List (Int × Int × Int × Unit)) → (List (Int × Int × Int × Int × Bool × Unit)) → (Int → Bool → Bool → (List (Int × Int × Int × Unit)) → (List (Int × Int × Int × Int × Bool × Unit)) → Option Bool) → Option Bool) (F10 : ((List (Int × Int × Int × Unit)) × (List (Int × Int × Int × Int × Bool × Unit)) × Unit) → (((List (Int × Int × Int × Unit)) × (List (Int × Int × Int × Int × Bool × Unit)) × Unit) → (Int × Int × Int × Int × Bool × Unit) → Bool → Option Bool) → Option Bool) (F11 : Bool → (List (Int × Int × Int × Unit)) → (List (Int × Int × Int × Int × Bool × Unit)) → ((Int × Int × Int × Int × Bool × Unit) → Bool → Bool → (List (Int × Int × Int × Unit)) → (List (Int × Int × Int × Int × Bool × Unit)) → Option Bool) → ((Int × Int × Int × Int × Bool × Unit) → Bool → Bool → (List (Int × Int × Int × Unit)) → (List (Int × Int × Int × Int × Bool × Unit)) → Option Bool) → Option Bool) (t517 : (List (Int × Int × Int × Unit)) × (List (Int × Int × Int × Int × Bool × Unit)) × Unit) (t518 : Int × Int × Int × Int × Int × Int × Int × Int × Bool × Unit) (b519 : Bool) (ts520 : List (Int × Int × Int × Unit)) (ts521 : List (Int × Int × Int × Int × Bool × Unit)) (k : KR) : execL Try.prog ht 8 (callfOf (law40_play.calls F0 F1 F2 F3 F4 F5 F6 F7 F8 F9 F10 F11)) (law40_play.loops) 0 (codeOf Try.f8) ⟨[(.ptr [0, 0] 0 0), (.d ⟨(.st [(.sl 33 (.st [(.int .i64), (.int .i64), (.int .i64)])), (.sl 35 (.st [(.int .i64), (.int .i64), (.int .i64), (.int .i64), .bool]))]), t517⟩), (.d ⟨(.st [(.int .i64), (.int .i64), (.int .i64), (.int .i64), (.int .i64), (.int .i64), (.int .i64), (.int .i64), .bool]), t518⟩)] ++ List.replicate (Try.f8.ntmps - ([(.ptr [0, 0] 0 0), (.d ⟨(.st [(.sl 33 (.st [(.int .i64), (.int .i64), (.int .i64)])), (.sl 35 (.st [(.int .i64), (.int .i64), (.int .i64), (.int .i64), .bool]))]), t517⟩), (.d ⟨(.st [(.int .i64), (.int .i64), (.int .i64), (.int .i64), (.int .i64), (.int .i64), (.int .i64), (.int .i64), .bool]), t518⟩)] : List AV).length) .undef, [([0, 0], ⟨52, 3, (.mix [(.agg [(.ref [0, 1]), (.ref [0, 2]), (.d ⟨.bool, b519⟩)])])⟩), ([0, 1], ⟨33, 3, (.data (.st [(.int .i64), (.int .i64), (.int .i64)]) ts520)⟩), ([0, 2], ⟨35, 5, (.data (.st [(.int .i64), (.int .i64), (.int .i64), (.int .i64), .bool]) ts521)⟩)], 2⟩ (leave Try.prog Try.f8 k) = law40_play.body F0 F1 F2 F3 F4 F5 F6 F7 F8 F9 F10 F11 t517 t518 b519 ts520 ts521 (fun y0 y1 y2 y3 y4 => k (.tup [(.d ⟨(.st [(.sl 33 (.st [(.int .i64), (.int .i64), (.int .i64)])), (.sl 35 (.st [(.int .i64), (.int .i64), (.int .i64), (.int .i64), .bool]))]), y0⟩), (.d ⟨.bool, y1⟩)]) [([0, 0], ⟨52, 3, (.mix [(.agg [(.ref [0, 1]), (.ref [0, 2]), (.d ⟨.bool, y2⟩)])])⟩), ([0, 1], ⟨33, 3, (.data (.st [(.int .i64), (.int .i64), (.int .i64)]) y3)⟩), ([0, 2], ⟨35, 5, (.data (.st [(.int .i64), (.int .i64), (.int .i64), (.int .i64), .bool]) y4)⟩)]) (fun y0 y1 y2 y3 y4 => k (.tup [(.d ⟨(.st [(.sl 33 (.st [(.int .i64), (.int .i64), (.int .i64)])), (.sl 35 (.st [(.int .i64), (.int .i64), (.int .i64), (.int .i64), .bool]))]), y0⟩), (.d ⟨.bool, y1⟩)]) [([0, 0], ⟨52, 3, (.mix [(.agg [(.ref [1, 0]), (.ref [0, 2]), (.d ⟨.bool, y2⟩)])])⟩), ([0, 2], ⟨35, 5, (.data (.st [(.int .i64), (.int .i64), (.int .i64), (.int .i64), .bool]) y3)⟩), ([1, 0], ⟨33, 3, (.data (.st [(.int .i64), (.int .i64), (.int .i64)]) y4)⟩)]) (fun y0 y1 y2 y3 y4 => k (.tup [(.d ⟨(.st [(.sl 33 (.st [(.int .i64), (.int .i64), (.int .i64)])), (.sl 35 (.st [(.int .i64), (.int .i64), (.int .i64), (.int .i64), .bool]))]), y0⟩), (.d ⟨.bool, y1⟩)]) [([0, 0], ⟨52, 3, (.mix [(.agg [(.ref [0, 1]), (.ref [1, 0]), (.d ⟨.bool, y2⟩)])])⟩), ([0, 1], ⟨33, 3, (.data (.st [(.int .i64), (.int .i64), (.int .i64)]) y3)⟩), ([1, 0], ⟨35, 5, (.data (.st [(.int .i64), (.int .i64), (.int .i64), (.int .i64), .bool]) y4)⟩)]) := by kernel_rfl
theorem law40_play.ok (d : Nat) (hd : 5 ≤ d) (t517 : (List (Int × Int × Int × Unit)) × (List (Int × Int × Int × Int × Bool × Unit)) × Unit) (t518 : Int × Int × Int × Int × Int × Int × Int × Int × Bool × Unit) (b519 : Bool) (ts520 : List (Int × Int × Int × Unit)) (ts521 : List (Int × Int × Int × Int × Bool × Unit)) (k : KR) (hx : law40_play t517 t518 b519 ts520 ts521 (fun y0 y1 y2 y3 y4 => k (.tup [(.d ⟨(.st [(.sl 33 (.st [(.int .i64), (.int .i64), (.int .i64)])), (.sl 35 (.st [(.int .i64), (.int .i64), (.int .i64), (.int .i64), .bool]))]), y0⟩), (.d ⟨.bool, y1⟩)]) [([0, 0], ⟨52, 3, (.mix [(.agg [(.ref [0, 1]), (.ref [0, 2]), (.d ⟨.bool, y2⟩)])])⟩), ([0, 1], ⟨33, 3, (.data (.st [(.int .i64), (.int .i64), (.int .i64)]) y3)⟩), ([0, 2], ⟨35, 5, (.data (.st [(.int .i64), (.int .i64), (.int .i64), (.int .i64), .bool]) y4)⟩)]) (fun y0 y1 y2 y3 y4 => k (.tup [(.d ⟨(.st [(.sl 33 (.st [(.int .i64), (.int .i64), (.int .i64)])), (.sl 35 (.st [(.int .i64), (.int .i64), (.int .i64), (.int .i64), .bool]))]), y0⟩), (.d ⟨.bool, y1⟩)]) [([0, 0], ⟨52, 3, (.mix [(.agg [(.ref [1, 0]), (.ref [0, 2]), (.d ⟨.bool, y2⟩)])])⟩), ([0, 2], ⟨35, 5, (.data (.st [(.int .i64), (.int .i64), (.int .i64), (.int .i64), .bool]) y3)⟩), ([1, 0], ⟨33, 3, (.data (.st [(.int .i64), (.int .i64), (.int .i64)]) y4)⟩)]) (fun y0 y1 y2 y3 y4 => k (.tup [(.d ⟨(.st [(.sl 33 (.st [(.int .i64), (.int .i64), (.int .i64)])), (.sl 35 (.st [(.int .i64), (.int .i64), (.int .i64), (.int .i64), .bool]))]), y0⟩), (.d ⟨.bool, y1⟩)]) [([0, 0], ⟨52, 3, (.mix [(.agg [(.ref [0, 1]), (.ref [1, 0]), (.d ⟨.bool, y2⟩)])])⟩), ([0, 1], ⟨33, 3, (.data (.st [(.int .i64), (.int .i64), (.int .i64)]) y3)⟩), ([1, 0], ⟨35, 5, (.data (.st [(.int .i64), (.int .i64), (.int .i64), (.int .i64), .bool]) y4)⟩)]) = some true) : callK Try.prog ht d 8 [(.ptr [0, 0] 0 0), (.d ⟨(.st [(.sl 33 (.st [(.int .i64), (.int .i64), (.int .i64)])), (.sl 35 (.st [(.int .i64), (.int .i64), (.int .i64), (.int .i64), .bool]))]), t517⟩), (.d ⟨(.st [(.int .i64), (.int .i64), (.int .i64), (.int .i64), (.int .i64), (.int .i64), (.int .i64), (.int .i64), .bool]), t518⟩)] [([0, 0], ⟨52, 3, (.mix [(.agg [(.ref [0, 1]), (.ref [0, 2]), (.d ⟨.bool, b519⟩)])])⟩), ([0, 1], ⟨33, 3, (.data (.st [(.int .i64), (.int .i64), (.int .i64)]) ts520)⟩), ([0, 2], ⟨35, 5, (.data (.st [(.int .i64), (.int .i64), (.int .i64), (.int .i64), .bool]) ts521)⟩)] k = some true := by
  obtain ⟨d, rfl⟩ : ∃ e, d = e + 1 := ⟨d - 1, by omega⟩
  exact fn_ok (c := codeOf Try.f8) Try.func8 (by kernel_rfl) (rec := law40_play.calls ref40_Put defers_List_Putv1 ref40_Takev1 defers_List_Take ref40_Drivev1 defers_List_Drivev1 ref40_Topv1 defers_List_Topv1 ref40_Recover defers_List_Recoverv1 ref40_Donev1 defers_List_Done) (fun g a h k hx => by
    rcases ref40_Put.look d (by omega) hx with hx | hx
    rotate_left
    · exact hx
    rcases defers_List_Putv1.look d (by omega) hx with hx | hx
    rotate_left
    · exact hx
    rcases ref40_Takev1.look d (by omega) hx with hx | hx
    rotate_left
    · exact hx
    rcases defers_List_Take.look d (by omega) hx with hx | hx
    rotate_left
    · exact hx
    rcases ref40_Drivev1.look d (by omega) hx with hx | hx
    rotate_left
    · exact hx
    rcases defers_List_Drivev1.look d (by omega) hx with hx | hx
    rotate_left
    · exact hx
    rcases ref40_Topv1.look d (by omega) hx with hx | hx
    rotate_left
    · exact hx
    rcases defers_List_Topv1.look d (by omega) hx with hx | hx
    rotate_left
    · exact hx
    rcases ref40_Recover.look d (by omega) hx with hx | hx
    rotate_left
    · exact hx
    rcases defers_List_Recoverv1.look d (by omega) hx with hx | hx
    rotate_left
    · exact hx
    rcases ref40_Donev1.look d (by omega) hx with hx | hx
    rotate_left
    · exact hx
    rcases defers_List_Done.look d (by omega) hx with hx | hx
    rotate_left
    · exact hx
    cases hx) (loopf := law40_play.loops) (by
    have e : loopsOf (law40_play.loops) 0 (codeOf Try.f8) = [] := by kernel_rfl
    rw [e]
    intro p hp
    cases hp) ((law40_play.eq ref40_Put defers_List_Putv1 ref40_Takev1 defers_List_Take ref40_Drivev1 defers_List_Drivev1 ref40_Topv1 defers_List_Topv1 ref40_Recover defers_List_Recoverv1 ref40_Donev1 defers_List_Done t517 t518 b519 ts520 ts521 k).trans hx)
theorem law40_play.look (d : Nat) (hd : 5 ≤ d) {e : Option Bool} {g : FuncId} {a : List AV} {h : Heap} {k : KR} (hx : law40_play.get law40_play e g a h k = some true) : e = some true ∨ callK Try.prog ht d g a h k = some true := by
  unfold law40_play.get at hx
  split at hx
  · exact .inr (law40_play.ok d hd _ _ _ _ _ _ hx)
  · exact .inl hx
/-- function 3: the loop in block 0 -/
noncomputable def law40_DefersPlay_L0.body (law40_DefersPlay_L0 : (List (Int × Int × Int × Int × Int × Int × Int × Int × Bool × Unit)) → Int → Bool → (List (Int × Int × Int × Unit)) → (List (Int × Int × Int × Int × Bool × Unit)) → ((List (Int × Int × Int × Unit)) × (List (Int × Int × Int × Int × Bool × Unit)) × Unit) → (Bool → Option Bool) → (Option Bool) → Option Bool) (law40_play : ((List (Int × Int × Int × Unit)) × (List (Int × Int × Int × Int × Bool × Unit)) × Unit) → (Int × Int × Int × Int × Int × Int × Int × Int × Bool × Unit) → Bool → (List (Int × Int × Int × Unit)) → (List (Int × Int × Int × Int × Bool × Unit)) → (((List (Int × Int × Int × Unit)) × (List (Int × Int × Int × Int × Bool × Unit)) × Unit) → Bool → Bool → (List (Int × Int × Int × Unit)) → (List (Int × Int × Int × Int × Bool × Unit)) → Option Bool) → (((List (Int × Int × Int × Unit)) × (List (Int × Int × Int × Int × Bool × Unit)) × Unit) → Bool → Bool → (List (Int × Int × Int × Int × Bool × Unit)) → (List (Int × Int × Int × Unit)) → Option Bool) → (((List (Int × Int × Int × Unit)) × (List (Int × Int × Int × Int × Bool × Unit)) × Unit) → Bool → Bool → (List (Int × Int × Int × Unit)) → (List (Int × Int × Int × Int × Bool × Unit)) → Option Bool) → Option Bool) (defers_List_Lenv1 : Bool → (List (Int × Int × Int × Unit)) → (List (Int × Int × Int × Int × Bool × Unit)) → (Int → Bool → (List (Int × Int × Int × Unit)) → (List (Int × Int × Int × Int × Bool × Unit)) → Option Bool) → Option Bool) (defers_List_Depthv1 : Bool → (List (Int × Int × Int × Unit)) → (List (Int × Int × Int × Int × Bool × Unit)) → (Int → Bool → (List (Int × Int × Int × Unit)) → (List (Int × Int × Int × Int × Bool × Unit)) → Option Bool) → Option Bool) (ts511 : List (Int × Int × Int × Int × Int × Int × Int × Int × Bool × Unit)) (n512 : Int) (b513 : Bool) (ts514 : List (Int × Int × Int × Unit)) (ts515 : List (Int × Int × Int × Int × Bool × Unit)) (t516 : (List (Int × Int × Int × Unit)) × (List (Int × Int × Int × Int × Bool × Unit)) × Unit) (k1 : Bool → Option Bool) (k2 : Option Bool) : Option Bool :=
  (cond_ (decide (n512 < (((List.length ts511) : Nat) : Int))) (cond_ ((decide ((0 : Int) ≤ n512)) && (decide (n512 < (((List.length ts511) : Nat) : Int)))) (law40_play t516 (List.getD ts511 (Int.toNat n512) ((0 : Int), ((0 : Int), ((0 : Int), ((0 : Int), ((0 : Int), ((0 : Int), ((0 : Int), ((0 : Int), (false, ())))))))))) b513 ts514 ts515
  (fun t595 b596 b597 ts598 ts599 => (cond_ (! (! b596)) (defers_List_Lenv1 b597 ts598 ts599
  (fun n600 b601 ts602 ts603 => (cond_ (! (n600 != (((List.length (t595.1, (t595.2.1, ())).1) : Nat) : Int))) (defers_List_Depthv1 b601 ts602 ts603
  (fun n604 b605 ts606 ts607 => (cond_ (n604 != (((List.length (t595.1, (t595.2.1, ())).2.1) : Nat) : Int)) (k1 false) (law40_DefersPlay_L0 ts511 (IntKind.wrap .i64 (n512 + (1 : Int))) b605 ts606 ts607 (t595.1, (t595.2.1, ())) k1 k2)))) (k1 false)))) (k1 false)))
  (fun t608 b609 b610 ts611 ts612 => (cond_ (! (! b609)) (defers_List_Lenv1 b610 ts612 ts611
  (fun n613 b614 ts615 ts616 => (cond_ (! (n613 != (((List.length (t608.1, (t608.2.1, ())).1) : Nat) : Int))) (defers_List_Depthv1 b614 ts615 ts616
  (fun n617 b618 ts619 ts620 => (cond_ (n617 != (((List.length (t608.1, (t608.2.1, ())).2.1) : Nat) : Int)) (k1 false) (law40_DefersPlay_L0 ts511 (IntKind.wrap .i64 (n512 + (1 : Int))) b618 ts619 ts620 (t608.1, (t608.2.1, ())) k1 k2)))) (k1 false)))) (k1 false)))
  (fun t621 b622 b623 ts624 ts625 => (cond_ (! (! b622)) (defers_List_Lenv1 b623 ts624 ts625
  (fun n626 b627 ts628 ts629 => (cond_ (! (n626 != (((List.length (t621.1, (t621.2.1, ())).1) : Nat) : Int))) (defers_List_Depthv1 b627 ts628 ts629
  (fun n630 b631 ts632 ts633 => (cond_ (n630 != (((List.length (t621.1, (t621.2.1, ())).2.1) : Nat) : Int)) (k1 false) (law40_DefersPlay_L0 ts511 (IntKind.wrap .i64 (n512 + (1 : Int))) b631 ts632 ts633 (t621.1, (t621.2.1, ())) k1 k2)))) (k1 false)))) (k1 false)))) none) (k2))
noncomputable def law40_DefersPlay_L0 : Nat → (List (Int × Int × Int × Int × Int × Int × Int × Int × Bool × Unit)) → Int → Bool → (List (Int × Int × Int × Unit)) → (List (Int × Int × Int × Int × Bool × Unit)) → ((List (Int × Int × Int × Unit)) × (List (Int × Int × Int × Int × Bool × Unit)) × Unit) → (Bool → Option Bool) → (Option Bool) → Option Bool
  | 0 => fun _ _ _ _ _ _ _ _ => none
  | n + 1 => law40_DefersPlay_L0.body (law40_DefersPlay_L0 n) law40_play defers_List_Lenv1 defers_List_Depthv1
noncomputable def law40_DefersPlay_L0.get (F : (List (Int × Int × Int × Int × Int × Int × Int × Int × Bool × Unit)) → Int → Bool → (List (Int × Int × Int × Unit)) → (List (Int × Int × Int × Int × Bool × Unit)) → ((List (Int × Int × Int × Unit)) × (List (Int × Int × Int × Int × Bool × Unit)) × Unit) → (Bool → Option Bool) → (Option Bool) → Option Bool) (e : Option Bool) (st : St) (k : KE) : Option Bool := match st with
  | ⟨sl, hp, m⟩ => match Nat.beq m 2, pickS 50 [0, 3, 4, 5] sl, hp with
    | true, some [(.bv 0 37 (.st [(.int .i64), (.int .i64), (.int .i64), (.int .i64), (.int .i64), (.int .i64), (.int .i64), (.int .i64), .bool]) ts511), (.ptr [1, 0] 0 0), (.ptr [1, 3] 0 0), (.d ⟨(.int .i64), n512⟩)], [([1, 0], ⟨52, 3, (.mix [(.agg [(.ref [1, 1]), (.ref [1, 2]), (.d ⟨.bool, b513⟩)])])⟩), ([1, 1], ⟨33, 3, (.data (.st [(.int .i64), (.int .i64), (.int .i64)]) ts514)⟩), ([1, 2], ⟨35, 5, (.data (.st [(.int .i64), (.int .i64), (.int .i64), (.int .i64), .bool]) ts515)⟩), ([1, 3], ⟨29, 2, (.data (.st [(.sl 33 (.st [(.int .i64), (.int .i64), (.int .i64)])), (.sl 35 (.st [(.int .i64), (.int .i64), (.int .i64), (.int .i64), .bool]))]) [t516])⟩)] => F ts511 n512 b513 ts514 ts515 t516 (fun y0 => k .ret ⟨fillS 50 [2] [(.d ⟨.bool, y0⟩)], [], 2⟩) (k (.exit 0) ⟨fillS 50 [] [], [], 2⟩)
    | _, _, _ => e
noncomputable def law40_DefersPlay_L0.calls (F0 : ((List (Int × Int × Int × Unit)) × (List (Int × Int × Int × Int × Bool × Unit)) × Unit) → (Int × Int × Int × Int × Int × Int × Int × Int × Bool × Unit) → Bool → (List (Int × Int × Int × Unit)) → (List (Int × Int × Int × Int × Bool × Unit)) → (((List (Int × Int × Int × Unit)) × (List (Int × Int × Int × Int × Bool × Unit)) × Unit) → Bool → Bool → (List (Int × Int × Int × Unit)) → (List (Int × Int × Int × Int × Bool × Unit)) → Option Bool) → (((List (Int × Int × Int × Unit)) × (List (Int × Int × Int × Int × Bool × Unit)) × Unit) → Bool → Bool → (List (Int × Int × Int × Int × Bool × Unit)) → (List (Int × Int × Int × Unit)) → Option Bool) → (((List (Int × Int × Int × Unit)) × (List (Int × Int × Int × Int × Bool × Unit)) × Unit) → Bool → Bool → (List (Int × Int × Int × Unit)) → (List (Int × Int × Int × Int × Bool × Unit)) → Option Bool) → Option Bool) (F1 : Bool → (List (Int × Int × Int × Unit)) → (List (Int × Int × Int × Int × Bool × Unit)) → (Int → Bool → (List (Int × Int × Int × Unit)) → (List (Int × Int × Int × Int × Bool × Unit)) → Option Bool) → Option Bool) (F2 : Bool → (List (Int × Int × Int × Unit)) → (List (Int × Int × Int × Int × Bool × Unit)) → (Int → Bool → (List (Int × Int × Int × Unit)) → (List (Int × Int × Int × Int × Bool × Unit)) → Option Bool) → Option Bool) : RecF := fun g a h k => (law40_play.get F0 (defers_List_Lenv1.get F1 (defers_List_Depthv1.get F2 none g a h k) g a h k) g a h k)
noncomputable def law40_DefersPlay_L0.loops : LoopF := fun b => none
set_option maxRecDepth 100000 in
theorem law40_DefersPlay_L0.step (S : (List (Int × Int × Int × Int × Int × Int × Int × Int × Bool × Unit)) → Int → Bool → (List (Int × Int × Int × Unit)) → (List (Int × Int × Int × Int × Bool × Unit)) → ((List (Int × Int × Int × Unit)) × (List (Int × Int × Int × Int × Bool × Unit)) × Unit) → (Bool → Option Bool) → (Option Bool) → Option Bool) (F0 : ((List (Int × Int × Int × Unit)) × (List (Int × Int × Int × Int × Bool × Unit)) × Unit) → (Int × Int × Int × Int × Int × Int × Int × Int × Bool × Unit) → Bool → (List (Int × Int × Int × Unit)) → (List (Int × Int × Int × Int × Bool × Unit)) → (((List (Int × Int × Int × Unit)) × (List (Int × Int × Int × Int × Bool × Unit)) × Unit) → Bool → Bool → (List (Int × Int × Int × Unit)) → (List (Int × Int × Int × Int × Bool × Unit)) → Option Bool) → (((List (Int × Int × Int × Unit)) × (List (Int × Int × Int × Int × Bool × Unit)) × Unit) → Bool → Bool → (List (Int × Int × Int × Int × Bool × Unit)) → (List (Int × Int × Int × Unit)) → Option Bool) → (((List (Int × Int × Int × Unit)) × (List (Int × Int × Int × Int × Bool × Unit)) × Unit) → Bool → Bool → (List (Int × Int × Int × Unit)) → (List (Int × Int × Int × Int × Bool × Unit)) → Option Bool) → Option Bool) (F1 : Bool → (List (Int × Int × Int × Unit)) → (List (Int × Int × Int × Int × Bool × Unit)) → (Int → Bool → (List (Int × Int × Int × Unit)) → (List (Int × Int × Int × Int × Bool × Unit)) → Option Bool) → Option Bool) (F2 : Bool → (List (Int × Int × Int × Unit)) → (List (Int × Int × Int × Int × Bool × Unit)) → (Int → Bool → (List (Int × Int × Int × Unit)) → (List (Int × Int × Int × Int × Bool × Unit)) → Option Bool) → Option Bool) (ts511 : List (Int × Int × Int × Int × Int × Int × Int × Int × Bool × Unit)) (n512 : Int) (b513 : Bool) (ts514 : List (Int × Int × Int × Unit)) (ts515 : List (Int × Int × Int × Int × Bool × Unit)) (t516 : (List (Int × Int × Int × Unit)) × (List (Int × Int × Int × Int × Bool × Unit)) × Unit) (k : KE) : execL Try.prog ht 3 (callfOf (law40_DefersPlay_L0.calls F0 F1 F2)) (law40_DefersPlay_L0.loops) 0 (loopAt 0 (codeOf Try.f3)) ⟨fillS 50 [0, 3, 4, 5] [(.bv 0 37 (.st [(.int .i64), (.int .i64), (.int .i64), (.int .i64), (.int .i64), (.int .i64), (.int .i64), (.int .i64), .bool]) ts511), (.ptr [1, 0] 0 0), (.ptr [1, 3] 0 0), (.d ⟨(.int .i64), n512⟩)], [([1, 0], ⟨52, 3, (.mix [(.agg [(.ref [1, 1]), (.ref [1, 2]), (.d ⟨.bool, b513⟩)])])⟩), ([1, 1], ⟨33, 3, (.data (.st [(.int .i64), (.int .i64), (.int .i64)]) ts514)⟩), ([1, 2], ⟨35, 5, (.data (.st [(.int .i64), (.int .i64), (.int .i64), (.int .i64), .bool]) ts515)⟩), ([1, 3], ⟨29, 2, (.data (.st [(.sl 33 (.st [(.int .i64), (.int .i64), (.int .i64)])), (.sl 35 (.st [(.int .i64), (.int .i64), (.int .i64), (.int .i64), .bool]))]) [t516])⟩)], 2⟩ (again (law40_DefersPlay_L0.get S none) (plan Try.prog (ht 3 0)) k) = law40_DefersPlay_L0.body S F0 F1 F2 ts511 n512 b513 ts514 ts515 t516 (fun y0 => k .ret ⟨fillS 50 [2] [(.d ⟨.bool, y0⟩)], [], 2⟩) (k (.exit 0) ⟨fillS 50 [] [], [], 2⟩) := by kernel_rfl
theorem law40_DefersPlay_L0.ok (d : Nat) (hd : 5 ≤ d) : ∀ n st k, law40_DefersPlay_L0.get (law40_DefersPlay_L0 n) none st k = some true → iter n (plan Try.prog (ht 3 0)) (fun st k => execK Try.prog ht 3 (callfOf (callK Try.prog ht d)) 0 (loopAt 0 (codeOf Try.f3)) st k) st k = some true :=
  loop_ok (lfn := fun n st k => law40_DefersPlay_L0.get (law40_DefersPlay_L0 n) none st k) (rec := law40_DefersPlay_L0.calls law40_play defers_List_Lenv1 defers_List_Depthv1) (fun g a h k hx => by
    rcases law40_play.look d (by omega) hx with hx | hx
    rotate_left
    · exact hx
    rcases defers_List_Lenv1.look d (by omega) hx with hx | hx
    rotate_left
    · exact hx
    rcases defers_List_Depthv1.look d (by omega) hx with hx | hx
    rotate_left
    · exact hx
    cases hx) (loopf := law40_DefersPlay_L0.loops) (by
    have e : loopsOf (law40_DefersPlay_L0.loops) 0 (loopAt 0 (codeOf Try.f3)) = [] := by kernel_rfl
    rw [e]
    intro p hp
    cases hp) (fun st k h => by
    obtain ⟨sl, hp, m⟩ := st
    unfold law40_DefersPlay_L0.get at h
    dsimp only at h
    split at h
    · have h' : (none : Option Bool) = some true := h
      cases h'
    · cases h) (fun n st k h => by
    obtain ⟨sl, hp, m⟩ := st
    unfold law40_DefersPlay_L0.get at h
    dsimp only at h
    split at h
    · rename_i h1 h2
      obtain rfl := pickS_ok h2
      obtain rfl := Nat.eq_of_beq_eq_true h1
      exact (law40_DefersPlay_L0.step (law40_DefersPlay_L0 n) law40_play defers_List_Lenv1 defers_List_Depthv1 _ _ _ _ _ _ k).trans h
    · cases h)
theorem law40_DefersPlay_L0.look {F : (List (Int × Int × Int × Int × Int × Int × Int × Int × Bool × Unit)) → Int → Bool → (List (Int × Int × Int × Unit)) → (List (Int × Int × Int × Int × Bool × Unit)) → ((List (Int × Int × Int × Unit)) × (List (Int × Int × Int × Int × Bool × Unit)) × Unit) → (Bool → Option Bool) → (Option Bool) → Option Bool} {e : Option Bool} {st : St} {k : KE} (hx : law40_DefersPlay_L0.get F e st k = some true) : e = some true ∨ law40_DefersPlay_L0.get F none st k = some true := by
  obtain ⟨sl, hp, m⟩ := st
  unfold law40_DefersPlay_L0.get at hx ⊢
  dsimp only at hx ⊢
  split at hx
  · exact .inr hx
  · exact .inl hx
/-- function 3: sheerleg/sheerleglaw40.DefersPlay -/
noncomputable def law40_DefersPlay.body (law40_known : (Bool → Option Bool) → Option Bool) (defers_New : (Bool → Option Bool) → Option Bool) (law40_DefersPlay_L0 : (List (Int × Int × Int × Int × Int × Int × Int × Int × Bool × Unit)) → Int → Bool → (List (Int × Int × Int × Unit)) → (List (Int × Int × Int × Int × Bool × Unit)) → ((List (Int × Int × Int × Unit)) × (List (Int × Int × Int × Int × Bool × Unit)) × Unit) → (Bool → Option Bool) → (Option Bool) → Option Bool) (ts508 : List (Int × Int × Int × Int × Int × Int × Int × Int × Bool × Unit)) (k1 : Bool → Option Bool) : Option Bool :=
  (cond_ (decide ((((List.length ts508) : Nat) : Int) > (200 : Int))) (law40_known
  (fun b509 => (k1 b509))) (defers_New
  (fun b510 => (law40_DefersPlay_L0 ts508 (0 : Int) b510 [] [] ([], ([], ()))
  (fun b634 => (k1 b634))
  (law40_known
  (fun b635 => (k1 b635)))))))
noncomputable def law40_DefersPlay (ts508 : List (Int × Int × Int × Int × Int × Int × Int × Int × Bool × Unit)) (k1 : Bool → Option Bool) : Option Bool := law40_DefersPlay.body law40_known defers_New (law40_DefersPlay_L0 ROUNDS) ts508 k1
noncomputable def law40_DefersPlay.get (F : (List (Int × Int × Int × Int × Int × Int × Int × Int × Bool × Unit)) → (Bool → Option Bool) → Option Bool) (e : Option Bool) (g : FuncId) (a : List AV) (h : Heap) (k : KR) : Option Bool := match g, a, h with
  | 3, [(.bv 0 37 (.st [(.int .i64), (.int .i64), (.int .i64), (.int .i64), (.int .i64), (.int .i64), (.int .i64), (.int .i64), .bool]) ts508)], [] => F ts508 (fun y0 => k (.d ⟨.bool, y0⟩) [])
  | _, _, _ => e
noncomputable def law40_DefersPlay.calls (F0 : (Bool → Option Bool) → Option Bool) (F1 : (Bool → Option Bool) → Option Bool) : RecF := fun g a h k => (law40_known.get F0 (defers_New.get F1 none g a h k) g a h k)
noncomputable def law40_DefersPlay.loops (L0 : (List (Int × Int × Int × Int × Int × Int × Int × Int × Bool × Unit)) → Int → Bool → (List (Int × Int × Int × Unit)) → (List (Int × Int × Int × Int × Bool × Unit)) → ((List (Int × Int × Int × Unit)) × (List (Int × Int × Int × Int × Bool × Unit)) × Unit) → (Bool → Option Bool) → (Option Bool) → Option Bool) : LoopF := fun b => match Nat.beq b 0 with | true => some (fun st k => (law40_DefersPlay_L0.get L0 none st k)) | false => none
set_option maxRecDepth 100000 in
theorem law40_DefersPlay.eq (F0 : (Bool → Option Bool) → Option Bool) (F1 : (Bool → Option Bool) → Option Bool) (L0 : (List (Int × Int × Int × Int × Int × Int × Int × Int × Bool × Unit)) → Int → Bool → (List (Int × Int × Int × Unit)) → (List (Int × Int × Int × Int × Bool × Unit)) → ((List (Int × Int × Int × Unit)) × (List (Int × Int × Int × Int × Bool × Unit)) × Unit) → (Bool → Option Bool) → (Option Bool) → Option Bool) (ts508 : List (Int × Int × Int × Int × Int × Int × Int × Int × Bool × Unit)) (k : KR) : execL Try.prog ht 3 (callfOf (law40_DefersPlay.calls F0 F1)) (law40_DefersPlay.loops L0) 0 (codeOf Try.f3) ⟨[(.bv 0 37 (.st [(.int .i64), (.int .i64), (.int .i64), (.int .i64), (.int .i64), (.int .i64), (.int .i64), (.int .i64), .bool]) ts508)] ++ List.replicate (Try.f3.ntmps - ([(.bv 0 37 (.st [(.int .i64), (.int .i64), (.int .i64), (.int .i64), (.int .i64), (.int .i64), (.int .i64), (.int .i64), .bool]) ts508)] : List AV).length) .undef, [], 2⟩ (leave Try.prog Try.f3 k) = law40_DefersPlay.body F0 F1 L0 ts508 (fun y0 => k (.d ⟨.bool, y0⟩) []) := by kernel_rfl
theorem law40_DefersPlay.ok (d : Nat) (hd : 61 ≤ d) (ts508 : List (Int × Int × Int × Int × Int × Int × Int × Int × Bool × Unit)) (k : KR) (hx : law40_DefersPlay ts508 (fun y0 => k (.d ⟨.bool, y0⟩) []) = some true) : callK Try.prog ht d 3 [(.bv 0 37 (.st [(.int .i64), (.int .i64), (.int .i64), (.int .i64), (.int .i64), (.int .i64), (.int .i64), (.int .i64), .bool]) ts508)] [] k = some true := by
  obtain ⟨d, rfl⟩ : ∃ e, d = e + 1 := ⟨d - 1, by omega⟩
  exact fn_ok (c := codeOf Try.f3) Try.func3 (by kernel_rfl) (rec := law40_DefersPlay.calls law40_known defers_New) (fun g a h k hx => by
    rcases law40_known.look d (by omega) hx with hx | hx
    rotate_left
    · exact hx
    rcases defers_New.look d (by omega) hx with hx | hx
    rotate_left
    · exact hx
    cases hx) (loopf := law40_DefersPlay.loops (law40_DefersPlay_L0 ROUNDS)) (by
    have e : loopsOf (law40_DefersPlay.loops (law40_DefersPlay_L0 ROUNDS)) 0 (codeOf Try.f3) = [(0, loopAt 0 (codeOf Try.f3))] := by kernel_rfl
    rw [e]
    intro p hp
    simp only [List.mem_cons, List.not_mem_nil, or_false] at hp
    rcases hp with rfl
    · refine loopRef_of (callf := callfOf (callK Try.prog ht d)) (callfOf_ref (callK_mono d)) fun lf st k hb hx => ?_
      cases hb
      rcases law40_DefersPlay_L0.look hx with hx | hx
      rotate_left
      · exact law40_DefersPlay_L0.ok d (by omega) _ _ _ hx
      cases hx) ((law40_DefersPlay.eq law40_known defers_New (law40_DefersPlay_L0 ROUNDS) ts508 k).trans hx)
theorem law40_DefersPlay.look (d : Nat) (hd : 61 ≤ d) {e : Option Bool} {g : FuncId} {a : List AV} {h : Heap} {k : KR} (hx : law40_DefersPlay.get law40_DefersPlay e g a h k = some true) : e = some true ∨ callK Try.prog ht d g a h k = some true := by
  unfold law40_DefersPlay.get at hx
  split at hx
  · exact .inr (law40_DefersPlay.ok d hd _ _ hx)
  · exact .inl hx
/-- function 23: (*sheerleg/defers.List).none -/
noncomputable def defers_List_nonev2.body (b663 : Bool) (ts664 : List (Int × Int × Int × Unit)) (k1 : Bool → Bool → (List (Int × Int × Int × Unit)) → Option Bool) : Option Bool :=
  (k1 (! b663) b663 ts664)
noncomputable def defers_List_nonev2 (b663 : Bool) (ts664 : List (Int × Int × Int × Unit)) (k1 : Bool → Bool → (List (Int × Int × Int × Unit)) → Option Bool) : Option Bool := defers_List_nonev2.body b663 ts664 k1
noncomputable def defers_List_nonev2.get (F : Bool → (List (Int × Int × Int × Unit)) → (Bool → Bool → (List (Int × Int × Int × Unit)) → Option Bool) → Option Bool) (e : Option Bool) (g : FuncId) (a : List AV) (h : Heap) (k : KR) : Option Bool := match g, a, h with
  | 23, [(.ptr [0, 0] 0 0)], [([0, 0], ⟨52, 3, (.mix [(.agg [(.ref [0, 1]), .nils, (.d ⟨.bool, b663⟩)])])⟩), ([0, 1], ⟨33, 3, (.data (.st [(.int .i64), (.int .i64), (.int .i64)]) ts664)⟩)] => F b663 ts664 (fun y0 y1 y2 => k (.d ⟨.bool, y0⟩) [([0, 0], ⟨52, 3, (.mix [(.agg [(.ref [0, 1]), .nils, (.d ⟨.bool, y1⟩)])])⟩), ([0, 1], ⟨33, 3, (.data (.st [(.int .i64), (.int .i64), (.int .i64)]) y2)⟩)])
  | _, _, _ => e
noncomputable def defers_List_nonev2.calls : RecF := fun g a h k => none
noncomputable def defers_List_nonev2.loops : LoopF := fun b => none
set_option maxRecDepth 100000 in
theorem defers_List_nonev2.eq (b663 : Bool) (ts664 : List (Int × Int × Int × Unit)) (k : KR) : execL Try.prog ht 23 (callfOf (defers_List_nonev2.calls)) (defers_List_nonev2.loops) 0 (codeOf Try.f23) ⟨[(.ptr [0, 0] 0 0)] ++ List.replicate (Try.f23.ntmps - ([(.ptr [0, 0] 0 0)] : List AV).length) .undef, [([0, 0], ⟨52, 3, (.mix [(.agg [(.ref [0, 1]), .nils, (.d ⟨.bool, b663⟩)])])⟩), ([0, 1], ⟨33, 3, (.data (.st [(.int .i64), (.int .i64), (.int .i64)]) ts664)⟩)], 2⟩ (leave Try.prog Try.f23 k) = defers_List_nonev2.body b663 ts664 (fun y0 y1 y2 => k (.d ⟨.bool, y0⟩) [([0, 0], ⟨52, 3, (.mix [(.agg [(.ref [0, 1]), .nils, (.d ⟨.bool, y1⟩)])])⟩), ([0, 1], ⟨33, 3, (.data (.st [(.int .i64), (.int .i64), (.int .i64)]) y2)⟩)]) := by kernel_rfl
theorem defers_List_nonev2.ok (d : Nat) (hd : 1 ≤ d) (b663 : Bool) (ts664 : List (Int × Int × Int × Unit)) (k : KR) (hx : defers_List_nonev2 b663 ts664 (fun y0 y1 y2 => k (.d ⟨.bool, y0⟩) [([0, 0], ⟨52, 3, (.mix [(.agg [(.ref [0, 1]), .nils, (.d ⟨.bool, y1⟩)])])⟩), ([0, 1], ⟨33, 3, (.data (.st [(.int .i64), (.int .i64), (.int .i64)]) y2)⟩)]) = some true) : callK Try.prog ht d 23 [(.ptr [0, 0] 0 0)] [([0, 0], ⟨52, 3, (.mix [(.agg [(.ref [0, 1]), .nils, (.d ⟨.bool, b663⟩)])])⟩), ([0, 1], ⟨33, 3, (.data (.st [(.int .i64), (.int .i64), (.int .i64)]) ts664)⟩)] k = some true := by
  obtain ⟨d, rfl⟩ : ∃ e, d = e + 1 := ⟨d - 1, by omega⟩
  exact fn_ok (c := codeOf Try.f23) Try.func23 (by kernel_rfl) (rec := defers_List_nonev2.calls) (fun g a h k hx => by
    cases hx) (loopf := defers_List_nonev2.loops) (by
    have e : loopsOf (defers_List_nonev2.loops) 0 (codeOf Try.f23) = [] := by kernel_rfl
    rw [e]
    intro p hp
    cases hp) ((defers_List_nonev2.eq b663 ts664 k).trans hx)
theorem defers_List_nonev2.look (d : Nat) (hd : 1 ≤ d) {e : Option Bool} {g : FuncId} {a : List AV} {h : Heap} {k : KR} (hx : defers_List_nonev2.get defers_List_nonev2 e g a h k = some true) : e = some true ∨ callK Try.prog ht d g a h k = some true := by
  unfold defers_List_nonev2.get at hx
  split at hx
  · exact .inr (defers_List_nonev2.ok d hd _ _ _ hx)
  · exact .inl hx
/-- function 9: (*sheerleg/defers.List).Len -/
noncomputable def defers_List_Lenv2.body (defers_List_nonev2 : Bool → (List (Int × Int × Int × Unit)) → (Bool → Bool → (List (Int × Int × Int × Unit)) → Option Bool) → Option Bool) (b668 : Bool) (ts669 : List (Int × Int × Int × Unit)) (k1 : Int → Bool → (List (Int × Int × Int × Unit)) → Option Bool) : Option Bool :=
  (defers_List_nonev2 b668 ts669
  (fun b670 b671 ts672 => (cond_ b670 (k1 (0 : Int) b671 ts672) (k1 (((List.length ts672) : Nat) : Int) b671 ts672))))
noncomputable def defers_List_Lenv2 (b668 : Bool) (ts669 : List (Int × Int × Int × Unit)) (k1 : Int → Bool → (List (Int × Int × Int × Unit)) → Option Bool) : Option Bool := defers_List_Lenv2.body defers_List_nonev2 b668 ts669 k1
noncomputable def defers_List_Lenv2.get (F : Bool → (List (Int × Int × Int × Unit)) → (Int → Bool → (List (Int × Int × Int × Unit)) → Option Bool) → Option Bool) (e : Option Bool) (g : FuncId) (a : List AV) (h : Heap) (k : KR) : Option Bool := match g, a, h with
  | 9, [(.ptr [0, 0] 0 0)], [([0, 0], ⟨52, 3, (.mix [(.agg [(.ref [0, 1]), .nils, (.d ⟨.bool, b668⟩)])])⟩), ([0, 1], ⟨33, 3, (.data (.st [(.int .i64), (.int .i64), (.int .i64)]) ts669)⟩)] => F b668 ts669 (fun y0 y1 y2 => k (.d ⟨(.int .i64), y0⟩) [([0, 0], ⟨52, 3, (.mix [(.agg [(.ref [0, 1]), .nils, (.d ⟨.bool, y1⟩)])])⟩), ([0, 1], ⟨33, 3, (.data (.st [(.int .i64), (.int .i64), (.int .i64)]) y2)⟩)])
  | _, _, _ => e
noncomputable def defers_List_Lenv2.calls (F0 : Bool → (List (Int × Int × Int × Unit)) → (Bool → Bool → (List (Int × Int × Int × Unit)) → Option Bool) → Option Bool) : RecF := fun g a h k => (defers_List_nonev2.get F0 none g a h k)
noncomputable def defers_List_Lenv2.loops : LoopF := fun b => none
set_option maxRecDepth 100000 in
theorem defers_List_Lenv2.eq (F0 : Bool → (List (Int × Int × Int × Unit)) → (Bool → Bool → (List (Int × Int × Int × Unit)) → Option Bool) → Option Bool) (b668 : Bool) (ts669 : List (Int × Int × Int × Unit)) (k : KR) : execL Try.prog ht 9 (callfOf (defers_List_Lenv2.calls F0)) (defers_List_Lenv2.loops) 0 (codeOf Try.f9) ⟨[(.ptr [0, 0] 0 0)] ++ List.replicate (Try.f9.ntmps - ([(.ptr [0, 0] 0 0)] : List AV).length) .undef, [([0, 0], ⟨52, 3, (.mix [(.agg [(.ref [0, 1]), .nils, (.d ⟨.bool, b668⟩)])])⟩), ([0, 1], ⟨33, 3, (.data (.st [(.int .i64), (.int .i64), (.int .i64)]) ts669)⟩)], 2⟩ (leave Try.prog Try.f9 k) = defers_List_Lenv2.body F0 b668 ts669 (fun y0 y1 y2 => k (.d ⟨(.int .i64), y0⟩) [([0, 0], ⟨52, 3, (.mix [(.agg [(.ref [0, 1]), .nils, (.d ⟨.bool, y1⟩)])])⟩), ([0, 1], ⟨33, 3, (.data (.st [(.int .i64), (.int .i64), (.int .i64)]) y2)⟩)]) := by kernel_rfl
theorem defers_List_Lenv2.ok (d : Nat) (hd : 2 ≤ d) (b668 : Bool) (ts669 : List (Int × Int × Int × Unit)) (k : KR) (hx : defers_List_Lenv2 b668 ts669 (fun y0 y1 y2 => k (.d ⟨(.int .i64), y0⟩) [([0, 0], ⟨52, 3, (.mix [(.agg [(.ref [0, 1]), .nils, (.d ⟨.bool, y1⟩)])])⟩), ([0, 1], ⟨33, 3, (.data (.st [(.int .i64), (.int .i64), (.int .i64)]) y2)⟩)]) = some true) : callK Try.prog ht d 9 [(.ptr [0, 0] 0 0)] [([0, 0], ⟨52, 3, (.mix [(.agg [(.ref [0, 1]), .nils, (.d ⟨.bool, b668⟩)])])⟩), ([0, 1], ⟨33, 3, (.data (.st [(.int .i64), (.int .i64), (.int .i64)]) ts669)⟩)] k = some true := by
  obtain ⟨d, rfl⟩ : ∃ e, d = e + 1 := ⟨d - 1, by omega⟩
  exact fn_ok (c := codeOf Try.f9) Try.func9 (by kernel_rfl) (rec := defers_List_Lenv2.calls defers_List_nonev2) (fun g a h k hx => by
    rcases defers_List_nonev2.look d (by omega) hx with hx | hx
    rotate_left
    · exact hx
    cases hx) (loopf := defers_List_Lenv2.loops) (by
    have e : loopsOf (defers_List_Lenv2.loops) 0 (codeOf Try.f9) = [] := by kernel_rfl
    rw [e]
    intro p hp
    cases hp) ((defers_List_Lenv2.eq defers_List_nonev2 b668 ts669 k).trans hx)
theorem defers_List_Lenv2.look (d : Nat) (hd : 2 ≤ d) {e : Option Bool} {g : FuncId} {a : List AV} {h : Heap} {k : KR} (hx : defers_List_Lenv2.get defers_List_Lenv2 e g a h k = some true) : e = some true ∨ callK Try.prog ht d g a h k = some true := by
  unfold defers_List_Lenv2.get at hx
  split at hx
  · exact .inr (defers_List_Lenv2.ok d hd _ _ _ hx)
  · exact .inl hx
/-- function 24: (*sheerleg/defers.row[sheerleg/api.Rec]).put -/
noncomputable def defers_row_api_Rec_putv2.body (t676 : Int × Int × Int × Unit) (b677 : Bool) (ts678 : List (Int × Int × Int × Unit)) (k1 : Bool → (List (Int × Int × Int × Unit)) → Option Bool) : Option Bool :=
  (cond_ (Nat.ble (((List.length ts678) + (List.length ((t676.1, (t676.2.1, (t676.2.2.1, ()))) :: []))) * (24 : Nat)) (140737488355328 : Nat)) (k1 b677 (ts678 ++ ((t676.1, (t676.2.1, (t676.2.2.1, ()))) :: []))) none)
noncomputable def defers_row_api_Rec_putv2 (t676 : Int × Int × Int × Unit) (b677 : Bool) (ts678 : List (Int × Int × Int × Unit)) (k1 : Bool → (List (Int × Int × Int × Unit)) → Option Bool) : Option Bool := defers_row_api_Rec_putv2.body t676 b677 ts678 k1
noncomputable def defers_row_api_Rec_putv2.get (F : (Int × Int × Int × Unit) → Bool → (List (Int × Int × Int × Unit)) → (Bool → (List (Int × Int × Int × Unit)) → Option Bool) → Option Bool) (e : Option Bool) (g : FuncId) (a : List AV) (h : Heap) (k : KR) : Option Bool := match g, a, h with
  | 24, [(.ptr [0, 0] 0 0), (.d ⟨(.st [(.int .i64), (.int .i64), (.int .i64)]), t676⟩)], [([0, 0], ⟨52, 3, (.mix [(.agg [(.ref [0, 1]), .nils, (.d ⟨.bool, b677⟩)])])⟩), ([0, 1], ⟨33, 3, (.data (.st [(.int .i64), (.int .i64), (.int .i64)]) ts678)⟩)] => F t676 b677 ts678 (fun y0 y1 => k (.tup []) [([0, 0], ⟨52, 3, (.mix [(.agg [(.ref [1, 0]), .nils, (.d ⟨.bool, y0⟩)])])⟩), ([1, 0], ⟨33, 3, (.data (.st [(.int .i64), (.int .i64), (.int .i64)]) y1)⟩)])
  | _, _, _ => e
noncomputable def defers_row_api_Rec_putv2.calls : RecF := fun g a h k => none
noncomputable def defers_row_api_Rec_putv2.loops : LoopF := fun b => none
set_option maxRecDepth 100000 in
theorem defers_row_api_Rec_putv2.eq (t676 : Int × Int × Int × Unit) (b677 : Bool) (ts678 : List (Int × Int × Int × Unit)) (k : KR) : execL Try.prog ht 24 (callfOf (defers_row_api_Rec_putv2.calls)) (defers_row_api_Rec_putv2.loops) 0 (codeOf Try.f24) ⟨[(.ptr [0, 0] 0 0), (.d ⟨(.st [(.int .i64), (.int .i64), (.int .i64)]), t676⟩)] ++ List.replicate (Try.f24.ntmps - ([(.ptr [0, 0] 0 0), (.d ⟨(.st [(.int .i64), (.int .i64), (.int .i64)]), t676⟩)] : List AV).length) .undef, [([0, 0], ⟨52, 3, (.mix [(.agg [(.ref [0, 1]), .nils, (.d ⟨.bool, b677⟩)])])⟩), ([0, 1], ⟨33, 3, (.data (.st [(.int .i64), (.int .i64), (.int .i64)]) ts678)⟩)], 2⟩ (leave Try.prog Try.f24 k) = defers_row_api_Rec_putv2.body t676 b677 ts678 (fun y0 y1 => k (.tup []) [([0, 0], ⟨52, 3, (.mix [(.agg [(.ref [1, 0]), .nils, (.d ⟨.bool, y0⟩)])])⟩), ([1, 0], ⟨33, 3, (.data (.st [(.int .i64), (.int .i64), (.int .i64)]) y1)⟩)]) := by kernel_rfl
theorem defers_row_api_Rec_putv2.ok (d : Nat) (hd : 1 ≤ d) (t676 : Int × Int × Int × Unit) (b677 : Bool) (ts678 : List (Int × Int × Int × Unit)) (k : KR) (hx : defers_row_api_Rec_putv2 t676 b677 ts678 (fun y0 y1 => k (.tup []) [([0, 0], ⟨52, 3, (.mix [(.agg [(.ref [1, 0]), .nils, (.d ⟨.bool, y0⟩)])])⟩), ([1, 0], ⟨33, 3, (.data (.st [(.int .i64), (.int .i64), (.int .i64)]) y1)⟩)]) = some true) : callK Try.prog ht d 24 [(.ptr [0, 0] 0 0), (.d ⟨(.st [(.int .i64), (.int .i64), (.int .i64)]), t676⟩)] [([0, 0], ⟨52, 3, (.mix [(.agg [(.ref [0, 1]), .nils, (.d ⟨.bool, b677⟩)])])⟩), ([0, 1], ⟨33, 3, (.data (.st [(.int .i64), (.int .i64), (.int .i64)]) ts678)⟩)] k = some true := by
  obtain ⟨d, rfl⟩ : ∃ e, d = e + 1 := ⟨d - 1, by omega⟩
  exact fn_ok (c := codeOf Try.f24) Try.func24 (by kernel_rfl) (rec := defers_row_api_Rec_putv2.calls) (fun g a h k hx => by
    cases hx) (loopf := defers_row_api_Rec_putv2.loops) (by
    have e : loopsOf (defers_row_api_Rec_putv2.loops) 0 (codeOf Try.f24) = [] := by kernel_rfl
    rw [e]
    intro p hp
    cases hp) ((defers_row_api_Rec_putv2.eq t676 b677 ts678 k).trans hx)
theorem defers_row_api_Rec_putv2.look (d : Nat) (hd : 1 ≤ d) {e : Option Bool} {g : FuncId} {a : List AV} {h : Heap} {k : KR} (hx : defers_row_api_Rec_putv2.get defers_row_api_Rec_putv2 e g a h k = some true) : e = some true ∨ callK Try.prog ht d g a h k = some true := by
  unfold defers_row_api_Rec_putv2.get at hx
  split at hx
  · exact .inr (defers_row_api_Rec_putv2.ok d hd _ _ _ _ hx)
  · exact .inl hx
/-- function 11: (*sheerleg/defers.List).Put -/
noncomputable def defers_List_Putv2.body (defers_List_nonev2 : Bool → (List (Int × Int × Int × Unit)) → (Bool → Bool → (List (Int × Int × Int × Unit)) → Option Bool) → Option Bool) (defers_List_Lenv2 : Bool → (List (Int × Int × Int × Unit)) → (Int → Bool → (List (Int × Int × Int × Unit)) → Option Bool) → Option Bool) (defers_row_api_Rec_putv2 : (Int × Int × Int × Unit) → Bool → (List (Int × Int × Int × Unit)) → (Bool → (List (Int × Int × Int × Unit)) → Option Bool) → Option Bool) (t660 : Int × Int × Int × Unit) (b661 : Bool) (ts662 : List (Int × Int × Int × Unit)) (k1 : Bool → Bool → (List (Int × Int × Int × Unit)) → Option Bool) (k2 : Bool → Bool → (List (Int × Int × Int × Unit)) → Option Bool) : Option Bool :=
  (defers_List_nonev2 b661 ts662
  (fun b665 b666 ts667 => (cond_ (! b665) (defers_List_Lenv2 b666 ts667
  (fun n673 b674 ts675 => (cond_ (decide (n673 ≥ (32 : Int))) (k1 false b674 ts675) (defers_row_api_Rec_putv2 t660 b674 ts675
  (fun b679 ts680 => (k2 true b679 ts680)))))) (k1 false b666 ts667))))
noncomputable def defers_List_Putv2 (t660 : Int × Int × Int × Unit) (b661 : Bool) (ts662 : List (Int × Int × Int × Unit)) (k1 : Bool → Bool → (List (Int × Int × Int × Unit)) → Option Bool) (k2 : Bool → Bool → (List (Int × Int × Int × Unit)) → Option Bool) : Option Bool := defers_List_Putv2.body defers_List_nonev2 defers_List_Lenv2 defers_row_api_Rec_putv2 t660 b661 ts662 k1 k2
noncomputable def defers_List_Putv2.get (F : (Int × Int × Int × Unit) → Bool → (List (Int × Int × Int × Unit)) → (Bool → Bool → (List (Int × Int × Int × Unit)) → Option Bool) → (Bool → Bool → (List (Int × Int × Int × Unit)) → Option Bool) → Option Bool) (e : Option Bool) (g : FuncId) (a : List AV) (h : Heap) (k : KR) : Option Bool := match g, a, h with
  | 11, [(.ptr [0, 0] 0 0), (.d ⟨(.st [(.int .i64), (.int .i64), (.int .i64)]), t660⟩)], [([0, 0], ⟨52, 3, (.mix [(.agg [(.ref [0, 1]), .nils, (.d ⟨.bool, b661⟩)])])⟩), ([0, 1], ⟨33, 3, (.data (.st [(.int .i64), (.int .i64), (.int .i64)]) ts662)⟩)] => F t660 b661 ts662 (fun y0 y1 y2 => k (.d ⟨.bool, y0⟩) [([0, 0], ⟨52, 3, (.mix [(.agg [(.ref [0, 1]), .nils, (.d ⟨.bool, y1⟩)])])⟩), ([0, 1], ⟨33, 3, (.data (.st [(.int .i64), (.int .i64), (.int .i64)]) y2)⟩)]) (fun y0 y1 y2 => k (.d ⟨.bool, y0⟩) [([0, 0], ⟨52, 3, (.mix [(.agg [(.ref [1, 0]), .nils, (.d ⟨.bool, y1⟩)])])⟩), ([1, 0], ⟨33, 3, (.data (.st [(.int .i64), (.int .i64), (.int .i64)]) y2)⟩)])
  | _, _, _ => e
noncomputable def defers_List_Putv2.calls (F0 : Bool → (List (Int × Int × Int × Unit)) → (Bool → Bool → (List (Int × Int × Int × Unit)) → Option Bool) → Option Bool) (F1 : Bool → (List (Int × Int × Int × Unit)) → (Int → Bool → (List (Int × Int × Int × Unit)) → Option Bool) → Option Bool) (F2 : (Int × Int × Int × Unit) → Bool → (List (Int × Int × Int × Unit)) → (Bool → (List (Int × Int × Int × Unit)) → Option Bool) → Option Bool) : RecF := fun g a h k => (defers_List_nonev2.get F0 (defers_List_Lenv2.get F1 (defers_row_api_Rec_putv2.get F2 none g a h k) g a h k) g a h k)
noncomputable def defers_List_Putv2.loops : LoopF := fun b => none
set_option maxRecDepth 100000 in
theorem defers_List_Putv2.eq (F0 : Bool → (List (Int × Int × Int × Unit)) → (Bool → Bool → (List (Int × Int × Int × Unit)) → Option Bool) → Option Bool) (F1 : Bool → (List (Int × Int × Int × Unit)) → (Int → Bool → (List (Int × Int × Int × Unit)) → Option Bool) → Option Bool) (F2 : (Int × Int × Int × Unit) → Bool → (List (Int × Int × Int × Unit)) → (Bool → (List (Int × Int × Int × Unit)) → Option Bool) → Option Bool) (t660 : Int × Int × Int × Unit) (b661 : Bool) (ts662 : List (Int × Int × Int × Unit)) (k : KR) : execL Try.prog ht 11 (callfOf (defers_List_Putv2.calls F0 F1 F2)) (defers_List_Putv2.loops) 0 (codeOf Try.f11) ⟨[(.ptr [0, 0] 0 0), (.d ⟨(.st [(.int .i64), (.int .i64), (.int .i64)]), t660⟩)] ++ List.replicate (Try.f11.ntmps - ([(.ptr [0, 0] 0 0), (.d ⟨(.st [(.int .i64), (.int .i64), (.int .i64)]), t660⟩)] : List AV).length) .undef, [([0, 0], ⟨52, 3, (.mix [(.agg [(.ref [0, 1]), .nils, (.d ⟨.bool, b661⟩)])])⟩), ([0, 1], ⟨33, 3, (.data (.st [(.int .i64), (.int .i64), (.int .i64)]) ts662)⟩)], 2⟩ (leave Try.prog Try.f11 k) = defers_List_Putv2.body F0 F1 F2 t660 b661 ts662 (fun y0 y1 y2 => k (.d ⟨.bool, y0⟩) [([0, 0], ⟨52, 3, (.mix [(.agg [(.ref [0, 1]), .nils, (.d ⟨.bool, y1⟩)])])⟩), ([0, 1], ⟨33, 3, (.data (.st [(.int .i64), (.int .i64), (.int .i64)]) y2)⟩)]) (fun y0 y1 y2 => k (.d ⟨.bool, y0⟩) [([0, 0], ⟨52, 3, (.mix [(.agg [(.ref [1, 0]), .nils, (.d ⟨.bool, y1⟩)])])⟩), ([1, 0], ⟨33, 3, (.data (.st [(.int .i64), (.int .i64), (.int .i64)]) y2)⟩)]) := by kernel_rfl
theorem defers_List_Putv2.ok (d : Nat) (hd : 3 ≤ d) (t660 : Int × Int × Int × Unit) (b661 : Bool) (ts662 : List (Int × Int × Int × Unit)) (k : KR) (hx : defers_List_Putv2 t660 b661 ts662 (fun y0 y1 y2 => k (.d ⟨.bool, y0⟩) [([0, 0], ⟨52, 3, (.mix [(.agg [(.ref [0, 1]), .nils, (.d ⟨.bool, y1⟩)])])⟩), ([0, 1], ⟨33, 3, (.data (.st [(.int .i64), (.int .i64), (.int .i64)]) y2)⟩)]) (fun y0 y1 y2 => k (.d ⟨.bool, y0⟩) [([0, 0], ⟨52, 3, (.mix [(.agg [(.ref [1, 0]), .nils, (.d ⟨.bool, y1⟩)])])⟩), ([1, 0], ⟨33, 3, (.data (.st [(.int .i64), (.int .i64), (.int .i64)]) y2)⟩)]) = some true) : callK Try.prog ht d 11 [(.ptr [0, 0] 0 0), (.d ⟨(.st [(.int .i64), (.int .i64), (.int .i64)]), t660⟩)] [([0, 0], ⟨52, 3, (.mix [(.agg [(.ref [0, 1]), .nils, (.d ⟨.bool, b661⟩)])])⟩), ([0, 1], ⟨33, 3, (.data (.st [(.int .i64), (.int .i64), (.int .i64)]) ts662)⟩)] k = some true := by
  obtain ⟨d, rfl⟩ : ∃ e, d = e + 1 := ⟨d - 1, by omega⟩
  exact fn_ok (c := codeOf Try.f11) Try.func11 (by kernel_rfl) (rec := defers_List_Putv2.calls defers_List_nonev2 defers_List_Lenv2 defers_row_api_Rec_putv2) (fun g a h k hx => by
    rcases defers_List_nonev2.look d (by omega) hx with hx | hx
    rotate_left
    · exact hx
    rcases defers_List_Lenv2.look d (by omega) hx with hx | hx
    rotate_left
    · exact hx
    rcases defers_row_api_Rec_putv2.look d (by omega) hx with hx | hx
    rotate_left
    · exact hx
    cases hx) (loopf := defers_List_Putv2.loops) (by
    have e : loopsOf (defers_List_Putv2.loops) 0 (codeOf Try.f11) = [] := by kernel_rfl
    rw [e]
    intro p hp
    cases hp) ((defers_List_Putv2.eq defers_List_nonev2 defers_List_Lenv2 defers_row_api_Rec_putv2 t660 b661 ts662 k).trans hx)
theorem defers_List_Putv2.look (d : Nat) (hd : 3 ≤ d) {e : Option Bool} {g : FuncId} {a : List AV} {h : Heap} {k : KR} (hx : defers_List_Putv2.get defers_List_Putv2 e g a h k = some true) : e = some true ∨ callK Try.prog ht d g a h k = some true := by
  unfold defers_List_Putv2.get at hx
  split at hx
  · exact .inr (defers_List_Putv2.ok d hd _ _ _ _ hx)
  · exact .inl hx
/-- function 4: the loop in block 0 -/
noncomputable def law40_DefersLast_L0.body (law40_DefersLast_L0 : (List Int) → Int → Int → Int → Bool → (List (Int × Int × Int × Unit)) → (Bool → Option Bool) → ((List Int) → Int → Int → Bool → (List (Int × Int × Int × Unit)) → Option Bool) → Option Bool) (defers_List_Putv2 : (Int × Int × Int × Unit) → Bool → (List (Int × Int × Int × Unit)) → (Bool → Bool → (List (Int × Int × Int × Unit)) → Option Bool) → (Bool → Bool → (List (Int × Int × Int × Unit)) → Option Bool) → Option Bool) (ns654 : List Int) (n655 : Int) (n656 : Int) (n657 : Int) (b658 : Bool) (ts659 : List (Int × Int × Int × Unit)) (k1 : Bool → Option Bool) (k2 : (List Int) → Int → Int → Bool → (List (Int × Int × Int × Unit)) → Option Bool) : Option Bool :=
  (cond_ (decide (n657 < (((List.length ns654) : Nat) : Int))) (cond_ ((decide ((0 : Int) ≤ n657)) && (decide (n657 < (((List.length ns654) : Nat) : Int)))) (defers_List_Putv2 (n655, ((List.getD ns654 (Int.toNat n657) (0 : Int)), ((0 : Int), ()))) b658 ts659
  (fun b681 b682 ts683 => (cond_ (! b681) (k1 false) (law40_DefersLast_L0 ns654 n655 n656 (IntKind.wrap .i64 (n657 + (1 : Int))) b682 ts683 k1 k2)))
  (fun b684 b685 ts686 => (cond_ (! b684) (k1 false) (law40_DefersLast_L0 ns654 n655 n656 (IntKind.wrap .i64 (n657 + (1 : Int))) b685 ts686 k1 k2)))) none) (k2 ns654 n655 n656 b658 ts659))
noncomputable def law40_DefersLast_L0 : Nat → (List Int) → Int → Int → Int → Bool → (List (Int × Int × Int × Unit)) → (Bool → Option Bool) → ((List Int) → Int → Int → Bool → (List (Int × Int × Int × Unit)) → Option Bool) → Option Bool
  | 0 => fun _ _ _ _ _ _ _ _ => none
  | n + 1 => law40_DefersLast_L0.body (law40_DefersLast_L0 n) defers_List_Putv2
noncomputable def law40_DefersLast_L0.get (F : (List Int) → Int → Int → Int → Bool → (List (Int × Int × Int × Unit)) → (Bool → Option Bool) → ((List Int) → Int → Int → Bool → (List (Int × Int × Int × Unit)) → Option Bool) → Option Bool) (e : Option Bool) (st : St) (k : KE) : Option Bool := match st with
  | ⟨sl, hp, m⟩ => match Nat.beq m 2, pickS 78 [0, 1, 2, 7, 8] sl, hp with
    | true, some [(.bv 0 3 (.int .i64) ns654), (.d ⟨(.int .i64), n655⟩), (.d ⟨(.int .i64), n656⟩), (.ptr [1, 0] 0 0), (.d ⟨(.int .i64), n657⟩)], [([1, 0], ⟨52, 3, (.mix [(.agg [(.ref [1, 1]), .nils, (.d ⟨.bool, b658⟩)])])⟩), ([1, 1], ⟨33, 3, (.data (.st [(.int .i64), (.int .i64), (.int .i64)]) ts659)⟩)] => F ns654 n655 n656 n657 b658 ts659 (fun y0 => k .ret ⟨fillS 78 [6] [(.d ⟨.bool, y0⟩)], [], 2⟩) (fun y0 y1 y2 y3 y4 => k (.exit 0) ⟨fillS 78 [0, 1, 2, 7] [(.bv 0 3 (.int .i64) y0), (.d ⟨(.int .i64), y1⟩), (.d ⟨(.int .i64), y2⟩), (.ptr [1, 0] 0 0)], [([1, 0], ⟨52, 3, (.mix [(.agg [(.ref [1, 1]), .nils, (.d ⟨.bool, y3⟩)])])⟩), ([1, 1], ⟨33, 3, (.data (.st [(.int .i64), (.int .i64), (.int .i64)]) y4)⟩)], 2⟩)
    | _, _, _ => e
noncomputable def law40_DefersLast_L0.calls (F0 : (Int × Int × Int × Unit) → Bool → (List (Int × Int × Int × Unit)) → (Bool → Bool → (List (Int × Int × Int × Unit)) → Option Bool) → (Bool → Bool → (List (Int × Int × Int × Unit)) → Option Bool) → Option Bool) : RecF := fun g a h k => (defers_List_Putv2.get F0 none g a h k)
noncomputable def law40_DefersLast_L0.loops : LoopF := fun b => none
set_option maxRecDepth 100000 in
theorem law40_DefersLast_L0.step (S : (List Int) → Int → Int → Int → Bool → (List (Int × Int × Int × Unit)) → (Bool → Option Bool) → ((List Int) → Int → Int → Bool → (List (Int × Int × Int × Unit)) → Option Bool) → Option Bool) (F0 : (Int × Int × Int × Unit) → Bool → (List (Int × Int × Int × Unit)) → (Bool → Bool → (List (Int × Int × Int × Unit)) → Option Bool) → (Bool → Bool → (List (Int × Int × Int × Unit)) → Option Bool) → Option Bool) (ns654 : List Int) (n655 : Int) (n656 : Int) (n657 : Int) (b658 : Bool) (ts659 : List (Int × Int × Int × Unit)) (k : KE) : execL Try.prog ht 4 (callfOf (law40_DefersLast_L0.calls F0)) (law40_DefersLast_L0.loops) 0 (loopAt 0 (codeOf Try.f4)) ⟨fillS 78 [0, 1, 2, 7, 8] [(.bv 0 3 (.int .i64) ns654), (.d ⟨(.int .i64), n655⟩), (.d ⟨(.int .i64), n656⟩), (.ptr [1, 0] 0 0), (.d ⟨(.int .i64), n657⟩)], [([1, 0], ⟨52, 3, (.mix [(.agg [(.ref [1, 1]), .nils, (.d ⟨.bool, b658⟩)])])⟩), ([1, 1], ⟨33, 3, (.data (.st [(.int .i64), (.int .i64), (.int .i64)]) ts659)⟩)], 2⟩ (again (law40_DefersLast_L0.get S none) (plan Try.prog (ht 4 0)) k) = law40_DefersLast_L0.body S F0 ns654 n655 n656 n657 b658 ts659 (fun y0 => k .ret ⟨fillS 78 [6] [(.d ⟨.bool, y0⟩)], [], 2⟩) (fun y0 y1 y2 y3 y4 => k (.exit 0) ⟨fillS 78 [0, 1, 2, 7] [(.bv 0 3 (.int .i64) y0), (.d ⟨(.int .i64), y1⟩), (.d ⟨(.int .i64), y2⟩), (.ptr [1, 0] 0 0)], [([1, 0], ⟨52, 3, (.mix [(.agg [(.ref [1, 1]), .nils, (.d ⟨.bool, y3⟩)])])⟩), ([1, 1], ⟨33, 3, (.data (.st [(.int .i64), (.int .i64), (.int .i64)]) y4)⟩)], 2⟩) := by kernel_rfl
theorem law40_DefersLast_L0.ok (d : Nat) (hd : 3 ≤ d) : ∀ n st k, law40_DefersLast_L0.get (law40_DefersLast_L0 n) none st k = some true → iter n (plan Try.prog (ht 4 0)) (fun st k => execK Try.prog ht 4 (callfOf (callK Try.prog ht d)) 0 (loopAt 0 (codeOf Try.f4)) st k) st k = some true :=
  loop_ok (lfn := fun n st k => law40_DefersLast_L0.get (law40_DefersLast_L0 n) none st k) (rec := law40_DefersLast_L0.calls defers_List_Putv2) (fun g a h k hx => by
    rcases defers_List_Putv2.look d (by omega) hx with hx | hx
    rotate_left
    · exact hx
    cases hx) (loopf := law40_DefersLast_L0.loops) (by
    have e : loopsOf (law40_DefersLast_L0.loops) 0 (loopAt 0 (codeOf Try.f4)) = [] := by kernel_rfl
    rw [e]
    intro p hp
    cases hp) (fun st k h => by
    obtain ⟨sl, hp, m⟩ := st
    unfold law40_DefersLast_L0.get at h
    dsimp only at h
    split at h
    · have h' : (none : Option Bool) = some true := h
      cases h'
    · cases h) (fun n st k h => by
    obtain ⟨sl, hp, m⟩ := st
    unfold law40_DefersLast_L0.get at h
    dsimp only at h
    split at h
    · rename_i h1 h2
      obtain rfl := pickS_ok h2
      obtain rfl := Nat.eq_of_beq_eq_true h1
      exact (law40_DefersLast_L0.step (law40_DefersLast_L0 n) defers_List_Putv2 _ _ _ _ _ _ k).trans h
    · cases h)
theorem law40_DefersLast_L0.look {F : (List Int) → Int → Int → Int → Bool → (List (Int × Int × Int × Unit)) → (Bool → Option Bool) → ((List Int) → Int → Int → Bool → (List (Int × Int × Int × Unit)) → Option Bool) → Option Bool} {e : Option Bool} {st : St} {k : KE} (hx : law40_DefersLast_L0.get F e st k = some true) : e = some true ∨ law40_DefersLast_L0.get F none st k = some true := by
  obtain ⟨sl, hp, m⟩ := st
  unfold law40_DefersLast_L0.get at hx ⊢
  dsimp only at hx ⊢
  split at hx
  · exact .inr hx
  · exact .inl hx
end Go.Proofs.Ytlmggajbalnpjaa.g
