/- What the functions come to that G reaches, as plain functions; written by a program of this work, each told by Lean. -/
import Derived.Test.YtbnkdfoolfpllaaA3
import Derived.Test.YtbnkdfoolfpllaaChecked
namespace Go.Proofs.Ytbnkdfoolfpllaa.g
open Go.AX
set_option linter.unusedVariables false
set_option maxRecDepth 100000
set_option maxHeartbeats 4000000
def ht : Hints := hintsOf [(3, [(0, ⟨[1, 5, 6, 7], [(.give 6)]⟩), (3, ⟨[5, 6, 27], []⟩), (2000000, ⟨[4], []⟩), (1000000, ⟨[5, 6], []⟩), (1000003, ⟨[], []⟩)]),
  (15, [(0, ⟨[0, 1, 2, 3, 10, 11], []⟩), (2000000, ⟨[8, 9], []⟩), (1000000, ⟨[10], []⟩)]),
  (14, [(0, ⟨[0, 1, 7, 8], []⟩), (2000000, ⟨[4, 5, 6], []⟩), (1000000, ⟨[0, 7], []⟩)])]
/-- function 19: (*sheerleg/memory.Memory).Size -/
noncomputable def memory_Memory_Size.body (k1 : Int → Option Bool) : Option Bool :=
  (k1 (0 : Int))
noncomputable def memory_Memory_Size (k1 : Int → Option Bool) : Option Bool := memory_Memory_Size.body k1
noncomputable def memory_Memory_Size.get (F : (Int → Option Bool) → Option Bool) (e : Option Bool) (g : FuncId) (a : List AV) (h : Heap) (k : KR) : Option Bool := match g, a, h with
  | 19, [.nilp], [] => F (fun y0 => k (.d ⟨(.int .i64), y0⟩) [])
  | _, _, _ => e
noncomputable def memory_Memory_Size.calls : RecF := fun g a h k => none
noncomputable def memory_Memory_Size.loops : LoopF := fun b => none
set_option maxRecDepth 100000 in
theorem memory_Memory_Size.eq (k : KR) : execL Try.prog ht 19 (callfOf (memory_Memory_Size.calls)) (memory_Memory_Size.loops) 0 (codeOf Try.f19) ⟨[.nilp] ++ List.replicate (Try.f19.ntmps - ([.nilp] : List AV).length) .undef, [], 2⟩ (leave Try.prog Try.f19 k) = memory_Memory_Size.body (fun y0 => k (.d ⟨(.int .i64), y0⟩) []) := by kernel_rfl
theorem memory_Memory_Size.ok (d : Nat) (hd : 1 ≤ d) (k : KR) (hx : memory_Memory_Size (fun y0 => k (.d ⟨(.int .i64), y0⟩) []) = some true) : callK Try.prog ht d 19 [.nilp] [] k = some true := by
  obtain ⟨d, rfl⟩ : ∃ e, d = e + 1 := ⟨d - 1, by omega⟩
  exact fn_ok (c := codeOf Try.f19) Try.func19 (by kernel_rfl) (rec := memory_Memory_Size.calls) (fun g a h k hx => by
    cases hx) (loopf := memory_Memory_Size.loops) (by
    have e : loopsOf (memory_Memory_Size.loops) 0 (codeOf Try.f19) = [] := by kernel_rfl
    rw [e]
    intro p hp
    cases hp) ((memory_Memory_Size.eq k).trans hx)
theorem memory_Memory_Size.look (d : Nat) (hd : 1 ≤ d) {e : Option Bool} {g : FuncId} {a : List AV} {h : Heap} {k : KR} (hx : memory_Memory_Size.get memory_Memory_Size e g a h k = some true) : e = some true ∨ callK Try.prog ht d g a h k = some true := by
  unfold memory_Memory_Size.get at hx
  split at hx
  · exact .inr (memory_Memory_Size.ok d hd _ hx)
  · exact .inl hx
/-- function 21: (*sheerleg/memory.Memory).at -/
noncomputable def memory_Memory_at.body (memory_Memory_Size : (Int → Option Bool) → Option Bool) (n3 : Int) (n4 : Int) (k1 : Bool → Int → Option Bool) : Option Bool :=
  (cond_ (! (decide (n3 < (0 : Int)))) (memory_Memory_Size
  (fun n5 => (cond_ (decide (n3 ≥ n5)) (k1 false n4) none))) (k1 false n4))
noncomputable def memory_Memory_at (n3 : Int) (n4 : Int) (k1 : Bool → Int → Option Bool) : Option Bool := memory_Memory_at.body memory_Memory_Size n3 n4 k1
noncomputable def memory_Memory_at.get (F : Int → Int → (Bool → Int → Option Bool) → Option Bool) (e : Option Bool) (g : FuncId) (a : List AV) (h : Heap) (k : KR) : Option Bool := match g, a, h with
  | 21, [.nilp, (.d ⟨(.int .i64), n3⟩), (.fn (.func 22) [] [(.ptr [0, 0] 0 0)])], [([0, 0], ⟨2, 1, (.data (.int .i64) [n4])⟩)] => F n3 n4 (fun y0 y1 => k (.d ⟨.bool, y0⟩) [([0, 0], ⟨2, 1, (.data (.int .i64) [y1])⟩)])
  | _, _, _ => e
noncomputable def memory_Memory_at.calls (F0 : (Int → Option Bool) → Option Bool) : RecF := fun g a h k => (memory_Memory_Size.get F0 none g a h k)
noncomputable def memory_Memory_at.loops : LoopF := fun b => none
set_option maxRecDepth 100000 in
theorem memory_Memory_at.eq (F0 : (Int → Option Bool) → Option Bool) (n3 : Int) (n4 : Int) (k : KR) : execL Try.prog ht 21 (callfOf (memory_Memory_at.calls F0)) (memory_Memory_at.loops) 0 (codeOf Try.f21) ⟨[.nilp, (.d ⟨(.int .i64), n3⟩), (.fn (.func 22) [] [(.ptr [0, 0] 0 0)])] ++ List.replicate (Try.f21.ntmps - ([.nilp, (.d ⟨(.int .i64), n3⟩), (.fn (.func 22) [] [(.ptr [0, 0] 0 0)])] : List AV).length) .undef, [([0, 0], ⟨2, 1, (.data (.int .i64) [n4])⟩)], 2⟩ (leave Try.prog Try.f21 k) = memory_Memory_at.body F0 n3 n4 (fun y0 y1 => k (.d ⟨.bool, y0⟩) [([0, 0], ⟨2, 1, (.data (.int .i64) [y1])⟩)]) := by kernel_rfl
theorem memory_Memory_at.ok (d : Nat) (hd : 2 ≤ d) (n3 : Int) (n4 : Int) (k : KR) (hx : memory_Memory_at n3 n4 (fun y0 y1 => k (.d ⟨.bool, y0⟩) [([0, 0], ⟨2, 1, (.data (.int .i64) [y1])⟩)]) = some true) : callK Try.prog ht d 21 [.nilp, (.d ⟨(.int .i64), n3⟩), (.fn (.func 22) [] [(.ptr [0, 0] 0 0)])] [([0, 0], ⟨2, 1, (.data (.int .i64) [n4])⟩)] k = some true := by
  obtain ⟨d, rfl⟩ : ∃ e, d = e + 1 := ⟨d - 1, by omega⟩
  exact fn_ok (c := codeOf Try.f21) Try.func21 (by kernel_rfl) (rec := memory_Memory_at.calls memory_Memory_Size) (fun g a h k hx => by
    rcases memory_Memory_Size.look d (by omega) hx with hx | hx
    rotate_left
    · exact hx
    cases hx) (loopf := memory_Memory_at.loops) (by
    have e : loopsOf (memory_Memory_at.loops) 0 (codeOf Try.f21) = [] := by kernel_rfl
    rw [e]
    intro p hp
    cases hp) ((memory_Memory_at.eq memory_Memory_Size n3 n4 k).trans hx)
theorem memory_Memory_at.look (d : Nat) (hd : 2 ≤ d) {e : Option Bool} {g : FuncId} {a : List AV} {h : Heap} {k : KR} (hx : memory_Memory_at.get memory_Memory_at e g a h k = some true) : e = some true ∨ callK Try.prog ht d g a h k = some true := by
  unfold memory_Memory_at.get at hx
  split at hx
  · exact .inr (memory_Memory_at.ok d hd _ _ _ hx)
  · exact .inl hx
/-- function 9: (*sheerleg/memory.Memory).Load -/
noncomputable def memory_Memory_Load.body (memory_Memory_at : Int → Int → (Bool → Int → Option Bool) → Option Bool) (n2 : Int) (k1 : Int → Bool → Option Bool) : Option Bool :=
  (memory_Memory_at n2 (0 : Int)
  (fun b6 n7 => (k1 n7 b6)))
noncomputable def memory_Memory_Load (n2 : Int) (k1 : Int → Bool → Option Bool) : Option Bool := memory_Memory_Load.body memory_Memory_at n2 k1
noncomputable def memory_Memory_Load.get (F : Int → (Int → Bool → Option Bool) → Option Bool) (e : Option Bool) (g : FuncId) (a : List AV) (h : Heap) (k : KR) : Option Bool := match g, a, h with
  | 9, [.nilp, (.d ⟨(.int .i64), n2⟩)], [] => F n2 (fun y0 y1 => k (.tup [(.d ⟨(.int .i64), y0⟩), (.d ⟨.bool, y1⟩)]) [])
  | _, _, _ => e
noncomputable def memory_Memory_Load.calls (F0 : Int → Int → (Bool → Int → Option Bool) → Option Bool) : RecF := fun g a h k => (memory_Memory_at.get F0 none g a h k)
noncomputable def memory_Memory_Load.loops : LoopF := fun b => none
set_option maxRecDepth 100000 in
theorem memory_Memory_Load.eq (F0 : Int → Int → (Bool → Int → Option Bool) → Option Bool) (n2 : Int) (k : KR) : execL Try.prog ht 9 (callfOf (memory_Memory_Load.calls F0)) (memory_Memory_Load.loops) 0 (codeOf Try.f9) ⟨[.nilp, (.d ⟨(.int .i64), n2⟩)] ++ List.replicate (Try.f9.ntmps - ([.nilp, (.d ⟨(.int .i64), n2⟩)] : List AV).length) .undef, [], 2⟩ (leave Try.prog Try.f9 k) = memory_Memory_Load.body F0 n2 (fun y0 y1 => k (.tup [(.d ⟨(.int .i64), y0⟩), (.d ⟨.bool, y1⟩)]) []) := by kernel_rfl
theorem memory_Memory_Load.ok (d : Nat) (hd : 3 ≤ d) (n2 : Int) (k : KR) (hx : memory_Memory_Load n2 (fun y0 y1 => k (.tup [(.d ⟨(.int .i64), y0⟩), (.d ⟨.bool, y1⟩)]) []) = some true) : callK Try.prog ht d 9 [.nilp, (.d ⟨(.int .i64), n2⟩)] [] k = some true := by
  obtain ⟨d, rfl⟩ : ∃ e, d = e + 1 := ⟨d - 1, by omega⟩
  exact fn_ok (c := codeOf Try.f9) Try.func9 (by kernel_rfl) (rec := memory_Memory_Load.calls memory_Memory_at) (fun g a h k hx => by
    rcases memory_Memory_at.look d (by omega) hx with hx | hx
    rotate_left
    · exact hx
    cases hx) (loopf := memory_Memory_Load.loops) (by
    have e : loopsOf (memory_Memory_Load.loops) 0 (codeOf Try.f9) = [] := by kernel_rfl
    rw [e]
    intro p hp
    cases hp) ((memory_Memory_Load.eq memory_Memory_at n2 k).trans hx)
theorem memory_Memory_Load.look (d : Nat) (hd : 3 ≤ d) {e : Option Bool} {g : FuncId} {a : List AV} {h : Heap} {k : KR} (hx : memory_Memory_Load.get memory_Memory_Load e g a h k = some true) : e = some true ∨ callK Try.prog ht d g a h k = some true := by
  unfold memory_Memory_Load.get at hx
  split at hx
  · exact .inr (memory_Memory_Load.ok d hd _ _ hx)
  · exact .inl hx
/-- function 19: (*sheerleg/memory.Memory).Size -/
noncomputable def memory_Memory_Sizev1.body (b15 : Bool) (k1 : Int → Bool → Option Bool) : Option Bool :=
  (cond_ (! b15) (k1 (0 : Int) b15) (k1 (0 : Int) b15))
noncomputable def memory_Memory_Sizev1 (b15 : Bool) (k1 : Int → Bool → Option Bool) : Option Bool := memory_Memory_Sizev1.body b15 k1
noncomputable def memory_Memory_Sizev1.get (F : Bool → (Int → Bool → Option Bool) → Option Bool) (e : Option Bool) (g : FuncId) (a : List AV) (h : Heap) (k : KR) : Option Bool := match g, a, h with
  | 19, [(.ptr [0, 0] 0 0)], [([0, 0], ⟨48, 2, (.mix [(.agg [.nils, (.d ⟨.bool, b15⟩)])])⟩)] => F b15 (fun y0 y1 => k (.d ⟨(.int .i64), y0⟩) [([0, 0], ⟨48, 2, (.mix [(.agg [.nils, (.d ⟨.bool, y1⟩)])])⟩)])
  | _, _, _ => e
noncomputable def memory_Memory_Sizev1.calls : RecF := fun g a h k => none
noncomputable def memory_Memory_Sizev1.loops : LoopF := fun b => none
set_option maxRecDepth 100000 in
theorem memory_Memory_Sizev1.eq (b15 : Bool) (k : KR) : execL Try.prog ht 19 (callfOf (memory_Memory_Sizev1.calls)) (memory_Memory_Sizev1.loops) 0 (codeOf Try.f19) ⟨[(.ptr [0, 0] 0 0)] ++ List.replicate (Try.f19.ntmps - ([(.ptr [0, 0] 0 0)] : List AV).length) .undef, [([0, 0], ⟨48, 2, (.mix [(.agg [.nils, (.d ⟨.bool, b15⟩)])])⟩)], 2⟩ (leave Try.prog Try.f19 k) = memory_Memory_Sizev1.body b15 (fun y0 y1 => k (.d ⟨(.int .i64), y0⟩) [([0, 0], ⟨48, 2, (.mix [(.agg [.nils, (.d ⟨.bool, y1⟩)])])⟩)]) := by kernel_rfl
theorem memory_Memory_Sizev1.ok (d : Nat) (hd : 1 ≤ d) (b15 : Bool) (k : KR) (hx : memory_Memory_Sizev1 b15 (fun y0 y1 => k (.d ⟨(.int .i64), y0⟩) [([0, 0], ⟨48, 2, (.mix [(.agg [.nils, (.d ⟨.bool, y1⟩)])])⟩)]) = some true) : callK Try.prog ht d 19 [(.ptr [0, 0] 0 0)] [([0, 0], ⟨48, 2, (.mix [(.agg [.nils, (.d ⟨.bool, b15⟩)])])⟩)] k = some true := by
  obtain ⟨d, rfl⟩ : ∃ e, d = e + 1 := ⟨d - 1, by omega⟩
  exact fn_ok (c := codeOf Try.f19) Try.func19 (by kernel_rfl) (rec := memory_Memory_Sizev1.calls) (fun g a h k hx => by
    cases hx) (loopf := memory_Memory_Sizev1.loops) (by
    have e : loopsOf (memory_Memory_Sizev1.loops) 0 (codeOf Try.f19) = [] := by kernel_rfl
    rw [e]
    intro p hp
    cases hp) ((memory_Memory_Sizev1.eq b15 k).trans hx)
theorem memory_Memory_Sizev1.look (d : Nat) (hd : 1 ≤ d) {e : Option Bool} {g : FuncId} {a : List AV} {h : Heap} {k : KR} (hx : memory_Memory_Sizev1.get memory_Memory_Sizev1 e g a h k = some true) : e = some true ∨ callK Try.prog ht d g a h k = some true := by
  unfold memory_Memory_Sizev1.get at hx
  split at hx
  · exact .inr (memory_Memory_Sizev1.ok d hd _ _ hx)
  · exact .inl hx
/-- function 21: (*sheerleg/memory.Memory).at -/
noncomputable def memory_Memory_atv1.body (memory_Memory_Sizev1 : Bool → (Int → Bool → Option Bool) → Option Bool) (n12 : Int) (b13 : Bool) (n14 : Int) (k1 : Bool → Bool → Int → Option Bool) : Option Bool :=
  (cond_ (! (decide (n12 < (0 : Int)))) (memory_Memory_Sizev1 b13
  (fun n16 b17 => (cond_ (decide (n12 ≥ n16)) (k1 false b17 n14) none))) (k1 false b13 n14))
noncomputable def memory_Memory_atv1 (n12 : Int) (b13 : Bool) (n14 : Int) (k1 : Bool → Bool → Int → Option Bool) : Option Bool := memory_Memory_atv1.body memory_Memory_Sizev1 n12 b13 n14 k1
noncomputable def memory_Memory_atv1.get (F : Int → Bool → Int → (Bool → Bool → Int → Option Bool) → Option Bool) (e : Option Bool) (g : FuncId) (a : List AV) (h : Heap) (k : KR) : Option Bool := match g, a, h with
  | 21, [(.ptr [0, 0] 0 0), (.d ⟨(.int .i64), n12⟩), (.fn (.func 22) [] [(.ptr [0, 1] 0 0)])], [([0, 0], ⟨48, 2, (.mix [(.agg [.nils, (.d ⟨.bool, b13⟩)])])⟩), ([0, 1], ⟨2, 1, (.data (.int .i64) [n14])⟩)] => F n12 b13 n14 (fun y0 y1 y2 => k (.d ⟨.bool, y0⟩) [([0, 0], ⟨48, 2, (.mix [(.agg [.nils, (.d ⟨.bool, y1⟩)])])⟩), ([0, 1], ⟨2, 1, (.data (.int .i64) [y2])⟩)])
  | _, _, _ => e
noncomputable def memory_Memory_atv1.calls (F0 : Bool → (Int → Bool → Option Bool) → Option Bool) : RecF := fun g a h k => (memory_Memory_Sizev1.get F0 none g a h k)
noncomputable def memory_Memory_atv1.loops : LoopF := fun b => none
set_option maxRecDepth 100000 in
theorem memory_Memory_atv1.eq (F0 : Bool → (Int → Bool → Option Bool) → Option Bool) (n12 : Int) (b13 : Bool) (n14 : Int) (k : KR) : execL Try.prog ht 21 (callfOf (memory_Memory_atv1.calls F0)) (memory_Memory_atv1.loops) 0 (codeOf Try.f21) ⟨[(.ptr [0, 0] 0 0), (.d ⟨(.int .i64), n12⟩), (.fn (.func 22) [] [(.ptr [0, 1] 0 0)])] ++ List.replicate (Try.f21.ntmps - ([(.ptr [0, 0] 0 0), (.d ⟨(.int .i64), n12⟩), (.fn (.func 22) [] [(.ptr [0, 1] 0 0)])] : List AV).length) .undef, [([0, 0], ⟨48, 2, (.mix [(.agg [.nils, (.d ⟨.bool, b13⟩)])])⟩), ([0, 1], ⟨2, 1, (.data (.int .i64) [n14])⟩)], 2⟩ (leave Try.prog Try.f21 k) = memory_Memory_atv1.body F0 n12 b13 n14 (fun y0 y1 y2 => k (.d ⟨.bool, y0⟩) [([0, 0], ⟨48, 2, (.mix [(.agg [.nils, (.d ⟨.bool, y1⟩)])])⟩), ([0, 1], ⟨2, 1, (.data (.int .i64) [y2])⟩)]) := by kernel_rfl
theorem memory_Memory_atv1.ok (d : Nat) (hd : 2 ≤ d) (n12 : Int) (b13 : Bool) (n14 : Int) (k : KR) (hx : memory_Memory_atv1 n12 b13 n14 (fun y0 y1 y2 => k (.d ⟨.bool, y0⟩) [([0, 0], ⟨48, 2, (.mix [(.agg [.nils, (.d ⟨.bool, y1⟩)])])⟩), ([0, 1], ⟨2, 1, (.data (.int .i64) [y2])⟩)]) = some true) : callK Try.prog ht d 21 [(.ptr [0, 0] 0 0), (.d ⟨(.int .i64), n12⟩), (.fn (.func 22) [] [(.ptr [0, 1] 0 0)])] [([0, 0], ⟨48, 2, (.mix [(.agg [.nils, (.d ⟨.bool, b13⟩)])])⟩), ([0, 1], ⟨2, 1, (.data (.int .i64) [n14])⟩)] k = some true := by
  obtain ⟨d, rfl⟩ : ∃ e, d = e + 1 := ⟨d - 1, by omega⟩
  exact fn_ok (c := codeOf Try.f21) Try.func21 (by kernel_rfl) (rec := memory_Memory_atv1.calls memory_Memory_Sizev1) (fun g a h k hx => by
    rcases memory_Memory_Sizev1.look d (by omega) hx with hx | hx
    rotate_left
    · exact hx
    cases hx) (loopf := memory_Memory_atv1.loops) (by
    have e : loopsOf (memory_Memory_atv1.loops) 0 (codeOf Try.f21) = [] := by kernel_rfl
    rw [e]
    intro p hp
    cases hp) ((memory_Memory_atv1.eq memory_Memory_Sizev1 n12 b13 n14 k).trans hx)
theorem memory_Memory_atv1.look (d : Nat) (hd : 2 ≤ d) {e : Option Bool} {g : FuncId} {a : List AV} {h : Heap} {k : KR} (hx : memory_Memory_atv1.get memory_Memory_atv1 e g a h k = some true) : e = some true ∨ callK Try.prog ht d g a h k = some true := by
  unfold memory_Memory_atv1.get at hx
  split at hx
  · exact .inr (memory_Memory_atv1.ok d hd _ _ _ _ hx)
  · exact .inl hx
/-- function 9: (*sheerleg/memory.Memory).Load -/
noncomputable def memory_Memory_Loadv1.body (memory_Memory_atv1 : Int → Bool → Int → (Bool → Bool → Int → Option Bool) → Option Bool) (n10 : Int) (b11 : Bool) (k1 : Int → Bool → Bool → Option Bool) : Option Bool :=
  (memory_Memory_atv1 n10 b11 (0 : Int)
  (fun b18 b19 n20 => (k1 n20 b18 b19)))
noncomputable def memory_Memory_Loadv1 (n10 : Int) (b11 : Bool) (k1 : Int → Bool → Bool → Option Bool) : Option Bool := memory_Memory_Loadv1.body memory_Memory_atv1 n10 b11 k1
noncomputable def memory_Memory_Loadv1.get (F : Int → Bool → (Int → Bool → Bool → Option Bool) → Option Bool) (e : Option Bool) (g : FuncId) (a : List AV) (h : Heap) (k : KR) : Option Bool := match g, a, h with
  | 9, [(.ptr [0, 0] 0 0), (.d ⟨(.int .i64), n10⟩)], [([0, 0], ⟨48, 2, (.mix [(.agg [.nils, (.d ⟨.bool, b11⟩)])])⟩)] => F n10 b11 (fun y0 y1 y2 => k (.tup [(.d ⟨(.int .i64), y0⟩), (.d ⟨.bool, y1⟩)]) [([0, 0], ⟨48, 2, (.mix [(.agg [.nils, (.d ⟨.bool, y2⟩)])])⟩)])
  | _, _, _ => e
noncomputable def memory_Memory_Loadv1.calls (F0 : Int → Bool → Int → (Bool → Bool → Int → Option Bool) → Option Bool) : RecF := fun g a h k => (memory_Memory_atv1.get F0 none g a h k)
noncomputable def memory_Memory_Loadv1.loops : LoopF := fun b => none
set_option maxRecDepth 100000 in
theorem memory_Memory_Loadv1.eq (F0 : Int → Bool → Int → (Bool → Bool → Int → Option Bool) → Option Bool) (n10 : Int) (b11 : Bool) (k : KR) : execL Try.prog ht 9 (callfOf (memory_Memory_Loadv1.calls F0)) (memory_Memory_Loadv1.loops) 0 (codeOf Try.f9) ⟨[(.ptr [0, 0] 0 0), (.d ⟨(.int .i64), n10⟩)] ++ List.replicate (Try.f9.ntmps - ([(.ptr [0, 0] 0 0), (.d ⟨(.int .i64), n10⟩)] : List AV).length) .undef, [([0, 0], ⟨48, 2, (.mix [(.agg [.nils, (.d ⟨.bool, b11⟩)])])⟩)], 2⟩ (leave Try.prog Try.f9 k) = memory_Memory_Loadv1.body F0 n10 b11 (fun y0 y1 y2 => k (.tup [(.d ⟨(.int .i64), y0⟩), (.d ⟨.bool, y1⟩)]) [([0, 0], ⟨48, 2, (.mix [(.agg [.nils, (.d ⟨.bool, y2⟩)])])⟩)]) := by kernel_rfl
theorem memory_Memory_Loadv1.ok (d : Nat) (hd : 3 ≤ d) (n10 : Int) (b11 : Bool) (k : KR) (hx : memory_Memory_Loadv1 n10 b11 (fun y0 y1 y2 => k (.tup [(.d ⟨(.int .i64), y0⟩), (.d ⟨.bool, y1⟩)]) [([0, 0], ⟨48, 2, (.mix [(.agg [.nils, (.d ⟨.bool, y2⟩)])])⟩)]) = some true) : callK Try.prog ht d 9 [(.ptr [0, 0] 0 0), (.d ⟨(.int .i64), n10⟩)] [([0, 0], ⟨48, 2, (.mix [(.agg [.nils, (.d ⟨.bool, b11⟩)])])⟩)] k = some true := by
  obtain ⟨d, rfl⟩ : ∃ e, d = e + 1 := ⟨d - 1, by omega⟩
  exact fn_ok (c := codeOf Try.f9) Try.func9 (by kernel_rfl) (rec := memory_Memory_Loadv1.calls memory_Memory_atv1) (fun g a h k hx => by
    rcases memory_Memory_atv1.look d (by omega) hx with hx | hx
    rotate_left
    · exact hx
    cases hx) (loopf := memory_Memory_Loadv1.loops) (by
    have e : loopsOf (memory_Memory_Loadv1.loops) 0 (codeOf Try.f9) = [] := by kernel_rfl
    rw [e]
    intro p hp
    cases hp) ((memory_Memory_Loadv1.eq memory_Memory_atv1 n10 b11 k).trans hx)
theorem memory_Memory_Loadv1.look (d : Nat) (hd : 3 ≤ d) {e : Option Bool} {g : FuncId} {a : List AV} {h : Heap} {k : KR} (hx : memory_Memory_Loadv1.get memory_Memory_Loadv1 e g a h k = some true) : e = some true ∨ callK Try.prog ht d g a h k = some true := by
  unfold memory_Memory_Loadv1.get at hx
  split at hx
  · exact .inr (memory_Memory_Loadv1.ok d hd _ _ _ hx)
  · exact .inl hx
/-- function 13: (*sheerleg/memory.Memory).Grow -/
noncomputable def memory_Memory_Grow.body (n24 : Int) (k1 : Int → Bool → Option Bool) : Option Bool :=
  (k1 (0 : Int) false)
noncomputable def memory_Memory_Grow (n24 : Int) (k1 : Int → Bool → Option Bool) : Option Bool := memory_Memory_Grow.body n24 k1
noncomputable def memory_Memory_Grow.get (F : Int → (Int → Bool → Option Bool) → Option Bool) (e : Option Bool) (g : FuncId) (a : List AV) (h : Heap) (k : KR) : Option Bool := match g, a, h with
  | 13, [.nilp, (.d ⟨(.int .i64), n24⟩)], [] => F n24 (fun y0 y1 => k (.tup [(.d ⟨(.int .i64), y0⟩), (.d ⟨.bool, y1⟩)]) [])
  | _, _, _ => e
noncomputable def memory_Memory_Grow.calls : RecF := fun g a h k => none
noncomputable def memory_Memory_Grow.loops : LoopF := fun b => none
set_option maxRecDepth 100000 in
theorem memory_Memory_Grow.eq (n24 : Int) (k : KR) : execL Try.prog ht 13 (callfOf (memory_Memory_Grow.calls)) (memory_Memory_Grow.loops) 0 (codeOf Try.f13) ⟨[.nilp, (.d ⟨(.int .i64), n24⟩)] ++ List.replicate (Try.f13.ntmps - ([.nilp, (.d ⟨(.int .i64), n24⟩)] : List AV).length) .undef, [], 2⟩ (leave Try.prog Try.f13 k) = memory_Memory_Grow.body n24 (fun y0 y1 => k (.tup [(.d ⟨(.int .i64), y0⟩), (.d ⟨.bool, y1⟩)]) []) := by kernel_rfl
theorem memory_Memory_Grow.ok (d : Nat) (hd : 1 ≤ d) (n24 : Int) (k : KR) (hx : memory_Memory_Grow n24 (fun y0 y1 => k (.tup [(.d ⟨(.int .i64), y0⟩), (.d ⟨.bool, y1⟩)]) []) = some true) : callK Try.prog ht d 13 [.nilp, (.d ⟨(.int .i64), n24⟩)] [] k = some true := by
  obtain ⟨d, rfl⟩ : ∃ e, d = e + 1 := ⟨d - 1, by omega⟩
  exact fn_ok (c := codeOf Try.f13) Try.func13 (by kernel_rfl) (rec := memory_Memory_Grow.calls) (fun g a h k hx => by
    cases hx) (loopf := memory_Memory_Grow.loops) (by
    have e : loopsOf (memory_Memory_Grow.loops) 0 (codeOf Try.f13) = [] := by kernel_rfl
    rw [e]
    intro p hp
    cases hp) ((memory_Memory_Grow.eq n24 k).trans hx)
theorem memory_Memory_Grow.look (d : Nat) (hd : 1 ≤ d) {e : Option Bool} {g : FuncId} {a : List AV} {h : Heap} {k : KR} (hx : memory_Memory_Grow.get memory_Memory_Grow e g a h k = some true) : e = some true ∨ callK Try.prog ht d g a h k = some true := by
  unfold memory_Memory_Grow.get at hx
  split at hx
  · exact .inr (memory_Memory_Grow.ok d hd _ _ hx)
  · exact .inl hx
/-- function 13: (*sheerleg/memory.Memory).Grow -/
noncomputable def memory_Memory_Growv1.body (n27 : Int) (b28 : Bool) (k1 : Int → Bool → Bool → Option Bool) (k2 : Int → Bool → Bool → (List Int) → Option Bool) : Option Bool :=
  (cond_ (! (! b28)) (cond_ (! (decide (n27 < (1 : Int)))) (cond_ (decide (n27 > (4194304 : Int))) (k1 (0 : Int) false b28) (cond_ ((decide ((0 : Int) ≤ n27)) && (Nat.ble ((Int.toNat n27) * (8 : Nat)) (140737488355328 : Nat))) (k2 (0 : Int) true b28 (List.replicate (Int.toNat n27) (0 : Int))) none)) (k1 (0 : Int) false b28)) (k1 (0 : Int) false b28))
noncomputable def memory_Memory_Growv1 (n27 : Int) (b28 : Bool) (k1 : Int → Bool → Bool → Option Bool) (k2 : Int → Bool → Bool → (List Int) → Option Bool) : Option Bool := memory_Memory_Growv1.body n27 b28 k1 k2
noncomputable def memory_Memory_Growv1.get (F : Int → Bool → (Int → Bool → Bool → Option Bool) → (Int → Bool → Bool → (List Int) → Option Bool) → Option Bool) (e : Option Bool) (g : FuncId) (a : List AV) (h : Heap) (k : KR) : Option Bool := match g, a, h with
  | 13, [(.ptr [0, 0] 0 0), (.d ⟨(.int .i64), n27⟩)], [([0, 0], ⟨48, 2, (.mix [(.agg [.nils, (.d ⟨.bool, b28⟩)])])⟩)] => F n27 b28 (fun y0 y1 y2 => k (.tup [(.d ⟨(.int .i64), y0⟩), (.d ⟨.bool, y1⟩)]) [([0, 0], ⟨48, 2, (.mix [(.agg [.nils, (.d ⟨.bool, y2⟩)])])⟩)]) (fun y0 y1 y2 y3 => k (.tup [(.d ⟨(.int .i64), y0⟩), (.d ⟨.bool, y1⟩)]) [([0, 0], ⟨48, 2, (.mix [(.agg [(.ref [1, 0]), (.d ⟨.bool, y2⟩)])])⟩), ([1, 0], ⟨2, 1, (.data (.int .i64) y3)⟩)])
  | _, _, _ => e
noncomputable def memory_Memory_Growv1.calls : RecF := fun g a h k => none
noncomputable def memory_Memory_Growv1.loops : LoopF := fun b => none
set_option maxRecDepth 100000 in
theorem memory_Memory_Growv1.eq (n27 : Int) (b28 : Bool) (k : KR) : execL Try.prog ht 13 (callfOf (memory_Memory_Growv1.calls)) (memory_Memory_Growv1.loops) 0 (codeOf Try.f13) ⟨[(.ptr [0, 0] 0 0), (.d ⟨(.int .i64), n27⟩)] ++ List.replicate (Try.f13.ntmps - ([(.ptr [0, 0] 0 0), (.d ⟨(.int .i64), n27⟩)] : List AV).length) .undef, [([0, 0], ⟨48, 2, (.mix [(.agg [.nils, (.d ⟨.bool, b28⟩)])])⟩)], 2⟩ (leave Try.prog Try.f13 k) = memory_Memory_Growv1.body n27 b28 (fun y0 y1 y2 => k (.tup [(.d ⟨(.int .i64), y0⟩), (.d ⟨.bool, y1⟩)]) [([0, 0], ⟨48, 2, (.mix [(.agg [.nils, (.d ⟨.bool, y2⟩)])])⟩)]) (fun y0 y1 y2 y3 => k (.tup [(.d ⟨(.int .i64), y0⟩), (.d ⟨.bool, y1⟩)]) [([0, 0], ⟨48, 2, (.mix [(.agg [(.ref [1, 0]), (.d ⟨.bool, y2⟩)])])⟩), ([1, 0], ⟨2, 1, (.data (.int .i64) y3)⟩)]) := by kernel_rfl
theorem memory_Memory_Growv1.ok (d : Nat) (hd : 1 ≤ d) (n27 : Int) (b28 : Bool) (k : KR) (hx : memory_Memory_Growv1 n27 b28 (fun y0 y1 y2 => k (.tup [(.d ⟨(.int .i64), y0⟩), (.d ⟨.bool, y1⟩)]) [([0, 0], ⟨48, 2, (.mix [(.agg [.nils, (.d ⟨.bool, y2⟩)])])⟩)]) (fun y0 y1 y2 y3 => k (.tup [(.d ⟨(.int .i64), y0⟩), (.d ⟨.bool, y1⟩)]) [([0, 0], ⟨48, 2, (.mix [(.agg [(.ref [1, 0]), (.d ⟨.bool, y2⟩)])])⟩), ([1, 0], ⟨2, 1, (.data (.int .i64) y3)⟩)]) = some true) : callK Try.prog ht d 13 [(.ptr [0, 0] 0 0), (.d ⟨(.int .i64), n27⟩)] [([0, 0], ⟨48, 2, (.mix [(.agg [.nils, (.d ⟨.bool, b28⟩)])])⟩)] k = some true := by
  obtain ⟨d, rfl⟩ : ∃ e, d = e + 1 := ⟨d - 1, by omega⟩
  exact fn_ok (c := codeOf Try.f13) Try.func13 (by kernel_rfl) (rec := memory_Memory_Growv1.calls) (fun g a h k hx => by
    cases hx) (loopf := memory_Memory_Growv1.loops) (by
    have e : loopsOf (memory_Memory_Growv1.loops) 0 (codeOf Try.f13) = [] := by kernel_rfl
    rw [e]
    intro p hp
    cases hp) ((memory_Memory_Growv1.eq n27 b28 k).trans hx)
theorem memory_Memory_Growv1.look (d : Nat) (hd : 1 ≤ d) {e : Option Bool} {g : FuncId} {a : List AV} {h : Heap} {k : KR} (hx : memory_Memory_Growv1.get memory_Memory_Growv1 e g a h k = some true) : e = some true ∨ callK Try.prog ht d g a h k = some true := by
  unfold memory_Memory_Growv1.get at hx
  split at hx
  · exact .inr (memory_Memory_Growv1.ok d hd _ _ _ hx)
  · exact .inl hx
/-- function 17: (*sheerleg/memory.Memory).Item -/
noncomputable def memory_Memory_Item.body (memory_Memory_Load : Int → (Int → Bool → Option Bool) → Option Bool) (memory_Memory_Size : (Int → Option Bool) → Option Bool) (n32 : Int) (n33 : Int) (k1 : Int → Int → Option Bool) : Option Bool :=
  (memory_Memory_Load n32
  (fun n34 b35 => (cond_ (! b35) (k1 (0 : Int) (2 : Int)) (cond_ (! (decide (n33 < (0 : Int)))) (cond_ (decide (n33 ≥ n34)) (k1 (0 : Int) (1 : Int)) (memory_Memory_Size
  (fun n36 => (cond_ (decide (n33 ≥ (IntKind.wrap .i64 ((IntKind.wrap .i64 (n36 - (1 : Int))) - n32)))) (k1 (0 : Int) (2 : Int)) (k1 (IntKind.wrap .i64 ((IntKind.wrap .i64 (n32 + (1 : Int))) + n33)) (0 : Int)))))) (k1 (0 : Int) (1 : Int))))))
noncomputable def memory_Memory_Item (n32 : Int) (n33 : Int) (k1 : Int → Int → Option Bool) : Option Bool := memory_Memory_Item.body memory_Memory_Load memory_Memory_Size n32 n33 k1
noncomputable def memory_Memory_Item.get (F : Int → Int → (Int → Int → Option Bool) → Option Bool) (e : Option Bool) (g : FuncId) (a : List AV) (h : Heap) (k : KR) : Option Bool := match g, a, h with
  | 17, [.nilp, (.d ⟨(.int .i64), n32⟩), (.d ⟨(.int .i64), n33⟩)], [] => F n32 n33 (fun y0 y1 => k (.tup [(.d ⟨(.int .i64), y0⟩), (.d ⟨(.int .i64), y1⟩)]) [])
  | _, _, _ => e
noncomputable def memory_Memory_Item.calls (F0 : Int → (Int → Bool → Option Bool) → Option Bool) (F1 : (Int → Option Bool) → Option Bool) : RecF := fun g a h k => (memory_Memory_Load.get F0 (memory_Memory_Size.get F1 none g a h k) g a h k)
noncomputable def memory_Memory_Item.loops : LoopF := fun b => none
set_option maxRecDepth 100000 in
theorem memory_Memory_Item.eq (F0 : Int → (Int → Bool → Option Bool) → Option Bool) (F1 : (Int → Option Bool) → Option Bool) (n32 : Int) (n33 : Int) (k : KR) : execL Try.prog ht 17 (callfOf (memory_Memory_Item.calls F0 F1)) (memory_Memory_Item.loops) 0 (codeOf Try.f17) ⟨[.nilp, (.d ⟨(.int .i64), n32⟩), (.d ⟨(.int .i64), n33⟩)] ++ List.replicate (Try.f17.ntmps - ([.nilp, (.d ⟨(.int .i64), n32⟩), (.d ⟨(.int .i64), n33⟩)] : List AV).length) .undef, [], 2⟩ (leave Try.prog Try.f17 k) = memory_Memory_Item.body F0 F1 n32 n33 (fun y0 y1 => k (.tup [(.d ⟨(.int .i64), y0⟩), (.d ⟨(.int .i64), y1⟩)]) []) := by kernel_rfl
theorem memory_Memory_Item.ok (d : Nat) (hd : 4 ≤ d) (n32 : Int) (n33 : Int) (k : KR) (hx : memory_Memory_Item n32 n33 (fun y0 y1 => k (.tup [(.d ⟨(.int .i64), y0⟩), (.d ⟨(.int .i64), y1⟩)]) []) = some true) : callK Try.prog ht d 17 [.nilp, (.d ⟨(.int .i64), n32⟩), (.d ⟨(.int .i64), n33⟩)] [] k = some true := by
  obtain ⟨d, rfl⟩ : ∃ e, d = e + 1 := ⟨d - 1, by omega⟩
  exact fn_ok (c := codeOf Try.f17) Try.func17 (by kernel_rfl) (rec := memory_Memory_Item.calls memory_Memory_Load memory_Memory_Size) (fun g a h k hx => by
    rcases memory_Memory_Load.look d (by omega) hx with hx | hx
    rotate_left
    · exact hx
    rcases memory_Memory_Size.look d (by omega) hx with hx | hx
    rotate_left
    · exact hx
    cases hx) (loopf := memory_Memory_Item.loops) (by
    have e : loopsOf (memory_Memory_Item.loops) 0 (codeOf Try.f17) = [] := by kernel_rfl
    rw [e]
    intro p hp
    cases hp) ((memory_Memory_Item.eq memory_Memory_Load memory_Memory_Size n32 n33 k).trans hx)
theorem memory_Memory_Item.look (d : Nat) (hd : 4 ≤ d) {e : Option Bool} {g : FuncId} {a : List AV} {h : Heap} {k : KR} (hx : memory_Memory_Item.get memory_Memory_Item e g a h k = some true) : e = some true ∨ callK Try.prog ht d g a h k = some true := by
  unfold memory_Memory_Item.get at hx
  split at hx
  · exact .inr (memory_Memory_Item.ok d hd _ _ _ hx)
  · exact .inl hx
/-- function 17: (*sheerleg/memory.Memory).Item -/
noncomputable def memory_Memory_Itemv1.body (memory_Memory_Loadv1 : Int → Bool → (Int → Bool → Bool → Option Bool) → Option Bool) (memory_Memory_Sizev1 : Bool → (Int → Bool → Option Bool) → Option Bool) (n39 : Int) (n40 : Int) (b41 : Bool) (k1 : Int → Int → Bool → Option Bool) : Option Bool :=
  (memory_Memory_Loadv1 n39 b41
  (fun n42 b43 b44 => (cond_ (! b43) (k1 (0 : Int) (2 : Int) b44) (cond_ (! (decide (n40 < (0 : Int)))) (cond_ (decide (n40 ≥ n42)) (k1 (0 : Int) (1 : Int) b44) (memory_Memory_Sizev1 b44
  (fun n45 b46 => (cond_ (decide (n40 ≥ (IntKind.wrap .i64 ((IntKind.wrap .i64 (n45 - (1 : Int))) - n39)))) (k1 (0 : Int) (2 : Int) b46) (k1 (IntKind.wrap .i64 ((IntKind.wrap .i64 (n39 + (1 : Int))) + n40)) (0 : Int) b46))))) (k1 (0 : Int) (1 : Int) b44)))))
noncomputable def memory_Memory_Itemv1 (n39 : Int) (n40 : Int) (b41 : Bool) (k1 : Int → Int → Bool → Option Bool) : Option Bool := memory_Memory_Itemv1.body memory_Memory_Loadv1 memory_Memory_Sizev1 n39 n40 b41 k1
noncomputable def memory_Memory_Itemv1.get (F : Int → Int → Bool → (Int → Int → Bool → Option Bool) → Option Bool) (e : Option Bool) (g : FuncId) (a : List AV) (h : Heap) (k : KR) : Option Bool := match g, a, h with
  | 17, [(.ptr [0, 0] 0 0), (.d ⟨(.int .i64), n39⟩), (.d ⟨(.int .i64), n40⟩)], [([0, 0], ⟨48, 2, (.mix [(.agg [.nils, (.d ⟨.bool, b41⟩)])])⟩)] => F n39 n40 b41 (fun y0 y1 y2 => k (.tup [(.d ⟨(.int .i64), y0⟩), (.d ⟨(.int .i64), y1⟩)]) [([0, 0], ⟨48, 2, (.mix [(.agg [.nils, (.d ⟨.bool, y2⟩)])])⟩)])
  | _, _, _ => e
noncomputable def memory_Memory_Itemv1.calls (F0 : Int → Bool → (Int → Bool → Bool → Option Bool) → Option Bool) (F1 : Bool → (Int → Bool → Option Bool) → Option Bool) : RecF := fun g a h k => (memory_Memory_Loadv1.get F0 (memory_Memory_Sizev1.get F1 none g a h k) g a h k)
noncomputable def memory_Memory_Itemv1.loops : LoopF := fun b => none
set_option maxRecDepth 100000 in
theorem memory_Memory_Itemv1.eq (F0 : Int → Bool → (Int → Bool → Bool → Option Bool) → Option Bool) (F1 : Bool → (Int → Bool → Option Bool) → Option Bool) (n39 : Int) (n40 : Int) (b41 : Bool) (k : KR) : execL Try.prog ht 17 (callfOf (memory_Memory_Itemv1.calls F0 F1)) (memory_Memory_Itemv1.loops) 0 (codeOf Try.f17) ⟨[(.ptr [0, 0] 0 0), (.d ⟨(.int .i64), n39⟩), (.d ⟨(.int .i64), n40⟩)] ++ List.replicate (Try.f17.ntmps - ([(.ptr [0, 0] 0 0), (.d ⟨(.int .i64), n39⟩), (.d ⟨(.int .i64), n40⟩)] : List AV).length) .undef, [([0, 0], ⟨48, 2, (.mix [(.agg [.nils, (.d ⟨.bool, b41⟩)])])⟩)], 2⟩ (leave Try.prog Try.f17 k) = memory_Memory_Itemv1.body F0 F1 n39 n40 b41 (fun y0 y1 y2 => k (.tup [(.d ⟨(.int .i64), y0⟩), (.d ⟨(.int .i64), y1⟩)]) [([0, 0], ⟨48, 2, (.mix [(.agg [.nils, (.d ⟨.bool, y2⟩)])])⟩)]) := by kernel_rfl
theorem memory_Memory_Itemv1.ok (d : Nat) (hd : 4 ≤ d) (n39 : Int) (n40 : Int) (b41 : Bool) (k : KR) (hx : memory_Memory_Itemv1 n39 n40 b41 (fun y0 y1 y2 => k (.tup [(.d ⟨(.int .i64), y0⟩), (.d ⟨(.int .i64), y1⟩)]) [([0, 0], ⟨48, 2, (.mix [(.agg [.nils, (.d ⟨.bool, y2⟩)])])⟩)]) = some true) : callK Try.prog ht d 17 [(.ptr [0, 0] 0 0), (.d ⟨(.int .i64), n39⟩), (.d ⟨(.int .i64), n40⟩)] [([0, 0], ⟨48, 2, (.mix [(.agg [.nils, (.d ⟨.bool, b41⟩)])])⟩)] k = some true := by
  obtain ⟨d, rfl⟩ : ∃ e, d = e + 1 := ⟨d - 1, by omega⟩
  exact fn_ok (c := codeOf Try.f17) Try.func17 (by kernel_rfl) (rec := memory_Memory_Itemv1.calls memory_Memory_Loadv1 memory_Memory_Sizev1) (fun g a h k hx => by
    rcases memory_Memory_Loadv1.look d (by omega) hx with hx | hx
    rotate_left
    · exact hx
    rcases memory_Memory_Sizev1.look d (by omega) hx with hx | hx
    rotate_left
    · exact hx
    cases hx) (loopf := memory_Memory_Itemv1.loops) (by
    have e : loopsOf (memory_Memory_Itemv1.loops) 0 (codeOf Try.f17) = [] := by kernel_rfl
    rw [e]
    intro p hp
    cases hp) ((memory_Memory_Itemv1.eq memory_Memory_Loadv1 memory_Memory_Sizev1 n39 n40 b41 k).trans hx)
theorem memory_Memory_Itemv1.look (d : Nat) (hd : 4 ≤ d) {e : Option Bool} {g : FuncId} {a : List AV} {h : Heap} {k : KR} (hx : memory_Memory_Itemv1.get memory_Memory_Itemv1 e g a h k = some true) : e = some true ∨ callK Try.prog ht d g a h k = some true := by
  unfold memory_Memory_Itemv1.get at hx
  split at hx
  · exact .inr (memory_Memory_Itemv1.ok d hd _ _ _ _ hx)
  · exact .inl hx
/-- function 21: (*sheerleg/memory.Memory).at -/
noncomputable def memory_Memory_atv2.body (memory_Memory_Size : (Int → Option Bool) → Option Bool) (n55 : Int) (n56 : Int) (k1 : Bool → Int → Option Bool) : Option Bool :=
  (cond_ (! (decide (n55 < (0 : Int)))) (memory_Memory_Size
  (fun n57 => (cond_ (decide (n55 ≥ n57)) (k1 false n56) none))) (k1 false n56))
noncomputable def memory_Memory_atv2 (n55 : Int) (n56 : Int) (k1 : Bool → Int → Option Bool) : Option Bool := memory_Memory_atv2.body memory_Memory_Size n55 n56 k1
noncomputable def memory_Memory_atv2.get (F : Int → Int → (Bool → Int → Option Bool) → Option Bool) (e : Option Bool) (g : FuncId) (a : List AV) (h : Heap) (k : KR) : Option Bool := match g, a, h with
  | 21, [.nilp, (.d ⟨(.int .i64), n55⟩), (.fn (.func 23) [] [(.ptr [0, 0] 0 0)])], [([0, 0], ⟨2, 1, (.data (.int .i64) [n56])⟩)] => F n55 n56 (fun y0 y1 => k (.d ⟨.bool, y0⟩) [([0, 0], ⟨2, 1, (.data (.int .i64) [y1])⟩)])
  | _, _, _ => e
noncomputable def memory_Memory_atv2.calls (F0 : (Int → Option Bool) → Option Bool) : RecF := fun g a h k => (memory_Memory_Size.get F0 none g a h k)
noncomputable def memory_Memory_atv2.loops : LoopF := fun b => none
set_option maxRecDepth 100000 in
theorem memory_Memory_atv2.eq (F0 : (Int → Option Bool) → Option Bool) (n55 : Int) (n56 : Int) (k : KR) : execL Try.prog ht 21 (callfOf (memory_Memory_atv2.calls F0)) (memory_Memory_atv2.loops) 0 (codeOf Try.f21) ⟨[.nilp, (.d ⟨(.int .i64), n55⟩), (.fn (.func 23) [] [(.ptr [0, 0] 0 0)])] ++ List.replicate (Try.f21.ntmps - ([.nilp, (.d ⟨(.int .i64), n55⟩), (.fn (.func 23) [] [(.ptr [0, 0] 0 0)])] : List AV).length) .undef, [([0, 0], ⟨2, 1, (.data (.int .i64) [n56])⟩)], 2⟩ (leave Try.prog Try.f21 k) = memory_Memory_atv2.body F0 n55 n56 (fun y0 y1 => k (.d ⟨.bool, y0⟩) [([0, 0], ⟨2, 1, (.data (.int .i64) [y1])⟩)]) := by kernel_rfl
theorem memory_Memory_atv2.ok (d : Nat) (hd : 2 ≤ d) (n55 : Int) (n56 : Int) (k : KR) (hx : memory_Memory_atv2 n55 n56 (fun y0 y1 => k (.d ⟨.bool, y0⟩) [([0, 0], ⟨2, 1, (.data (.int .i64) [y1])⟩)]) = some true) : callK Try.prog ht d 21 [.nilp, (.d ⟨(.int .i64), n55⟩), (.fn (.func 23) [] [(.ptr [0, 0] 0 0)])] [([0, 0], ⟨2, 1, (.data (.int .i64) [n56])⟩)] k = some true := by
  obtain ⟨d, rfl⟩ : ∃ e, d = e + 1 := ⟨d - 1, by omega⟩
  exact fn_ok (c := codeOf Try.f21) Try.func21 (by kernel_rfl) (rec := memory_Memory_atv2.calls memory_Memory_Size) (fun g a h k hx => by
    rcases memory_Memory_Size.look d (by omega) hx with hx | hx
    rotate_left
    · exact hx
    cases hx) (loopf := memory_Memory_atv2.loops) (by
    have e : loopsOf (memory_Memory_atv2.loops) 0 (codeOf Try.f21) = [] := by kernel_rfl
    rw [e]
    intro p hp
    cases hp) ((memory_Memory_atv2.eq memory_Memory_Size n55 n56 k).trans hx)
theorem memory_Memory_atv2.look (d : Nat) (hd : 2 ≤ d) {e : Option Bool} {g : FuncId} {a : List AV} {h : Heap} {k : KR} (hx : memory_Memory_atv2.get memory_Memory_atv2 e g a h k = some true) : e = some true ∨ callK Try.prog ht d g a h k = some true := by
  unfold memory_Memory_atv2.get at hx
  split at hx
  · exact .inr (memory_Memory_atv2.ok d hd _ _ _ hx)
  · exact .inl hx
/-- function 12: (*sheerleg/memory.Memory).Store -/
noncomputable def memory_Memory_Store.body (memory_Memory_atv2 : Int → Int → (Bool → Int → Option Bool) → Option Bool) (n53 : Int) (n54 : Int) (k1 : Bool → Option Bool) : Option Bool :=
  (memory_Memory_atv2 n53 n54
  (fun b58 n59 => (k1 b58)))
noncomputable def memory_Memory_Store (n53 : Int) (n54 : Int) (k1 : Bool → Option Bool) : Option Bool := memory_Memory_Store.body memory_Memory_atv2 n53 n54 k1
noncomputable def memory_Memory_Store.get (F : Int → Int → (Bool → Option Bool) → Option Bool) (e : Option Bool) (g : FuncId) (a : List AV) (h : Heap) (k : KR) : Option Bool := match g, a, h with
  | 12, [.nilp, (.d ⟨(.int .i64), n53⟩), (.d ⟨(.int .i64), n54⟩)], [] => F n53 n54 (fun y0 => k (.d ⟨.bool, y0⟩) [])
  | _, _, _ => e
noncomputable def memory_Memory_Store.calls (F0 : Int → Int → (Bool → Int → Option Bool) → Option Bool) : RecF := fun g a h k => (memory_Memory_atv2.get F0 none g a h k)
noncomputable def memory_Memory_Store.loops : LoopF := fun b => none
set_option maxRecDepth 100000 in
theorem memory_Memory_Store.eq (F0 : Int → Int → (Bool → Int → Option Bool) → Option Bool) (n53 : Int) (n54 : Int) (k : KR) : execL Try.prog ht 12 (callfOf (memory_Memory_Store.calls F0)) (memory_Memory_Store.loops) 0 (codeOf Try.f12) ⟨[.nilp, (.d ⟨(.int .i64), n53⟩), (.d ⟨(.int .i64), n54⟩)] ++ List.replicate (Try.f12.ntmps - ([.nilp, (.d ⟨(.int .i64), n53⟩), (.d ⟨(.int .i64), n54⟩)] : List AV).length) .undef, [], 2⟩ (leave Try.prog Try.f12 k) = memory_Memory_Store.body F0 n53 n54 (fun y0 => k (.d ⟨.bool, y0⟩) []) := by kernel_rfl
theorem memory_Memory_Store.ok (d : Nat) (hd : 3 ≤ d) (n53 : Int) (n54 : Int) (k : KR) (hx : memory_Memory_Store n53 n54 (fun y0 => k (.d ⟨.bool, y0⟩) []) = some true) : callK Try.prog ht d 12 [.nilp, (.d ⟨(.int .i64), n53⟩), (.d ⟨(.int .i64), n54⟩)] [] k = some true := by
  obtain ⟨d, rfl⟩ : ∃ e, d = e + 1 := ⟨d - 1, by omega⟩
  exact fn_ok (c := codeOf Try.f12) Try.func12 (by kernel_rfl) (rec := memory_Memory_Store.calls memory_Memory_atv2) (fun g a h k hx => by
    rcases memory_Memory_atv2.look d (by omega) hx with hx | hx
    rotate_left
    · exact hx
    cases hx) (loopf := memory_Memory_Store.loops) (by
    have e : loopsOf (memory_Memory_Store.loops) 0 (codeOf Try.f12) = [] := by kernel_rfl
    rw [e]
    intro p hp
    cases hp) ((memory_Memory_Store.eq memory_Memory_atv2 n53 n54 k).trans hx)
theorem memory_Memory_Store.look (d : Nat) (hd : 3 ≤ d) {e : Option Bool} {g : FuncId} {a : List AV} {h : Heap} {k : KR} (hx : memory_Memory_Store.get memory_Memory_Store e g a h k = some true) : e = some true ∨ callK Try.prog ht d g a h k = some true := by
  unfold memory_Memory_Store.get at hx
  split at hx
  · exact .inr (memory_Memory_Store.ok d hd _ _ _ hx)
  · exact .inl hx
/-- function 21: (*sheerleg/memory.Memory).at -/
noncomputable def memory_Memory_atv3.body (memory_Memory_Sizev1 : Bool → (Int → Bool → Option Bool) → Option Bool) (n64 : Int) (b65 : Bool) (n66 : Int) (k1 : Bool → Bool → Int → Option Bool) : Option Bool :=
  (cond_ (! (decide (n64 < (0 : Int)))) (memory_Memory_Sizev1 b65
  (fun n67 b68 => (cond_ (decide (n64 ≥ n67)) (k1 false b68 n66) none))) (k1 false b65 n66))
noncomputable def memory_Memory_atv3 (n64 : Int) (b65 : Bool) (n66 : Int) (k1 : Bool → Bool → Int → Option Bool) : Option Bool := memory_Memory_atv3.body memory_Memory_Sizev1 n64 b65 n66 k1
noncomputable def memory_Memory_atv3.get (F : Int → Bool → Int → (Bool → Bool → Int → Option Bool) → Option Bool) (e : Option Bool) (g : FuncId) (a : List AV) (h : Heap) (k : KR) : Option Bool := match g, a, h with
  | 21, [(.ptr [0, 0] 0 0), (.d ⟨(.int .i64), n64⟩), (.fn (.func 23) [] [(.ptr [0, 1] 0 0)])], [([0, 0], ⟨48, 2, (.mix [(.agg [.nils, (.d ⟨.bool, b65⟩)])])⟩), ([0, 1], ⟨2, 1, (.data (.int .i64) [n66])⟩)] => F n64 b65 n66 (fun y0 y1 y2 => k (.d ⟨.bool, y0⟩) [([0, 0], ⟨48, 2, (.mix [(.agg [.nils, (.d ⟨.bool, y1⟩)])])⟩), ([0, 1], ⟨2, 1, (.data (.int .i64) [y2])⟩)])
  | _, _, _ => e
noncomputable def memory_Memory_atv3.calls (F0 : Bool → (Int → Bool → Option Bool) → Option Bool) : RecF := fun g a h k => (memory_Memory_Sizev1.get F0 none g a h k)
noncomputable def memory_Memory_atv3.loops : LoopF := fun b => none
set_option maxRecDepth 100000 in
theorem memory_Memory_atv3.eq (F0 : Bool → (Int → Bool → Option Bool) → Option Bool) (n64 : Int) (b65 : Bool) (n66 : Int) (k : KR) : execL Try.prog ht 21 (callfOf (memory_Memory_atv3.calls F0)) (memory_Memory_atv3.loops) 0 (codeOf Try.f21) ⟨[(.ptr [0, 0] 0 0), (.d ⟨(.int .i64), n64⟩), (.fn (.func 23) [] [(.ptr [0, 1] 0 0)])] ++ List.replicate (Try.f21.ntmps - ([(.ptr [0, 0] 0 0), (.d ⟨(.int .i64), n64⟩), (.fn (.func 23) [] [(.ptr [0, 1] 0 0)])] : List AV).length) .undef, [([0, 0], ⟨48, 2, (.mix [(.agg [.nils, (.d ⟨.bool, b65⟩)])])⟩), ([0, 1], ⟨2, 1, (.data (.int .i64) [n66])⟩)], 2⟩ (leave Try.prog Try.f21 k) = memory_Memory_atv3.body F0 n64 b65 n66 (fun y0 y1 y2 => k (.d ⟨.bool, y0⟩) [([0, 0], ⟨48, 2, (.mix [(.agg [.nils, (.d ⟨.bool, y1⟩)])])⟩), ([0, 1], ⟨2, 1, (.data (.int .i64) [y2])⟩)]) := by kernel_rfl
theorem memory_Memory_atv3.ok (d : Nat) (hd : 2 ≤ d) (n64 : Int) (b65 : Bool) (n66 : Int) (k : KR) (hx : memory_Memory_atv3 n64 b65 n66 (fun y0 y1 y2 => k (.d ⟨.bool, y0⟩) [([0, 0], ⟨48, 2, (.mix [(.agg [.nils, (.d ⟨.bool, y1⟩)])])⟩), ([0, 1], ⟨2, 1, (.data (.int .i64) [y2])⟩)]) = some true) : callK Try.prog ht d 21 [(.ptr [0, 0] 0 0), (.d ⟨(.int .i64), n64⟩), (.fn (.func 23) [] [(.ptr [0, 1] 0 0)])] [([0, 0], ⟨48, 2, (.mix [(.agg [.nils, (.d ⟨.bool, b65⟩)])])⟩), ([0, 1], ⟨2, 1, (.data (.int .i64) [n66])⟩)] k = some true := by
  obtain ⟨d, rfl⟩ : ∃ e, d = e + 1 := ⟨d - 1, by omega⟩
  exact fn_ok (c := codeOf Try.f21) Try.func21 (by kernel_rfl) (rec := memory_Memory_atv3.calls memory_Memory_Sizev1) (fun g a h k hx => by
    rcases memory_Memory_Sizev1.look d (by omega) hx with hx | hx
    rotate_left
    · exact hx
    cases hx) (loopf := memory_Memory_atv3.loops) (by
    have e : loopsOf (memory_Memory_atv3.loops) 0 (codeOf Try.f21) = [] := by kernel_rfl
    rw [e]
    intro p hp
    cases hp) ((memory_Memory_atv3.eq memory_Memory_Sizev1 n64 b65 n66 k).trans hx)
theorem memory_Memory_atv3.look (d : Nat) (hd : 2 ≤ d) {e : Option Bool} {g : FuncId} {a : List AV} {h : Heap} {k : KR} (hx : memory_Memory_atv3.get memory_Memory_atv3 e g a h k = some true) : e = some true ∨ callK Try.prog ht d g a h k = some true := by
  unfold memory_Memory_atv3.get at hx
  split at hx
  · exact .inr (memory_Memory_atv3.ok d hd _ _ _ _ hx)
  · exact .inl hx
/-- function 12: (*sheerleg/memory.Memory).Store -/
noncomputable def memory_Memory_Storev1.body (memory_Memory_atv3 : Int → Bool → Int → (Bool → Bool → Int → Option Bool) → Option Bool) (n61 : Int) (n62 : Int) (b63 : Bool) (k1 : Bool → Bool → Option Bool) : Option Bool :=
  (memory_Memory_atv3 n61 b63 n62
  (fun b69 b70 n71 => (k1 b69 b70)))
noncomputable def memory_Memory_Storev1 (n61 : Int) (n62 : Int) (b63 : Bool) (k1 : Bool → Bool → Option Bool) : Option Bool := memory_Memory_Storev1.body memory_Memory_atv3 n61 n62 b63 k1
noncomputable def memory_Memory_Storev1.get (F : Int → Int → Bool → (Bool → Bool → Option Bool) → Option Bool) (e : Option Bool) (g : FuncId) (a : List AV) (h : Heap) (k : KR) : Option Bool := match g, a, h with
  | 12, [(.ptr [0, 0] 0 0), (.d ⟨(.int .i64), n61⟩), (.d ⟨(.int .i64), n62⟩)], [([0, 0], ⟨48, 2, (.mix [(.agg [.nils, (.d ⟨.bool, b63⟩)])])⟩)] => F n61 n62 b63 (fun y0 y1 => k (.d ⟨.bool, y0⟩) [([0, 0], ⟨48, 2, (.mix [(.agg [.nils, (.d ⟨.bool, y1⟩)])])⟩)])
  | _, _, _ => e
noncomputable def memory_Memory_Storev1.calls (F0 : Int → Bool → Int → (Bool → Bool → Int → Option Bool) → Option Bool) : RecF := fun g a h k => (memory_Memory_atv3.get F0 none g a h k)
noncomputable def memory_Memory_Storev1.loops : LoopF := fun b => none
set_option maxRecDepth 100000 in
theorem memory_Memory_Storev1.eq (F0 : Int → Bool → Int → (Bool → Bool → Int → Option Bool) → Option Bool) (n61 : Int) (n62 : Int) (b63 : Bool) (k : KR) : execL Try.prog ht 12 (callfOf (memory_Memory_Storev1.calls F0)) (memory_Memory_Storev1.loops) 0 (codeOf Try.f12) ⟨[(.ptr [0, 0] 0 0), (.d ⟨(.int .i64), n61⟩), (.d ⟨(.int .i64), n62⟩)] ++ List.replicate (Try.f12.ntmps - ([(.ptr [0, 0] 0 0), (.d ⟨(.int .i64), n61⟩), (.d ⟨(.int .i64), n62⟩)] : List AV).length) .undef, [([0, 0], ⟨48, 2, (.mix [(.agg [.nils, (.d ⟨.bool, b63⟩)])])⟩)], 2⟩ (leave Try.prog Try.f12 k) = memory_Memory_Storev1.body F0 n61 n62 b63 (fun y0 y1 => k (.d ⟨.bool, y0⟩) [([0, 0], ⟨48, 2, (.mix [(.agg [.nils, (.d ⟨.bool, y1⟩)])])⟩)]) := by kernel_rfl
theorem memory_Memory_Storev1.ok (d : Nat) (hd : 3 ≤ d) (n61 : Int) (n62 : Int) (b63 : Bool) (k : KR) (hx : memory_Memory_Storev1 n61 n62 b63 (fun y0 y1 => k (.d ⟨.bool, y0⟩) [([0, 0], ⟨48, 2, (.mix [(.agg [.nils, (.d ⟨.bool, y1⟩)])])⟩)]) = some true) : callK Try.prog ht d 12 [(.ptr [0, 0] 0 0), (.d ⟨(.int .i64), n61⟩), (.d ⟨(.int .i64), n62⟩)] [([0, 0], ⟨48, 2, (.mix [(.agg [.nils, (.d ⟨.bool, b63⟩)])])⟩)] k = some true := by
  obtain ⟨d, rfl⟩ : ∃ e, d = e + 1 := ⟨d - 1, by omega⟩
  exact fn_ok (c := codeOf Try.f12) Try.func12 (by kernel_rfl) (rec := memory_Memory_Storev1.calls memory_Memory_atv3) (fun g a h k hx => by
    rcases memory_Memory_atv3.look d (by omega) hx with hx | hx
    rotate_left
    · exact hx
    cases hx) (loopf := memory_Memory_Storev1.loops) (by
    have e : loopsOf (memory_Memory_Storev1.loops) 0 (codeOf Try.f12) = [] := by kernel_rfl
    rw [e]
    intro p hp
    cases hp) ((memory_Memory_Storev1.eq memory_Memory_atv3 n61 n62 b63 k).trans hx)
theorem memory_Memory_Storev1.look (d : Nat) (hd : 3 ≤ d) {e : Option Bool} {g : FuncId} {a : List AV} {h : Heap} {k : KR} (hx : memory_Memory_Storev1.get memory_Memory_Storev1 e g a h k = some true) : e = some true ∨ callK Try.prog ht d g a h k = some true := by
  unfold memory_Memory_Storev1.get at hx
  split at hx
  · exact .inr (memory_Memory_Storev1.ok d hd _ _ _ _ hx)
  · exact .inl hx
/-- function 16: (*sheerleg/memory.Memory).Copy -/
noncomputable def memory_Memory_Copy.body (n74 : Int) (n75 : Int) (n76 : Int) (k1 : Bool → Option Bool) : Option Bool :=
  (k1 false)
noncomputable def memory_Memory_Copy (n74 : Int) (n75 : Int) (n76 : Int) (k1 : Bool → Option Bool) : Option Bool := memory_Memory_Copy.body n74 n75 n76 k1
noncomputable def memory_Memory_Copy.get (F : Int → Int → Int → (Bool → Option Bool) → Option Bool) (e : Option Bool) (g : FuncId) (a : List AV) (h : Heap) (k : KR) : Option Bool := match g, a, h with
  | 16, [.nilp, (.d ⟨(.int .i64), n74⟩), (.d ⟨(.int .i64), n75⟩), (.d ⟨(.int .i64), n76⟩)], [] => F n74 n75 n76 (fun y0 => k (.d ⟨.bool, y0⟩) [])
  | _, _, _ => e
noncomputable def memory_Memory_Copy.calls : RecF := fun g a h k => none
noncomputable def memory_Memory_Copy.loops : LoopF := fun b => none
set_option maxRecDepth 100000 in
theorem memory_Memory_Copy.eq (n74 : Int) (n75 : Int) (n76 : Int) (k : KR) : execL Try.prog ht 16 (callfOf (memory_Memory_Copy.calls)) (memory_Memory_Copy.loops) 0 (codeOf Try.f16) ⟨[.nilp, (.d ⟨(.int .i64), n74⟩), (.d ⟨(.int .i64), n75⟩), (.d ⟨(.int .i64), n76⟩)] ++ List.replicate (Try.f16.ntmps - ([.nilp, (.d ⟨(.int .i64), n74⟩), (.d ⟨(.int .i64), n75⟩), (.d ⟨(.int .i64), n76⟩)] : List AV).length) .undef, [], 2⟩ (leave Try.prog Try.f16 k) = memory_Memory_Copy.body n74 n75 n76 (fun y0 => k (.d ⟨.bool, y0⟩) []) := by kernel_rfl
theorem memory_Memory_Copy.ok (d : Nat) (hd : 1 ≤ d) (n74 : Int) (n75 : Int) (n76 : Int) (k : KR) (hx : memory_Memory_Copy n74 n75 n76 (fun y0 => k (.d ⟨.bool, y0⟩) []) = some true) : callK Try.prog ht d 16 [.nilp, (.d ⟨(.int .i64), n74⟩), (.d ⟨(.int .i64), n75⟩), (.d ⟨(.int .i64), n76⟩)] [] k = some true := by
  obtain ⟨d, rfl⟩ : ∃ e, d = e + 1 := ⟨d - 1, by omega⟩
  exact fn_ok (c := codeOf Try.f16) Try.func16 (by kernel_rfl) (rec := memory_Memory_Copy.calls) (fun g a h k hx => by
    cases hx) (loopf := memory_Memory_Copy.loops) (by
    have e : loopsOf (memory_Memory_Copy.loops) 0 (codeOf Try.f16) = [] := by kernel_rfl
    rw [e]
    intro p hp
    cases hp) ((memory_Memory_Copy.eq n74 n75 n76 k).trans hx)
theorem memory_Memory_Copy.look (d : Nat) (hd : 1 ≤ d) {e : Option Bool} {g : FuncId} {a : List AV} {h : Heap} {k : KR} (hx : memory_Memory_Copy.get memory_Memory_Copy e g a h k = some true) : e = some true ∨ callK Try.prog ht d g a h k = some true := by
  unfold memory_Memory_Copy.get at hx
  split at hx
  · exact .inr (memory_Memory_Copy.ok d hd _ _ _ _ hx)
  · exact .inl hx
/-- function 25: (*sheerleg/memory.Memory).Copy$1 -/
noncomputable def memory_Memory_Copyfn1.body (n82 : Int) (b83 : Bool) (n84 : Int) (k1 : Bool → Bool → Int → Option Bool) : Option Bool :=
  (cond_ (decide (n82 ≥ (0 : Int))) (cond_ (decide (n82 ≤ (0 : Int))) (k1 (decide (n84 ≤ (IntKind.wrap .i64 ((0 : Int) - n82)))) b83 n84) (k1 false b83 n84)) (k1 false b83 n84))
noncomputable def memory_Memory_Copyfn1 (n82 : Int) (b83 : Bool) (n84 : Int) (k1 : Bool → Bool → Int → Option Bool) : Option Bool := memory_Memory_Copyfn1.body n82 b83 n84 k1
noncomputable def memory_Memory_Copyfn1.get (F : Int → Bool → Int → (Bool → Bool → Int → Option Bool) → Option Bool) (e : Option Bool) (g : FuncId) (a : List AV) (h : Heap) (k : KR) : Option Bool := match g, a, h with
  | 25, [(.d ⟨(.int .i64), n82⟩), (.ptr [0, 0] 0 0), (.ptr [0, 2] 0 0)], [([0, 0], ⟨25, 1, (.mix [(.ptr [0, 1] 0 0)])⟩), ([0, 1], ⟨48, 2, (.mix [(.agg [.nils, (.d ⟨.bool, b83⟩)])])⟩), ([0, 2], ⟨3, 1, (.data (.int .i64) [n84])⟩)] => F n82 b83 n84 (fun y0 y1 y2 => k (.d ⟨.bool, y0⟩) [([0, 0], ⟨25, 1, (.mix [(.ptr [0, 1] 0 0)])⟩), ([0, 1], ⟨48, 2, (.mix [(.agg [.nils, (.d ⟨.bool, y1⟩)])])⟩), ([0, 2], ⟨3, 1, (.data (.int .i64) [y2])⟩)])
  | _, _, _ => e
noncomputable def memory_Memory_Copyfn1.calls : RecF := fun g a h k => none
noncomputable def memory_Memory_Copyfn1.loops : LoopF := fun b => none
set_option maxRecDepth 100000 in
theorem memory_Memory_Copyfn1.eq (n82 : Int) (b83 : Bool) (n84 : Int) (k : KR) : execL Try.prog ht 25 (callfOf (memory_Memory_Copyfn1.calls)) (memory_Memory_Copyfn1.loops) 0 (codeOf Try.f25) ⟨[(.d ⟨(.int .i64), n82⟩), (.ptr [0, 0] 0 0), (.ptr [0, 2] 0 0)] ++ List.replicate (Try.f25.ntmps - ([(.d ⟨(.int .i64), n82⟩), (.ptr [0, 0] 0 0), (.ptr [0, 2] 0 0)] : List AV).length) .undef, [([0, 0], ⟨25, 1, (.mix [(.ptr [0, 1] 0 0)])⟩), ([0, 1], ⟨48, 2, (.mix [(.agg [.nils, (.d ⟨.bool, b83⟩)])])⟩), ([0, 2], ⟨3, 1, (.data (.int .i64) [n84])⟩)], 2⟩ (leave Try.prog Try.f25 k) = memory_Memory_Copyfn1.body n82 b83 n84 (fun y0 y1 y2 => k (.d ⟨.bool, y0⟩) [([0, 0], ⟨25, 1, (.mix [(.ptr [0, 1] 0 0)])⟩), ([0, 1], ⟨48, 2, (.mix [(.agg [.nils, (.d ⟨.bool, y1⟩)])])⟩), ([0, 2], ⟨3, 1, (.data (.int .i64) [y2])⟩)]) := by kernel_rfl
theorem memory_Memory_Copyfn1.ok (d : Nat) (hd : 1 ≤ d) (n82 : Int) (b83 : Bool) (n84 : Int) (k : KR) (hx : memory_Memory_Copyfn1 n82 b83 n84 (fun y0 y1 y2 => k (.d ⟨.bool, y0⟩) [([0, 0], ⟨25, 1, (.mix [(.ptr [0, 1] 0 0)])⟩), ([0, 1], ⟨48, 2, (.mix [(.agg [.nils, (.d ⟨.bool, y1⟩)])])⟩), ([0, 2], ⟨3, 1, (.data (.int .i64) [y2])⟩)]) = some true) : callK Try.prog ht d 25 [(.d ⟨(.int .i64), n82⟩), (.ptr [0, 0] 0 0), (.ptr [0, 2] 0 0)] [([0, 0], ⟨25, 1, (.mix [(.ptr [0, 1] 0 0)])⟩), ([0, 1], ⟨48, 2, (.mix [(.agg [.nils, (.d ⟨.bool, b83⟩)])])⟩), ([0, 2], ⟨3, 1, (.data (.int .i64) [n84])⟩)] k = some true := by
  obtain ⟨d, rfl⟩ : ∃ e, d = e + 1 := ⟨d - 1, by omega⟩
  exact fn_ok (c := codeOf Try.f25) Try.func25 (by kernel_rfl) (rec := memory_Memory_Copyfn1.calls) (fun g a h k hx => by
    cases hx) (loopf := memory_Memory_Copyfn1.loops) (by
    have e : loopsOf (memory_Memory_Copyfn1.loops) 0 (codeOf Try.f25) = [] := by kernel_rfl
    rw [e]
    intro p hp
    cases hp) ((memory_Memory_Copyfn1.eq n82 b83 n84 k).trans hx)
theorem memory_Memory_Copyfn1.look (d : Nat) (hd : 1 ≤ d) {e : Option Bool} {g : FuncId} {a : List AV} {h : Heap} {k : KR} (hx : memory_Memory_Copyfn1.get memory_Memory_Copyfn1 e g a h k = some true) : e = some true ∨ callK Try.prog ht d g a h k = some true := by
  unfold memory_Memory_Copyfn1.get at hx
  split at hx
  · exact .inr (memory_Memory_Copyfn1.ok d hd _ _ _ _ hx)
  · exact .inl hx
/-- function 16: (*sheerleg/memory.Memory).Copy -/
noncomputable def memory_Memory_Copyv1.body (memory_Memory_Copyfn1 : Int → Bool → Int → (Bool → Bool → Int → Option Bool) → Option Bool) (n78 : Int) (n79 : Int) (n80 : Int) (b81 : Bool) (k1 : Bool → Bool → Option Bool) : Option Bool :=
  (cond_ (! (! b81)) (cond_ (! (decide (n80 < (0 : Int)))) (memory_Memory_Copyfn1 n78 b81 n80
  (fun b85 b86 n87 => (cond_ (! (! b85)) (memory_Memory_Copyfn1 n79 b86 n87
  (fun b88 b89 n90 => (cond_ (! b88) (k1 false b89) (cond_ ((decide ((0 : Int) ≤ n78)) && (decide (n78 ≤ (0 : Int)))) (cond_ (((decide ((0 : Int) ≤ n79)) && (decide (n79 ≤ (IntKind.wrap .i64 (n79 + n90))))) && (decide ((IntKind.wrap .i64 (n79 + n90)) ≤ (0 : Int)))) none none) none)))) (k1 false b86)))) (k1 false b81)) (k1 false b81))
noncomputable def memory_Memory_Copyv1 (n78 : Int) (n79 : Int) (n80 : Int) (b81 : Bool) (k1 : Bool → Bool → Option Bool) : Option Bool := memory_Memory_Copyv1.body memory_Memory_Copyfn1 n78 n79 n80 b81 k1
noncomputable def memory_Memory_Copyv1.get (F : Int → Int → Int → Bool → (Bool → Bool → Option Bool) → Option Bool) (e : Option Bool) (g : FuncId) (a : List AV) (h : Heap) (k : KR) : Option Bool := match g, a, h with
  | 16, [(.ptr [0, 0] 0 0), (.d ⟨(.int .i64), n78⟩), (.d ⟨(.int .i64), n79⟩), (.d ⟨(.int .i64), n80⟩)], [([0, 0], ⟨48, 2, (.mix [(.agg [.nils, (.d ⟨.bool, b81⟩)])])⟩)] => F n78 n79 n80 b81 (fun y0 y1 => k (.d ⟨.bool, y0⟩) [([0, 0], ⟨48, 2, (.mix [(.agg [.nils, (.d ⟨.bool, y1⟩)])])⟩)])
  | _, _, _ => e
noncomputable def memory_Memory_Copyv1.calls (F0 : Int → Bool → Int → (Bool → Bool → Int → Option Bool) → Option Bool) : RecF := fun g a h k => (memory_Memory_Copyfn1.get F0 none g a h k)
noncomputable def memory_Memory_Copyv1.loops : LoopF := fun b => none
set_option maxRecDepth 100000 in
theorem memory_Memory_Copyv1.eq (F0 : Int → Bool → Int → (Bool → Bool → Int → Option Bool) → Option Bool) (n78 : Int) (n79 : Int) (n80 : Int) (b81 : Bool) (k : KR) : execL Try.prog ht 16 (callfOf (memory_Memory_Copyv1.calls F0)) (memory_Memory_Copyv1.loops) 0 (codeOf Try.f16) ⟨[(.ptr [0, 0] 0 0), (.d ⟨(.int .i64), n78⟩), (.d ⟨(.int .i64), n79⟩), (.d ⟨(.int .i64), n80⟩)] ++ List.replicate (Try.f16.ntmps - ([(.ptr [0, 0] 0 0), (.d ⟨(.int .i64), n78⟩), (.d ⟨(.int .i64), n79⟩), (.d ⟨(.int .i64), n80⟩)] : List AV).length) .undef, [([0, 0], ⟨48, 2, (.mix [(.agg [.nils, (.d ⟨.bool, b81⟩)])])⟩)], 2⟩ (leave Try.prog Try.f16 k) = memory_Memory_Copyv1.body F0 n78 n79 n80 b81 (fun y0 y1 => k (.d ⟨.bool, y0⟩) [([0, 0], ⟨48, 2, (.mix [(.agg [.nils, (.d ⟨.bool, y1⟩)])])⟩)]) := by kernel_rfl
theorem memory_Memory_Copyv1.ok (d : Nat) (hd : 2 ≤ d) (n78 : Int) (n79 : Int) (n80 : Int) (b81 : Bool) (k : KR) (hx : memory_Memory_Copyv1 n78 n79 n80 b81 (fun y0 y1 => k (.d ⟨.bool, y0⟩) [([0, 0], ⟨48, 2, (.mix [(.agg [.nils, (.d ⟨.bool, y1⟩)])])⟩)]) = some true) : callK Try.prog ht d 16 [(.ptr [0, 0] 0 0), (.d ⟨(.int .i64), n78⟩), (.d ⟨(.int .i64), n79⟩), (.d ⟨(.int .i64), n80⟩)] [([0, 0], ⟨48, 2, (.mix [(.agg [.nils, (.d ⟨.bool, b81⟩)])])⟩)] k = some true := by
  obtain ⟨d, rfl⟩ : ∃ e, d = e + 1 := ⟨d - 1, by omega⟩
  exact fn_ok (c := codeOf Try.f16) Try.func16 (by kernel_rfl) (rec := memory_Memory_Copyv1.calls memory_Memory_Copyfn1) (fun g a h k hx => by
    rcases memory_Memory_Copyfn1.look d (by omega) hx with hx | hx
    rotate_left
    · exact hx
    cases hx) (loopf := memory_Memory_Copyv1.loops) (by
    have e : loopsOf (memory_Memory_Copyv1.loops) 0 (codeOf Try.f16) = [] := by kernel_rfl
    rw [e]
    intro p hp
    cases hp) ((memory_Memory_Copyv1.eq memory_Memory_Copyfn1 n78 n79 n80 b81 k).trans hx)
theorem memory_Memory_Copyv1.look (d : Nat) (hd : 2 ≤ d) {e : Option Bool} {g : FuncId} {a : List AV} {h : Heap} {k : KR} (hx : memory_Memory_Copyv1.get memory_Memory_Copyv1 e g a h k = some true) : e = some true ∨ callK Try.prog ht d g a h k = some true := by
  unfold memory_Memory_Copyv1.get at hx
  split at hx
  · exact .inr (memory_Memory_Copyv1.ok d hd _ _ _ _ _ hx)
  · exact .inl hx
/-- function 7: sheerleg/sheerleglaw38.known, all of it at once -/
def law38_known (k1 : Bool → Option Bool) : Option Bool := k1 true
def law38_known.get (F : (Bool → Option Bool) → Option Bool) (e : Option Bool) (g : FuncId) (a : List AV) (h : Heap) (k : KR) : Option Bool := match g, a, h with
  | 7, [], [] => F (fun y => k (.d ⟨.bool, y⟩) [])
  | _, _, _ => e
set_option maxRecDepth 100000 in
theorem law38_known.all (k : KR) : callK Try.prog ht 60 7 [] [] k = k (.d ⟨.bool, true⟩) [] := by kernel_rfl
theorem law38_known.look (d : Nat) (hd : 60 ≤ d) {e : Option Bool} {g : FuncId} {a : List AV} {h : Heap} {k : KR} (hx : law38_known.get law38_known e g a h k = some true) : e = some true ∨ callK Try.prog ht d g a h k = some true := by
  unfold law38_known.get at hx
  split at hx
  · exact .inr (callK_le hd _ _ _ _ _ (fun _ _ h => h) ((law38_known.all _).trans hx))
  · exact .inl hx
/-- function 19: (*sheerleg/memory.Memory).Size -/
noncomputable def memory_Memory_Sizev2.body (b111 : Bool) (ns112 : List Int) (k1 : Int → Bool → (List Int) → Option Bool) : Option Bool :=
  (cond_ (! b111) (k1 (0 : Int) b111 ns112) (k1 (((List.length ns112) : Nat) : Int) b111 ns112))
noncomputable def memory_Memory_Sizev2 (b111 : Bool) (ns112 : List Int) (k1 : Int → Bool → (List Int) → Option Bool) : Option Bool := memory_Memory_Sizev2.body b111 ns112 k1
noncomputable def memory_Memory_Sizev2.get (F : Bool → (List Int) → (Int → Bool → (List Int) → Option Bool) → Option Bool) (e : Option Bool) (g : FuncId) (a : List AV) (h : Heap) (k : KR) : Option Bool := match g, a, h with
  | 19, [(.ptr [0, 0] 0 0)], [([0, 0], ⟨48, 2, (.mix [(.agg [(.ref [0, 1]), (.d ⟨.bool, b111⟩)])])⟩), ([0, 1], ⟨2, 1, (.data (.int .i64) ns112)⟩)] => F b111 ns112 (fun y0 y1 y2 => k (.d ⟨(.int .i64), y0⟩) [([0, 0], ⟨48, 2, (.mix [(.agg [(.ref [0, 1]), (.d ⟨.bool, y1⟩)])])⟩), ([0, 1], ⟨2, 1, (.data (.int .i64) y2)⟩)])
  | _, _, _ => e
noncomputable def memory_Memory_Sizev2.calls : RecF := fun g a h k => none
noncomputable def memory_Memory_Sizev2.loops : LoopF := fun b => none
set_option maxRecDepth 100000 in
theorem memory_Memory_Sizev2.eq (b111 : Bool) (ns112 : List Int) (k : KR) : execL Try.prog ht 19 (callfOf (memory_Memory_Sizev2.calls)) (memory_Memory_Sizev2.loops) 0 (codeOf Try.f19) ⟨[(.ptr [0, 0] 0 0)] ++ List.replicate (Try.f19.ntmps - ([(.ptr [0, 0] 0 0)] : List AV).length) .undef, [([0, 0], ⟨48, 2, (.mix [(.agg [(.ref [0, 1]), (.d ⟨.bool, b111⟩)])])⟩), ([0, 1], ⟨2, 1, (.data (.int .i64) ns112)⟩)], 2⟩ (leave Try.prog Try.f19 k) = memory_Memory_Sizev2.body b111 ns112 (fun y0 y1 y2 => k (.d ⟨(.int .i64), y0⟩) [([0, 0], ⟨48, 2, (.mix [(.agg [(.ref [0, 1]), (.d ⟨.bool, y1⟩)])])⟩), ([0, 1], ⟨2, 1, (.data (.int .i64) y2)⟩)]) := by kernel_rfl
theorem memory_Memory_Sizev2.ok (d : Nat) (hd : 1 ≤ d) (b111 : Bool) (ns112 : List Int) (k : KR) (hx : memory_Memory_Sizev2 b111 ns112 (fun y0 y1 y2 => k (.d ⟨(.int .i64), y0⟩) [([0, 0], ⟨48, 2, (.mix [(.agg [(.ref [0, 1]), (.d ⟨.bool, y1⟩)])])⟩), ([0, 1], ⟨2, 1, (.data (.int .i64) y2)⟩)]) = some true) : callK Try.prog ht d 19 [(.ptr [0, 0] 0 0)] [([0, 0], ⟨48, 2, (.mix [(.agg [(.ref [0, 1]), (.d ⟨.bool, b111⟩)])])⟩), ([0, 1], ⟨2, 1, (.data (.int .i64) ns112)⟩)] k = some true := by
  obtain ⟨d, rfl⟩ : ∃ e, d = e + 1 := ⟨d - 1, by omega⟩
  exact fn_ok (c := codeOf Try.f19) Try.func19 (by kernel_rfl) (rec := memory_Memory_Sizev2.calls) (fun g a h k hx => by
    cases hx) (loopf := memory_Memory_Sizev2.loops) (by
    have e : loopsOf (memory_Memory_Sizev2.loops) 0 (codeOf Try.f19) = [] := by kernel_rfl
    rw [e]
    intro p hp
    cases hp) ((memory_Memory_Sizev2.eq b111 ns112 k).trans hx)
theorem memory_Memory_Sizev2.look (d : Nat) (hd : 1 ≤ d) {e : Option Bool} {g : FuncId} {a : List AV} {h : Heap} {k : KR} (hx : memory_Memory_Sizev2.get memory_Memory_Sizev2 e g a h k = some true) : e = some true ∨ callK Try.prog ht d g a h k = some true := by
  unfold memory_Memory_Sizev2.get at hx
  split at hx
  · exact .inr (memory_Memory_Sizev2.ok d hd _ _ _ hx)
  · exact .inl hx
/-- function 22: (*sheerleg/memory.Memory).Load$1 -/
noncomputable def memory_Memory_Loadfn1.body (m116 : Nat) (ns117 : List Int) (n118 : Int) (k1 : (List Int) → Int → Option Bool) : Option Bool :=
  (k1 ns117 (List.getD ns117 m116 (0 : Int)))
noncomputable def memory_Memory_Loadfn1 (m116 : Nat) (ns117 : List Int) (n118 : Int) (k1 : (List Int) → Int → Option Bool) : Option Bool := memory_Memory_Loadfn1.body m116 ns117 n118 k1
noncomputable def memory_Memory_Loadfn1.get (F : Nat → (List Int) → Int → ((List Int) → Int → Option Bool) → Option Bool) (e : Option Bool) (g : FuncId) (a : List AV) (h : Heap) (k : KR) : Option Bool := match g, a, h with
  | 22, [(.ptr [0, 0] m116 0), (.ptr [0, 1] 0 0)], [([0, 0], ⟨2, 1, (.data (.int .i64) ns117)⟩), ([0, 1], ⟨2, 1, (.data (.int .i64) [n118])⟩)] => F m116 ns117 n118 (fun y0 y1 => k (.tup []) [([0, 0], ⟨2, 1, (.data (.int .i64) y0)⟩), ([0, 1], ⟨2, 1, (.data (.int .i64) [y1])⟩)])
  | _, _, _ => e
noncomputable def memory_Memory_Loadfn1.calls : RecF := fun g a h k => none
noncomputable def memory_Memory_Loadfn1.loops : LoopF := fun b => none
set_option maxRecDepth 100000 in
theorem memory_Memory_Loadfn1.eq (m116 : Nat) (ns117 : List Int) (n118 : Int) (k : KR) : execL Try.prog ht 22 (callfOf (memory_Memory_Loadfn1.calls)) (memory_Memory_Loadfn1.loops) 0 (codeOf Try.f22) ⟨[(.ptr [0, 0] m116 0), (.ptr [0, 1] 0 0)] ++ List.replicate (Try.f22.ntmps - ([(.ptr [0, 0] m116 0), (.ptr [0, 1] 0 0)] : List AV).length) .undef, [([0, 0], ⟨2, 1, (.data (.int .i64) ns117)⟩), ([0, 1], ⟨2, 1, (.data (.int .i64) [n118])⟩)], 2⟩ (leave Try.prog Try.f22 k) = memory_Memory_Loadfn1.body m116 ns117 n118 (fun y0 y1 => k (.tup []) [([0, 0], ⟨2, 1, (.data (.int .i64) y0)⟩), ([0, 1], ⟨2, 1, (.data (.int .i64) [y1])⟩)]) := by kernel_rfl
theorem memory_Memory_Loadfn1.ok (d : Nat) (hd : 1 ≤ d) (m116 : Nat) (ns117 : List Int) (n118 : Int) (k : KR) (hx : memory_Memory_Loadfn1 m116 ns117 n118 (fun y0 y1 => k (.tup []) [([0, 0], ⟨2, 1, (.data (.int .i64) y0)⟩), ([0, 1], ⟨2, 1, (.data (.int .i64) [y1])⟩)]) = some true) : callK Try.prog ht d 22 [(.ptr [0, 0] m116 0), (.ptr [0, 1] 0 0)] [([0, 0], ⟨2, 1, (.data (.int .i64) ns117)⟩), ([0, 1], ⟨2, 1, (.data (.int .i64) [n118])⟩)] k = some true := by
  obtain ⟨d, rfl⟩ : ∃ e, d = e + 1 := ⟨d - 1, by omega⟩
  exact fn_ok (c := codeOf Try.f22) Try.func22 (by kernel_rfl) (rec := memory_Memory_Loadfn1.calls) (fun g a h k hx => by
    cases hx) (loopf := memory_Memory_Loadfn1.loops) (by
    have e : loopsOf (memory_Memory_Loadfn1.loops) 0 (codeOf Try.f22) = [] := by kernel_rfl
    rw [e]
    intro p hp
    cases hp) ((memory_Memory_Loadfn1.eq m116 ns117 n118 k).trans hx)
theorem memory_Memory_Loadfn1.look (d : Nat) (hd : 1 ≤ d) {e : Option Bool} {g : FuncId} {a : List AV} {h : Heap} {k : KR} (hx : memory_Memory_Loadfn1.get memory_Memory_Loadfn1 e g a h k = some true) : e = some true ∨ callK Try.prog ht d g a h k = some true := by
  unfold memory_Memory_Loadfn1.get at hx
  split at hx
  · exact .inr (memory_Memory_Loadfn1.ok d hd _ _ _ _ hx)
  · exact .inl hx
/-- function 21: (*sheerleg/memory.Memory).at -/
noncomputable def memory_Memory_atv4.body (memory_Memory_Sizev2 : Bool → (List Int) → (Int → Bool → (List Int) → Option Bool) → Option Bool) (memory_Memory_Loadfn1 : Nat → (List Int) → Int → ((List Int) → Int → Option Bool) → Option Bool) (n107 : Int) (b108 : Bool) (ns109 : List Int) (n110 : Int) (k1 : Bool → Bool → (List Int) → Int → Option Bool) : Option Bool :=
  (cond_ (! (decide (n107 < (0 : Int)))) (memory_Memory_Sizev2 b108 ns109
  (fun n113 b114 ns115 => (cond_ (decide (n107 ≥ n113)) (k1 false b114 ns115 n110) (cond_ ((decide ((0 : Int) ≤ n107)) && (decide (n107 < (((List.length ns115) : Nat) : Int)))) (memory_Memory_Loadfn1 (Int.toNat n107) ns115 n110
  (fun ns119 n120 => (k1 true b114 ns119 n120))) none)))) (k1 false b108 ns109 n110))
noncomputable def memory_Memory_atv4 (n107 : Int) (b108 : Bool) (ns109 : List Int) (n110 : Int) (k1 : Bool → Bool → (List Int) → Int → Option Bool) : Option Bool := memory_Memory_atv4.body memory_Memory_Sizev2 memory_Memory_Loadfn1 n107 b108 ns109 n110 k1
noncomputable def memory_Memory_atv4.get (F : Int → Bool → (List Int) → Int → (Bool → Bool → (List Int) → Int → Option Bool) → Option Bool) (e : Option Bool) (g : FuncId) (a : List AV) (h : Heap) (k : KR) : Option Bool := match g, a, h with
  | 21, [(.ptr [0, 0] 0 0), (.d ⟨(.int .i64), n107⟩), (.fn (.func 22) [] [(.ptr [0, 2] 0 0)])], [([0, 0], ⟨48, 2, (.mix [(.agg [(.ref [0, 1]), (.d ⟨.bool, b108⟩)])])⟩), ([0, 1], ⟨2, 1, (.data (.int .i64) ns109)⟩), ([0, 2], ⟨2, 1, (.data (.int .i64) [n110])⟩)] => F n107 b108 ns109 n110 (fun y0 y1 y2 y3 => k (.d ⟨.bool, y0⟩) [([0, 0], ⟨48, 2, (.mix [(.agg [(.ref [0, 1]), (.d ⟨.bool, y1⟩)])])⟩), ([0, 1], ⟨2, 1, (.data (.int .i64) y2)⟩), ([0, 2], ⟨2, 1, (.data (.int .i64) [y3])⟩)])
  | _, _, _ => e
noncomputable def memory_Memory_atv4.calls (F0 : Bool → (List Int) → (Int → Bool → (List Int) → Option Bool) → Option Bool) (F1 : Nat → (List Int) → Int → ((List Int) → Int → Option Bool) → Option Bool) : RecF := fun g a h k => (memory_Memory_Sizev2.get F0 (memory_Memory_Loadfn1.get F1 none g a h k) g a h k)
noncomputable def memory_Memory_atv4.loops : LoopF := fun b => none
set_option maxRecDepth 100000 in
theorem memory_Memory_atv4.eq (F0 : Bool → (List Int) → (Int → Bool → (List Int) → Option Bool) → Option Bool) (F1 : Nat → (List Int) → Int → ((List Int) → Int → Option Bool) → Option Bool) (n107 : Int) (b108 : Bool) (ns109 : List Int) (n110 : Int) (k : KR) : execL Try.prog ht 21 (callfOf (memory_Memory_atv4.calls F0 F1)) (memory_Memory_atv4.loops) 0 (codeOf Try.f21) ⟨[(.ptr [0, 0] 0 0), (.d ⟨(.int .i64), n107⟩), (.fn (.func 22) [] [(.ptr [0, 2] 0 0)])] ++ List.replicate (Try.f21.ntmps - ([(.ptr [0, 0] 0 0), (.d ⟨(.int .i64), n107⟩), (.fn (.func 22) [] [(.ptr [0, 2] 0 0)])] : List AV).length) .undef, [([0, 0], ⟨48, 2, (.mix [(.agg [(.ref [0, 1]), (.d ⟨.bool, b108⟩)])])⟩), ([0, 1], ⟨2, 1, (.data (.int .i64) ns109)⟩), ([0, 2], ⟨2, 1, (.data (.int .i64) [n110])⟩)], 2⟩ (leave Try.prog Try.f21 k) = memory_Memory_atv4.body F0 F1 n107 b108 ns109 n110 (fun y0 y1 y2 y3 => k (.d ⟨.bool, y0⟩) [([0, 0], ⟨48, 2, (.mix [(.agg [(.ref [0, 1]), (.d ⟨.bool, y1⟩)])])⟩), ([0, 1], ⟨2, 1, (.data (.int .i64) y2)⟩), ([0, 2], ⟨2, 1, (.data (.int .i64) [y3])⟩)]) := by kernel_rfl
theorem memory_Memory_atv4.ok (d : Nat) (hd : 2 ≤ d) (n107 : Int) (b108 : Bool) (ns109 : List Int) (n110 : Int) (k : KR) (hx : memory_Memory_atv4 n107 b108 ns109 n110 (fun y0 y1 y2 y3 => k (.d ⟨.bool, y0⟩) [([0, 0], ⟨48, 2, (.mix [(.agg [(.ref [0, 1]), (.d ⟨.bool, y1⟩)])])⟩), ([0, 1], ⟨2, 1, (.data (.int .i64) y2)⟩), ([0, 2], ⟨2, 1, (.data (.int .i64) [y3])⟩)]) = some true) : callK Try.prog ht d 21 [(.ptr [0, 0] 0 0), (.d ⟨(.int .i64), n107⟩), (.fn (.func 22) [] [(.ptr [0, 2] 0 0)])] [([0, 0], ⟨48, 2, (.mix [(.agg [(.ref [0, 1]), (.d ⟨.bool, b108⟩)])])⟩), ([0, 1], ⟨2, 1, (.data (.int .i64) ns109)⟩), ([0, 2], ⟨2, 1, (.data (.int .i64) [n110])⟩)] k = some true := by
  obtain ⟨d, rfl⟩ : ∃ e, d = e + 1 := ⟨d - 1, by omega⟩
  exact fn_ok (c := codeOf Try.f21) Try.func21 (by kernel_rfl) (rec := memory_Memory_atv4.calls memory_Memory_Sizev2 memory_Memory_Loadfn1) (fun g a h k hx => by
    rcases memory_Memory_Sizev2.look d (by omega) hx with hx | hx
    rotate_left
    · exact hx
    rcases memory_Memory_Loadfn1.look d (by omega) hx with hx | hx
    rotate_left
    · exact hx
    cases hx) (loopf := memory_Memory_atv4.loops) (by
    have e : loopsOf (memory_Memory_atv4.loops) 0 (codeOf Try.f21) = [] := by kernel_rfl
    rw [e]
    intro p hp
    cases hp) ((memory_Memory_atv4.eq memory_Memory_Sizev2 memory_Memory_Loadfn1 n107 b108 ns109 n110 k).trans hx)
theorem memory_Memory_atv4.look (d : Nat) (hd : 2 ≤ d) {e : Option Bool} {g : FuncId} {a : List AV} {h : Heap} {k : KR} (hx : memory_Memory_atv4.get memory_Memory_atv4 e g a h k = some true) : e = some true ∨ callK Try.prog ht d g a h k = some true := by
  unfold memory_Memory_atv4.get at hx
  split at hx
  · exact .inr (memory_Memory_atv4.ok d hd _ _ _ _ _ hx)
  · exact .inl hx
/-- function 9: (*sheerleg/memory.Memory).Load -/
noncomputable def memory_Memory_Loadv2.body (memory_Memory_atv4 : Int → Bool → (List Int) → Int → (Bool → Bool → (List Int) → Int → Option Bool) → Option Bool) (n104 : Int) (b105 : Bool) (ns106 : List Int) (k1 : Int → Bool → Bool → (List Int) → Option Bool) : Option Bool :=
  (memory_Memory_atv4 n104 b105 ns106 (0 : Int)
  (fun b121 b122 ns123 n124 => (k1 n124 b121 b122 ns123)))
noncomputable def memory_Memory_Loadv2 (n104 : Int) (b105 : Bool) (ns106 : List Int) (k1 : Int → Bool → Bool → (List Int) → Option Bool) : Option Bool := memory_Memory_Loadv2.body memory_Memory_atv4 n104 b105 ns106 k1
noncomputable def memory_Memory_Loadv2.get (F : Int → Bool → (List Int) → (Int → Bool → Bool → (List Int) → Option Bool) → Option Bool) (e : Option Bool) (g : FuncId) (a : List AV) (h : Heap) (k : KR) : Option Bool := match g, a, h with
  | 9, [(.ptr [0, 0] 0 0), (.d ⟨(.int .i64), n104⟩)], [([0, 0], ⟨48, 2, (.mix [(.agg [(.ref [0, 1]), (.d ⟨.bool, b105⟩)])])⟩), ([0, 1], ⟨2, 1, (.data (.int .i64) ns106)⟩)] => F n104 b105 ns106 (fun y0 y1 y2 y3 => k (.tup [(.d ⟨(.int .i64), y0⟩), (.d ⟨.bool, y1⟩)]) [([0, 0], ⟨48, 2, (.mix [(.agg [(.ref [0, 1]), (.d ⟨.bool, y2⟩)])])⟩), ([0, 1], ⟨2, 1, (.data (.int .i64) y3)⟩)])
  | _, _, _ => e
noncomputable def memory_Memory_Loadv2.calls (F0 : Int → Bool → (List Int) → Int → (Bool → Bool → (List Int) → Int → Option Bool) → Option Bool) : RecF := fun g a h k => (memory_Memory_atv4.get F0 none g a h k)
noncomputable def memory_Memory_Loadv2.loops : LoopF := fun b => none
set_option maxRecDepth 100000 in
theorem memory_Memory_Loadv2.eq (F0 : Int → Bool → (List Int) → Int → (Bool → Bool → (List Int) → Int → Option Bool) → Option Bool) (n104 : Int) (b105 : Bool) (ns106 : List Int) (k : KR) : execL Try.prog ht 9 (callfOf (memory_Memory_Loadv2.calls F0)) (memory_Memory_Loadv2.loops) 0 (codeOf Try.f9) ⟨[(.ptr [0, 0] 0 0), (.d ⟨(.int .i64), n104⟩)] ++ List.replicate (Try.f9.ntmps - ([(.ptr [0, 0] 0 0), (.d ⟨(.int .i64), n104⟩)] : List AV).length) .undef, [([0, 0], ⟨48, 2, (.mix [(.agg [(.ref [0, 1]), (.d ⟨.bool, b105⟩)])])⟩), ([0, 1], ⟨2, 1, (.data (.int .i64) ns106)⟩)], 2⟩ (leave Try.prog Try.f9 k) = memory_Memory_Loadv2.body F0 n104 b105 ns106 (fun y0 y1 y2 y3 => k (.tup [(.d ⟨(.int .i64), y0⟩), (.d ⟨.bool, y1⟩)]) [([0, 0], ⟨48, 2, (.mix [(.agg [(.ref [0, 1]), (.d ⟨.bool, y2⟩)])])⟩), ([0, 1], ⟨2, 1, (.data (.int .i64) y3)⟩)]) := by kernel_rfl
theorem memory_Memory_Loadv2.ok (d : Nat) (hd : 3 ≤ d) (n104 : Int) (b105 : Bool) (ns106 : List Int) (k : KR) (hx : memory_Memory_Loadv2 n104 b105 ns106 (fun y0 y1 y2 y3 => k (.tup [(.d ⟨(.int .i64), y0⟩), (.d ⟨.bool, y1⟩)]) [([0, 0], ⟨48, 2, (.mix [(.agg [(.ref [0, 1]), (.d ⟨.bool, y2⟩)])])⟩), ([0, 1], ⟨2, 1, (.data (.int .i64) y3)⟩)]) = some true) : callK Try.prog ht d 9 [(.ptr [0, 0] 0 0), (.d ⟨(.int .i64), n104⟩)] [([0, 0], ⟨48, 2, (.mix [(.agg [(.ref [0, 1]), (.d ⟨.bool, b105⟩)])])⟩), ([0, 1], ⟨2, 1, (.data (.int .i64) ns106)⟩)] k = some true := by
  obtain ⟨d, rfl⟩ : ∃ e, d = e + 1 := ⟨d - 1, by omega⟩
  exact fn_ok (c := codeOf Try.f9) Try.func9 (by kernel_rfl) (rec := memory_Memory_Loadv2.calls memory_Memory_atv4) (fun g a h k hx => by
    rcases memory_Memory_atv4.look d (by omega) hx with hx | hx
    rotate_left
    · exact hx
    cases hx) (loopf := memory_Memory_Loadv2.loops) (by
    have e : loopsOf (memory_Memory_Loadv2.loops) 0 (codeOf Try.f9) = [] := by kernel_rfl
    rw [e]
    intro p hp
    cases hp) ((memory_Memory_Loadv2.eq memory_Memory_atv4 n104 b105 ns106 k).trans hx)
theorem memory_Memory_Loadv2.look (d : Nat) (hd : 3 ≤ d) {e : Option Bool} {g : FuncId} {a : List AV} {h : Heap} {k : KR} (hx : memory_Memory_Loadv2.get memory_Memory_Loadv2 e g a h k = some true) : e = some true ∨ callK Try.prog ht d g a h k = some true := by
  unfold memory_Memory_Loadv2.get at hx
  split at hx
  · exact .inr (memory_Memory_Loadv2.ok d hd _ _ _ _ hx)
  · exact .inl hx
/-- function 17: (*sheerleg/memory.Memory).Item -/
noncomputable def memory_Memory_Itemv2.body (memory_Memory_Loadv2 : Int → Bool → (List Int) → (Int → Bool → Bool → (List Int) → Option Bool) → Option Bool) (memory_Memory_Sizev2 : Bool → (List Int) → (Int → Bool → (List Int) → Option Bool) → Option Bool) (n100 : Int) (n101 : Int) (b102 : Bool) (ns103 : List Int) (k1 : Int → Int → Bool → (List Int) → Option Bool) : Option Bool :=
  (memory_Memory_Loadv2 n100 b102 ns103
  (fun n125 b126 b127 ns128 => (cond_ (! b126) (k1 (0 : Int) (2 : Int) b127 ns128) (cond_ (! (decide (n101 < (0 : Int)))) (cond_ (decide (n101 ≥ n125)) (k1 (0 : Int) (1 : Int) b127 ns128) (memory_Memory_Sizev2 b127 ns128
  (fun n129 b130 ns131 => (cond_ (decide (n101 ≥ (IntKind.wrap .i64 ((IntKind.wrap .i64 (n129 - (1 : Int))) - n100)))) (k1 (0 : Int) (2 : Int) b130 ns131) (k1 (IntKind.wrap .i64 ((IntKind.wrap .i64 (n100 + (1 : Int))) + n101)) (0 : Int) b130 ns131))))) (k1 (0 : Int) (1 : Int) b127 ns128)))))
noncomputable def memory_Memory_Itemv2 (n100 : Int) (n101 : Int) (b102 : Bool) (ns103 : List Int) (k1 : Int → Int → Bool → (List Int) → Option Bool) : Option Bool := memory_Memory_Itemv2.body memory_Memory_Loadv2 memory_Memory_Sizev2 n100 n101 b102 ns103 k1
noncomputable def memory_Memory_Itemv2.get (F : Int → Int → Bool → (List Int) → (Int → Int → Bool → (List Int) → Option Bool) → Option Bool) (e : Option Bool) (g : FuncId) (a : List AV) (h : Heap) (k : KR) : Option Bool := match g, a, h with
  | 17, [(.ptr [0, 0] 0 0), (.d ⟨(.int .i64), n100⟩), (.d ⟨(.int .i64), n101⟩)], [([0, 0], ⟨48, 2, (.mix [(.agg [(.ref [0, 1]), (.d ⟨.bool, b102⟩)])])⟩), ([0, 1], ⟨2, 1, (.data (.int .i64) ns103)⟩)] => F n100 n101 b102 ns103 (fun y0 y1 y2 y3 => k (.tup [(.d ⟨(.int .i64), y0⟩), (.d ⟨(.int .i64), y1⟩)]) [([0, 0], ⟨48, 2, (.mix [(.agg [(.ref [0, 1]), (.d ⟨.bool, y2⟩)])])⟩), ([0, 1], ⟨2, 1, (.data (.int .i64) y3)⟩)])
  | _, _, _ => e
noncomputable def memory_Memory_Itemv2.calls (F0 : Int → Bool → (List Int) → (Int → Bool → Bool → (List Int) → Option Bool) → Option Bool) (F1 : Bool → (List Int) → (Int → Bool → (List Int) → Option Bool) → Option Bool) : RecF := fun g a h k => (memory_Memory_Loadv2.get F0 (memory_Memory_Sizev2.get F1 none g a h k) g a h k)
noncomputable def memory_Memory_Itemv2.loops : LoopF := fun b => none
set_option maxRecDepth 100000 in
theorem memory_Memory_Itemv2.eq (F0 : Int → Bool → (List Int) → (Int → Bool → Bool → (List Int) → Option Bool) → Option Bool) (F1 : Bool → (List Int) → (Int → Bool → (List Int) → Option Bool) → Option Bool) (n100 : Int) (n101 : Int) (b102 : Bool) (ns103 : List Int) (k : KR) : execL Try.prog ht 17 (callfOf (memory_Memory_Itemv2.calls F0 F1)) (memory_Memory_Itemv2.loops) 0 (codeOf Try.f17) ⟨[(.ptr [0, 0] 0 0), (.d ⟨(.int .i64), n100⟩), (.d ⟨(.int .i64), n101⟩)] ++ List.replicate (Try.f17.ntmps - ([(.ptr [0, 0] 0 0), (.d ⟨(.int .i64), n100⟩), (.d ⟨(.int .i64), n101⟩)] : List AV).length) .undef, [([0, 0], ⟨48, 2, (.mix [(.agg [(.ref [0, 1]), (.d ⟨.bool, b102⟩)])])⟩), ([0, 1], ⟨2, 1, (.data (.int .i64) ns103)⟩)], 2⟩ (leave Try.prog Try.f17 k) = memory_Memory_Itemv2.body F0 F1 n100 n101 b102 ns103 (fun y0 y1 y2 y3 => k (.tup [(.d ⟨(.int .i64), y0⟩), (.d ⟨(.int .i64), y1⟩)]) [([0, 0], ⟨48, 2, (.mix [(.agg [(.ref [0, 1]), (.d ⟨.bool, y2⟩)])])⟩), ([0, 1], ⟨2, 1, (.data (.int .i64) y3)⟩)]) := by kernel_rfl
theorem memory_Memory_Itemv2.ok (d : Nat) (hd : 4 ≤ d) (n100 : Int) (n101 : Int) (b102 : Bool) (ns103 : List Int) (k : KR) (hx : memory_Memory_Itemv2 n100 n101 b102 ns103 (fun y0 y1 y2 y3 => k (.tup [(.d ⟨(.int .i64), y0⟩), (.d ⟨(.int .i64), y1⟩)]) [([0, 0], ⟨48, 2, (.mix [(.agg [(.ref [0, 1]), (.d ⟨.bool, y2⟩)])])⟩), ([0, 1], ⟨2, 1, (.data (.int .i64) y3)⟩)]) = some true) : callK Try.prog ht d 17 [(.ptr [0, 0] 0 0), (.d ⟨(.int .i64), n100⟩), (.d ⟨(.int .i64), n101⟩)] [([0, 0], ⟨48, 2, (.mix [(.agg [(.ref [0, 1]), (.d ⟨.bool, b102⟩)])])⟩), ([0, 1], ⟨2, 1, (.data (.int .i64) ns103)⟩)] k = some true := by
  obtain ⟨d, rfl⟩ : ∃ e, d = e + 1 := ⟨d - 1, by omega⟩
  exact fn_ok (c := codeOf Try.f17) Try.func17 (by kernel_rfl) (rec := memory_Memory_Itemv2.calls memory_Memory_Loadv2 memory_Memory_Sizev2) (fun g a h k hx => by
    rcases memory_Memory_Loadv2.look d (by omega) hx with hx | hx
    rotate_left
    · exact hx
    rcases memory_Memory_Sizev2.look d (by omega) hx with hx | hx
    rotate_left
    · exact hx
    cases hx) (loopf := memory_Memory_Itemv2.loops) (by
    have e : loopsOf (memory_Memory_Itemv2.loops) 0 (codeOf Try.f17) = [] := by kernel_rfl
    rw [e]
    intro p hp
    cases hp) ((memory_Memory_Itemv2.eq memory_Memory_Loadv2 memory_Memory_Sizev2 n100 n101 b102 ns103 k).trans hx)
theorem memory_Memory_Itemv2.look (d : Nat) (hd : 4 ≤ d) {e : Option Bool} {g : FuncId} {a : List AV} {h : Heap} {k : KR} (hx : memory_Memory_Itemv2.get memory_Memory_Itemv2 e g a h k = some true) : e = some true ∨ callK Try.prog ht d g a h k = some true := by
  unfold memory_Memory_Itemv2.get at hx
  split at hx
  · exact .inr (memory_Memory_Itemv2.ok d hd _ _ _ _ _ hx)
  · exact .inl hx
/-- function 23: (*sheerleg/memory.Memory).Store$1 -/
noncomputable def memory_Memory_Storefn1.body (m152 : Nat) (ns153 : List Int) (n154 : Int) (k1 : (List Int) → Int → Option Bool) : Option Bool :=
  (k1 (List.set ns153 m152 n154) n154)
noncomputable def memory_Memory_Storefn1 (m152 : Nat) (ns153 : List Int) (n154 : Int) (k1 : (List Int) → Int → Option Bool) : Option Bool := memory_Memory_Storefn1.body m152 ns153 n154 k1
noncomputable def memory_Memory_Storefn1.get (F : Nat → (List Int) → Int → ((List Int) → Int → Option Bool) → Option Bool) (e : Option Bool) (g : FuncId) (a : List AV) (h : Heap) (k : KR) : Option Bool := match g, a, h with
  | 23, [(.ptr [0, 0] m152 0), (.ptr [0, 1] 0 0)], [([0, 0], ⟨2, 1, (.data (.int .i64) ns153)⟩), ([0, 1], ⟨2, 1, (.data (.int .i64) [n154])⟩)] => F m152 ns153 n154 (fun y0 y1 => k (.tup []) [([0, 0], ⟨2, 1, (.data (.int .i64) y0)⟩), ([0, 1], ⟨2, 1, (.data (.int .i64) [y1])⟩)])
  | _, _, _ => e
noncomputable def memory_Memory_Storefn1.calls : RecF := fun g a h k => none
noncomputable def memory_Memory_Storefn1.loops : LoopF := fun b => none
set_option maxRecDepth 100000 in
theorem memory_Memory_Storefn1.eq (m152 : Nat) (ns153 : List Int) (n154 : Int) (k : KR) : execL Try.prog ht 23 (callfOf (memory_Memory_Storefn1.calls)) (memory_Memory_Storefn1.loops) 0 (codeOf Try.f23) ⟨[(.ptr [0, 0] m152 0), (.ptr [0, 1] 0 0)] ++ List.replicate (Try.f23.ntmps - ([(.ptr [0, 0] m152 0), (.ptr [0, 1] 0 0)] : List AV).length) .undef, [([0, 0], ⟨2, 1, (.data (.int .i64) ns153)⟩), ([0, 1], ⟨2, 1, (.data (.int .i64) [n154])⟩)], 2⟩ (leave Try.prog Try.f23 k) = memory_Memory_Storefn1.body m152 ns153 n154 (fun y0 y1 => k (.tup []) [([0, 0], ⟨2, 1, (.data (.int .i64) y0)⟩), ([0, 1], ⟨2, 1, (.data (.int .i64) [y1])⟩)]) := by kernel_rfl
theorem memory_Memory_Storefn1.ok (d : Nat) (hd : 1 ≤ d) (m152 : Nat) (ns153 : List Int) (n154 : Int) (k : KR) (hx : memory_Memory_Storefn1 m152 ns153 n154 (fun y0 y1 => k (.tup []) [([0, 0], ⟨2, 1, (.data (.int .i64) y0)⟩), ([0, 1], ⟨2, 1, (.data (.int .i64) [y1])⟩)]) = some true) : callK Try.prog ht d 23 [(.ptr [0, 0] m152 0), (.ptr [0, 1] 0 0)] [([0, 0], ⟨2, 1, (.data (.int .i64) ns153)⟩), ([0, 1], ⟨2, 1, (.data (.int .i64) [n154])⟩)] k = some true := by
  obtain ⟨d, rfl⟩ : ∃ e, d = e + 1 := ⟨d - 1, by omega⟩
  exact fn_ok (c := codeOf Try.f23) Try.func23 (by kernel_rfl) (rec := memory_Memory_Storefn1.calls) (fun g a h k hx => by
    cases hx) (loopf := memory_Memory_Storefn1.loops) (by
    have e : loopsOf (memory_Memory_Storefn1.loops) 0 (codeOf Try.f23) = [] := by kernel_rfl
    rw [e]
    intro p hp
    cases hp) ((memory_Memory_Storefn1.eq m152 ns153 n154 k).trans hx)
theorem memory_Memory_Storefn1.look (d : Nat) (hd : 1 ≤ d) {e : Option Bool} {g : FuncId} {a : List AV} {h : Heap} {k : KR} (hx : memory_Memory_Storefn1.get memory_Memory_Storefn1 e g a h k = some true) : e = some true ∨ callK Try.prog ht d g a h k = some true := by
  unfold memory_Memory_Storefn1.get at hx
  split at hx
  · exact .inr (memory_Memory_Storefn1.ok d hd _ _ _ _ hx)
  · exact .inl hx
/-- function 21: (*sheerleg/memory.Memory).at -/
noncomputable def memory_Memory_atv5.body (memory_Memory_Sizev2 : Bool → (List Int) → (Int → Bool → (List Int) → Option Bool) → Option Bool) (memory_Memory_Storefn1 : Nat → (List Int) → Int → ((List Int) → Int → Option Bool) → Option Bool) (n145 : Int) (b146 : Bool) (ns147 : List Int) (n148 : Int) (k1 : Bool → Bool → (List Int) → Int → Option Bool) : Option Bool :=
  (cond_ (! (decide (n145 < (0 : Int)))) (memory_Memory_Sizev2 b146 ns147
  (fun n149 b150 ns151 => (cond_ (decide (n145 ≥ n149)) (k1 false b150 ns151 n148) (cond_ ((decide ((0 : Int) ≤ n145)) && (decide (n145 < (((List.length ns151) : Nat) : Int)))) (memory_Memory_Storefn1 (Int.toNat n145) ns151 n148
  (fun ns155 n156 => (k1 true b150 ns155 n156))) none)))) (k1 false b146 ns147 n148))
noncomputable def memory_Memory_atv5 (n145 : Int) (b146 : Bool) (ns147 : List Int) (n148 : Int) (k1 : Bool → Bool → (List Int) → Int → Option Bool) : Option Bool := memory_Memory_atv5.body memory_Memory_Sizev2 memory_Memory_Storefn1 n145 b146 ns147 n148 k1
noncomputable def memory_Memory_atv5.get (F : Int → Bool → (List Int) → Int → (Bool → Bool → (List Int) → Int → Option Bool) → Option Bool) (e : Option Bool) (g : FuncId) (a : List AV) (h : Heap) (k : KR) : Option Bool := match g, a, h with
  | 21, [(.ptr [0, 0] 0 0), (.d ⟨(.int .i64), n145⟩), (.fn (.func 23) [] [(.ptr [0, 2] 0 0)])], [([0, 0], ⟨48, 2, (.mix [(.agg [(.ref [0, 1]), (.d ⟨.bool, b146⟩)])])⟩), ([0, 1], ⟨2, 1, (.data (.int .i64) ns147)⟩), ([0, 2], ⟨2, 1, (.data (.int .i64) [n148])⟩)] => F n145 b146 ns147 n148 (fun y0 y1 y2 y3 => k (.d ⟨.bool, y0⟩) [([0, 0], ⟨48, 2, (.mix [(.agg [(.ref [0, 1]), (.d ⟨.bool, y1⟩)])])⟩), ([0, 1], ⟨2, 1, (.data (.int .i64) y2)⟩), ([0, 2], ⟨2, 1, (.data (.int .i64) [y3])⟩)])
  | _, _, _ => e
noncomputable def memory_Memory_atv5.calls (F0 : Bool → (List Int) → (Int → Bool → (List Int) → Option Bool) → Option Bool) (F1 : Nat → (List Int) → Int → ((List Int) → Int → Option Bool) → Option Bool) : RecF := fun g a h k => (memory_Memory_Sizev2.get F0 (memory_Memory_Storefn1.get F1 none g a h k) g a h k)
noncomputable def memory_Memory_atv5.loops : LoopF := fun b => none
set_option maxRecDepth 100000 in
theorem memory_Memory_atv5.eq (F0 : Bool → (List Int) → (Int → Bool → (List Int) → Option Bool) → Option Bool) (F1 : Nat → (List Int) → Int → ((List Int) → Int → Option Bool) → Option Bool) (n145 : Int) (b146 : Bool) (ns147 : List Int) (n148 : Int) (k : KR) : execL Try.prog ht 21 (callfOf (memory_Memory_atv5.calls F0 F1)) (memory_Memory_atv5.loops) 0 (codeOf Try.f21) ⟨[(.ptr [0, 0] 0 0), (.d ⟨(.int .i64), n145⟩), (.fn (.func 23) [] [(.ptr [0, 2] 0 0)])] ++ List.replicate (Try.f21.ntmps - ([(.ptr [0, 0] 0 0), (.d ⟨(.int .i64), n145⟩), (.fn (.func 23) [] [(.ptr [0, 2] 0 0)])] : List AV).length) .undef, [([0, 0], ⟨48, 2, (.mix [(.agg [(.ref [0, 1]), (.d ⟨.bool, b146⟩)])])⟩), ([0, 1], ⟨2, 1, (.data (.int .i64) ns147)⟩), ([0, 2], ⟨2, 1, (.data (.int .i64) [n148])⟩)], 2⟩ (leave Try.prog Try.f21 k) = memory_Memory_atv5.body F0 F1 n145 b146 ns147 n148 (fun y0 y1 y2 y3 => k (.d ⟨.bool, y0⟩) [([0, 0], ⟨48, 2, (.mix [(.agg [(.ref [0, 1]), (.d ⟨.bool, y1⟩)])])⟩), ([0, 1], ⟨2, 1, (.data (.int .i64) y2)⟩), ([0, 2], ⟨2, 1, (.data (.int .i64) [y3])⟩)]) := by kernel_rfl
theorem memory_Memory_atv5.ok (d : Nat) (hd : 2 ≤ d) (n145 : Int) (b146 : Bool) (ns147 : List Int) (n148 : Int) (k : KR) (hx : memory_Memory_atv5 n145 b146 ns147 n148 (fun y0 y1 y2 y3 => k (.d ⟨.bool, y0⟩) [([0, 0], ⟨48, 2, (.mix [(.agg [(.ref [0, 1]), (.d ⟨.bool, y1⟩)])])⟩), ([0, 1], ⟨2, 1, (.data (.int .i64) y2)⟩), ([0, 2], ⟨2, 1, (.data (.int .i64) [y3])⟩)]) = some true) : callK Try.prog ht d 21 [(.ptr [0, 0] 0 0), (.d ⟨(.int .i64), n145⟩), (.fn (.func 23) [] [(.ptr [0, 2] 0 0)])] [([0, 0], ⟨48, 2, (.mix [(.agg [(.ref [0, 1]), (.d ⟨.bool, b146⟩)])])⟩), ([0, 1], ⟨2, 1, (.data (.int .i64) ns147)⟩), ([0, 2], ⟨2, 1, (.data (.int .i64) [n148])⟩)] k = some true := by
  obtain ⟨d, rfl⟩ : ∃ e, d = e + 1 := ⟨d - 1, by omega⟩
  exact fn_ok (c := codeOf Try.f21) Try.func21 (by kernel_rfl) (rec := memory_Memory_atv5.calls memory_Memory_Sizev2 memory_Memory_Storefn1) (fun g a h k hx => by
    rcases memory_Memory_Sizev2.look d (by omega) hx with hx | hx
    rotate_left
    · exact hx
    rcases memory_Memory_Storefn1.look d (by omega) hx with hx | hx
    rotate_left
    · exact hx
    cases hx) (loopf := memory_Memory_atv5.loops) (by
    have e : loopsOf (memory_Memory_atv5.loops) 0 (codeOf Try.f21) = [] := by kernel_rfl
    rw [e]
    intro p hp
    cases hp) ((memory_Memory_atv5.eq memory_Memory_Sizev2 memory_Memory_Storefn1 n145 b146 ns147 n148 k).trans hx)
theorem memory_Memory_atv5.look (d : Nat) (hd : 2 ≤ d) {e : Option Bool} {g : FuncId} {a : List AV} {h : Heap} {k : KR} (hx : memory_Memory_atv5.get memory_Memory_atv5 e g a h k = some true) : e = some true ∨ callK Try.prog ht d g a h k = some true := by
  unfold memory_Memory_atv5.get at hx
  split at hx
  · exact .inr (memory_Memory_atv5.ok d hd _ _ _ _ _ hx)
  · exact .inl hx
/-- function 12: (*sheerleg/memory.Memory).Store -/
noncomputable def memory_Memory_Storev2.body (memory_Memory_atv5 : Int → Bool → (List Int) → Int → (Bool → Bool → (List Int) → Int → Option Bool) → Option Bool) (n141 : Int) (n142 : Int) (b143 : Bool) (ns144 : List Int) (k1 : Bool → Bool → (List Int) → Option Bool) : Option Bool :=
  (memory_Memory_atv5 n141 b143 ns144 n142
  (fun b157 b158 ns159 n160 => (k1 b157 b158 ns159)))
noncomputable def memory_Memory_Storev2 (n141 : Int) (n142 : Int) (b143 : Bool) (ns144 : List Int) (k1 : Bool → Bool → (List Int) → Option Bool) : Option Bool := memory_Memory_Storev2.body memory_Memory_atv5 n141 n142 b143 ns144 k1
noncomputable def memory_Memory_Storev2.get (F : Int → Int → Bool → (List Int) → (Bool → Bool → (List Int) → Option Bool) → Option Bool) (e : Option Bool) (g : FuncId) (a : List AV) (h : Heap) (k : KR) : Option Bool := match g, a, h with
  | 12, [(.ptr [0, 0] 0 0), (.d ⟨(.int .i64), n141⟩), (.d ⟨(.int .i64), n142⟩)], [([0, 0], ⟨48, 2, (.mix [(.agg [(.ref [0, 1]), (.d ⟨.bool, b143⟩)])])⟩), ([0, 1], ⟨2, 1, (.data (.int .i64) ns144)⟩)] => F n141 n142 b143 ns144 (fun y0 y1 y2 => k (.d ⟨.bool, y0⟩) [([0, 0], ⟨48, 2, (.mix [(.agg [(.ref [0, 1]), (.d ⟨.bool, y1⟩)])])⟩), ([0, 1], ⟨2, 1, (.data (.int .i64) y2)⟩)])
  | _, _, _ => e
noncomputable def memory_Memory_Storev2.calls (F0 : Int → Bool → (List Int) → Int → (Bool → Bool → (List Int) → Int → Option Bool) → Option Bool) : RecF := fun g a h k => (memory_Memory_atv5.get F0 none g a h k)
noncomputable def memory_Memory_Storev2.loops : LoopF := fun b => none
set_option maxRecDepth 100000 in
theorem memory_Memory_Storev2.eq (F0 : Int → Bool → (List Int) → Int → (Bool → Bool → (List Int) → Int → Option Bool) → Option Bool) (n141 : Int) (n142 : Int) (b143 : Bool) (ns144 : List Int) (k : KR) : execL Try.prog ht 12 (callfOf (memory_Memory_Storev2.calls F0)) (memory_Memory_Storev2.loops) 0 (codeOf Try.f12) ⟨[(.ptr [0, 0] 0 0), (.d ⟨(.int .i64), n141⟩), (.d ⟨(.int .i64), n142⟩)] ++ List.replicate (Try.f12.ntmps - ([(.ptr [0, 0] 0 0), (.d ⟨(.int .i64), n141⟩), (.d ⟨(.int .i64), n142⟩)] : List AV).length) .undef, [([0, 0], ⟨48, 2, (.mix [(.agg [(.ref [0, 1]), (.d ⟨.bool, b143⟩)])])⟩), ([0, 1], ⟨2, 1, (.data (.int .i64) ns144)⟩)], 2⟩ (leave Try.prog Try.f12 k) = memory_Memory_Storev2.body F0 n141 n142 b143 ns144 (fun y0 y1 y2 => k (.d ⟨.bool, y0⟩) [([0, 0], ⟨48, 2, (.mix [(.agg [(.ref [0, 1]), (.d ⟨.bool, y1⟩)])])⟩), ([0, 1], ⟨2, 1, (.data (.int .i64) y2)⟩)]) := by kernel_rfl
theorem memory_Memory_Storev2.ok (d : Nat) (hd : 3 ≤ d) (n141 : Int) (n142 : Int) (b143 : Bool) (ns144 : List Int) (k : KR) (hx : memory_Memory_Storev2 n141 n142 b143 ns144 (fun y0 y1 y2 => k (.d ⟨.bool, y0⟩) [([0, 0], ⟨48, 2, (.mix [(.agg [(.ref [0, 1]), (.d ⟨.bool, y1⟩)])])⟩), ([0, 1], ⟨2, 1, (.data (.int .i64) y2)⟩)]) = some true) : callK Try.prog ht d 12 [(.ptr [0, 0] 0 0), (.d ⟨(.int .i64), n141⟩), (.d ⟨(.int .i64), n142⟩)] [([0, 0], ⟨48, 2, (.mix [(.agg [(.ref [0, 1]), (.d ⟨.bool, b143⟩)])])⟩), ([0, 1], ⟨2, 1, (.data (.int .i64) ns144)⟩)] k = some true := by
  obtain ⟨d, rfl⟩ : ∃ e, d = e + 1 := ⟨d - 1, by omega⟩
  exact fn_ok (c := codeOf Try.f12) Try.func12 (by kernel_rfl) (rec := memory_Memory_Storev2.calls memory_Memory_atv5) (fun g a h k hx => by
    rcases memory_Memory_atv5.look d (by omega) hx with hx | hx
    rotate_left
    · exact hx
    cases hx) (loopf := memory_Memory_Storev2.loops) (by
    have e : loopsOf (memory_Memory_Storev2.loops) 0 (codeOf Try.f12) = [] := by kernel_rfl
    rw [e]
    intro p hp
    cases hp) ((memory_Memory_Storev2.eq memory_Memory_atv5 n141 n142 b143 ns144 k).trans hx)
theorem memory_Memory_Storev2.look (d : Nat) (hd : 3 ≤ d) {e : Option Bool} {g : FuncId} {a : List AV} {h : Heap} {k : KR} (hx : memory_Memory_Storev2.get memory_Memory_Storev2 e g a h k = some true) : e = some true ∨ callK Try.prog ht d g a h k = some true := by
  unfold memory_Memory_Storev2.get at hx
  split at hx
  · exact .inr (memory_Memory_Storev2.ok d hd _ _ _ _ _ hx)
  · exact .inl hx
/-- function 25: (*sheerleg/memory.Memory).Copy$1 -/
noncomputable def memory_Memory_Copyfn1v1.body (n170 : Int) (b171 : Bool) (ns172 : List Int) (n173 : Int) (k1 : Bool → Bool → (List Int) → Int → Option Bool) : Option Bool :=
  (cond_ (decide (n170 ≥ (0 : Int))) (cond_ (decide (n170 ≤ (((List.length ns172) : Nat) : Int))) (k1 (decide (n173 ≤ (IntKind.wrap .i64 ((((List.length ns172) : Nat) : Int) - n170)))) b171 ns172 n173) (k1 false b171 ns172 n173)) (k1 false b171 ns172 n173))
noncomputable def memory_Memory_Copyfn1v1 (n170 : Int) (b171 : Bool) (ns172 : List Int) (n173 : Int) (k1 : Bool → Bool → (List Int) → Int → Option Bool) : Option Bool := memory_Memory_Copyfn1v1.body n170 b171 ns172 n173 k1
noncomputable def memory_Memory_Copyfn1v1.get (F : Int → Bool → (List Int) → Int → (Bool → Bool → (List Int) → Int → Option Bool) → Option Bool) (e : Option Bool) (g : FuncId) (a : List AV) (h : Heap) (k : KR) : Option Bool := match g, a, h with
  | 25, [(.d ⟨(.int .i64), n170⟩), (.ptr [0, 0] 0 0), (.ptr [0, 3] 0 0)], [([0, 0], ⟨25, 1, (.mix [(.ptr [0, 1] 0 0)])⟩), ([0, 1], ⟨48, 2, (.mix [(.agg [(.ref [0, 2]), (.d ⟨.bool, b171⟩)])])⟩), ([0, 2], ⟨2, 1, (.data (.int .i64) ns172)⟩), ([0, 3], ⟨3, 1, (.data (.int .i64) [n173])⟩)] => F n170 b171 ns172 n173 (fun y0 y1 y2 y3 => k (.d ⟨.bool, y0⟩) [([0, 0], ⟨25, 1, (.mix [(.ptr [0, 1] 0 0)])⟩), ([0, 1], ⟨48, 2, (.mix [(.agg [(.ref [0, 2]), (.d ⟨.bool, y1⟩)])])⟩), ([0, 2], ⟨2, 1, (.data (.int .i64) y2)⟩), ([0, 3], ⟨3, 1, (.data (.int .i64) [y3])⟩)])
  | _, _, _ => e
noncomputable def memory_Memory_Copyfn1v1.calls : RecF := fun g a h k => none
noncomputable def memory_Memory_Copyfn1v1.loops : LoopF := fun b => none
set_option maxRecDepth 100000 in
theorem memory_Memory_Copyfn1v1.eq (n170 : Int) (b171 : Bool) (ns172 : List Int) (n173 : Int) (k : KR) : execL Try.prog ht 25 (callfOf (memory_Memory_Copyfn1v1.calls)) (memory_Memory_Copyfn1v1.loops) 0 (codeOf Try.f25) ⟨[(.d ⟨(.int .i64), n170⟩), (.ptr [0, 0] 0 0), (.ptr [0, 3] 0 0)] ++ List.replicate (Try.f25.ntmps - ([(.d ⟨(.int .i64), n170⟩), (.ptr [0, 0] 0 0), (.ptr [0, 3] 0 0)] : List AV).length) .undef, [([0, 0], ⟨25, 1, (.mix [(.ptr [0, 1] 0 0)])⟩), ([0, 1], ⟨48, 2, (.mix [(.agg [(.ref [0, 2]), (.d ⟨.bool, b171⟩)])])⟩), ([0, 2], ⟨2, 1, (.data (.int .i64) ns172)⟩), ([0, 3], ⟨3, 1, (.data (.int .i64) [n173])⟩)], 2⟩ (leave Try.prog Try.f25 k) = memory_Memory_Copyfn1v1.body n170 b171 ns172 n173 (fun y0 y1 y2 y3 => k (.d ⟨.bool, y0⟩) [([0, 0], ⟨25, 1, (.mix [(.ptr [0, 1] 0 0)])⟩), ([0, 1], ⟨48, 2, (.mix [(.agg [(.ref [0, 2]), (.d ⟨.bool, y1⟩)])])⟩), ([0, 2], ⟨2, 1, (.data (.int .i64) y2)⟩), ([0, 3], ⟨3, 1, (.data (.int .i64) [y3])⟩)]) := by kernel_rfl
theorem memory_Memory_Copyfn1v1.ok (d : Nat) (hd : 1 ≤ d) (n170 : Int) (b171 : Bool) (ns172 : List Int) (n173 : Int) (k : KR) (hx : memory_Memory_Copyfn1v1 n170 b171 ns172 n173 (fun y0 y1 y2 y3 => k (.d ⟨.bool, y0⟩) [([0, 0], ⟨25, 1, (.mix [(.ptr [0, 1] 0 0)])⟩), ([0, 1], ⟨48, 2, (.mix [(.agg [(.ref [0, 2]), (.d ⟨.bool, y1⟩)])])⟩), ([0, 2], ⟨2, 1, (.data (.int .i64) y2)⟩), ([0, 3], ⟨3, 1, (.data (.int .i64) [y3])⟩)]) = some true) : callK Try.prog ht d 25 [(.d ⟨(.int .i64), n170⟩), (.ptr [0, 0] 0 0), (.ptr [0, 3] 0 0)] [([0, 0], ⟨25, 1, (.mix [(.ptr [0, 1] 0 0)])⟩), ([0, 1], ⟨48, 2, (.mix [(.agg [(.ref [0, 2]), (.d ⟨.bool, b171⟩)])])⟩), ([0, 2], ⟨2, 1, (.data (.int .i64) ns172)⟩), ([0, 3], ⟨3, 1, (.data (.int .i64) [n173])⟩)] k = some true := by
  obtain ⟨d, rfl⟩ : ∃ e, d = e + 1 := ⟨d - 1, by omega⟩
  exact fn_ok (c := codeOf Try.f25) Try.func25 (by kernel_rfl) (rec := memory_Memory_Copyfn1v1.calls) (fun g a h k hx => by
    cases hx) (loopf := memory_Memory_Copyfn1v1.loops) (by
    have e : loopsOf (memory_Memory_Copyfn1v1.loops) 0 (codeOf Try.f25) = [] := by kernel_rfl
    rw [e]
    intro p hp
    cases hp) ((memory_Memory_Copyfn1v1.eq n170 b171 ns172 n173 k).trans hx)
theorem memory_Memory_Copyfn1v1.look (d : Nat) (hd : 1 ≤ d) {e : Option Bool} {g : FuncId} {a : List AV} {h : Heap} {k : KR} (hx : memory_Memory_Copyfn1v1.get memory_Memory_Copyfn1v1 e g a h k = some true) : e = some true ∨ callK Try.prog ht d g a h k = some true := by
  unfold memory_Memory_Copyfn1v1.get at hx
  split at hx
  · exact .inr (memory_Memory_Copyfn1v1.ok d hd _ _ _ _ _ hx)
  · exact .inl hx
/-- function 16: (*sheerleg/memory.Memory).Copy -/
noncomputable def memory_Memory_Copyv2.body (memory_Memory_Copyfn1v1 : Int → Bool → (List Int) → Int → (Bool → Bool → (List Int) → Int → Option Bool) → Option Bool) (n165 : Int) (n166 : Int) (n167 : Int) (b168 : Bool) (ns169 : List Int) (k1 : Bool → Bool → (List Int) → Option Bool) : Option Bool :=
  (cond_ (! (! b168)) (cond_ (! (decide (n167 < (0 : Int)))) (memory_Memory_Copyfn1v1 n165 b168 ns169 n167
  (fun b174 b175 ns176 n177 => (cond_ (! (! b174)) (memory_Memory_Copyfn1v1 n166 b175 ns176 n177
  (fun b178 b179 ns180 n181 => (cond_ (! b178) (k1 false b179 ns180) (cond_ ((decide ((0 : Int) ≤ n165)) && (decide (n165 ≤ (((List.length ns180) : Nat) : Int)))) (cond_ (((decide ((0 : Int) ≤ n166)) && (decide (n166 ≤ (IntKind.wrap .i64 (n166 + n181))))) && (decide ((IntKind.wrap .i64 (n166 + n181)) ≤ (((List.length ns180) : Nat) : Int)))) (k1 true b179 (setCells ns180 (Int.toNat n165) (List.take ((List.length ns180) - (Int.toNat n165)) (List.take (Int.toNat ((IntKind.wrap .i64 (n166 + n181)) - n166)) (List.drop (Int.toNat n166) ns180))))) none) none)))) (k1 false b175 ns176)))) (k1 false b168 ns169)) (k1 false b168 ns169))
noncomputable def memory_Memory_Copyv2 (n165 : Int) (n166 : Int) (n167 : Int) (b168 : Bool) (ns169 : List Int) (k1 : Bool → Bool → (List Int) → Option Bool) : Option Bool := memory_Memory_Copyv2.body memory_Memory_Copyfn1v1 n165 n166 n167 b168 ns169 k1
noncomputable def memory_Memory_Copyv2.get (F : Int → Int → Int → Bool → (List Int) → (Bool → Bool → (List Int) → Option Bool) → Option Bool) (e : Option Bool) (g : FuncId) (a : List AV) (h : Heap) (k : KR) : Option Bool := match g, a, h with
  | 16, [(.ptr [0, 0] 0 0), (.d ⟨(.int .i64), n165⟩), (.d ⟨(.int .i64), n166⟩), (.d ⟨(.int .i64), n167⟩)], [([0, 0], ⟨48, 2, (.mix [(.agg [(.ref [0, 1]), (.d ⟨.bool, b168⟩)])])⟩), ([0, 1], ⟨2, 1, (.data (.int .i64) ns169)⟩)] => F n165 n166 n167 b168 ns169 (fun y0 y1 y2 => k (.d ⟨.bool, y0⟩) [([0, 0], ⟨48, 2, (.mix [(.agg [(.ref [0, 1]), (.d ⟨.bool, y1⟩)])])⟩), ([0, 1], ⟨2, 1, (.data (.int .i64) y2)⟩)])
  | _, _, _ => e
noncomputable def memory_Memory_Copyv2.calls (F0 : Int → Bool → (List Int) → Int → (Bool → Bool → (List Int) → Int → Option Bool) → Option Bool) : RecF := fun g a h k => (memory_Memory_Copyfn1v1.get F0 none g a h k)
noncomputable def memory_Memory_Copyv2.loops : LoopF := fun b => none
set_option maxRecDepth 100000 in
theorem memory_Memory_Copyv2.eq (F0 : Int → Bool → (List Int) → Int → (Bool → Bool → (List Int) → Int → Option Bool) → Option Bool) (n165 : Int) (n166 : Int) (n167 : Int) (b168 : Bool) (ns169 : List Int) (k : KR) : execL Try.prog ht 16 (callfOf (memory_Memory_Copyv2.calls F0)) (memory_Memory_Copyv2.loops) 0 (codeOf Try.f16) ⟨[(.ptr [0, 0] 0 0), (.d ⟨(.int .i64), n165⟩), (.d ⟨(.int .i64), n166⟩), (.d ⟨(.int .i64), n167⟩)] ++ List.replicate (Try.f16.ntmps - ([(.ptr [0, 0] 0 0), (.d ⟨(.int .i64), n165⟩), (.d ⟨(.int .i64), n166⟩), (.d ⟨(.int .i64), n167⟩)] : List AV).length) .undef, [([0, 0], ⟨48, 2, (.mix [(.agg [(.ref [0, 1]), (.d ⟨.bool, b168⟩)])])⟩), ([0, 1], ⟨2, 1, (.data (.int .i64) ns169)⟩)], 2⟩ (leave Try.prog Try.f16 k) = memory_Memory_Copyv2.body F0 n165 n166 n167 b168 ns169 (fun y0 y1 y2 => k (.d ⟨.bool, y0⟩) [([0, 0], ⟨48, 2, (.mix [(.agg [(.ref [0, 1]), (.d ⟨.bool, y1⟩)])])⟩), ([0, 1], ⟨2, 1, (.data (.int .i64) y2)⟩)]) := by kernel_rfl
theorem memory_Memory_Copyv2.ok (d : Nat) (hd : 2 ≤ d) (n165 : Int) (n166 : Int) (n167 : Int) (b168 : Bool) (ns169 : List Int) (k : KR) (hx : memory_Memory_Copyv2 n165 n166 n167 b168 ns169 (fun y0 y1 y2 => k (.d ⟨.bool, y0⟩) [([0, 0], ⟨48, 2, (.mix [(.agg [(.ref [0, 1]), (.d ⟨.bool, y1⟩)])])⟩), ([0, 1], ⟨2, 1, (.data (.int .i64) y2)⟩)]) = some true) : callK Try.prog ht d 16 [(.ptr [0, 0] 0 0), (.d ⟨(.int .i64), n165⟩), (.d ⟨(.int .i64), n166⟩), (.d ⟨(.int .i64), n167⟩)] [([0, 0], ⟨48, 2, (.mix [(.agg [(.ref [0, 1]), (.d ⟨.bool, b168⟩)])])⟩), ([0, 1], ⟨2, 1, (.data (.int .i64) ns169)⟩)] k = some true := by
  obtain ⟨d, rfl⟩ : ∃ e, d = e + 1 := ⟨d - 1, by omega⟩
  exact fn_ok (c := codeOf Try.f16) Try.func16 (by kernel_rfl) (rec := memory_Memory_Copyv2.calls memory_Memory_Copyfn1v1) (fun g a h k hx => by
    rcases memory_Memory_Copyfn1v1.look d (by omega) hx with hx | hx
    rotate_left
    · exact hx
    cases hx) (loopf := memory_Memory_Copyv2.loops) (by
    have e : loopsOf (memory_Memory_Copyv2.loops) 0 (codeOf Try.f16) = [] := by kernel_rfl
    rw [e]
    intro p hp
    cases hp) ((memory_Memory_Copyv2.eq memory_Memory_Copyfn1v1 n165 n166 n167 b168 ns169 k).trans hx)
theorem memory_Memory_Copyv2.look (d : Nat) (hd : 2 ≤ d) {e : Option Bool} {g : FuncId} {a : List AV} {h : Heap} {k : KR} (hx : memory_Memory_Copyv2.get memory_Memory_Copyv2 e g a h k = some true) : e = some true ∨ callK Try.prog ht d g a h k = some true := by
  unfold memory_Memory_Copyv2.get at hx
  split at hx
  · exact .inr (memory_Memory_Copyv2.ok d hd _ _ _ _ _ _ hx)
  · exact .inl hx
/-- function 5: sheerleg/sheerleglaw38.MemoryNobody -/
noncomputable def law38_MemoryNobody.body (memory_Memory_Load : Int → (Int → Bool → Option Bool) → Option Bool) (memory_Memory_Loadv1 : Int → Bool → (Int → Bool → Bool → Option Bool) → Option Bool) (memory_Memory_Grow : Int → (Int → Bool → Option Bool) → Option Bool) (memory_Memory_Growv1 : Int → Bool → (Int → Bool → Bool → Option Bool) → (Int → Bool → Bool → (List Int) → Option Bool) → Option Bool) (memory_Memory_Item : Int → Int → (Int → Int → Option Bool) → Option Bool) (memory_Memory_Itemv1 : Int → Int → Bool → (Int → Int → Bool → Option Bool) → Option Bool) (memory_Memory_Size : (Int → Option Bool) → Option Bool) (memory_Memory_Sizev1 : Bool → (Int → Bool → Option Bool) → Option Bool) (memory_Memory_Store : Int → Int → (Bool → Option Bool) → Option Bool) (memory_Memory_Storev1 : Int → Int → Bool → (Bool → Bool → Option Bool) → Option Bool) (memory_Memory_Copy : Int → Int → Int → (Bool → Option Bool) → Option Bool) (memory_Memory_Copyv1 : Int → Int → Int → Bool → (Bool → Bool → Option Bool) → Option Bool) (law38_known : (Bool → Option Bool) → Option Bool) (memory_Memory_Itemv2 : Int → Int → Bool → (List Int) → (Int → Int → Bool → (List Int) → Option Bool) → Option Bool) (memory_Memory_Sizev2 : Bool → (List Int) → (Int → Bool → (List Int) → Option Bool) → Option Bool) (memory_Memory_Storev2 : Int → Int → Bool → (List Int) → (Bool → Bool → (List Int) → Option Bool) → Option Bool) (memory_Memory_Copyv2 : Int → Int → Int → Bool → (List Int) → (Bool → Bool → (List Int) → Option Bool) → Option Bool) (n0 : Int) (n1 : Int) (k1 : Bool → Option Bool) : Option Bool :=
  (memory_Memory_Load n0
  (fun n8 b9 => (memory_Memory_Loadv1 n0 false
  (fun n21 b22 b23 => (memory_Memory_Grow n0
  (fun n25 b26 => (memory_Memory_Growv1 n0 b23
  (fun n29 b30 b31 => (memory_Memory_Item n0 n1
  (fun n37 n38 => (memory_Memory_Itemv1 n0 n1 b31
  (fun n47 n48 b49 => (cond_ (! b9) (cond_ (! b22) (cond_ (! b26) (cond_ (! b30) (cond_ (n38 == (2 : Int)) (cond_ (n48 == (2 : Int)) (memory_Memory_Size
  (fun n50 => (cond_ (n50 == (0 : Int)) (memory_Memory_Sizev1 b49
  (fun n51 b52 => (cond_ (n51 == (0 : Int)) (memory_Memory_Store n0 n1
  (fun b60 => (cond_ (! b60) (memory_Memory_Storev1 n0 n1 b52
  (fun b72 b73 => (cond_ (! b72) (memory_Memory_Copy (0 : Int) (0 : Int) (0 : Int)
  (fun b77 => (cond_ (! b77) (memory_Memory_Copyv1 (0 : Int) (0 : Int) (0 : Int) b73
  (fun b91 b92 => (cond_ (! b91) (law38_known
  (fun b93 => (k1 b93))) (k1 false)))) (k1 false)))) (k1 false)))) (k1 false)))) (k1 false)))) (k1 false)))) (k1 false)) (k1 false)) (k1 false)) (k1 false)) (k1 false)) (k1 false)))))))
  (fun n94 b95 b96 ns97 => (memory_Memory_Item n0 n1
  (fun n98 n99 => (memory_Memory_Itemv2 n0 n1 b96 ns97
  (fun n132 n133 b134 ns135 => (cond_ (! b9) (cond_ (! b22) (cond_ (! b26) (cond_ (! b95) (cond_ (n99 == (2 : Int)) (cond_ (n133 == (2 : Int)) (memory_Memory_Size
  (fun n136 => (cond_ (n136 == (0 : Int)) (memory_Memory_Sizev2 b134 ns135
  (fun n137 b138 ns139 => (cond_ (n137 == (0 : Int)) (memory_Memory_Store n0 n1
  (fun b140 => (cond_ (! b140) (memory_Memory_Storev2 n0 n1 b138 ns139
  (fun b161 b162 ns163 => (cond_ (! b161) (memory_Memory_Copy (0 : Int) (0 : Int) (0 : Int)
  (fun b164 => (cond_ (! b164) (memory_Memory_Copyv2 (0 : Int) (0 : Int) (0 : Int) b162 ns163
  (fun b182 b183 ns184 => (cond_ (! b182) (law38_known
  (fun b185 => (k1 b185))) (k1 false)))) (k1 false)))) (k1 false)))) (k1 false)))) (k1 false)))) (k1 false)))) (k1 false)) (k1 false)) (k1 false)) (k1 false)) (k1 false)) (k1 false))))))))))))))
noncomputable def law38_MemoryNobody (n0 : Int) (n1 : Int) (k1 : Bool → Option Bool) : Option Bool := law38_MemoryNobody.body memory_Memory_Load memory_Memory_Loadv1 memory_Memory_Grow memory_Memory_Growv1 memory_Memory_Item memory_Memory_Itemv1 memory_Memory_Size memory_Memory_Sizev1 memory_Memory_Store memory_Memory_Storev1 memory_Memory_Copy memory_Memory_Copyv1 law38_known memory_Memory_Itemv2 memory_Memory_Sizev2 memory_Memory_Storev2 memory_Memory_Copyv2 n0 n1 k1
noncomputable def law38_MemoryNobody.get (F : Int → Int → (Bool → Option Bool) → Option Bool) (e : Option Bool) (g : FuncId) (a : List AV) (h : Heap) (k : KR) : Option Bool := match g, a, h with
  | 5, [(.d ⟨(.int .i64), n0⟩), (.d ⟨(.int .i64), n1⟩)], [] => F n0 n1 (fun y0 => k (.d ⟨.bool, y0⟩) [])
  | _, _, _ => e
noncomputable def law38_MemoryNobody.calls (F0 : Int → (Int → Bool → Option Bool) → Option Bool) (F1 : Int → Bool → (Int → Bool → Bool → Option Bool) → Option Bool) (F2 : Int → (Int → Bool → Option Bool) → Option Bool) (F3 : Int → Bool → (Int → Bool → Bool → Option Bool) → (Int → Bool → Bool → (List Int) → Option Bool) → Option Bool) (F4 : Int → Int → (Int → Int → Option Bool) → Option Bool) (F5 : Int → Int → Bool → (Int → Int → Bool → Option Bool) → Option Bool) (F6 : (Int → Option Bool) → Option Bool) (F7 : Bool → (Int → Bool → Option Bool) → Option Bool) (F8 : Int → Int → (Bool → Option Bool) → Option Bool) (F9 : Int → Int → Bool → (Bool → Bool → Option Bool) → Option Bool) (F10 : Int → Int → Int → (Bool → Option Bool) → Option Bool) (F11 : Int → Int → Int → Bool → (Bool → Bool → Option Bool) → Option Bool) (F12 : (Bool → Option Bool) → Option Bool) (F13 : Int → Int → Bool → (List Int) → (Int → Int → Bool → (List Int) → Option Bool) → Option Bool) (F14 : Bool → (List Int) → (Int → Bool → (List Int) → Option Bool) → Option Bool) (F15 : Int → Int → Bool → (List Int) → (Bool → Bool → (List Int) → Option Bool) → Option Bool) (F16 : Int → Int → Int → Bool → (List Int) → (Bool → Bool → (List Int) → Option Bool) → Option Bool) : RecF := fun g a h k => (memory_Memory_Load.get F0 (memory_Memory_Loadv1.get F1 (memory_Memory_Grow.get F2 (memory_Memory_Growv1.get F3 (memory_Memory_Item.get F4 (memory_Memory_Itemv1.get F5 (memory_Memory_Size.get F6 (memory_Memory_Sizev1.get F7 (memory_Memory_Store.get F8 (memory_Memory_Storev1.get F9 (memory_Memory_Copy.get F10 (memory_Memory_Copyv1.get F11 (law38_known.get F12 (memory_Memory_Itemv2.get F13 (memory_Memory_Sizev2.get F14 (memory_Memory_Storev2.get F15 (memory_Memory_Copyv2.get F16 none g a h k) g a h k) g a h k) g a h k) g a h k) g a h k) g a h k) g a h k) g a h k) g a h k) g a h k) g a h k) g a h k) g a h k) g a h k) g a h k) g a h k)
noncomputable def law38_MemoryNobody.loops : LoopF := fun b => none
set_option maxRecDepth 100000 in
theorem law38_MemoryNobody.eq (F0 : Int → (Int → Bool → Option Bool) → Option Bool) (F1 : Int → Bool → (Int → Bool → Bool → Option Bool) → Option Bool) (F2 : Int → (Int → Bool → Option Bool) → Option Bool) (F3 : Int → Bool → (Int → Bool → Bool → Option Bool) → (Int → Bool → Bool → (List Int) → Option Bool) → Option Bool) (F4 : Int → Int → (Int → Int → Option Bool) → Option Bool) (F5 : Int → Int → Bool → (Int → Int → Bool → Option Bool) → Option Bool) (F6 : (Int → Option Bool) → Option Bool) (F7 : Bool → (Int → Bool → Option Bool) → Option Bool) (F8 : Int → Int → (Bool → Option Bool) → Option Bool) (F9 : Int → Int → Bool → (Bool → Bool → Option Bool) → Option Bool) (F10 : Int → Int → Int → (Bool → Option Bool) → Option Bool) (F11 : Int → Int → Int → Bool → (Bool → Bool → Option Bool) → Option Bool) (F12 : (Bool → Option Bool) → Option Bool) (F13 : Int → Int → Bool → (List Int) → (Int → Int → Bool → (List Int) → Option Bool) → Option Bool) (F14 : Bool → (List Int) → (Int → Bool → (List Int) → Option Bool) → Option Bool) (F15 : Int → Int → Bool → (List Int) → (Bool → Bool → (List Int) → Option Bool) → Option Bool) (F16 : Int → Int → Int → Bool → (List Int) → (Bool → Bool → (List Int) → Option Bool) → Option Bool) (n0 : Int) (n1 : Int) (k : KR) : execL Try.prog ht 5 (callfOf (law38_MemoryNobody.calls F0 F1 F2 F3 F4 F5 F6 F7 F8 F9 F10 F11 F12 F13 F14 F15 F16)) (law38_MemoryNobody.loops) 0 (codeOf Try.f5) ⟨[(.d ⟨(.int .i64), n0⟩), (.d ⟨(.int .i64), n1⟩)] ++ List.replicate (Try.f5.ntmps - ([(.d ⟨(.int .i64), n0⟩), (.d ⟨(.int .i64), n1⟩)] : List AV).length) .undef, [], 2⟩ (leave Try.prog Try.f5 k) = law38_MemoryNobody.body F0 F1 F2 F3 F4 F5 F6 F7 F8 F9 F10 F11 F12 F13 F14 F15 F16 n0 n1 (fun y0 => k (.d ⟨.bool, y0⟩) []) := by kernel_rfl
theorem law38_MemoryNobody.ok (d : Nat) (hd : 61 ≤ d) (n0 : Int) (n1 : Int) (k : KR) (hx : law38_MemoryNobody n0 n1 (fun y0 => k (.d ⟨.bool, y0⟩) []) = some true) : callK Try.prog ht d 5 [(.d ⟨(.int .i64), n0⟩), (.d ⟨(.int .i64), n1⟩)] [] k = some true := by
  obtain ⟨d, rfl⟩ : ∃ e, d = e + 1 := ⟨d - 1, by omega⟩
  exact fn_ok (c := codeOf Try.f5) Try.func5 (by kernel_rfl) (rec := law38_MemoryNobody.calls memory_Memory_Load memory_Memory_Loadv1 memory_Memory_Grow memory_Memory_Growv1 memory_Memory_Item memory_Memory_Itemv1 memory_Memory_Size memory_Memory_Sizev1 memory_Memory_Store memory_Memory_Storev1 memory_Memory_Copy memory_Memory_Copyv1 law38_known memory_Memory_Itemv2 memory_Memory_Sizev2 memory_Memory_Storev2 memory_Memory_Copyv2) (fun g a h k hx => by
    rcases memory_Memory_Load.look d (by omega) hx with hx | hx
    rotate_left
    · exact hx
    rcases memory_Memory_Loadv1.look d (by omega) hx with hx | hx
    rotate_left
    · exact hx
    rcases memory_Memory_Grow.look d (by omega) hx with hx | hx
    rotate_left
    · exact hx
    rcases memory_Memory_Growv1.look d (by omega) hx with hx | hx
    rotate_left
    · exact hx
    rcases memory_Memory_Item.look d (by omega) hx with hx | hx
    rotate_left
    · exact hx
    rcases memory_Memory_Itemv1.look d (by omega) hx with hx | hx
    rotate_left
    · exact hx
    rcases memory_Memory_Size.look d (by omega) hx with hx | hx
    rotate_left
    · exact hx
    rcases memory_Memory_Sizev1.look d (by omega) hx with hx | hx
    rotate_left
    · exact hx
    rcases memory_Memory_Store.look d (by omega) hx with hx | hx
    rotate_left
    · exact hx
    rcases memory_Memory_Storev1.look d (by omega) hx with hx | hx
    rotate_left
    · exact hx
    rcases memory_Memory_Copy.look d (by omega) hx with hx | hx
    rotate_left
    · exact hx
    rcases memory_Memory_Copyv1.look d (by omega) hx with hx | hx
    rotate_left
    · exact hx
    rcases law38_known.look d (by omega) hx with hx | hx
    rotate_left
    · exact hx
    rcases memory_Memory_Itemv2.look d (by omega) hx with hx | hx
    rotate_left
    · exact hx
    rcases memory_Memory_Sizev2.look d (by omega) hx with hx | hx
    rotate_left
    · exact hx
    rcases memory_Memory_Storev2.look d (by omega) hx with hx | hx
    rotate_left
    · exact hx
    rcases memory_Memory_Copyv2.look d (by omega) hx with hx | hx
    rotate_left
    · exact hx
    cases hx) (loopf := law38_MemoryNobody.loops) (by
    have e : loopsOf (law38_MemoryNobody.loops) 0 (codeOf Try.f5) = [] := by kernel_rfl
    rw [e]
    intro p hp
    cases hp) ((law38_MemoryNobody.eq memory_Memory_Load memory_Memory_Loadv1 memory_Memory_Grow memory_Memory_Growv1 memory_Memory_Item memory_Memory_Itemv1 memory_Memory_Size memory_Memory_Sizev1 memory_Memory_Store memory_Memory_Storev1 memory_Memory_Copy memory_Memory_Copyv1 law38_known memory_Memory_Itemv2 memory_Memory_Sizev2 memory_Memory_Storev2 memory_Memory_Copyv2 n0 n1 k).trans hx)
theorem law38_MemoryNobody.look (d : Nat) (hd : 61 ≤ d) {e : Option Bool} {g : FuncId} {a : List AV} {h : Heap} {k : KR} (hx : law38_MemoryNobody.get law38_MemoryNobody e g a h k = some true) : e = some true ∨ callK Try.prog ht d g a h k = some true := by
  unfold law38_MemoryNobody.get at hx
  split at hx
  · exact .inr (law38_MemoryNobody.ok d hd _ _ _ hx)
  · exact .inl hx
/-- function 20: slices.Clone[[]int64,int64] -/
noncomputable def slices_Clone_int64_int64.body (ns191 : List Int) (k1 : (List Int) → Option Bool) : Option Bool :=
  (cond_ (List.isEmpty ns191) (meet (k1 []) (cond_ (Nat.ble (((0 : Nat) + (List.length ns191)) * (8 : Nat)) (140737488355328 : Nat)) (k1 ([] ++ ns191)) none)) (cond_ (Nat.ble (((0 : Nat) + (List.length ns191)) * (8 : Nat)) (140737488355328 : Nat)) (k1 ([] ++ ns191)) none))
noncomputable def slices_Clone_int64_int64 (ns191 : List Int) (k1 : (List Int) → Option Bool) : Option Bool := slices_Clone_int64_int64.body ns191 k1
noncomputable def slices_Clone_int64_int64.get (F : (List Int) → ((List Int) → Option Bool) → Option Bool) (e : Option Bool) (g : FuncId) (a : List AV) (h : Heap) (k : KR) : Option Bool := match g, a, h with
  | 20, [(.bv 1 2 (.int .i64) ns191)], [] => F ns191 (fun y0 => k (.ref [1, 0]) [([1, 0], ⟨2, 1, (.data (.int .i64) y0)⟩)])
  | _, _, _ => e
noncomputable def slices_Clone_int64_int64.calls : RecF := fun g a h k => none
noncomputable def slices_Clone_int64_int64.loops : LoopF := fun b => none
set_option maxRecDepth 100000 in
theorem slices_Clone_int64_int64.eq (ns191 : List Int) (k : KR) : execL Try.prog ht 20 (callfOf (slices_Clone_int64_int64.calls)) (slices_Clone_int64_int64.loops) 0 (codeOf Try.f20) ⟨[(.bv 1 2 (.int .i64) ns191)] ++ List.replicate (Try.f20.ntmps - ([(.bv 1 2 (.int .i64) ns191)] : List AV).length) .undef, [], 2⟩ (leave Try.prog Try.f20 k) = slices_Clone_int64_int64.body ns191 (fun y0 => k (.ref [1, 0]) [([1, 0], ⟨2, 1, (.data (.int .i64) y0)⟩)]) := by kernel_rfl
theorem slices_Clone_int64_int64.ok (d : Nat) (hd : 1 ≤ d) (ns191 : List Int) (k : KR) (hx : slices_Clone_int64_int64 ns191 (fun y0 => k (.ref [1, 0]) [([1, 0], ⟨2, 1, (.data (.int .i64) y0)⟩)]) = some true) : callK Try.prog ht d 20 [(.bv 1 2 (.int .i64) ns191)] [] k = some true := by
  obtain ⟨d, rfl⟩ : ∃ e, d = e + 1 := ⟨d - 1, by omega⟩
  exact fn_ok (c := codeOf Try.f20) Try.func20 (by kernel_rfl) (rec := slices_Clone_int64_int64.calls) (fun g a h k hx => by
    cases hx) (loopf := slices_Clone_int64_int64.loops) (by
    have e : loopsOf (slices_Clone_int64_int64.loops) 0 (codeOf Try.f20) = [] := by kernel_rfl
    rw [e]
    intro p hp
    cases hp) ((slices_Clone_int64_int64.eq ns191 k).trans hx)
theorem slices_Clone_int64_int64.look (d : Nat) (hd : 1 ≤ d) {e : Option Bool} {g : FuncId} {a : List AV} {h : Heap} {k : KR} (hx : slices_Clone_int64_int64.get slices_Clone_int64_int64 e g a h k = some true) : e = some true ∨ callK Try.prog ht d g a h k = some true := by
  unfold slices_Clone_int64_int64.get at hx
  split at hx
  · exact .inr (slices_Clone_int64_int64.ok d hd _ _ hx)
  · exact .inl hx
/-- function 8: sheerleg/memory.New -/
noncomputable def memory_New.body (slices_Clone_int64_int64 : (List Int) → ((List Int) → Option Bool) → Option Bool) (ns190 : List Int) (k1 : Bool → (List Int) → Option Bool) : Option Bool :=
  (slices_Clone_int64_int64 ns190
  (fun ns192 => (k1 true ns192)))
noncomputable def memory_New (ns190 : List Int) (k1 : Bool → (List Int) → Option Bool) : Option Bool := memory_New.body slices_Clone_int64_int64 ns190 k1
noncomputable def memory_New.get (F : (List Int) → (Bool → (List Int) → Option Bool) → Option Bool) (e : Option Bool) (g : FuncId) (a : List AV) (h : Heap) (k : KR) : Option Bool := match g, a, h with
  | 8, [(.bv 1 2 (.int .i64) ns190)], [] => F ns190 (fun y0 y1 => k (.ptr [1, 0] 0 0) [([1, 0], ⟨48, 2, (.mix [(.agg [(.ref [1, 1]), (.d ⟨.bool, y0⟩)])])⟩), ([1, 1], ⟨2, 1, (.data (.int .i64) y1)⟩)])
  | _, _, _ => e
noncomputable def memory_New.calls (F0 : (List Int) → ((List Int) → Option Bool) → Option Bool) : RecF := fun g a h k => (slices_Clone_int64_int64.get F0 none g a h k)
noncomputable def memory_New.loops : LoopF := fun b => none
set_option maxRecDepth 100000 in
theorem memory_New.eq (F0 : (List Int) → ((List Int) → Option Bool) → Option Bool) (ns190 : List Int) (k : KR) : execL Try.prog ht 8 (callfOf (memory_New.calls F0)) (memory_New.loops) 0 (codeOf Try.f8) ⟨[(.bv 1 2 (.int .i64) ns190)] ++ List.replicate (Try.f8.ntmps - ([(.bv 1 2 (.int .i64) ns190)] : List AV).length) .undef, [], 2⟩ (leave Try.prog Try.f8 k) = memory_New.body F0 ns190 (fun y0 y1 => k (.ptr [1, 0] 0 0) [([1, 0], ⟨48, 2, (.mix [(.agg [(.ref [1, 1]), (.d ⟨.bool, y0⟩)])])⟩), ([1, 1], ⟨2, 1, (.data (.int .i64) y1)⟩)]) := by kernel_rfl
theorem memory_New.ok (d : Nat) (hd : 2 ≤ d) (ns190 : List Int) (k : KR) (hx : memory_New ns190 (fun y0 y1 => k (.ptr [1, 0] 0 0) [([1, 0], ⟨48, 2, (.mix [(.agg [(.ref [1, 1]), (.d ⟨.bool, y0⟩)])])⟩), ([1, 1], ⟨2, 1, (.data (.int .i64) y1)⟩)]) = some true) : callK Try.prog ht d 8 [(.bv 1 2 (.int .i64) ns190)] [] k = some true := by
  obtain ⟨d, rfl⟩ : ∃ e, d = e + 1 := ⟨d - 1, by omega⟩
  exact fn_ok (c := codeOf Try.f8) Try.func8 (by kernel_rfl) (rec := memory_New.calls slices_Clone_int64_int64) (fun g a h k hx => by
    rcases slices_Clone_int64_int64.look d (by omega) hx with hx | hx
    rotate_left
    · exact hx
    cases hx) (loopf := memory_New.loops) (by
    have e : loopsOf (memory_New.loops) 0 (codeOf Try.f8) = [] := by kernel_rfl
    rw [e]
    intro p hp
    cases hp) ((memory_New.eq slices_Clone_int64_int64 ns190 k).trans hx)
theorem memory_New.look (d : Nat) (hd : 2 ≤ d) {e : Option Bool} {g : FuncId} {a : List AV} {h : Heap} {k : KR} (hx : memory_New.get memory_New e g a h k = some true) : e = some true ∨ callK Try.prog ht d g a h k = some true := by
  unfold memory_New.get at hx
  split at hx
  · exact .inr (memory_New.ok d hd _ _ hx)
  · exact .inl hx
/-- function 4: sheerleg/sheerleglaw38.MemoryApart -/
noncomputable def law38_MemoryApart.body (law38_known : (Bool → Option Bool) → Option Bool) (memory_New : (List Int) → (Bool → (List Int) → Option Bool) → Option Bool) (memory_Memory_Storev2 : Int → Int → Bool → (List Int) → (Bool → Bool → (List Int) → Option Bool) → Option Bool) (memory_Memory_Loadv2 : Int → Bool → (List Int) → (Int → Bool → Bool → (List Int) → Option Bool) → Option Bool) (ns186 : List Int) (n187 : Int) (n188 : Int) (k1 : Bool → Option Bool) : Option Bool :=
  (cond_ (! (decide ((((List.length ns186) : Nat) : Int) > (200 : Int)))) (cond_ (! (decide (n187 < (0 : Int)))) (cond_ (decide (n187 ≥ (((List.length ns186) : Nat) : Int))) (law38_known
  (fun b189 => (k1 b189))) (cond_ (Nat.ble ((List.length ns186) * (8 : Nat)) (140737488355328 : Nat)) (memory_New ns186
  (fun b193 ns194 => (memory_Memory_Storev2 n187 n188 b193 ns194
  (fun b195 b196 ns197 => (cond_ (! (! b195)) (cond_ ((decide ((0 : Int) ≤ n187)) && (decide (n187 < (((List.length ns186) : Nat) : Int)))) (cond_ ((decide ((0 : Int) ≤ n187)) && (decide (n187 < (((List.length ns186) : Nat) : Int)))) (cond_ ((List.getD ns186 (Int.toNat n187) (0 : Int)) != (List.getD ns186 (Int.toNat n187) (0 : Int))) (k1 false) (cond_ ((decide ((0 : Int) ≤ n187)) && (decide (n187 < (((List.length ns186) : Nat) : Int)))) (memory_Memory_Loadv2 n187 b196 ns197
  (fun n198 b199 b200 ns201 => (cond_ (n198 == n188) (cond_ b199 (law38_known
  (fun b202 => (k1 b202))) (k1 false)) (k1 false)))) none)) none) none) (k1 false)))))) none)) (law38_known
  (fun b203 => (k1 b203)))) (law38_known
  (fun b204 => (k1 b204))))
noncomputable def law38_MemoryApart (ns186 : List Int) (n187 : Int) (n188 : Int) (k1 : Bool → Option Bool) : Option Bool := law38_MemoryApart.body law38_known memory_New memory_Memory_Storev2 memory_Memory_Loadv2 ns186 n187 n188 k1
noncomputable def law38_MemoryApart.get (F : (List Int) → Int → Int → (Bool → Option Bool) → Option Bool) (e : Option Bool) (g : FuncId) (a : List AV) (h : Heap) (k : KR) : Option Bool := match g, a, h with
  | 4, [(.bv 0 2 (.int .i64) ns186), (.d ⟨(.int .i64), n187⟩), (.d ⟨(.int .i64), n188⟩)], [] => F ns186 n187 n188 (fun y0 => k (.d ⟨.bool, y0⟩) [])
  | _, _, _ => e
noncomputable def law38_MemoryApart.calls (F0 : (Bool → Option Bool) → Option Bool) (F1 : (List Int) → (Bool → (List Int) → Option Bool) → Option Bool) (F2 : Int → Int → Bool → (List Int) → (Bool → Bool → (List Int) → Option Bool) → Option Bool) (F3 : Int → Bool → (List Int) → (Int → Bool → Bool → (List Int) → Option Bool) → Option Bool) : RecF := fun g a h k => (law38_known.get F0 (memory_New.get F1 (memory_Memory_Storev2.get F2 (memory_Memory_Loadv2.get F3 none g a h k) g a h k) g a h k) g a h k)
noncomputable def law38_MemoryApart.loops : LoopF := fun b => none
set_option maxRecDepth 100000 in
theorem law38_MemoryApart.eq (F0 : (Bool → Option Bool) → Option Bool) (F1 : (List Int) → (Bool → (List Int) → Option Bool) → Option Bool) (F2 : Int → Int → Bool → (List Int) → (Bool → Bool → (List Int) → Option Bool) → Option Bool) (F3 : Int → Bool → (List Int) → (Int → Bool → Bool → (List Int) → Option Bool) → Option Bool) (ns186 : List Int) (n187 : Int) (n188 : Int) (k : KR) : execL Try.prog ht 4 (callfOf (law38_MemoryApart.calls F0 F1 F2 F3)) (law38_MemoryApart.loops) 0 (codeOf Try.f4) ⟨[(.bv 0 2 (.int .i64) ns186), (.d ⟨(.int .i64), n187⟩), (.d ⟨(.int .i64), n188⟩)] ++ List.replicate (Try.f4.ntmps - ([(.bv 0 2 (.int .i64) ns186), (.d ⟨(.int .i64), n187⟩), (.d ⟨(.int .i64), n188⟩)] : List AV).length) .undef, [], 2⟩ (leave Try.prog Try.f4 k) = law38_MemoryApart.body F0 F1 F2 F3 ns186 n187 n188 (fun y0 => k (.d ⟨.bool, y0⟩) []) := by kernel_rfl
theorem law38_MemoryApart.ok (d : Nat) (hd : 61 ≤ d) (ns186 : List Int) (n187 : Int) (n188 : Int) (k : KR) (hx : law38_MemoryApart ns186 n187 n188 (fun y0 => k (.d ⟨.bool, y0⟩) []) = some true) : callK Try.prog ht d 4 [(.bv 0 2 (.int .i64) ns186), (.d ⟨(.int .i64), n187⟩), (.d ⟨(.int .i64), n188⟩)] [] k = some true := by
  obtain ⟨d, rfl⟩ : ∃ e, d = e + 1 := ⟨d - 1, by omega⟩
  exact fn_ok (c := codeOf Try.f4) Try.func4 (by kernel_rfl) (rec := law38_MemoryApart.calls law38_known memory_New memory_Memory_Storev2 memory_Memory_Loadv2) (fun g a h k hx => by
    rcases law38_known.look d (by omega) hx with hx | hx
    rotate_left
    · exact hx
    rcases memory_New.look d (by omega) hx with hx | hx
    rotate_left
    · exact hx
    rcases memory_Memory_Storev2.look d (by omega) hx with hx | hx
    rotate_left
    · exact hx
    rcases memory_Memory_Loadv2.look d (by omega) hx with hx | hx
    rotate_left
    · exact hx
    cases hx) (loopf := law38_MemoryApart.loops) (by
    have e : loopsOf (law38_MemoryApart.loops) 0 (codeOf Try.f4) = [] := by kernel_rfl
    rw [e]
    intro p hp
    cases hp) ((law38_MemoryApart.eq law38_known memory_New memory_Memory_Storev2 memory_Memory_Loadv2 ns186 n187 n188 k).trans hx)
theorem law38_MemoryApart.look (d : Nat) (hd : 61 ≤ d) {e : Option Bool} {g : FuncId} {a : List AV} {h : Heap} {k : KR} (hx : law38_MemoryApart.get law38_MemoryApart e g a h k = some true) : e = some true ∨ callK Try.prog ht d g a h k = some true := by
  unfold law38_MemoryApart.get at hx
  split at hx
  · exact .inr (law38_MemoryApart.ok d hd _ _ _ _ hx)
  · exact .inl hx
/-- function 20: slices.Clone[[]int64,int64] -/
noncomputable def slices_Clone_int64_int64v1.body (ns211 : List Int) (k1 : (List Int) → Option Bool) : Option Bool :=
  (cond_ (List.isEmpty ns211) (meet (k1 []) (cond_ (Nat.ble (((0 : Nat) + (List.length ns211)) * (8 : Nat)) (140737488355328 : Nat)) (k1 ([] ++ ns211)) none)) (cond_ (Nat.ble (((0 : Nat) + (List.length ns211)) * (8 : Nat)) (140737488355328 : Nat)) (k1 ([] ++ ns211)) none))
noncomputable def slices_Clone_int64_int64v1 (ns211 : List Int) (k1 : (List Int) → Option Bool) : Option Bool := slices_Clone_int64_int64v1.body ns211 k1
noncomputable def slices_Clone_int64_int64v1.get (F : (List Int) → ((List Int) → Option Bool) → Option Bool) (e : Option Bool) (g : FuncId) (a : List AV) (h : Heap) (k : KR) : Option Bool := match g, a, h with
  | 20, [(.bv 0 2 (.int .i64) ns211)], [] => F ns211 (fun y0 => k (.ref [1, 0]) [([1, 0], ⟨2, 1, (.data (.int .i64) y0)⟩)])
  | _, _, _ => e
noncomputable def slices_Clone_int64_int64v1.calls : RecF := fun g a h k => none
noncomputable def slices_Clone_int64_int64v1.loops : LoopF := fun b => none
set_option maxRecDepth 100000 in
theorem slices_Clone_int64_int64v1.eq (ns211 : List Int) (k : KR) : execL Try.prog ht 20 (callfOf (slices_Clone_int64_int64v1.calls)) (slices_Clone_int64_int64v1.loops) 0 (codeOf Try.f20) ⟨[(.bv 0 2 (.int .i64) ns211)] ++ List.replicate (Try.f20.ntmps - ([(.bv 0 2 (.int .i64) ns211)] : List AV).length) .undef, [], 2⟩ (leave Try.prog Try.f20 k) = slices_Clone_int64_int64v1.body ns211 (fun y0 => k (.ref [1, 0]) [([1, 0], ⟨2, 1, (.data (.int .i64) y0)⟩)]) := by kernel_rfl
theorem slices_Clone_int64_int64v1.ok (d : Nat) (hd : 1 ≤ d) (ns211 : List Int) (k : KR) (hx : slices_Clone_int64_int64v1 ns211 (fun y0 => k (.ref [1, 0]) [([1, 0], ⟨2, 1, (.data (.int .i64) y0)⟩)]) = some true) : callK Try.prog ht d 20 [(.bv 0 2 (.int .i64) ns211)] [] k = some true := by
  obtain ⟨d, rfl⟩ : ∃ e, d = e + 1 := ⟨d - 1, by omega⟩
  exact fn_ok (c := codeOf Try.f20) Try.func20 (by kernel_rfl) (rec := slices_Clone_int64_int64v1.calls) (fun g a h k hx => by
    cases hx) (loopf := slices_Clone_int64_int64v1.loops) (by
    have e : loopsOf (slices_Clone_int64_int64v1.loops) 0 (codeOf Try.f20) = [] := by kernel_rfl
    rw [e]
    intro p hp
    cases hp) ((slices_Clone_int64_int64v1.eq ns211 k).trans hx)
theorem slices_Clone_int64_int64v1.look (d : Nat) (hd : 1 ≤ d) {e : Option Bool} {g : FuncId} {a : List AV} {h : Heap} {k : KR} (hx : slices_Clone_int64_int64v1.get slices_Clone_int64_int64v1 e g a h k = some true) : e = some true ∨ callK Try.prog ht d g a h k = some true := by
  unfold slices_Clone_int64_int64v1.get at hx
  split at hx
  · exact .inr (slices_Clone_int64_int64v1.ok d hd _ _ hx)
  · exact .inl hx
/-- function 8: sheerleg/memory.New -/
noncomputable def memory_Newv1.body (slices_Clone_int64_int64v1 : (List Int) → ((List Int) → Option Bool) → Option Bool) (ns210 : List Int) (k1 : Bool → (List Int) → Option Bool) : Option Bool :=
  (slices_Clone_int64_int64v1 ns210
  (fun ns212 => (k1 true ns212)))
noncomputable def memory_Newv1 (ns210 : List Int) (k1 : Bool → (List Int) → Option Bool) : Option Bool := memory_Newv1.body slices_Clone_int64_int64v1 ns210 k1
noncomputable def memory_Newv1.get (F : (List Int) → (Bool → (List Int) → Option Bool) → Option Bool) (e : Option Bool) (g : FuncId) (a : List AV) (h : Heap) (k : KR) : Option Bool := match g, a, h with
  | 8, [(.bv 0 2 (.int .i64) ns210)], [] => F ns210 (fun y0 y1 => k (.ptr [1, 0] 0 0) [([1, 0], ⟨48, 2, (.mix [(.agg [(.ref [1, 1]), (.d ⟨.bool, y0⟩)])])⟩), ([1, 1], ⟨2, 1, (.data (.int .i64) y1)⟩)])
  | _, _, _ => e
noncomputable def memory_Newv1.calls (F0 : (List Int) → ((List Int) → Option Bool) → Option Bool) : RecF := fun g a h k => (slices_Clone_int64_int64v1.get F0 none g a h k)
noncomputable def memory_Newv1.loops : LoopF := fun b => none
set_option maxRecDepth 100000 in
theorem memory_Newv1.eq (F0 : (List Int) → ((List Int) → Option Bool) → Option Bool) (ns210 : List Int) (k : KR) : execL Try.prog ht 8 (callfOf (memory_Newv1.calls F0)) (memory_Newv1.loops) 0 (codeOf Try.f8) ⟨[(.bv 0 2 (.int .i64) ns210)] ++ List.replicate (Try.f8.ntmps - ([(.bv 0 2 (.int .i64) ns210)] : List AV).length) .undef, [], 2⟩ (leave Try.prog Try.f8 k) = memory_Newv1.body F0 ns210 (fun y0 y1 => k (.ptr [1, 0] 0 0) [([1, 0], ⟨48, 2, (.mix [(.agg [(.ref [1, 1]), (.d ⟨.bool, y0⟩)])])⟩), ([1, 1], ⟨2, 1, (.data (.int .i64) y1)⟩)]) := by kernel_rfl
theorem memory_Newv1.ok (d : Nat) (hd : 2 ≤ d) (ns210 : List Int) (k : KR) (hx : memory_Newv1 ns210 (fun y0 y1 => k (.ptr [1, 0] 0 0) [([1, 0], ⟨48, 2, (.mix [(.agg [(.ref [1, 1]), (.d ⟨.bool, y0⟩)])])⟩), ([1, 1], ⟨2, 1, (.data (.int .i64) y1)⟩)]) = some true) : callK Try.prog ht d 8 [(.bv 0 2 (.int .i64) ns210)] [] k = some true := by
  obtain ⟨d, rfl⟩ : ∃ e, d = e + 1 := ⟨d - 1, by omega⟩
  exact fn_ok (c := codeOf Try.f8) Try.func8 (by kernel_rfl) (rec := memory_Newv1.calls slices_Clone_int64_int64v1) (fun g a h k hx => by
    rcases slices_Clone_int64_int64v1.look d (by omega) hx with hx | hx
    rotate_left
    · exact hx
    cases hx) (loopf := memory_Newv1.loops) (by
    have e : loopsOf (memory_Newv1.loops) 0 (codeOf Try.f8) = [] := by kernel_rfl
    rw [e]
    intro p hp
    cases hp) ((memory_Newv1.eq slices_Clone_int64_int64v1 ns210 k).trans hx)
theorem memory_Newv1.look (d : Nat) (hd : 2 ≤ d) {e : Option Bool} {g : FuncId} {a : List AV} {h : Heap} {k : KR} (hx : memory_Newv1.get memory_Newv1 e g a h k = some true) : e = some true ∨ callK Try.prog ht d g a h k = some true := by
  unfold memory_Newv1.get at hx
  split at hx
  · exact .inr (memory_Newv1.ok d hd _ _ hx)
  · exact .inl hx
/-- function 6: sheerleg/sheerleglaw38.MemoryItems -/
noncomputable def law38_MemoryItems.body (law38_known : (Bool → Option Bool) → Option Bool) (memory_Newv1 : (List Int) → (Bool → (List Int) → Option Bool) → Option Bool) (memory_Memory_Itemv2 : Int → Int → Bool → (List Int) → (Int → Int → Bool → (List Int) → Option Bool) → Option Bool) (memory_Memory_Storev2 : Int → Int → Bool → (List Int) → (Bool → Bool → (List Int) → Option Bool) → Option Bool) (memory_Memory_Loadv2 : Int → Bool → (List Int) → (Int → Bool → Bool → (List Int) → Option Bool) → Option Bool) (memory_Memory_Sizev2 : Bool → (List Int) → (Int → Bool → (List Int) → Option Bool) → Option Bool) (ns205 : List Int) (n206 : Int) (n207 : Int) (n208 : Int) (k1 : Bool → Option Bool) : Option Bool :=
  (cond_ (decide ((((List.length ns205) : Nat) : Int) > (200 : Int))) (law38_known
  (fun b209 => (k1 b209))) (memory_Newv1 ns205
  (fun b213 ns214 => (memory_Memory_Itemv2 n206 n207 b213 ns214
  (fun n215 n216 b217 ns218 => (cond_ (n216 != (0 : Int)) (cond_ (n215 == (0 : Int)) (cond_ (! (n216 == (1 : Int))) (cond_ (n216 == (2 : Int)) (law38_known
  (fun b219 => (k1 b219))) (k1 false)) (law38_known
  (fun b220 => (k1 b220)))) (k1 false)) (cond_ (! (n215 != (IntKind.wrap .i64 ((IntKind.wrap .i64 (n206 + (1 : Int))) + n207)))) (cond_ (! (decide (n207 < (0 : Int)))) (cond_ (! (decide (n215 ≤ n206))) (memory_Memory_Storev2 n215 n208 b217 ns218
  (fun b221 b222 ns223 => (cond_ (! b221) (k1 false) (memory_Memory_Loadv2 n215 b222 ns223
  (fun n224 b225 b226 ns227 => (memory_Memory_Itemv2 n206 n207 b226 ns227
  (fun n228 n229 b230 ns231 => (cond_ (n224 == n208) (cond_ b225 (cond_ (n228 == n215) (cond_ (n229 == (0 : Int)) (memory_Memory_Sizev2 b230 ns231
  (fun n232 b233 ns234 => (cond_ (n232 == (((List.length ns205) : Nat) : Int)) (law38_known
  (fun b235 => (k1 b235))) (k1 false)))) (k1 false)) (k1 false)) (k1 false)) (k1 false))))))))) (k1 false)) (k1 false)) (k1 false))))))))
noncomputable def law38_MemoryItems (ns205 : List Int) (n206 : Int) (n207 : Int) (n208 : Int) (k1 : Bool → Option Bool) : Option Bool := law38_MemoryItems.body law38_known memory_Newv1 memory_Memory_Itemv2 memory_Memory_Storev2 memory_Memory_Loadv2 memory_Memory_Sizev2 ns205 n206 n207 n208 k1
noncomputable def law38_MemoryItems.get (F : (List Int) → Int → Int → Int → (Bool → Option Bool) → Option Bool) (e : Option Bool) (g : FuncId) (a : List AV) (h : Heap) (k : KR) : Option Bool := match g, a, h with
  | 6, [(.bv 0 2 (.int .i64) ns205), (.d ⟨(.int .i64), n206⟩), (.d ⟨(.int .i64), n207⟩), (.d ⟨(.int .i64), n208⟩)], [] => F ns205 n206 n207 n208 (fun y0 => k (.d ⟨.bool, y0⟩) [])
  | _, _, _ => e
noncomputable def law38_MemoryItems.calls (F0 : (Bool → Option Bool) → Option Bool) (F1 : (List Int) → (Bool → (List Int) → Option Bool) → Option Bool) (F2 : Int → Int → Bool → (List Int) → (Int → Int → Bool → (List Int) → Option Bool) → Option Bool) (F3 : Int → Int → Bool → (List Int) → (Bool → Bool → (List Int) → Option Bool) → Option Bool) (F4 : Int → Bool → (List Int) → (Int → Bool → Bool → (List Int) → Option Bool) → Option Bool) (F5 : Bool → (List Int) → (Int → Bool → (List Int) → Option Bool) → Option Bool) : RecF := fun g a h k => (law38_known.get F0 (memory_Newv1.get F1 (memory_Memory_Itemv2.get F2 (memory_Memory_Storev2.get F3 (memory_Memory_Loadv2.get F4 (memory_Memory_Sizev2.get F5 none g a h k) g a h k) g a h k) g a h k) g a h k) g a h k)
noncomputable def law38_MemoryItems.loops : LoopF := fun b => none
set_option maxRecDepth 100000 in
theorem law38_MemoryItems.eq (F0 : (Bool → Option Bool) → Option Bool) (F1 : (List Int) → (Bool → (List Int) → Option Bool) → Option Bool) (F2 : Int → Int → Bool → (List Int) → (Int → Int → Bool → (List Int) → Option Bool) → Option Bool) (F3 : Int → Int → Bool → (List Int) → (Bool → Bool → (List Int) → Option Bool) → Option Bool) (F4 : Int → Bool → (List Int) → (Int → Bool → Bool → (List Int) → Option Bool) → Option Bool) (F5 : Bool → (List Int) → (Int → Bool → (List Int) → Option Bool) → Option Bool) (ns205 : List Int) (n206 : Int) (n207 : Int) (n208 : Int) (k : KR) : execL Try.prog ht 6 (callfOf (law38_MemoryItems.calls F0 F1 F2 F3 F4 F5)) (law38_MemoryItems.loops) 0 (codeOf Try.f6) ⟨[(.bv 0 2 (.int .i64) ns205), (.d ⟨(.int .i64), n206⟩), (.d ⟨(.int .i64), n207⟩), (.d ⟨(.int .i64), n208⟩)] ++ List.replicate (Try.f6.ntmps - ([(.bv 0 2 (.int .i64) ns205), (.d ⟨(.int .i64), n206⟩), (.d ⟨(.int .i64), n207⟩), (.d ⟨(.int .i64), n208⟩)] : List AV).length) .undef, [], 2⟩ (leave Try.prog Try.f6 k) = law38_MemoryItems.body F0 F1 F2 F3 F4 F5 ns205 n206 n207 n208 (fun y0 => k (.d ⟨.bool, y0⟩) []) := by kernel_rfl
theorem law38_MemoryItems.ok (d : Nat) (hd : 61 ≤ d) (ns205 : List Int) (n206 : Int) (n207 : Int) (n208 : Int) (k : KR) (hx : law38_MemoryItems ns205 n206 n207 n208 (fun y0 => k (.d ⟨.bool, y0⟩) []) = some true) : callK Try.prog ht d 6 [(.bv 0 2 (.int .i64) ns205), (.d ⟨(.int .i64), n206⟩), (.d ⟨(.int .i64), n207⟩), (.d ⟨(.int .i64), n208⟩)] [] k = some true := by
  obtain ⟨d, rfl⟩ : ∃ e, d = e + 1 := ⟨d - 1, by omega⟩
  exact fn_ok (c := codeOf Try.f6) Try.func6 (by kernel_rfl) (rec := law38_MemoryItems.calls law38_known memory_Newv1 memory_Memory_Itemv2 memory_Memory_Storev2 memory_Memory_Loadv2 memory_Memory_Sizev2) (fun g a h k hx => by
    rcases law38_known.look d (by omega) hx with hx | hx
    rotate_left
    · exact hx
    rcases memory_Newv1.look d (by omega) hx with hx | hx
    rotate_left
    · exact hx
    rcases memory_Memory_Itemv2.look d (by omega) hx with hx | hx
    rotate_left
    · exact hx
    rcases memory_Memory_Storev2.look d (by omega) hx with hx | hx
    rotate_left
    · exact hx
    rcases memory_Memory_Loadv2.look d (by omega) hx with hx | hx
    rotate_left
    · exact hx
    rcases memory_Memory_Sizev2.look d (by omega) hx with hx | hx
    rotate_left
    · exact hx
    cases hx) (loopf := law38_MemoryItems.loops) (by
    have e : loopsOf (law38_MemoryItems.loops) 0 (codeOf Try.f6) = [] := by kernel_rfl
    rw [e]
    intro p hp
    cases hp) ((law38_MemoryItems.eq law38_known memory_Newv1 memory_Memory_Itemv2 memory_Memory_Storev2 memory_Memory_Loadv2 memory_Memory_Sizev2 ns205 n206 n207 n208 k).trans hx)
theorem law38_MemoryItems.look (d : Nat) (hd : 61 ≤ d) {e : Option Bool} {g : FuncId} {a : List AV} {h : Heap} {k : KR} (hx : law38_MemoryItems.get law38_MemoryItems e g a h k = some true) : e = some true ∨ callK Try.prog ht d g a h k = some true := by
  unfold law38_MemoryItems.get at hx
  split at hx
  · exact .inr (law38_MemoryItems.ok d hd _ _ _ _ _ hx)
  · exact .inl hx
/-- function 10: sheerleg/sheerlegref38.Load -/
noncomputable def ref38_Load.body (ns250 : List Int) (n251 : Int) (k1 : Int → Bool → Option Bool) : Option Bool :=
  (cond_ (! (decide (n251 < (0 : Int)))) (cond_ (decide (n251 ≥ (((List.length ns250) : Nat) : Int))) (k1 (0 : Int) false) (cond_ ((decide ((0 : Int) ≤ n251)) && (decide (n251 < (((List.length ns250) : Nat) : Int)))) (k1 (List.getD ns250 (Int.toNat n251) (0 : Int)) true) none)) (k1 (0 : Int) false))
noncomputable def ref38_Load (ns250 : List Int) (n251 : Int) (k1 : Int → Bool → Option Bool) : Option Bool := ref38_Load.body ns250 n251 k1
noncomputable def ref38_Load.get (F : (List Int) → Int → (Int → Bool → Option Bool) → Option Bool) (e : Option Bool) (g : FuncId) (a : List AV) (h : Heap) (k : KR) : Option Bool := match g, a, h with
  | 10, [(.bv 0 2 (.int .i64) ns250), (.d ⟨(.int .i64), n251⟩)], [] => F ns250 n251 (fun y0 y1 => k (.tup [(.d ⟨(.int .i64), y0⟩), (.d ⟨.bool, y1⟩)]) [])
  | _, _, _ => e
noncomputable def ref38_Load.calls : RecF := fun g a h k => none
noncomputable def ref38_Load.loops : LoopF := fun b => none
set_option maxRecDepth 100000 in
theorem ref38_Load.eq (ns250 : List Int) (n251 : Int) (k : KR) : execL Try.prog ht 10 (callfOf (ref38_Load.calls)) (ref38_Load.loops) 0 (codeOf Try.f10) ⟨[(.bv 0 2 (.int .i64) ns250), (.d ⟨(.int .i64), n251⟩)] ++ List.replicate (Try.f10.ntmps - ([(.bv 0 2 (.int .i64) ns250), (.d ⟨(.int .i64), n251⟩)] : List AV).length) .undef, [], 2⟩ (leave Try.prog Try.f10 k) = ref38_Load.body ns250 n251 (fun y0 y1 => k (.tup [(.d ⟨(.int .i64), y0⟩), (.d ⟨.bool, y1⟩)]) []) := by kernel_rfl
theorem ref38_Load.ok (d : Nat) (hd : 1 ≤ d) (ns250 : List Int) (n251 : Int) (k : KR) (hx : ref38_Load ns250 n251 (fun y0 y1 => k (.tup [(.d ⟨(.int .i64), y0⟩), (.d ⟨.bool, y1⟩)]) []) = some true) : callK Try.prog ht d 10 [(.bv 0 2 (.int .i64) ns250), (.d ⟨(.int .i64), n251⟩)] [] k = some true := by
  obtain ⟨d, rfl⟩ : ∃ e, d = e + 1 := ⟨d - 1, by omega⟩
  exact fn_ok (c := codeOf Try.f10) Try.func10 (by kernel_rfl) (rec := ref38_Load.calls) (fun g a h k hx => by
    cases hx) (loopf := ref38_Load.loops) (by
    have e : loopsOf (ref38_Load.loops) 0 (codeOf Try.f10) = [] := by kernel_rfl
    rw [e]
    intro p hp
    cases hp) ((ref38_Load.eq ns250 n251 k).trans hx)
theorem ref38_Load.look (d : Nat) (hd : 1 ≤ d) {e : Option Bool} {g : FuncId} {a : List AV} {h : Heap} {k : KR} (hx : ref38_Load.get ref38_Load e g a h k = some true) : e = some true ∨ callK Try.prog ht d g a h k = some true := by
  unfold ref38_Load.get at hx
  split at hx
  · exact .inr (ref38_Load.ok d hd _ _ _ hx)
  · exact .inl hx
/-- function 11: sheerleg/sheerlegref38.Store -/
noncomputable def ref38_Store.body (ns257 : List Int) (n258 : Int) (n259 : Int) (k1 : (List Int) → Bool → Option Bool) (k2 : Bool → (List Int) → Option Bool) : Option Bool :=
  (cond_ (! (decide (n258 < (0 : Int)))) (cond_ (decide (n258 ≥ (((List.length ns257) : Nat) : Int))) (k1 ns257 false) (cond_ (Nat.ble ((List.length ns257) * (8 : Nat)) (140737488355328 : Nat)) (cond_ ((decide ((0 : Int) ≤ n258)) && (decide (n258 < (((List.length ns257) : Nat) : Int)))) (k2 true (List.set ns257 (Int.toNat n258) n259)) none) none)) (k1 ns257 false))
noncomputable def ref38_Store (ns257 : List Int) (n258 : Int) (n259 : Int) (k1 : (List Int) → Bool → Option Bool) (k2 : Bool → (List Int) → Option Bool) : Option Bool := ref38_Store.body ns257 n258 n259 k1 k2
noncomputable def ref38_Store.get (F : (List Int) → Int → Int → ((List Int) → Bool → Option Bool) → (Bool → (List Int) → Option Bool) → Option Bool) (e : Option Bool) (g : FuncId) (a : List AV) (h : Heap) (k : KR) : Option Bool := match g, a, h with
  | 11, [(.bv 0 2 (.int .i64) ns257), (.d ⟨(.int .i64), n258⟩), (.d ⟨(.int .i64), n259⟩)], [] => F ns257 n258 n259 (fun y0 y1 => k (.tup [(.bv 0 2 (.int .i64) y0), (.d ⟨.bool, y1⟩)]) []) (fun y0 y1 => k (.tup [(.ref [1, 0]), (.d ⟨.bool, y0⟩)]) [([1, 0], ⟨2, 1, (.data (.int .i64) y1)⟩)])
  | _, _, _ => e
noncomputable def ref38_Store.calls : RecF := fun g a h k => none
noncomputable def ref38_Store.loops : LoopF := fun b => none
set_option maxRecDepth 100000 in
theorem ref38_Store.eq (ns257 : List Int) (n258 : Int) (n259 : Int) (k : KR) : execL Try.prog ht 11 (callfOf (ref38_Store.calls)) (ref38_Store.loops) 0 (codeOf Try.f11) ⟨[(.bv 0 2 (.int .i64) ns257), (.d ⟨(.int .i64), n258⟩), (.d ⟨(.int .i64), n259⟩)] ++ List.replicate (Try.f11.ntmps - ([(.bv 0 2 (.int .i64) ns257), (.d ⟨(.int .i64), n258⟩), (.d ⟨(.int .i64), n259⟩)] : List AV).length) .undef, [], 2⟩ (leave Try.prog Try.f11 k) = ref38_Store.body ns257 n258 n259 (fun y0 y1 => k (.tup [(.bv 0 2 (.int .i64) y0), (.d ⟨.bool, y1⟩)]) []) (fun y0 y1 => k (.tup [(.ref [1, 0]), (.d ⟨.bool, y0⟩)]) [([1, 0], ⟨2, 1, (.data (.int .i64) y1)⟩)]) := by kernel_rfl
theorem ref38_Store.ok (d : Nat) (hd : 1 ≤ d) (ns257 : List Int) (n258 : Int) (n259 : Int) (k : KR) (hx : ref38_Store ns257 n258 n259 (fun y0 y1 => k (.tup [(.bv 0 2 (.int .i64) y0), (.d ⟨.bool, y1⟩)]) []) (fun y0 y1 => k (.tup [(.ref [1, 0]), (.d ⟨.bool, y0⟩)]) [([1, 0], ⟨2, 1, (.data (.int .i64) y1)⟩)]) = some true) : callK Try.prog ht d 11 [(.bv 0 2 (.int .i64) ns257), (.d ⟨(.int .i64), n258⟩), (.d ⟨(.int .i64), n259⟩)] [] k = some true := by
  obtain ⟨d, rfl⟩ : ∃ e, d = e + 1 := ⟨d - 1, by omega⟩
  exact fn_ok (c := codeOf Try.f11) Try.func11 (by kernel_rfl) (rec := ref38_Store.calls) (fun g a h k hx => by
    cases hx) (loopf := ref38_Store.loops) (by
    have e : loopsOf (ref38_Store.loops) 0 (codeOf Try.f11) = [] := by kernel_rfl
    rw [e]
    intro p hp
    cases hp) ((ref38_Store.eq ns257 n258 n259 k).trans hx)
theorem ref38_Store.look (d : Nat) (hd : 1 ≤ d) {e : Option Bool} {g : FuncId} {a : List AV} {h : Heap} {k : KR} (hx : ref38_Store.get ref38_Store e g a h k = some true) : e = some true ∨ callK Try.prog ht d g a h k = some true := by
  unfold ref38_Store.get at hx
  split at hx
  · exact .inr (ref38_Store.ok d hd _ _ _ _ hx)
  · exact .inl hx
/-- function 13: (*sheerleg/memory.Memory).Grow -/
noncomputable def memory_Memory_Growv2.body (n276 : Int) (b277 : Bool) (ns278 : List Int) (k1 : Int → Bool → Bool → (List Int) → Option Bool) (k2 : Int → Bool → Bool → (List Int) → Option Bool) : Option Bool :=
  (cond_ (! (! b277)) (cond_ (! (decide (n276 < (1 : Int)))) (cond_ (decide (n276 > (IntKind.wrap .i64 ((4194304 : Int) - (((List.length ns278) : Nat) : Int))))) (k1 (0 : Int) false b277 ns278) (cond_ ((decide ((0 : Int) ≤ n276)) && (Nat.ble (((List.length ns278) + (Int.toNat n276)) * (8 : Nat)) (140737488355328 : Nat))) (k2 (((List.length ns278) : Nat) : Int) true b277 (ns278 ++ (List.replicate (Int.toNat n276) (0 : Int)))) none)) (k1 (0 : Int) false b277 ns278)) (k1 (0 : Int) false b277 ns278))
noncomputable def memory_Memory_Growv2 (n276 : Int) (b277 : Bool) (ns278 : List Int) (k1 : Int → Bool → Bool → (List Int) → Option Bool) (k2 : Int → Bool → Bool → (List Int) → Option Bool) : Option Bool := memory_Memory_Growv2.body n276 b277 ns278 k1 k2
noncomputable def memory_Memory_Growv2.get (F : Int → Bool → (List Int) → (Int → Bool → Bool → (List Int) → Option Bool) → (Int → Bool → Bool → (List Int) → Option Bool) → Option Bool) (e : Option Bool) (g : FuncId) (a : List AV) (h : Heap) (k : KR) : Option Bool := match g, a, h with
  | 13, [(.ptr [0, 0] 0 0), (.d ⟨(.int .i64), n276⟩)], [([0, 0], ⟨48, 2, (.mix [(.agg [(.ref [0, 1]), (.d ⟨.bool, b277⟩)])])⟩), ([0, 1], ⟨2, 1, (.data (.int .i64) ns278)⟩)] => F n276 b277 ns278 (fun y0 y1 y2 y3 => k (.tup [(.d ⟨(.int .i64), y0⟩), (.d ⟨.bool, y1⟩)]) [([0, 0], ⟨48, 2, (.mix [(.agg [(.ref [0, 1]), (.d ⟨.bool, y2⟩)])])⟩), ([0, 1], ⟨2, 1, (.data (.int .i64) y3)⟩)]) (fun y0 y1 y2 y3 => k (.tup [(.d ⟨(.int .i64), y0⟩), (.d ⟨.bool, y1⟩)]) [([0, 0], ⟨48, 2, (.mix [(.agg [(.ref [1, 0]), (.d ⟨.bool, y2⟩)])])⟩), ([1, 0], ⟨2, 1, (.data (.int .i64) y3)⟩)])
  | _, _, _ => e
noncomputable def memory_Memory_Growv2.calls : RecF := fun g a h k => none
noncomputable def memory_Memory_Growv2.loops : LoopF := fun b => none
set_option maxRecDepth 100000 in
theorem memory_Memory_Growv2.eq (n276 : Int) (b277 : Bool) (ns278 : List Int) (k : KR) : execL Try.prog ht 13 (callfOf (memory_Memory_Growv2.calls)) (memory_Memory_Growv2.loops) 0 (codeOf Try.f13) ⟨[(.ptr [0, 0] 0 0), (.d ⟨(.int .i64), n276⟩)] ++ List.replicate (Try.f13.ntmps - ([(.ptr [0, 0] 0 0), (.d ⟨(.int .i64), n276⟩)] : List AV).length) .undef, [([0, 0], ⟨48, 2, (.mix [(.agg [(.ref [0, 1]), (.d ⟨.bool, b277⟩)])])⟩), ([0, 1], ⟨2, 1, (.data (.int .i64) ns278)⟩)], 2⟩ (leave Try.prog Try.f13 k) = memory_Memory_Growv2.body n276 b277 ns278 (fun y0 y1 y2 y3 => k (.tup [(.d ⟨(.int .i64), y0⟩), (.d ⟨.bool, y1⟩)]) [([0, 0], ⟨48, 2, (.mix [(.agg [(.ref [0, 1]), (.d ⟨.bool, y2⟩)])])⟩), ([0, 1], ⟨2, 1, (.data (.int .i64) y3)⟩)]) (fun y0 y1 y2 y3 => k (.tup [(.d ⟨(.int .i64), y0⟩), (.d ⟨.bool, y1⟩)]) [([0, 0], ⟨48, 2, (.mix [(.agg [(.ref [1, 0]), (.d ⟨.bool, y2⟩)])])⟩), ([1, 0], ⟨2, 1, (.data (.int .i64) y3)⟩)]) := by kernel_rfl
theorem memory_Memory_Growv2.ok (d : Nat) (hd : 1 ≤ d) (n276 : Int) (b277 : Bool) (ns278 : List Int) (k : KR) (hx : memory_Memory_Growv2 n276 b277 ns278 (fun y0 y1 y2 y3 => k (.tup [(.d ⟨(.int .i64), y0⟩), (.d ⟨.bool, y1⟩)]) [([0, 0], ⟨48, 2, (.mix [(.agg [(.ref [0, 1]), (.d ⟨.bool, y2⟩)])])⟩), ([0, 1], ⟨2, 1, (.data (.int .i64) y3)⟩)]) (fun y0 y1 y2 y3 => k (.tup [(.d ⟨(.int .i64), y0⟩), (.d ⟨.bool, y1⟩)]) [([0, 0], ⟨48, 2, (.mix [(.agg [(.ref [1, 0]), (.d ⟨.bool, y2⟩)])])⟩), ([1, 0], ⟨2, 1, (.data (.int .i64) y3)⟩)]) = some true) : callK Try.prog ht d 13 [(.ptr [0, 0] 0 0), (.d ⟨(.int .i64), n276⟩)] [([0, 0], ⟨48, 2, (.mix [(.agg [(.ref [0, 1]), (.d ⟨.bool, b277⟩)])])⟩), ([0, 1], ⟨2, 1, (.data (.int .i64) ns278)⟩)] k = some true := by
  obtain ⟨d, rfl⟩ : ∃ e, d = e + 1 := ⟨d - 1, by omega⟩
  exact fn_ok (c := codeOf Try.f13) Try.func13 (by kernel_rfl) (rec := memory_Memory_Growv2.calls) (fun g a h k hx => by
    cases hx) (loopf := memory_Memory_Growv2.loops) (by
    have e : loopsOf (memory_Memory_Growv2.loops) 0 (codeOf Try.f13) = [] := by kernel_rfl
    rw [e]
    intro p hp
    cases hp) ((memory_Memory_Growv2.eq n276 b277 ns278 k).trans hx)
theorem memory_Memory_Growv2.look (d : Nat) (hd : 1 ≤ d) {e : Option Bool} {g : FuncId} {a : List AV} {h : Heap} {k : KR} (hx : memory_Memory_Growv2.get memory_Memory_Growv2 e g a h k = some true) : e = some true ∨ callK Try.prog ht d g a h k = some true := by
  unfold memory_Memory_Growv2.get at hx
  split at hx
  · exact .inr (memory_Memory_Growv2.ok d hd _ _ _ _ hx)
  · exact .inl hx
/-- function 14: the loop in block 0 -/
noncomputable def ref38_Grow_L0.body (ref38_Grow_L0 : (List Int) → Int → Int → (List Int) → ((List Int) → (List Int) → Option Bool) → Option Bool) (ns285 : List Int) (n286 : Int) (n287 : Int) (ns288 : List Int) (k1 : (List Int) → (List Int) → Option Bool) : Option Bool :=
  (cond_ (decide (n287 < n286)) (cond_ (Nat.ble (((List.length ns288) + (1 : Nat)) * (8 : Nat)) (140737488355328 : Nat)) (ref38_Grow_L0 ns285 n286 (IntKind.wrap .i64 (n287 + (1 : Int))) (ns288 ++ ((0 : Int) :: [])) k1) none) (k1 ns285 ns288))
noncomputable def ref38_Grow_L0 : Nat → (List Int) → Int → Int → (List Int) → ((List Int) → (List Int) → Option Bool) → Option Bool
  | 0 => fun _ _ _ _ _ => none
  | n + 1 => ref38_Grow_L0.body (ref38_Grow_L0 n)
noncomputable def ref38_Grow_L0.get (F : (List Int) → Int → Int → (List Int) → ((List Int) → (List Int) → Option Bool) → Option Bool) (e : Option Bool) (st : St) (k : KE) : Option Bool := match st with
  | ⟨sl, hp, m⟩ => match Nat.beq m 2, pickS 33 [0, 1, 7, 8] sl, hp with
    | true, some [(.bv 0 2 (.int .i64) ns285), (.d ⟨(.int .i64), n286⟩), (.ref [1, 0]), (.d ⟨(.int .i64), n287⟩)], [([1, 0], ⟨2, 1, (.data (.int .i64) ns288)⟩)] => F ns285 n286 n287 ns288 (fun y0 y1 => k (.exit 0) ⟨fillS 33 [0, 7] [(.bv 0 2 (.int .i64) y0), (.ref [1, 0])], [([1, 0], ⟨2, 1, (.data (.int .i64) y1)⟩)], 2⟩)
    | _, _, _ => e
noncomputable def ref38_Grow_L0.calls : RecF := fun g a h k => none
noncomputable def ref38_Grow_L0.loops : LoopF := fun b => none
set_option maxRecDepth 100000 in
theorem ref38_Grow_L0.step (S : (List Int) → Int → Int → (List Int) → ((List Int) → (List Int) → Option Bool) → Option Bool) (ns285 : List Int) (n286 : Int) (n287 : Int) (ns288 : List Int) (k : KE) : execL Try.prog ht 14 (callfOf (ref38_Grow_L0.calls)) (ref38_Grow_L0.loops) 0 (loopAt 0 (codeOf Try.f14)) ⟨fillS 33 [0, 1, 7, 8] [(.bv 0 2 (.int .i64) ns285), (.d ⟨(.int .i64), n286⟩), (.ref [1, 0]), (.d ⟨(.int .i64), n287⟩)], [([1, 0], ⟨2, 1, (.data (.int .i64) ns288)⟩)], 2⟩ (again (ref38_Grow_L0.get S none) (plan Try.prog (ht 14 0)) k) = ref38_Grow_L0.body S ns285 n286 n287 ns288 (fun y0 y1 => k (.exit 0) ⟨fillS 33 [0, 7] [(.bv 0 2 (.int .i64) y0), (.ref [1, 0])], [([1, 0], ⟨2, 1, (.data (.int .i64) y1)⟩)], 2⟩) := by kernel_rfl
theorem ref38_Grow_L0.ok (d : Nat) (hd : 0 ≤ d) : ∀ n st k, ref38_Grow_L0.get (ref38_Grow_L0 n) none st k = some true → iter n (plan Try.prog (ht 14 0)) (fun st k => execK Try.prog ht 14 (callfOf (callK Try.prog ht d)) 0 (loopAt 0 (codeOf Try.f14)) st k) st k = some true :=
  loop_ok (lfn := fun n st k => ref38_Grow_L0.get (ref38_Grow_L0 n) none st k) (rec := ref38_Grow_L0.calls) (fun g a h k hx => by
    cases hx) (loopf := ref38_Grow_L0.loops) (by
    have e : loopsOf (ref38_Grow_L0.loops) 0 (loopAt 0 (codeOf Try.f14)) = [] := by kernel_rfl
    rw [e]
    intro p hp
    cases hp) (fun st k h => by
    obtain ⟨sl, hp, m⟩ := st
    unfold ref38_Grow_L0.get at h
    dsimp only at h
    split at h
    · have h' : (none : Option Bool) = some true := h
      cases h'
    · cases h) (fun n st k h => by
    obtain ⟨sl, hp, m⟩ := st
    unfold ref38_Grow_L0.get at h
    dsimp only at h
    split at h
    · rename_i h1 h2
      obtain rfl := pickS_ok h2
      obtain rfl := Nat.eq_of_beq_eq_true h1
      exact (ref38_Grow_L0.step (ref38_Grow_L0 n) _ _ _ _ k).trans h
    · cases h)
theorem ref38_Grow_L0.look {F : (List Int) → Int → Int → (List Int) → ((List Int) → (List Int) → Option Bool) → Option Bool} {e : Option Bool} {st : St} {k : KE} (hx : ref38_Grow_L0.get F e st k = some true) : e = some true ∨ ref38_Grow_L0.get F none st k = some true := by
  obtain ⟨sl, hp, m⟩ := st
  unfold ref38_Grow_L0.get at hx ⊢
  dsimp only at hx ⊢
  split at hx
  · exact .inr hx
  · exact .inl hx
/-- function 14: sheerleg/sheerlegref38.Grow -/
noncomputable def ref38_Grow.body (ref38_Grow_L0 : (List Int) → Int → Int → (List Int) → ((List Int) → (List Int) → Option Bool) → Option Bool) (ns283 : List Int) (n284 : Int) (k1 : (List Int) → Int → Bool → Option Bool) (k2 : Int → Bool → (List Int) → Option Bool) : Option Bool :=
  (cond_ (! (decide (n284 < (1 : Int)))) (cond_ (decide (n284 > (IntKind.wrap .i64 ((4194304 : Int) - (((List.length ns283) : Nat) : Int))))) (k1 ns283 (0 : Int) false) (cond_ (Nat.ble ((List.length ns283) * (8 : Nat)) (140737488355328 : Nat)) (ref38_Grow_L0 ns283 n284 (0 : Int) ns283
  (fun ns289 ns290 => (k2 (((List.length ns289) : Nat) : Int) true ns290))) none)) (k1 ns283 (0 : Int) false))
noncomputable def ref38_Grow (ns283 : List Int) (n284 : Int) (k1 : (List Int) → Int → Bool → Option Bool) (k2 : Int → Bool → (List Int) → Option Bool) : Option Bool := ref38_Grow.body (ref38_Grow_L0 ROUNDS) ns283 n284 k1 k2
noncomputable def ref38_Grow.get (F : (List Int) → Int → ((List Int) → Int → Bool → Option Bool) → (Int → Bool → (List Int) → Option Bool) → Option Bool) (e : Option Bool) (g : FuncId) (a : List AV) (h : Heap) (k : KR) : Option Bool := match g, a, h with
  | 14, [(.bv 0 2 (.int .i64) ns283), (.d ⟨(.int .i64), n284⟩)], [] => F ns283 n284 (fun y0 y1 y2 => k (.tup [(.bv 0 2 (.int .i64) y0), (.d ⟨(.int .i64), y1⟩), (.d ⟨.bool, y2⟩)]) []) (fun y0 y1 y2 => k (.tup [(.ref [1, 0]), (.d ⟨(.int .i64), y0⟩), (.d ⟨.bool, y1⟩)]) [([1, 0], ⟨2, 1, (.data (.int .i64) y2)⟩)])
  | _, _, _ => e
noncomputable def ref38_Grow.calls : RecF := fun g a h k => none
noncomputable def ref38_Grow.loops (L0 : (List Int) → Int → Int → (List Int) → ((List Int) → (List Int) → Option Bool) → Option Bool) : LoopF := fun b => match Nat.beq b 0 with | true => some (fun st k => (ref38_Grow_L0.get L0 none st k)) | false => none
set_option maxRecDepth 100000 in
theorem ref38_Grow.eq (L0 : (List Int) → Int → Int → (List Int) → ((List Int) → (List Int) → Option Bool) → Option Bool) (ns283 : List Int) (n284 : Int) (k : KR) : execL Try.prog ht 14 (callfOf (ref38_Grow.calls)) (ref38_Grow.loops L0) 0 (codeOf Try.f14) ⟨[(.bv 0 2 (.int .i64) ns283), (.d ⟨(.int .i64), n284⟩)] ++ List.replicate (Try.f14.ntmps - ([(.bv 0 2 (.int .i64) ns283), (.d ⟨(.int .i64), n284⟩)] : List AV).length) .undef, [], 2⟩ (leave Try.prog Try.f14 k) = ref38_Grow.body L0 ns283 n284 (fun y0 y1 y2 => k (.tup [(.bv 0 2 (.int .i64) y0), (.d ⟨(.int .i64), y1⟩), (.d ⟨.bool, y2⟩)]) []) (fun y0 y1 y2 => k (.tup [(.ref [1, 0]), (.d ⟨(.int .i64), y0⟩), (.d ⟨.bool, y1⟩)]) [([1, 0], ⟨2, 1, (.data (.int .i64) y2)⟩)]) := by kernel_rfl
theorem ref38_Grow.ok (d : Nat) (hd : 1 ≤ d) (ns283 : List Int) (n284 : Int) (k : KR) (hx : ref38_Grow ns283 n284 (fun y0 y1 y2 => k (.tup [(.bv 0 2 (.int .i64) y0), (.d ⟨(.int .i64), y1⟩), (.d ⟨.bool, y2⟩)]) []) (fun y0 y1 y2 => k (.tup [(.ref [1, 0]), (.d ⟨(.int .i64), y0⟩), (.d ⟨.bool, y1⟩)]) [([1, 0], ⟨2, 1, (.data (.int .i64) y2)⟩)]) = some true) : callK Try.prog ht d 14 [(.bv 0 2 (.int .i64) ns283), (.d ⟨(.int .i64), n284⟩)] [] k = some true := by
  obtain ⟨d, rfl⟩ : ∃ e, d = e + 1 := ⟨d - 1, by omega⟩
  exact fn_ok (c := codeOf Try.f14) Try.func14 (by kernel_rfl) (rec := ref38_Grow.calls) (fun g a h k hx => by
    cases hx) (loopf := ref38_Grow.loops (ref38_Grow_L0 ROUNDS)) (by
    have e : loopsOf (ref38_Grow.loops (ref38_Grow_L0 ROUNDS)) 0 (codeOf Try.f14) = [(0, loopAt 0 (codeOf Try.f14))] := by kernel_rfl
    rw [e]
    intro p hp
    simp only [List.mem_cons, List.not_mem_nil, or_false] at hp
    rcases hp with rfl
    · refine loopRef_of (callf := callfOf (callK Try.prog ht d)) (callfOf_ref (callK_mono d)) fun lf st k hb hx => ?_
      cases hb
      rcases ref38_Grow_L0.look hx with hx | hx
      rotate_left
      · exact ref38_Grow_L0.ok d (by omega) _ _ _ hx
      cases hx) ((ref38_Grow.eq (ref38_Grow_L0 ROUNDS) ns283 n284 k).trans hx)
theorem ref38_Grow.look (d : Nat) (hd : 1 ≤ d) {e : Option Bool} {g : FuncId} {a : List AV} {h : Heap} {k : KR} (hx : ref38_Grow.get ref38_Grow e g a h k = some true) : e = some true ∨ callK Try.prog ht d g a h k = some true := by
  unfold ref38_Grow.get at hx
  split at hx
  · exact .inr (ref38_Grow.ok d hd _ _ _ hx)
  · exact .inl hx
/-- function 24: sheerleg/sheerlegref38.within -/
noncomputable def ref38_within.body (ns355 : List Int) (n356 : Int) (n357 : Int) (k1 : Bool → Option Bool) : Option Bool :=
  (cond_ (decide (n356 ≥ (0 : Int))) (cond_ (decide (n356 ≤ (((List.length ns355) : Nat) : Int))) (k1 (decide (n357 ≤ (IntKind.wrap .i64 ((((List.length ns355) : Nat) : Int) - n356))))) (k1 false)) (k1 false))
noncomputable def ref38_within (ns355 : List Int) (n356 : Int) (n357 : Int) (k1 : Bool → Option Bool) : Option Bool := ref38_within.body ns355 n356 n357 k1
noncomputable def ref38_within.get (F : (List Int) → Int → Int → (Bool → Option Bool) → Option Bool) (e : Option Bool) (g : FuncId) (a : List AV) (h : Heap) (k : KR) : Option Bool := match g, a, h with
  | 24, [(.bv 0 2 (.int .i64) ns355), (.d ⟨(.int .i64), n356⟩), (.d ⟨(.int .i64), n357⟩)], [] => F ns355 n356 n357 (fun y0 => k (.d ⟨.bool, y0⟩) [])
  | _, _, _ => e
noncomputable def ref38_within.calls : RecF := fun g a h k => none
noncomputable def ref38_within.loops : LoopF := fun b => none
set_option maxRecDepth 100000 in
theorem ref38_within.eq (ns355 : List Int) (n356 : Int) (n357 : Int) (k : KR) : execL Try.prog ht 24 (callfOf (ref38_within.calls)) (ref38_within.loops) 0 (codeOf Try.f24) ⟨[(.bv 0 2 (.int .i64) ns355), (.d ⟨(.int .i64), n356⟩), (.d ⟨(.int .i64), n357⟩)] ++ List.replicate (Try.f24.ntmps - ([(.bv 0 2 (.int .i64) ns355), (.d ⟨(.int .i64), n356⟩), (.d ⟨(.int .i64), n357⟩)] : List AV).length) .undef, [], 2⟩ (leave Try.prog Try.f24 k) = ref38_within.body ns355 n356 n357 (fun y0 => k (.d ⟨.bool, y0⟩) []) := by kernel_rfl
theorem ref38_within.ok (d : Nat) (hd : 1 ≤ d) (ns355 : List Int) (n356 : Int) (n357 : Int) (k : KR) (hx : ref38_within ns355 n356 n357 (fun y0 => k (.d ⟨.bool, y0⟩) []) = some true) : callK Try.prog ht d 24 [(.bv 0 2 (.int .i64) ns355), (.d ⟨(.int .i64), n356⟩), (.d ⟨(.int .i64), n357⟩)] [] k = some true := by
  obtain ⟨d, rfl⟩ : ∃ e, d = e + 1 := ⟨d - 1, by omega⟩
  exact fn_ok (c := codeOf Try.f24) Try.func24 (by kernel_rfl) (rec := ref38_within.calls) (fun g a h k hx => by
    cases hx) (loopf := ref38_within.loops) (by
    have e : loopsOf (ref38_within.loops) 0 (codeOf Try.f24) = [] := by kernel_rfl
    rw [e]
    intro p hp
    cases hp) ((ref38_within.eq ns355 n356 n357 k).trans hx)
theorem ref38_within.look (d : Nat) (hd : 1 ≤ d) {e : Option Bool} {g : FuncId} {a : List AV} {h : Heap} {k : KR} (hx : ref38_within.get ref38_within e g a h k = some true) : e = some true ∨ callK Try.prog ht d g a h k = some true := by
  unfold ref38_within.get at hx
  split at hx
  · exact .inr (ref38_within.ok d hd _ _ _ _ hx)
  · exact .inl hx
/-- function 15: the loop in block 0 -/
noncomputable def ref38_Copy_L0.body (ref38_Copy_L0 : (List Int) → Int → Int → Int → Int → (List Int) → ((List Int) → Option Bool) → Option Bool) (ns360 : List Int) (n361 : Int) (n362 : Int) (n363 : Int) (n364 : Int) (ns365 : List Int) (k1 : (List Int) → Option Bool) : Option Bool :=
  (cond_ (decide (n364 < n363)) (cond_ ((decide ((0 : Int) ≤ (IntKind.wrap .i64 (n362 + n364)))) && (decide ((IntKind.wrap .i64 (n362 + n364)) < (((List.length ns360) : Nat) : Int)))) (cond_ ((decide ((0 : Int) ≤ (IntKind.wrap .i64 (n361 + n364)))) && (decide ((IntKind.wrap .i64 (n361 + n364)) < (((List.length ns365) : Nat) : Int)))) (ref38_Copy_L0 ns360 n361 n362 n363 (IntKind.wrap .i64 (n364 + (1 : Int))) (List.set ns365 (Int.toNat (IntKind.wrap .i64 (n361 + n364))) (List.getD ns360 (Int.toNat (IntKind.wrap .i64 (n362 + n364))) (0 : Int))) k1) none) none) (k1 ns365))
noncomputable def ref38_Copy_L0 : Nat → (List Int) → Int → Int → Int → Int → (List Int) → ((List Int) → Option Bool) → Option Bool
  | 0 => fun _ _ _ _ _ _ _ => none
  | n + 1 => ref38_Copy_L0.body (ref38_Copy_L0 n)
noncomputable def ref38_Copy_L0.get (F : (List Int) → Int → Int → Int → Int → (List Int) → ((List Int) → Option Bool) → Option Bool) (e : Option Bool) (st : St) (k : KE) : Option Bool := match st with
  | ⟨sl, hp, m⟩ => match Nat.beq m 2, pickS 49 [0, 1, 2, 3, 10, 11] sl, hp with
    | true, some [(.bv 0 2 (.int .i64) ns360), (.d ⟨(.int .i64), n361⟩), (.d ⟨(.int .i64), n362⟩), (.d ⟨(.int .i64), n363⟩), (.ref [1, 0]), (.d ⟨(.int .i64), n364⟩)], [([1, 0], ⟨2, 1, (.data (.int .i64) ns365)⟩)] => F ns360 n361 n362 n363 n364 ns365 (fun y0 => k (.exit 0) ⟨fillS 49 [10] [(.ref [1, 0])], [([1, 0], ⟨2, 1, (.data (.int .i64) y0)⟩)], 2⟩)
    | _, _, _ => e
noncomputable def ref38_Copy_L0.calls : RecF := fun g a h k => none
noncomputable def ref38_Copy_L0.loops : LoopF := fun b => none
set_option maxRecDepth 100000 in
theorem ref38_Copy_L0.step (S : (List Int) → Int → Int → Int → Int → (List Int) → ((List Int) → Option Bool) → Option Bool) (ns360 : List Int) (n361 : Int) (n362 : Int) (n363 : Int) (n364 : Int) (ns365 : List Int) (k : KE) : execL Try.prog ht 15 (callfOf (ref38_Copy_L0.calls)) (ref38_Copy_L0.loops) 0 (loopAt 0 (codeOf Try.f15)) ⟨fillS 49 [0, 1, 2, 3, 10, 11] [(.bv 0 2 (.int .i64) ns360), (.d ⟨(.int .i64), n361⟩), (.d ⟨(.int .i64), n362⟩), (.d ⟨(.int .i64), n363⟩), (.ref [1, 0]), (.d ⟨(.int .i64), n364⟩)], [([1, 0], ⟨2, 1, (.data (.int .i64) ns365)⟩)], 2⟩ (again (ref38_Copy_L0.get S none) (plan Try.prog (ht 15 0)) k) = ref38_Copy_L0.body S ns360 n361 n362 n363 n364 ns365 (fun y0 => k (.exit 0) ⟨fillS 49 [10] [(.ref [1, 0])], [([1, 0], ⟨2, 1, (.data (.int .i64) y0)⟩)], 2⟩) := by kernel_rfl
theorem ref38_Copy_L0.ok (d : Nat) (hd : 0 ≤ d) : ∀ n st k, ref38_Copy_L0.get (ref38_Copy_L0 n) none st k = some true → iter n (plan Try.prog (ht 15 0)) (fun st k => execK Try.prog ht 15 (callfOf (callK Try.prog ht d)) 0 (loopAt 0 (codeOf Try.f15)) st k) st k = some true :=
  loop_ok (lfn := fun n st k => ref38_Copy_L0.get (ref38_Copy_L0 n) none st k) (rec := ref38_Copy_L0.calls) (fun g a h k hx => by
    cases hx) (loopf := ref38_Copy_L0.loops) (by
    have e : loopsOf (ref38_Copy_L0.loops) 0 (loopAt 0 (codeOf Try.f15)) = [] := by kernel_rfl
    rw [e]
    intro p hp
    cases hp) (fun st k h => by
    obtain ⟨sl, hp, m⟩ := st
    unfold ref38_Copy_L0.get at h
    dsimp only at h
    split at h
    · have h' : (none : Option Bool) = some true := h
      cases h'
    · cases h) (fun n st k h => by
    obtain ⟨sl, hp, m⟩ := st
    unfold ref38_Copy_L0.get at h
    dsimp only at h
    split at h
    · rename_i h1 h2
      obtain rfl := pickS_ok h2
      obtain rfl := Nat.eq_of_beq_eq_true h1
      exact (ref38_Copy_L0.step (ref38_Copy_L0 n) _ _ _ _ _ _ k).trans h
    · cases h)
theorem ref38_Copy_L0.look {F : (List Int) → Int → Int → Int → Int → (List Int) → ((List Int) → Option Bool) → Option Bool} {e : Option Bool} {st : St} {k : KE} (hx : ref38_Copy_L0.get F e st k = some true) : e = some true ∨ ref38_Copy_L0.get F none st k = some true := by
  obtain ⟨sl, hp, m⟩ := st
  unfold ref38_Copy_L0.get at hx ⊢
  dsimp only at hx ⊢
  split at hx
  · exact .inr hx
  · exact .inl hx
/-- function 15: sheerleg/sheerlegref38.Copy -/
noncomputable def ref38_Copy.body (ref38_within : (List Int) → Int → Int → (Bool → Option Bool) → Option Bool) (ref38_Copy_L0 : (List Int) → Int → Int → Int → Int → (List Int) → ((List Int) → Option Bool) → Option Bool) (ns351 : List Int) (n352 : Int) (n353 : Int) (n354 : Int) (k1 : (List Int) → Bool → Option Bool) (k2 : Bool → (List Int) → Option Bool) : Option Bool :=
  (cond_ (! (decide (n354 < (0 : Int)))) (ref38_within ns351 n352 n354
  (fun b358 => (cond_ (! (! b358)) (ref38_within ns351 n353 n354
  (fun b359 => (cond_ (! b359) (k1 ns351 false) (cond_ (Nat.ble ((List.length ns351) * (8 : Nat)) (140737488355328 : Nat)) (ref38_Copy_L0 ns351 n352 n353 n354 (0 : Int) ns351
  (fun ns366 => (k2 true ns366))) none)))) (k1 ns351 false)))) (k1 ns351 false))
noncomputable def ref38_Copy (ns351 : List Int) (n352 : Int) (n353 : Int) (n354 : Int) (k1 : (List Int) → Bool → Option Bool) (k2 : Bool → (List Int) → Option Bool) : Option Bool := ref38_Copy.body ref38_within (ref38_Copy_L0 ROUNDS) ns351 n352 n353 n354 k1 k2
noncomputable def ref38_Copy.get (F : (List Int) → Int → Int → Int → ((List Int) → Bool → Option Bool) → (Bool → (List Int) → Option Bool) → Option Bool) (e : Option Bool) (g : FuncId) (a : List AV) (h : Heap) (k : KR) : Option Bool := match g, a, h with
  | 15, [(.bv 0 2 (.int .i64) ns351), (.d ⟨(.int .i64), n352⟩), (.d ⟨(.int .i64), n353⟩), (.d ⟨(.int .i64), n354⟩)], [] => F ns351 n352 n353 n354 (fun y0 y1 => k (.tup [(.bv 0 2 (.int .i64) y0), (.d ⟨.bool, y1⟩)]) []) (fun y0 y1 => k (.tup [(.ref [1, 0]), (.d ⟨.bool, y0⟩)]) [([1, 0], ⟨2, 1, (.data (.int .i64) y1)⟩)])
  | _, _, _ => e
noncomputable def ref38_Copy.calls (F0 : (List Int) → Int → Int → (Bool → Option Bool) → Option Bool) : RecF := fun g a h k => (ref38_within.get F0 none g a h k)
noncomputable def ref38_Copy.loops (L0 : (List Int) → Int → Int → Int → Int → (List Int) → ((List Int) → Option Bool) → Option Bool) : LoopF := fun b => match Nat.beq b 0 with | true => some (fun st k => (ref38_Copy_L0.get L0 none st k)) | false => none
set_option maxRecDepth 100000 in
theorem ref38_Copy.eq (F0 : (List Int) → Int → Int → (Bool → Option Bool) → Option Bool) (L0 : (List Int) → Int → Int → Int → Int → (List Int) → ((List Int) → Option Bool) → Option Bool) (ns351 : List Int) (n352 : Int) (n353 : Int) (n354 : Int) (k : KR) : execL Try.prog ht 15 (callfOf (ref38_Copy.calls F0)) (ref38_Copy.loops L0) 0 (codeOf Try.f15) ⟨[(.bv 0 2 (.int .i64) ns351), (.d ⟨(.int .i64), n352⟩), (.d ⟨(.int .i64), n353⟩), (.d ⟨(.int .i64), n354⟩)] ++ List.replicate (Try.f15.ntmps - ([(.bv 0 2 (.int .i64) ns351), (.d ⟨(.int .i64), n352⟩), (.d ⟨(.int .i64), n353⟩), (.d ⟨(.int .i64), n354⟩)] : List AV).length) .undef, [], 2⟩ (leave Try.prog Try.f15 k) = ref38_Copy.body F0 L0 ns351 n352 n353 n354 (fun y0 y1 => k (.tup [(.bv 0 2 (.int .i64) y0), (.d ⟨.bool, y1⟩)]) []) (fun y0 y1 => k (.tup [(.ref [1, 0]), (.d ⟨.bool, y0⟩)]) [([1, 0], ⟨2, 1, (.data (.int .i64) y1)⟩)]) := by kernel_rfl
theorem ref38_Copy.ok (d : Nat) (hd : 2 ≤ d) (ns351 : List Int) (n352 : Int) (n353 : Int) (n354 : Int) (k : KR) (hx : ref38_Copy ns351 n352 n353 n354 (fun y0 y1 => k (.tup [(.bv 0 2 (.int .i64) y0), (.d ⟨.bool, y1⟩)]) []) (fun y0 y1 => k (.tup [(.ref [1, 0]), (.d ⟨.bool, y0⟩)]) [([1, 0], ⟨2, 1, (.data (.int .i64) y1)⟩)]) = some true) : callK Try.prog ht d 15 [(.bv 0 2 (.int .i64) ns351), (.d ⟨(.int .i64), n352⟩), (.d ⟨(.int .i64), n353⟩), (.d ⟨(.int .i64), n354⟩)] [] k = some true := by
  obtain ⟨d, rfl⟩ : ∃ e, d = e + 1 := ⟨d - 1, by omega⟩
  exact fn_ok (c := codeOf Try.f15) Try.func15 (by kernel_rfl) (rec := ref38_Copy.calls ref38_within) (fun g a h k hx => by
    rcases ref38_within.look d (by omega) hx with hx | hx
    rotate_left
    · exact hx
    cases hx) (loopf := ref38_Copy.loops (ref38_Copy_L0 ROUNDS)) (by
    have e : loopsOf (ref38_Copy.loops (ref38_Copy_L0 ROUNDS)) 0 (codeOf Try.f15) = [(0, loopAt 0 (codeOf Try.f15))] := by kernel_rfl
    rw [e]
    intro p hp
    simp only [List.mem_cons, List.not_mem_nil, or_false] at hp
    rcases hp with rfl
    · refine loopRef_of (callf := callfOf (callK Try.prog ht d)) (callfOf_ref (callK_mono d)) fun lf st k hb hx => ?_
      cases hb
      rcases ref38_Copy_L0.look hx with hx | hx
      rotate_left
      · exact ref38_Copy_L0.ok d (by omega) _ _ _ hx
      cases hx) ((ref38_Copy.eq ref38_within (ref38_Copy_L0 ROUNDS) ns351 n352 n353 n354 k).trans hx)
theorem ref38_Copy.look (d : Nat) (hd : 2 ≤ d) {e : Option Bool} {g : FuncId} {a : List AV} {h : Heap} {k : KR} (hx : ref38_Copy.get ref38_Copy e g a h k = some true) : e = some true ∨ callK Try.prog ht d g a h k = some true := by
  unfold ref38_Copy.get at hx
  split at hx
  · exact .inr (ref38_Copy.ok d hd _ _ _ _ _ hx)
  · exact .inl hx
/-- function 18: sheerleg/sheerlegref38.Item -/
noncomputable def ref38_Item.body (ref38_Load : (List Int) → Int → (Int → Bool → Option Bool) → Option Bool) (ns387 : List Int) (n388 : Int) (n389 : Int) (k1 : Int → Int → Option Bool) : Option Bool :=
  (ref38_Load ns387 n388
  (fun n390 b391 => (cond_ (! b391) (k1 (0 : Int) (2 : Int)) (cond_ (! (decide (n389 < (0 : Int)))) (cond_ (decide (n389 ≥ n390)) (k1 (0 : Int) (1 : Int)) (cond_ (decide (n389 ≥ (IntKind.wrap .i64 ((IntKind.wrap .i64 ((((List.length ns387) : Nat) : Int) - n388)) - (1 : Int))))) (k1 (0 : Int) (2 : Int)) (k1 (IntKind.wrap .i64 ((IntKind.wrap .i64 (n388 + (1 : Int))) + n389)) (0 : Int)))) (k1 (0 : Int) (1 : Int))))))
noncomputable def ref38_Item (ns387 : List Int) (n388 : Int) (n389 : Int) (k1 : Int → Int → Option Bool) : Option Bool := ref38_Item.body ref38_Load ns387 n388 n389 k1
noncomputable def ref38_Item.get (F : (List Int) → Int → Int → (Int → Int → Option Bool) → Option Bool) (e : Option Bool) (g : FuncId) (a : List AV) (h : Heap) (k : KR) : Option Bool := match g, a, h with
  | 18, [(.bv 0 2 (.int .i64) ns387), (.d ⟨(.int .i64), n388⟩), (.d ⟨(.int .i64), n389⟩)], [] => F ns387 n388 n389 (fun y0 y1 => k (.tup [(.d ⟨(.int .i64), y0⟩), (.d ⟨(.int .i64), y1⟩)]) [])
  | _, _, _ => e
noncomputable def ref38_Item.calls (F0 : (List Int) → Int → (Int → Bool → Option Bool) → Option Bool) : RecF := fun g a h k => (ref38_Load.get F0 none g a h k)
noncomputable def ref38_Item.loops : LoopF := fun b => none
set_option maxRecDepth 100000 in
theorem ref38_Item.eq (F0 : (List Int) → Int → (Int → Bool → Option Bool) → Option Bool) (ns387 : List Int) (n388 : Int) (n389 : Int) (k : KR) : execL Try.prog ht 18 (callfOf (ref38_Item.calls F0)) (ref38_Item.loops) 0 (codeOf Try.f18) ⟨[(.bv 0 2 (.int .i64) ns387), (.d ⟨(.int .i64), n388⟩), (.d ⟨(.int .i64), n389⟩)] ++ List.replicate (Try.f18.ntmps - ([(.bv 0 2 (.int .i64) ns387), (.d ⟨(.int .i64), n388⟩), (.d ⟨(.int .i64), n389⟩)] : List AV).length) .undef, [], 2⟩ (leave Try.prog Try.f18 k) = ref38_Item.body F0 ns387 n388 n389 (fun y0 y1 => k (.tup [(.d ⟨(.int .i64), y0⟩), (.d ⟨(.int .i64), y1⟩)]) []) := by kernel_rfl
theorem ref38_Item.ok (d : Nat) (hd : 2 ≤ d) (ns387 : List Int) (n388 : Int) (n389 : Int) (k : KR) (hx : ref38_Item ns387 n388 n389 (fun y0 y1 => k (.tup [(.d ⟨(.int .i64), y0⟩), (.d ⟨(.int .i64), y1⟩)]) []) = some true) : callK Try.prog ht d 18 [(.bv 0 2 (.int .i64) ns387), (.d ⟨(.int .i64), n388⟩), (.d ⟨(.int .i64), n389⟩)] [] k = some true := by
  obtain ⟨d, rfl⟩ : ∃ e, d = e + 1 := ⟨d - 1, by omega⟩
  exact fn_ok (c := codeOf Try.f18) Try.func18 (by kernel_rfl) (rec := ref38_Item.calls ref38_Load) (fun g a h k hx => by
    rcases ref38_Load.look d (by omega) hx with hx | hx
    rotate_left
    · exact hx
    cases hx) (loopf := ref38_Item.loops) (by
    have e : loopsOf (ref38_Item.loops) 0 (codeOf Try.f18) = [] := by kernel_rfl
    rw [e]
    intro p hp
    cases hp) ((ref38_Item.eq ref38_Load ns387 n388 n389 k).trans hx)
theorem ref38_Item.look (d : Nat) (hd : 2 ≤ d) {e : Option Bool} {g : FuncId} {a : List AV} {h : Heap} {k : KR} (hx : ref38_Item.get ref38_Item e g a h k = some true) : e = some true ∨ callK Try.prog ht d g a h k = some true := by
  unfold ref38_Item.get at hx
  split at hx
  · exact .inr (ref38_Item.ok d hd _ _ _ _ hx)
  · exact .inl hx
/-- function 3: the loop in block 0 -/
noncomputable def law38_MemoryPlays_L0.body (law38_MemoryPlays_L0 : (List (Int × Int × Int × Int × Int × Unit)) → (List Int) → Int → Bool → (List Int) → (Bool → Option Bool) → ((List Int) → Bool → (List Int) → Option Bool) → Option Bool) (memory_Memory_Loadv2 : Int → Bool → (List Int) → (Int → Bool → Bool → (List Int) → Option Bool) → Option Bool) (ref38_Load : (List Int) → Int → (Int → Bool → Option Bool) → Option Bool) (memory_Memory_Sizev2 : Bool → (List Int) → (Int → Bool → (List Int) → Option Bool) → Option Bool) (ref38_Store : (List Int) → Int → Int → ((List Int) → Bool → Option Bool) → (Bool → (List Int) → Option Bool) → Option Bool) (memory_Memory_Storev2 : Int → Int → Bool → (List Int) → (Bool → Bool → (List Int) → Option Bool) → Option Bool) (memory_Memory_Growv2 : Int → Bool → (List Int) → (Int → Bool → Bool → (List Int) → Option Bool) → (Int → Bool → Bool → (List Int) → Option Bool) → Option Bool) (ref38_Grow : (List Int) → Int → ((List Int) → Int → Bool → Option Bool) → (Int → Bool → (List Int) → Option Bool) → Option Bool) (ref38_Copy : (List Int) → Int → Int → Int → ((List Int) → Bool → Option Bool) → (Bool → (List Int) → Option Bool) → Option Bool) (memory_Memory_Copyv2 : Int → Int → Int → Bool → (List Int) → (Bool → Bool → (List Int) → Option Bool) → Option Bool) (memory_Memory_Itemv2 : Int → Int → Bool → (List Int) → (Int → Int → Bool → (List Int) → Option Bool) → Option Bool) (ref38_Item : (List Int) → Int → Int → (Int → Int → Option Bool) → Option Bool) (ts241 : List (Int × Int × Int × Int × Int × Unit)) (ns242 : List Int) (n243 : Int) (b244 : Bool) (ns245 : List Int) (k1 : Bool → Option Bool) (k2 : (List Int) → Bool → (List Int) → Option Bool) : Option Bool :=
  (cond_ (decide (n243 < (((List.length ts241) : Nat) : Int))) (cond_ ((decide ((0 : Int) ≤ n243)) && (decide (n243 < (((List.length ts241) : Nat) : Int)))) (cond_ ((List.getD ts241 (Int.toNat n243) ((0 : Int), ((0 : Int), ((0 : Int), ((0 : Int), ((0 : Int), ())))))).1 == (0 : Int)) (memory_Memory_Loadv2 (List.getD ts241 (Int.toNat n243) ((0 : Int), ((0 : Int), ((0 : Int), ((0 : Int), ((0 : Int), ())))))).2.1 b244 ns245
  (fun n246 b247 b248 ns249 => (ref38_Load ns242 (List.getD ts241 (Int.toNat n243) ((0 : Int), ((0 : Int), ((0 : Int), ((0 : Int), ((0 : Int), ())))))).2.1
  (fun n252 b253 => (cond_ (n246 == n252) (cond_ (! (! (b247 == b253))) (memory_Memory_Sizev2 b248 ns249
  (fun n254 b255 ns256 => (cond_ (n254 != (((List.length ns242) : Nat) : Int)) (k1 false) (law38_MemoryPlays_L0 ts241 ns242 (IntKind.wrap .i64 (n243 + (1 : Int))) b255 ns256 k1 k2)))) (k1 false)) (k1 false)))))) (cond_ ((List.getD ts241 (Int.toNat n243) ((0 : Int), ((0 : Int), ((0 : Int), ((0 : Int), ((0 : Int), ())))))).1 == (1 : Int)) (ref38_Store ns242 (List.getD ts241 (Int.toNat n243) ((0 : Int), ((0 : Int), ((0 : Int), ((0 : Int), ((0 : Int), ())))))).2.1 (List.getD ts241 (Int.toNat n243) ((0 : Int), ((0 : Int), ((0 : Int), ((0 : Int), ((0 : Int), ())))))).2.2.2.2.1
  (fun ns260 b261 => (memory_Memory_Storev2 (List.getD ts241 (Int.toNat n243) ((0 : Int), ((0 : Int), ((0 : Int), ((0 : Int), ((0 : Int), ())))))).2.1 (List.getD ts241 (Int.toNat n243) ((0 : Int), ((0 : Int), ((0 : Int), ((0 : Int), ((0 : Int), ())))))).2.2.2.2.1 b244 ns245
  (fun b262 b263 ns264 => (cond_ (! (! (b262 == b261))) (memory_Memory_Sizev2 b263 ns264
  (fun n265 b266 ns267 => (cond_ (n265 != (((List.length ns260) : Nat) : Int)) (k1 false) (law38_MemoryPlays_L0 ts241 ns260 (IntKind.wrap .i64 (n243 + (1 : Int))) b266 ns267 k1 k2)))) (k1 false)))))
  (fun b268 ns269 => (memory_Memory_Storev2 (List.getD ts241 (Int.toNat n243) ((0 : Int), ((0 : Int), ((0 : Int), ((0 : Int), ((0 : Int), ())))))).2.1 (List.getD ts241 (Int.toNat n243) ((0 : Int), ((0 : Int), ((0 : Int), ((0 : Int), ((0 : Int), ())))))).2.2.2.2.1 b244 ns245
  (fun b270 b271 ns272 => (cond_ (! (! (b270 == b268))) (memory_Memory_Sizev2 b271 ns272
  (fun n273 b274 ns275 => (cond_ (n273 != (((List.length ns269) : Nat) : Int)) (k1 false) (law38_MemoryPlays_L0 ts241 ns269 (IntKind.wrap .i64 (n243 + (1 : Int))) b274 ns275 k1 k2)))) (k1 false)))))) (cond_ ((List.getD ts241 (Int.toNat n243) ((0 : Int), ((0 : Int), ((0 : Int), ((0 : Int), ((0 : Int), ())))))).1 == (2 : Int)) (cond_ (decide ((List.getD ts241 (Int.toNat n243) ((0 : Int), ((0 : Int), ((0 : Int), ((0 : Int), ((0 : Int), ())))))).2.1 > (300 : Int))) (cond_ (decide ((List.getD ts241 (Int.toNat n243) ((0 : Int), ((0 : Int), ((0 : Int), ((0 : Int), ((0 : Int), ())))))).2.1 ≤ (4194304 : Int))) (law38_MemoryPlays_L0 ts241 ns242 (IntKind.wrap .i64 (n243 + (1 : Int))) b244 ns245 k1 k2) (memory_Memory_Growv2 (List.getD ts241 (Int.toNat n243) ((0 : Int), ((0 : Int), ((0 : Int), ((0 : Int), ((0 : Int), ())))))).2.1 b244 ns245
  (fun n279 b280 b281 ns282 => (ref38_Grow ns242 (List.getD ts241 (Int.toNat n243) ((0 : Int), ((0 : Int), ((0 : Int), ((0 : Int), ((0 : Int), ())))))).2.1
  (fun ns291 n292 b293 => (cond_ (n279 == n292) (cond_ (! (! (b280 == b293))) (memory_Memory_Sizev2 b281 ns282
  (fun n294 b295 ns296 => (cond_ (n294 != (((List.length ns291) : Nat) : Int)) (k1 false) (law38_MemoryPlays_L0 ts241 ns291 (IntKind.wrap .i64 (n243 + (1 : Int))) b295 ns296 k1 k2)))) (k1 false)) (k1 false)))
  (fun n297 b298 ns299 => (cond_ (n279 == n297) (cond_ (! (! (b280 == b298))) (memory_Memory_Sizev2 b281 ns282
  (fun n300 b301 ns302 => (cond_ (n300 != (((List.length ns299) : Nat) : Int)) (k1 false) (law38_MemoryPlays_L0 ts241 ns299 (IntKind.wrap .i64 (n243 + (1 : Int))) b301 ns302 k1 k2)))) (k1 false)) (k1 false)))))
  (fun n303 b304 b305 ns306 => (ref38_Grow ns242 (List.getD ts241 (Int.toNat n243) ((0 : Int), ((0 : Int), ((0 : Int), ((0 : Int), ((0 : Int), ())))))).2.1
  (fun ns307 n308 b309 => (cond_ (n303 == n308) (cond_ (! (! (b304 == b309))) (memory_Memory_Sizev2 b305 ns306
  (fun n310 b311 ns312 => (cond_ (n310 != (((List.length ns307) : Nat) : Int)) (k1 false) (law38_MemoryPlays_L0 ts241 ns307 (IntKind.wrap .i64 (n243 + (1 : Int))) b311 ns312 k1 k2)))) (k1 false)) (k1 false)))
  (fun n313 b314 ns315 => (cond_ (n303 == n313) (cond_ (! (! (b304 == b314))) (memory_Memory_Sizev2 b305 ns306
  (fun n316 b317 ns318 => (cond_ (n316 != (((List.length ns315) : Nat) : Int)) (k1 false) (law38_MemoryPlays_L0 ts241 ns315 (IntKind.wrap .i64 (n243 + (1 : Int))) b317 ns318 k1 k2)))) (k1 false)) (k1 false))))))) (memory_Memory_Growv2 (List.getD ts241 (Int.toNat n243) ((0 : Int), ((0 : Int), ((0 : Int), ((0 : Int), ((0 : Int), ())))))).2.1 b244 ns245
  (fun n319 b320 b321 ns322 => (ref38_Grow ns242 (List.getD ts241 (Int.toNat n243) ((0 : Int), ((0 : Int), ((0 : Int), ((0 : Int), ((0 : Int), ())))))).2.1
  (fun ns323 n324 b325 => (cond_ (n319 == n324) (cond_ (! (! (b320 == b325))) (memory_Memory_Sizev2 b321 ns322
  (fun n326 b327 ns328 => (cond_ (n326 != (((List.length ns323) : Nat) : Int)) (k1 false) (law38_MemoryPlays_L0 ts241 ns323 (IntKind.wrap .i64 (n243 + (1 : Int))) b327 ns328 k1 k2)))) (k1 false)) (k1 false)))
  (fun n329 b330 ns331 => (cond_ (n319 == n329) (cond_ (! (! (b320 == b330))) (memory_Memory_Sizev2 b321 ns322
  (fun n332 b333 ns334 => (cond_ (n332 != (((List.length ns331) : Nat) : Int)) (k1 false) (law38_MemoryPlays_L0 ts241 ns331 (IntKind.wrap .i64 (n243 + (1 : Int))) b333 ns334 k1 k2)))) (k1 false)) (k1 false)))))
  (fun n335 b336 b337 ns338 => (ref38_Grow ns242 (List.getD ts241 (Int.toNat n243) ((0 : Int), ((0 : Int), ((0 : Int), ((0 : Int), ((0 : Int), ())))))).2.1
  (fun ns339 n340 b341 => (cond_ (n335 == n340) (cond_ (! (! (b336 == b341))) (memory_Memory_Sizev2 b337 ns338
  (fun n342 b343 ns344 => (cond_ (n342 != (((List.length ns339) : Nat) : Int)) (k1 false) (law38_MemoryPlays_L0 ts241 ns339 (IntKind.wrap .i64 (n243 + (1 : Int))) b343 ns344 k1 k2)))) (k1 false)) (k1 false)))
  (fun n345 b346 ns347 => (cond_ (n335 == n345) (cond_ (! (! (b336 == b346))) (memory_Memory_Sizev2 b337 ns338
  (fun n348 b349 ns350 => (cond_ (n348 != (((List.length ns347) : Nat) : Int)) (k1 false) (law38_MemoryPlays_L0 ts241 ns347 (IntKind.wrap .i64 (n243 + (1 : Int))) b349 ns350 k1 k2)))) (k1 false)) (k1 false))))))) (cond_ ((List.getD ts241 (Int.toNat n243) ((0 : Int), ((0 : Int), ((0 : Int), ((0 : Int), ((0 : Int), ())))))).1 == (3 : Int)) (ref38_Copy ns242 (List.getD ts241 (Int.toNat n243) ((0 : Int), ((0 : Int), ((0 : Int), ((0 : Int), ((0 : Int), ())))))).2.1 (List.getD ts241 (Int.toNat n243) ((0 : Int), ((0 : Int), ((0 : Int), ((0 : Int), ((0 : Int), ())))))).2.2.1 (List.getD ts241 (Int.toNat n243) ((0 : Int), ((0 : Int), ((0 : Int), ((0 : Int), ((0 : Int), ())))))).2.2.2.1
  (fun ns367 b368 => (memory_Memory_Copyv2 (List.getD ts241 (Int.toNat n243) ((0 : Int), ((0 : Int), ((0 : Int), ((0 : Int), ((0 : Int), ())))))).2.1 (List.getD ts241 (Int.toNat n243) ((0 : Int), ((0 : Int), ((0 : Int), ((0 : Int), ((0 : Int), ())))))).2.2.1 (List.getD ts241 (Int.toNat n243) ((0 : Int), ((0 : Int), ((0 : Int), ((0 : Int), ((0 : Int), ())))))).2.2.2.1 b244 ns245
  (fun b369 b370 ns371 => (cond_ (! (! (b369 == b368))) (memory_Memory_Sizev2 b370 ns371
  (fun n372 b373 ns374 => (cond_ (n372 != (((List.length ns367) : Nat) : Int)) (k1 false) (law38_MemoryPlays_L0 ts241 ns367 (IntKind.wrap .i64 (n243 + (1 : Int))) b373 ns374 k1 k2)))) (k1 false)))))
  (fun b375 ns376 => (memory_Memory_Copyv2 (List.getD ts241 (Int.toNat n243) ((0 : Int), ((0 : Int), ((0 : Int), ((0 : Int), ((0 : Int), ())))))).2.1 (List.getD ts241 (Int.toNat n243) ((0 : Int), ((0 : Int), ((0 : Int), ((0 : Int), ((0 : Int), ())))))).2.2.1 (List.getD ts241 (Int.toNat n243) ((0 : Int), ((0 : Int), ((0 : Int), ((0 : Int), ((0 : Int), ())))))).2.2.2.1 b244 ns245
  (fun b377 b378 ns379 => (cond_ (! (! (b377 == b375))) (memory_Memory_Sizev2 b378 ns379
  (fun n380 b381 ns382 => (cond_ (n380 != (((List.length ns376) : Nat) : Int)) (k1 false) (law38_MemoryPlays_L0 ts241 ns376 (IntKind.wrap .i64 (n243 + (1 : Int))) b381 ns382 k1 k2)))) (k1 false)))))) (memory_Memory_Itemv2 (List.getD ts241 (Int.toNat n243) ((0 : Int), ((0 : Int), ((0 : Int), ((0 : Int), ((0 : Int), ())))))).2.1 (List.getD ts241 (Int.toNat n243) ((0 : Int), ((0 : Int), ((0 : Int), ((0 : Int), ((0 : Int), ())))))).2.2.2.2.1 b244 ns245
  (fun n383 n384 b385 ns386 => (ref38_Item ns242 (List.getD ts241 (Int.toNat n243) ((0 : Int), ((0 : Int), ((0 : Int), ((0 : Int), ((0 : Int), ())))))).2.1 (List.getD ts241 (Int.toNat n243) ((0 : Int), ((0 : Int), ((0 : Int), ((0 : Int), ((0 : Int), ())))))).2.2.2.2.1
  (fun n392 n393 => (cond_ (n383 == n392) (cond_ (! (! (n384 == n393))) (memory_Memory_Sizev2 b385 ns386
  (fun n394 b395 ns396 => (cond_ (n394 != (((List.length ns242) : Nat) : Int)) (k1 false) (law38_MemoryPlays_L0 ts241 ns242 (IntKind.wrap .i64 (n243 + (1 : Int))) b395 ns396 k1 k2)))) (k1 false)) (k1 false)))))))))) none) (k2 ns242 b244 ns245))
noncomputable def law38_MemoryPlays_L0 : Nat → (List (Int × Int × Int × Int × Int × Unit)) → (List Int) → Int → Bool → (List Int) → (Bool → Option Bool) → ((List Int) → Bool → (List Int) → Option Bool) → Option Bool
  | 0 => fun _ _ _ _ _ _ _ => none
  | n + 1 => law38_MemoryPlays_L0.body (law38_MemoryPlays_L0 n) memory_Memory_Loadv2 ref38_Load memory_Memory_Sizev2 ref38_Store memory_Memory_Storev2 memory_Memory_Growv2 ref38_Grow ref38_Copy memory_Memory_Copyv2 memory_Memory_Itemv2 ref38_Item
noncomputable def law38_MemoryPlays_L0.get (F : (List (Int × Int × Int × Int × Int × Unit)) → (List Int) → Int → Bool → (List Int) → (Bool → Option Bool) → ((List Int) → Bool → (List Int) → Option Bool) → Option Bool) (e : Option Bool) (st : St) (k : KE) : Option Bool := match st with
  | ⟨sl, hp, m⟩ => match Nat.beq m 2, pickS 222 [1, 5, 6, 7] sl, hp with
    | true, some [(.bv 0 28 (.st [(.int .i64), (.int .i64), (.int .i64), (.int .i64), (.int .i64)]) ts241), (.ptr [1, 0] 0 0), (.bv 0 2 (.int .i64) ns242), (.d ⟨(.int .i64), n243⟩)], [([1, 0], ⟨48, 2, (.mix [(.agg [(.ref [1, 1]), (.d ⟨.bool, b244⟩)])])⟩), ([1, 1], ⟨2, 1, (.data (.int .i64) ns245)⟩)] => F ts241 ns242 n243 b244 ns245 (fun y0 => k .ret ⟨fillS 222 [4] [(.d ⟨.bool, y0⟩)], [], 2⟩) (fun y0 y1 y2 => k (.exit 0) ⟨fillS 222 [5, 6] [(.ptr [1, 0] 0 0), (.bv 0 2 (.int .i64) y0)], [([1, 0], ⟨48, 2, (.mix [(.agg [(.ref [1, 1]), (.d ⟨.bool, y1⟩)])])⟩), ([1, 1], ⟨2, 1, (.data (.int .i64) y2)⟩)], 2⟩)
    | _, _, _ => e
noncomputable def law38_MemoryPlays_L0.calls (F0 : Int → Bool → (List Int) → (Int → Bool → Bool → (List Int) → Option Bool) → Option Bool) (F1 : (List Int) → Int → (Int → Bool → Option Bool) → Option Bool) (F2 : Bool → (List Int) → (Int → Bool → (List Int) → Option Bool) → Option Bool) (F3 : (List Int) → Int → Int → ((List Int) → Bool → Option Bool) → (Bool → (List Int) → Option Bool) → Option Bool) (F4 : Int → Int → Bool → (List Int) → (Bool → Bool → (List Int) → Option Bool) → Option Bool) (F5 : Int → Bool → (List Int) → (Int → Bool → Bool → (List Int) → Option Bool) → (Int → Bool → Bool → (List Int) → Option Bool) → Option Bool) (F6 : (List Int) → Int → ((List Int) → Int → Bool → Option Bool) → (Int → Bool → (List Int) → Option Bool) → Option Bool) (F7 : (List Int) → Int → Int → Int → ((List Int) → Bool → Option Bool) → (Bool → (List Int) → Option Bool) → Option Bool) (F8 : Int → Int → Int → Bool → (List Int) → (Bool → Bool → (List Int) → Option Bool) → Option Bool) (F9 : Int → Int → Bool → (List Int) → (Int → Int → Bool → (List Int) → Option Bool) → Option Bool) (F10 : (List Int) → Int → Int → (Int → Int → Option Bool) → Option Bool) : RecF := fun g a h k => (memory_Memory_Loadv2.get F0 (ref38_Load.get F1 (memory_Memory_Sizev2.get F2 (ref38_Store.get F3 (memory_Memory_Storev2.get F4 (memory_Memory_Growv2.get F5 (ref38_Grow.get F6 (ref38_Copy.get F7 (memory_Memory_Copyv2.get F8 (memory_Memory_Itemv2.get F9 (ref38_Item.get F10 none g a h k) g a h k) g a h k) g a h k) g a h k) g a h k) g a h k) g a h k) g a h k) g a h k) g a h k)
noncomputable def law38_MemoryPlays_L0.loops : LoopF := fun b => none
set_option maxRecDepth 100000 in
theorem law38_MemoryPlays_L0.step (S : (List (Int × Int × Int × Int × Int × Unit)) → (List Int) → Int → Bool → (List Int) → (Bool → Option Bool) → ((List Int) → Bool → (List Int) → Option Bool) → Option Bool) (F0 : Int → Bool → (List Int) → (Int → Bool → Bool → (List Int) → Option Bool) → Option Bool) (F1 : (List Int) → Int → (Int → Bool → Option Bool) → Option Bool) (F2 : Bool → (List Int) → (Int → Bool → (List Int) → Option Bool) → Option Bool) (F3 : (List Int) → Int → Int → ((List Int) → Bool → Option Bool) → (Bool → (List Int) → Option Bool) → Option Bool) (F4 : Int → Int → Bool → (List Int) → (Bool → Bool → (List Int) → Option Bool) → Option Bool) (F5 : Int → Bool → (List Int) → (Int → Bool → Bool → (List Int) → Option Bool) → (Int → Bool → Bool → (List Int) → Option Bool) → Option Bool) (F6 : (List Int) → Int → ((List Int) → Int → Bool → Option Bool) → (Int → Bool → (List Int) → Option Bool) → Option Bool) (F7 : (List Int) → Int → Int → Int → ((List Int) → Bool → Option Bool) → (Bool → (List Int) → Option Bool) → Option Bool) (F8 : Int → Int → Int → Bool → (List Int) → (Bool → Bool → (List Int) → Option Bool) → Option Bool) (F9 : Int → Int → Bool → (List Int) → (Int → Int → Bool → (List Int) → Option Bool) → Option Bool) (F10 : (List Int) → Int → Int → (Int → Int → Option Bool) → Option Bool) (ts241 : List (Int × Int × Int × Int × Int × Unit)) (ns242 : List Int) (n243 : Int) (b244 : Bool) (ns245 : List Int) (k : KE) : execL Try.prog ht 3 (callfOf (law38_MemoryPlays_L0.calls F0 F1 F2 F3 F4 F5 F6 F7 F8 F9 F10)) (law38_MemoryPlays_L0.loops) 0 (loopAt 0 (codeOf Try.f3)) ⟨fillS 222 [1, 5, 6, 7] [(.bv 0 28 (.st [(.int .i64), (.int .i64), (.int .i64), (.int .i64), (.int .i64)]) ts241), (.ptr [1, 0] 0 0), (.bv 0 2 (.int .i64) ns242), (.d ⟨(.int .i64), n243⟩)], [([1, 0], ⟨48, 2, (.mix [(.agg [(.ref [1, 1]), (.d ⟨.bool, b244⟩)])])⟩), ([1, 1], ⟨2, 1, (.data (.int .i64) ns245)⟩)], 2⟩ (again (law38_MemoryPlays_L0.get S none) (plan Try.prog (ht 3 0)) k) = law38_MemoryPlays_L0.body S F0 F1 F2 F3 F4 F5 F6 F7 F8 F9 F10 ts241 ns242 n243 b244 ns245 (fun y0 => k .ret ⟨fillS 222 [4] [(.d ⟨.bool, y0⟩)], [], 2⟩) (fun y0 y1 y2 => k (.exit 0) ⟨fillS 222 [5, 6] [(.ptr [1, 0] 0 0), (.bv 0 2 (.int .i64) y0)], [([1, 0], ⟨48, 2, (.mix [(.agg [(.ref [1, 1]), (.d ⟨.bool, y1⟩)])])⟩), ([1, 1], ⟨2, 1, (.data (.int .i64) y2)⟩)], 2⟩) := by kernel_rfl
theorem law38_MemoryPlays_L0.ok (d : Nat) (hd : 4 ≤ d) : ∀ n st k, law38_MemoryPlays_L0.get (law38_MemoryPlays_L0 n) none st k = some true → iter n (plan Try.prog (ht 3 0)) (fun st k => execK Try.prog ht 3 (callfOf (callK Try.prog ht d)) 0 (loopAt 0 (codeOf Try.f3)) st k) st k = some true :=
  loop_ok (lfn := fun n st k => law38_MemoryPlays_L0.get (law38_MemoryPlays_L0 n) none st k) (rec := law38_MemoryPlays_L0.calls memory_Memory_Loadv2 ref38_Load memory_Memory_Sizev2 ref38_Store memory_Memory_Storev2 memory_Memory_Growv2 ref38_Grow ref38_Copy memory_Memory_Copyv2 memory_Memory_Itemv2 ref38_Item) (fun g a h k hx => by
    rcases memory_Memory_Loadv2.look d (by omega) hx with hx | hx
    rotate_left
    · exact hx
    rcases ref38_Load.look d (by omega) hx with hx | hx
    rotate_left
    · exact hx
    rcases memory_Memory_Sizev2.look d (by omega) hx with hx | hx
    rotate_left
    · exact hx
    rcases ref38_Store.look d (by omega) hx with hx | hx
    rotate_left
    · exact hx
    rcases memory_Memory_Storev2.look d (by omega) hx with hx | hx
    rotate_left
    · exact hx
    rcases memory_Memory_Growv2.look d (by omega) hx with hx | hx
    rotate_left
    · exact hx
    rcases ref38_Grow.look d (by omega) hx with hx | hx
    rotate_left
    · exact hx
    rcases ref38_Copy.look d (by omega) hx with hx | hx
    rotate_left
    · exact hx
    rcases memory_Memory_Copyv2.look d (by omega) hx with hx | hx
    rotate_left
    · exact hx
    rcases memory_Memory_Itemv2.look d (by omega) hx with hx | hx
    rotate_left
    · exact hx
    rcases ref38_Item.look d (by omega) hx with hx | hx
    rotate_left
    · exact hx
    cases hx) (loopf := law38_MemoryPlays_L0.loops) (by
    have e : loopsOf (law38_MemoryPlays_L0.loops) 0 (loopAt 0 (codeOf Try.f3)) = [] := by kernel_rfl
    rw [e]
    intro p hp
    cases hp) (fun st k h => by
    obtain ⟨sl, hp, m⟩ := st
    unfold law38_MemoryPlays_L0.get at h
    dsimp only at h
    split at h
    · have h' : (none : Option Bool) = some true := h
      cases h'
    · cases h) (fun n st k h => by
    obtain ⟨sl, hp, m⟩ := st
    unfold law38_MemoryPlays_L0.get at h
    dsimp only at h
    split at h
    · rename_i h1 h2
      obtain rfl := pickS_ok h2
      obtain rfl := Nat.eq_of_beq_eq_true h1
      exact (law38_MemoryPlays_L0.step (law38_MemoryPlays_L0 n) memory_Memory_Loadv2 ref38_Load memory_Memory_Sizev2 ref38_Store memory_Memory_Storev2 memory_Memory_Growv2 ref38_Grow ref38_Copy memory_Memory_Copyv2 memory_Memory_Itemv2 ref38_Item _ _ _ _ _ k).trans h
    · cases h)
theorem law38_MemoryPlays_L0.look {F : (List (Int × Int × Int × Int × Int × Unit)) → (List Int) → Int → Bool → (List Int) → (Bool → Option Bool) → ((List Int) → Bool → (List Int) → Option Bool) → Option Bool} {e : Option Bool} {st : St} {k : KE} (hx : law38_MemoryPlays_L0.get F e st k = some true) : e = some true ∨ law38_MemoryPlays_L0.get F none st k = some true := by
  obtain ⟨sl, hp, m⟩ := st
  unfold law38_MemoryPlays_L0.get at hx ⊢
  dsimp only at hx ⊢
  split at hx
  · exact .inr hx
  · exact .inl hx
/-- function 3: the loop in block 3 -/
noncomputable def law38_MemoryPlays_L3.body (law38_MemoryPlays_L3 : (List Int) → Int → Bool → (List Int) → (Bool → Option Bool) → (Option Bool) → Option Bool) (memory_Memory_Loadv2 : Int → Bool → (List Int) → (Int → Bool → Bool → (List Int) → Option Bool) → Option Bool) (ref38_Load : (List Int) → Int → (Int → Bool → Option Bool) → Option Bool) (ns401 : List Int) (n402 : Int) (b403 : Bool) (ns404 : List Int) (k1 : Bool → Option Bool) (k2 : Option Bool) : Option Bool :=
  (cond_ (decide (n402 ≤ (((List.length ns401) : Nat) : Int))) (memory_Memory_Loadv2 n402 b403 ns404
  (fun n405 b406 b407 ns408 => (ref38_Load ns401 n402
  (fun n409 b410 => (cond_ (! (n405 != n409)) (cond_ (! (b406 == b410)) (k1 false) (law38_MemoryPlays_L3 ns401 (IntKind.wrap .i64 (n402 + (1 : Int))) b407 ns408 k1 k2)) (k1 false)))))) (k2))
noncomputable def law38_MemoryPlays_L3 : Nat → (List Int) → Int → Bool → (List Int) → (Bool → Option Bool) → (Option Bool) → Option Bool
  | 0 => fun _ _ _ _ _ _ => none
  | n + 1 => law38_MemoryPlays_L3.body (law38_MemoryPlays_L3 n) memory_Memory_Loadv2 ref38_Load
noncomputable def law38_MemoryPlays_L3.get (F : (List Int) → Int → Bool → (List Int) → (Bool → Option Bool) → (Option Bool) → Option Bool) (e : Option Bool) (st : St) (k : KE) : Option Bool := match st with
  | ⟨sl, hp, m⟩ => match Nat.beq m 2, pickS 222 [5, 6, 27] sl, hp with
    | true, some [(.ptr [1, 0] 0 0), (.bv 0 2 (.int .i64) ns401), (.d ⟨(.int .i64), n402⟩)], [([1, 0], ⟨48, 2, (.mix [(.agg [(.ref [1, 1]), (.d ⟨.bool, b403⟩)])])⟩), ([1, 1], ⟨2, 1, (.data (.int .i64) ns404)⟩)] => F ns401 n402 b403 ns404 (fun y0 => k .ret ⟨fillS 222 [4] [(.d ⟨.bool, y0⟩)], [], 2⟩) (k (.exit 3) ⟨fillS 222 [] [], [], 2⟩)
    | _, _, _ => e
noncomputable def law38_MemoryPlays_L3.calls (F0 : Int → Bool → (List Int) → (Int → Bool → Bool → (List Int) → Option Bool) → Option Bool) (F1 : (List Int) → Int → (Int → Bool → Option Bool) → Option Bool) : RecF := fun g a h k => (memory_Memory_Loadv2.get F0 (ref38_Load.get F1 none g a h k) g a h k)
noncomputable def law38_MemoryPlays_L3.loops : LoopF := fun b => none
set_option maxRecDepth 100000 in
theorem law38_MemoryPlays_L3.step (S : (List Int) → Int → Bool → (List Int) → (Bool → Option Bool) → (Option Bool) → Option Bool) (F0 : Int → Bool → (List Int) → (Int → Bool → Bool → (List Int) → Option Bool) → Option Bool) (F1 : (List Int) → Int → (Int → Bool → Option Bool) → Option Bool) (ns401 : List Int) (n402 : Int) (b403 : Bool) (ns404 : List Int) (k : KE) : execL Try.prog ht 3 (callfOf (law38_MemoryPlays_L3.calls F0 F1)) (law38_MemoryPlays_L3.loops) 3 (loopAt 3 (codeOf Try.f3)) ⟨fillS 222 [5, 6, 27] [(.ptr [1, 0] 0 0), (.bv 0 2 (.int .i64) ns401), (.d ⟨(.int .i64), n402⟩)], [([1, 0], ⟨48, 2, (.mix [(.agg [(.ref [1, 1]), (.d ⟨.bool, b403⟩)])])⟩), ([1, 1], ⟨2, 1, (.data (.int .i64) ns404)⟩)], 2⟩ (again (law38_MemoryPlays_L3.get S none) (plan Try.prog (ht 3 3)) k) = law38_MemoryPlays_L3.body S F0 F1 ns401 n402 b403 ns404 (fun y0 => k .ret ⟨fillS 222 [4] [(.d ⟨.bool, y0⟩)], [], 2⟩) (k (.exit 3) ⟨fillS 222 [] [], [], 2⟩) := by kernel_rfl
theorem law38_MemoryPlays_L3.ok (d : Nat) (hd : 3 ≤ d) : ∀ n st k, law38_MemoryPlays_L3.get (law38_MemoryPlays_L3 n) none st k = some true → iter n (plan Try.prog (ht 3 3)) (fun st k => execK Try.prog ht 3 (callfOf (callK Try.prog ht d)) 3 (loopAt 3 (codeOf Try.f3)) st k) st k = some true :=
  loop_ok (lfn := fun n st k => law38_MemoryPlays_L3.get (law38_MemoryPlays_L3 n) none st k) (rec := law38_MemoryPlays_L3.calls memory_Memory_Loadv2 ref38_Load) (fun g a h k hx => by
    rcases memory_Memory_Loadv2.look d (by omega) hx with hx | hx
    rotate_left
    · exact hx
    rcases ref38_Load.look d (by omega) hx with hx | hx
    rotate_left
    · exact hx
    cases hx) (loopf := law38_MemoryPlays_L3.loops) (by
    have e : loopsOf (law38_MemoryPlays_L3.loops) 3 (loopAt 3 (codeOf Try.f3)) = [] := by kernel_rfl
    rw [e]
    intro p hp
    cases hp) (fun st k h => by
    obtain ⟨sl, hp, m⟩ := st
    unfold law38_MemoryPlays_L3.get at h
    dsimp only at h
    split at h
    · have h' : (none : Option Bool) = some true := h
      cases h'
    · cases h) (fun n st k h => by
    obtain ⟨sl, hp, m⟩ := st
    unfold law38_MemoryPlays_L3.get at h
    dsimp only at h
    split at h
    · rename_i h1 h2
      obtain rfl := pickS_ok h2
      obtain rfl := Nat.eq_of_beq_eq_true h1
      exact (law38_MemoryPlays_L3.step (law38_MemoryPlays_L3 n) memory_Memory_Loadv2 ref38_Load _ _ _ _ k).trans h
    · cases h)
theorem law38_MemoryPlays_L3.look {F : (List Int) → Int → Bool → (List Int) → (Bool → Option Bool) → (Option Bool) → Option Bool} {e : Option Bool} {st : St} {k : KE} (hx : law38_MemoryPlays_L3.get F e st k = some true) : e = some true ∨ law38_MemoryPlays_L3.get F none st k = some true := by
  obtain ⟨sl, hp, m⟩ := st
  unfold law38_MemoryPlays_L3.get at hx ⊢
  dsimp only at hx ⊢
  split at hx
  · exact .inr hx
  · exact .inl hx
/-- function 3: sheerleg/sheerleglaw38.MemoryPlays -/
noncomputable def law38_MemoryPlays.body (law38_known : (Bool → Option Bool) → Option Bool) (memory_Newv1 : (List Int) → (Bool → (List Int) → Option Bool) → Option Bool) (law38_MemoryPlays_L0 : (List (Int × Int × Int × Int × Int × Unit)) → (List Int) → Int → Bool → (List Int) → (Bool → Option Bool) → ((List Int) → Bool → (List Int) → Option Bool) → Option Bool) (law38_MemoryPlays_L3 : (List Int) → Int → Bool → (List Int) → (Bool → Option Bool) → (Option Bool) → Option Bool) (ns236 : List Int) (ts237 : List (Int × Int × Int × Int × Int × Unit)) (k1 : Bool → Option Bool) : Option Bool :=
  (cond_ (! (decide ((((List.length ns236) : Nat) : Int) > (200 : Int)))) (cond_ (decide ((((List.length ts237) : Nat) : Int) > (60 : Int))) (law38_known
  (fun b238 => (k1 b238))) (memory_Newv1 ns236
  (fun b239 ns240 => (cond_ (Nat.ble ((List.length ns236) * (8 : Nat)) (140737488355328 : Nat)) (law38_MemoryPlays_L0 ts237 ns236 (0 : Int) b239 ns240
  (fun b397 => (k1 b397))
  (fun ns398 b399 ns400 => (law38_MemoryPlays_L3 ns398 (-1 : Int) b399 ns400
  (fun b411 => (k1 b411))
  (law38_known
  (fun b412 => (k1 b412)))))) none)))) (law38_known
  (fun b413 => (k1 b413))))
noncomputable def law38_MemoryPlays (ns236 : List Int) (ts237 : List (Int × Int × Int × Int × Int × Unit)) (k1 : Bool → Option Bool) : Option Bool := law38_MemoryPlays.body law38_known memory_Newv1 (law38_MemoryPlays_L0 ROUNDS) (law38_MemoryPlays_L3 ROUNDS) ns236 ts237 k1
noncomputable def law38_MemoryPlays.get (F : (List Int) → (List (Int × Int × Int × Int × Int × Unit)) → (Bool → Option Bool) → Option Bool) (e : Option Bool) (g : FuncId) (a : List AV) (h : Heap) (k : KR) : Option Bool := match g, a, h with
  | 3, [(.bv 0 2 (.int .i64) ns236), (.bv 0 28 (.st [(.int .i64), (.int .i64), (.int .i64), (.int .i64), (.int .i64)]) ts237)], [] => F ns236 ts237 (fun y0 => k (.d ⟨.bool, y0⟩) [])
  | _, _, _ => e
noncomputable def law38_MemoryPlays.calls (F0 : (Bool → Option Bool) → Option Bool) (F1 : (List Int) → (Bool → (List Int) → Option Bool) → Option Bool) : RecF := fun g a h k => (law38_known.get F0 (memory_Newv1.get F1 none g a h k) g a h k)
noncomputable def law38_MemoryPlays.loops (L0 : (List (Int × Int × Int × Int × Int × Unit)) → (List Int) → Int → Bool → (List Int) → (Bool → Option Bool) → ((List Int) → Bool → (List Int) → Option Bool) → Option Bool) (L1 : (List Int) → Int → Bool → (List Int) → (Bool → Option Bool) → (Option Bool) → Option Bool) : LoopF := fun b => match Nat.beq b 0 with | true => some (fun st k => (law38_MemoryPlays_L0.get L0 none st k)) | false => match Nat.beq b 3 with | true => some (fun st k => (law38_MemoryPlays_L3.get L1 none st k)) | false => none
set_option maxRecDepth 100000 in
theorem law38_MemoryPlays.eq (F0 : (Bool → Option Bool) → Option Bool) (F1 : (List Int) → (Bool → (List Int) → Option Bool) → Option Bool) (L0 : (List (Int × Int × Int × Int × Int × Unit)) → (List Int) → Int → Bool → (List Int) → (Bool → Option Bool) → ((List Int) → Bool → (List Int) → Option Bool) → Option Bool) (L1 : (List Int) → Int → Bool → (List Int) → (Bool → Option Bool) → (Option Bool) → Option Bool) (ns236 : List Int) (ts237 : List (Int × Int × Int × Int × Int × Unit)) (k : KR) : execL Try.prog ht 3 (callfOf (law38_MemoryPlays.calls F0 F1)) (law38_MemoryPlays.loops L0 L1) 0 (codeOf Try.f3) ⟨[(.bv 0 2 (.int .i64) ns236), (.bv 0 28 (.st [(.int .i64), (.int .i64), (.int .i64), (.int .i64), (.int .i64)]) ts237)] ++ List.replicate (Try.f3.ntmps - ([(.bv 0 2 (.int .i64) ns236), (.bv 0 28 (.st [(.int .i64), (.int .i64), (.int .i64), (.int .i64), (.int .i64)]) ts237)] : List AV).length) .undef, [], 2⟩ (leave Try.prog Try.f3 k) = law38_MemoryPlays.body F0 F1 L0 L1 ns236 ts237 (fun y0 => k (.d ⟨.bool, y0⟩) []) := by kernel_rfl
theorem law38_MemoryPlays.ok (d : Nat) (hd : 61 ≤ d) (ns236 : List Int) (ts237 : List (Int × Int × Int × Int × Int × Unit)) (k : KR) (hx : law38_MemoryPlays ns236 ts237 (fun y0 => k (.d ⟨.bool, y0⟩) []) = some true) : callK Try.prog ht d 3 [(.bv 0 2 (.int .i64) ns236), (.bv 0 28 (.st [(.int .i64), (.int .i64), (.int .i64), (.int .i64), (.int .i64)]) ts237)] [] k = some true := by
  obtain ⟨d, rfl⟩ : ∃ e, d = e + 1 := ⟨d - 1, by omega⟩
  exact fn_ok (c := codeOf Try.f3) Try.func3 (by kernel_rfl) (rec := law38_MemoryPlays.calls law38_known memory_Newv1) (fun g a h k hx => by
    rcases law38_known.look d (by omega) hx with hx | hx
    rotate_left
    · exact hx
    rcases memory_Newv1.look d (by omega) hx with hx | hx
    rotate_left
    · exact hx
    cases hx) (loopf := law38_MemoryPlays.loops (law38_MemoryPlays_L0 ROUNDS) (law38_MemoryPlays_L3 ROUNDS)) (by
    have e : loopsOf (law38_MemoryPlays.loops (law38_MemoryPlays_L0 ROUNDS) (law38_MemoryPlays_L3 ROUNDS)) 0 (codeOf Try.f3) = [(0, loopAt 0 (codeOf Try.f3)), (3, loopAt 3 (codeOf Try.f3))] := by kernel_rfl
    rw [e]
    intro p hp
    simp only [List.mem_cons, List.not_mem_nil, or_false] at hp
    rcases hp with rfl | rfl
    · refine loopRef_of (callf := callfOf (callK Try.prog ht d)) (callfOf_ref (callK_mono d)) fun lf st k hb hx => ?_
      cases hb
      rcases law38_MemoryPlays_L0.look hx with hx | hx
      rotate_left
      · exact law38_MemoryPlays_L0.ok d (by omega) _ _ _ hx
      cases hx
    · refine loopRef_of (callf := callfOf (callK Try.prog ht d)) (callfOf_ref (callK_mono d)) fun lf st k hb hx => ?_
      cases hb
      rcases law38_MemoryPlays_L3.look hx with hx | hx
      rotate_left
      · exact law38_MemoryPlays_L3.ok d (by omega) _ _ _ hx
      cases hx) ((law38_MemoryPlays.eq law38_known memory_Newv1 (law38_MemoryPlays_L0 ROUNDS) (law38_MemoryPlays_L3 ROUNDS) ns236 ts237 k).trans hx)
theorem law38_MemoryPlays.look (d : Nat) (hd : 61 ≤ d) {e : Option Bool} {g : FuncId} {a : List AV} {h : Heap} {k : KR} (hx : law38_MemoryPlays.get law38_MemoryPlays e g a h k = some true) : e = some true ∨ callK Try.prog ht d g a h k = some true := by
  unfold law38_MemoryPlays.get at hx
  split at hx
  · exact .inr (law38_MemoryPlays.ok d hd _ _ _ hx)
  · exact .inl hx
end Go.Proofs.Ytbnkdfoolfpllaa.g
