/- What the functions come to that MemoryNobody reaches, as plain functions; written by a program of this work, each told by Lean. -/
import Derived.Test.YtbnkdfoolfpllaaA3
import Derived.Test.YtbnkdfoolfpllaaChecked
namespace Go.Proofs.Ytbnkdfoolfpllaa.memoryNobody
open Go.AX
set_option linter.unusedVariables false
def ht : Hints := hintsOf []
/-- function 19: (*sheerleg/memory.Memory).Size -/
def memory_Memory_Size (k1 : Int → Option Bool) : Option Bool :=
  (k1 (0 : Int))
def memory_Memory_Size.get (e : Option Bool) (g : FuncId) (a : List AV) (h : Heap) (k : KR) : Option Bool := match g, a, h with
  | 19, [.nilp], [] => memory_Memory_Size (fun y0 => k (.d ⟨(.int .i64), y0⟩) [])
  | _, _, _ => e
def memory_Memory_Size.calls : RecF := fun g a h k => none
def memory_Memory_Size.loops : LoopF := fun b => none
set_option maxRecDepth 100000 in
theorem memory_Memory_Size.eq (k : KR) : execL Try.prog ht 19 (callfOf memory_Memory_Size.calls) memory_Memory_Size.loops 0 (codeOf Try.f19) ⟨[.nilp] ++ List.replicate (Try.f19.ntmps - ([.nilp] : List AV).length) .undef, [], 2⟩ (leave Try.prog Try.f19 k) = memory_Memory_Size (fun y0 => k (.d ⟨(.int .i64), y0⟩) []) := by kernel_rfl
theorem memory_Memory_Size.ok (d : Nat) (hd : 1 ≤ d) (k : KR) (hx : memory_Memory_Size (fun y0 => k (.d ⟨(.int .i64), y0⟩) []) = some true) : callK Try.prog ht d 19 [.nilp] [] k = some true := by
  obtain ⟨d, rfl⟩ : ∃ e, d = e + 1 := ⟨d - 1, by omega⟩
  exact fn_ok (c := codeOf Try.f19) Try.func19 (by kernel_rfl) (rec := memory_Memory_Size.calls) (fun g a h k hx => by
    cases hx) (loopf := memory_Memory_Size.loops) (by
    have e : loopsOf memory_Memory_Size.loops 0 (codeOf Try.f19) = [] := by kernel_rfl
    rw [e]
    intro p hp
    cases hp) ((memory_Memory_Size.eq k).trans hx)
theorem memory_Memory_Size.look (d : Nat) (hd : 1 ≤ d) {e : Option Bool} {g : FuncId} {a : List AV} {h : Heap} {k : KR} (hx : memory_Memory_Size.get e g a h k = some true) : e = some true ∨ callK Try.prog ht d g a h k = some true := by
  unfold memory_Memory_Size.get at hx
  split at hx
  · exact .inr (memory_Memory_Size.ok d hd _ hx)
  · exact .inl hx
/-- function 21: (*sheerleg/memory.Memory).at -/
def memory_Memory_at (n3 : Int) (n4 : Int) (k1 : Bool → Int → Option Bool) : Option Bool :=
  (cond_ (! (decide (n3 < (0 : Int)))) (memory_Memory_Size
  (fun n5 => (cond_ (decide (n3 ≥ n5)) (k1 false n4) none))) (k1 false n4))
def memory_Memory_at.get (e : Option Bool) (g : FuncId) (a : List AV) (h : Heap) (k : KR) : Option Bool := match g, a, h with
  | 21, [.nilp, (.d ⟨(.int .i64), n3⟩), (.fn (.func 22) [] [(.ptr [0, 0] 0 0)])], [([0, 0], ⟨2, 1, (.data (.int .i64) [n4])⟩)] => memory_Memory_at n3 n4 (fun y0 y1 => k (.d ⟨.bool, y0⟩) [([0, 0], ⟨2, 1, (.data (.int .i64) [y1])⟩)])
  | _, _, _ => e
def memory_Memory_at.calls : RecF := fun g a h k => (memory_Memory_Size.get none g a h k)
def memory_Memory_at.loops : LoopF := fun b => none
set_option maxRecDepth 100000 in
theorem memory_Memory_at.eq (n3 : Int) (n4 : Int) (k : KR) : execL Try.prog ht 21 (callfOf memory_Memory_at.calls) memory_Memory_at.loops 0 (codeOf Try.f21) ⟨[.nilp, (.d ⟨(.int .i64), n3⟩), (.fn (.func 22) [] [(.ptr [0, 0] 0 0)])] ++ List.replicate (Try.f21.ntmps - ([.nilp, (.d ⟨(.int .i64), n3⟩), (.fn (.func 22) [] [(.ptr [0, 0] 0 0)])] : List AV).length) .undef, [([0, 0], ⟨2, 1, (.data (.int .i64) [n4])⟩)], 2⟩ (leave Try.prog Try.f21 k) = memory_Memory_at n3 n4 (fun y0 y1 => k (.d ⟨.bool, y0⟩) [([0, 0], ⟨2, 1, (.data (.int .i64) [y1])⟩)]) := by kernel_rfl
theorem memory_Memory_at.ok (d : Nat) (hd : 2 ≤ d) (n3 : Int) (n4 : Int) (k : KR) (hx : memory_Memory_at n3 n4 (fun y0 y1 => k (.d ⟨.bool, y0⟩) [([0, 0], ⟨2, 1, (.data (.int .i64) [y1])⟩)]) = some true) : callK Try.prog ht d 21 [.nilp, (.d ⟨(.int .i64), n3⟩), (.fn (.func 22) [] [(.ptr [0, 0] 0 0)])] [([0, 0], ⟨2, 1, (.data (.int .i64) [n4])⟩)] k = some true := by
  obtain ⟨d, rfl⟩ : ∃ e, d = e + 1 := ⟨d - 1, by omega⟩
  exact fn_ok (c := codeOf Try.f21) Try.func21 (by kernel_rfl) (rec := memory_Memory_at.calls) (fun g a h k hx => by
    rcases memory_Memory_Size.look d (by omega) hx with hx | hx
    rotate_left
    · exact hx
    cases hx) (loopf := memory_Memory_at.loops) (by
    have e : loopsOf memory_Memory_at.loops 0 (codeOf Try.f21) = [] := by kernel_rfl
    rw [e]
    intro p hp
    cases hp) ((memory_Memory_at.eq n3 n4 k).trans hx)
theorem memory_Memory_at.look (d : Nat) (hd : 2 ≤ d) {e : Option Bool} {g : FuncId} {a : List AV} {h : Heap} {k : KR} (hx : memory_Memory_at.get e g a h k = some true) : e = some true ∨ callK Try.prog ht d g a h k = some true := by
  unfold memory_Memory_at.get at hx
  split at hx
  · exact .inr (memory_Memory_at.ok d hd _ _ _ hx)
  · exact .inl hx
/-- function 9: (*sheerleg/memory.Memory).Load -/
def memory_Memory_Load (n2 : Int) (k1 : Int → Bool → Option Bool) : Option Bool :=
  (memory_Memory_at n2 (0 : Int)
  (fun b6 n7 => (k1 n7 b6)))
def memory_Memory_Load.get (e : Option Bool) (g : FuncId) (a : List AV) (h : Heap) (k : KR) : Option Bool := match g, a, h with
  | 9, [.nilp, (.d ⟨(.int .i64), n2⟩)], [] => memory_Memory_Load n2 (fun y0 y1 => k (.tup [(.d ⟨(.int .i64), y0⟩), (.d ⟨.bool, y1⟩)]) [])
  | _, _, _ => e
def memory_Memory_Load.calls : RecF := fun g a h k => (memory_Memory_at.get none g a h k)
def memory_Memory_Load.loops : LoopF := fun b => none
set_option maxRecDepth 100000 in
theorem memory_Memory_Load.eq (n2 : Int) (k : KR) : execL Try.prog ht 9 (callfOf memory_Memory_Load.calls) memory_Memory_Load.loops 0 (codeOf Try.f9) ⟨[.nilp, (.d ⟨(.int .i64), n2⟩)] ++ List.replicate (Try.f9.ntmps - ([.nilp, (.d ⟨(.int .i64), n2⟩)] : List AV).length) .undef, [], 2⟩ (leave Try.prog Try.f9 k) = memory_Memory_Load n2 (fun y0 y1 => k (.tup [(.d ⟨(.int .i64), y0⟩), (.d ⟨.bool, y1⟩)]) []) := by kernel_rfl
theorem memory_Memory_Load.ok (d : Nat) (hd : 3 ≤ d) (n2 : Int) (k : KR) (hx : memory_Memory_Load n2 (fun y0 y1 => k (.tup [(.d ⟨(.int .i64), y0⟩), (.d ⟨.bool, y1⟩)]) []) = some true) : callK Try.prog ht d 9 [.nilp, (.d ⟨(.int .i64), n2⟩)] [] k = some true := by
  obtain ⟨d, rfl⟩ : ∃ e, d = e + 1 := ⟨d - 1, by omega⟩
  exact fn_ok (c := codeOf Try.f9) Try.func9 (by kernel_rfl) (rec := memory_Memory_Load.calls) (fun g a h k hx => by
    rcases memory_Memory_at.look d (by omega) hx with hx | hx
    rotate_left
    · exact hx
    cases hx) (loopf := memory_Memory_Load.loops) (by
    have e : loopsOf memory_Memory_Load.loops 0 (codeOf Try.f9) = [] := by kernel_rfl
    rw [e]
    intro p hp
    cases hp) ((memory_Memory_Load.eq n2 k).trans hx)
theorem memory_Memory_Load.look (d : Nat) (hd : 3 ≤ d) {e : Option Bool} {g : FuncId} {a : List AV} {h : Heap} {k : KR} (hx : memory_Memory_Load.get e g a h k = some true) : e = some true ∨ callK Try.prog ht d g a h k = some true := by
  unfold memory_Memory_Load.get at hx
  split at hx
  · exact .inr (memory_Memory_Load.ok d hd _ _ hx)
  · exact .inl hx
/-- function 19: (*sheerleg/memory.Memory).Size -/
def memory_Memory_Sizev1 (b15 : Bool) (k1 : Int → Bool → Option Bool) : Option Bool :=
  (cond_ (! b15) (k1 (0 : Int) b15) (k1 (0 : Int) b15))
def memory_Memory_Sizev1.get (e : Option Bool) (g : FuncId) (a : List AV) (h : Heap) (k : KR) : Option Bool := match g, a, h with
  | 19, [(.ptr [0, 0] 0 0)], [([0, 0], ⟨48, 2, (.mix [(.agg [.nils, (.d ⟨.bool, b15⟩)])])⟩)] => memory_Memory_Sizev1 b15 (fun y0 y1 => k (.d ⟨(.int .i64), y0⟩) [([0, 0], ⟨48, 2, (.mix [(.agg [.nils, (.d ⟨.bool, y1⟩)])])⟩)])
  | _, _, _ => e
def memory_Memory_Sizev1.calls : RecF := fun g a h k => none
def memory_Memory_Sizev1.loops : LoopF := fun b => none
set_option maxRecDepth 100000 in
theorem memory_Memory_Sizev1.eq (b15 : Bool) (k : KR) : execL Try.prog ht 19 (callfOf memory_Memory_Sizev1.calls) memory_Memory_Sizev1.loops 0 (codeOf Try.f19) ⟨[(.ptr [0, 0] 0 0)] ++ List.replicate (Try.f19.ntmps - ([(.ptr [0, 0] 0 0)] : List AV).length) .undef, [([0, 0], ⟨48, 2, (.mix [(.agg [.nils, (.d ⟨.bool, b15⟩)])])⟩)], 2⟩ (leave Try.prog Try.f19 k) = memory_Memory_Sizev1 b15 (fun y0 y1 => k (.d ⟨(.int .i64), y0⟩) [([0, 0], ⟨48, 2, (.mix [(.agg [.nils, (.d ⟨.bool, y1⟩)])])⟩)]) := by kernel_rfl
theorem memory_Memory_Sizev1.ok (d : Nat) (hd : 1 ≤ d) (b15 : Bool) (k : KR) (hx : memory_Memory_Sizev1 b15 (fun y0 y1 => k (.d ⟨(.int .i64), y0⟩) [([0, 0], ⟨48, 2, (.mix [(.agg [.nils, (.d ⟨.bool, y1⟩)])])⟩)]) = some true) : callK Try.prog ht d 19 [(.ptr [0, 0] 0 0)] [([0, 0], ⟨48, 2, (.mix [(.agg [.nils, (.d ⟨.bool, b15⟩)])])⟩)] k = some true := by
  obtain ⟨d, rfl⟩ : ∃ e, d = e + 1 := ⟨d - 1, by omega⟩
  exact fn_ok (c := codeOf Try.f19) Try.func19 (by kernel_rfl) (rec := memory_Memory_Sizev1.calls) (fun g a h k hx => by
    cases hx) (loopf := memory_Memory_Sizev1.loops) (by
    have e : loopsOf memory_Memory_Sizev1.loops 0 (codeOf Try.f19) = [] := by kernel_rfl
    rw [e]
    intro p hp
    cases hp) ((memory_Memory_Sizev1.eq b15 k).trans hx)
theorem memory_Memory_Sizev1.look (d : Nat) (hd : 1 ≤ d) {e : Option Bool} {g : FuncId} {a : List AV} {h : Heap} {k : KR} (hx : memory_Memory_Sizev1.get e g a h k = some true) : e = some true ∨ callK Try.prog ht d g a h k = some true := by
  unfold memory_Memory_Sizev1.get at hx
  split at hx
  · exact .inr (memory_Memory_Sizev1.ok d hd _ _ hx)
  · exact .inl hx
/-- function 21: (*sheerleg/memory.Memory).at -/
def memory_Memory_atv1 (n12 : Int) (b13 : Bool) (n14 : Int) (k1 : Bool → Bool → Int → Option Bool) : Option Bool :=
  (cond_ (! (decide (n12 < (0 : Int)))) (memory_Memory_Sizev1 b13
  (fun n16 b17 => (cond_ (decide (n12 ≥ n16)) (k1 false b17 n14) none))) (k1 false b13 n14))
def memory_Memory_atv1.get (e : Option Bool) (g : FuncId) (a : List AV) (h : Heap) (k : KR) : Option Bool := match g, a, h with
  | 21, [(.ptr [0, 0] 0 0), (.d ⟨(.int .i64), n12⟩), (.fn (.func 22) [] [(.ptr [0, 1] 0 0)])], [([0, 0], ⟨48, 2, (.mix [(.agg [.nils, (.d ⟨.bool, b13⟩)])])⟩), ([0, 1], ⟨2, 1, (.data (.int .i64) [n14])⟩)] => memory_Memory_atv1 n12 b13 n14 (fun y0 y1 y2 => k (.d ⟨.bool, y0⟩) [([0, 0], ⟨48, 2, (.mix [(.agg [.nils, (.d ⟨.bool, y1⟩)])])⟩), ([0, 1], ⟨2, 1, (.data (.int .i64) [y2])⟩)])
  | _, _, _ => e
def memory_Memory_atv1.calls : RecF := fun g a h k => (memory_Memory_Sizev1.get none g a h k)
def memory_Memory_atv1.loops : LoopF := fun b => none
set_option maxRecDepth 100000 in
theorem memory_Memory_atv1.eq (n12 : Int) (b13 : Bool) (n14 : Int) (k : KR) : execL Try.prog ht 21 (callfOf memory_Memory_atv1.calls) memory_Memory_atv1.loops 0 (codeOf Try.f21) ⟨[(.ptr [0, 0] 0 0), (.d ⟨(.int .i64), n12⟩), (.fn (.func 22) [] [(.ptr [0, 1] 0 0)])] ++ List.replicate (Try.f21.ntmps - ([(.ptr [0, 0] 0 0), (.d ⟨(.int .i64), n12⟩), (.fn (.func 22) [] [(.ptr [0, 1] 0 0)])] : List AV).length) .undef, [([0, 0], ⟨48, 2, (.mix [(.agg [.nils, (.d ⟨.bool, b13⟩)])])⟩), ([0, 1], ⟨2, 1, (.data (.int .i64) [n14])⟩)], 2⟩ (leave Try.prog Try.f21 k) = memory_Memory_atv1 n12 b13 n14 (fun y0 y1 y2 => k (.d ⟨.bool, y0⟩) [([0, 0], ⟨48, 2, (.mix [(.agg [.nils, (.d ⟨.bool, y1⟩)])])⟩), ([0, 1], ⟨2, 1, (.data (.int .i64) [y2])⟩)]) := by kernel_rfl
theorem memory_Memory_atv1.ok (d : Nat) (hd : 2 ≤ d) (n12 : Int) (b13 : Bool) (n14 : Int) (k : KR) (hx : memory_Memory_atv1 n12 b13 n14 (fun y0 y1 y2 => k (.d ⟨.bool, y0⟩) [([0, 0], ⟨48, 2, (.mix [(.agg [.nils, (.d ⟨.bool, y1⟩)])])⟩), ([0, 1], ⟨2, 1, (.data (.int .i64) [y2])⟩)]) = some true) : callK Try.prog ht d 21 [(.ptr [0, 0] 0 0), (.d ⟨(.int .i64), n12⟩), (.fn (.func 22) [] [(.ptr [0, 1] 0 0)])] [([0, 0], ⟨48, 2, (.mix [(.agg [.nils, (.d ⟨.bool, b13⟩)])])⟩), ([0, 1], ⟨2, 1, (.data (.int .i64) [n14])⟩)] k = some true := by
  obtain ⟨d, rfl⟩ : ∃ e, d = e + 1 := ⟨d - 1, by omega⟩
  exact fn_ok (c := codeOf Try.f21) Try.func21 (by kernel_rfl) (rec := memory_Memory_atv1.calls) (fun g a h k hx => by
    rcases memory_Memory_Sizev1.look d (by omega) hx with hx | hx
    rotate_left
    · exact hx
    cases hx) (loopf := memory_Memory_atv1.loops) (by
    have e : loopsOf memory_Memory_atv1.loops 0 (codeOf Try.f21) = [] := by kernel_rfl
    rw [e]
    intro p hp
    cases hp) ((memory_Memory_atv1.eq n12 b13 n14 k).trans hx)
theorem memory_Memory_atv1.look (d : Nat) (hd : 2 ≤ d) {e : Option Bool} {g : FuncId} {a : List AV} {h : Heap} {k : KR} (hx : memory_Memory_atv1.get e g a h k = some true) : e = some true ∨ callK Try.prog ht d g a h k = some true := by
  unfold memory_Memory_atv1.get at hx
  split at hx
  · exact .inr (memory_Memory_atv1.ok d hd _ _ _ _ hx)
  · exact .inl hx
/-- function 9: (*sheerleg/memory.Memory).Load -/
def memory_Memory_Loadv1 (n10 : Int) (b11 : Bool) (k1 : Int → Bool → Bool → Option Bool) : Option Bool :=
  (memory_Memory_atv1 n10 b11 (0 : Int)
  (fun b18 b19 n20 => (k1 n20 b18 b19)))
def memory_Memory_Loadv1.get (e : Option Bool) (g : FuncId) (a : List AV) (h : Heap) (k : KR) : Option Bool := match g, a, h with
  | 9, [(.ptr [0, 0] 0 0), (.d ⟨(.int .i64), n10⟩)], [([0, 0], ⟨48, 2, (.mix [(.agg [.nils, (.d ⟨.bool, b11⟩)])])⟩)] => memory_Memory_Loadv1 n10 b11 (fun y0 y1 y2 => k (.tup [(.d ⟨(.int .i64), y0⟩), (.d ⟨.bool, y1⟩)]) [([0, 0], ⟨48, 2, (.mix [(.agg [.nils, (.d ⟨.bool, y2⟩)])])⟩)])
  | _, _, _ => e
def memory_Memory_Loadv1.calls : RecF := fun g a h k => (memory_Memory_atv1.get none g a h k)
def memory_Memory_Loadv1.loops : LoopF := fun b => none
set_option maxRecDepth 100000 in
theorem memory_Memory_Loadv1.eq (n10 : Int) (b11 : Bool) (k : KR) : execL Try.prog ht 9 (callfOf memory_Memory_Loadv1.calls) memory_Memory_Loadv1.loops 0 (codeOf Try.f9) ⟨[(.ptr [0, 0] 0 0), (.d ⟨(.int .i64), n10⟩)] ++ List.replicate (Try.f9.ntmps - ([(.ptr [0, 0] 0 0), (.d ⟨(.int .i64), n10⟩)] : List AV).length) .undef, [([0, 0], ⟨48, 2, (.mix [(.agg [.nils, (.d ⟨.bool, b11⟩)])])⟩)], 2⟩ (leave Try.prog Try.f9 k) = memory_Memory_Loadv1 n10 b11 (fun y0 y1 y2 => k (.tup [(.d ⟨(.int .i64), y0⟩), (.d ⟨.bool, y1⟩)]) [([0, 0], ⟨48, 2, (.mix [(.agg [.nils, (.d ⟨.bool, y2⟩)])])⟩)]) := by kernel_rfl
theorem memory_Memory_Loadv1.ok (d : Nat) (hd : 3 ≤ d) (n10 : Int) (b11 : Bool) (k : KR) (hx : memory_Memory_Loadv1 n10 b11 (fun y0 y1 y2 => k (.tup [(.d ⟨(.int .i64), y0⟩), (.d ⟨.bool, y1⟩)]) [([0, 0], ⟨48, 2, (.mix [(.agg [.nils, (.d ⟨.bool, y2⟩)])])⟩)]) = some true) : callK Try.prog ht d 9 [(.ptr [0, 0] 0 0), (.d ⟨(.int .i64), n10⟩)] [([0, 0], ⟨48, 2, (.mix [(.agg [.nils, (.d ⟨.bool, b11⟩)])])⟩)] k = some true := by
  obtain ⟨d, rfl⟩ : ∃ e, d = e + 1 := ⟨d - 1, by omega⟩
  exact fn_ok (c := codeOf Try.f9) Try.func9 (by kernel_rfl) (rec := memory_Memory_Loadv1.calls) (fun g a h k hx => by
    rcases memory_Memory_atv1.look d (by omega) hx with hx | hx
    rotate_left
    · exact hx
    cases hx) (loopf := memory_Memory_Loadv1.loops) (by
    have e : loopsOf memory_Memory_Loadv1.loops 0 (codeOf Try.f9) = [] := by kernel_rfl
    rw [e]
    intro p hp
    cases hp) ((memory_Memory_Loadv1.eq n10 b11 k).trans hx)
theorem memory_Memory_Loadv1.look (d : Nat) (hd : 3 ≤ d) {e : Option Bool} {g : FuncId} {a : List AV} {h : Heap} {k : KR} (hx : memory_Memory_Loadv1.get e g a h k = some true) : e = some true ∨ callK Try.prog ht d g a h k = some true := by
  unfold memory_Memory_Loadv1.get at hx
  split at hx
  · exact .inr (memory_Memory_Loadv1.ok d hd _ _ _ hx)
  · exact .inl hx
/-- function 13: (*sheerleg/memory.Memory).Grow -/
def memory_Memory_Grow (n24 : Int) (k1 : Int → Bool → Option Bool) : Option Bool :=
  (k1 (0 : Int) false)
def memory_Memory_Grow.get (e : Option Bool) (g : FuncId) (a : List AV) (h : Heap) (k : KR) : Option Bool := match g, a, h with
  | 13, [.nilp, (.d ⟨(.int .i64), n24⟩)], [] => memory_Memory_Grow n24 (fun y0 y1 => k (.tup [(.d ⟨(.int .i64), y0⟩), (.d ⟨.bool, y1⟩)]) [])
  | _, _, _ => e
def memory_Memory_Grow.calls : RecF := fun g a h k => none
def memory_Memory_Grow.loops : LoopF := fun b => none
set_option maxRecDepth 100000 in
theorem memory_Memory_Grow.eq (n24 : Int) (k : KR) : execL Try.prog ht 13 (callfOf memory_Memory_Grow.calls) memory_Memory_Grow.loops 0 (codeOf Try.f13) ⟨[.nilp, (.d ⟨(.int .i64), n24⟩)] ++ List.replicate (Try.f13.ntmps - ([.nilp, (.d ⟨(.int .i64), n24⟩)] : List AV).length) .undef, [], 2⟩ (leave Try.prog Try.f13 k) = memory_Memory_Grow n24 (fun y0 y1 => k (.tup [(.d ⟨(.int .i64), y0⟩), (.d ⟨.bool, y1⟩)]) []) := by kernel_rfl
theorem memory_Memory_Grow.ok (d : Nat) (hd : 1 ≤ d) (n24 : Int) (k : KR) (hx : memory_Memory_Grow n24 (fun y0 y1 => k (.tup [(.d ⟨(.int .i64), y0⟩), (.d ⟨.bool, y1⟩)]) []) = some true) : callK Try.prog ht d 13 [.nilp, (.d ⟨(.int .i64), n24⟩)] [] k = some true := by
  obtain ⟨d, rfl⟩ : ∃ e, d = e + 1 := ⟨d - 1, by omega⟩
  exact fn_ok (c := codeOf Try.f13) Try.func13 (by kernel_rfl) (rec := memory_Memory_Grow.calls) (fun g a h k hx => by
    cases hx) (loopf := memory_Memory_Grow.loops) (by
    have e : loopsOf memory_Memory_Grow.loops 0 (codeOf Try.f13) = [] := by kernel_rfl
    rw [e]
    intro p hp
    cases hp) ((memory_Memory_Grow.eq n24 k).trans hx)
theorem memory_Memory_Grow.look (d : Nat) (hd : 1 ≤ d) {e : Option Bool} {g : FuncId} {a : List AV} {h : Heap} {k : KR} (hx : memory_Memory_Grow.get e g a h k = some true) : e = some true ∨ callK Try.prog ht d g a h k = some true := by
  unfold memory_Memory_Grow.get at hx
  split at hx
  · exact .inr (memory_Memory_Grow.ok d hd _ _ hx)
  · exact .inl hx
/-- function 13: (*sheerleg/memory.Memory).Grow -/
def memory_Memory_Growv1 (n27 : Int) (b28 : Bool) (k1 : Int → Bool → Bool → Option Bool) (k2 : Int → Bool → Bool → (List Int) → Option Bool) : Option Bool :=
  (cond_ (! (! b28)) (cond_ (! (decide (n27 < (1 : Int)))) (cond_ (decide (n27 > (4194304 : Int))) (k1 (0 : Int) false b28) (cond_ ((decide ((0 : Int) ≤ n27)) && (Nat.ble ((Int.toNat n27) * (8 : Nat)) (140737488355328 : Nat))) (k2 (0 : Int) true b28 (List.replicate (Int.toNat n27) (0 : Int))) none)) (k1 (0 : Int) false b28)) (k1 (0 : Int) false b28))
def memory_Memory_Growv1.get (e : Option Bool) (g : FuncId) (a : List AV) (h : Heap) (k : KR) : Option Bool := match g, a, h with
  | 13, [(.ptr [0, 0] 0 0), (.d ⟨(.int .i64), n27⟩)], [([0, 0], ⟨48, 2, (.mix [(.agg [.nils, (.d ⟨.bool, b28⟩)])])⟩)] => memory_Memory_Growv1 n27 b28 (fun y0 y1 y2 => k (.tup [(.d ⟨(.int .i64), y0⟩), (.d ⟨.bool, y1⟩)]) [([0, 0], ⟨48, 2, (.mix [(.agg [.nils, (.d ⟨.bool, y2⟩)])])⟩)]) (fun y0 y1 y2 y3 => k (.tup [(.d ⟨(.int .i64), y0⟩), (.d ⟨.bool, y1⟩)]) [([0, 0], ⟨48, 2, (.mix [(.agg [(.ref [1, 0]), (.d ⟨.bool, y2⟩)])])⟩), ([1, 0], ⟨2, 1, (.data (.int .i64) y3)⟩)])
  | _, _, _ => e
def memory_Memory_Growv1.calls : RecF := fun g a h k => none
def memory_Memory_Growv1.loops : LoopF := fun b => none
set_option maxRecDepth 100000 in
theorem memory_Memory_Growv1.eq (n27 : Int) (b28 : Bool) (k : KR) : execL Try.prog ht 13 (callfOf memory_Memory_Growv1.calls) memory_Memory_Growv1.loops 0 (codeOf Try.f13) ⟨[(.ptr [0, 0] 0 0), (.d ⟨(.int .i64), n27⟩)] ++ List.replicate (Try.f13.ntmps - ([(.ptr [0, 0] 0 0), (.d ⟨(.int .i64), n27⟩)] : List AV).length) .undef, [([0, 0], ⟨48, 2, (.mix [(.agg [.nils, (.d ⟨.bool, b28⟩)])])⟩)], 2⟩ (leave Try.prog Try.f13 k) = memory_Memory_Growv1 n27 b28 (fun y0 y1 y2 => k (.tup [(.d ⟨(.int .i64), y0⟩), (.d ⟨.bool, y1⟩)]) [([0, 0], ⟨48, 2, (.mix [(.agg [.nils, (.d ⟨.bool, y2⟩)])])⟩)]) (fun y0 y1 y2 y3 => k (.tup [(.d ⟨(.int .i64), y0⟩), (.d ⟨.bool, y1⟩)]) [([0, 0], ⟨48, 2, (.mix [(.agg [(.ref [1, 0]), (.d ⟨.bool, y2⟩)])])⟩), ([1, 0], ⟨2, 1, (.data (.int .i64) y3)⟩)]) := by kernel_rfl
theorem memory_Memory_Growv1.ok (d : Nat) (hd : 1 ≤ d) (n27 : Int) (b28 : Bool) (k : KR) (hx : memory_Memory_Growv1 n27 b28 (fun y0 y1 y2 => k (.tup [(.d ⟨(.int .i64), y0⟩), (.d ⟨.bool, y1⟩)]) [([0, 0], ⟨48, 2, (.mix [(.agg [.nils, (.d ⟨.bool, y2⟩)])])⟩)]) (fun y0 y1 y2 y3 => k (.tup [(.d ⟨(.int .i64), y0⟩), (.d ⟨.bool, y1⟩)]) [([0, 0], ⟨48, 2, (.mix [(.agg [(.ref [1, 0]), (.d ⟨.bool, y2⟩)])])⟩), ([1, 0], ⟨2, 1, (.data (.int .i64) y3)⟩)]) = some true) : callK Try.prog ht d 13 [(.ptr [0, 0] 0 0), (.d ⟨(.int .i64), n27⟩)] [([0, 0], ⟨48, 2, (.mix [(.agg [.nils, (.d ⟨.bool, b28⟩)])])⟩)] k = some true := by
  obtain ⟨d, rfl⟩ : ∃ e, d = e + 1 := ⟨d - 1, by omega⟩
  exact fn_ok (c := codeOf Try.f13) Try.func13 (by kernel_rfl) (rec := memory_Memory_Growv1.calls) (fun g a h k hx => by
    cases hx) (loopf := memory_Memory_Growv1.loops) (by
    have e : loopsOf memory_Memory_Growv1.loops 0 (codeOf Try.f13) = [] := by kernel_rfl
    rw [e]
    intro p hp
    cases hp) ((memory_Memory_Growv1.eq n27 b28 k).trans hx)
theorem memory_Memory_Growv1.look (d : Nat) (hd : 1 ≤ d) {e : Option Bool} {g : FuncId} {a : List AV} {h : Heap} {k : KR} (hx : memory_Memory_Growv1.get e g a h k = some true) : e = some true ∨ callK Try.prog ht d g a h k = some true := by
  unfold memory_Memory_Growv1.get at hx
  split at hx
  · exact .inr (memory_Memory_Growv1.ok d hd _ _ _ hx)
  · exact .inl hx
/-- function 17: (*sheerleg/memory.Memory).Item -/
def memory_Memory_Item (n32 : Int) (n33 : Int) (k1 : Int → Int → Option Bool) : Option Bool :=
  (memory_Memory_Load n32
  (fun n34 b35 => (cond_ (! b35) (k1 (0 : Int) (2 : Int)) (cond_ (! (decide (n33 < (0 : Int)))) (cond_ (decide (n33 ≥ n34)) (k1 (0 : Int) (1 : Int)) (memory_Memory_Size
  (fun n36 => (cond_ (decide (n33 ≥ (IntKind.wrap .i64 ((IntKind.wrap .i64 (n36 - (1 : Int))) - n32)))) (k1 (0 : Int) (2 : Int)) (k1 (IntKind.wrap .i64 ((IntKind.wrap .i64 (n32 + (1 : Int))) + n33)) (0 : Int)))))) (k1 (0 : Int) (1 : Int))))))
def memory_Memory_Item.get (e : Option Bool) (g : FuncId) (a : List AV) (h : Heap) (k : KR) : Option Bool := match g, a, h with
  | 17, [.nilp, (.d ⟨(.int .i64), n32⟩), (.d ⟨(.int .i64), n33⟩)], [] => memory_Memory_Item n32 n33 (fun y0 y1 => k (.tup [(.d ⟨(.int .i64), y0⟩), (.d ⟨(.int .i64), y1⟩)]) [])
  | _, _, _ => e
def memory_Memory_Item.calls : RecF := fun g a h k => (memory_Memory_Load.get (memory_Memory_Size.get none g a h k) g a h k)
def memory_Memory_Item.loops : LoopF := fun b => none
set_option maxRecDepth 100000 in
theorem memory_Memory_Item.eq (n32 : Int) (n33 : Int) (k : KR) : execL Try.prog ht 17 (callfOf memory_Memory_Item.calls) memory_Memory_Item.loops 0 (codeOf Try.f17) ⟨[.nilp, (.d ⟨(.int .i64), n32⟩), (.d ⟨(.int .i64), n33⟩)] ++ List.replicate (Try.f17.ntmps - ([.nilp, (.d ⟨(.int .i64), n32⟩), (.d ⟨(.int .i64), n33⟩)] : List AV).length) .undef, [], 2⟩ (leave Try.prog Try.f17 k) = memory_Memory_Item n32 n33 (fun y0 y1 => k (.tup [(.d ⟨(.int .i64), y0⟩), (.d ⟨(.int .i64), y1⟩)]) []) := by kernel_rfl
theorem memory_Memory_Item.ok (d : Nat) (hd : 4 ≤ d) (n32 : Int) (n33 : Int) (k : KR) (hx : memory_Memory_Item n32 n33 (fun y0 y1 => k (.tup [(.d ⟨(.int .i64), y0⟩), (.d ⟨(.int .i64), y1⟩)]) []) = some true) : callK Try.prog ht d 17 [.nilp, (.d ⟨(.int .i64), n32⟩), (.d ⟨(.int .i64), n33⟩)] [] k = some true := by
  obtain ⟨d, rfl⟩ : ∃ e, d = e + 1 := ⟨d - 1, by omega⟩
  exact fn_ok (c := codeOf Try.f17) Try.func17 (by kernel_rfl) (rec := memory_Memory_Item.calls) (fun g a h k hx => by
    rcases memory_Memory_Load.look d (by omega) hx with hx | hx
    rotate_left
    · exact hx
    rcases memory_Memory_Size.look d (by omega) hx with hx | hx
    rotate_left
    · exact hx
    cases hx) (loopf := memory_Memory_Item.loops) (by
    have e : loopsOf memory_Memory_Item.loops 0 (codeOf Try.f17) = [] := by kernel_rfl
    rw [e]
    intro p hp
    cases hp) ((memory_Memory_Item.eq n32 n33 k).trans hx)
theorem memory_Memory_Item.look (d : Nat) (hd : 4 ≤ d) {e : Option Bool} {g : FuncId} {a : List AV} {h : Heap} {k : KR} (hx : memory_Memory_Item.get e g a h k = some true) : e = some true ∨ callK Try.prog ht d g a h k = some true := by
  unfold memory_Memory_Item.get at hx
  split at hx
  · exact .inr (memory_Memory_Item.ok d hd _ _ _ hx)
  · exact .inl hx
/-- function 17: (*sheerleg/memory.Memory).Item -/
def memory_Memory_Itemv1 (n39 : Int) (n40 : Int) (b41 : Bool) (k1 : Int → Int → Bool → Option Bool) : Option Bool :=
  (memory_Memory_Loadv1 n39 b41
  (fun n42 b43 b44 => (cond_ (! b43) (k1 (0 : Int) (2 : Int) b44) (cond_ (! (decide (n40 < (0 : Int)))) (cond_ (decide (n40 ≥ n42)) (k1 (0 : Int) (1 : Int) b44) (memory_Memory_Sizev1 b44
  (fun n45 b46 => (cond_ (decide (n40 ≥ (IntKind.wrap .i64 ((IntKind.wrap .i64 (n45 - (1 : Int))) - n39)))) (k1 (0 : Int) (2 : Int) b46) (k1 (IntKind.wrap .i64 ((IntKind.wrap .i64 (n39 + (1 : Int))) + n40)) (0 : Int) b46))))) (k1 (0 : Int) (1 : Int) b44)))))
def memory_Memory_Itemv1.get (e : Option Bool) (g : FuncId) (a : List AV) (h : Heap) (k : KR) : Option Bool := match g, a, h with
  | 17, [(.ptr [0, 0] 0 0), (.d ⟨(.int .i64), n39⟩), (.d ⟨(.int .i64), n40⟩)], [([0, 0], ⟨48, 2, (.mix [(.agg [.nils, (.d ⟨.bool, b41⟩)])])⟩)] => memory_Memory_Itemv1 n39 n40 b41 (fun y0 y1 y2 => k (.tup [(.d ⟨(.int .i64), y0⟩), (.d ⟨(.int .i64), y1⟩)]) [([0, 0], ⟨48, 2, (.mix [(.agg [.nils, (.d ⟨.bool, y2⟩)])])⟩)])
  | _, _, _ => e
def memory_Memory_Itemv1.calls : RecF := fun g a h k => (memory_Memory_Loadv1.get (memory_Memory_Sizev1.get none g a h k) g a h k)
def memory_Memory_Itemv1.loops : LoopF := fun b => none
set_option maxRecDepth 100000 in
theorem memory_Memory_Itemv1.eq (n39 : Int) (n40 : Int) (b41 : Bool) (k : KR) : execL Try.prog ht 17 (callfOf memory_Memory_Itemv1.calls) memory_Memory_Itemv1.loops 0 (codeOf Try.f17) ⟨[(.ptr [0, 0] 0 0), (.d ⟨(.int .i64), n39⟩), (.d ⟨(.int .i64), n40⟩)] ++ List.replicate (Try.f17.ntmps - ([(.ptr [0, 0] 0 0), (.d ⟨(.int .i64), n39⟩), (.d ⟨(.int .i64), n40⟩)] : List AV).length) .undef, [([0, 0], ⟨48, 2, (.mix [(.agg [.nils, (.d ⟨.bool, b41⟩)])])⟩)], 2⟩ (leave Try.prog Try.f17 k) = memory_Memory_Itemv1 n39 n40 b41 (fun y0 y1 y2 => k (.tup [(.d ⟨(.int .i64), y0⟩), (.d ⟨(.int .i64), y1⟩)]) [([0, 0], ⟨48, 2, (.mix [(.agg [.nils, (.d ⟨.bool, y2⟩)])])⟩)]) := by kernel_rfl
theorem memory_Memory_Itemv1.ok (d : Nat) (hd : 4 ≤ d) (n39 : Int) (n40 : Int) (b41 : Bool) (k : KR) (hx : memory_Memory_Itemv1 n39 n40 b41 (fun y0 y1 y2 => k (.tup [(.d ⟨(.int .i64), y0⟩), (.d ⟨(.int .i64), y1⟩)]) [([0, 0], ⟨48, 2, (.mix [(.agg [.nils, (.d ⟨.bool, y2⟩)])])⟩)]) = some true) : callK Try.prog ht d 17 [(.ptr [0, 0] 0 0), (.d ⟨(.int .i64), n39⟩), (.d ⟨(.int .i64), n40⟩)] [([0, 0], ⟨48, 2, (.mix [(.agg [.nils, (.d ⟨.bool, b41⟩)])])⟩)] k = some true := by
  obtain ⟨d, rfl⟩ : ∃ e, d = e + 1 := ⟨d - 1, by omega⟩
  exact fn_ok (c := codeOf Try.f17) Try.func17 (by kernel_rfl) (rec := memory_Memory_Itemv1.calls) (fun g a h k hx => by
    rcases memory_Memory_Loadv1.look d (by omega) hx with hx | hx
    rotate_left
    · exact hx
    rcases memory_Memory_Sizev1.look d (by omega) hx with hx | hx
    rotate_left
    · exact hx
    cases hx) (loopf := memory_Memory_Itemv1.loops) (by
    have e : loopsOf memory_Memory_Itemv1.loops 0 (codeOf Try.f17) = [] := by kernel_rfl
    rw [e]
    intro p hp
    cases hp) ((memory_Memory_Itemv1.eq n39 n40 b41 k).trans hx)
theorem memory_Memory_Itemv1.look (d : Nat) (hd : 4 ≤ d) {e : Option Bool} {g : FuncId} {a : List AV} {h : Heap} {k : KR} (hx : memory_Memory_Itemv1.get e g a h k = some true) : e = some true ∨ callK Try.prog ht d g a h k = some true := by
  unfold memory_Memory_Itemv1.get at hx
  split at hx
  · exact .inr (memory_Memory_Itemv1.ok d hd _ _ _ _ hx)
  · exact .inl hx
/-- function 21: (*sheerleg/memory.Memory).at -/
def memory_Memory_atv2 (n55 : Int) (n56 : Int) (k1 : Bool → Int → Option Bool) : Option Bool :=
  (cond_ (! (decide (n55 < (0 : Int)))) (memory_Memory_Size
  (fun n57 => (cond_ (decide (n55 ≥ n57)) (k1 false n56) none))) (k1 false n56))
def memory_Memory_atv2.get (e : Option Bool) (g : FuncId) (a : List AV) (h : Heap) (k : KR) : Option Bool := match g, a, h with
  | 21, [.nilp, (.d ⟨(.int .i64), n55⟩), (.fn (.func 23) [] [(.ptr [0, 0] 0 0)])], [([0, 0], ⟨2, 1, (.data (.int .i64) [n56])⟩)] => memory_Memory_atv2 n55 n56 (fun y0 y1 => k (.d ⟨.bool, y0⟩) [([0, 0], ⟨2, 1, (.data (.int .i64) [y1])⟩)])
  | _, _, _ => e
def memory_Memory_atv2.calls : RecF := fun g a h k => (memory_Memory_Size.get none g a h k)
def memory_Memory_atv2.loops : LoopF := fun b => none
set_option maxRecDepth 100000 in
theorem memory_Memory_atv2.eq (n55 : Int) (n56 : Int) (k : KR) : execL Try.prog ht 21 (callfOf memory_Memory_atv2.calls) memory_Memory_atv2.loops 0 (codeOf Try.f21) ⟨[.nilp, (.d ⟨(.int .i64), n55⟩), (.fn (.func 23) [] [(.ptr [0, 0] 0 0)])] ++ List.replicate (Try.f21.ntmps - ([.nilp, (.d ⟨(.int .i64), n55⟩), (.fn (.func 23) [] [(.ptr [0, 0] 0 0)])] : List AV).length) .undef, [([0, 0], ⟨2, 1, (.data (.int .i64) [n56])⟩)], 2⟩ (leave Try.prog Try.f21 k) = memory_Memory_atv2 n55 n56 (fun y0 y1 => k (.d ⟨.bool, y0⟩) [([0, 0], ⟨2, 1, (.data (.int .i64) [y1])⟩)]) := by kernel_rfl
theorem memory_Memory_atv2.ok (d : Nat) (hd : 2 ≤ d) (n55 : Int) (n56 : Int) (k : KR) (hx : memory_Memory_atv2 n55 n56 (fun y0 y1 => k (.d ⟨.bool, y0⟩) [([0, 0], ⟨2, 1, (.data (.int .i64) [y1])⟩)]) = some true) : callK Try.prog ht d 21 [.nilp, (.d ⟨(.int .i64), n55⟩), (.fn (.func 23) [] [(.ptr [0, 0] 0 0)])] [([0, 0], ⟨2, 1, (.data (.int .i64) [n56])⟩)] k = some true := by
  obtain ⟨d, rfl⟩ : ∃ e, d = e + 1 := ⟨d - 1, by omega⟩
  exact fn_ok (c := codeOf Try.f21) Try.func21 (by kernel_rfl) (rec := memory_Memory_atv2.calls) (fun g a h k hx => by
    rcases memory_Memory_Size.look d (by omega) hx with hx | hx
    rotate_left
    · exact hx
    cases hx) (loopf := memory_Memory_atv2.loops) (by
    have e : loopsOf memory_Memory_atv2.loops 0 (codeOf Try.f21) = [] := by kernel_rfl
    rw [e]
    intro p hp
    cases hp) ((memory_Memory_atv2.eq n55 n56 k).trans hx)
theorem memory_Memory_atv2.look (d : Nat) (hd : 2 ≤ d) {e : Option Bool} {g : FuncId} {a : List AV} {h : Heap} {k : KR} (hx : memory_Memory_atv2.get e g a h k = some true) : e = some true ∨ callK Try.prog ht d g a h k = some true := by
  unfold memory_Memory_atv2.get at hx
  split at hx
  · exact .inr (memory_Memory_atv2.ok d hd _ _ _ hx)
  · exact .inl hx
/-- function 12: (*sheerleg/memory.Memory).Store -/
def memory_Memory_Store (n53 : Int) (n54 : Int) (k1 : Bool → Option Bool) : Option Bool :=
  (memory_Memory_atv2 n53 n54
  (fun b58 n59 => (k1 b58)))
def memory_Memory_Store.get (e : Option Bool) (g : FuncId) (a : List AV) (h : Heap) (k : KR) : Option Bool := match g, a, h with
  | 12, [.nilp, (.d ⟨(.int .i64), n53⟩), (.d ⟨(.int .i64), n54⟩)], [] => memory_Memory_Store n53 n54 (fun y0 => k (.d ⟨.bool, y0⟩) [])
  | _, _, _ => e
def memory_Memory_Store.calls : RecF := fun g a h k => (memory_Memory_atv2.get none g a h k)
def memory_Memory_Store.loops : LoopF := fun b => none
set_option maxRecDepth 100000 in
theorem memory_Memory_Store.eq (n53 : Int) (n54 : Int) (k : KR) : execL Try.prog ht 12 (callfOf memory_Memory_Store.calls) memory_Memory_Store.loops 0 (codeOf Try.f12) ⟨[.nilp, (.d ⟨(.int .i64), n53⟩), (.d ⟨(.int .i64), n54⟩)] ++ List.replicate (Try.f12.ntmps - ([.nilp, (.d ⟨(.int .i64), n53⟩), (.d ⟨(.int .i64), n54⟩)] : List AV).length) .undef, [], 2⟩ (leave Try.prog Try.f12 k) = memory_Memory_Store n53 n54 (fun y0 => k (.d ⟨.bool, y0⟩) []) := by kernel_rfl
theorem memory_Memory_Store.ok (d : Nat) (hd : 3 ≤ d) (n53 : Int) (n54 : Int) (k : KR) (hx : memory_Memory_Store n53 n54 (fun y0 => k (.d ⟨.bool, y0⟩) []) = some true) : callK Try.prog ht d 12 [.nilp, (.d ⟨(.int .i64), n53⟩), (.d ⟨(.int .i64), n54⟩)] [] k = some true := by
  obtain ⟨d, rfl⟩ : ∃ e, d = e + 1 := ⟨d - 1, by omega⟩
  exact fn_ok (c := codeOf Try.f12) Try.func12 (by kernel_rfl) (rec := memory_Memory_Store.calls) (fun g a h k hx => by
    rcases memory_Memory_atv2.look d (by omega) hx with hx | hx
    rotate_left
    · exact hx
    cases hx) (loopf := memory_Memory_Store.loops) (by
    have e : loopsOf memory_Memory_Store.loops 0 (codeOf Try.f12) = [] := by kernel_rfl
    rw [e]
    intro p hp
    cases hp) ((memory_Memory_Store.eq n53 n54 k).trans hx)
theorem memory_Memory_Store.look (d : Nat) (hd : 3 ≤ d) {e : Option Bool} {g : FuncId} {a : List AV} {h : Heap} {k : KR} (hx : memory_Memory_Store.get e g a h k = some true) : e = some true ∨ callK Try.prog ht d g a h k = some true := by
  unfold memory_Memory_Store.get at hx
  split at hx
  · exact .inr (memory_Memory_Store.ok d hd _ _ _ hx)
  · exact .inl hx
/-- function 21: (*sheerleg/memory.Memory).at -/
def memory_Memory_atv3 (n64 : Int) (b65 : Bool) (n66 : Int) (k1 : Bool → Bool → Int → Option Bool) : Option Bool :=
  (cond_ (! (decide (n64 < (0 : Int)))) (memory_Memory_Sizev1 b65
  (fun n67 b68 => (cond_ (decide (n64 ≥ n67)) (k1 false b68 n66) none))) (k1 false b65 n66))
def memory_Memory_atv3.get (e : Option Bool) (g : FuncId) (a : List AV) (h : Heap) (k : KR) : Option Bool := match g, a, h with
  | 21, [(.ptr [0, 0] 0 0), (.d ⟨(.int .i64), n64⟩), (.fn (.func 23) [] [(.ptr [0, 1] 0 0)])], [([0, 0], ⟨48, 2, (.mix [(.agg [.nils, (.d ⟨.bool, b65⟩)])])⟩), ([0, 1], ⟨2, 1, (.data (.int .i64) [n66])⟩)] => memory_Memory_atv3 n64 b65 n66 (fun y0 y1 y2 => k (.d ⟨.bool, y0⟩) [([0, 0], ⟨48, 2, (.mix [(.agg [.nils, (.d ⟨.bool, y1⟩)])])⟩), ([0, 1], ⟨2, 1, (.data (.int .i64) [y2])⟩)])
  | _, _, _ => e
def memory_Memory_atv3.calls : RecF := fun g a h k => (memory_Memory_Sizev1.get none g a h k)
def memory_Memory_atv3.loops : LoopF := fun b => none
set_option maxRecDepth 100000 in
theorem memory_Memory_atv3.eq (n64 : Int) (b65 : Bool) (n66 : Int) (k : KR) : execL Try.prog ht 21 (callfOf memory_Memory_atv3.calls) memory_Memory_atv3.loops 0 (codeOf Try.f21) ⟨[(.ptr [0, 0] 0 0), (.d ⟨(.int .i64), n64⟩), (.fn (.func 23) [] [(.ptr [0, 1] 0 0)])] ++ List.replicate (Try.f21.ntmps - ([(.ptr [0, 0] 0 0), (.d ⟨(.int .i64), n64⟩), (.fn (.func 23) [] [(.ptr [0, 1] 0 0)])] : List AV).length) .undef, [([0, 0], ⟨48, 2, (.mix [(.agg [.nils, (.d ⟨.bool, b65⟩)])])⟩), ([0, 1], ⟨2, 1, (.data (.int .i64) [n66])⟩)], 2⟩ (leave Try.prog Try.f21 k) = memory_Memory_atv3 n64 b65 n66 (fun y0 y1 y2 => k (.d ⟨.bool, y0⟩) [([0, 0], ⟨48, 2, (.mix [(.agg [.nils, (.d ⟨.bool, y1⟩)])])⟩), ([0, 1], ⟨2, 1, (.data (.int .i64) [y2])⟩)]) := by kernel_rfl
theorem memory_Memory_atv3.ok (d : Nat) (hd : 2 ≤ d) (n64 : Int) (b65 : Bool) (n66 : Int) (k : KR) (hx : memory_Memory_atv3 n64 b65 n66 (fun y0 y1 y2 => k (.d ⟨.bool, y0⟩) [([0, 0], ⟨48, 2, (.mix [(.agg [.nils, (.d ⟨.bool, y1⟩)])])⟩), ([0, 1], ⟨2, 1, (.data (.int .i64) [y2])⟩)]) = some true) : callK Try.prog ht d 21 [(.ptr [0, 0] 0 0), (.d ⟨(.int .i64), n64⟩), (.fn (.func 23) [] [(.ptr [0, 1] 0 0)])] [([0, 0], ⟨48, 2, (.mix [(.agg [.nils, (.d ⟨.bool, b65⟩)])])⟩), ([0, 1], ⟨2, 1, (.data (.int .i64) [n66])⟩)] k = some true := by
  obtain ⟨d, rfl⟩ : ∃ e, d = e + 1 := ⟨d - 1, by omega⟩
  exact fn_ok (c := codeOf Try.f21) Try.func21 (by kernel_rfl) (rec := memory_Memory_atv3.calls) (fun g a h k hx => by
    rcases memory_Memory_Sizev1.look d (by omega) hx with hx | hx
    rotate_left
    · exact hx
    cases hx) (loopf := memory_Memory_atv3.loops) (by
    have e : loopsOf memory_Memory_atv3.loops 0 (codeOf Try.f21) = [] := by kernel_rfl
    rw [e]
    intro p hp
    cases hp) ((memory_Memory_atv3.eq n64 b65 n66 k).trans hx)
theorem memory_Memory_atv3.look (d : Nat) (hd : 2 ≤ d) {e : Option Bool} {g : FuncId} {a : List AV} {h : Heap} {k : KR} (hx : memory_Memory_atv3.get e g a h k = some true) : e = some true ∨ callK Try.prog ht d g a h k = some true := by
  unfold memory_Memory_atv3.get at hx
  split at hx
  · exact .inr (memory_Memory_atv3.ok d hd _ _ _ _ hx)
  · exact .inl hx
/-- function 12: (*sheerleg/memory.Memory).Store -/
def memory_Memory_Storev1 (n61 : Int) (n62 : Int) (b63 : Bool) (k1 : Bool → Bool → Option Bool) : Option Bool :=
  (memory_Memory_atv3 n61 b63 n62
  (fun b69 b70 n71 => (k1 b69 b70)))
def memory_Memory_Storev1.get (e : Option Bool) (g : FuncId) (a : List AV) (h : Heap) (k : KR) : Option Bool := match g, a, h with
  | 12, [(.ptr [0, 0] 0 0), (.d ⟨(.int .i64), n61⟩), (.d ⟨(.int .i64), n62⟩)], [([0, 0], ⟨48, 2, (.mix [(.agg [.nils, (.d ⟨.bool, b63⟩)])])⟩)] => memory_Memory_Storev1 n61 n62 b63 (fun y0 y1 => k (.d ⟨.bool, y0⟩) [([0, 0], ⟨48, 2, (.mix [(.agg [.nils, (.d ⟨.bool, y1⟩)])])⟩)])
  | _, _, _ => e
def memory_Memory_Storev1.calls : RecF := fun g a h k => (memory_Memory_atv3.get none g a h k)
def memory_Memory_Storev1.loops : LoopF := fun b => none
set_option maxRecDepth 100000 in
theorem memory_Memory_Storev1.eq (n61 : Int) (n62 : Int) (b63 : Bool) (k : KR) : execL Try.prog ht 12 (callfOf memory_Memory_Storev1.calls) memory_Memory_Storev1.loops 0 (codeOf Try.f12) ⟨[(.ptr [0, 0] 0 0), (.d ⟨(.int .i64), n61⟩), (.d ⟨(.int .i64), n62⟩)] ++ List.replicate (Try.f12.ntmps - ([(.ptr [0, 0] 0 0), (.d ⟨(.int .i64), n61⟩), (.d ⟨(.int .i64), n62⟩)] : List AV).length) .undef, [([0, 0], ⟨48, 2, (.mix [(.agg [.nils, (.d ⟨.bool, b63⟩)])])⟩)], 2⟩ (leave Try.prog Try.f12 k) = memory_Memory_Storev1 n61 n62 b63 (fun y0 y1 => k (.d ⟨.bool, y0⟩) [([0, 0], ⟨48, 2, (.mix [(.agg [.nils, (.d ⟨.bool, y1⟩)])])⟩)]) := by kernel_rfl
theorem memory_Memory_Storev1.ok (d : Nat) (hd : 3 ≤ d) (n61 : Int) (n62 : Int) (b63 : Bool) (k : KR) (hx : memory_Memory_Storev1 n61 n62 b63 (fun y0 y1 => k (.d ⟨.bool, y0⟩) [([0, 0], ⟨48, 2, (.mix [(.agg [.nils, (.d ⟨.bool, y1⟩)])])⟩)]) = some true) : callK Try.prog ht d 12 [(.ptr [0, 0] 0 0), (.d ⟨(.int .i64), n61⟩), (.d ⟨(.int .i64), n62⟩)] [([0, 0], ⟨48, 2, (.mix [(.agg [.nils, (.d ⟨.bool, b63⟩)])])⟩)] k = some true := by
  obtain ⟨d, rfl⟩ : ∃ e, d = e + 1 := ⟨d - 1, by omega⟩
  exact fn_ok (c := codeOf Try.f12) Try.func12 (by kernel_rfl) (rec := memory_Memory_Storev1.calls) (fun g a h k hx => by
    rcases memory_Memory_atv3.look d (by omega) hx with hx | hx
    rotate_left
    · exact hx
    cases hx) (loopf := memory_Memory_Storev1.loops) (by
    have e : loopsOf memory_Memory_Storev1.loops 0 (codeOf Try.f12) = [] := by kernel_rfl
    rw [e]
    intro p hp
    cases hp) ((memory_Memory_Storev1.eq n61 n62 b63 k).trans hx)
theorem memory_Memory_Storev1.look (d : Nat) (hd : 3 ≤ d) {e : Option Bool} {g : FuncId} {a : List AV} {h : Heap} {k : KR} (hx : memory_Memory_Storev1.get e g a h k = some true) : e = some true ∨ callK Try.prog ht d g a h k = some true := by
  unfold memory_Memory_Storev1.get at hx
  split at hx
  · exact .inr (memory_Memory_Storev1.ok d hd _ _ _ _ hx)
  · exact .inl hx
/-- function 16: (*sheerleg/memory.Memory).Copy -/
def memory_Memory_Copy (n74 : Int) (n75 : Int) (n76 : Int) (k1 : Bool → Option Bool) : Option Bool :=
  (k1 false)
def memory_Memory_Copy.get (e : Option Bool) (g : FuncId) (a : List AV) (h : Heap) (k : KR) : Option Bool := match g, a, h with
  | 16, [.nilp, (.d ⟨(.int .i64), n74⟩), (.d ⟨(.int .i64), n75⟩), (.d ⟨(.int .i64), n76⟩)], [] => memory_Memory_Copy n74 n75 n76 (fun y0 => k (.d ⟨.bool, y0⟩) [])
  | _, _, _ => e
def memory_Memory_Copy.calls : RecF := fun g a h k => none
def memory_Memory_Copy.loops : LoopF := fun b => none
set_option maxRecDepth 100000 in
theorem memory_Memory_Copy.eq (n74 : Int) (n75 : Int) (n76 : Int) (k : KR) : execL Try.prog ht 16 (callfOf memory_Memory_Copy.calls) memory_Memory_Copy.loops 0 (codeOf Try.f16) ⟨[.nilp, (.d ⟨(.int .i64), n74⟩), (.d ⟨(.int .i64), n75⟩), (.d ⟨(.int .i64), n76⟩)] ++ List.replicate (Try.f16.ntmps - ([.nilp, (.d ⟨(.int .i64), n74⟩), (.d ⟨(.int .i64), n75⟩), (.d ⟨(.int .i64), n76⟩)] : List AV).length) .undef, [], 2⟩ (leave Try.prog Try.f16 k) = memory_Memory_Copy n74 n75 n76 (fun y0 => k (.d ⟨.bool, y0⟩) []) := by kernel_rfl
theorem memory_Memory_Copy.ok (d : Nat) (hd : 1 ≤ d) (n74 : Int) (n75 : Int) (n76 : Int) (k : KR) (hx : memory_Memory_Copy n74 n75 n76 (fun y0 => k (.d ⟨.bool, y0⟩) []) = some true) : callK Try.prog ht d 16 [.nilp, (.d ⟨(.int .i64), n74⟩), (.d ⟨(.int .i64), n75⟩), (.d ⟨(.int .i64), n76⟩)] [] k = some true := by
  obtain ⟨d, rfl⟩ : ∃ e, d = e + 1 := ⟨d - 1, by omega⟩
  exact fn_ok (c := codeOf Try.f16) Try.func16 (by kernel_rfl) (rec := memory_Memory_Copy.calls) (fun g a h k hx => by
    cases hx) (loopf := memory_Memory_Copy.loops) (by
    have e : loopsOf memory_Memory_Copy.loops 0 (codeOf Try.f16) = [] := by kernel_rfl
    rw [e]
    intro p hp
    cases hp) ((memory_Memory_Copy.eq n74 n75 n76 k).trans hx)
theorem memory_Memory_Copy.look (d : Nat) (hd : 1 ≤ d) {e : Option Bool} {g : FuncId} {a : List AV} {h : Heap} {k : KR} (hx : memory_Memory_Copy.get e g a h k = some true) : e = some true ∨ callK Try.prog ht d g a h k = some true := by
  unfold memory_Memory_Copy.get at hx
  split at hx
  · exact .inr (memory_Memory_Copy.ok d hd _ _ _ _ hx)
  · exact .inl hx
/-- function 25: (*sheerleg/memory.Memory).Copy$1 -/
def memory_Memory_Copyfn1 (n82 : Int) (b83 : Bool) (n84 : Int) (k1 : Bool → Bool → Int → Option Bool) : Option Bool :=
  (cond_ (decide (n82 ≥ (0 : Int))) (cond_ (decide (n82 ≤ (0 : Int))) (k1 (decide (n84 ≤ (IntKind.wrap .i64 ((0 : Int) - n82)))) b83 n84) (k1 false b83 n84)) (k1 false b83 n84))
def memory_Memory_Copyfn1.get (e : Option Bool) (g : FuncId) (a : List AV) (h : Heap) (k : KR) : Option Bool := match g, a, h with
  | 25, [(.d ⟨(.int .i64), n82⟩), (.ptr [0, 0] 0 0), (.ptr [0, 2] 0 0)], [([0, 0], ⟨25, 1, (.mix [(.ptr [0, 1] 0 0)])⟩), ([0, 1], ⟨48, 2, (.mix [(.agg [.nils, (.d ⟨.bool, b83⟩)])])⟩), ([0, 2], ⟨3, 1, (.data (.int .i64) [n84])⟩)] => memory_Memory_Copyfn1 n82 b83 n84 (fun y0 y1 y2 => k (.d ⟨.bool, y0⟩) [([0, 0], ⟨25, 1, (.mix [(.ptr [0, 1] 0 0)])⟩), ([0, 1], ⟨48, 2, (.mix [(.agg [.nils, (.d ⟨.bool, y1⟩)])])⟩), ([0, 2], ⟨3, 1, (.data (.int .i64) [y2])⟩)])
  | _, _, _ => e
def memory_Memory_Copyfn1.calls : RecF := fun g a h k => none
def memory_Memory_Copyfn1.loops : LoopF := fun b => none
set_option maxRecDepth 100000 in
theorem memory_Memory_Copyfn1.eq (n82 : Int) (b83 : Bool) (n84 : Int) (k : KR) : execL Try.prog ht 25 (callfOf memory_Memory_Copyfn1.calls) memory_Memory_Copyfn1.loops 0 (codeOf Try.f25) ⟨[(.d ⟨(.int .i64), n82⟩), (.ptr [0, 0] 0 0), (.ptr [0, 2] 0 0)] ++ List.replicate (Try.f25.ntmps - ([(.d ⟨(.int .i64), n82⟩), (.ptr [0, 0] 0 0), (.ptr [0, 2] 0 0)] : List AV).length) .undef, [([0, 0], ⟨25, 1, (.mix [(.ptr [0, 1] 0 0)])⟩), ([0, 1], ⟨48, 2, (.mix [(.agg [.nils, (.d ⟨.bool, b83⟩)])])⟩), ([0, 2], ⟨3, 1, (.data (.int .i64) [n84])⟩)], 2⟩ (leave Try.prog Try.f25 k) = memory_Memory_Copyfn1 n82 b83 n84 (fun y0 y1 y2 => k (.d ⟨.bool, y0⟩) [([0, 0], ⟨25, 1, (.mix [(.ptr [0, 1] 0 0)])⟩), ([0, 1], ⟨48, 2, (.mix [(.agg [.nils, (.d ⟨.bool, y1⟩)])])⟩), ([0, 2], ⟨3, 1, (.data (.int .i64) [y2])⟩)]) := by kernel_rfl
theorem memory_Memory_Copyfn1.ok (d : Nat) (hd : 1 ≤ d) (n82 : Int) (b83 : Bool) (n84 : Int) (k : KR) (hx : memory_Memory_Copyfn1 n82 b83 n84 (fun y0 y1 y2 => k (.d ⟨.bool, y0⟩) [([0, 0], ⟨25, 1, (.mix [(.ptr [0, 1] 0 0)])⟩), ([0, 1], ⟨48, 2, (.mix [(.agg [.nils, (.d ⟨.bool, y1⟩)])])⟩), ([0, 2], ⟨3, 1, (.data (.int .i64) [y2])⟩)]) = some true) : callK Try.prog ht d 25 [(.d ⟨(.int .i64), n82⟩), (.ptr [0, 0] 0 0), (.ptr [0, 2] 0 0)] [([0, 0], ⟨25, 1, (.mix [(.ptr [0, 1] 0 0)])⟩), ([0, 1], ⟨48, 2, (.mix [(.agg [.nils, (.d ⟨.bool, b83⟩)])])⟩), ([0, 2], ⟨3, 1, (.data (.int .i64) [n84])⟩)] k = some true := by
  obtain ⟨d, rfl⟩ : ∃ e, d = e + 1 := ⟨d - 1, by omega⟩
  exact fn_ok (c := codeOf Try.f25) Try.func25 (by kernel_rfl) (rec := memory_Memory_Copyfn1.calls) (fun g a h k hx => by
    cases hx) (loopf := memory_Memory_Copyfn1.loops) (by
    have e : loopsOf memory_Memory_Copyfn1.loops 0 (codeOf Try.f25) = [] := by kernel_rfl
    rw [e]
    intro p hp
    cases hp) ((memory_Memory_Copyfn1.eq n82 b83 n84 k).trans hx)
theorem memory_Memory_Copyfn1.look (d : Nat) (hd : 1 ≤ d) {e : Option Bool} {g : FuncId} {a : List AV} {h : Heap} {k : KR} (hx : memory_Memory_Copyfn1.get e g a h k = some true) : e = some true ∨ callK Try.prog ht d g a h k = some true := by
  unfold memory_Memory_Copyfn1.get at hx
  split at hx
  · exact .inr (memory_Memory_Copyfn1.ok d hd _ _ _ _ hx)
  · exact .inl hx
/-- function 16: (*sheerleg/memory.Memory).Copy -/
def memory_Memory_Copyv1 (n78 : Int) (n79 : Int) (n80 : Int) (b81 : Bool) (k1 : Bool → Bool → Option Bool) : Option Bool :=
  (cond_ (! (! b81)) (cond_ (! (decide (n80 < (0 : Int)))) (memory_Memory_Copyfn1 n78 b81 n80
  (fun b85 b86 n87 => (cond_ (! (! b85)) (memory_Memory_Copyfn1 n79 b86 n87
  (fun b88 b89 n90 => (cond_ (! b88) (k1 false b89) (cond_ ((decide ((0 : Int) ≤ n78)) && (decide (n78 ≤ (0 : Int)))) (cond_ (((decide ((0 : Int) ≤ n79)) && (decide (n79 ≤ (IntKind.wrap .i64 (n79 + n90))))) && (decide ((IntKind.wrap .i64 (n79 + n90)) ≤ (0 : Int)))) none none) none)))) (k1 false b86)))) (k1 false b81)) (k1 false b81))
def memory_Memory_Copyv1.get (e : Option Bool) (g : FuncId) (a : List AV) (h : Heap) (k : KR) : Option Bool := match g, a, h with
  | 16, [(.ptr [0, 0] 0 0), (.d ⟨(.int .i64), n78⟩), (.d ⟨(.int .i64), n79⟩), (.d ⟨(.int .i64), n80⟩)], [([0, 0], ⟨48, 2, (.mix [(.agg [.nils, (.d ⟨.bool, b81⟩)])])⟩)] => memory_Memory_Copyv1 n78 n79 n80 b81 (fun y0 y1 => k (.d ⟨.bool, y0⟩) [([0, 0], ⟨48, 2, (.mix [(.agg [.nils, (.d ⟨.bool, y1⟩)])])⟩)])
  | _, _, _ => e
def memory_Memory_Copyv1.calls : RecF := fun g a h k => (memory_Memory_Copyfn1.get none g a h k)
def memory_Memory_Copyv1.loops : LoopF := fun b => none
set_option maxRecDepth 100000 in
theorem memory_Memory_Copyv1.eq (n78 : Int) (n79 : Int) (n80 : Int) (b81 : Bool) (k : KR) : execL Try.prog ht 16 (callfOf memory_Memory_Copyv1.calls) memory_Memory_Copyv1.loops 0 (codeOf Try.f16) ⟨[(.ptr [0, 0] 0 0), (.d ⟨(.int .i64), n78⟩), (.d ⟨(.int .i64), n79⟩), (.d ⟨(.int .i64), n80⟩)] ++ List.replicate (Try.f16.ntmps - ([(.ptr [0, 0] 0 0), (.d ⟨(.int .i64), n78⟩), (.d ⟨(.int .i64), n79⟩), (.d ⟨(.int .i64), n80⟩)] : List AV).length) .undef, [([0, 0], ⟨48, 2, (.mix [(.agg [.nils, (.d ⟨.bool, b81⟩)])])⟩)], 2⟩ (leave Try.prog Try.f16 k) = memory_Memory_Copyv1 n78 n79 n80 b81 (fun y0 y1 => k (.d ⟨.bool, y0⟩) [([0, 0], ⟨48, 2, (.mix [(.agg [.nils, (.d ⟨.bool, y1⟩)])])⟩)]) := by kernel_rfl
theorem memory_Memory_Copyv1.ok (d : Nat) (hd : 2 ≤ d) (n78 : Int) (n79 : Int) (n80 : Int) (b81 : Bool) (k : KR) (hx : memory_Memory_Copyv1 n78 n79 n80 b81 (fun y0 y1 => k (.d ⟨.bool, y0⟩) [([0, 0], ⟨48, 2, (.mix [(.agg [.nils, (.d ⟨.bool, y1⟩)])])⟩)]) = some true) : callK Try.prog ht d 16 [(.ptr [0, 0] 0 0), (.d ⟨(.int .i64), n78⟩), (.d ⟨(.int .i64), n79⟩), (.d ⟨(.int .i64), n80⟩)] [([0, 0], ⟨48, 2, (.mix [(.agg [.nils, (.d ⟨.bool, b81⟩)])])⟩)] k = some true := by
  obtain ⟨d, rfl⟩ : ∃ e, d = e + 1 := ⟨d - 1, by omega⟩
  exact fn_ok (c := codeOf Try.f16) Try.func16 (by kernel_rfl) (rec := memory_Memory_Copyv1.calls) (fun g a h k hx => by
    rcases memory_Memory_Copyfn1.look d (by omega) hx with hx | hx
    rotate_left
    · exact hx
    cases hx) (loopf := memory_Memory_Copyv1.loops) (by
    have e : loopsOf memory_Memory_Copyv1.loops 0 (codeOf Try.f16) = [] := by kernel_rfl
    rw [e]
    intro p hp
    cases hp) ((memory_Memory_Copyv1.eq n78 n79 n80 b81 k).trans hx)
theorem memory_Memory_Copyv1.look (d : Nat) (hd : 2 ≤ d) {e : Option Bool} {g : FuncId} {a : List AV} {h : Heap} {k : KR} (hx : memory_Memory_Copyv1.get e g a h k = some true) : e = some true ∨ callK Try.prog ht d g a h k = some true := by
  unfold memory_Memory_Copyv1.get at hx
  split at hx
  · exact .inr (memory_Memory_Copyv1.ok d hd _ _ _ _ _ hx)
  · exact .inl hx
/-- function 7: sheerleg/sheerleglaw38.known, all of it at once -/
def law38_known (k1 : Bool → Option Bool) : Option Bool := k1 true
def law38_known.get (e : Option Bool) (g : FuncId) (a : List AV) (h : Heap) (k : KR) : Option Bool := match g, a, h with
  | 7, [], [] => law38_known (fun y => k (.d ⟨.bool, y⟩) [])
  | _, _, _ => e
set_option maxRecDepth 100000 in
theorem law38_known.all (k : KR) : callK Try.prog ht 60 7 [] [] k = k (.d ⟨.bool, true⟩) [] := by kernel_rfl
theorem law38_known.look (d : Nat) (hd : 60 ≤ d) {e : Option Bool} {g : FuncId} {a : List AV} {h : Heap} {k : KR} (hx : law38_known.get e g a h k = some true) : e = some true ∨ callK Try.prog ht d g a h k = some true := by
  unfold law38_known.get at hx
  split at hx
  · exact .inr (callK_le hd _ _ _ _ _ (fun _ _ h => h) ((law38_known.all _).trans hx))
  · exact .inl hx
/-- function 19: (*sheerleg/memory.Memory).Size -/
def memory_Memory_Sizev2 (b111 : Bool) (ns112 : List Int) (k1 : Int → Bool → (List Int) → Option Bool) : Option Bool :=
  (cond_ (! b111) (k1 (0 : Int) b111 ns112) (k1 (((List.length ns112) : Nat) : Int) b111 ns112))
def memory_Memory_Sizev2.get (e : Option Bool) (g : FuncId) (a : List AV) (h : Heap) (k : KR) : Option Bool := match g, a, h with
  | 19, [(.ptr [0, 0] 0 0)], [([0, 0], ⟨48, 2, (.mix [(.agg [(.ref [0, 1]), (.d ⟨.bool, b111⟩)])])⟩), ([0, 1], ⟨2, 1, (.data (.int .i64) ns112)⟩)] => memory_Memory_Sizev2 b111 ns112 (fun y0 y1 y2 => k (.d ⟨(.int .i64), y0⟩) [([0, 0], ⟨48, 2, (.mix [(.agg [(.ref [0, 1]), (.d ⟨.bool, y1⟩)])])⟩), ([0, 1], ⟨2, 1, (.data (.int .i64) y2)⟩)])
  | _, _, _ => e
def memory_Memory_Sizev2.calls : RecF := fun g a h k => none
def memory_Memory_Sizev2.loops : LoopF := fun b => none
set_option maxRecDepth 100000 in
theorem memory_Memory_Sizev2.eq (b111 : Bool) (ns112 : List Int) (k : KR) : execL Try.prog ht 19 (callfOf memory_Memory_Sizev2.calls) memory_Memory_Sizev2.loops 0 (codeOf Try.f19) ⟨[(.ptr [0, 0] 0 0)] ++ List.replicate (Try.f19.ntmps - ([(.ptr [0, 0] 0 0)] : List AV).length) .undef, [([0, 0], ⟨48, 2, (.mix [(.agg [(.ref [0, 1]), (.d ⟨.bool, b111⟩)])])⟩), ([0, 1], ⟨2, 1, (.data (.int .i64) ns112)⟩)], 2⟩ (leave Try.prog Try.f19 k) = memory_Memory_Sizev2 b111 ns112 (fun y0 y1 y2 => k (.d ⟨(.int .i64), y0⟩) [([0, 0], ⟨48, 2, (.mix [(.agg [(.ref [0, 1]), (.d ⟨.bool, y1⟩)])])⟩), ([0, 1], ⟨2, 1, (.data (.int .i64) y2)⟩)]) := by kernel_rfl
theorem memory_Memory_Sizev2.ok (d : Nat) (hd : 1 ≤ d) (b111 : Bool) (ns112 : List Int) (k : KR) (hx : memory_Memory_Sizev2 b111 ns112 (fun y0 y1 y2 => k (.d ⟨(.int .i64), y0⟩) [([0, 0], ⟨48, 2, (.mix [(.agg [(.ref [0, 1]), (.d ⟨.bool, y1⟩)])])⟩), ([0, 1], ⟨2, 1, (.data (.int .i64) y2)⟩)]) = some true) : callK Try.prog ht d 19 [(.ptr [0, 0] 0 0)] [([0, 0], ⟨48, 2, (.mix [(.agg [(.ref [0, 1]), (.d ⟨.bool, b111⟩)])])⟩), ([0, 1], ⟨2, 1, (.data (.int .i64) ns112)⟩)] k = some true := by
  obtain ⟨d, rfl⟩ : ∃ e, d = e + 1 := ⟨d - 1, by omega⟩
  exact fn_ok (c := codeOf Try.f19) Try.func19 (by kernel_rfl) (rec := memory_Memory_Sizev2.calls) (fun g a h k hx => by
    cases hx) (loopf := memory_Memory_Sizev2.loops) (by
    have e : loopsOf memory_Memory_Sizev2.loops 0 (codeOf Try.f19) = [] := by kernel_rfl
    rw [e]
    intro p hp
    cases hp) ((memory_Memory_Sizev2.eq b111 ns112 k).trans hx)
theorem memory_Memory_Sizev2.look (d : Nat) (hd : 1 ≤ d) {e : Option Bool} {g : FuncId} {a : List AV} {h : Heap} {k : KR} (hx : memory_Memory_Sizev2.get e g a h k = some true) : e = some true ∨ callK Try.prog ht d g a h k = some true := by
  unfold memory_Memory_Sizev2.get at hx
  split at hx
  · exact .inr (memory_Memory_Sizev2.ok d hd _ _ _ hx)
  · exact .inl hx
/-- function 22: (*sheerleg/memory.Memory).Load$1 -/
def memory_Memory_Loadfn1 (m116 : Nat) (ns117 : List Int) (n118 : Int) (k1 : (List Int) → Int → Option Bool) : Option Bool :=
  (k1 ns117 (List.getD ns117 m116 (0 : Int)))
def memory_Memory_Loadfn1.get (e : Option Bool) (g : FuncId) (a : List AV) (h : Heap) (k : KR) : Option Bool := match g, a, h with
  | 22, [(.ptr [0, 0] m116 0), (.ptr [0, 1] 0 0)], [([0, 0], ⟨2, 1, (.data (.int .i64) ns117)⟩), ([0, 1], ⟨2, 1, (.data (.int .i64) [n118])⟩)] => memory_Memory_Loadfn1 m116 ns117 n118 (fun y0 y1 => k (.tup []) [([0, 0], ⟨2, 1, (.data (.int .i64) y0)⟩), ([0, 1], ⟨2, 1, (.data (.int .i64) [y1])⟩)])
  | _, _, _ => e
def memory_Memory_Loadfn1.calls : RecF := fun g a h k => none
def memory_Memory_Loadfn1.loops : LoopF := fun b => none
set_option maxRecDepth 100000 in
theorem memory_Memory_Loadfn1.eq (m116 : Nat) (ns117 : List Int) (n118 : Int) (k : KR) : execL Try.prog ht 22 (callfOf memory_Memory_Loadfn1.calls) memory_Memory_Loadfn1.loops 0 (codeOf Try.f22) ⟨[(.ptr [0, 0] m116 0), (.ptr [0, 1] 0 0)] ++ List.replicate (Try.f22.ntmps - ([(.ptr [0, 0] m116 0), (.ptr [0, 1] 0 0)] : List AV).length) .undef, [([0, 0], ⟨2, 1, (.data (.int .i64) ns117)⟩), ([0, 1], ⟨2, 1, (.data (.int .i64) [n118])⟩)], 2⟩ (leave Try.prog Try.f22 k) = memory_Memory_Loadfn1 m116 ns117 n118 (fun y0 y1 => k (.tup []) [([0, 0], ⟨2, 1, (.data (.int .i64) y0)⟩), ([0, 1], ⟨2, 1, (.data (.int .i64) [y1])⟩)]) := by kernel_rfl
theorem memory_Memory_Loadfn1.ok (d : Nat) (hd : 1 ≤ d) (m116 : Nat) (ns117 : List Int) (n118 : Int) (k : KR) (hx : memory_Memory_Loadfn1 m116 ns117 n118 (fun y0 y1 => k (.tup []) [([0, 0], ⟨2, 1, (.data (.int .i64) y0)⟩), ([0, 1], ⟨2, 1, (.data (.int .i64) [y1])⟩)]) = some true) : callK Try.prog ht d 22 [(.ptr [0, 0] m116 0), (.ptr [0, 1] 0 0)] [([0, 0], ⟨2, 1, (.data (.int .i64) ns117)⟩), ([0, 1], ⟨2, 1, (.data (.int .i64) [n118])⟩)] k = some true := by
  obtain ⟨d, rfl⟩ : ∃ e, d = e + 1 := ⟨d - 1, by omega⟩
  exact fn_ok (c := codeOf Try.f22) Try.func22 (by kernel_rfl) (rec := memory_Memory_Loadfn1.calls) (fun g a h k hx => by
    cases hx) (loopf := memory_Memory_Loadfn1.loops) (by
    have e : loopsOf memory_Memory_Loadfn1.loops 0 (codeOf Try.f22) = [] := by kernel_rfl
    rw [e]
    intro p hp
    cases hp) ((memory_Memory_Loadfn1.eq m116 ns117 n118 k).trans hx)
theorem memory_Memory_Loadfn1.look (d : Nat) (hd : 1 ≤ d) {e : Option Bool} {g : FuncId} {a : List AV} {h : Heap} {k : KR} (hx : memory_Memory_Loadfn1.get e g a h k = some true) : e = some true ∨ callK Try.prog ht d g a h k = some true := by
  unfold memory_Memory_Loadfn1.get at hx
  split at hx
  · exact .inr (memory_Memory_Loadfn1.ok d hd _ _ _ _ hx)
  · exact .inl hx
/-- function 21: (*sheerleg/memory.Memory).at -/
def memory_Memory_atv4 (n107 : Int) (b108 : Bool) (ns109 : List Int) (n110 : Int) (k1 : Bool → Bool → (List Int) → Int → Option Bool) : Option Bool :=
  (cond_ (! (decide (n107 < (0 : Int)))) (memory_Memory_Sizev2 b108 ns109
  (fun n113 b114 ns115 => (cond_ (decide (n107 ≥ n113)) (k1 false b114 ns115 n110) (cond_ ((decide ((0 : Int) ≤ n107)) && (decide (n107 < (((List.length ns115) : Nat) : Int)))) (memory_Memory_Loadfn1 (Int.toNat n107) ns115 n110
  (fun ns119 n120 => (k1 true b114 ns119 n120))) none)))) (k1 false b108 ns109 n110))
def memory_Memory_atv4.get (e : Option Bool) (g : FuncId) (a : List AV) (h : Heap) (k : KR) : Option Bool := match g, a, h with
  | 21, [(.ptr [0, 0] 0 0), (.d ⟨(.int .i64), n107⟩), (.fn (.func 22) [] [(.ptr [0, 2] 0 0)])], [([0, 0], ⟨48, 2, (.mix [(.agg [(.ref [0, 1]), (.d ⟨.bool, b108⟩)])])⟩), ([0, 1], ⟨2, 1, (.data (.int .i64) ns109)⟩), ([0, 2], ⟨2, 1, (.data (.int .i64) [n110])⟩)] => memory_Memory_atv4 n107 b108 ns109 n110 (fun y0 y1 y2 y3 => k (.d ⟨.bool, y0⟩) [([0, 0], ⟨48, 2, (.mix [(.agg [(.ref [0, 1]), (.d ⟨.bool, y1⟩)])])⟩), ([0, 1], ⟨2, 1, (.data (.int .i64) y2)⟩), ([0, 2], ⟨2, 1, (.data (.int .i64) [y3])⟩)])
  | _, _, _ => e
def memory_Memory_atv4.calls : RecF := fun g a h k => (memory_Memory_Sizev2.get (memory_Memory_Loadfn1.get none g a h k) g a h k)
def memory_Memory_atv4.loops : LoopF := fun b => none
set_option maxRecDepth 100000 in
theorem memory_Memory_atv4.eq (n107 : Int) (b108 : Bool) (ns109 : List Int) (n110 : Int) (k : KR) : execL Try.prog ht 21 (callfOf memory_Memory_atv4.calls) memory_Memory_atv4.loops 0 (codeOf Try.f21) ⟨[(.ptr [0, 0] 0 0), (.d ⟨(.int .i64), n107⟩), (.fn (.func 22) [] [(.ptr [0, 2] 0 0)])] ++ List.replicate (Try.f21.ntmps - ([(.ptr [0, 0] 0 0), (.d ⟨(.int .i64), n107⟩), (.fn (.func 22) [] [(.ptr [0, 2] 0 0)])] : List AV).length) .undef, [([0, 0], ⟨48, 2, (.mix [(.agg [(.ref [0, 1]), (.d ⟨.bool, b108⟩)])])⟩), ([0, 1], ⟨2, 1, (.data (.int .i64) ns109)⟩), ([0, 2], ⟨2, 1, (.data (.int .i64) [n110])⟩)], 2⟩ (leave Try.prog Try.f21 k) = memory_Memory_atv4 n107 b108 ns109 n110 (fun y0 y1 y2 y3 => k (.d ⟨.bool, y0⟩) [([0, 0], ⟨48, 2, (.mix [(.agg [(.ref [0, 1]), (.d ⟨.bool, y1⟩)])])⟩), ([0, 1], ⟨2, 1, (.data (.int .i64) y2)⟩), ([0, 2], ⟨2, 1, (.data (.int .i64) [y3])⟩)]) := by kernel_rfl
theorem memory_Memory_atv4.ok (d : Nat) (hd : 2 ≤ d) (n107 : Int) (b108 : Bool) (ns109 : List Int) (n110 : Int) (k : KR) (hx : memory_Memory_atv4 n107 b108 ns109 n110 (fun y0 y1 y2 y3 => k (.d ⟨.bool, y0⟩) [([0, 0], ⟨48, 2, (.mix [(.agg [(.ref [0, 1]), (.d ⟨.bool, y1⟩)])])⟩), ([0, 1], ⟨2, 1, (.data (.int .i64) y2)⟩), ([0, 2], ⟨2, 1, (.data (.int .i64) [y3])⟩)]) = some true) : callK Try.prog ht d 21 [(.ptr [0, 0] 0 0), (.d ⟨(.int .i64), n107⟩), (.fn (.func 22) [] [(.ptr [0, 2] 0 0)])] [([0, 0], ⟨48, 2, (.mix [(.agg [(.ref [0, 1]), (.d ⟨.bool, b108⟩)])])⟩), ([0, 1], ⟨2, 1, (.data (.int .i64) ns109)⟩), ([0, 2], ⟨2, 1, (.data (.int .i64) [n110])⟩)] k = some true := by
  obtain ⟨d, rfl⟩ : ∃ e, d = e + 1 := ⟨d - 1, by omega⟩
  exact fn_ok (c := codeOf Try.f21) Try.func21 (by kernel_rfl) (rec := memory_Memory_atv4.calls) (fun g a h k hx => by
    rcases memory_Memory_Sizev2.look d (by omega) hx with hx | hx
    rotate_left
    · exact hx
    rcases memory_Memory_Loadfn1.look d (by omega) hx with hx | hx
    rotate_left
    · exact hx
    cases hx) (loopf := memory_Memory_atv4.loops) (by
    have e : loopsOf memory_Memory_atv4.loops 0 (codeOf Try.f21) = [] := by kernel_rfl
    rw [e]
    intro p hp
    cases hp) ((memory_Memory_atv4.eq n107 b108 ns109 n110 k).trans hx)
theorem memory_Memory_atv4.look (d : Nat) (hd : 2 ≤ d) {e : Option Bool} {g : FuncId} {a : List AV} {h : Heap} {k : KR} (hx : memory_Memory_atv4.get e g a h k = some true) : e = some true ∨ callK Try.prog ht d g a h k = some true := by
  unfold memory_Memory_atv4.get at hx
  split at hx
  · exact .inr (memory_Memory_atv4.ok d hd _ _ _ _ _ hx)
  · exact .inl hx
/-- function 9: (*sheerleg/memory.Memory).Load -/
def memory_Memory_Loadv2 (n104 : Int) (b105 : Bool) (ns106 : List Int) (k1 : Int → Bool → Bool → (List Int) → Option Bool) : Option Bool :=
  (memory_Memory_atv4 n104 b105 ns106 (0 : Int)
  (fun b121 b122 ns123 n124 => (k1 n124 b121 b122 ns123)))
def memory_Memory_Loadv2.get (e : Option Bool) (g : FuncId) (a : List AV) (h : Heap) (k : KR) : Option Bool := match g, a, h with
  | 9, [(.ptr [0, 0] 0 0), (.d ⟨(.int .i64), n104⟩)], [([0, 0], ⟨48, 2, (.mix [(.agg [(.ref [0, 1]), (.d ⟨.bool, b105⟩)])])⟩), ([0, 1], ⟨2, 1, (.data (.int .i64) ns106)⟩)] => memory_Memory_Loadv2 n104 b105 ns106 (fun y0 y1 y2 y3 => k (.tup [(.d ⟨(.int .i64), y0⟩), (.d ⟨.bool, y1⟩)]) [([0, 0], ⟨48, 2, (.mix [(.agg [(.ref [0, 1]), (.d ⟨.bool, y2⟩)])])⟩), ([0, 1], ⟨2, 1, (.data (.int .i64) y3)⟩)])
  | _, _, _ => e
def memory_Memory_Loadv2.calls : RecF := fun g a h k => (memory_Memory_atv4.get none g a h k)
def memory_Memory_Loadv2.loops : LoopF := fun b => none
set_option maxRecDepth 100000 in
theorem memory_Memory_Loadv2.eq (n104 : Int) (b105 : Bool) (ns106 : List Int) (k : KR) : execL Try.prog ht 9 (callfOf memory_Memory_Loadv2.calls) memory_Memory_Loadv2.loops 0 (codeOf Try.f9) ⟨[(.ptr [0, 0] 0 0), (.d ⟨(.int .i64), n104⟩)] ++ List.replicate (Try.f9.ntmps - ([(.ptr [0, 0] 0 0), (.d ⟨(.int .i64), n104⟩)] : List AV).length) .undef, [([0, 0], ⟨48, 2, (.mix [(.agg [(.ref [0, 1]), (.d ⟨.bool, b105⟩)])])⟩), ([0, 1], ⟨2, 1, (.data (.int .i64) ns106)⟩)], 2⟩ (leave Try.prog Try.f9 k) = memory_Memory_Loadv2 n104 b105 ns106 (fun y0 y1 y2 y3 => k (.tup [(.d ⟨(.int .i64), y0⟩), (.d ⟨.bool, y1⟩)]) [([0, 0], ⟨48, 2, (.mix [(.agg [(.ref [0, 1]), (.d ⟨.bool, y2⟩)])])⟩), ([0, 1], ⟨2, 1, (.data (.int .i64) y3)⟩)]) := by kernel_rfl
theorem memory_Memory_Loadv2.ok (d : Nat) (hd : 3 ≤ d) (n104 : Int) (b105 : Bool) (ns106 : List Int) (k : KR) (hx : memory_Memory_Loadv2 n104 b105 ns106 (fun y0 y1 y2 y3 => k (.tup [(.d ⟨(.int .i64), y0⟩), (.d ⟨.bool, y1⟩)]) [([0, 0], ⟨48, 2, (.mix [(.agg [(.ref [0, 1]), (.d ⟨.bool, y2⟩)])])⟩), ([0, 1], ⟨2, 1, (.data (.int .i64) y3)⟩)]) = some true) : callK Try.prog ht d 9 [(.ptr [0, 0] 0 0), (.d ⟨(.int .i64), n104⟩)] [([0, 0], ⟨48, 2, (.mix [(.agg [(.ref [0, 1]), (.d ⟨.bool, b105⟩)])])⟩), ([0, 1], ⟨2, 1, (.data (.int .i64) ns106)⟩)] k = some true := by
  obtain ⟨d, rfl⟩ : ∃ e, d = e + 1 := ⟨d - 1, by omega⟩
  exact fn_ok (c := codeOf Try.f9) Try.func9 (by kernel_rfl) (rec := memory_Memory_Loadv2.calls) (fun g a h k hx => by
    rcases memory_Memory_atv4.look d (by omega) hx with hx | hx
    rotate_left
    · exact hx
    cases hx) (loopf := memory_Memory_Loadv2.loops) (by
    have e : loopsOf memory_Memory_Loadv2.loops 0 (codeOf Try.f9) = [] := by kernel_rfl
    rw [e]
    intro p hp
    cases hp) ((memory_Memory_Loadv2.eq n104 b105 ns106 k).trans hx)
theorem memory_Memory_Loadv2.look (d : Nat) (hd : 3 ≤ d) {e : Option Bool} {g : FuncId} {a : List AV} {h : Heap} {k : KR} (hx : memory_Memory_Loadv2.get e g a h k = some true) : e = some true ∨ callK Try.prog ht d g a h k = some true := by
  unfold memory_Memory_Loadv2.get at hx
  split at hx
  · exact .inr (memory_Memory_Loadv2.ok d hd _ _ _ _ hx)
  · exact .inl hx
/-- function 17: (*sheerleg/memory.Memory).Item -/
def memory_Memory_Itemv2 (n100 : Int) (n101 : Int) (b102 : Bool) (ns103 : List Int) (k1 : Int → Int → Bool → (List Int) → Option Bool) : Option Bool :=
  (memory_Memory_Loadv2 n100 b102 ns103
  (fun n125 b126 b127 ns128 => (cond_ (! b126) (k1 (0 : Int) (2 : Int) b127 ns128) (cond_ (! (decide (n101 < (0 : Int)))) (cond_ (decide (n101 ≥ n125)) (k1 (0 : Int) (1 : Int) b127 ns128) (memory_Memory_Sizev2 b127 ns128
  (fun n129 b130 ns131 => (cond_ (decide (n101 ≥ (IntKind.wrap .i64 ((IntKind.wrap .i64 (n129 - (1 : Int))) - n100)))) (k1 (0 : Int) (2 : Int) b130 ns131) (k1 (IntKind.wrap .i64 ((IntKind.wrap .i64 (n100 + (1 : Int))) + n101)) (0 : Int) b130 ns131))))) (k1 (0 : Int) (1 : Int) b127 ns128)))))
def memory_Memory_Itemv2.get (e : Option Bool) (g : FuncId) (a : List AV) (h : Heap) (k : KR) : Option Bool := match g, a, h with
  | 17, [(.ptr [0, 0] 0 0), (.d ⟨(.int .i64), n100⟩), (.d ⟨(.int .i64), n101⟩)], [([0, 0], ⟨48, 2, (.mix [(.agg [(.ref [0, 1]), (.d ⟨.bool, b102⟩)])])⟩), ([0, 1], ⟨2, 1, (.data (.int .i64) ns103)⟩)] => memory_Memory_Itemv2 n100 n101 b102 ns103 (fun y0 y1 y2 y3 => k (.tup [(.d ⟨(.int .i64), y0⟩), (.d ⟨(.int .i64), y1⟩)]) [([0, 0], ⟨48, 2, (.mix [(.agg [(.ref [0, 1]), (.d ⟨.bool, y2⟩)])])⟩), ([0, 1], ⟨2, 1, (.data (.int .i64) y3)⟩)])
  | _, _, _ => e
def memory_Memory_Itemv2.calls : RecF := fun g a h k => (memory_Memory_Loadv2.get (memory_Memory_Sizev2.get none g a h k) g a h k)
def memory_Memory_Itemv2.loops : LoopF := fun b => none
set_option maxRecDepth 100000 in
theorem memory_Memory_Itemv2.eq (n100 : Int) (n101 : Int) (b102 : Bool) (ns103 : List Int) (k : KR) : execL Try.prog ht 17 (callfOf memory_Memory_Itemv2.calls) memory_Memory_Itemv2.loops 0 (codeOf Try.f17) ⟨[(.ptr [0, 0] 0 0), (.d ⟨(.int .i64), n100⟩), (.d ⟨(.int .i64), n101⟩)] ++ List.replicate (Try.f17.ntmps - ([(.ptr [0, 0] 0 0), (.d ⟨(.int .i64), n100⟩), (.d ⟨(.int .i64), n101⟩)] : List AV).length) .undef, [([0, 0], ⟨48, 2, (.mix [(.agg [(.ref [0, 1]), (.d ⟨.bool, b102⟩)])])⟩), ([0, 1], ⟨2, 1, (.data (.int .i64) ns103)⟩)], 2⟩ (leave Try.prog Try.f17 k) = memory_Memory_Itemv2 n100 n101 b102 ns103 (fun y0 y1 y2 y3 => k (.tup [(.d ⟨(.int .i64), y0⟩), (.d ⟨(.int .i64), y1⟩)]) [([0, 0], ⟨48, 2, (.mix [(.agg [(.ref [0, 1]), (.d ⟨.bool, y2⟩)])])⟩), ([0, 1], ⟨2, 1, (.data (.int .i64) y3)⟩)]) := by kernel_rfl
theorem memory_Memory_Itemv2.ok (d : Nat) (hd : 4 ≤ d) (n100 : Int) (n101 : Int) (b102 : Bool) (ns103 : List Int) (k : KR) (hx : memory_Memory_Itemv2 n100 n101 b102 ns103 (fun y0 y1 y2 y3 => k (.tup [(.d ⟨(.int .i64), y0⟩), (.d ⟨(.int .i64), y1⟩)]) [([0, 0], ⟨48, 2, (.mix [(.agg [(.ref [0, 1]), (.d ⟨.bool, y2⟩)])])⟩), ([0, 1], ⟨2, 1, (.data (.int .i64) y3)⟩)]) = some true) : callK Try.prog ht d 17 [(.ptr [0, 0] 0 0), (.d ⟨(.int .i64), n100⟩), (.d ⟨(.int .i64), n101⟩)] [([0, 0], ⟨48, 2, (.mix [(.agg [(.ref [0, 1]), (.d ⟨.bool, b102⟩)])])⟩), ([0, 1], ⟨2, 1, (.data (.int .i64) ns103)⟩)] k = some true := by
  obtain ⟨d, rfl⟩ : ∃ e, d = e + 1 := ⟨d - 1, by omega⟩
  exact fn_ok (c := codeOf Try.f17) Try.func17 (by kernel_rfl) (rec := memory_Memory_Itemv2.calls) (fun g a h k hx => by
    rcases memory_Memory_Loadv2.look d (by omega) hx with hx | hx
    rotate_left
    · exact hx
    rcases memory_Memory_Sizev2.look d (by omega) hx with hx | hx
    rotate_left
    · exact hx
    cases hx) (loopf := memory_Memory_Itemv2.loops) (by
    have e : loopsOf memory_Memory_Itemv2.loops 0 (codeOf Try.f17) = [] := by kernel_rfl
    rw [e]
    intro p hp
    cases hp) ((memory_Memory_Itemv2.eq n100 n101 b102 ns103 k).trans hx)
theorem memory_Memory_Itemv2.look (d : Nat) (hd : 4 ≤ d) {e : Option Bool} {g : FuncId} {a : List AV} {h : Heap} {k : KR} (hx : memory_Memory_Itemv2.get e g a h k = some true) : e = some true ∨ callK Try.prog ht d g a h k = some true := by
  unfold memory_Memory_Itemv2.get at hx
  split at hx
  · exact .inr (memory_Memory_Itemv2.ok d hd _ _ _ _ _ hx)
  · exact .inl hx
/-- function 23: (*sheerleg/memory.Memory).Store$1 -/
def memory_Memory_Storefn1 (m152 : Nat) (ns153 : List Int) (n154 : Int) (k1 : (List Int) → Int → Option Bool) : Option Bool :=
  (k1 (List.set ns153 m152 n154) n154)
def memory_Memory_Storefn1.get (e : Option Bool) (g : FuncId) (a : List AV) (h : Heap) (k : KR) : Option Bool := match g, a, h with
  | 23, [(.ptr [0, 0] m152 0), (.ptr [0, 1] 0 0)], [([0, 0], ⟨2, 1, (.data (.int .i64) ns153)⟩), ([0, 1], ⟨2, 1, (.data (.int .i64) [n154])⟩)] => memory_Memory_Storefn1 m152 ns153 n154 (fun y0 y1 => k (.tup []) [([0, 0], ⟨2, 1, (.data (.int .i64) y0)⟩), ([0, 1], ⟨2, 1, (.data (.int .i64) [y1])⟩)])
  | _, _, _ => e
def memory_Memory_Storefn1.calls : RecF := fun g a h k => none
def memory_Memory_Storefn1.loops : LoopF := fun b => none
set_option maxRecDepth 100000 in
theorem memory_Memory_Storefn1.eq (m152 : Nat) (ns153 : List Int) (n154 : Int) (k : KR) : execL Try.prog ht 23 (callfOf memory_Memory_Storefn1.calls) memory_Memory_Storefn1.loops 0 (codeOf Try.f23) ⟨[(.ptr [0, 0] m152 0), (.ptr [0, 1] 0 0)] ++ List.replicate (Try.f23.ntmps - ([(.ptr [0, 0] m152 0), (.ptr [0, 1] 0 0)] : List AV).length) .undef, [([0, 0], ⟨2, 1, (.data (.int .i64) ns153)⟩), ([0, 1], ⟨2, 1, (.data (.int .i64) [n154])⟩)], 2⟩ (leave Try.prog Try.f23 k) = memory_Memory_Storefn1 m152 ns153 n154 (fun y0 y1 => k (.tup []) [([0, 0], ⟨2, 1, (.data (.int .i64) y0)⟩), ([0, 1], ⟨2, 1, (.data (.int .i64) [y1])⟩)]) := by kernel_rfl
theorem memory_Memory_Storefn1.ok (d : Nat) (hd : 1 ≤ d) (m152 : Nat) (ns153 : List Int) (n154 : Int) (k : KR) (hx : memory_Memory_Storefn1 m152 ns153 n154 (fun y0 y1 => k (.tup []) [([0, 0], ⟨2, 1, (.data (.int .i64) y0)⟩), ([0, 1], ⟨2, 1, (.data (.int .i64) [y1])⟩)]) = some true) : callK Try.prog ht d 23 [(.ptr [0, 0] m152 0), (.ptr [0, 1] 0 0)] [([0, 0], ⟨2, 1, (.data (.int .i64) ns153)⟩), ([0, 1], ⟨2, 1, (.data (.int .i64) [n154])⟩)] k = some true := by
  obtain ⟨d, rfl⟩ : ∃ e, d = e + 1 := ⟨d - 1, by omega⟩
  exact fn_ok (c := codeOf Try.f23) Try.func23 (by kernel_rfl) (rec := memory_Memory_Storefn1.calls) (fun g a h k hx => by
    cases hx) (loopf := memory_Memory_Storefn1.loops) (by
    have e : loopsOf memory_Memory_Storefn1.loops 0 (codeOf Try.f23) = [] := by kernel_rfl
    rw [e]
    intro p hp
    cases hp) ((memory_Memory_Storefn1.eq m152 ns153 n154 k).trans hx)
theorem memory_Memory_Storefn1.look (d : Nat) (hd : 1 ≤ d) {e : Option Bool} {g : FuncId} {a : List AV} {h : Heap} {k : KR} (hx : memory_Memory_Storefn1.get e g a h k = some true) : e = some true ∨ callK Try.prog ht d g a h k = some true := by
  unfold memory_Memory_Storefn1.get at hx
  split at hx
  · exact .inr (memory_Memory_Storefn1.ok d hd _ _ _ _ hx)
  · exact .inl hx
/-- function 21: (*sheerleg/memory.Memory).at -/
def memory_Memory_atv5 (n145 : Int) (b146 : Bool) (ns147 : List Int) (n148 : Int) (k1 : Bool → Bool → (List Int) → Int → Option Bool) : Option Bool :=
  (cond_ (! (decide (n145 < (0 : Int)))) (memory_Memory_Sizev2 b146 ns147
  (fun n149 b150 ns151 => (cond_ (decide (n145 ≥ n149)) (k1 false b150 ns151 n148) (cond_ ((decide ((0 : Int) ≤ n145)) && (decide (n145 < (((List.length ns151) : Nat) : Int)))) (memory_Memory_Storefn1 (Int.toNat n145) ns151 n148
  (fun ns155 n156 => (k1 true b150 ns155 n156))) none)))) (k1 false b146 ns147 n148))
def memory_Memory_atv5.get (e : Option Bool) (g : FuncId) (a : List AV) (h : Heap) (k : KR) : Option Bool := match g, a, h with
  | 21, [(.ptr [0, 0] 0 0), (.d ⟨(.int .i64), n145⟩), (.fn (.func 23) [] [(.ptr [0, 2] 0 0)])], [([0, 0], ⟨48, 2, (.mix [(.agg [(.ref [0, 1]), (.d ⟨.bool, b146⟩)])])⟩), ([0, 1], ⟨2, 1, (.data (.int .i64) ns147)⟩), ([0, 2], ⟨2, 1, (.data (.int .i64) [n148])⟩)] => memory_Memory_atv5 n145 b146 ns147 n148 (fun y0 y1 y2 y3 => k (.d ⟨.bool, y0⟩) [([0, 0], ⟨48, 2, (.mix [(.agg [(.ref [0, 1]), (.d ⟨.bool, y1⟩)])])⟩), ([0, 1], ⟨2, 1, (.data (.int .i64) y2)⟩), ([0, 2], ⟨2, 1, (.data (.int .i64) [y3])⟩)])
  | _, _, _ => e
def memory_Memory_atv5.calls : RecF := fun g a h k => (memory_Memory_Sizev2.get (memory_Memory_Storefn1.get none g a h k) g a h k)
def memory_Memory_atv5.loops : LoopF := fun b => none
set_option maxRecDepth 100000 in
theorem memory_Memory_atv5.eq (n145 : Int) (b146 : Bool) (ns147 : List Int) (n148 : Int) (k : KR) : execL Try.prog ht 21 (callfOf memory_Memory_atv5.calls) memory_Memory_atv5.loops 0 (codeOf Try.f21) ⟨[(.ptr [0, 0] 0 0), (.d ⟨(.int .i64), n145⟩), (.fn (.func 23) [] [(.ptr [0, 2] 0 0)])] ++ List.replicate (Try.f21.ntmps - ([(.ptr [0, 0] 0 0), (.d ⟨(.int .i64), n145⟩), (.fn (.func 23) [] [(.ptr [0, 2] 0 0)])] : List AV).length) .undef, [([0, 0], ⟨48, 2, (.mix [(.agg [(.ref [0, 1]), (.d ⟨.bool, b146⟩)])])⟩), ([0, 1], ⟨2, 1, (.data (.int .i64) ns147)⟩), ([0, 2], ⟨2, 1, (.data (.int .i64) [n148])⟩)], 2⟩ (leave Try.prog Try.f21 k) = memory_Memory_atv5 n145 b146 ns147 n148 (fun y0 y1 y2 y3 => k (.d ⟨.bool, y0⟩) [([0, 0], ⟨48, 2, (.mix [(.agg [(.ref [0, 1]), (.d ⟨.bool, y1⟩)])])⟩), ([0, 1], ⟨2, 1, (.data (.int .i64) y2)⟩), ([0, 2], ⟨2, 1, (.data (.int .i64) [y3])⟩)]) := by kernel_rfl
theorem memory_Memory_atv5.ok (d : Nat) (hd : 2 ≤ d) (n145 : Int) (b146 : Bool) (ns147 : List Int) (n148 : Int) (k : KR) (hx : memory_Memory_atv5 n145 b146 ns147 n148 (fun y0 y1 y2 y3 => k (.d ⟨.bool, y0⟩) [([0, 0], ⟨48, 2, (.mix [(.agg [(.ref [0, 1]), (.d ⟨.bool, y1⟩)])])⟩), ([0, 1], ⟨2, 1, (.data (.int .i64) y2)⟩), ([0, 2], ⟨2, 1, (.data (.int .i64) [y3])⟩)]) = some true) : callK Try.prog ht d 21 [(.ptr [0, 0] 0 0), (.d ⟨(.int .i64), n145⟩), (.fn (.func 23) [] [(.ptr [0, 2] 0 0)])] [([0, 0], ⟨48, 2, (.mix [(.agg [(.ref [0, 1]), (.d ⟨.bool, b146⟩)])])⟩), ([0, 1], ⟨2, 1, (.data (.int .i64) ns147)⟩), ([0, 2], ⟨2, 1, (.data (.int .i64) [n148])⟩)] k = some true := by
  obtain ⟨d, rfl⟩ : ∃ e, d = e + 1 := ⟨d - 1, by omega⟩
  exact fn_ok (c := codeOf Try.f21) Try.func21 (by kernel_rfl) (rec := memory_Memory_atv5.calls) (fun g a h k hx => by
    rcases memory_Memory_Sizev2.look d (by omega) hx with hx | hx
    rotate_left
    · exact hx
    rcases memory_Memory_Storefn1.look d (by omega) hx with hx | hx
    rotate_left
    · exact hx
    cases hx) (loopf := memory_Memory_atv5.loops) (by
    have e : loopsOf memory_Memory_atv5.loops 0 (codeOf Try.f21) = [] := by kernel_rfl
    rw [e]
    intro p hp
    cases hp) ((memory_Memory_atv5.eq n145 b146 ns147 n148 k).trans hx)
theorem memory_Memory_atv5.look (d : Nat) (hd : 2 ≤ d) {e : Option Bool} {g : FuncId} {a : List AV} {h : Heap} {k : KR} (hx : memory_Memory_atv5.get e g a h k = some true) : e = some true ∨ callK Try.prog ht d g a h k = some true := by
  unfold memory_Memory_atv5.get at hx
  split at hx
  · exact .inr (memory_Memory_atv5.ok d hd _ _ _ _ _ hx)
  · exact .inl hx
/-- function 12: (*sheerleg/memory.Memory).Store -/
def memory_Memory_Storev2 (n141 : Int) (n142 : Int) (b143 : Bool) (ns144 : List Int) (k1 : Bool → Bool → (List Int) → Option Bool) : Option Bool :=
  (memory_Memory_atv5 n141 b143 ns144 n142
  (fun b157 b158 ns159 n160 => (k1 b157 b158 ns159)))
def memory_Memory_Storev2.get (e : Option Bool) (g : FuncId) (a : List AV) (h : Heap) (k : KR) : Option Bool := match g, a, h with
  | 12, [(.ptr [0, 0] 0 0), (.d ⟨(.int .i64), n141⟩), (.d ⟨(.int .i64), n142⟩)], [([0, 0], ⟨48, 2, (.mix [(.agg [(.ref [0, 1]), (.d ⟨.bool, b143⟩)])])⟩), ([0, 1], ⟨2, 1, (.data (.int .i64) ns144)⟩)] => memory_Memory_Storev2 n141 n142 b143 ns144 (fun y0 y1 y2 => k (.d ⟨.bool, y0⟩) [([0, 0], ⟨48, 2, (.mix [(.agg [(.ref [0, 1]), (.d ⟨.bool, y1⟩)])])⟩), ([0, 1], ⟨2, 1, (.data (.int .i64) y2)⟩)])
  | _, _, _ => e
def memory_Memory_Storev2.calls : RecF := fun g a h k => (memory_Memory_atv5.get none g a h k)
def memory_Memory_Storev2.loops : LoopF := fun b => none
set_option maxRecDepth 100000 in
theorem memory_Memory_Storev2.eq (n141 : Int) (n142 : Int) (b143 : Bool) (ns144 : List Int) (k : KR) : execL Try.prog ht 12 (callfOf memory_Memory_Storev2.calls) memory_Memory_Storev2.loops 0 (codeOf Try.f12) ⟨[(.ptr [0, 0] 0 0), (.d ⟨(.int .i64), n141⟩), (.d ⟨(.int .i64), n142⟩)] ++ List.replicate (Try.f12.ntmps - ([(.ptr [0, 0] 0 0), (.d ⟨(.int .i64), n141⟩), (.d ⟨(.int .i64), n142⟩)] : List AV).length) .undef, [([0, 0], ⟨48, 2, (.mix [(.agg [(.ref [0, 1]), (.d ⟨.bool, b143⟩)])])⟩), ([0, 1], ⟨2, 1, (.data (.int .i64) ns144)⟩)], 2⟩ (leave Try.prog Try.f12 k) = memory_Memory_Storev2 n141 n142 b143 ns144 (fun y0 y1 y2 => k (.d ⟨.bool, y0⟩) [([0, 0], ⟨48, 2, (.mix [(.agg [(.ref [0, 1]), (.d ⟨.bool, y1⟩)])])⟩), ([0, 1], ⟨2, 1, (.data (.int .i64) y2)⟩)]) := by kernel_rfl
theorem memory_Memory_Storev2.ok (d : Nat) (hd : 3 ≤ d) (n141 : Int) (n142 : Int) (b143 : Bool) (ns144 : List Int) (k : KR) (hx : memory_Memory_Storev2 n141 n142 b143 ns144 (fun y0 y1 y2 => k (.d ⟨.bool, y0⟩) [([0, 0], ⟨48, 2, (.mix [(.agg [(.ref [0, 1]), (.d ⟨.bool, y1⟩)])])⟩), ([0, 1], ⟨2, 1, (.data (.int .i64) y2)⟩)]) = some true) : callK Try.prog ht d 12 [(.ptr [0, 0] 0 0), (.d ⟨(.int .i64), n141⟩), (.d ⟨(.int .i64), n142⟩)] [([0, 0], ⟨48, 2, (.mix [(.agg [(.ref [0, 1]), (.d ⟨.bool, b143⟩)])])⟩), ([0, 1], ⟨2, 1, (.data (.int .i64) ns144)⟩)] k = some true := by
  obtain ⟨d, rfl⟩ : ∃ e, d = e + 1 := ⟨d - 1, by omega⟩
  exact fn_ok (c := codeOf Try.f12) Try.func12 (by kernel_rfl) (rec := memory_Memory_Storev2.calls) (fun g a h k hx => by
    rcases memory_Memory_atv5.look d (by omega) hx with hx | hx
    rotate_left
    · exact hx
    cases hx) (loopf := memory_Memory_Storev2.loops) (by
    have e : loopsOf memory_Memory_Storev2.loops 0 (codeOf Try.f12) = [] := by kernel_rfl
    rw [e]
    intro p hp
    cases hp) ((memory_Memory_Storev2.eq n141 n142 b143 ns144 k).trans hx)
theorem memory_Memory_Storev2.look (d : Nat) (hd : 3 ≤ d) {e : Option Bool} {g : FuncId} {a : List AV} {h : Heap} {k : KR} (hx : memory_Memory_Storev2.get e g a h k = some true) : e = some true ∨ callK Try.prog ht d g a h k = some true := by
  unfold memory_Memory_Storev2.get at hx
  split at hx
  · exact .inr (memory_Memory_Storev2.ok d hd _ _ _ _ _ hx)
  · exact .inl hx
/-- function 25: (*sheerleg/memory.Memory).Copy$1 -/
def memory_Memory_Copyfn1v1 (n170 : Int) (b171 : Bool) (ns172 : List Int) (n173 : Int) (k1 : Bool → Bool → (List Int) → Int → Option Bool) : Option Bool :=
  (cond_ (decide (n170 ≥ (0 : Int))) (cond_ (decide (n170 ≤ (((List.length ns172) : Nat) : Int))) (k1 (decide (n173 ≤ (IntKind.wrap .i64 ((((List.length ns172) : Nat) : Int) - n170)))) b171 ns172 n173) (k1 false b171 ns172 n173)) (k1 false b171 ns172 n173))
def memory_Memory_Copyfn1v1.get (e : Option Bool) (g : FuncId) (a : List AV) (h : Heap) (k : KR) : Option Bool := match g, a, h with
  | 25, [(.d ⟨(.int .i64), n170⟩), (.ptr [0, 0] 0 0), (.ptr [0, 3] 0 0)], [([0, 0], ⟨25, 1, (.mix [(.ptr [0, 1] 0 0)])⟩), ([0, 1], ⟨48, 2, (.mix [(.agg [(.ref [0, 2]), (.d ⟨.bool, b171⟩)])])⟩), ([0, 2], ⟨2, 1, (.data (.int .i64) ns172)⟩), ([0, 3], ⟨3, 1, (.data (.int .i64) [n173])⟩)] => memory_Memory_Copyfn1v1 n170 b171 ns172 n173 (fun y0 y1 y2 y3 => k (.d ⟨.bool, y0⟩) [([0, 0], ⟨25, 1, (.mix [(.ptr [0, 1] 0 0)])⟩), ([0, 1], ⟨48, 2, (.mix [(.agg [(.ref [0, 2]), (.d ⟨.bool, y1⟩)])])⟩), ([0, 2], ⟨2, 1, (.data (.int .i64) y2)⟩), ([0, 3], ⟨3, 1, (.data (.int .i64) [y3])⟩)])
  | _, _, _ => e
def memory_Memory_Copyfn1v1.calls : RecF := fun g a h k => none
def memory_Memory_Copyfn1v1.loops : LoopF := fun b => none
set_option maxRecDepth 100000 in
theorem memory_Memory_Copyfn1v1.eq (n170 : Int) (b171 : Bool) (ns172 : List Int) (n173 : Int) (k : KR) : execL Try.prog ht 25 (callfOf memory_Memory_Copyfn1v1.calls) memory_Memory_Copyfn1v1.loops 0 (codeOf Try.f25) ⟨[(.d ⟨(.int .i64), n170⟩), (.ptr [0, 0] 0 0), (.ptr [0, 3] 0 0)] ++ List.replicate (Try.f25.ntmps - ([(.d ⟨(.int .i64), n170⟩), (.ptr [0, 0] 0 0), (.ptr [0, 3] 0 0)] : List AV).length) .undef, [([0, 0], ⟨25, 1, (.mix [(.ptr [0, 1] 0 0)])⟩), ([0, 1], ⟨48, 2, (.mix [(.agg [(.ref [0, 2]), (.d ⟨.bool, b171⟩)])])⟩), ([0, 2], ⟨2, 1, (.data (.int .i64) ns172)⟩), ([0, 3], ⟨3, 1, (.data (.int .i64) [n173])⟩)], 2⟩ (leave Try.prog Try.f25 k) = memory_Memory_Copyfn1v1 n170 b171 ns172 n173 (fun y0 y1 y2 y3 => k (.d ⟨.bool, y0⟩) [([0, 0], ⟨25, 1, (.mix [(.ptr [0, 1] 0 0)])⟩), ([0, 1], ⟨48, 2, (.mix [(.agg [(.ref [0, 2]), (.d ⟨.bool, y1⟩)])])⟩), ([0, 2], ⟨2, 1, (.data (.int .i64) y2)⟩), ([0, 3], ⟨3, 1, (.data (.int .i64) [y3])⟩)]) := by kernel_rfl
theorem memory_Memory_Copyfn1v1.ok (d : Nat) (hd : 1 ≤ d) (n170 : Int) (b171 : Bool) (ns172 : List Int) (n173 : Int) (k : KR) (hx : memory_Memory_Copyfn1v1 n170 b171 ns172 n173 (fun y0 y1 y2 y3 => k (.d ⟨.bool, y0⟩) [([0, 0], ⟨25, 1, (.mix [(.ptr [0, 1] 0 0)])⟩), ([0, 1], ⟨48, 2, (.mix [(.agg [(.ref [0, 2]), (.d ⟨.bool, y1⟩)])])⟩), ([0, 2], ⟨2, 1, (.data (.int .i64) y2)⟩), ([0, 3], ⟨3, 1, (.data (.int .i64) [y3])⟩)]) = some true) : callK Try.prog ht d 25 [(.d ⟨(.int .i64), n170⟩), (.ptr [0, 0] 0 0), (.ptr [0, 3] 0 0)] [([0, 0], ⟨25, 1, (.mix [(.ptr [0, 1] 0 0)])⟩), ([0, 1], ⟨48, 2, (.mix [(.agg [(.ref [0, 2]), (.d ⟨.bool, b171⟩)])])⟩), ([0, 2], ⟨2, 1, (.data (.int .i64) ns172)⟩), ([0, 3], ⟨3, 1, (.data (.int .i64) [n173])⟩)] k = some true := by
  obtain ⟨d, rfl⟩ : ∃ e, d = e + 1 := ⟨d - 1, by omega⟩
  exact fn_ok (c := codeOf Try.f25) Try.func25 (by kernel_rfl) (rec := memory_Memory_Copyfn1v1.calls) (fun g a h k hx => by
    cases hx) (loopf := memory_Memory_Copyfn1v1.loops) (by
    have e : loopsOf memory_Memory_Copyfn1v1.loops 0 (codeOf Try.f25) = [] := by kernel_rfl
    rw [e]
    intro p hp
    cases hp) ((memory_Memory_Copyfn1v1.eq n170 b171 ns172 n173 k).trans hx)
theorem memory_Memory_Copyfn1v1.look (d : Nat) (hd : 1 ≤ d) {e : Option Bool} {g : FuncId} {a : List AV} {h : Heap} {k : KR} (hx : memory_Memory_Copyfn1v1.get e g a h k = some true) : e = some true ∨ callK Try.prog ht d g a h k = some true := by
  unfold memory_Memory_Copyfn1v1.get at hx
  split at hx
  · exact .inr (memory_Memory_Copyfn1v1.ok d hd _ _ _ _ _ hx)
  · exact .inl hx
/-- function 16: (*sheerleg/memory.Memory).Copy -/
def memory_Memory_Copyv2 (n165 : Int) (n166 : Int) (n167 : Int) (b168 : Bool) (ns169 : List Int) (k1 : Bool → Bool → (List Int) → Option Bool) : Option Bool :=
  (cond_ (! (! b168)) (cond_ (! (decide (n167 < (0 : Int)))) (memory_Memory_Copyfn1v1 n165 b168 ns169 n167
  (fun b174 b175 ns176 n177 => (cond_ (! (! b174)) (memory_Memory_Copyfn1v1 n166 b175 ns176 n177
  (fun b178 b179 ns180 n181 => (cond_ (! b178) (k1 false b179 ns180) (cond_ ((decide ((0 : Int) ≤ n165)) && (decide (n165 ≤ (((List.length ns180) : Nat) : Int)))) (cond_ (((decide ((0 : Int) ≤ n166)) && (decide (n166 ≤ (IntKind.wrap .i64 (n166 + n181))))) && (decide ((IntKind.wrap .i64 (n166 + n181)) ≤ (((List.length ns180) : Nat) : Int)))) (k1 true b179 (setCells ns180 (Int.toNat n165) (List.take ((List.length ns180) - (Int.toNat n165)) (List.take (Int.toNat ((IntKind.wrap .i64 (n166 + n181)) - n166)) (List.drop (Int.toNat n166) ns180))))) none) none)))) (k1 false b175 ns176)))) (k1 false b168 ns169)) (k1 false b168 ns169))
def memory_Memory_Copyv2.get (e : Option Bool) (g : FuncId) (a : List AV) (h : Heap) (k : KR) : Option Bool := match g, a, h with
  | 16, [(.ptr [0, 0] 0 0), (.d ⟨(.int .i64), n165⟩), (.d ⟨(.int .i64), n166⟩), (.d ⟨(.int .i64), n167⟩)], [([0, 0], ⟨48, 2, (.mix [(.agg [(.ref [0, 1]), (.d ⟨.bool, b168⟩)])])⟩), ([0, 1], ⟨2, 1, (.data (.int .i64) ns169)⟩)] => memory_Memory_Copyv2 n165 n166 n167 b168 ns169 (fun y0 y1 y2 => k (.d ⟨.bool, y0⟩) [([0, 0], ⟨48, 2, (.mix [(.agg [(.ref [0, 1]), (.d ⟨.bool, y1⟩)])])⟩), ([0, 1], ⟨2, 1, (.data (.int .i64) y2)⟩)])
  | _, _, _ => e
def memory_Memory_Copyv2.calls : RecF := fun g a h k => (memory_Memory_Copyfn1v1.get none g a h k)
def memory_Memory_Copyv2.loops : LoopF := fun b => none
set_option maxRecDepth 100000 in
theorem memory_Memory_Copyv2.eq (n165 : Int) (n166 : Int) (n167 : Int) (b168 : Bool) (ns169 : List Int) (k : KR) : execL Try.prog ht 16 (callfOf memory_Memory_Copyv2.calls) memory_Memory_Copyv2.loops 0 (codeOf Try.f16) ⟨[(.ptr [0, 0] 0 0), (.d ⟨(.int .i64), n165⟩), (.d ⟨(.int .i64), n166⟩), (.d ⟨(.int .i64), n167⟩)] ++ List.replicate (Try.f16.ntmps - ([(.ptr [0, 0] 0 0), (.d ⟨(.int .i64), n165⟩), (.d ⟨(.int .i64), n166⟩), (.d ⟨(.int .i64), n167⟩)] : List AV).length) .undef, [([0, 0], ⟨48, 2, (.mix [(.agg [(.ref [0, 1]), (.d ⟨.bool, b168⟩)])])⟩), ([0, 1], ⟨2, 1, (.data (.int .i64) ns169)⟩)], 2⟩ (leave Try.prog Try.f16 k) = memory_Memory_Copyv2 n165 n166 n167 b168 ns169 (fun y0 y1 y2 => k (.d ⟨.bool, y0⟩) [([0, 0], ⟨48, 2, (.mix [(.agg [(.ref [0, 1]), (.d ⟨.bool, y1⟩)])])⟩), ([0, 1], ⟨2, 1, (.data (.int .i64) y2)⟩)]) := by kernel_rfl
theorem memory_Memory_Copyv2.ok (d : Nat) (hd : 2 ≤ d) (n165 : Int) (n166 : Int) (n167 : Int) (b168 : Bool) (ns169 : List Int) (k : KR) (hx : memory_Memory_Copyv2 n165 n166 n167 b168 ns169 (fun y0 y1 y2 => k (.d ⟨.bool, y0⟩) [([0, 0], ⟨48, 2, (.mix [(.agg [(.ref [0, 1]), (.d ⟨.bool, y1⟩)])])⟩), ([0, 1], ⟨2, 1, (.data (.int .i64) y2)⟩)]) = some true) : callK Try.prog ht d 16 [(.ptr [0, 0] 0 0), (.d ⟨(.int .i64), n165⟩), (.d ⟨(.int .i64), n166⟩), (.d ⟨(.int .i64), n167⟩)] [([0, 0], ⟨48, 2, (.mix [(.agg [(.ref [0, 1]), (.d ⟨.bool, b168⟩)])])⟩), ([0, 1], ⟨2, 1, (.data (.int .i64) ns169)⟩)] k = some true := by
  obtain ⟨d, rfl⟩ : ∃ e, d = e + 1 := ⟨d - 1, by omega⟩
  exact fn_ok (c := codeOf Try.f16) Try.func16 (by kernel_rfl) (rec := memory_Memory_Copyv2.calls) (fun g a h k hx => by
    rcases memory_Memory_Copyfn1v1.look d (by omega) hx with hx | hx
    rotate_left
    · exact hx
    cases hx) (loopf := memory_Memory_Copyv2.loops) (by
    have e : loopsOf memory_Memory_Copyv2.loops 0 (codeOf Try.f16) = [] := by kernel_rfl
    rw [e]
    intro p hp
    cases hp) ((memory_Memory_Copyv2.eq n165 n166 n167 b168 ns169 k).trans hx)
theorem memory_Memory_Copyv2.look (d : Nat) (hd : 2 ≤ d) {e : Option Bool} {g : FuncId} {a : List AV} {h : Heap} {k : KR} (hx : memory_Memory_Copyv2.get e g a h k = some true) : e = some true ∨ callK Try.prog ht d g a h k = some true := by
  unfold memory_Memory_Copyv2.get at hx
  split at hx
  · exact .inr (memory_Memory_Copyv2.ok d hd _ _ _ _ _ _ hx)
  · exact .inl hx
/-- function 5: sheerleg/sheerleglaw38.MemoryNobody -/
def law38_MemoryNobody (n0 : Int) (n1 : Int) (k1 : Bool → Option Bool) : Option Bool :=
  (memory_Memory_Load n0
  (fun n8 b9 => (memory_Memory_Loadv1 n0 false
  (fun n21 b22 b23 => (memory_Memory_Grow n0
  (fun n25 b26 => (memory_Memory_Growv1 n0 b23
  (fun n29 b30 b31 => (memory_Memory_Item n0 n1
  (fun n37 n38 => (memory_Memory_Itemv1 n0 n1 b31
  (fun n47 n48 b49 => (cond_ (! b9) (cond_ (! b22) (cond_ (! b26) (cond_ (! b30) (cond_ (n38 == (2 : Int)) (cond_ (n48 == (2 : Int)) (memory_Memory_Size
  (fun n50 => (cond_ (n50 == (0 : Int)) (memory_Memory_Sizev1 b49
  (fun n51 b52 => (cond_ (n51 == (0 : Int)) (memory_Memory_Store n0 n1
  (fun b60 => (cond_ (! b60) (memory_Memory_Storev1 n0 n1 b52
  (fun b72 b73 => (cond_ (! b72) (memory_Memory_Copy (0 : Int) (0 : Int) (0 : Int)
  (fun b77 => (cond_ (! b77) (memory_Memory_Copyv1 (0 : Int) (0 : Int) (0 : Int) b73
  (fun b91 b92 => (cond_ (! b91) (law38_known
  (fun b93 => (k1 b93))) (k1 false)))) (k1 false)))) (k1 false)))) (k1 false)))) (k1 false)))) (k1 false)))) (k1 false)) (k1 false)) (k1 false)) (k1 false)) (k1 false)) (k1 false)))))))
  (fun n94 b95 b96 ns97 => (memory_Memory_Item n0 n1
  (fun n98 n99 => (memory_Memory_Itemv2 n0 n1 b96 ns97
  (fun n132 n133 b134 ns135 => (cond_ (! b9) (cond_ (! b22) (cond_ (! b26) (cond_ (! b95) (cond_ (n99 == (2 : Int)) (cond_ (n133 == (2 : Int)) (memory_Memory_Size
  (fun n136 => (cond_ (n136 == (0 : Int)) (memory_Memory_Sizev2 b134 ns135
  (fun n137 b138 ns139 => (cond_ (n137 == (0 : Int)) (memory_Memory_Store n0 n1
  (fun b140 => (cond_ (! b140) (memory_Memory_Storev2 n0 n1 b138 ns139
  (fun b161 b162 ns163 => (cond_ (! b161) (memory_Memory_Copy (0 : Int) (0 : Int) (0 : Int)
  (fun b164 => (cond_ (! b164) (memory_Memory_Copyv2 (0 : Int) (0 : Int) (0 : Int) b162 ns163
  (fun b182 b183 ns184 => (cond_ (! b182) (law38_known
  (fun b185 => (k1 b185))) (k1 false)))) (k1 false)))) (k1 false)))) (k1 false)))) (k1 false)))) (k1 false)))) (k1 false)) (k1 false)) (k1 false)) (k1 false)) (k1 false)) (k1 false))))))))))))))
def law38_MemoryNobody.get (e : Option Bool) (g : FuncId) (a : List AV) (h : Heap) (k : KR) : Option Bool := match g, a, h with
  | 5, [(.d ⟨(.int .i64), n0⟩), (.d ⟨(.int .i64), n1⟩)], [] => law38_MemoryNobody n0 n1 (fun y0 => k (.d ⟨.bool, y0⟩) [])
  | _, _, _ => e
def law38_MemoryNobody.calls : RecF := fun g a h k => (memory_Memory_Load.get (memory_Memory_Loadv1.get (memory_Memory_Grow.get (memory_Memory_Growv1.get (memory_Memory_Item.get (memory_Memory_Itemv1.get (memory_Memory_Size.get (memory_Memory_Sizev1.get (memory_Memory_Store.get (memory_Memory_Storev1.get (memory_Memory_Copy.get (memory_Memory_Copyv1.get (law38_known.get (memory_Memory_Itemv2.get (memory_Memory_Sizev2.get (memory_Memory_Storev2.get (memory_Memory_Copyv2.get none g a h k) g a h k) g a h k) g a h k) g a h k) g a h k) g a h k) g a h k) g a h k) g a h k) g a h k) g a h k) g a h k) g a h k) g a h k) g a h k) g a h k)
def law38_MemoryNobody.loops : LoopF := fun b => none
set_option maxRecDepth 100000 in
theorem law38_MemoryNobody.eq (n0 : Int) (n1 : Int) (k : KR) : execL Try.prog ht 5 (callfOf law38_MemoryNobody.calls) law38_MemoryNobody.loops 0 (codeOf Try.f5) ⟨[(.d ⟨(.int .i64), n0⟩), (.d ⟨(.int .i64), n1⟩)] ++ List.replicate (Try.f5.ntmps - ([(.d ⟨(.int .i64), n0⟩), (.d ⟨(.int .i64), n1⟩)] : List AV).length) .undef, [], 2⟩ (leave Try.prog Try.f5 k) = law38_MemoryNobody n0 n1 (fun y0 => k (.d ⟨.bool, y0⟩) []) := by kernel_rfl
theorem law38_MemoryNobody.ok (d : Nat) (hd : 61 ≤ d) (n0 : Int) (n1 : Int) (k : KR) (hx : law38_MemoryNobody n0 n1 (fun y0 => k (.d ⟨.bool, y0⟩) []) = some true) : callK Try.prog ht d 5 [(.d ⟨(.int .i64), n0⟩), (.d ⟨(.int .i64), n1⟩)] [] k = some true := by
  obtain ⟨d, rfl⟩ : ∃ e, d = e + 1 := ⟨d - 1, by omega⟩
  exact fn_ok (c := codeOf Try.f5) Try.func5 (by kernel_rfl) (rec := law38_MemoryNobody.calls) (fun g a h k hx => by
    rcases memory_Memory_Load.look d (by omega) hx with hx | hx
    rotate_left
    · exact hx
    rcases memory_Memory_Loadv1.look d (by omega) hx with hx | hx
    rotate_left
    · exact hx
    rcases memory_Memory_Grow.look d (by omega) hx with hx | hx
    rotate_left
    · exact hx
    rcases memory_Memory_Growv1.look d (by omega) hx with hx | hx
    rotate_left
    · exact hx
    rcases memory_Memory_Item.look d (by omega) hx with hx | hx
    rotate_left
    · exact hx
    rcases memory_Memory_Itemv1.look d (by omega) hx with hx | hx
    rotate_left
    · exact hx
    rcases memory_Memory_Size.look d (by omega) hx with hx | hx
    rotate_left
    · exact hx
    rcases memory_Memory_Sizev1.look d (by omega) hx with hx | hx
    rotate_left
    · exact hx
    rcases memory_Memory_Store.look d (by omega) hx with hx | hx
    rotate_left
    · exact hx
    rcases memory_Memory_Storev1.look d (by omega) hx with hx | hx
    rotate_left
    · exact hx
    rcases memory_Memory_Copy.look d (by omega) hx with hx | hx
    rotate_left
    · exact hx
    rcases memory_Memory_Copyv1.look d (by omega) hx with hx | hx
    rotate_left
    · exact hx
    rcases law38_known.look d (by omega) hx with hx | hx
    rotate_left
    · exact hx
    rcases memory_Memory_Itemv2.look d (by omega) hx with hx | hx
    rotate_left
    · exact hx
    rcases memory_Memory_Sizev2.look d (by omega) hx with hx | hx
    rotate_left
    · exact hx
    rcases memory_Memory_Storev2.look d (by omega) hx with hx | hx
    rotate_left
    · exact hx
    rcases memory_Memory_Copyv2.look d (by omega) hx with hx | hx
    rotate_left
    · exact hx
    cases hx) (loopf := law38_MemoryNobody.loops) (by
    have e : loopsOf law38_MemoryNobody.loops 0 (codeOf Try.f5) = [] := by kernel_rfl
    rw [e]
    intro p hp
    cases hp) ((law38_MemoryNobody.eq n0 n1 k).trans hx)
theorem law38_MemoryNobody.look (d : Nat) (hd : 61 ≤ d) {e : Option Bool} {g : FuncId} {a : List AV} {h : Heap} {k : KR} (hx : law38_MemoryNobody.get e g a h k = some true) : e = some true ∨ callK Try.prog ht d g a h k = some true := by
  unfold law38_MemoryNobody.get at hx
  split at hx
  · exact .inr (law38_MemoryNobody.ok d hd _ _ _ hx)
  · exact .inl hx
end Go.Proofs.Ytbnkdfoolfpllaa.memoryNobody
