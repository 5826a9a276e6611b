/- What the functions come to that N reaches, as plain functions; written by a program of this work, each told by Lean. -/
import Derived.Test.YtefhednjdlblpaaA3
import Derived.Test.YtefhednjdlblpaaChecked
namespace Go.Proofs.Ytefhednjdlblpaa.n
open Go.AX
set_option linter.unusedVariables false
set_option maxRecDepth 100000
set_option maxHeartbeats 4000000
def ht : Hints := hintsOf [(35, [(0, ⟨[0, 1, 2], []⟩), (2000000, ⟨[6, 7], []⟩), (1000000, ⟨[], []⟩)])]
/-- function 29: (*sheerleg/memory.Memory).Grow -/
noncomputable def memory_Memory_Grow.body (n3 : Int) (k1 : Int → Bool → Option Bool) : Option Bool :=
  (k1 (0 : Int) false)
noncomputable def memory_Memory_Grow (n3 : Int) (k1 : Int → Bool → Option Bool) : Option Bool := memory_Memory_Grow.body n3 k1
noncomputable def memory_Memory_Grow.get (F : Int → (Int → Bool → Option Bool) → Option Bool) (e : Option Bool) (g : FuncId) (a : List AV) (h : Heap) (k : KR) : Option Bool := match g, a, h with
  | 29, [.nilp, (.d ⟨(.int .i64), n3⟩)], [] => F n3 (fun y0 y1 => k (.tup [(.d ⟨(.int .i64), y0⟩), (.d ⟨.bool, y1⟩)]) [])
  | _, _, _ => e
noncomputable def memory_Memory_Grow.calls : RecF := fun g a h k => none
noncomputable def memory_Memory_Grow.loops : LoopF := fun b => none
set_option maxRecDepth 100000 in
theorem memory_Memory_Grow.eq (n3 : Int) (k : KR) : execL Try.prog ht 29 (callfOf (memory_Memory_Grow.calls)) (memory_Memory_Grow.loops) 0 (codeOf Try.f29) ⟨[.nilp, (.d ⟨(.int .i64), n3⟩)] ++ List.replicate (Try.f29.ntmps - ([.nilp, (.d ⟨(.int .i64), n3⟩)] : List AV).length) .undef, [], 2⟩ (leave Try.prog Try.f29 k) = memory_Memory_Grow.body n3 (fun y0 y1 => k (.tup [(.d ⟨(.int .i64), y0⟩), (.d ⟨.bool, y1⟩)]) []) := by kernel_rfl
theorem memory_Memory_Grow.ok (d : Nat) (hd : 1 ≤ d) (n3 : Int) (k : KR) (hx : memory_Memory_Grow n3 (fun y0 y1 => k (.tup [(.d ⟨(.int .i64), y0⟩), (.d ⟨.bool, y1⟩)]) []) = some true) : callK Try.prog ht d 29 [.nilp, (.d ⟨(.int .i64), n3⟩)] [] k = some true := by
  obtain ⟨d, rfl⟩ : ∃ e, d = e + 1 := ⟨d - 1, by omega⟩
  exact fn_ok (c := codeOf Try.f29) Try.func29 (by kernel_rfl) (rec := memory_Memory_Grow.calls) (fun g a h k hx => by
    cases hx) (loopf := memory_Memory_Grow.loops) (by
    have e : loopsOf (memory_Memory_Grow.loops) 0 (codeOf Try.f29) = [] := by kernel_rfl
    rw [e]
    intro p hp
    cases hp) ((memory_Memory_Grow.eq n3 k).trans hx)
theorem memory_Memory_Grow.look (d : Nat) (hd : 1 ≤ d) {e : Option Bool} {g : FuncId} {a : List AV} {h : Heap} {k : KR} (hx : memory_Memory_Grow.get memory_Memory_Grow e g a h k = some true) : e = some true ∨ callK Try.prog ht d g a h k = some true := by
  unfold memory_Memory_Grow.get at hx
  split at hx
  · exact .inr (memory_Memory_Grow.ok d hd _ _ hx)
  · exact .inl hx
/-- function 30: sheerleg/stack.segment -/
noncomputable def stack_segment.body (n6 : Int) (n7 : Int) (k1 : (Int × Int × Int × Unit) → Option Bool) : Option Bool :=
  (k1 (n6, ((IntKind.wrap .i64 (n6 + (64 : Int))), ((IntKind.wrap .i64 (n6 + n7)), ()))))
noncomputable def stack_segment (n6 : Int) (n7 : Int) (k1 : (Int × Int × Int × Unit) → Option Bool) : Option Bool := stack_segment.body n6 n7 k1
noncomputable def stack_segment.get (F : Int → Int → ((Int × Int × Int × Unit) → Option Bool) → Option Bool) (e : Option Bool) (g : FuncId) (a : List AV) (h : Heap) (k : KR) : Option Bool := match g, a, h with
  | 30, [(.d ⟨(.int .i64), n6⟩), (.d ⟨(.int .i64), n7⟩)], [] => F n6 n7 (fun y0 => k (.d ⟨(.st [(.int .i64), (.int .i64), (.int .i64)]), y0⟩) [])
  | _, _, _ => e
noncomputable def stack_segment.calls : RecF := fun g a h k => none
noncomputable def stack_segment.loops : LoopF := fun b => none
set_option maxRecDepth 100000 in
theorem stack_segment.eq (n6 : Int) (n7 : Int) (k : KR) : execL Try.prog ht 30 (callfOf (stack_segment.calls)) (stack_segment.loops) 0 (codeOf Try.f30) ⟨[(.d ⟨(.int .i64), n6⟩), (.d ⟨(.int .i64), n7⟩)] ++ List.replicate (Try.f30.ntmps - ([(.d ⟨(.int .i64), n6⟩), (.d ⟨(.int .i64), n7⟩)] : List AV).length) .undef, [], 2⟩ (leave Try.prog Try.f30 k) = stack_segment.body n6 n7 (fun y0 => k (.d ⟨(.st [(.int .i64), (.int .i64), (.int .i64)]), y0⟩) []) := by kernel_rfl
theorem stack_segment.ok (d : Nat) (hd : 1 ≤ d) (n6 : Int) (n7 : Int) (k : KR) (hx : stack_segment n6 n7 (fun y0 => k (.d ⟨(.st [(.int .i64), (.int .i64), (.int .i64)]), y0⟩) []) = some true) : callK Try.prog ht d 30 [(.d ⟨(.int .i64), n6⟩), (.d ⟨(.int .i64), n7⟩)] [] k = some true := by
  obtain ⟨d, rfl⟩ : ∃ e, d = e + 1 := ⟨d - 1, by omega⟩
  exact fn_ok (c := codeOf Try.f30) Try.func30 (by kernel_rfl) (rec := stack_segment.calls) (fun g a h k hx => by
    cases hx) (loopf := stack_segment.loops) (by
    have e : loopsOf (stack_segment.loops) 0 (codeOf Try.f30) = [] := by kernel_rfl
    rw [e]
    intro p hp
    cases hp) ((stack_segment.eq n6 n7 k).trans hx)
theorem stack_segment.look (d : Nat) (hd : 1 ≤ d) {e : Option Bool} {g : FuncId} {a : List AV} {h : Heap} {k : KR} (hx : stack_segment.get stack_segment e g a h k = some true) : e = some true ∨ callK Try.prog ht d g a h k = some true := by
  unfold stack_segment.get at hx
  split at hx
  · exact .inr (stack_segment.ok d hd _ _ _ hx)
  · exact .inl hx
/-- function 8: sheerleg/stack.New -/
noncomputable def stack_New.body (memory_Memory_Grow : Int → (Int → Bool → Option Bool) → Option Bool) (stack_segment : Int → Int → ((Int × Int × Int × Unit) → Option Bool) → Option Bool) (n2 : Int) (k1 : Bool → Option Bool) (k2 : Bool → Int → Int → Int → Int → Int → Int → Int → Option Bool) : Option Bool :=
  (cond_ (decide (n2 < (128 : Int))) (k1 false) (memory_Memory_Grow (128 : Int)
  (fun n4 b5 => (cond_ (! b5) (k1 false) (stack_segment n4 (128 : Int)
  (fun t8 => (k2 true t8.1 t8.2.1 t8.2.2.1 t8.2.2.1 (128 : Int) n2 (128 : Int))))))))
noncomputable def stack_New (n2 : Int) (k1 : Bool → Option Bool) (k2 : Bool → Int → Int → Int → Int → Int → Int → Int → Option Bool) : Option Bool := stack_New.body memory_Memory_Grow stack_segment n2 k1 k2
noncomputable def stack_New.get (F : Int → (Bool → Option Bool) → (Bool → Int → Int → Int → Int → Int → Int → Int → Option Bool) → Option Bool) (e : Option Bool) (g : FuncId) (a : List AV) (h : Heap) (k : KR) : Option Bool := match g, a, h with
  | 8, [.nilp, (.d ⟨(.int .i64), n2⟩)], [] => F n2 (fun y0 => k (.tup [.nilp, (.d ⟨.bool, y0⟩)]) []) (fun y0 y1 y2 y3 y4 y5 y6 y7 => k (.tup [(.ptr [1, 0] 0 0), (.d ⟨.bool, y0⟩)]) [([1, 0], ⟨53, 8, (.mix [(.agg [.nilp, (.d ⟨(.int .i64), y1⟩), (.d ⟨(.int .i64), y2⟩), (.d ⟨(.int .i64), y3⟩), (.d ⟨(.int .i64), y4⟩), (.d ⟨(.int .i64), y5⟩), (.d ⟨(.int .i64), y6⟩), (.d ⟨(.int .i64), y7⟩)])])⟩)])
  | _, _, _ => e
noncomputable def stack_New.calls (F0 : Int → (Int → Bool → Option Bool) → Option Bool) (F1 : Int → Int → ((Int × Int × Int × Unit) → Option Bool) → Option Bool) : RecF := fun g a h k => (memory_Memory_Grow.get F0 (stack_segment.get F1 none g a h k) g a h k)
noncomputable def stack_New.loops : LoopF := fun b => none
set_option maxRecDepth 100000 in
theorem stack_New.eq (F0 : Int → (Int → Bool → Option Bool) → Option Bool) (F1 : Int → Int → ((Int × Int × Int × Unit) → Option Bool) → Option Bool) (n2 : Int) (k : KR) : execL Try.prog ht 8 (callfOf (stack_New.calls F0 F1)) (stack_New.loops) 0 (codeOf Try.f8) ⟨[.nilp, (.d ⟨(.int .i64), n2⟩)] ++ List.replicate (Try.f8.ntmps - ([.nilp, (.d ⟨(.int .i64), n2⟩)] : List AV).length) .undef, [], 2⟩ (leave Try.prog Try.f8 k) = stack_New.body F0 F1 n2 (fun y0 => k (.tup [.nilp, (.d ⟨.bool, y0⟩)]) []) (fun y0 y1 y2 y3 y4 y5 y6 y7 => k (.tup [(.ptr [1, 0] 0 0), (.d ⟨.bool, y0⟩)]) [([1, 0], ⟨53, 8, (.mix [(.agg [.nilp, (.d ⟨(.int .i64), y1⟩), (.d ⟨(.int .i64), y2⟩), (.d ⟨(.int .i64), y3⟩), (.d ⟨(.int .i64), y4⟩), (.d ⟨(.int .i64), y5⟩), (.d ⟨(.int .i64), y6⟩), (.d ⟨(.int .i64), y7⟩)])])⟩)]) := by kernel_rfl
theorem stack_New.ok (d : Nat) (hd : 2 ≤ d) (n2 : Int) (k : KR) (hx : stack_New n2 (fun y0 => k (.tup [.nilp, (.d ⟨.bool, y0⟩)]) []) (fun y0 y1 y2 y3 y4 y5 y6 y7 => k (.tup [(.ptr [1, 0] 0 0), (.d ⟨.bool, y0⟩)]) [([1, 0], ⟨53, 8, (.mix [(.agg [.nilp, (.d ⟨(.int .i64), y1⟩), (.d ⟨(.int .i64), y2⟩), (.d ⟨(.int .i64), y3⟩), (.d ⟨(.int .i64), y4⟩), (.d ⟨(.int .i64), y5⟩), (.d ⟨(.int .i64), y6⟩), (.d ⟨(.int .i64), y7⟩)])])⟩)]) = some true) : callK Try.prog ht d 8 [.nilp, (.d ⟨(.int .i64), n2⟩)] [] k = some true := by
  obtain ⟨d, rfl⟩ : ∃ e, d = e + 1 := ⟨d - 1, by omega⟩
  exact fn_ok (c := codeOf Try.f8) Try.func8 (by kernel_rfl) (rec := stack_New.calls memory_Memory_Grow stack_segment) (fun g a h k hx => by
    rcases memory_Memory_Grow.look d (by omega) hx with hx | hx
    rotate_left
    · exact hx
    rcases stack_segment.look d (by omega) hx with hx | hx
    rotate_left
    · exact hx
    cases hx) (loopf := stack_New.loops) (by
    have e : loopsOf (stack_New.loops) 0 (codeOf Try.f8) = [] := by kernel_rfl
    rw [e]
    intro p hp
    cases hp) ((stack_New.eq memory_Memory_Grow stack_segment n2 k).trans hx)
theorem stack_New.look (d : Nat) (hd : 2 ≤ d) {e : Option Bool} {g : FuncId} {a : List AV} {h : Heap} {k : KR} (hx : stack_New.get stack_New e g a h k = some true) : e = some true ∨ callK Try.prog ht d g a h k = some true := by
  unfold stack_New.get at hx
  split at hx
  · exact .inr (stack_New.ok d hd _ _ hx)
  · exact .inl hx
/-- function 34: (*sheerleg/stack.Stack).live -/
noncomputable def stack_Stack_live.body (k1 : Bool → Option Bool) : Option Bool :=
  (k1 false)
noncomputable def stack_Stack_live (k1 : Bool → Option Bool) : Option Bool := stack_Stack_live.body k1
noncomputable def stack_Stack_live.get (F : (Bool → Option Bool) → Option Bool) (e : Option Bool) (g : FuncId) (a : List AV) (h : Heap) (k : KR) : Option Bool := match g, a, h with
  | 34, [.nilp], [] => F (fun y0 => k (.d ⟨.bool, y0⟩) [])
  | _, _, _ => e
noncomputable def stack_Stack_live.calls : RecF := fun g a h k => none
noncomputable def stack_Stack_live.loops : LoopF := fun b => none
set_option maxRecDepth 100000 in
theorem stack_Stack_live.eq (k : KR) : execL Try.prog ht 34 (callfOf (stack_Stack_live.calls)) (stack_Stack_live.loops) 0 (codeOf Try.f34) ⟨[.nilp] ++ List.replicate (Try.f34.ntmps - ([.nilp] : List AV).length) .undef, [], 2⟩ (leave Try.prog Try.f34 k) = stack_Stack_live.body (fun y0 => k (.d ⟨.bool, y0⟩) []) := by kernel_rfl
theorem stack_Stack_live.ok (d : Nat) (hd : 1 ≤ d) (k : KR) (hx : stack_Stack_live (fun y0 => k (.d ⟨.bool, y0⟩) []) = some true) : callK Try.prog ht d 34 [.nilp] [] k = some true := by
  obtain ⟨d, rfl⟩ : ∃ e, d = e + 1 := ⟨d - 1, by omega⟩
  exact fn_ok (c := codeOf Try.f34) Try.func34 (by kernel_rfl) (rec := stack_Stack_live.calls) (fun g a h k hx => by
    cases hx) (loopf := stack_Stack_live.loops) (by
    have e : loopsOf (stack_Stack_live.loops) 0 (codeOf Try.f34) = [] := by kernel_rfl
    rw [e]
    intro p hp
    cases hp) ((stack_Stack_live.eq k).trans hx)
theorem stack_Stack_live.look (d : Nat) (hd : 1 ≤ d) {e : Option Bool} {g : FuncId} {a : List AV} {h : Heap} {k : KR} (hx : stack_Stack_live.get stack_Stack_live e g a h k = some true) : e = some true ∨ callK Try.prog ht d g a h k = some true := by
  unfold stack_Stack_live.get at hx
  split at hx
  · exact .inr (stack_Stack_live.ok d hd _ hx)
  · exact .inl hx
/-- function 14: (*sheerleg/stack.Stack).Seg -/
noncomputable def stack_Stack_Seg.body (stack_Stack_live : (Bool → Option Bool) → Option Bool) (k1 : (Int × Int × Int × Unit) → Option Bool) : Option Bool :=
  (stack_Stack_live
  (fun b12 => (cond_ (! b12) (k1 ((0 : Int), ((0 : Int), ((0 : Int), ())))) none)))
noncomputable def stack_Stack_Seg (k1 : (Int × Int × Int × Unit) → Option Bool) : Option Bool := stack_Stack_Seg.body stack_Stack_live k1
noncomputable def stack_Stack_Seg.get (F : ((Int × Int × Int × Unit) → Option Bool) → Option Bool) (e : Option Bool) (g : FuncId) (a : List AV) (h : Heap) (k : KR) : Option Bool := match g, a, h with
  | 14, [.nilp], [] => F (fun y0 => k (.d ⟨(.st [(.int .i64), (.int .i64), (.int .i64)]), y0⟩) [])
  | _, _, _ => e
noncomputable def stack_Stack_Seg.calls (F0 : (Bool → Option Bool) → Option Bool) : RecF := fun g a h k => (stack_Stack_live.get F0 none g a h k)
noncomputable def stack_Stack_Seg.loops : LoopF := fun b => none
set_option maxRecDepth 100000 in
theorem stack_Stack_Seg.eq (F0 : (Bool → Option Bool) → Option Bool) (k : KR) : execL Try.prog ht 14 (callfOf (stack_Stack_Seg.calls F0)) (stack_Stack_Seg.loops) 0 (codeOf Try.f14) ⟨[.nilp] ++ List.replicate (Try.f14.ntmps - ([.nilp] : List AV).length) .undef, [], 2⟩ (leave Try.prog Try.f14 k) = stack_Stack_Seg.body F0 (fun y0 => k (.d ⟨(.st [(.int .i64), (.int .i64), (.int .i64)]), y0⟩) []) := by kernel_rfl
theorem stack_Stack_Seg.ok (d : Nat) (hd : 2 ≤ d) (k : KR) (hx : stack_Stack_Seg (fun y0 => k (.d ⟨(.st [(.int .i64), (.int .i64), (.int .i64)]), y0⟩) []) = some true) : callK Try.prog ht d 14 [.nilp] [] k = some true := by
  obtain ⟨d, rfl⟩ : ∃ e, d = e + 1 := ⟨d - 1, by omega⟩
  exact fn_ok (c := codeOf Try.f14) Try.func14 (by kernel_rfl) (rec := stack_Stack_Seg.calls stack_Stack_live) (fun g a h k hx => by
    rcases stack_Stack_live.look d (by omega) hx with hx | hx
    rotate_left
    · exact hx
    cases hx) (loopf := stack_Stack_Seg.loops) (by
    have e : loopsOf (stack_Stack_Seg.loops) 0 (codeOf Try.f14) = [] := by kernel_rfl
    rw [e]
    intro p hp
    cases hp) ((stack_Stack_Seg.eq stack_Stack_live k).trans hx)
theorem stack_Stack_Seg.look (d : Nat) (hd : 2 ≤ d) {e : Option Bool} {g : FuncId} {a : List AV} {h : Heap} {k : KR} (hx : stack_Stack_Seg.get stack_Stack_Seg e g a h k = some true) : e = some true ∨ callK Try.prog ht d g a h k = some true := by
  unfold stack_Stack_Seg.get at hx
  split at hx
  · exact .inr (stack_Stack_Seg.ok d hd _ hx)
  · exact .inl hx
/-- function 13: (*sheerleg/stack.Stack).SP -/
noncomputable def stack_Stack_SP.body (stack_Stack_live : (Bool → Option Bool) → Option Bool) (k1 : Int → Option Bool) : Option Bool :=
  (stack_Stack_live
  (fun b14 => (cond_ (! b14) (k1 (0 : Int)) none)))
noncomputable def stack_Stack_SP (k1 : Int → Option Bool) : Option Bool := stack_Stack_SP.body stack_Stack_live k1
noncomputable def stack_Stack_SP.get (F : (Int → Option Bool) → Option Bool) (e : Option Bool) (g : FuncId) (a : List AV) (h : Heap) (k : KR) : Option Bool := match g, a, h with
  | 13, [.nilp], [] => F (fun y0 => k (.d ⟨(.int .i64), y0⟩) [])
  | _, _, _ => e
noncomputable def stack_Stack_SP.calls (F0 : (Bool → Option Bool) → Option Bool) : RecF := fun g a h k => (stack_Stack_live.get F0 none g a h k)
noncomputable def stack_Stack_SP.loops : LoopF := fun b => none
set_option maxRecDepth 100000 in
theorem stack_Stack_SP.eq (F0 : (Bool → Option Bool) → Option Bool) (k : KR) : execL Try.prog ht 13 (callfOf (stack_Stack_SP.calls F0)) (stack_Stack_SP.loops) 0 (codeOf Try.f13) ⟨[.nilp] ++ List.replicate (Try.f13.ntmps - ([.nilp] : List AV).length) .undef, [], 2⟩ (leave Try.prog Try.f13 k) = stack_Stack_SP.body F0 (fun y0 => k (.d ⟨(.int .i64), y0⟩) []) := by kernel_rfl
theorem stack_Stack_SP.ok (d : Nat) (hd : 2 ≤ d) (k : KR) (hx : stack_Stack_SP (fun y0 => k (.d ⟨(.int .i64), y0⟩) []) = some true) : callK Try.prog ht d 13 [.nilp] [] k = some true := by
  obtain ⟨d, rfl⟩ : ∃ e, d = e + 1 := ⟨d - 1, by omega⟩
  exact fn_ok (c := codeOf Try.f13) Try.func13 (by kernel_rfl) (rec := stack_Stack_SP.calls stack_Stack_live) (fun g a h k hx => by
    rcases stack_Stack_live.look d (by omega) hx with hx | hx
    rotate_left
    · exact hx
    cases hx) (loopf := stack_Stack_SP.loops) (by
    have e : loopsOf (stack_Stack_SP.loops) 0 (codeOf Try.f13) = [] := by kernel_rfl
    rw [e]
    intro p hp
    cases hp) ((stack_Stack_SP.eq stack_Stack_live k).trans hx)
theorem stack_Stack_SP.look (d : Nat) (hd : 2 ≤ d) {e : Option Bool} {g : FuncId} {a : List AV} {h : Heap} {k : KR} (hx : stack_Stack_SP.get stack_Stack_SP e g a h k = some true) : e = some true ∨ callK Try.prog ht d g a h k = some true := by
  unfold stack_Stack_SP.get at hx
  split at hx
  · exact .inr (stack_Stack_SP.ok d hd _ hx)
  · exact .inl hx
/-- function 16: (*sheerleg/stack.Stack).Id -/
noncomputable def stack_Stack_Id.body (stack_Stack_Seg : ((Int × Int × Int × Unit) → Option Bool) → Option Bool) (stack_Stack_SP : (Int → Option Bool) → Option Bool) (k1 : Int → Option Bool) : Option Bool :=
  (stack_Stack_Seg
  (fun t13 => (stack_Stack_SP
  (fun n15 => (k1 (IntKind.wrap .i64 (t13.2.2.1 - n15)))))))
noncomputable def stack_Stack_Id (k1 : Int → Option Bool) : Option Bool := stack_Stack_Id.body stack_Stack_Seg stack_Stack_SP k1
noncomputable def stack_Stack_Id.get (F : (Int → Option Bool) → Option Bool) (e : Option Bool) (g : FuncId) (a : List AV) (h : Heap) (k : KR) : Option Bool := match g, a, h with
  | 16, [.nilp], [] => F (fun y0 => k (.d ⟨(.int .i64), y0⟩) [])
  | _, _, _ => e
noncomputable def stack_Stack_Id.calls (F0 : ((Int × Int × Int × Unit) → Option Bool) → Option Bool) (F1 : (Int → Option Bool) → Option Bool) : RecF := fun g a h k => (stack_Stack_Seg.get F0 (stack_Stack_SP.get F1 none g a h k) g a h k)
noncomputable def stack_Stack_Id.loops : LoopF := fun b => none
set_option maxRecDepth 100000 in
theorem stack_Stack_Id.eq (F0 : ((Int × Int × Int × Unit) → Option Bool) → Option Bool) (F1 : (Int → Option Bool) → Option Bool) (k : KR) : execL Try.prog ht 16 (callfOf (stack_Stack_Id.calls F0 F1)) (stack_Stack_Id.loops) 0 (codeOf Try.f16) ⟨[.nilp] ++ List.replicate (Try.f16.ntmps - ([.nilp] : List AV).length) .undef, [], 2⟩ (leave Try.prog Try.f16 k) = stack_Stack_Id.body F0 F1 (fun y0 => k (.d ⟨(.int .i64), y0⟩) []) := by kernel_rfl
theorem stack_Stack_Id.ok (d : Nat) (hd : 3 ≤ d) (k : KR) (hx : stack_Stack_Id (fun y0 => k (.d ⟨(.int .i64), y0⟩) []) = some true) : callK Try.prog ht d 16 [.nilp] [] k = some true := by
  obtain ⟨d, rfl⟩ : ∃ e, d = e + 1 := ⟨d - 1, by omega⟩
  exact fn_ok (c := codeOf Try.f16) Try.func16 (by kernel_rfl) (rec := stack_Stack_Id.calls stack_Stack_Seg stack_Stack_SP) (fun g a h k hx => by
    rcases stack_Stack_Seg.look d (by omega) hx with hx | hx
    rotate_left
    · exact hx
    rcases stack_Stack_SP.look d (by omega) hx with hx | hx
    rotate_left
    · exact hx
    cases hx) (loopf := stack_Stack_Id.loops) (by
    have e : loopsOf (stack_Stack_Id.loops) 0 (codeOf Try.f16) = [] := by kernel_rfl
    rw [e]
    intro p hp
    cases hp) ((stack_Stack_Id.eq stack_Stack_Seg stack_Stack_SP k).trans hx)
theorem stack_Stack_Id.look (d : Nat) (hd : 3 ≤ d) {e : Option Bool} {g : FuncId} {a : List AV} {h : Heap} {k : KR} (hx : stack_Stack_Id.get stack_Stack_Id e g a h k = some true) : e = some true ∨ callK Try.prog ht d g a h k = some true := by
  unfold stack_Stack_Id.get at hx
  split at hx
  · exact .inr (stack_Stack_Id.ok d hd _ hx)
  · exact .inl hx
/-- function 48: (*sheerleg/stack.Stack).has -/
noncomputable def stack_Stack_has.body (stack_Stack_Id : (Int → Option Bool) → Option Bool) (n11 : Int) (k1 : Bool → Option Bool) : Option Bool :=
  (cond_ (decide (n11 ≥ (0 : Int))) (stack_Stack_Id
  (fun n16 => (k1 (decide (n11 < n16))))) (k1 false))
noncomputable def stack_Stack_has (n11 : Int) (k1 : Bool → Option Bool) : Option Bool := stack_Stack_has.body stack_Stack_Id n11 k1
noncomputable def stack_Stack_has.get (F : Int → (Bool → Option Bool) → Option Bool) (e : Option Bool) (g : FuncId) (a : List AV) (h : Heap) (k : KR) : Option Bool := match g, a, h with
  | 48, [.nilp, (.d ⟨(.int .i64), n11⟩)], [] => F n11 (fun y0 => k (.d ⟨.bool, y0⟩) [])
  | _, _, _ => e
noncomputable def stack_Stack_has.calls (F0 : (Int → Option Bool) → Option Bool) : RecF := fun g a h k => (stack_Stack_Id.get F0 none g a h k)
noncomputable def stack_Stack_has.loops : LoopF := fun b => none
set_option maxRecDepth 100000 in
theorem stack_Stack_has.eq (F0 : (Int → Option Bool) → Option Bool) (n11 : Int) (k : KR) : execL Try.prog ht 48 (callfOf (stack_Stack_has.calls F0)) (stack_Stack_has.loops) 0 (codeOf Try.f48) ⟨[.nilp, (.d ⟨(.int .i64), n11⟩)] ++ List.replicate (Try.f48.ntmps - ([.nilp, (.d ⟨(.int .i64), n11⟩)] : List AV).length) .undef, [], 2⟩ (leave Try.prog Try.f48 k) = stack_Stack_has.body F0 n11 (fun y0 => k (.d ⟨.bool, y0⟩) []) := by kernel_rfl
theorem stack_Stack_has.ok (d : Nat) (hd : 4 ≤ d) (n11 : Int) (k : KR) (hx : stack_Stack_has n11 (fun y0 => k (.d ⟨.bool, y0⟩) []) = some true) : callK Try.prog ht d 48 [.nilp, (.d ⟨(.int .i64), n11⟩)] [] k = some true := by
  obtain ⟨d, rfl⟩ : ∃ e, d = e + 1 := ⟨d - 1, by omega⟩
  exact fn_ok (c := codeOf Try.f48) Try.func48 (by kernel_rfl) (rec := stack_Stack_has.calls stack_Stack_Id) (fun g a h k hx => by
    rcases stack_Stack_Id.look d (by omega) hx with hx | hx
    rotate_left
    · exact hx
    cases hx) (loopf := stack_Stack_has.loops) (by
    have e : loopsOf (stack_Stack_has.loops) 0 (codeOf Try.f48) = [] := by kernel_rfl
    rw [e]
    intro p hp
    cases hp) ((stack_Stack_has.eq stack_Stack_Id n11 k).trans hx)
theorem stack_Stack_has.look (d : Nat) (hd : 4 ≤ d) {e : Option Bool} {g : FuncId} {a : List AV} {h : Heap} {k : KR} (hx : stack_Stack_has.get stack_Stack_has e g a h k = some true) : e = some true ∨ callK Try.prog ht d g a h k = some true := by
  unfold stack_Stack_has.get at hx
  split at hx
  · exact .inr (stack_Stack_has.ok d hd _ _ hx)
  · exact .inl hx
/-- function 23: (*sheerleg/stack.Stack).Get -/
noncomputable def stack_Stack_Get.body (stack_Stack_has : Int → (Bool → Option Bool) → Option Bool) (n10 : Int) (k1 : Int → Bool → Option Bool) : Option Bool :=
  (stack_Stack_has n10
  (fun b17 => (cond_ (! b17) (k1 (0 : Int) false) none)))
noncomputable def stack_Stack_Get (n10 : Int) (k1 : Int → Bool → Option Bool) : Option Bool := stack_Stack_Get.body stack_Stack_has n10 k1
noncomputable def stack_Stack_Get.get (F : Int → (Int → Bool → Option Bool) → Option Bool) (e : Option Bool) (g : FuncId) (a : List AV) (h : Heap) (k : KR) : Option Bool := match g, a, h with
  | 23, [.nilp, (.d ⟨(.int .i64), n10⟩)], [] => F n10 (fun y0 y1 => k (.tup [(.d ⟨(.int .i64), y0⟩), (.d ⟨.bool, y1⟩)]) [])
  | _, _, _ => e
noncomputable def stack_Stack_Get.calls (F0 : Int → (Bool → Option Bool) → Option Bool) : RecF := fun g a h k => (stack_Stack_has.get F0 none g a h k)
noncomputable def stack_Stack_Get.loops : LoopF := fun b => none
set_option maxRecDepth 100000 in
theorem stack_Stack_Get.eq (F0 : Int → (Bool → Option Bool) → Option Bool) (n10 : Int) (k : KR) : execL Try.prog ht 23 (callfOf (stack_Stack_Get.calls F0)) (stack_Stack_Get.loops) 0 (codeOf Try.f23) ⟨[.nilp, (.d ⟨(.int .i64), n10⟩)] ++ List.replicate (Try.f23.ntmps - ([.nilp, (.d ⟨(.int .i64), n10⟩)] : List AV).length) .undef, [], 2⟩ (leave Try.prog Try.f23 k) = stack_Stack_Get.body F0 n10 (fun y0 y1 => k (.tup [(.d ⟨(.int .i64), y0⟩), (.d ⟨.bool, y1⟩)]) []) := by kernel_rfl
theorem stack_Stack_Get.ok (d : Nat) (hd : 5 ≤ d) (n10 : Int) (k : KR) (hx : stack_Stack_Get n10 (fun y0 y1 => k (.tup [(.d ⟨(.int .i64), y0⟩), (.d ⟨.bool, y1⟩)]) []) = some true) : callK Try.prog ht d 23 [.nilp, (.d ⟨(.int .i64), n10⟩)] [] k = some true := by
  obtain ⟨d, rfl⟩ : ∃ e, d = e + 1 := ⟨d - 1, by omega⟩
  exact fn_ok (c := codeOf Try.f23) Try.func23 (by kernel_rfl) (rec := stack_Stack_Get.calls stack_Stack_has) (fun g a h k hx => by
    rcases stack_Stack_has.look d (by omega) hx with hx | hx
    rotate_left
    · exact hx
    cases hx) (loopf := stack_Stack_Get.loops) (by
    have e : loopsOf (stack_Stack_Get.loops) 0 (codeOf Try.f23) = [] := by kernel_rfl
    rw [e]
    intro p hp
    cases hp) ((stack_Stack_Get.eq stack_Stack_has n10 k).trans hx)
theorem stack_Stack_Get.look (d : Nat) (hd : 5 ≤ d) {e : Option Bool} {g : FuncId} {a : List AV} {h : Heap} {k : KR} (hx : stack_Stack_Get.get stack_Stack_Get e g a h k = some true) : e = some true ∨ callK Try.prog ht d g a h k = some true := by
  unfold stack_Stack_Get.get at hx
  split at hx
  · exact .inr (stack_Stack_Get.ok d hd _ _ hx)
  · exact .inl hx
/-- function 15: (*sheerleg/stack.Stack).Pop -/
noncomputable def stack_Stack_Pop.body (stack_Stack_Get : Int → (Int → Bool → Option Bool) → Option Bool) (k1 : Int → Bool → Option Bool) : Option Bool :=
  (stack_Stack_Get (0 : Int)
  (fun n18 b19 => (cond_ b19 none (k1 n18 b19))))
noncomputable def stack_Stack_Pop (k1 : Int → Bool → Option Bool) : Option Bool := stack_Stack_Pop.body stack_Stack_Get k1
noncomputable def stack_Stack_Pop.get (F : (Int → Bool → Option Bool) → Option Bool) (e : Option Bool) (g : FuncId) (a : List AV) (h : Heap) (k : KR) : Option Bool := match g, a, h with
  | 15, [.nilp], [] => F (fun y0 y1 => k (.tup [(.d ⟨(.int .i64), y0⟩), (.d ⟨.bool, y1⟩)]) [])
  | _, _, _ => e
noncomputable def stack_Stack_Pop.calls (F0 : Int → (Int → Bool → Option Bool) → Option Bool) : RecF := fun g a h k => (stack_Stack_Get.get F0 none g a h k)
noncomputable def stack_Stack_Pop.loops : LoopF := fun b => none
set_option maxRecDepth 100000 in
theorem stack_Stack_Pop.eq (F0 : Int → (Int → Bool → Option Bool) → Option Bool) (k : KR) : execL Try.prog ht 15 (callfOf (stack_Stack_Pop.calls F0)) (stack_Stack_Pop.loops) 0 (codeOf Try.f15) ⟨[.nilp] ++ List.replicate (Try.f15.ntmps - ([.nilp] : List AV).length) .undef, [], 2⟩ (leave Try.prog Try.f15 k) = stack_Stack_Pop.body F0 (fun y0 y1 => k (.tup [(.d ⟨(.int .i64), y0⟩), (.d ⟨.bool, y1⟩)]) []) := by kernel_rfl
theorem stack_Stack_Pop.ok (d : Nat) (hd : 6 ≤ d) (k : KR) (hx : stack_Stack_Pop (fun y0 y1 => k (.tup [(.d ⟨(.int .i64), y0⟩), (.d ⟨.bool, y1⟩)]) []) = some true) : callK Try.prog ht d 15 [.nilp] [] k = some true := by
  obtain ⟨d, rfl⟩ : ∃ e, d = e + 1 := ⟨d - 1, by omega⟩
  exact fn_ok (c := codeOf Try.f15) Try.func15 (by kernel_rfl) (rec := stack_Stack_Pop.calls stack_Stack_Get) (fun g a h k hx => by
    rcases stack_Stack_Get.look d (by omega) hx with hx | hx
    rotate_left
    · exact hx
    cases hx) (loopf := stack_Stack_Pop.loops) (by
    have e : loopsOf (stack_Stack_Pop.loops) 0 (codeOf Try.f15) = [] := by kernel_rfl
    rw [e]
    intro p hp
    cases hp) ((stack_Stack_Pop.eq stack_Stack_Get k).trans hx)
theorem stack_Stack_Pop.look (d : Nat) (hd : 6 ≤ d) {e : Option Bool} {g : FuncId} {a : List AV} {h : Heap} {k : KR} (hx : stack_Stack_Pop.get stack_Stack_Pop e g a h k = some true) : e = some true ∨ callK Try.prog ht d g a h k = some true := by
  unfold stack_Stack_Pop.get at hx
  split at hx
  · exact .inr (stack_Stack_Pop.ok d hd _ hx)
  · exact .inl hx
/-- function 34: (*sheerleg/stack.Stack).live -/
noncomputable def stack_Stack_livev1.body (n59 : Int) (n60 : Int) (n61 : Int) (n62 : Int) (n63 : Int) (n64 : Int) (n65 : Int) (k1 : Bool → Int → Int → Int → Int → Int → Int → Int → Option Bool) : Option Bool :=
  (k1 false n59 n60 n61 n62 n63 n64 n65)
noncomputable def stack_Stack_livev1 (n59 : Int) (n60 : Int) (n61 : Int) (n62 : Int) (n63 : Int) (n64 : Int) (n65 : Int) (k1 : Bool → Int → Int → Int → Int → Int → Int → Int → Option Bool) : Option Bool := stack_Stack_livev1.body n59 n60 n61 n62 n63 n64 n65 k1
noncomputable def stack_Stack_livev1.get (F : Int → Int → Int → Int → Int → Int → Int → (Bool → Int → Int → Int → Int → Int → Int → Int → Option Bool) → Option Bool) (e : Option Bool) (g : FuncId) (a : List AV) (h : Heap) (k : KR) : Option Bool := match g, a, h with
  | 34, [(.ptr [0, 0] 0 0)], [([0, 0], ⟨53, 8, (.mix [(.agg [.nilp, (.d ⟨(.int .i64), n59⟩), (.d ⟨(.int .i64), n60⟩), (.d ⟨(.int .i64), n61⟩), (.d ⟨(.int .i64), n62⟩), (.d ⟨(.int .i64), n63⟩), (.d ⟨(.int .i64), n64⟩), (.d ⟨(.int .i64), n65⟩)])])⟩)] => F n59 n60 n61 n62 n63 n64 n65 (fun y0 y1 y2 y3 y4 y5 y6 y7 => k (.d ⟨.bool, y0⟩) [([0, 0], ⟨53, 8, (.mix [(.agg [.nilp, (.d ⟨(.int .i64), y1⟩), (.d ⟨(.int .i64), y2⟩), (.d ⟨(.int .i64), y3⟩), (.d ⟨(.int .i64), y4⟩), (.d ⟨(.int .i64), y5⟩), (.d ⟨(.int .i64), y6⟩), (.d ⟨(.int .i64), y7⟩)])])⟩)])
  | _, _, _ => e
noncomputable def stack_Stack_livev1.calls : RecF := fun g a h k => none
noncomputable def stack_Stack_livev1.loops : LoopF := fun b => none
set_option maxRecDepth 100000 in
theorem stack_Stack_livev1.eq (n59 : Int) (n60 : Int) (n61 : Int) (n62 : Int) (n63 : Int) (n64 : Int) (n65 : Int) (k : KR) : execL Try.prog ht 34 (callfOf (stack_Stack_livev1.calls)) (stack_Stack_livev1.loops) 0 (codeOf Try.f34) ⟨[(.ptr [0, 0] 0 0)] ++ List.replicate (Try.f34.ntmps - ([(.ptr [0, 0] 0 0)] : List AV).length) .undef, [([0, 0], ⟨53, 8, (.mix [(.agg [.nilp, (.d ⟨(.int .i64), n59⟩), (.d ⟨(.int .i64), n60⟩), (.d ⟨(.int .i64), n61⟩), (.d ⟨(.int .i64), n62⟩), (.d ⟨(.int .i64), n63⟩), (.d ⟨(.int .i64), n64⟩), (.d ⟨(.int .i64), n65⟩)])])⟩)], 2⟩ (leave Try.prog Try.f34 k) = stack_Stack_livev1.body n59 n60 n61 n62 n63 n64 n65 (fun y0 y1 y2 y3 y4 y5 y6 y7 => k (.d ⟨.bool, y0⟩) [([0, 0], ⟨53, 8, (.mix [(.agg [.nilp, (.d ⟨(.int .i64), y1⟩), (.d ⟨(.int .i64), y2⟩), (.d ⟨(.int .i64), y3⟩), (.d ⟨(.int .i64), y4⟩), (.d ⟨(.int .i64), y5⟩), (.d ⟨(.int .i64), y6⟩), (.d ⟨(.int .i64), y7⟩)])])⟩)]) := by kernel_rfl
theorem stack_Stack_livev1.ok (d : Nat) (hd : 1 ≤ d) (n59 : Int) (n60 : Int) (n61 : Int) (n62 : Int) (n63 : Int) (n64 : Int) (n65 : Int) (k : KR) (hx : stack_Stack_livev1 n59 n60 n61 n62 n63 n64 n65 (fun y0 y1 y2 y3 y4 y5 y6 y7 => k (.d ⟨.bool, y0⟩) [([0, 0], ⟨53, 8, (.mix [(.agg [.nilp, (.d ⟨(.int .i64), y1⟩), (.d ⟨(.int .i64), y2⟩), (.d ⟨(.int .i64), y3⟩), (.d ⟨(.int .i64), y4⟩), (.d ⟨(.int .i64), y5⟩), (.d ⟨(.int .i64), y6⟩), (.d ⟨(.int .i64), y7⟩)])])⟩)]) = some true) : callK Try.prog ht d 34 [(.ptr [0, 0] 0 0)] [([0, 0], ⟨53, 8, (.mix [(.agg [.nilp, (.d ⟨(.int .i64), n59⟩), (.d ⟨(.int .i64), n60⟩), (.d ⟨(.int .i64), n61⟩), (.d ⟨(.int .i64), n62⟩), (.d ⟨(.int .i64), n63⟩), (.d ⟨(.int .i64), n64⟩), (.d ⟨(.int .i64), n65⟩)])])⟩)] k = some true := by
  obtain ⟨d, rfl⟩ : ∃ e, d = e + 1 := ⟨d - 1, by omega⟩
  exact fn_ok (c := codeOf Try.f34) Try.func34 (by kernel_rfl) (rec := stack_Stack_livev1.calls) (fun g a h k hx => by
    cases hx) (loopf := stack_Stack_livev1.loops) (by
    have e : loopsOf (stack_Stack_livev1.loops) 0 (codeOf Try.f34) = [] := by kernel_rfl
    rw [e]
    intro p hp
    cases hp) ((stack_Stack_livev1.eq n59 n60 n61 n62 n63 n64 n65 k).trans hx)
theorem stack_Stack_livev1.look (d : Nat) (hd : 1 ≤ d) {e : Option Bool} {g : FuncId} {a : List AV} {h : Heap} {k : KR} (hx : stack_Stack_livev1.get stack_Stack_livev1 e g a h k = some true) : e = some true ∨ callK Try.prog ht d g a h k = some true := by
  unfold stack_Stack_livev1.get at hx
  split at hx
  · exact .inr (stack_Stack_livev1.ok d hd _ _ _ _ _ _ _ _ hx)
  · exact .inl hx
/-- function 14: (*sheerleg/stack.Stack).Seg -/
noncomputable def stack_Stack_Segv1.body (stack_Stack_livev1 : Int → Int → Int → Int → Int → Int → Int → (Bool → Int → Int → Int → Int → Int → Int → Int → Option Bool) → Option Bool) (n52 : Int) (n53 : Int) (n54 : Int) (n55 : Int) (n56 : Int) (n57 : Int) (n58 : Int) (k1 : (Int × Int × Int × Unit) → Int → Int → Int → Int → Int → Int → Int → Option Bool) : Option Bool :=
  (stack_Stack_livev1 n52 n53 n54 n55 n56 n57 n58
  (fun b66 n67 n68 n69 n70 n71 n72 n73 => (cond_ (! b66) (k1 ((0 : Int), ((0 : Int), ((0 : Int), ()))) n67 n68 n69 n70 n71 n72 n73) (k1 (n67, (n68, (n69, ()))) n67 n68 n69 n70 n71 n72 n73))))
noncomputable def stack_Stack_Segv1 (n52 : Int) (n53 : Int) (n54 : Int) (n55 : Int) (n56 : Int) (n57 : Int) (n58 : Int) (k1 : (Int × Int × Int × Unit) → Int → Int → Int → Int → Int → Int → Int → Option Bool) : Option Bool := stack_Stack_Segv1.body stack_Stack_livev1 n52 n53 n54 n55 n56 n57 n58 k1
noncomputable def stack_Stack_Segv1.get (F : Int → Int → Int → Int → Int → Int → Int → ((Int × Int × Int × Unit) → Int → Int → Int → Int → Int → Int → Int → Option Bool) → Option Bool) (e : Option Bool) (g : FuncId) (a : List AV) (h : Heap) (k : KR) : Option Bool := match g, a, h with
  | 14, [(.ptr [0, 0] 0 0)], [([0, 0], ⟨53, 8, (.mix [(.agg [.nilp, (.d ⟨(.int .i64), n52⟩), (.d ⟨(.int .i64), n53⟩), (.d ⟨(.int .i64), n54⟩), (.d ⟨(.int .i64), n55⟩), (.d ⟨(.int .i64), n56⟩), (.d ⟨(.int .i64), n57⟩), (.d ⟨(.int .i64), n58⟩)])])⟩)] => F n52 n53 n54 n55 n56 n57 n58 (fun y0 y1 y2 y3 y4 y5 y6 y7 => k (.d ⟨(.st [(.int .i64), (.int .i64), (.int .i64)]), y0⟩) [([0, 0], ⟨53, 8, (.mix [(.agg [.nilp, (.d ⟨(.int .i64), y1⟩), (.d ⟨(.int .i64), y2⟩), (.d ⟨(.int .i64), y3⟩), (.d ⟨(.int .i64), y4⟩), (.d ⟨(.int .i64), y5⟩), (.d ⟨(.int .i64), y6⟩), (.d ⟨(.int .i64), y7⟩)])])⟩)])
  | _, _, _ => e
noncomputable def stack_Stack_Segv1.calls (F0 : Int → Int → Int → Int → Int → Int → Int → (Bool → Int → Int → Int → Int → Int → Int → Int → Option Bool) → Option Bool) : RecF := fun g a h k => (stack_Stack_livev1.get F0 none g a h k)
noncomputable def stack_Stack_Segv1.loops : LoopF := fun b => none
set_option maxRecDepth 100000 in
theorem stack_Stack_Segv1.eq (F0 : Int → Int → Int → Int → Int → Int → Int → (Bool → Int → Int → Int → Int → Int → Int → Int → Option Bool) → Option Bool) (n52 : Int) (n53 : Int) (n54 : Int) (n55 : Int) (n56 : Int) (n57 : Int) (n58 : Int) (k : KR) : execL Try.prog ht 14 (callfOf (stack_Stack_Segv1.calls F0)) (stack_Stack_Segv1.loops) 0 (codeOf Try.f14) ⟨[(.ptr [0, 0] 0 0)] ++ List.replicate (Try.f14.ntmps - ([(.ptr [0, 0] 0 0)] : List AV).length) .undef, [([0, 0], ⟨53, 8, (.mix [(.agg [.nilp, (.d ⟨(.int .i64), n52⟩), (.d ⟨(.int .i64), n53⟩), (.d ⟨(.int .i64), n54⟩), (.d ⟨(.int .i64), n55⟩), (.d ⟨(.int .i64), n56⟩), (.d ⟨(.int .i64), n57⟩), (.d ⟨(.int .i64), n58⟩)])])⟩)], 2⟩ (leave Try.prog Try.f14 k) = stack_Stack_Segv1.body F0 n52 n53 n54 n55 n56 n57 n58 (fun y0 y1 y2 y3 y4 y5 y6 y7 => k (.d ⟨(.st [(.int .i64), (.int .i64), (.int .i64)]), y0⟩) [([0, 0], ⟨53, 8, (.mix [(.agg [.nilp, (.d ⟨(.int .i64), y1⟩), (.d ⟨(.int .i64), y2⟩), (.d ⟨(.int .i64), y3⟩), (.d ⟨(.int .i64), y4⟩), (.d ⟨(.int .i64), y5⟩), (.d ⟨(.int .i64), y6⟩), (.d ⟨(.int .i64), y7⟩)])])⟩)]) := by kernel_rfl
theorem stack_Stack_Segv1.ok (d : Nat) (hd : 2 ≤ d) (n52 : Int) (n53 : Int) (n54 : Int) (n55 : Int) (n56 : Int) (n57 : Int) (n58 : Int) (k : KR) (hx : stack_Stack_Segv1 n52 n53 n54 n55 n56 n57 n58 (fun y0 y1 y2 y3 y4 y5 y6 y7 => k (.d ⟨(.st [(.int .i64), (.int .i64), (.int .i64)]), y0⟩) [([0, 0], ⟨53, 8, (.mix [(.agg [.nilp, (.d ⟨(.int .i64), y1⟩), (.d ⟨(.int .i64), y2⟩), (.d ⟨(.int .i64), y3⟩), (.d ⟨(.int .i64), y4⟩), (.d ⟨(.int .i64), y5⟩), (.d ⟨(.int .i64), y6⟩), (.d ⟨(.int .i64), y7⟩)])])⟩)]) = some true) : callK Try.prog ht d 14 [(.ptr [0, 0] 0 0)] [([0, 0], ⟨53, 8, (.mix [(.agg [.nilp, (.d ⟨(.int .i64), n52⟩), (.d ⟨(.int .i64), n53⟩), (.d ⟨(.int .i64), n54⟩), (.d ⟨(.int .i64), n55⟩), (.d ⟨(.int .i64), n56⟩), (.d ⟨(.int .i64), n57⟩), (.d ⟨(.int .i64), n58⟩)])])⟩)] k = some true := by
  obtain ⟨d, rfl⟩ : ∃ e, d = e + 1 := ⟨d - 1, by omega⟩
  exact fn_ok (c := codeOf Try.f14) Try.func14 (by kernel_rfl) (rec := stack_Stack_Segv1.calls stack_Stack_livev1) (fun g a h k hx => by
    rcases stack_Stack_livev1.look d (by omega) hx with hx | hx
    rotate_left
    · exact hx
    cases hx) (loopf := stack_Stack_Segv1.loops) (by
    have e : loopsOf (stack_Stack_Segv1.loops) 0 (codeOf Try.f14) = [] := by kernel_rfl
    rw [e]
    intro p hp
    cases hp) ((stack_Stack_Segv1.eq stack_Stack_livev1 n52 n53 n54 n55 n56 n57 n58 k).trans hx)
theorem stack_Stack_Segv1.look (d : Nat) (hd : 2 ≤ d) {e : Option Bool} {g : FuncId} {a : List AV} {h : Heap} {k : KR} (hx : stack_Stack_Segv1.get stack_Stack_Segv1 e g a h k = some true) : e = some true ∨ callK Try.prog ht d g a h k = some true := by
  unfold stack_Stack_Segv1.get at hx
  split at hx
  · exact .inr (stack_Stack_Segv1.ok d hd _ _ _ _ _ _ _ _ hx)
  · exact .inl hx
/-- function 13: (*sheerleg/stack.Stack).SP -/
noncomputable def stack_Stack_SPv1.body (stack_Stack_livev1 : Int → Int → Int → Int → Int → Int → Int → (Bool → Int → Int → Int → Int → Int → Int → Int → Option Bool) → Option Bool) (n82 : Int) (n83 : Int) (n84 : Int) (n85 : Int) (n86 : Int) (n87 : Int) (n88 : Int) (k1 : Int → Int → Int → Int → Int → Int → Int → Int → Option Bool) : Option Bool :=
  (stack_Stack_livev1 n82 n83 n84 n85 n86 n87 n88
  (fun b89 n90 n91 n92 n93 n94 n95 n96 => (cond_ (! b89) (k1 (0 : Int) n90 n91 n92 n93 n94 n95 n96) (k1 n93 n90 n91 n92 n93 n94 n95 n96))))
noncomputable def stack_Stack_SPv1 (n82 : Int) (n83 : Int) (n84 : Int) (n85 : Int) (n86 : Int) (n87 : Int) (n88 : Int) (k1 : Int → Int → Int → Int → Int → Int → Int → Int → Option Bool) : Option Bool := stack_Stack_SPv1.body stack_Stack_livev1 n82 n83 n84 n85 n86 n87 n88 k1
noncomputable def stack_Stack_SPv1.get (F : Int → Int → Int → Int → Int → Int → Int → (Int → Int → Int → Int → Int → Int → Int → Int → Option Bool) → Option Bool) (e : Option Bool) (g : FuncId) (a : List AV) (h : Heap) (k : KR) : Option Bool := match g, a, h with
  | 13, [(.ptr [0, 0] 0 0)], [([0, 0], ⟨53, 8, (.mix [(.agg [.nilp, (.d ⟨(.int .i64), n82⟩), (.d ⟨(.int .i64), n83⟩), (.d ⟨(.int .i64), n84⟩), (.d ⟨(.int .i64), n85⟩), (.d ⟨(.int .i64), n86⟩), (.d ⟨(.int .i64), n87⟩), (.d ⟨(.int .i64), n88⟩)])])⟩)] => F n82 n83 n84 n85 n86 n87 n88 (fun y0 y1 y2 y3 y4 y5 y6 y7 => k (.d ⟨(.int .i64), y0⟩) [([0, 0], ⟨53, 8, (.mix [(.agg [.nilp, (.d ⟨(.int .i64), y1⟩), (.d ⟨(.int .i64), y2⟩), (.d ⟨(.int .i64), y3⟩), (.d ⟨(.int .i64), y4⟩), (.d ⟨(.int .i64), y5⟩), (.d ⟨(.int .i64), y6⟩), (.d ⟨(.int .i64), y7⟩)])])⟩)])
  | _, _, _ => e
noncomputable def stack_Stack_SPv1.calls (F0 : Int → Int → Int → Int → Int → Int → Int → (Bool → Int → Int → Int → Int → Int → Int → Int → Option Bool) → Option Bool) : RecF := fun g a h k => (stack_Stack_livev1.get F0 none g a h k)
noncomputable def stack_Stack_SPv1.loops : LoopF := fun b => none
set_option maxRecDepth 100000 in
theorem stack_Stack_SPv1.eq (F0 : Int → Int → Int → Int → Int → Int → Int → (Bool → Int → Int → Int → Int → Int → Int → Int → Option Bool) → Option Bool) (n82 : Int) (n83 : Int) (n84 : Int) (n85 : Int) (n86 : Int) (n87 : Int) (n88 : Int) (k : KR) : execL Try.prog ht 13 (callfOf (stack_Stack_SPv1.calls F0)) (stack_Stack_SPv1.loops) 0 (codeOf Try.f13) ⟨[(.ptr [0, 0] 0 0)] ++ List.replicate (Try.f13.ntmps - ([(.ptr [0, 0] 0 0)] : List AV).length) .undef, [([0, 0], ⟨53, 8, (.mix [(.agg [.nilp, (.d ⟨(.int .i64), n82⟩), (.d ⟨(.int .i64), n83⟩), (.d ⟨(.int .i64), n84⟩), (.d ⟨(.int .i64), n85⟩), (.d ⟨(.int .i64), n86⟩), (.d ⟨(.int .i64), n87⟩), (.d ⟨(.int .i64), n88⟩)])])⟩)], 2⟩ (leave Try.prog Try.f13 k) = stack_Stack_SPv1.body F0 n82 n83 n84 n85 n86 n87 n88 (fun y0 y1 y2 y3 y4 y5 y6 y7 => k (.d ⟨(.int .i64), y0⟩) [([0, 0], ⟨53, 8, (.mix [(.agg [.nilp, (.d ⟨(.int .i64), y1⟩), (.d ⟨(.int .i64), y2⟩), (.d ⟨(.int .i64), y3⟩), (.d ⟨(.int .i64), y4⟩), (.d ⟨(.int .i64), y5⟩), (.d ⟨(.int .i64), y6⟩), (.d ⟨(.int .i64), y7⟩)])])⟩)]) := by kernel_rfl
theorem stack_Stack_SPv1.ok (d : Nat) (hd : 2 ≤ d) (n82 : Int) (n83 : Int) (n84 : Int) (n85 : Int) (n86 : Int) (n87 : Int) (n88 : Int) (k : KR) (hx : stack_Stack_SPv1 n82 n83 n84 n85 n86 n87 n88 (fun y0 y1 y2 y3 y4 y5 y6 y7 => k (.d ⟨(.int .i64), y0⟩) [([0, 0], ⟨53, 8, (.mix [(.agg [.nilp, (.d ⟨(.int .i64), y1⟩), (.d ⟨(.int .i64), y2⟩), (.d ⟨(.int .i64), y3⟩), (.d ⟨(.int .i64), y4⟩), (.d ⟨(.int .i64), y5⟩), (.d ⟨(.int .i64), y6⟩), (.d ⟨(.int .i64), y7⟩)])])⟩)]) = some true) : callK Try.prog ht d 13 [(.ptr [0, 0] 0 0)] [([0, 0], ⟨53, 8, (.mix [(.agg [.nilp, (.d ⟨(.int .i64), n82⟩), (.d ⟨(.int .i64), n83⟩), (.d ⟨(.int .i64), n84⟩), (.d ⟨(.int .i64), n85⟩), (.d ⟨(.int .i64), n86⟩), (.d ⟨(.int .i64), n87⟩), (.d ⟨(.int .i64), n88⟩)])])⟩)] k = some true := by
  obtain ⟨d, rfl⟩ : ∃ e, d = e + 1 := ⟨d - 1, by omega⟩
  exact fn_ok (c := codeOf Try.f13) Try.func13 (by kernel_rfl) (rec := stack_Stack_SPv1.calls stack_Stack_livev1) (fun g a h k hx => by
    rcases stack_Stack_livev1.look d (by omega) hx with hx | hx
    rotate_left
    · exact hx
    cases hx) (loopf := stack_Stack_SPv1.loops) (by
    have e : loopsOf (stack_Stack_SPv1.loops) 0 (codeOf Try.f13) = [] := by kernel_rfl
    rw [e]
    intro p hp
    cases hp) ((stack_Stack_SPv1.eq stack_Stack_livev1 n82 n83 n84 n85 n86 n87 n88 k).trans hx)
theorem stack_Stack_SPv1.look (d : Nat) (hd : 2 ≤ d) {e : Option Bool} {g : FuncId} {a : List AV} {h : Heap} {k : KR} (hx : stack_Stack_SPv1.get stack_Stack_SPv1 e g a h k = some true) : e = some true ∨ callK Try.prog ht d g a h k = some true := by
  unfold stack_Stack_SPv1.get at hx
  split at hx
  · exact .inr (stack_Stack_SPv1.ok d hd _ _ _ _ _ _ _ _ hx)
  · exact .inl hx
/-- function 16: (*sheerleg/stack.Stack).Id -/
noncomputable def stack_Stack_Idv1.body (stack_Stack_Segv1 : Int → Int → Int → Int → Int → Int → Int → ((Int × Int × Int × Unit) → Int → Int → Int → Int → Int → Int → Int → Option Bool) → Option Bool) (stack_Stack_SPv1 : Int → Int → Int → Int → Int → Int → Int → (Int → Int → Int → Int → Int → Int → Int → Int → Option Bool) → Option Bool) (n45 : Int) (n46 : Int) (n47 : Int) (n48 : Int) (n49 : Int) (n50 : Int) (n51 : Int) (k1 : Int → Int → Int → Int → Int → Int → Int → Int → Option Bool) : Option Bool :=
  (stack_Stack_Segv1 n45 n46 n47 n48 n49 n50 n51
  (fun t74 n75 n76 n77 n78 n79 n80 n81 => (stack_Stack_SPv1 n75 n76 n77 n78 n79 n80 n81
  (fun n97 n98 n99 n100 n101 n102 n103 n104 => (k1 (IntKind.wrap .i64 (t74.2.2.1 - n97)) n98 n99 n100 n101 n102 n103 n104)))))
noncomputable def stack_Stack_Idv1 (n45 : Int) (n46 : Int) (n47 : Int) (n48 : Int) (n49 : Int) (n50 : Int) (n51 : Int) (k1 : Int → Int → Int → Int → Int → Int → Int → Int → Option Bool) : Option Bool := stack_Stack_Idv1.body stack_Stack_Segv1 stack_Stack_SPv1 n45 n46 n47 n48 n49 n50 n51 k1
noncomputable def stack_Stack_Idv1.get (F : Int → Int → Int → Int → Int → Int → Int → (Int → Int → Int → Int → Int → Int → Int → Int → Option Bool) → Option Bool) (e : Option Bool) (g : FuncId) (a : List AV) (h : Heap) (k : KR) : Option Bool := match g, a, h with
  | 16, [(.ptr [0, 0] 0 0)], [([0, 0], ⟨53, 8, (.mix [(.agg [.nilp, (.d ⟨(.int .i64), n45⟩), (.d ⟨(.int .i64), n46⟩), (.d ⟨(.int .i64), n47⟩), (.d ⟨(.int .i64), n48⟩), (.d ⟨(.int .i64), n49⟩), (.d ⟨(.int .i64), n50⟩), (.d ⟨(.int .i64), n51⟩)])])⟩)] => F n45 n46 n47 n48 n49 n50 n51 (fun y0 y1 y2 y3 y4 y5 y6 y7 => k (.d ⟨(.int .i64), y0⟩) [([0, 0], ⟨53, 8, (.mix [(.agg [.nilp, (.d ⟨(.int .i64), y1⟩), (.d ⟨(.int .i64), y2⟩), (.d ⟨(.int .i64), y3⟩), (.d ⟨(.int .i64), y4⟩), (.d ⟨(.int .i64), y5⟩), (.d ⟨(.int .i64), y6⟩), (.d ⟨(.int .i64), y7⟩)])])⟩)])
  | _, _, _ => e
noncomputable def stack_Stack_Idv1.calls (F0 : Int → Int → Int → Int → Int → Int → Int → ((Int × Int × Int × Unit) → Int → Int → Int → Int → Int → Int → Int → Option Bool) → Option Bool) (F1 : Int → Int → Int → Int → Int → Int → Int → (Int → Int → Int → Int → Int → Int → Int → Int → Option Bool) → Option Bool) : RecF := fun g a h k => (stack_Stack_Segv1.get F0 (stack_Stack_SPv1.get F1 none g a h k) g a h k)
noncomputable def stack_Stack_Idv1.loops : LoopF := fun b => none
set_option maxRecDepth 100000 in
theorem stack_Stack_Idv1.eq (F0 : Int → Int → Int → Int → Int → Int → Int → ((Int × Int × Int × Unit) → Int → Int → Int → Int → Int → Int → Int → Option Bool) → Option Bool) (F1 : Int → Int → Int → Int → Int → Int → Int → (Int → Int → Int → Int → Int → Int → Int → Int → Option Bool) → Option Bool) (n45 : Int) (n46 : Int) (n47 : Int) (n48 : Int) (n49 : Int) (n50 : Int) (n51 : Int) (k : KR) : execL Try.prog ht 16 (callfOf (stack_Stack_Idv1.calls F0 F1)) (stack_Stack_Idv1.loops) 0 (codeOf Try.f16) ⟨[(.ptr [0, 0] 0 0)] ++ List.replicate (Try.f16.ntmps - ([(.ptr [0, 0] 0 0)] : List AV).length) .undef, [([0, 0], ⟨53, 8, (.mix [(.agg [.nilp, (.d ⟨(.int .i64), n45⟩), (.d ⟨(.int .i64), n46⟩), (.d ⟨(.int .i64), n47⟩), (.d ⟨(.int .i64), n48⟩), (.d ⟨(.int .i64), n49⟩), (.d ⟨(.int .i64), n50⟩), (.d ⟨(.int .i64), n51⟩)])])⟩)], 2⟩ (leave Try.prog Try.f16 k) = stack_Stack_Idv1.body F0 F1 n45 n46 n47 n48 n49 n50 n51 (fun y0 y1 y2 y3 y4 y5 y6 y7 => k (.d ⟨(.int .i64), y0⟩) [([0, 0], ⟨53, 8, (.mix [(.agg [.nilp, (.d ⟨(.int .i64), y1⟩), (.d ⟨(.int .i64), y2⟩), (.d ⟨(.int .i64), y3⟩), (.d ⟨(.int .i64), y4⟩), (.d ⟨(.int .i64), y5⟩), (.d ⟨(.int .i64), y6⟩), (.d ⟨(.int .i64), y7⟩)])])⟩)]) := by kernel_rfl
theorem stack_Stack_Idv1.ok (d : Nat) (hd : 3 ≤ d) (n45 : Int) (n46 : Int) (n47 : Int) (n48 : Int) (n49 : Int) (n50 : Int) (n51 : Int) (k : KR) (hx : stack_Stack_Idv1 n45 n46 n47 n48 n49 n50 n51 (fun y0 y1 y2 y3 y4 y5 y6 y7 => k (.d ⟨(.int .i64), y0⟩) [([0, 0], ⟨53, 8, (.mix [(.agg [.nilp, (.d ⟨(.int .i64), y1⟩), (.d ⟨(.int .i64), y2⟩), (.d ⟨(.int .i64), y3⟩), (.d ⟨(.int .i64), y4⟩), (.d ⟨(.int .i64), y5⟩), (.d ⟨(.int .i64), y6⟩), (.d ⟨(.int .i64), y7⟩)])])⟩)]) = some true) : callK Try.prog ht d 16 [(.ptr [0, 0] 0 0)] [([0, 0], ⟨53, 8, (.mix [(.agg [.nilp, (.d ⟨(.int .i64), n45⟩), (.d ⟨(.int .i64), n46⟩), (.d ⟨(.int .i64), n47⟩), (.d ⟨(.int .i64), n48⟩), (.d ⟨(.int .i64), n49⟩), (.d ⟨(.int .i64), n50⟩), (.d ⟨(.int .i64), n51⟩)])])⟩)] k = some true := by
  obtain ⟨d, rfl⟩ : ∃ e, d = e + 1 := ⟨d - 1, by omega⟩
  exact fn_ok (c := codeOf Try.f16) Try.func16 (by kernel_rfl) (rec := stack_Stack_Idv1.calls stack_Stack_Segv1 stack_Stack_SPv1) (fun g a h k hx => by
    rcases stack_Stack_Segv1.look d (by omega) hx with hx | hx
    rotate_left
    · exact hx
    rcases stack_Stack_SPv1.look d (by omega) hx with hx | hx
    rotate_left
    · exact hx
    cases hx) (loopf := stack_Stack_Idv1.loops) (by
    have e : loopsOf (stack_Stack_Idv1.loops) 0 (codeOf Try.f16) = [] := by kernel_rfl
    rw [e]
    intro p hp
    cases hp) ((stack_Stack_Idv1.eq stack_Stack_Segv1 stack_Stack_SPv1 n45 n46 n47 n48 n49 n50 n51 k).trans hx)
theorem stack_Stack_Idv1.look (d : Nat) (hd : 3 ≤ d) {e : Option Bool} {g : FuncId} {a : List AV} {h : Heap} {k : KR} (hx : stack_Stack_Idv1.get stack_Stack_Idv1 e g a h k = some true) : e = some true ∨ callK Try.prog ht d g a h k = some true := by
  unfold stack_Stack_Idv1.get at hx
  split at hx
  · exact .inr (stack_Stack_Idv1.ok d hd _ _ _ _ _ _ _ _ hx)
  · exact .inl hx
/-- function 48: (*sheerleg/stack.Stack).has -/
noncomputable def stack_Stack_hasv1.body (stack_Stack_Idv1 : Int → Int → Int → Int → Int → Int → Int → (Int → Int → Int → Int → Int → Int → Int → Int → Option Bool) → Option Bool) (n37 : Int) (n38 : Int) (n39 : Int) (n40 : Int) (n41 : Int) (n42 : Int) (n43 : Int) (n44 : Int) (k1 : Bool → Int → Int → Int → Int → Int → Int → Int → Option Bool) : Option Bool :=
  (cond_ (decide (n37 ≥ (0 : Int))) (stack_Stack_Idv1 n38 n39 n40 n41 n42 n43 n44
  (fun n105 n106 n107 n108 n109 n110 n111 n112 => (k1 (decide (n37 < n105)) n106 n107 n108 n109 n110 n111 n112))) (k1 false n38 n39 n40 n41 n42 n43 n44))
noncomputable def stack_Stack_hasv1 (n37 : Int) (n38 : Int) (n39 : Int) (n40 : Int) (n41 : Int) (n42 : Int) (n43 : Int) (n44 : Int) (k1 : Bool → Int → Int → Int → Int → Int → Int → Int → Option Bool) : Option Bool := stack_Stack_hasv1.body stack_Stack_Idv1 n37 n38 n39 n40 n41 n42 n43 n44 k1
noncomputable def stack_Stack_hasv1.get (F : Int → Int → Int → Int → Int → Int → Int → Int → (Bool → Int → Int → Int → Int → Int → Int → Int → Option Bool) → Option Bool) (e : Option Bool) (g : FuncId) (a : List AV) (h : Heap) (k : KR) : Option Bool := match g, a, h with
  | 48, [(.ptr [0, 0] 0 0), (.d ⟨(.int .i64), n37⟩)], [([0, 0], ⟨53, 8, (.mix [(.agg [.nilp, (.d ⟨(.int .i64), n38⟩), (.d ⟨(.int .i64), n39⟩), (.d ⟨(.int .i64), n40⟩), (.d ⟨(.int .i64), n41⟩), (.d ⟨(.int .i64), n42⟩), (.d ⟨(.int .i64), n43⟩), (.d ⟨(.int .i64), n44⟩)])])⟩)] => F n37 n38 n39 n40 n41 n42 n43 n44 (fun y0 y1 y2 y3 y4 y5 y6 y7 => k (.d ⟨.bool, y0⟩) [([0, 0], ⟨53, 8, (.mix [(.agg [.nilp, (.d ⟨(.int .i64), y1⟩), (.d ⟨(.int .i64), y2⟩), (.d ⟨(.int .i64), y3⟩), (.d ⟨(.int .i64), y4⟩), (.d ⟨(.int .i64), y5⟩), (.d ⟨(.int .i64), y6⟩), (.d ⟨(.int .i64), y7⟩)])])⟩)])
  | _, _, _ => e
noncomputable def stack_Stack_hasv1.calls (F0 : Int → Int → Int → Int → Int → Int → Int → (Int → Int → Int → Int → Int → Int → Int → Int → Option Bool) → Option Bool) : RecF := fun g a h k => (stack_Stack_Idv1.get F0 none g a h k)
noncomputable def stack_Stack_hasv1.loops : LoopF := fun b => none
set_option maxRecDepth 100000 in
theorem stack_Stack_hasv1.eq (F0 : Int → Int → Int → Int → Int → Int → Int → (Int → Int → Int → Int → Int → Int → Int → Int → Option Bool) → Option Bool) (n37 : Int) (n38 : Int) (n39 : Int) (n40 : Int) (n41 : Int) (n42 : Int) (n43 : Int) (n44 : Int) (k : KR) : execL Try.prog ht 48 (callfOf (stack_Stack_hasv1.calls F0)) (stack_Stack_hasv1.loops) 0 (codeOf Try.f48) ⟨[(.ptr [0, 0] 0 0), (.d ⟨(.int .i64), n37⟩)] ++ List.replicate (Try.f48.ntmps - ([(.ptr [0, 0] 0 0), (.d ⟨(.int .i64), n37⟩)] : List AV).length) .undef, [([0, 0], ⟨53, 8, (.mix [(.agg [.nilp, (.d ⟨(.int .i64), n38⟩), (.d ⟨(.int .i64), n39⟩), (.d ⟨(.int .i64), n40⟩), (.d ⟨(.int .i64), n41⟩), (.d ⟨(.int .i64), n42⟩), (.d ⟨(.int .i64), n43⟩), (.d ⟨(.int .i64), n44⟩)])])⟩)], 2⟩ (leave Try.prog Try.f48 k) = stack_Stack_hasv1.body F0 n37 n38 n39 n40 n41 n42 n43 n44 (fun y0 y1 y2 y3 y4 y5 y6 y7 => k (.d ⟨.bool, y0⟩) [([0, 0], ⟨53, 8, (.mix [(.agg [.nilp, (.d ⟨(.int .i64), y1⟩), (.d ⟨(.int .i64), y2⟩), (.d ⟨(.int .i64), y3⟩), (.d ⟨(.int .i64), y4⟩), (.d ⟨(.int .i64), y5⟩), (.d ⟨(.int .i64), y6⟩), (.d ⟨(.int .i64), y7⟩)])])⟩)]) := by kernel_rfl
theorem stack_Stack_hasv1.ok (d : Nat) (hd : 4 ≤ d) (n37 : Int) (n38 : Int) (n39 : Int) (n40 : Int) (n41 : Int) (n42 : Int) (n43 : Int) (n44 : Int) (k : KR) (hx : stack_Stack_hasv1 n37 n38 n39 n40 n41 n42 n43 n44 (fun y0 y1 y2 y3 y4 y5 y6 y7 => k (.d ⟨.bool, y0⟩) [([0, 0], ⟨53, 8, (.mix [(.agg [.nilp, (.d ⟨(.int .i64), y1⟩), (.d ⟨(.int .i64), y2⟩), (.d ⟨(.int .i64), y3⟩), (.d ⟨(.int .i64), y4⟩), (.d ⟨(.int .i64), y5⟩), (.d ⟨(.int .i64), y6⟩), (.d ⟨(.int .i64), y7⟩)])])⟩)]) = some true) : callK Try.prog ht d 48 [(.ptr [0, 0] 0 0), (.d ⟨(.int .i64), n37⟩)] [([0, 0], ⟨53, 8, (.mix [(.agg [.nilp, (.d ⟨(.int .i64), n38⟩), (.d ⟨(.int .i64), n39⟩), (.d ⟨(.int .i64), n40⟩), (.d ⟨(.int .i64), n41⟩), (.d ⟨(.int .i64), n42⟩), (.d ⟨(.int .i64), n43⟩), (.d ⟨(.int .i64), n44⟩)])])⟩)] k = some true := by
  obtain ⟨d, rfl⟩ : ∃ e, d = e + 1 := ⟨d - 1, by omega⟩
  exact fn_ok (c := codeOf Try.f48) Try.func48 (by kernel_rfl) (rec := stack_Stack_hasv1.calls stack_Stack_Idv1) (fun g a h k hx => by
    rcases stack_Stack_Idv1.look d (by omega) hx with hx | hx
    rotate_left
    · exact hx
    cases hx) (loopf := stack_Stack_hasv1.loops) (by
    have e : loopsOf (stack_Stack_hasv1.loops) 0 (codeOf Try.f48) = [] := by kernel_rfl
    rw [e]
    intro p hp
    cases hp) ((stack_Stack_hasv1.eq stack_Stack_Idv1 n37 n38 n39 n40 n41 n42 n43 n44 k).trans hx)
theorem stack_Stack_hasv1.look (d : Nat) (hd : 4 ≤ d) {e : Option Bool} {g : FuncId} {a : List AV} {h : Heap} {k : KR} (hx : stack_Stack_hasv1.get stack_Stack_hasv1 e g a h k = some true) : e = some true ∨ callK Try.prog ht d g a h k = some true := by
  unfold stack_Stack_hasv1.get at hx
  split at hx
  · exact .inr (stack_Stack_hasv1.ok d hd _ _ _ _ _ _ _ _ _ hx)
  · exact .inl hx
/-- function 22: (*sheerleg/memory.Memory).Size -/
noncomputable def memory_Memory_Size.body (k1 : Int → Option Bool) : Option Bool :=
  (k1 (0 : Int))
noncomputable def memory_Memory_Size (k1 : Int → Option Bool) : Option Bool := memory_Memory_Size.body k1
noncomputable def memory_Memory_Size.get (F : (Int → Option Bool) → Option Bool) (e : Option Bool) (g : FuncId) (a : List AV) (h : Heap) (k : KR) : Option Bool := match g, a, h with
  | 22, [.nilp], [] => F (fun y0 => k (.d ⟨(.int .i64), y0⟩) [])
  | _, _, _ => e
noncomputable def memory_Memory_Size.calls : RecF := fun g a h k => none
noncomputable def memory_Memory_Size.loops : LoopF := fun b => none
set_option maxRecDepth 100000 in
theorem memory_Memory_Size.eq (k : KR) : execL Try.prog ht 22 (callfOf (memory_Memory_Size.calls)) (memory_Memory_Size.loops) 0 (codeOf Try.f22) ⟨[.nilp] ++ List.replicate (Try.f22.ntmps - ([.nilp] : List AV).length) .undef, [], 2⟩ (leave Try.prog Try.f22 k) = memory_Memory_Size.body (fun y0 => k (.d ⟨(.int .i64), y0⟩) []) := by kernel_rfl
theorem memory_Memory_Size.ok (d : Nat) (hd : 1 ≤ d) (k : KR) (hx : memory_Memory_Size (fun y0 => k (.d ⟨(.int .i64), y0⟩) []) = some true) : callK Try.prog ht d 22 [.nilp] [] k = some true := by
  obtain ⟨d, rfl⟩ : ∃ e, d = e + 1 := ⟨d - 1, by omega⟩
  exact fn_ok (c := codeOf Try.f22) Try.func22 (by kernel_rfl) (rec := memory_Memory_Size.calls) (fun g a h k hx => by
    cases hx) (loopf := memory_Memory_Size.loops) (by
    have e : loopsOf (memory_Memory_Size.loops) 0 (codeOf Try.f22) = [] := by kernel_rfl
    rw [e]
    intro p hp
    cases hp) ((memory_Memory_Size.eq k).trans hx)
theorem memory_Memory_Size.look (d : Nat) (hd : 1 ≤ d) {e : Option Bool} {g : FuncId} {a : List AV} {h : Heap} {k : KR} (hx : memory_Memory_Size.get memory_Memory_Size e g a h k = some true) : e = some true ∨ callK Try.prog ht d g a h k = some true := by
  unfold memory_Memory_Size.get at hx
  split at hx
  · exact .inr (memory_Memory_Size.ok d hd _ hx)
  · exact .inl hx
/-- function 46: (*sheerleg/memory.Memory).at -/
noncomputable def memory_Memory_at.body (memory_Memory_Size : (Int → Option Bool) → Option Bool) (n122 : Int) (n123 : Int) (k1 : Bool → Int → Option Bool) : Option Bool :=
  (cond_ (! (decide (n122 < (0 : Int)))) (memory_Memory_Size
  (fun n124 => (cond_ (decide (n122 ≥ n124)) (k1 false n123) none))) (k1 false n123))
noncomputable def memory_Memory_at (n122 : Int) (n123 : Int) (k1 : Bool → Int → Option Bool) : Option Bool := memory_Memory_at.body memory_Memory_Size n122 n123 k1
noncomputable def memory_Memory_at.get (F : Int → Int → (Bool → Int → Option Bool) → Option Bool) (e : Option Bool) (g : FuncId) (a : List AV) (h : Heap) (k : KR) : Option Bool := match g, a, h with
  | 46, [.nilp, (.d ⟨(.int .i64), n122⟩), (.fn (.func 47) [] [(.ptr [0, 0] 0 0)])], [([0, 0], ⟨2, 1, (.data (.int .i64) [n123])⟩)] => F n122 n123 (fun y0 y1 => k (.d ⟨.bool, y0⟩) [([0, 0], ⟨2, 1, (.data (.int .i64) [y1])⟩)])
  | _, _, _ => e
noncomputable def memory_Memory_at.calls (F0 : (Int → Option Bool) → Option Bool) : RecF := fun g a h k => (memory_Memory_Size.get F0 none g a h k)
noncomputable def memory_Memory_at.loops : LoopF := fun b => none
set_option maxRecDepth 100000 in
theorem memory_Memory_at.eq (F0 : (Int → Option Bool) → Option Bool) (n122 : Int) (n123 : Int) (k : KR) : execL Try.prog ht 46 (callfOf (memory_Memory_at.calls F0)) (memory_Memory_at.loops) 0 (codeOf Try.f46) ⟨[.nilp, (.d ⟨(.int .i64), n122⟩), (.fn (.func 47) [] [(.ptr [0, 0] 0 0)])] ++ List.replicate (Try.f46.ntmps - ([.nilp, (.d ⟨(.int .i64), n122⟩), (.fn (.func 47) [] [(.ptr [0, 0] 0 0)])] : List AV).length) .undef, [([0, 0], ⟨2, 1, (.data (.int .i64) [n123])⟩)], 2⟩ (leave Try.prog Try.f46 k) = memory_Memory_at.body F0 n122 n123 (fun y0 y1 => k (.d ⟨.bool, y0⟩) [([0, 0], ⟨2, 1, (.data (.int .i64) [y1])⟩)]) := by kernel_rfl
theorem memory_Memory_at.ok (d : Nat) (hd : 2 ≤ d) (n122 : Int) (n123 : Int) (k : KR) (hx : memory_Memory_at n122 n123 (fun y0 y1 => k (.d ⟨.bool, y0⟩) [([0, 0], ⟨2, 1, (.data (.int .i64) [y1])⟩)]) = some true) : callK Try.prog ht d 46 [.nilp, (.d ⟨(.int .i64), n122⟩), (.fn (.func 47) [] [(.ptr [0, 0] 0 0)])] [([0, 0], ⟨2, 1, (.data (.int .i64) [n123])⟩)] k = some true := by
  obtain ⟨d, rfl⟩ : ∃ e, d = e + 1 := ⟨d - 1, by omega⟩
  exact fn_ok (c := codeOf Try.f46) Try.func46 (by kernel_rfl) (rec := memory_Memory_at.calls memory_Memory_Size) (fun g a h k hx => by
    rcases memory_Memory_Size.look d (by omega) hx with hx | hx
    rotate_left
    · exact hx
    cases hx) (loopf := memory_Memory_at.loops) (by
    have e : loopsOf (memory_Memory_at.loops) 0 (codeOf Try.f46) = [] := by kernel_rfl
    rw [e]
    intro p hp
    cases hp) ((memory_Memory_at.eq memory_Memory_Size n122 n123 k).trans hx)
theorem memory_Memory_at.look (d : Nat) (hd : 2 ≤ d) {e : Option Bool} {g : FuncId} {a : List AV} {h : Heap} {k : KR} (hx : memory_Memory_at.get memory_Memory_at e g a h k = some true) : e = some true ∨ callK Try.prog ht d g a h k = some true := by
  unfold memory_Memory_at.get at hx
  split at hx
  · exact .inr (memory_Memory_at.ok d hd _ _ _ hx)
  · exact .inl hx
/-- function 20: (*sheerleg/memory.Memory).Load -/
noncomputable def memory_Memory_Load.body (memory_Memory_at : Int → Int → (Bool → Int → Option Bool) → Option Bool) (n121 : Int) (k1 : Int → Bool → Option Bool) : Option Bool :=
  (memory_Memory_at n121 (0 : Int)
  (fun b125 n126 => (k1 n126 b125)))
noncomputable def memory_Memory_Load (n121 : Int) (k1 : Int → Bool → Option Bool) : Option Bool := memory_Memory_Load.body memory_Memory_at n121 k1
noncomputable def memory_Memory_Load.get (F : Int → (Int → Bool → Option Bool) → Option Bool) (e : Option Bool) (g : FuncId) (a : List AV) (h : Heap) (k : KR) : Option Bool := match g, a, h with
  | 20, [.nilp, (.d ⟨(.int .i64), n121⟩)], [] => F n121 (fun y0 y1 => k (.tup [(.d ⟨(.int .i64), y0⟩), (.d ⟨.bool, y1⟩)]) [])
  | _, _, _ => e
noncomputable def memory_Memory_Load.calls (F0 : Int → Int → (Bool → Int → Option Bool) → Option Bool) : RecF := fun g a h k => (memory_Memory_at.get F0 none g a h k)
noncomputable def memory_Memory_Load.loops : LoopF := fun b => none
set_option maxRecDepth 100000 in
theorem memory_Memory_Load.eq (F0 : Int → Int → (Bool → Int → Option Bool) → Option Bool) (n121 : Int) (k : KR) : execL Try.prog ht 20 (callfOf (memory_Memory_Load.calls F0)) (memory_Memory_Load.loops) 0 (codeOf Try.f20) ⟨[.nilp, (.d ⟨(.int .i64), n121⟩)] ++ List.replicate (Try.f20.ntmps - ([.nilp, (.d ⟨(.int .i64), n121⟩)] : List AV).length) .undef, [], 2⟩ (leave Try.prog Try.f20 k) = memory_Memory_Load.body F0 n121 (fun y0 y1 => k (.tup [(.d ⟨(.int .i64), y0⟩), (.d ⟨.bool, y1⟩)]) []) := by kernel_rfl
theorem memory_Memory_Load.ok (d : Nat) (hd : 3 ≤ d) (n121 : Int) (k : KR) (hx : memory_Memory_Load n121 (fun y0 y1 => k (.tup [(.d ⟨(.int .i64), y0⟩), (.d ⟨.bool, y1⟩)]) []) = some true) : callK Try.prog ht d 20 [.nilp, (.d ⟨(.int .i64), n121⟩)] [] k = some true := by
  obtain ⟨d, rfl⟩ : ∃ e, d = e + 1 := ⟨d - 1, by omega⟩
  exact fn_ok (c := codeOf Try.f20) Try.func20 (by kernel_rfl) (rec := memory_Memory_Load.calls memory_Memory_at) (fun g a h k hx => by
    rcases memory_Memory_at.look d (by omega) hx with hx | hx
    rotate_left
    · exact hx
    cases hx) (loopf := memory_Memory_Load.loops) (by
    have e : loopsOf (memory_Memory_Load.loops) 0 (codeOf Try.f20) = [] := by kernel_rfl
    rw [e]
    intro p hp
    cases hp) ((memory_Memory_Load.eq memory_Memory_at n121 k).trans hx)
theorem memory_Memory_Load.look (d : Nat) (hd : 3 ≤ d) {e : Option Bool} {g : FuncId} {a : List AV} {h : Heap} {k : KR} (hx : memory_Memory_Load.get memory_Memory_Load e g a h k = some true) : e = some true ∨ callK Try.prog ht d g a h k = some true := by
  unfold memory_Memory_Load.get at hx
  split at hx
  · exact .inr (memory_Memory_Load.ok d hd _ _ hx)
  · exact .inl hx
/-- function 23: (*sheerleg/stack.Stack).Get -/
noncomputable def stack_Stack_Getv1.body (stack_Stack_hasv1 : Int → Int → Int → Int → Int → Int → Int → Int → (Bool → Int → Int → Int → Int → Int → Int → Int → Option Bool) → Option Bool) (memory_Memory_Load : Int → (Int → Bool → Option Bool) → Option Bool) (n29 : Int) (n30 : Int) (n31 : Int) (n32 : Int) (n33 : Int) (n34 : Int) (n35 : Int) (n36 : Int) (k1 : Int → Bool → Int → Int → Int → Int → Int → Int → Int → Option Bool) : Option Bool :=
  (stack_Stack_hasv1 n29 n30 n31 n32 n33 n34 n35 n36
  (fun b113 n114 n115 n116 n117 n118 n119 n120 => (cond_ (! b113) (k1 (0 : Int) false n114 n115 n116 n117 n118 n119 n120) (memory_Memory_Load (IntKind.wrap .i64 (n117 + n29))
  (fun n127 b128 => (k1 n127 b128 n114 n115 n116 n117 n118 n119 n120))))))
noncomputable def stack_Stack_Getv1 (n29 : Int) (n30 : Int) (n31 : Int) (n32 : Int) (n33 : Int) (n34 : Int) (n35 : Int) (n36 : Int) (k1 : Int → Bool → Int → Int → Int → Int → Int → Int → Int → Option Bool) : Option Bool := stack_Stack_Getv1.body stack_Stack_hasv1 memory_Memory_Load n29 n30 n31 n32 n33 n34 n35 n36 k1
noncomputable def stack_Stack_Getv1.get (F : Int → Int → Int → Int → Int → Int → Int → Int → (Int → Bool → Int → Int → Int → Int → Int → Int → Int → Option Bool) → Option Bool) (e : Option Bool) (g : FuncId) (a : List AV) (h : Heap) (k : KR) : Option Bool := match g, a, h with
  | 23, [(.ptr [0, 0] 0 0), (.d ⟨(.int .i64), n29⟩)], [([0, 0], ⟨53, 8, (.mix [(.agg [.nilp, (.d ⟨(.int .i64), n30⟩), (.d ⟨(.int .i64), n31⟩), (.d ⟨(.int .i64), n32⟩), (.d ⟨(.int .i64), n33⟩), (.d ⟨(.int .i64), n34⟩), (.d ⟨(.int .i64), n35⟩), (.d ⟨(.int .i64), n36⟩)])])⟩)] => F n29 n30 n31 n32 n33 n34 n35 n36 (fun y0 y1 y2 y3 y4 y5 y6 y7 y8 => k (.tup [(.d ⟨(.int .i64), y0⟩), (.d ⟨.bool, y1⟩)]) [([0, 0], ⟨53, 8, (.mix [(.agg [.nilp, (.d ⟨(.int .i64), y2⟩), (.d ⟨(.int .i64), y3⟩), (.d ⟨(.int .i64), y4⟩), (.d ⟨(.int .i64), y5⟩), (.d ⟨(.int .i64), y6⟩), (.d ⟨(.int .i64), y7⟩), (.d ⟨(.int .i64), y8⟩)])])⟩)])
  | _, _, _ => e
noncomputable def stack_Stack_Getv1.calls (F0 : Int → Int → Int → Int → Int → Int → Int → Int → (Bool → Int → Int → Int → Int → Int → Int → Int → Option Bool) → Option Bool) (F1 : Int → (Int → Bool → Option Bool) → Option Bool) : RecF := fun g a h k => (stack_Stack_hasv1.get F0 (memory_Memory_Load.get F1 none g a h k) g a h k)
noncomputable def stack_Stack_Getv1.loops : LoopF := fun b => none
set_option maxRecDepth 100000 in
theorem stack_Stack_Getv1.eq (F0 : Int → Int → Int → Int → Int → Int → Int → Int → (Bool → Int → Int → Int → Int → Int → Int → Int → Option Bool) → Option Bool) (F1 : Int → (Int → Bool → Option Bool) → Option Bool) (n29 : Int) (n30 : Int) (n31 : Int) (n32 : Int) (n33 : Int) (n34 : Int) (n35 : Int) (n36 : Int) (k : KR) : execL Try.prog ht 23 (callfOf (stack_Stack_Getv1.calls F0 F1)) (stack_Stack_Getv1.loops) 0 (codeOf Try.f23) ⟨[(.ptr [0, 0] 0 0), (.d ⟨(.int .i64), n29⟩)] ++ List.replicate (Try.f23.ntmps - ([(.ptr [0, 0] 0 0), (.d ⟨(.int .i64), n29⟩)] : List AV).length) .undef, [([0, 0], ⟨53, 8, (.mix [(.agg [.nilp, (.d ⟨(.int .i64), n30⟩), (.d ⟨(.int .i64), n31⟩), (.d ⟨(.int .i64), n32⟩), (.d ⟨(.int .i64), n33⟩), (.d ⟨(.int .i64), n34⟩), (.d ⟨(.int .i64), n35⟩), (.d ⟨(.int .i64), n36⟩)])])⟩)], 2⟩ (leave Try.prog Try.f23 k) = stack_Stack_Getv1.body F0 F1 n29 n30 n31 n32 n33 n34 n35 n36 (fun y0 y1 y2 y3 y4 y5 y6 y7 y8 => k (.tup [(.d ⟨(.int .i64), y0⟩), (.d ⟨.bool, y1⟩)]) [([0, 0], ⟨53, 8, (.mix [(.agg [.nilp, (.d ⟨(.int .i64), y2⟩), (.d ⟨(.int .i64), y3⟩), (.d ⟨(.int .i64), y4⟩), (.d ⟨(.int .i64), y5⟩), (.d ⟨(.int .i64), y6⟩), (.d ⟨(.int .i64), y7⟩), (.d ⟨(.int .i64), y8⟩)])])⟩)]) := by kernel_rfl
theorem stack_Stack_Getv1.ok (d : Nat) (hd : 5 ≤ d) (n29 : Int) (n30 : Int) (n31 : Int) (n32 : Int) (n33 : Int) (n34 : Int) (n35 : Int) (n36 : Int) (k : KR) (hx : stack_Stack_Getv1 n29 n30 n31 n32 n33 n34 n35 n36 (fun y0 y1 y2 y3 y4 y5 y6 y7 y8 => k (.tup [(.d ⟨(.int .i64), y0⟩), (.d ⟨.bool, y1⟩)]) [([0, 0], ⟨53, 8, (.mix [(.agg [.nilp, (.d ⟨(.int .i64), y2⟩), (.d ⟨(.int .i64), y3⟩), (.d ⟨(.int .i64), y4⟩), (.d ⟨(.int .i64), y5⟩), (.d ⟨(.int .i64), y6⟩), (.d ⟨(.int .i64), y7⟩), (.d ⟨(.int .i64), y8⟩)])])⟩)]) = some true) : callK Try.prog ht d 23 [(.ptr [0, 0] 0 0), (.d ⟨(.int .i64), n29⟩)] [([0, 0], ⟨53, 8, (.mix [(.agg [.nilp, (.d ⟨(.int .i64), n30⟩), (.d ⟨(.int .i64), n31⟩), (.d ⟨(.int .i64), n32⟩), (.d ⟨(.int .i64), n33⟩), (.d ⟨(.int .i64), n34⟩), (.d ⟨(.int .i64), n35⟩), (.d ⟨(.int .i64), n36⟩)])])⟩)] k = some true := by
  obtain ⟨d, rfl⟩ : ∃ e, d = e + 1 := ⟨d - 1, by omega⟩
  exact fn_ok (c := codeOf Try.f23) Try.func23 (by kernel_rfl) (rec := stack_Stack_Getv1.calls stack_Stack_hasv1 memory_Memory_Load) (fun g a h k hx => by
    rcases stack_Stack_hasv1.look d (by omega) hx with hx | hx
    rotate_left
    · exact hx
    rcases memory_Memory_Load.look d (by omega) hx with hx | hx
    rotate_left
    · exact hx
    cases hx) (loopf := stack_Stack_Getv1.loops) (by
    have e : loopsOf (stack_Stack_Getv1.loops) 0 (codeOf Try.f23) = [] := by kernel_rfl
    rw [e]
    intro p hp
    cases hp) ((stack_Stack_Getv1.eq stack_Stack_hasv1 memory_Memory_Load n29 n30 n31 n32 n33 n34 n35 n36 k).trans hx)
theorem stack_Stack_Getv1.look (d : Nat) (hd : 5 ≤ d) {e : Option Bool} {g : FuncId} {a : List AV} {h : Heap} {k : KR} (hx : stack_Stack_Getv1.get stack_Stack_Getv1 e g a h k = some true) : e = some true ∨ callK Try.prog ht d g a h k = some true := by
  unfold stack_Stack_Getv1.get at hx
  split at hx
  · exact .inr (stack_Stack_Getv1.ok d hd _ _ _ _ _ _ _ _ _ hx)
  · exact .inl hx
/-- function 15: (*sheerleg/stack.Stack).Pop -/
noncomputable def stack_Stack_Popv1.body (stack_Stack_Getv1 : Int → Int → Int → Int → Int → Int → Int → Int → (Int → Bool → Int → Int → Int → Int → Int → Int → Int → Option Bool) → Option Bool) (n22 : Int) (n23 : Int) (n24 : Int) (n25 : Int) (n26 : Int) (n27 : Int) (n28 : Int) (k1 : Int → Bool → Int → Int → Int → Int → Int → Int → Int → Option Bool) : Option Bool :=
  (stack_Stack_Getv1 (0 : Int) n22 n23 n24 n25 n26 n27 n28
  (fun n129 b130 n131 n132 n133 n134 n135 n136 n137 => (cond_ b130 (k1 n129 b130 n131 n132 n133 (IntKind.wrap .i64 (n134 + (1 : Int))) n135 n136 n137) (k1 n129 b130 n131 n132 n133 n134 n135 n136 n137))))
noncomputable def stack_Stack_Popv1 (n22 : Int) (n23 : Int) (n24 : Int) (n25 : Int) (n26 : Int) (n27 : Int) (n28 : Int) (k1 : Int → Bool → Int → Int → Int → Int → Int → Int → Int → Option Bool) : Option Bool := stack_Stack_Popv1.body stack_Stack_Getv1 n22 n23 n24 n25 n26 n27 n28 k1
noncomputable def stack_Stack_Popv1.get (F : Int → Int → Int → Int → Int → Int → Int → (Int → Bool → Int → Int → Int → Int → Int → Int → Int → Option Bool) → Option Bool) (e : Option Bool) (g : FuncId) (a : List AV) (h : Heap) (k : KR) : Option Bool := match g, a, h with
  | 15, [(.ptr [0, 0] 0 0)], [([0, 0], ⟨53, 8, (.mix [(.agg [.nilp, (.d ⟨(.int .i64), n22⟩), (.d ⟨(.int .i64), n23⟩), (.d ⟨(.int .i64), n24⟩), (.d ⟨(.int .i64), n25⟩), (.d ⟨(.int .i64), n26⟩), (.d ⟨(.int .i64), n27⟩), (.d ⟨(.int .i64), n28⟩)])])⟩)] => F n22 n23 n24 n25 n26 n27 n28 (fun y0 y1 y2 y3 y4 y5 y6 y7 y8 => k (.tup [(.d ⟨(.int .i64), y0⟩), (.d ⟨.bool, y1⟩)]) [([0, 0], ⟨53, 8, (.mix [(.agg [.nilp, (.d ⟨(.int .i64), y2⟩), (.d ⟨(.int .i64), y3⟩), (.d ⟨(.int .i64), y4⟩), (.d ⟨(.int .i64), y5⟩), (.d ⟨(.int .i64), y6⟩), (.d ⟨(.int .i64), y7⟩), (.d ⟨(.int .i64), y8⟩)])])⟩)])
  | _, _, _ => e
noncomputable def stack_Stack_Popv1.calls (F0 : Int → Int → Int → Int → Int → Int → Int → Int → (Int → Bool → Int → Int → Int → Int → Int → Int → Int → Option Bool) → Option Bool) : RecF := fun g a h k => (stack_Stack_Getv1.get F0 none g a h k)
noncomputable def stack_Stack_Popv1.loops : LoopF := fun b => none
set_option maxRecDepth 100000 in
theorem stack_Stack_Popv1.eq (F0 : Int → Int → Int → Int → Int → Int → Int → Int → (Int → Bool → Int → Int → Int → Int → Int → Int → Int → Option Bool) → Option Bool) (n22 : Int) (n23 : Int) (n24 : Int) (n25 : Int) (n26 : Int) (n27 : Int) (n28 : Int) (k : KR) : execL Try.prog ht 15 (callfOf (stack_Stack_Popv1.calls F0)) (stack_Stack_Popv1.loops) 0 (codeOf Try.f15) ⟨[(.ptr [0, 0] 0 0)] ++ List.replicate (Try.f15.ntmps - ([(.ptr [0, 0] 0 0)] : List AV).length) .undef, [([0, 0], ⟨53, 8, (.mix [(.agg [.nilp, (.d ⟨(.int .i64), n22⟩), (.d ⟨(.int .i64), n23⟩), (.d ⟨(.int .i64), n24⟩), (.d ⟨(.int .i64), n25⟩), (.d ⟨(.int .i64), n26⟩), (.d ⟨(.int .i64), n27⟩), (.d ⟨(.int .i64), n28⟩)])])⟩)], 2⟩ (leave Try.prog Try.f15 k) = stack_Stack_Popv1.body F0 n22 n23 n24 n25 n26 n27 n28 (fun y0 y1 y2 y3 y4 y5 y6 y7 y8 => k (.tup [(.d ⟨(.int .i64), y0⟩), (.d ⟨.bool, y1⟩)]) [([0, 0], ⟨53, 8, (.mix [(.agg [.nilp, (.d ⟨(.int .i64), y2⟩), (.d ⟨(.int .i64), y3⟩), (.d ⟨(.int .i64), y4⟩), (.d ⟨(.int .i64), y5⟩), (.d ⟨(.int .i64), y6⟩), (.d ⟨(.int .i64), y7⟩), (.d ⟨(.int .i64), y8⟩)])])⟩)]) := by kernel_rfl
theorem stack_Stack_Popv1.ok (d : Nat) (hd : 6 ≤ d) (n22 : Int) (n23 : Int) (n24 : Int) (n25 : Int) (n26 : Int) (n27 : Int) (n28 : Int) (k : KR) (hx : stack_Stack_Popv1 n22 n23 n24 n25 n26 n27 n28 (fun y0 y1 y2 y3 y4 y5 y6 y7 y8 => k (.tup [(.d ⟨(.int .i64), y0⟩), (.d ⟨.bool, y1⟩)]) [([0, 0], ⟨53, 8, (.mix [(.agg [.nilp, (.d ⟨(.int .i64), y2⟩), (.d ⟨(.int .i64), y3⟩), (.d ⟨(.int .i64), y4⟩), (.d ⟨(.int .i64), y5⟩), (.d ⟨(.int .i64), y6⟩), (.d ⟨(.int .i64), y7⟩), (.d ⟨(.int .i64), y8⟩)])])⟩)]) = some true) : callK Try.prog ht d 15 [(.ptr [0, 0] 0 0)] [([0, 0], ⟨53, 8, (.mix [(.agg [.nilp, (.d ⟨(.int .i64), n22⟩), (.d ⟨(.int .i64), n23⟩), (.d ⟨(.int .i64), n24⟩), (.d ⟨(.int .i64), n25⟩), (.d ⟨(.int .i64), n26⟩), (.d ⟨(.int .i64), n27⟩), (.d ⟨(.int .i64), n28⟩)])])⟩)] k = some true := by
  obtain ⟨d, rfl⟩ : ∃ e, d = e + 1 := ⟨d - 1, by omega⟩
  exact fn_ok (c := codeOf Try.f15) Try.func15 (by kernel_rfl) (rec := stack_Stack_Popv1.calls stack_Stack_Getv1) (fun g a h k hx => by
    rcases stack_Stack_Getv1.look d (by omega) hx with hx | hx
    rotate_left
    · exact hx
    cases hx) (loopf := stack_Stack_Popv1.loops) (by
    have e : loopsOf (stack_Stack_Popv1.loops) 0 (codeOf Try.f15) = [] := by kernel_rfl
    rw [e]
    intro p hp
    cases hp) ((stack_Stack_Popv1.eq stack_Stack_Getv1 n22 n23 n24 n25 n26 n27 n28 k).trans hx)
theorem stack_Stack_Popv1.look (d : Nat) (hd : 6 ≤ d) {e : Option Bool} {g : FuncId} {a : List AV} {h : Heap} {k : KR} (hx : stack_Stack_Popv1.get stack_Stack_Popv1 e g a h k = some true) : e = some true ∨ callK Try.prog ht d g a h k = some true := by
  unfold stack_Stack_Popv1.get at hx
  split at hx
  · exact .inr (stack_Stack_Popv1.ok d hd _ _ _ _ _ _ _ _ hx)
  · exact .inl hx
/-- function 33: (*sheerleg/stack.Stack).write -/
noncomputable def stack_Stack_write.body (stack_Stack_live : (Bool → Option Bool) → Option Bool) (n161 : Int) (n162 : Int) (k1 : Bool → Option Bool) : Option Bool :=
  (stack_Stack_live
  (fun b163 => (cond_ (! (! b163)) none (k1 false))))
noncomputable def stack_Stack_write (n161 : Int) (n162 : Int) (k1 : Bool → Option Bool) : Option Bool := stack_Stack_write.body stack_Stack_live n161 n162 k1
noncomputable def stack_Stack_write.get (F : Int → Int → (Bool → Option Bool) → Option Bool) (e : Option Bool) (g : FuncId) (a : List AV) (h : Heap) (k : KR) : Option Bool := match g, a, h with
  | 33, [.nilp, (.d ⟨(.int .i64), n161⟩), (.d ⟨(.int .i64), n162⟩)], [] => F n161 n162 (fun y0 => k (.d ⟨.bool, y0⟩) [])
  | _, _, _ => e
noncomputable def stack_Stack_write.calls (F0 : (Bool → Option Bool) → Option Bool) : RecF := fun g a h k => (stack_Stack_live.get F0 none g a h k)
noncomputable def stack_Stack_write.loops : LoopF := fun b => none
set_option maxRecDepth 100000 in
theorem stack_Stack_write.eq (F0 : (Bool → Option Bool) → Option Bool) (n161 : Int) (n162 : Int) (k : KR) : execL Try.prog ht 33 (callfOf (stack_Stack_write.calls F0)) (stack_Stack_write.loops) 0 (codeOf Try.f33) ⟨[.nilp, (.d ⟨(.int .i64), n161⟩), (.d ⟨(.int .i64), n162⟩)] ++ List.replicate (Try.f33.ntmps - ([.nilp, (.d ⟨(.int .i64), n161⟩), (.d ⟨(.int .i64), n162⟩)] : List AV).length) .undef, [], 2⟩ (leave Try.prog Try.f33 k) = stack_Stack_write.body F0 n161 n162 (fun y0 => k (.d ⟨.bool, y0⟩) []) := by kernel_rfl
theorem stack_Stack_write.ok (d : Nat) (hd : 2 ≤ d) (n161 : Int) (n162 : Int) (k : KR) (hx : stack_Stack_write n161 n162 (fun y0 => k (.d ⟨.bool, y0⟩) []) = some true) : callK Try.prog ht d 33 [.nilp, (.d ⟨(.int .i64), n161⟩), (.d ⟨(.int .i64), n162⟩)] [] k = some true := by
  obtain ⟨d, rfl⟩ : ∃ e, d = e + 1 := ⟨d - 1, by omega⟩
  exact fn_ok (c := codeOf Try.f33) Try.func33 (by kernel_rfl) (rec := stack_Stack_write.calls stack_Stack_live) (fun g a h k hx => by
    rcases stack_Stack_live.look d (by omega) hx with hx | hx
    rotate_left
    · exact hx
    cases hx) (loopf := stack_Stack_write.loops) (by
    have e : loopsOf (stack_Stack_write.loops) 0 (codeOf Try.f33) = [] := by kernel_rfl
    rw [e]
    intro p hp
    cases hp) ((stack_Stack_write.eq stack_Stack_live n161 n162 k).trans hx)
theorem stack_Stack_write.look (d : Nat) (hd : 2 ≤ d) {e : Option Bool} {g : FuncId} {a : List AV} {h : Heap} {k : KR} (hx : stack_Stack_write.get stack_Stack_write e g a h k = some true) : e = some true ∨ callK Try.prog ht d g a h k = some true := by
  unfold stack_Stack_write.get at hx
  split at hx
  · exact .inr (stack_Stack_write.ok d hd _ _ _ hx)
  · exact .inl hx
/-- function 32: (*sheerleg/stack.Stack).ahead -/
noncomputable def stack_Stack_ahead.body (stack_Stack_SP : (Int → Option Bool) → Option Bool) (stack_Stack_write : Int → Int → (Bool → Option Bool) → Option Bool) (n159 : Int) (k1 : Bool → Option Bool) : Option Bool :=
  (stack_Stack_SP
  (fun n160 => (stack_Stack_write (IntKind.wrap .i64 (n160 - (1 : Int))) n159
  (fun b164 => (k1 b164)))))
noncomputable def stack_Stack_ahead (n159 : Int) (k1 : Bool → Option Bool) : Option Bool := stack_Stack_ahead.body stack_Stack_SP stack_Stack_write n159 k1
noncomputable def stack_Stack_ahead.get (F : Int → (Bool → Option Bool) → Option Bool) (e : Option Bool) (g : FuncId) (a : List AV) (h : Heap) (k : KR) : Option Bool := match g, a, h with
  | 32, [.nilp, (.fn (.func 33) [.nilp] []), (.d ⟨(.int .i64), n159⟩)], [] => F n159 (fun y0 => k (.d ⟨.bool, y0⟩) [])
  | _, _, _ => e
noncomputable def stack_Stack_ahead.calls (F0 : (Int → Option Bool) → Option Bool) (F1 : Int → Int → (Bool → Option Bool) → Option Bool) : RecF := fun g a h k => (stack_Stack_SP.get F0 (stack_Stack_write.get F1 none g a h k) g a h k)
noncomputable def stack_Stack_ahead.loops : LoopF := fun b => none
set_option maxRecDepth 100000 in
theorem stack_Stack_ahead.eq (F0 : (Int → Option Bool) → Option Bool) (F1 : Int → Int → (Bool → Option Bool) → Option Bool) (n159 : Int) (k : KR) : execL Try.prog ht 32 (callfOf (stack_Stack_ahead.calls F0 F1)) (stack_Stack_ahead.loops) 0 (codeOf Try.f32) ⟨[.nilp, (.fn (.func 33) [.nilp] []), (.d ⟨(.int .i64), n159⟩)] ++ List.replicate (Try.f32.ntmps - ([.nilp, (.fn (.func 33) [.nilp] []), (.d ⟨(.int .i64), n159⟩)] : List AV).length) .undef, [], 2⟩ (leave Try.prog Try.f32 k) = stack_Stack_ahead.body F0 F1 n159 (fun y0 => k (.d ⟨.bool, y0⟩) []) := by kernel_rfl
theorem stack_Stack_ahead.ok (d : Nat) (hd : 3 ≤ d) (n159 : Int) (k : KR) (hx : stack_Stack_ahead n159 (fun y0 => k (.d ⟨.bool, y0⟩) []) = some true) : callK Try.prog ht d 32 [.nilp, (.fn (.func 33) [.nilp] []), (.d ⟨(.int .i64), n159⟩)] [] k = some true := by
  obtain ⟨d, rfl⟩ : ∃ e, d = e + 1 := ⟨d - 1, by omega⟩
  exact fn_ok (c := codeOf Try.f32) Try.func32 (by kernel_rfl) (rec := stack_Stack_ahead.calls stack_Stack_SP stack_Stack_write) (fun g a h k hx => by
    rcases stack_Stack_SP.look d (by omega) hx with hx | hx
    rotate_left
    · exact hx
    rcases stack_Stack_write.look d (by omega) hx with hx | hx
    rotate_left
    · exact hx
    cases hx) (loopf := stack_Stack_ahead.loops) (by
    have e : loopsOf (stack_Stack_ahead.loops) 0 (codeOf Try.f32) = [] := by kernel_rfl
    rw [e]
    intro p hp
    cases hp) ((stack_Stack_ahead.eq stack_Stack_SP stack_Stack_write n159 k).trans hx)
theorem stack_Stack_ahead.look (d : Nat) (hd : 3 ≤ d) {e : Option Bool} {g : FuncId} {a : List AV} {h : Heap} {k : KR} (hx : stack_Stack_ahead.get stack_Stack_ahead e g a h k = some true) : e = some true ∨ callK Try.prog ht d g a h k = some true := by
  unfold stack_Stack_ahead.get at hx
  split at hx
  · exact .inr (stack_Stack_ahead.ok d hd _ _ hx)
  · exact .inl hx
/-- function 10: (*sheerleg/stack.Stack).Push -/
noncomputable def stack_Stack_Push.body (stack_Stack_ahead : Int → (Bool → Option Bool) → Option Bool) (n158 : Int) (k1 : Bool → Option Bool) : Option Bool :=
  (stack_Stack_ahead n158
  (fun b165 => (cond_ (! b165) (k1 false) none)))
noncomputable def stack_Stack_Push (n158 : Int) (k1 : Bool → Option Bool) : Option Bool := stack_Stack_Push.body stack_Stack_ahead n158 k1
noncomputable def stack_Stack_Push.get (F : Int → (Bool → Option Bool) → Option Bool) (e : Option Bool) (g : FuncId) (a : List AV) (h : Heap) (k : KR) : Option Bool := match g, a, h with
  | 10, [.nilp, (.d ⟨(.int .i64), n158⟩)], [] => F n158 (fun y0 => k (.d ⟨.bool, y0⟩) [])
  | _, _, _ => e
noncomputable def stack_Stack_Push.calls (F0 : Int → (Bool → Option Bool) → Option Bool) : RecF := fun g a h k => (stack_Stack_ahead.get F0 none g a h k)
noncomputable def stack_Stack_Push.loops : LoopF := fun b => none
set_option maxRecDepth 100000 in
theorem stack_Stack_Push.eq (F0 : Int → (Bool → Option Bool) → Option Bool) (n158 : Int) (k : KR) : execL Try.prog ht 10 (callfOf (stack_Stack_Push.calls F0)) (stack_Stack_Push.loops) 0 (codeOf Try.f10) ⟨[.nilp, (.d ⟨(.int .i64), n158⟩)] ++ List.replicate (Try.f10.ntmps - ([.nilp, (.d ⟨(.int .i64), n158⟩)] : List AV).length) .undef, [], 2⟩ (leave Try.prog Try.f10 k) = stack_Stack_Push.body F0 n158 (fun y0 => k (.d ⟨.bool, y0⟩) []) := by kernel_rfl
theorem stack_Stack_Push.ok (d : Nat) (hd : 4 ≤ d) (n158 : Int) (k : KR) (hx : stack_Stack_Push n158 (fun y0 => k (.d ⟨.bool, y0⟩) []) = some true) : callK Try.prog ht d 10 [.nilp, (.d ⟨(.int .i64), n158⟩)] [] k = some true := by
  obtain ⟨d, rfl⟩ : ∃ e, d = e + 1 := ⟨d - 1, by omega⟩
  exact fn_ok (c := codeOf Try.f10) Try.func10 (by kernel_rfl) (rec := stack_Stack_Push.calls stack_Stack_ahead) (fun g a h k hx => by
    rcases stack_Stack_ahead.look d (by omega) hx with hx | hx
    rotate_left
    · exact hx
    cases hx) (loopf := stack_Stack_Push.loops) (by
    have e : loopsOf (stack_Stack_Push.loops) 0 (codeOf Try.f10) = [] := by kernel_rfl
    rw [e]
    intro p hp
    cases hp) ((stack_Stack_Push.eq stack_Stack_ahead n158 k).trans hx)
theorem stack_Stack_Push.look (d : Nat) (hd : 4 ≤ d) {e : Option Bool} {g : FuncId} {a : List AV} {h : Heap} {k : KR} (hx : stack_Stack_Push.get stack_Stack_Push e g a h k = some true) : e = some true ∨ callK Try.prog ht d g a h k = some true := by
  unfold stack_Stack_Push.get at hx
  split at hx
  · exact .inr (stack_Stack_Push.ok d hd _ _ hx)
  · exact .inl hx
/-- function 46: (*sheerleg/memory.Memory).at -/
noncomputable def memory_Memory_atv1.body (memory_Memory_Size : (Int → Option Bool) → Option Bool) (n210 : Int) (n211 : Int) (k1 : Bool → Int → Option Bool) : Option Bool :=
  (cond_ (! (decide (n210 < (0 : Int)))) (memory_Memory_Size
  (fun n212 => (cond_ (decide (n210 ≥ n212)) (k1 false n211) none))) (k1 false n211))
noncomputable def memory_Memory_atv1 (n210 : Int) (n211 : Int) (k1 : Bool → Int → Option Bool) : Option Bool := memory_Memory_atv1.body memory_Memory_Size n210 n211 k1
noncomputable def memory_Memory_atv1.get (F : Int → Int → (Bool → Int → Option Bool) → Option Bool) (e : Option Bool) (g : FuncId) (a : List AV) (h : Heap) (k : KR) : Option Bool := match g, a, h with
  | 46, [.nilp, (.d ⟨(.int .i64), n210⟩), (.fn (.func 56) [] [(.ptr [0, 0] 0 0)])], [([0, 0], ⟨2, 1, (.data (.int .i64) [n211])⟩)] => F n210 n211 (fun y0 y1 => k (.d ⟨.bool, y0⟩) [([0, 0], ⟨2, 1, (.data (.int .i64) [y1])⟩)])
  | _, _, _ => e
noncomputable def memory_Memory_atv1.calls (F0 : (Int → Option Bool) → Option Bool) : RecF := fun g a h k => (memory_Memory_Size.get F0 none g a h k)
noncomputable def memory_Memory_atv1.loops : LoopF := fun b => none
set_option maxRecDepth 100000 in
theorem memory_Memory_atv1.eq (F0 : (Int → Option Bool) → Option Bool) (n210 : Int) (n211 : Int) (k : KR) : execL Try.prog ht 46 (callfOf (memory_Memory_atv1.calls F0)) (memory_Memory_atv1.loops) 0 (codeOf Try.f46) ⟨[.nilp, (.d ⟨(.int .i64), n210⟩), (.fn (.func 56) [] [(.ptr [0, 0] 0 0)])] ++ List.replicate (Try.f46.ntmps - ([.nilp, (.d ⟨(.int .i64), n210⟩), (.fn (.func 56) [] [(.ptr [0, 0] 0 0)])] : List AV).length) .undef, [([0, 0], ⟨2, 1, (.data (.int .i64) [n211])⟩)], 2⟩ (leave Try.prog Try.f46 k) = memory_Memory_atv1.body F0 n210 n211 (fun y0 y1 => k (.d ⟨.bool, y0⟩) [([0, 0], ⟨2, 1, (.data (.int .i64) [y1])⟩)]) := by kernel_rfl
theorem memory_Memory_atv1.ok (d : Nat) (hd : 2 ≤ d) (n210 : Int) (n211 : Int) (k : KR) (hx : memory_Memory_atv1 n210 n211 (fun y0 y1 => k (.d ⟨.bool, y0⟩) [([0, 0], ⟨2, 1, (.data (.int .i64) [y1])⟩)]) = some true) : callK Try.prog ht d 46 [.nilp, (.d ⟨(.int .i64), n210⟩), (.fn (.func 56) [] [(.ptr [0, 0] 0 0)])] [([0, 0], ⟨2, 1, (.data (.int .i64) [n211])⟩)] k = some true := by
  obtain ⟨d, rfl⟩ : ∃ e, d = e + 1 := ⟨d - 1, by omega⟩
  exact fn_ok (c := codeOf Try.f46) Try.func46 (by kernel_rfl) (rec := memory_Memory_atv1.calls memory_Memory_Size) (fun g a h k hx => by
    rcases memory_Memory_Size.look d (by omega) hx with hx | hx
    rotate_left
    · exact hx
    cases hx) (loopf := memory_Memory_atv1.loops) (by
    have e : loopsOf (memory_Memory_atv1.loops) 0 (codeOf Try.f46) = [] := by kernel_rfl
    rw [e]
    intro p hp
    cases hp) ((memory_Memory_atv1.eq memory_Memory_Size n210 n211 k).trans hx)
theorem memory_Memory_atv1.look (d : Nat) (hd : 2 ≤ d) {e : Option Bool} {g : FuncId} {a : List AV} {h : Heap} {k : KR} (hx : memory_Memory_atv1.get memory_Memory_atv1 e g a h k = some true) : e = some true ∨ callK Try.prog ht d g a h k = some true := by
  unfold memory_Memory_atv1.get at hx
  split at hx
  · exact .inr (memory_Memory_atv1.ok d hd _ _ _ hx)
  · exact .inl hx
/-- function 50: (*sheerleg/memory.Memory).Store -/
noncomputable def memory_Memory_Store.body (memory_Memory_atv1 : Int → Int → (Bool → Int → Option Bool) → Option Bool) (n208 : Int) (n209 : Int) (k1 : Bool → Option Bool) : Option Bool :=
  (memory_Memory_atv1 n208 n209
  (fun b213 n214 => (k1 b213)))
noncomputable def memory_Memory_Store (n208 : Int) (n209 : Int) (k1 : Bool → Option Bool) : Option Bool := memory_Memory_Store.body memory_Memory_atv1 n208 n209 k1
noncomputable def memory_Memory_Store.get (F : Int → Int → (Bool → Option Bool) → Option Bool) (e : Option Bool) (g : FuncId) (a : List AV) (h : Heap) (k : KR) : Option Bool := match g, a, h with
  | 50, [.nilp, (.d ⟨(.int .i64), n208⟩), (.d ⟨(.int .i64), n209⟩)], [] => F n208 n209 (fun y0 => k (.d ⟨.bool, y0⟩) [])
  | _, _, _ => e
noncomputable def memory_Memory_Store.calls (F0 : Int → Int → (Bool → Int → Option Bool) → Option Bool) : RecF := fun g a h k => (memory_Memory_atv1.get F0 none g a h k)
noncomputable def memory_Memory_Store.loops : LoopF := fun b => none
set_option maxRecDepth 100000 in
theorem memory_Memory_Store.eq (F0 : Int → Int → (Bool → Int → Option Bool) → Option Bool) (n208 : Int) (n209 : Int) (k : KR) : execL Try.prog ht 50 (callfOf (memory_Memory_Store.calls F0)) (memory_Memory_Store.loops) 0 (codeOf Try.f50) ⟨[.nilp, (.d ⟨(.int .i64), n208⟩), (.d ⟨(.int .i64), n209⟩)] ++ List.replicate (Try.f50.ntmps - ([.nilp, (.d ⟨(.int .i64), n208⟩), (.d ⟨(.int .i64), n209⟩)] : List AV).length) .undef, [], 2⟩ (leave Try.prog Try.f50 k) = memory_Memory_Store.body F0 n208 n209 (fun y0 => k (.d ⟨.bool, y0⟩) []) := by kernel_rfl
theorem memory_Memory_Store.ok (d : Nat) (hd : 3 ≤ d) (n208 : Int) (n209 : Int) (k : KR) (hx : memory_Memory_Store n208 n209 (fun y0 => k (.d ⟨.bool, y0⟩) []) = some true) : callK Try.prog ht d 50 [.nilp, (.d ⟨(.int .i64), n208⟩), (.d ⟨(.int .i64), n209⟩)] [] k = some true := by
  obtain ⟨d, rfl⟩ : ∃ e, d = e + 1 := ⟨d - 1, by omega⟩
  exact fn_ok (c := codeOf Try.f50) Try.func50 (by kernel_rfl) (rec := memory_Memory_Store.calls memory_Memory_atv1) (fun g a h k hx => by
    rcases memory_Memory_atv1.look d (by omega) hx with hx | hx
    rotate_left
    · exact hx
    cases hx) (loopf := memory_Memory_Store.loops) (by
    have e : loopsOf (memory_Memory_Store.loops) 0 (codeOf Try.f50) = [] := by kernel_rfl
    rw [e]
    intro p hp
    cases hp) ((memory_Memory_Store.eq memory_Memory_atv1 n208 n209 k).trans hx)
theorem memory_Memory_Store.look (d : Nat) (hd : 3 ≤ d) {e : Option Bool} {g : FuncId} {a : List AV} {h : Heap} {k : KR} (hx : memory_Memory_Store.get memory_Memory_Store e g a h k = some true) : e = some true ∨ callK Try.prog ht d g a h k = some true := by
  unfold memory_Memory_Store.get at hx
  split at hx
  · exact .inr (memory_Memory_Store.ok d hd _ _ _ hx)
  · exact .inl hx
/-- function 33: (*sheerleg/stack.Stack).write -/
noncomputable def stack_Stack_writev1.body (stack_Stack_livev1 : Int → Int → Int → Int → Int → Int → Int → (Bool → Int → Int → Int → Int → Int → Int → Int → Option Bool) → Option Bool) (memory_Memory_Store : Int → Int → (Bool → Option Bool) → Option Bool) (n191 : Int) (n192 : Int) (n193 : Int) (n194 : Int) (n195 : Int) (n196 : Int) (n197 : Int) (n198 : Int) (n199 : Int) (k1 : Bool → Int → Int → Int → Int → Int → Int → Int → Option Bool) : Option Bool :=
  (stack_Stack_livev1 n193 n194 n195 n196 n197 n198 n199
  (fun b200 n201 n202 n203 n204 n205 n206 n207 => (cond_ (! (! b200)) (cond_ (! (decide (n191 < n201))) (cond_ (! (decide (n191 ≥ n203))) (memory_Memory_Store n191 n192
  (fun b215 => (cond_ (! b215) (k1 false n201 n202 n203 n204 n205 n206 n207) (k1 true n201 n202 n203 n204 n205 n206 (if ((IntKind.wrap .i64 (n191 - n201)) < n207) then (IntKind.wrap .i64 (n191 - n201)) else n207))))) (k1 false n201 n202 n203 n204 n205 n206 n207)) (k1 false n201 n202 n203 n204 n205 n206 n207)) (k1 false n201 n202 n203 n204 n205 n206 n207))))
noncomputable def stack_Stack_writev1 (n191 : Int) (n192 : Int) (n193 : Int) (n194 : Int) (n195 : Int) (n196 : Int) (n197 : Int) (n198 : Int) (n199 : Int) (k1 : Bool → Int → Int → Int → Int → Int → Int → Int → Option Bool) : Option Bool := stack_Stack_writev1.body stack_Stack_livev1 memory_Memory_Store n191 n192 n193 n194 n195 n196 n197 n198 n199 k1
noncomputable def stack_Stack_writev1.get (F : Int → Int → Int → Int → Int → Int → Int → Int → Int → (Bool → Int → Int → Int → Int → Int → Int → Int → Option Bool) → Option Bool) (e : Option Bool) (g : FuncId) (a : List AV) (h : Heap) (k : KR) : Option Bool := match g, a, h with
  | 33, [(.ptr [0, 0] 0 0), (.d ⟨(.int .i64), n191⟩), (.d ⟨(.int .i64), n192⟩)], [([0, 0], ⟨53, 8, (.mix [(.agg [.nilp, (.d ⟨(.int .i64), n193⟩), (.d ⟨(.int .i64), n194⟩), (.d ⟨(.int .i64), n195⟩), (.d ⟨(.int .i64), n196⟩), (.d ⟨(.int .i64), n197⟩), (.d ⟨(.int .i64), n198⟩), (.d ⟨(.int .i64), n199⟩)])])⟩)] => F n191 n192 n193 n194 n195 n196 n197 n198 n199 (fun y0 y1 y2 y3 y4 y5 y6 y7 => k (.d ⟨.bool, y0⟩) [([0, 0], ⟨53, 8, (.mix [(.agg [.nilp, (.d ⟨(.int .i64), y1⟩), (.d ⟨(.int .i64), y2⟩), (.d ⟨(.int .i64), y3⟩), (.d ⟨(.int .i64), y4⟩), (.d ⟨(.int .i64), y5⟩), (.d ⟨(.int .i64), y6⟩), (.d ⟨(.int .i64), y7⟩)])])⟩)])
  | _, _, _ => e
noncomputable def stack_Stack_writev1.calls (F0 : Int → Int → Int → Int → Int → Int → Int → (Bool → Int → Int → Int → Int → Int → Int → Int → Option Bool) → Option Bool) (F1 : Int → Int → (Bool → Option Bool) → Option Bool) : RecF := fun g a h k => (stack_Stack_livev1.get F0 (memory_Memory_Store.get F1 none g a h k) g a h k)
noncomputable def stack_Stack_writev1.loops : LoopF := fun b => none
set_option maxRecDepth 100000 in
theorem stack_Stack_writev1.eq (F0 : Int → Int → Int → Int → Int → Int → Int → (Bool → Int → Int → Int → Int → Int → Int → Int → Option Bool) → Option Bool) (F1 : Int → Int → (Bool → Option Bool) → Option Bool) (n191 : Int) (n192 : Int) (n193 : Int) (n194 : Int) (n195 : Int) (n196 : Int) (n197 : Int) (n198 : Int) (n199 : Int) (k : KR) : execL Try.prog ht 33 (callfOf (stack_Stack_writev1.calls F0 F1)) (stack_Stack_writev1.loops) 0 (codeOf Try.f33) ⟨[(.ptr [0, 0] 0 0), (.d ⟨(.int .i64), n191⟩), (.d ⟨(.int .i64), n192⟩)] ++ List.replicate (Try.f33.ntmps - ([(.ptr [0, 0] 0 0), (.d ⟨(.int .i64), n191⟩), (.d ⟨(.int .i64), n192⟩)] : List AV).length) .undef, [([0, 0], ⟨53, 8, (.mix [(.agg [.nilp, (.d ⟨(.int .i64), n193⟩), (.d ⟨(.int .i64), n194⟩), (.d ⟨(.int .i64), n195⟩), (.d ⟨(.int .i64), n196⟩), (.d ⟨(.int .i64), n197⟩), (.d ⟨(.int .i64), n198⟩), (.d ⟨(.int .i64), n199⟩)])])⟩)], 2⟩ (leave Try.prog Try.f33 k) = stack_Stack_writev1.body F0 F1 n191 n192 n193 n194 n195 n196 n197 n198 n199 (fun y0 y1 y2 y3 y4 y5 y6 y7 => k (.d ⟨.bool, y0⟩) [([0, 0], ⟨53, 8, (.mix [(.agg [.nilp, (.d ⟨(.int .i64), y1⟩), (.d ⟨(.int .i64), y2⟩), (.d ⟨(.int .i64), y3⟩), (.d ⟨(.int .i64), y4⟩), (.d ⟨(.int .i64), y5⟩), (.d ⟨(.int .i64), y6⟩), (.d ⟨(.int .i64), y7⟩)])])⟩)]) := by kernel_rfl
theorem stack_Stack_writev1.ok (d : Nat) (hd : 4 ≤ d) (n191 : Int) (n192 : Int) (n193 : Int) (n194 : Int) (n195 : Int) (n196 : Int) (n197 : Int) (n198 : Int) (n199 : Int) (k : KR) (hx : stack_Stack_writev1 n191 n192 n193 n194 n195 n196 n197 n198 n199 (fun y0 y1 y2 y3 y4 y5 y6 y7 => k (.d ⟨.bool, y0⟩) [([0, 0], ⟨53, 8, (.mix [(.agg [.nilp, (.d ⟨(.int .i64), y1⟩), (.d ⟨(.int .i64), y2⟩), (.d ⟨(.int .i64), y3⟩), (.d ⟨(.int .i64), y4⟩), (.d ⟨(.int .i64), y5⟩), (.d ⟨(.int .i64), y6⟩), (.d ⟨(.int .i64), y7⟩)])])⟩)]) = some true) : callK Try.prog ht d 33 [(.ptr [0, 0] 0 0), (.d ⟨(.int .i64), n191⟩), (.d ⟨(.int .i64), n192⟩)] [([0, 0], ⟨53, 8, (.mix [(.agg [.nilp, (.d ⟨(.int .i64), n193⟩), (.d ⟨(.int .i64), n194⟩), (.d ⟨(.int .i64), n195⟩), (.d ⟨(.int .i64), n196⟩), (.d ⟨(.int .i64), n197⟩), (.d ⟨(.int .i64), n198⟩), (.d ⟨(.int .i64), n199⟩)])])⟩)] k = some true := by
  obtain ⟨d, rfl⟩ : ∃ e, d = e + 1 := ⟨d - 1, by omega⟩
  exact fn_ok (c := codeOf Try.f33) Try.func33 (by kernel_rfl) (rec := stack_Stack_writev1.calls stack_Stack_livev1 memory_Memory_Store) (fun g a h k hx => by
    rcases stack_Stack_livev1.look d (by omega) hx with hx | hx
    rotate_left
    · exact hx
    rcases memory_Memory_Store.look d (by omega) hx with hx | hx
    rotate_left
    · exact hx
    cases hx) (loopf := stack_Stack_writev1.loops) (by
    have e : loopsOf (stack_Stack_writev1.loops) 0 (codeOf Try.f33) = [] := by kernel_rfl
    rw [e]
    intro p hp
    cases hp) ((stack_Stack_writev1.eq stack_Stack_livev1 memory_Memory_Store n191 n192 n193 n194 n195 n196 n197 n198 n199 k).trans hx)
theorem stack_Stack_writev1.look (d : Nat) (hd : 4 ≤ d) {e : Option Bool} {g : FuncId} {a : List AV} {h : Heap} {k : KR} (hx : stack_Stack_writev1.get stack_Stack_writev1 e g a h k = some true) : e = some true ∨ callK Try.prog ht d g a h k = some true := by
  unfold stack_Stack_writev1.get at hx
  split at hx
  · exact .inr (stack_Stack_writev1.ok d hd _ _ _ _ _ _ _ _ _ _ hx)
  · exact .inl hx
/-- function 32: (*sheerleg/stack.Stack).ahead -/
noncomputable def stack_Stack_aheadv1.body (stack_Stack_SPv1 : Int → Int → Int → Int → Int → Int → Int → (Int → Int → Int → Int → Int → Int → Int → Int → Option Bool) → Option Bool) (stack_Stack_writev1 : Int → Int → Int → Int → Int → Int → Int → Int → Int → (Bool → Int → Int → Int → Int → Int → Int → Int → Option Bool) → Option Bool) (n175 : Int) (n176 : Int) (n177 : Int) (n178 : Int) (n179 : Int) (n180 : Int) (n181 : Int) (n182 : Int) (k1 : Bool → Int → Int → Int → Int → Int → Int → Int → Option Bool) : Option Bool :=
  (stack_Stack_SPv1 n176 n177 n178 n179 n180 n181 n182
  (fun n183 n184 n185 n186 n187 n188 n189 n190 => (stack_Stack_writev1 (IntKind.wrap .i64 (n183 - (1 : Int))) n175 n184 n185 n186 n187 n188 n189 n190
  (fun b216 n217 n218 n219 n220 n221 n222 n223 => (k1 b216 n217 n218 n219 n220 n221 n222 n223)))))
noncomputable def stack_Stack_aheadv1 (n175 : Int) (n176 : Int) (n177 : Int) (n178 : Int) (n179 : Int) (n180 : Int) (n181 : Int) (n182 : Int) (k1 : Bool → Int → Int → Int → Int → Int → Int → Int → Option Bool) : Option Bool := stack_Stack_aheadv1.body stack_Stack_SPv1 stack_Stack_writev1 n175 n176 n177 n178 n179 n180 n181 n182 k1
noncomputable def stack_Stack_aheadv1.get (F : Int → Int → Int → Int → Int → Int → Int → Int → (Bool → Int → Int → Int → Int → Int → Int → Int → Option Bool) → Option Bool) (e : Option Bool) (g : FuncId) (a : List AV) (h : Heap) (k : KR) : Option Bool := match g, a, h with
  | 32, [(.ptr [0, 0] 0 0), (.fn (.func 33) [(.ptr [0, 0] 0 0)] []), (.d ⟨(.int .i64), n175⟩)], [([0, 0], ⟨53, 8, (.mix [(.agg [.nilp, (.d ⟨(.int .i64), n176⟩), (.d ⟨(.int .i64), n177⟩), (.d ⟨(.int .i64), n178⟩), (.d ⟨(.int .i64), n179⟩), (.d ⟨(.int .i64), n180⟩), (.d ⟨(.int .i64), n181⟩), (.d ⟨(.int .i64), n182⟩)])])⟩)] => F n175 n176 n177 n178 n179 n180 n181 n182 (fun y0 y1 y2 y3 y4 y5 y6 y7 => k (.d ⟨.bool, y0⟩) [([0, 0], ⟨53, 8, (.mix [(.agg [.nilp, (.d ⟨(.int .i64), y1⟩), (.d ⟨(.int .i64), y2⟩), (.d ⟨(.int .i64), y3⟩), (.d ⟨(.int .i64), y4⟩), (.d ⟨(.int .i64), y5⟩), (.d ⟨(.int .i64), y6⟩), (.d ⟨(.int .i64), y7⟩)])])⟩)])
  | _, _, _ => e
noncomputable def stack_Stack_aheadv1.calls (F0 : Int → Int → Int → Int → Int → Int → Int → (Int → Int → Int → Int → Int → Int → Int → Int → Option Bool) → Option Bool) (F1 : Int → Int → Int → Int → Int → Int → Int → Int → Int → (Bool → Int → Int → Int → Int → Int → Int → Int → Option Bool) → Option Bool) : RecF := fun g a h k => (stack_Stack_SPv1.get F0 (stack_Stack_writev1.get F1 none g a h k) g a h k)
noncomputable def stack_Stack_aheadv1.loops : LoopF := fun b => none
set_option maxRecDepth 100000 in
theorem stack_Stack_aheadv1.eq (F0 : Int → Int → Int → Int → Int → Int → Int → (Int → Int → Int → Int → Int → Int → Int → Int → Option Bool) → Option Bool) (F1 : Int → Int → Int → Int → Int → Int → Int → Int → Int → (Bool → Int → Int → Int → Int → Int → Int → Int → Option Bool) → Option Bool) (n175 : Int) (n176 : Int) (n177 : Int) (n178 : Int) (n179 : Int) (n180 : Int) (n181 : Int) (n182 : Int) (k : KR) : execL Try.prog ht 32 (callfOf (stack_Stack_aheadv1.calls F0 F1)) (stack_Stack_aheadv1.loops) 0 (codeOf Try.f32) ⟨[(.ptr [0, 0] 0 0), (.fn (.func 33) [(.ptr [0, 0] 0 0)] []), (.d ⟨(.int .i64), n175⟩)] ++ List.replicate (Try.f32.ntmps - ([(.ptr [0, 0] 0 0), (.fn (.func 33) [(.ptr [0, 0] 0 0)] []), (.d ⟨(.int .i64), n175⟩)] : List AV).length) .undef, [([0, 0], ⟨53, 8, (.mix [(.agg [.nilp, (.d ⟨(.int .i64), n176⟩), (.d ⟨(.int .i64), n177⟩), (.d ⟨(.int .i64), n178⟩), (.d ⟨(.int .i64), n179⟩), (.d ⟨(.int .i64), n180⟩), (.d ⟨(.int .i64), n181⟩), (.d ⟨(.int .i64), n182⟩)])])⟩)], 2⟩ (leave Try.prog Try.f32 k) = stack_Stack_aheadv1.body F0 F1 n175 n176 n177 n178 n179 n180 n181 n182 (fun y0 y1 y2 y3 y4 y5 y6 y7 => k (.d ⟨.bool, y0⟩) [([0, 0], ⟨53, 8, (.mix [(.agg [.nilp, (.d ⟨(.int .i64), y1⟩), (.d ⟨(.int .i64), y2⟩), (.d ⟨(.int .i64), y3⟩), (.d ⟨(.int .i64), y4⟩), (.d ⟨(.int .i64), y5⟩), (.d ⟨(.int .i64), y6⟩), (.d ⟨(.int .i64), y7⟩)])])⟩)]) := by kernel_rfl
theorem stack_Stack_aheadv1.ok (d : Nat) (hd : 5 ≤ d) (n175 : Int) (n176 : Int) (n177 : Int) (n178 : Int) (n179 : Int) (n180 : Int) (n181 : Int) (n182 : Int) (k : KR) (hx : stack_Stack_aheadv1 n175 n176 n177 n178 n179 n180 n181 n182 (fun y0 y1 y2 y3 y4 y5 y6 y7 => k (.d ⟨.bool, y0⟩) [([0, 0], ⟨53, 8, (.mix [(.agg [.nilp, (.d ⟨(.int .i64), y1⟩), (.d ⟨(.int .i64), y2⟩), (.d ⟨(.int .i64), y3⟩), (.d ⟨(.int .i64), y4⟩), (.d ⟨(.int .i64), y5⟩), (.d ⟨(.int .i64), y6⟩), (.d ⟨(.int .i64), y7⟩)])])⟩)]) = some true) : callK Try.prog ht d 32 [(.ptr [0, 0] 0 0), (.fn (.func 33) [(.ptr [0, 0] 0 0)] []), (.d ⟨(.int .i64), n175⟩)] [([0, 0], ⟨53, 8, (.mix [(.agg [.nilp, (.d ⟨(.int .i64), n176⟩), (.d ⟨(.int .i64), n177⟩), (.d ⟨(.int .i64), n178⟩), (.d ⟨(.int .i64), n179⟩), (.d ⟨(.int .i64), n180⟩), (.d ⟨(.int .i64), n181⟩), (.d ⟨(.int .i64), n182⟩)])])⟩)] k = some true := by
  obtain ⟨d, rfl⟩ : ∃ e, d = e + 1 := ⟨d - 1, by omega⟩
  exact fn_ok (c := codeOf Try.f32) Try.func32 (by kernel_rfl) (rec := stack_Stack_aheadv1.calls stack_Stack_SPv1 stack_Stack_writev1) (fun g a h k hx => by
    rcases stack_Stack_SPv1.look d (by omega) hx with hx | hx
    rotate_left
    · exact hx
    rcases stack_Stack_writev1.look d (by omega) hx with hx | hx
    rotate_left
    · exact hx
    cases hx) (loopf := stack_Stack_aheadv1.loops) (by
    have e : loopsOf (stack_Stack_aheadv1.loops) 0 (codeOf Try.f32) = [] := by kernel_rfl
    rw [e]
    intro p hp
    cases hp) ((stack_Stack_aheadv1.eq stack_Stack_SPv1 stack_Stack_writev1 n175 n176 n177 n178 n179 n180 n181 n182 k).trans hx)
theorem stack_Stack_aheadv1.look (d : Nat) (hd : 5 ≤ d) {e : Option Bool} {g : FuncId} {a : List AV} {h : Heap} {k : KR} (hx : stack_Stack_aheadv1.get stack_Stack_aheadv1 e g a h k = some true) : e = some true ∨ callK Try.prog ht d g a h k = some true := by
  unfold stack_Stack_aheadv1.get at hx
  split at hx
  · exact .inr (stack_Stack_aheadv1.ok d hd _ _ _ _ _ _ _ _ _ hx)
  · exact .inl hx
/-- function 10: (*sheerleg/stack.Stack).Push -/
noncomputable def stack_Stack_Pushv1.body (stack_Stack_aheadv1 : Int → Int → Int → Int → Int → Int → Int → Int → (Bool → Int → Int → Int → Int → Int → Int → Int → Option Bool) → Option Bool) (n167 : Int) (n168 : Int) (n169 : Int) (n170 : Int) (n171 : Int) (n172 : Int) (n173 : Int) (n174 : Int) (k1 : Bool → Int → Int → Int → Int → Int → Int → Int → Option Bool) : Option Bool :=
  (stack_Stack_aheadv1 n167 n168 n169 n170 n171 n172 n173 n174
  (fun b224 n225 n226 n227 n228 n229 n230 n231 => (cond_ (! b224) (k1 false n225 n226 n227 n228 n229 n230 n231) (k1 true n225 n226 n227 (IntKind.wrap .i64 (n228 - (1 : Int))) n229 n230 n231))))
noncomputable def stack_Stack_Pushv1 (n167 : Int) (n168 : Int) (n169 : Int) (n170 : Int) (n171 : Int) (n172 : Int) (n173 : Int) (n174 : Int) (k1 : Bool → Int → Int → Int → Int → Int → Int → Int → Option Bool) : Option Bool := stack_Stack_Pushv1.body stack_Stack_aheadv1 n167 n168 n169 n170 n171 n172 n173 n174 k1
noncomputable def stack_Stack_Pushv1.get (F : Int → Int → Int → Int → Int → Int → Int → Int → (Bool → Int → Int → Int → Int → Int → Int → Int → Option Bool) → Option Bool) (e : Option Bool) (g : FuncId) (a : List AV) (h : Heap) (k : KR) : Option Bool := match g, a, h with
  | 10, [(.ptr [0, 0] 0 0), (.d ⟨(.int .i64), n167⟩)], [([0, 0], ⟨53, 8, (.mix [(.agg [.nilp, (.d ⟨(.int .i64), n168⟩), (.d ⟨(.int .i64), n169⟩), (.d ⟨(.int .i64), n170⟩), (.d ⟨(.int .i64), n171⟩), (.d ⟨(.int .i64), n172⟩), (.d ⟨(.int .i64), n173⟩), (.d ⟨(.int .i64), n174⟩)])])⟩)] => F n167 n168 n169 n170 n171 n172 n173 n174 (fun y0 y1 y2 y3 y4 y5 y6 y7 => k (.d ⟨.bool, y0⟩) [([0, 0], ⟨53, 8, (.mix [(.agg [.nilp, (.d ⟨(.int .i64), y1⟩), (.d ⟨(.int .i64), y2⟩), (.d ⟨(.int .i64), y3⟩), (.d ⟨(.int .i64), y4⟩), (.d ⟨(.int .i64), y5⟩), (.d ⟨(.int .i64), y6⟩), (.d ⟨(.int .i64), y7⟩)])])⟩)])
  | _, _, _ => e
noncomputable def stack_Stack_Pushv1.calls (F0 : Int → Int → Int → Int → Int → Int → Int → Int → (Bool → Int → Int → Int → Int → Int → Int → Int → Option Bool) → Option Bool) : RecF := fun g a h k => (stack_Stack_aheadv1.get F0 none g a h k)
noncomputable def stack_Stack_Pushv1.loops : LoopF := fun b => none
set_option maxRecDepth 100000 in
theorem stack_Stack_Pushv1.eq (F0 : Int → Int → Int → Int → Int → Int → Int → Int → (Bool → Int → Int → Int → Int → Int → Int → Int → Option Bool) → Option Bool) (n167 : Int) (n168 : Int) (n169 : Int) (n170 : Int) (n171 : Int) (n172 : Int) (n173 : Int) (n174 : Int) (k : KR) : execL Try.prog ht 10 (callfOf (stack_Stack_Pushv1.calls F0)) (stack_Stack_Pushv1.loops) 0 (codeOf Try.f10) ⟨[(.ptr [0, 0] 0 0), (.d ⟨(.int .i64), n167⟩)] ++ List.replicate (Try.f10.ntmps - ([(.ptr [0, 0] 0 0), (.d ⟨(.int .i64), n167⟩)] : List AV).length) .undef, [([0, 0], ⟨53, 8, (.mix [(.agg [.nilp, (.d ⟨(.int .i64), n168⟩), (.d ⟨(.int .i64), n169⟩), (.d ⟨(.int .i64), n170⟩), (.d ⟨(.int .i64), n171⟩), (.d ⟨(.int .i64), n172⟩), (.d ⟨(.int .i64), n173⟩), (.d ⟨(.int .i64), n174⟩)])])⟩)], 2⟩ (leave Try.prog Try.f10 k) = stack_Stack_Pushv1.body F0 n167 n168 n169 n170 n171 n172 n173 n174 (fun y0 y1 y2 y3 y4 y5 y6 y7 => k (.d ⟨.bool, y0⟩) [([0, 0], ⟨53, 8, (.mix [(.agg [.nilp, (.d ⟨(.int .i64), y1⟩), (.d ⟨(.int .i64), y2⟩), (.d ⟨(.int .i64), y3⟩), (.d ⟨(.int .i64), y4⟩), (.d ⟨(.int .i64), y5⟩), (.d ⟨(.int .i64), y6⟩), (.d ⟨(.int .i64), y7⟩)])])⟩)]) := by kernel_rfl
theorem stack_Stack_Pushv1.ok (d : Nat) (hd : 6 ≤ d) (n167 : Int) (n168 : Int) (n169 : Int) (n170 : Int) (n171 : Int) (n172 : Int) (n173 : Int) (n174 : Int) (k : KR) (hx : stack_Stack_Pushv1 n167 n168 n169 n170 n171 n172 n173 n174 (fun y0 y1 y2 y3 y4 y5 y6 y7 => k (.d ⟨.bool, y0⟩) [([0, 0], ⟨53, 8, (.mix [(.agg [.nilp, (.d ⟨(.int .i64), y1⟩), (.d ⟨(.int .i64), y2⟩), (.d ⟨(.int .i64), y3⟩), (.d ⟨(.int .i64), y4⟩), (.d ⟨(.int .i64), y5⟩), (.d ⟨(.int .i64), y6⟩), (.d ⟨(.int .i64), y7⟩)])])⟩)]) = some true) : callK Try.prog ht d 10 [(.ptr [0, 0] 0 0), (.d ⟨(.int .i64), n167⟩)] [([0, 0], ⟨53, 8, (.mix [(.agg [.nilp, (.d ⟨(.int .i64), n168⟩), (.d ⟨(.int .i64), n169⟩), (.d ⟨(.int .i64), n170⟩), (.d ⟨(.int .i64), n171⟩), (.d ⟨(.int .i64), n172⟩), (.d ⟨(.int .i64), n173⟩), (.d ⟨(.int .i64), n174⟩)])])⟩)] k = some true := by
  obtain ⟨d, rfl⟩ : ∃ e, d = e + 1 := ⟨d - 1, by omega⟩
  exact fn_ok (c := codeOf Try.f10) Try.func10 (by kernel_rfl) (rec := stack_Stack_Pushv1.calls stack_Stack_aheadv1) (fun g a h k hx => by
    rcases stack_Stack_aheadv1.look d (by omega) hx with hx | hx
    rotate_left
    · exact hx
    cases hx) (loopf := stack_Stack_Pushv1.loops) (by
    have e : loopsOf (stack_Stack_Pushv1.loops) 0 (codeOf Try.f10) = [] := by kernel_rfl
    rw [e]
    intro p hp
    cases hp) ((stack_Stack_Pushv1.eq stack_Stack_aheadv1 n167 n168 n169 n170 n171 n172 n173 n174 k).trans hx)
theorem stack_Stack_Pushv1.look (d : Nat) (hd : 6 ≤ d) {e : Option Bool} {g : FuncId} {a : List AV} {h : Heap} {k : KR} (hx : stack_Stack_Pushv1.get stack_Stack_Pushv1 e g a h k = some true) : e = some true ∨ callK Try.prog ht d g a h k = some true := by
  unfold stack_Stack_Pushv1.get at hx
  split at hx
  · exact .inr (stack_Stack_Pushv1.ok d hd _ _ _ _ _ _ _ _ _ hx)
  · exact .inl hx
/-- function 24: (*sheerleg/stack.Stack).Set -/
noncomputable def stack_Stack_Set.body (stack_Stack_has : Int → (Bool → Option Bool) → Option Bool) (n240 : Int) (n241 : Int) (k1 : Bool → Option Bool) : Option Bool :=
  (stack_Stack_has n240
  (fun b242 => (cond_ b242 none (k1 false))))
noncomputable def stack_Stack_Set (n240 : Int) (n241 : Int) (k1 : Bool → Option Bool) : Option Bool := stack_Stack_Set.body stack_Stack_has n240 n241 k1
noncomputable def stack_Stack_Set.get (F : Int → Int → (Bool → Option Bool) → Option Bool) (e : Option Bool) (g : FuncId) (a : List AV) (h : Heap) (k : KR) : Option Bool := match g, a, h with
  | 24, [.nilp, (.d ⟨(.int .i64), n240⟩), (.d ⟨(.int .i64), n241⟩)], [] => F n240 n241 (fun y0 => k (.d ⟨.bool, y0⟩) [])
  | _, _, _ => e
noncomputable def stack_Stack_Set.calls (F0 : Int → (Bool → Option Bool) → Option Bool) : RecF := fun g a h k => (stack_Stack_has.get F0 none g a h k)
noncomputable def stack_Stack_Set.loops : LoopF := fun b => none
set_option maxRecDepth 100000 in
theorem stack_Stack_Set.eq (F0 : Int → (Bool → Option Bool) → Option Bool) (n240 : Int) (n241 : Int) (k : KR) : execL Try.prog ht 24 (callfOf (stack_Stack_Set.calls F0)) (stack_Stack_Set.loops) 0 (codeOf Try.f24) ⟨[.nilp, (.d ⟨(.int .i64), n240⟩), (.d ⟨(.int .i64), n241⟩)] ++ List.replicate (Try.f24.ntmps - ([.nilp, (.d ⟨(.int .i64), n240⟩), (.d ⟨(.int .i64), n241⟩)] : List AV).length) .undef, [], 2⟩ (leave Try.prog Try.f24 k) = stack_Stack_Set.body F0 n240 n241 (fun y0 => k (.d ⟨.bool, y0⟩) []) := by kernel_rfl
theorem stack_Stack_Set.ok (d : Nat) (hd : 5 ≤ d) (n240 : Int) (n241 : Int) (k : KR) (hx : stack_Stack_Set n240 n241 (fun y0 => k (.d ⟨.bool, y0⟩) []) = some true) : callK Try.prog ht d 24 [.nilp, (.d ⟨(.int .i64), n240⟩), (.d ⟨(.int .i64), n241⟩)] [] k = some true := by
  obtain ⟨d, rfl⟩ : ∃ e, d = e + 1 := ⟨d - 1, by omega⟩
  exact fn_ok (c := codeOf Try.f24) Try.func24 (by kernel_rfl) (rec := stack_Stack_Set.calls stack_Stack_has) (fun g a h k hx => by
    rcases stack_Stack_has.look d (by omega) hx with hx | hx
    rotate_left
    · exact hx
    cases hx) (loopf := stack_Stack_Set.loops) (by
    have e : loopsOf (stack_Stack_Set.loops) 0 (codeOf Try.f24) = [] := by kernel_rfl
    rw [e]
    intro p hp
    cases hp) ((stack_Stack_Set.eq stack_Stack_has n240 n241 k).trans hx)
theorem stack_Stack_Set.look (d : Nat) (hd : 5 ≤ d) {e : Option Bool} {g : FuncId} {a : List AV} {h : Heap} {k : KR} (hx : stack_Stack_Set.get stack_Stack_Set e g a h k = some true) : e = some true ∨ callK Try.prog ht d g a h k = some true := by
  unfold stack_Stack_Set.get at hx
  split at hx
  · exact .inr (stack_Stack_Set.ok d hd _ _ _ hx)
  · exact .inl hx
/-- function 24: (*sheerleg/stack.Stack).Set -/
noncomputable def stack_Stack_Setv1.body (stack_Stack_hasv1 : Int → Int → Int → Int → Int → Int → Int → Int → (Bool → Int → Int → Int → Int → Int → Int → Int → Option Bool) → Option Bool) (stack_Stack_writev1 : Int → Int → Int → Int → Int → Int → Int → Int → Int → (Bool → Int → Int → Int → Int → Int → Int → Int → Option Bool) → Option Bool) (n244 : Int) (n245 : Int) (n246 : Int) (n247 : Int) (n248 : Int) (n249 : Int) (n250 : Int) (n251 : Int) (n252 : Int) (k1 : Bool → Int → Int → Int → Int → Int → Int → Int → Option Bool) : Option Bool :=
  (stack_Stack_hasv1 n244 n246 n247 n248 n249 n250 n251 n252
  (fun b253 n254 n255 n256 n257 n258 n259 n260 => (cond_ b253 (stack_Stack_writev1 (IntKind.wrap .i64 (n257 + n244)) n245 n254 n255 n256 n257 n258 n259 n260
  (fun b261 n262 n263 n264 n265 n266 n267 n268 => (k1 b261 n262 n263 n264 n265 n266 n267 n268))) (k1 false n254 n255 n256 n257 n258 n259 n260))))
noncomputable def stack_Stack_Setv1 (n244 : Int) (n245 : Int) (n246 : Int) (n247 : Int) (n248 : Int) (n249 : Int) (n250 : Int) (n251 : Int) (n252 : Int) (k1 : Bool → Int → Int → Int → Int → Int → Int → Int → Option Bool) : Option Bool := stack_Stack_Setv1.body stack_Stack_hasv1 stack_Stack_writev1 n244 n245 n246 n247 n248 n249 n250 n251 n252 k1
noncomputable def stack_Stack_Setv1.get (F : Int → Int → Int → Int → Int → Int → Int → Int → Int → (Bool → Int → Int → Int → Int → Int → Int → Int → Option Bool) → Option Bool) (e : Option Bool) (g : FuncId) (a : List AV) (h : Heap) (k : KR) : Option Bool := match g, a, h with
  | 24, [(.ptr [0, 0] 0 0), (.d ⟨(.int .i64), n244⟩), (.d ⟨(.int .i64), n245⟩)], [([0, 0], ⟨53, 8, (.mix [(.agg [.nilp, (.d ⟨(.int .i64), n246⟩), (.d ⟨(.int .i64), n247⟩), (.d ⟨(.int .i64), n248⟩), (.d ⟨(.int .i64), n249⟩), (.d ⟨(.int .i64), n250⟩), (.d ⟨(.int .i64), n251⟩), (.d ⟨(.int .i64), n252⟩)])])⟩)] => F n244 n245 n246 n247 n248 n249 n250 n251 n252 (fun y0 y1 y2 y3 y4 y5 y6 y7 => k (.d ⟨.bool, y0⟩) [([0, 0], ⟨53, 8, (.mix [(.agg [.nilp, (.d ⟨(.int .i64), y1⟩), (.d ⟨(.int .i64), y2⟩), (.d ⟨(.int .i64), y3⟩), (.d ⟨(.int .i64), y4⟩), (.d ⟨(.int .i64), y5⟩), (.d ⟨(.int .i64), y6⟩), (.d ⟨(.int .i64), y7⟩)])])⟩)])
  | _, _, _ => e
noncomputable def stack_Stack_Setv1.calls (F0 : Int → Int → Int → Int → Int → Int → Int → Int → (Bool → Int → Int → Int → Int → Int → Int → Int → Option Bool) → Option Bool) (F1 : Int → Int → Int → Int → Int → Int → Int → Int → Int → (Bool → Int → Int → Int → Int → Int → Int → Int → Option Bool) → Option Bool) : RecF := fun g a h k => (stack_Stack_hasv1.get F0 (stack_Stack_writev1.get F1 none g a h k) g a h k)
noncomputable def stack_Stack_Setv1.loops : LoopF := fun b => none
set_option maxRecDepth 100000 in
theorem stack_Stack_Setv1.eq (F0 : Int → Int → Int → Int → Int → Int → Int → Int → (Bool → Int → Int → Int → Int → Int → Int → Int → Option Bool) → Option Bool) (F1 : Int → Int → Int → Int → Int → Int → Int → Int → Int → (Bool → Int → Int → Int → Int → Int → Int → Int → Option Bool) → Option Bool) (n244 : Int) (n245 : Int) (n246 : Int) (n247 : Int) (n248 : Int) (n249 : Int) (n250 : Int) (n251 : Int) (n252 : Int) (k : KR) : execL Try.prog ht 24 (callfOf (stack_Stack_Setv1.calls F0 F1)) (stack_Stack_Setv1.loops) 0 (codeOf Try.f24) ⟨[(.ptr [0, 0] 0 0), (.d ⟨(.int .i64), n244⟩), (.d ⟨(.int .i64), n245⟩)] ++ List.replicate (Try.f24.ntmps - ([(.ptr [0, 0] 0 0), (.d ⟨(.int .i64), n244⟩), (.d ⟨(.int .i64), n245⟩)] : List AV).length) .undef, [([0, 0], ⟨53, 8, (.mix [(.agg [.nilp, (.d ⟨(.int .i64), n246⟩), (.d ⟨(.int .i64), n247⟩), (.d ⟨(.int .i64), n248⟩), (.d ⟨(.int .i64), n249⟩), (.d ⟨(.int .i64), n250⟩), (.d ⟨(.int .i64), n251⟩), (.d ⟨(.int .i64), n252⟩)])])⟩)], 2⟩ (leave Try.prog Try.f24 k) = stack_Stack_Setv1.body F0 F1 n244 n245 n246 n247 n248 n249 n250 n251 n252 (fun y0 y1 y2 y3 y4 y5 y6 y7 => k (.d ⟨.bool, y0⟩) [([0, 0], ⟨53, 8, (.mix [(.agg [.nilp, (.d ⟨(.int .i64), y1⟩), (.d ⟨(.int .i64), y2⟩), (.d ⟨(.int .i64), y3⟩), (.d ⟨(.int .i64), y4⟩), (.d ⟨(.int .i64), y5⟩), (.d ⟨(.int .i64), y6⟩), (.d ⟨(.int .i64), y7⟩)])])⟩)]) := by kernel_rfl
theorem stack_Stack_Setv1.ok (d : Nat) (hd : 5 ≤ d) (n244 : Int) (n245 : Int) (n246 : Int) (n247 : Int) (n248 : Int) (n249 : Int) (n250 : Int) (n251 : Int) (n252 : Int) (k : KR) (hx : stack_Stack_Setv1 n244 n245 n246 n247 n248 n249 n250 n251 n252 (fun y0 y1 y2 y3 y4 y5 y6 y7 => k (.d ⟨.bool, y0⟩) [([0, 0], ⟨53, 8, (.mix [(.agg [.nilp, (.d ⟨(.int .i64), y1⟩), (.d ⟨(.int .i64), y2⟩), (.d ⟨(.int .i64), y3⟩), (.d ⟨(.int .i64), y4⟩), (.d ⟨(.int .i64), y5⟩), (.d ⟨(.int .i64), y6⟩), (.d ⟨(.int .i64), y7⟩)])])⟩)]) = some true) : callK Try.prog ht d 24 [(.ptr [0, 0] 0 0), (.d ⟨(.int .i64), n244⟩), (.d ⟨(.int .i64), n245⟩)] [([0, 0], ⟨53, 8, (.mix [(.agg [.nilp, (.d ⟨(.int .i64), n246⟩), (.d ⟨(.int .i64), n247⟩), (.d ⟨(.int .i64), n248⟩), (.d ⟨(.int .i64), n249⟩), (.d ⟨(.int .i64), n250⟩), (.d ⟨(.int .i64), n251⟩), (.d ⟨(.int .i64), n252⟩)])])⟩)] k = some true := by
  obtain ⟨d, rfl⟩ : ∃ e, d = e + 1 := ⟨d - 1, by omega⟩
  exact fn_ok (c := codeOf Try.f24) Try.func24 (by kernel_rfl) (rec := stack_Stack_Setv1.calls stack_Stack_hasv1 stack_Stack_writev1) (fun g a h k hx => by
    rcases stack_Stack_hasv1.look d (by omega) hx with hx | hx
    rotate_left
    · exact hx
    rcases stack_Stack_writev1.look d (by omega) hx with hx | hx
    rotate_left
    · exact hx
    cases hx) (loopf := stack_Stack_Setv1.loops) (by
    have e : loopsOf (stack_Stack_Setv1.loops) 0 (codeOf Try.f24) = [] := by kernel_rfl
    rw [e]
    intro p hp
    cases hp) ((stack_Stack_Setv1.eq stack_Stack_hasv1 stack_Stack_writev1 n244 n245 n246 n247 n248 n249 n250 n251 n252 k).trans hx)
theorem stack_Stack_Setv1.look (d : Nat) (hd : 5 ≤ d) {e : Option Bool} {g : FuncId} {a : List AV} {h : Heap} {k : KR} (hx : stack_Stack_Setv1.get stack_Stack_Setv1 e g a h k = some true) : e = some true ∨ callK Try.prog ht d g a h k = some true := by
  unfold stack_Stack_Setv1.get at hx
  split at hx
  · exact .inr (stack_Stack_Setv1.ok d hd _ _ _ _ _ _ _ _ _ _ hx)
  · exact .inl hx
/-- function 49: (*sheerleg/stack.Stack).may -/
noncomputable def stack_Stack_may.body (stack_Stack_live : (Bool → Option Bool) → Option Bool) (n280 : Int) (n281 : Int) (k1 : Bool → Option Bool) : Option Bool :=
  (stack_Stack_live
  (fun b282 => (cond_ b282 (cond_ (decide (n280 ≥ (0 : Int))) (k1 (decide (n280 ≤ n281))) (k1 false)) (k1 false))))
noncomputable def stack_Stack_may (n280 : Int) (n281 : Int) (k1 : Bool → Option Bool) : Option Bool := stack_Stack_may.body stack_Stack_live n280 n281 k1
noncomputable def stack_Stack_may.get (F : Int → Int → (Bool → Option Bool) → Option Bool) (e : Option Bool) (g : FuncId) (a : List AV) (h : Heap) (k : KR) : Option Bool := match g, a, h with
  | 49, [.nilp, (.d ⟨(.int .i64), n280⟩), (.d ⟨(.int .i64), n281⟩)], [] => F n280 n281 (fun y0 => k (.d ⟨.bool, y0⟩) [])
  | _, _, _ => e
noncomputable def stack_Stack_may.calls (F0 : (Bool → Option Bool) → Option Bool) : RecF := fun g a h k => (stack_Stack_live.get F0 none g a h k)
noncomputable def stack_Stack_may.loops : LoopF := fun b => none
set_option maxRecDepth 100000 in
theorem stack_Stack_may.eq (F0 : (Bool → Option Bool) → Option Bool) (n280 : Int) (n281 : Int) (k : KR) : execL Try.prog ht 49 (callfOf (stack_Stack_may.calls F0)) (stack_Stack_may.loops) 0 (codeOf Try.f49) ⟨[.nilp, (.d ⟨(.int .i64), n280⟩), (.d ⟨(.int .i64), n281⟩)] ++ List.replicate (Try.f49.ntmps - ([.nilp, (.d ⟨(.int .i64), n280⟩), (.d ⟨(.int .i64), n281⟩)] : List AV).length) .undef, [], 2⟩ (leave Try.prog Try.f49 k) = stack_Stack_may.body F0 n280 n281 (fun y0 => k (.d ⟨.bool, y0⟩) []) := by kernel_rfl
theorem stack_Stack_may.ok (d : Nat) (hd : 2 ≤ d) (n280 : Int) (n281 : Int) (k : KR) (hx : stack_Stack_may n280 n281 (fun y0 => k (.d ⟨.bool, y0⟩) []) = some true) : callK Try.prog ht d 49 [.nilp, (.d ⟨(.int .i64), n280⟩), (.d ⟨(.int .i64), n281⟩)] [] k = some true := by
  obtain ⟨d, rfl⟩ : ∃ e, d = e + 1 := ⟨d - 1, by omega⟩
  exact fn_ok (c := codeOf Try.f49) Try.func49 (by kernel_rfl) (rec := stack_Stack_may.calls stack_Stack_live) (fun g a h k hx => by
    rcases stack_Stack_live.look d (by omega) hx with hx | hx
    rotate_left
    · exact hx
    cases hx) (loopf := stack_Stack_may.loops) (by
    have e : loopsOf (stack_Stack_may.loops) 0 (codeOf Try.f49) = [] := by kernel_rfl
    rw [e]
    intro p hp
    cases hp) ((stack_Stack_may.eq stack_Stack_live n280 n281 k).trans hx)
theorem stack_Stack_may.look (d : Nat) (hd : 2 ≤ d) {e : Option Bool} {g : FuncId} {a : List AV} {h : Heap} {k : KR} (hx : stack_Stack_may.get stack_Stack_may e g a h k = some true) : e = some true ∨ callK Try.prog ht d g a h k = some true := by
  unfold stack_Stack_may.get at hx
  split at hx
  · exact .inr (stack_Stack_may.ok d hd _ _ _ hx)
  · exact .inl hx
/-- function 25: (*sheerleg/stack.Stack).Down -/
noncomputable def stack_Stack_Down.body (stack_Stack_SP : (Int → Option Bool) → Option Bool) (stack_Stack_Seg : ((Int × Int × Int × Unit) → Option Bool) → Option Bool) (stack_Stack_may : Int → Int → (Bool → Option Bool) → Option Bool) (n277 : Int) (k1 : Bool → Option Bool) : Option Bool :=
  (stack_Stack_SP
  (fun n278 => (stack_Stack_Seg
  (fun t279 => (stack_Stack_may n277 (IntKind.wrap .i64 (n278 - t279.1))
  (fun b283 => (cond_ (! b283) (k1 false) none)))))))
noncomputable def stack_Stack_Down (n277 : Int) (k1 : Bool → Option Bool) : Option Bool := stack_Stack_Down.body stack_Stack_SP stack_Stack_Seg stack_Stack_may n277 k1
noncomputable def stack_Stack_Down.get (F : Int → (Bool → Option Bool) → Option Bool) (e : Option Bool) (g : FuncId) (a : List AV) (h : Heap) (k : KR) : Option Bool := match g, a, h with
  | 25, [.nilp, (.d ⟨(.int .i64), n277⟩)], [] => F n277 (fun y0 => k (.d ⟨.bool, y0⟩) [])
  | _, _, _ => e
noncomputable def stack_Stack_Down.calls (F0 : (Int → Option Bool) → Option Bool) (F1 : ((Int × Int × Int × Unit) → Option Bool) → Option Bool) (F2 : Int → Int → (Bool → Option Bool) → Option Bool) : RecF := fun g a h k => (stack_Stack_SP.get F0 (stack_Stack_Seg.get F1 (stack_Stack_may.get F2 none g a h k) g a h k) g a h k)
noncomputable def stack_Stack_Down.loops : LoopF := fun b => none
set_option maxRecDepth 100000 in
theorem stack_Stack_Down.eq (F0 : (Int → Option Bool) → Option Bool) (F1 : ((Int × Int × Int × Unit) → Option Bool) → Option Bool) (F2 : Int → Int → (Bool → Option Bool) → Option Bool) (n277 : Int) (k : KR) : execL Try.prog ht 25 (callfOf (stack_Stack_Down.calls F0 F1 F2)) (stack_Stack_Down.loops) 0 (codeOf Try.f25) ⟨[.nilp, (.d ⟨(.int .i64), n277⟩)] ++ List.replicate (Try.f25.ntmps - ([.nilp, (.d ⟨(.int .i64), n277⟩)] : List AV).length) .undef, [], 2⟩ (leave Try.prog Try.f25 k) = stack_Stack_Down.body F0 F1 F2 n277 (fun y0 => k (.d ⟨.bool, y0⟩) []) := by kernel_rfl
theorem stack_Stack_Down.ok (d : Nat) (hd : 3 ≤ d) (n277 : Int) (k : KR) (hx : stack_Stack_Down n277 (fun y0 => k (.d ⟨.bool, y0⟩) []) = some true) : callK Try.prog ht d 25 [.nilp, (.d ⟨(.int .i64), n277⟩)] [] k = some true := by
  obtain ⟨d, rfl⟩ : ∃ e, d = e + 1 := ⟨d - 1, by omega⟩
  exact fn_ok (c := codeOf Try.f25) Try.func25 (by kernel_rfl) (rec := stack_Stack_Down.calls stack_Stack_SP stack_Stack_Seg stack_Stack_may) (fun g a h k hx => by
    rcases stack_Stack_SP.look d (by omega) hx with hx | hx
    rotate_left
    · exact hx
    rcases stack_Stack_Seg.look d (by omega) hx with hx | hx
    rotate_left
    · exact hx
    rcases stack_Stack_may.look d (by omega) hx with hx | hx
    rotate_left
    · exact hx
    cases hx) (loopf := stack_Stack_Down.loops) (by
    have e : loopsOf (stack_Stack_Down.loops) 0 (codeOf Try.f25) = [] := by kernel_rfl
    rw [e]
    intro p hp
    cases hp) ((stack_Stack_Down.eq stack_Stack_SP stack_Stack_Seg stack_Stack_may n277 k).trans hx)
theorem stack_Stack_Down.look (d : Nat) (hd : 3 ≤ d) {e : Option Bool} {g : FuncId} {a : List AV} {h : Heap} {k : KR} (hx : stack_Stack_Down.get stack_Stack_Down e g a h k = some true) : e = some true ∨ callK Try.prog ht d g a h k = some true := by
  unfold stack_Stack_Down.get at hx
  split at hx
  · exact .inr (stack_Stack_Down.ok d hd _ _ hx)
  · exact .inl hx
/-- function 49: (*sheerleg/stack.Stack).may -/
noncomputable def stack_Stack_mayv1.body (stack_Stack_livev1 : Int → Int → Int → Int → Int → Int → Int → (Bool → Int → Int → Int → Int → Int → Int → Int → Option Bool) → Option Bool) (n309 : Int) (n310 : Int) (n311 : Int) (n312 : Int) (n313 : Int) (n314 : Int) (n315 : Int) (n316 : Int) (n317 : Int) (k1 : Bool → Int → Int → Int → Int → Int → Int → Int → Option Bool) : Option Bool :=
  (stack_Stack_livev1 n311 n312 n313 n314 n315 n316 n317
  (fun b318 n319 n320 n321 n322 n323 n324 n325 => (cond_ b318 (cond_ (decide (n309 ≥ (0 : Int))) (k1 (decide (n309 ≤ n310)) n319 n320 n321 n322 n323 n324 n325) (k1 false n319 n320 n321 n322 n323 n324 n325)) (k1 false n319 n320 n321 n322 n323 n324 n325))))
noncomputable def stack_Stack_mayv1 (n309 : Int) (n310 : Int) (n311 : Int) (n312 : Int) (n313 : Int) (n314 : Int) (n315 : Int) (n316 : Int) (n317 : Int) (k1 : Bool → Int → Int → Int → Int → Int → Int → Int → Option Bool) : Option Bool := stack_Stack_mayv1.body stack_Stack_livev1 n309 n310 n311 n312 n313 n314 n315 n316 n317 k1
noncomputable def stack_Stack_mayv1.get (F : Int → Int → Int → Int → Int → Int → Int → Int → Int → (Bool → Int → Int → Int → Int → Int → Int → Int → Option Bool) → Option Bool) (e : Option Bool) (g : FuncId) (a : List AV) (h : Heap) (k : KR) : Option Bool := match g, a, h with
  | 49, [(.ptr [0, 0] 0 0), (.d ⟨(.int .i64), n309⟩), (.d ⟨(.int .i64), n310⟩)], [([0, 0], ⟨53, 8, (.mix [(.agg [.nilp, (.d ⟨(.int .i64), n311⟩), (.d ⟨(.int .i64), n312⟩), (.d ⟨(.int .i64), n313⟩), (.d ⟨(.int .i64), n314⟩), (.d ⟨(.int .i64), n315⟩), (.d ⟨(.int .i64), n316⟩), (.d ⟨(.int .i64), n317⟩)])])⟩)] => F n309 n310 n311 n312 n313 n314 n315 n316 n317 (fun y0 y1 y2 y3 y4 y5 y6 y7 => k (.d ⟨.bool, y0⟩) [([0, 0], ⟨53, 8, (.mix [(.agg [.nilp, (.d ⟨(.int .i64), y1⟩), (.d ⟨(.int .i64), y2⟩), (.d ⟨(.int .i64), y3⟩), (.d ⟨(.int .i64), y4⟩), (.d ⟨(.int .i64), y5⟩), (.d ⟨(.int .i64), y6⟩), (.d ⟨(.int .i64), y7⟩)])])⟩)])
  | _, _, _ => e
noncomputable def stack_Stack_mayv1.calls (F0 : Int → Int → Int → Int → Int → Int → Int → (Bool → Int → Int → Int → Int → Int → Int → Int → Option Bool) → Option Bool) : RecF := fun g a h k => (stack_Stack_livev1.get F0 none g a h k)
noncomputable def stack_Stack_mayv1.loops : LoopF := fun b => none
set_option maxRecDepth 100000 in
theorem stack_Stack_mayv1.eq (F0 : Int → Int → Int → Int → Int → Int → Int → (Bool → Int → Int → Int → Int → Int → Int → Int → Option Bool) → Option Bool) (n309 : Int) (n310 : Int) (n311 : Int) (n312 : Int) (n313 : Int) (n314 : Int) (n315 : Int) (n316 : Int) (n317 : Int) (k : KR) : execL Try.prog ht 49 (callfOf (stack_Stack_mayv1.calls F0)) (stack_Stack_mayv1.loops) 0 (codeOf Try.f49) ⟨[(.ptr [0, 0] 0 0), (.d ⟨(.int .i64), n309⟩), (.d ⟨(.int .i64), n310⟩)] ++ List.replicate (Try.f49.ntmps - ([(.ptr [0, 0] 0 0), (.d ⟨(.int .i64), n309⟩), (.d ⟨(.int .i64), n310⟩)] : List AV).length) .undef, [([0, 0], ⟨53, 8, (.mix [(.agg [.nilp, (.d ⟨(.int .i64), n311⟩), (.d ⟨(.int .i64), n312⟩), (.d ⟨(.int .i64), n313⟩), (.d ⟨(.int .i64), n314⟩), (.d ⟨(.int .i64), n315⟩), (.d ⟨(.int .i64), n316⟩), (.d ⟨(.int .i64), n317⟩)])])⟩)], 2⟩ (leave Try.prog Try.f49 k) = stack_Stack_mayv1.body F0 n309 n310 n311 n312 n313 n314 n315 n316 n317 (fun y0 y1 y2 y3 y4 y5 y6 y7 => k (.d ⟨.bool, y0⟩) [([0, 0], ⟨53, 8, (.mix [(.agg [.nilp, (.d ⟨(.int .i64), y1⟩), (.d ⟨(.int .i64), y2⟩), (.d ⟨(.int .i64), y3⟩), (.d ⟨(.int .i64), y4⟩), (.d ⟨(.int .i64), y5⟩), (.d ⟨(.int .i64), y6⟩), (.d ⟨(.int .i64), y7⟩)])])⟩)]) := by kernel_rfl
theorem stack_Stack_mayv1.ok (d : Nat) (hd : 2 ≤ d) (n309 : Int) (n310 : Int) (n311 : Int) (n312 : Int) (n313 : Int) (n314 : Int) (n315 : Int) (n316 : Int) (n317 : Int) (k : KR) (hx : stack_Stack_mayv1 n309 n310 n311 n312 n313 n314 n315 n316 n317 (fun y0 y1 y2 y3 y4 y5 y6 y7 => k (.d ⟨.bool, y0⟩) [([0, 0], ⟨53, 8, (.mix [(.agg [.nilp, (.d ⟨(.int .i64), y1⟩), (.d ⟨(.int .i64), y2⟩), (.d ⟨(.int .i64), y3⟩), (.d ⟨(.int .i64), y4⟩), (.d ⟨(.int .i64), y5⟩), (.d ⟨(.int .i64), y6⟩), (.d ⟨(.int .i64), y7⟩)])])⟩)]) = some true) : callK Try.prog ht d 49 [(.ptr [0, 0] 0 0), (.d ⟨(.int .i64), n309⟩), (.d ⟨(.int .i64), n310⟩)] [([0, 0], ⟨53, 8, (.mix [(.agg [.nilp, (.d ⟨(.int .i64), n311⟩), (.d ⟨(.int .i64), n312⟩), (.d ⟨(.int .i64), n313⟩), (.d ⟨(.int .i64), n314⟩), (.d ⟨(.int .i64), n315⟩), (.d ⟨(.int .i64), n316⟩), (.d ⟨(.int .i64), n317⟩)])])⟩)] k = some true := by
  obtain ⟨d, rfl⟩ : ∃ e, d = e + 1 := ⟨d - 1, by omega⟩
  exact fn_ok (c := codeOf Try.f49) Try.func49 (by kernel_rfl) (rec := stack_Stack_mayv1.calls stack_Stack_livev1) (fun g a h k hx => by
    rcases stack_Stack_livev1.look d (by omega) hx with hx | hx
    rotate_left
    · exact hx
    cases hx) (loopf := stack_Stack_mayv1.loops) (by
    have e : loopsOf (stack_Stack_mayv1.loops) 0 (codeOf Try.f49) = [] := by kernel_rfl
    rw [e]
    intro p hp
    cases hp) ((stack_Stack_mayv1.eq stack_Stack_livev1 n309 n310 n311 n312 n313 n314 n315 n316 n317 k).trans hx)
theorem stack_Stack_mayv1.look (d : Nat) (hd : 2 ≤ d) {e : Option Bool} {g : FuncId} {a : List AV} {h : Heap} {k : KR} (hx : stack_Stack_mayv1.get stack_Stack_mayv1 e g a h k = some true) : e = some true ∨ callK Try.prog ht d g a h k = some true := by
  unfold stack_Stack_mayv1.get at hx
  split at hx
  · exact .inr (stack_Stack_mayv1.ok d hd _ _ _ _ _ _ _ _ _ _ hx)
  · exact .inl hx
/-- function 25: (*sheerleg/stack.Stack).Down -/
noncomputable def stack_Stack_Downv1.body (stack_Stack_SPv1 : Int → Int → Int → Int → Int → Int → Int → (Int → Int → Int → Int → Int → Int → Int → Int → Option Bool) → Option Bool) (stack_Stack_Segv1 : Int → Int → Int → Int → Int → Int → Int → ((Int × Int × Int × Unit) → Int → Int → Int → Int → Int → Int → Int → Option Bool) → Option Bool) (stack_Stack_mayv1 : Int → Int → Int → Int → Int → Int → Int → Int → Int → (Bool → Int → Int → Int → Int → Int → Int → Int → Option Bool) → Option Bool) (n285 : Int) (n286 : Int) (n287 : Int) (n288 : Int) (n289 : Int) (n290 : Int) (n291 : Int) (n292 : Int) (k1 : Bool → Int → Int → Int → Int → Int → Int → Int → Option Bool) : Option Bool :=
  (stack_Stack_SPv1 n286 n287 n288 n289 n290 n291 n292
  (fun n293 n294 n295 n296 n297 n298 n299 n300 => (stack_Stack_Segv1 n294 n295 n296 n297 n298 n299 n300
  (fun t301 n302 n303 n304 n305 n306 n307 n308 => (stack_Stack_mayv1 n285 (IntKind.wrap .i64 (n293 - t301.1)) n302 n303 n304 n305 n306 n307 n308
  (fun b326 n327 n328 n329 n330 n331 n332 n333 => (cond_ (! b326) (k1 false n327 n328 n329 n330 n331 n332 n333) (k1 true n327 n328 n329 (IntKind.wrap .i64 (n330 - n285)) n331 n332 n333))))))))
noncomputable def stack_Stack_Downv1 (n285 : Int) (n286 : Int) (n287 : Int) (n288 : Int) (n289 : Int) (n290 : Int) (n291 : Int) (n292 : Int) (k1 : Bool → Int → Int → Int → Int → Int → Int → Int → Option Bool) : Option Bool := stack_Stack_Downv1.body stack_Stack_SPv1 stack_Stack_Segv1 stack_Stack_mayv1 n285 n286 n287 n288 n289 n290 n291 n292 k1
noncomputable def stack_Stack_Downv1.get (F : Int → Int → Int → Int → Int → Int → Int → Int → (Bool → Int → Int → Int → Int → Int → Int → Int → Option Bool) → Option Bool) (e : Option Bool) (g : FuncId) (a : List AV) (h : Heap) (k : KR) : Option Bool := match g, a, h with
  | 25, [(.ptr [0, 0] 0 0), (.d ⟨(.int .i64), n285⟩)], [([0, 0], ⟨53, 8, (.mix [(.agg [.nilp, (.d ⟨(.int .i64), n286⟩), (.d ⟨(.int .i64), n287⟩), (.d ⟨(.int .i64), n288⟩), (.d ⟨(.int .i64), n289⟩), (.d ⟨(.int .i64), n290⟩), (.d ⟨(.int .i64), n291⟩), (.d ⟨(.int .i64), n292⟩)])])⟩)] => F n285 n286 n287 n288 n289 n290 n291 n292 (fun y0 y1 y2 y3 y4 y5 y6 y7 => k (.d ⟨.bool, y0⟩) [([0, 0], ⟨53, 8, (.mix [(.agg [.nilp, (.d ⟨(.int .i64), y1⟩), (.d ⟨(.int .i64), y2⟩), (.d ⟨(.int .i64), y3⟩), (.d ⟨(.int .i64), y4⟩), (.d ⟨(.int .i64), y5⟩), (.d ⟨(.int .i64), y6⟩), (.d ⟨(.int .i64), y7⟩)])])⟩)])
  | _, _, _ => e
noncomputable def stack_Stack_Downv1.calls (F0 : Int → Int → Int → Int → Int → Int → Int → (Int → Int → Int → Int → Int → Int → Int → Int → Option Bool) → Option Bool) (F1 : Int → Int → Int → Int → Int → Int → Int → ((Int × Int × Int × Unit) → Int → Int → Int → Int → Int → Int → Int → Option Bool) → Option Bool) (F2 : Int → Int → Int → Int → Int → Int → Int → Int → Int → (Bool → Int → Int → Int → Int → Int → Int → Int → Option Bool) → Option Bool) : RecF := fun g a h k => (stack_Stack_SPv1.get F0 (stack_Stack_Segv1.get F1 (stack_Stack_mayv1.get F2 none g a h k) g a h k) g a h k)
noncomputable def stack_Stack_Downv1.loops : LoopF := fun b => none
set_option maxRecDepth 100000 in
theorem stack_Stack_Downv1.eq (F0 : Int → Int → Int → Int → Int → Int → Int → (Int → Int → Int → Int → Int → Int → Int → Int → Option Bool) → Option Bool) (F1 : Int → Int → Int → Int → Int → Int → Int → ((Int × Int × Int × Unit) → Int → Int → Int → Int → Int → Int → Int → Option Bool) → Option Bool) (F2 : Int → Int → Int → Int → Int → Int → Int → Int → Int → (Bool → Int → Int → Int → Int → Int → Int → Int → Option Bool) → Option Bool) (n285 : Int) (n286 : Int) (n287 : Int) (n288 : Int) (n289 : Int) (n290 : Int) (n291 : Int) (n292 : Int) (k : KR) : execL Try.prog ht 25 (callfOf (stack_Stack_Downv1.calls F0 F1 F2)) (stack_Stack_Downv1.loops) 0 (codeOf Try.f25) ⟨[(.ptr [0, 0] 0 0), (.d ⟨(.int .i64), n285⟩)] ++ List.replicate (Try.f25.ntmps - ([(.ptr [0, 0] 0 0), (.d ⟨(.int .i64), n285⟩)] : List AV).length) .undef, [([0, 0], ⟨53, 8, (.mix [(.agg [.nilp, (.d ⟨(.int .i64), n286⟩), (.d ⟨(.int .i64), n287⟩), (.d ⟨(.int .i64), n288⟩), (.d ⟨(.int .i64), n289⟩), (.d ⟨(.int .i64), n290⟩), (.d ⟨(.int .i64), n291⟩), (.d ⟨(.int .i64), n292⟩)])])⟩)], 2⟩ (leave Try.prog Try.f25 k) = stack_Stack_Downv1.body F0 F1 F2 n285 n286 n287 n288 n289 n290 n291 n292 (fun y0 y1 y2 y3 y4 y5 y6 y7 => k (.d ⟨.bool, y0⟩) [([0, 0], ⟨53, 8, (.mix [(.agg [.nilp, (.d ⟨(.int .i64), y1⟩), (.d ⟨(.int .i64), y2⟩), (.d ⟨(.int .i64), y3⟩), (.d ⟨(.int .i64), y4⟩), (.d ⟨(.int .i64), y5⟩), (.d ⟨(.int .i64), y6⟩), (.d ⟨(.int .i64), y7⟩)])])⟩)]) := by kernel_rfl
theorem stack_Stack_Downv1.ok (d : Nat) (hd : 3 ≤ d) (n285 : Int) (n286 : Int) (n287 : Int) (n288 : Int) (n289 : Int) (n290 : Int) (n291 : Int) (n292 : Int) (k : KR) (hx : stack_Stack_Downv1 n285 n286 n287 n288 n289 n290 n291 n292 (fun y0 y1 y2 y3 y4 y5 y6 y7 => k (.d ⟨.bool, y0⟩) [([0, 0], ⟨53, 8, (.mix [(.agg [.nilp, (.d ⟨(.int .i64), y1⟩), (.d ⟨(.int .i64), y2⟩), (.d ⟨(.int .i64), y3⟩), (.d ⟨(.int .i64), y4⟩), (.d ⟨(.int .i64), y5⟩), (.d ⟨(.int .i64), y6⟩), (.d ⟨(.int .i64), y7⟩)])])⟩)]) = some true) : callK Try.prog ht d 25 [(.ptr [0, 0] 0 0), (.d ⟨(.int .i64), n285⟩)] [([0, 0], ⟨53, 8, (.mix [(.agg [.nilp, (.d ⟨(.int .i64), n286⟩), (.d ⟨(.int .i64), n287⟩), (.d ⟨(.int .i64), n288⟩), (.d ⟨(.int .i64), n289⟩), (.d ⟨(.int .i64), n290⟩), (.d ⟨(.int .i64), n291⟩), (.d ⟨(.int .i64), n292⟩)])])⟩)] k = some true := by
  obtain ⟨d, rfl⟩ : ∃ e, d = e + 1 := ⟨d - 1, by omega⟩
  exact fn_ok (c := codeOf Try.f25) Try.func25 (by kernel_rfl) (rec := stack_Stack_Downv1.calls stack_Stack_SPv1 stack_Stack_Segv1 stack_Stack_mayv1) (fun g a h k hx => by
    rcases stack_Stack_SPv1.look d (by omega) hx with hx | hx
    rotate_left
    · exact hx
    rcases stack_Stack_Segv1.look d (by omega) hx with hx | hx
    rotate_left
    · exact hx
    rcases stack_Stack_mayv1.look d (by omega) hx with hx | hx
    rotate_left
    · exact hx
    cases hx) (loopf := stack_Stack_Downv1.loops) (by
    have e : loopsOf (stack_Stack_Downv1.loops) 0 (codeOf Try.f25) = [] := by kernel_rfl
    rw [e]
    intro p hp
    cases hp) ((stack_Stack_Downv1.eq stack_Stack_SPv1 stack_Stack_Segv1 stack_Stack_mayv1 n285 n286 n287 n288 n289 n290 n291 n292 k).trans hx)
theorem stack_Stack_Downv1.look (d : Nat) (hd : 3 ≤ d) {e : Option Bool} {g : FuncId} {a : List AV} {h : Heap} {k : KR} (hx : stack_Stack_Downv1.get stack_Stack_Downv1 e g a h k = some true) : e = some true ∨ callK Try.prog ht d g a h k = some true := by
  unfold stack_Stack_Downv1.get at hx
  split at hx
  · exact .inr (stack_Stack_Downv1.ok d hd _ _ _ _ _ _ _ _ _ hx)
  · exact .inl hx
/-- function 26: (*sheerleg/stack.Stack).Up -/
noncomputable def stack_Stack_Up.body (stack_Stack_Id : (Int → Option Bool) → Option Bool) (stack_Stack_may : Int → Int → (Bool → Option Bool) → Option Bool) (n342 : Int) (k1 : Bool → Option Bool) : Option Bool :=
  (stack_Stack_Id
  (fun n343 => (stack_Stack_may n342 n343
  (fun b344 => (cond_ (! b344) (k1 false) none)))))
noncomputable def stack_Stack_Up (n342 : Int) (k1 : Bool → Option Bool) : Option Bool := stack_Stack_Up.body stack_Stack_Id stack_Stack_may n342 k1
noncomputable def stack_Stack_Up.get (F : Int → (Bool → Option Bool) → Option Bool) (e : Option Bool) (g : FuncId) (a : List AV) (h : Heap) (k : KR) : Option Bool := match g, a, h with
  | 26, [.nilp, (.d ⟨(.int .i64), n342⟩)], [] => F n342 (fun y0 => k (.d ⟨.bool, y0⟩) [])
  | _, _, _ => e
noncomputable def stack_Stack_Up.calls (F0 : (Int → Option Bool) → Option Bool) (F1 : Int → Int → (Bool → Option Bool) → Option Bool) : RecF := fun g a h k => (stack_Stack_Id.get F0 (stack_Stack_may.get F1 none g a h k) g a h k)
noncomputable def stack_Stack_Up.loops : LoopF := fun b => none
set_option maxRecDepth 100000 in
theorem stack_Stack_Up.eq (F0 : (Int → Option Bool) → Option Bool) (F1 : Int → Int → (Bool → Option Bool) → Option Bool) (n342 : Int) (k : KR) : execL Try.prog ht 26 (callfOf (stack_Stack_Up.calls F0 F1)) (stack_Stack_Up.loops) 0 (codeOf Try.f26) ⟨[.nilp, (.d ⟨(.int .i64), n342⟩)] ++ List.replicate (Try.f26.ntmps - ([.nilp, (.d ⟨(.int .i64), n342⟩)] : List AV).length) .undef, [], 2⟩ (leave Try.prog Try.f26 k) = stack_Stack_Up.body F0 F1 n342 (fun y0 => k (.d ⟨.bool, y0⟩) []) := by kernel_rfl
theorem stack_Stack_Up.ok (d : Nat) (hd : 4 ≤ d) (n342 : Int) (k : KR) (hx : stack_Stack_Up n342 (fun y0 => k (.d ⟨.bool, y0⟩) []) = some true) : callK Try.prog ht d 26 [.nilp, (.d ⟨(.int .i64), n342⟩)] [] k = some true := by
  obtain ⟨d, rfl⟩ : ∃ e, d = e + 1 := ⟨d - 1, by omega⟩
  exact fn_ok (c := codeOf Try.f26) Try.func26 (by kernel_rfl) (rec := stack_Stack_Up.calls stack_Stack_Id stack_Stack_may) (fun g a h k hx => by
    rcases stack_Stack_Id.look d (by omega) hx with hx | hx
    rotate_left
    · exact hx
    rcases stack_Stack_may.look d (by omega) hx with hx | hx
    rotate_left
    · exact hx
    cases hx) (loopf := stack_Stack_Up.loops) (by
    have e : loopsOf (stack_Stack_Up.loops) 0 (codeOf Try.f26) = [] := by kernel_rfl
    rw [e]
    intro p hp
    cases hp) ((stack_Stack_Up.eq stack_Stack_Id stack_Stack_may n342 k).trans hx)
theorem stack_Stack_Up.look (d : Nat) (hd : 4 ≤ d) {e : Option Bool} {g : FuncId} {a : List AV} {h : Heap} {k : KR} (hx : stack_Stack_Up.get stack_Stack_Up e g a h k = some true) : e = some true ∨ callK Try.prog ht d g a h k = some true := by
  unfold stack_Stack_Up.get at hx
  split at hx
  · exact .inr (stack_Stack_Up.ok d hd _ _ hx)
  · exact .inl hx
/-- function 26: (*sheerleg/stack.Stack).Up -/
noncomputable def stack_Stack_Upv1.body (stack_Stack_Idv1 : Int → Int → Int → Int → Int → Int → Int → (Int → Int → Int → Int → Int → Int → Int → Int → Option Bool) → Option Bool) (stack_Stack_mayv1 : Int → Int → Int → Int → Int → Int → Int → Int → Int → (Bool → Int → Int → Int → Int → Int → Int → Int → Option Bool) → Option Bool) (n346 : Int) (n347 : Int) (n348 : Int) (n349 : Int) (n350 : Int) (n351 : Int) (n352 : Int) (n353 : Int) (k1 : Bool → Int → Int → Int → Int → Int → Int → Int → Option Bool) : Option Bool :=
  (stack_Stack_Idv1 n347 n348 n349 n350 n351 n352 n353
  (fun n354 n355 n356 n357 n358 n359 n360 n361 => (stack_Stack_mayv1 n346 n354 n355 n356 n357 n358 n359 n360 n361
  (fun b362 n363 n364 n365 n366 n367 n368 n369 => (cond_ (! b362) (k1 false n363 n364 n365 n366 n367 n368 n369) (k1 true n363 n364 n365 (IntKind.wrap .i64 (n366 + n346)) n367 n368 n369))))))
noncomputable def stack_Stack_Upv1 (n346 : Int) (n347 : Int) (n348 : Int) (n349 : Int) (n350 : Int) (n351 : Int) (n352 : Int) (n353 : Int) (k1 : Bool → Int → Int → Int → Int → Int → Int → Int → Option Bool) : Option Bool := stack_Stack_Upv1.body stack_Stack_Idv1 stack_Stack_mayv1 n346 n347 n348 n349 n350 n351 n352 n353 k1
noncomputable def stack_Stack_Upv1.get (F : Int → Int → Int → Int → Int → Int → Int → Int → (Bool → Int → Int → Int → Int → Int → Int → Int → Option Bool) → Option Bool) (e : Option Bool) (g : FuncId) (a : List AV) (h : Heap) (k : KR) : Option Bool := match g, a, h with
  | 26, [(.ptr [0, 0] 0 0), (.d ⟨(.int .i64), n346⟩)], [([0, 0], ⟨53, 8, (.mix [(.agg [.nilp, (.d ⟨(.int .i64), n347⟩), (.d ⟨(.int .i64), n348⟩), (.d ⟨(.int .i64), n349⟩), (.d ⟨(.int .i64), n350⟩), (.d ⟨(.int .i64), n351⟩), (.d ⟨(.int .i64), n352⟩), (.d ⟨(.int .i64), n353⟩)])])⟩)] => F n346 n347 n348 n349 n350 n351 n352 n353 (fun y0 y1 y2 y3 y4 y5 y6 y7 => k (.d ⟨.bool, y0⟩) [([0, 0], ⟨53, 8, (.mix [(.agg [.nilp, (.d ⟨(.int .i64), y1⟩), (.d ⟨(.int .i64), y2⟩), (.d ⟨(.int .i64), y3⟩), (.d ⟨(.int .i64), y4⟩), (.d ⟨(.int .i64), y5⟩), (.d ⟨(.int .i64), y6⟩), (.d ⟨(.int .i64), y7⟩)])])⟩)])
  | _, _, _ => e
noncomputable def stack_Stack_Upv1.calls (F0 : Int → Int → Int → Int → Int → Int → Int → (Int → Int → Int → Int → Int → Int → Int → Int → Option Bool) → Option Bool) (F1 : Int → Int → Int → Int → Int → Int → Int → Int → Int → (Bool → Int → Int → Int → Int → Int → Int → Int → Option Bool) → Option Bool) : RecF := fun g a h k => (stack_Stack_Idv1.get F0 (stack_Stack_mayv1.get F1 none g a h k) g a h k)
noncomputable def stack_Stack_Upv1.loops : LoopF := fun b => none
set_option maxRecDepth 100000 in
theorem stack_Stack_Upv1.eq (F0 : Int → Int → Int → Int → Int → Int → Int → (Int → Int → Int → Int → Int → Int → Int → Int → Option Bool) → Option Bool) (F1 : Int → Int → Int → Int → Int → Int → Int → Int → Int → (Bool → Int → Int → Int → Int → Int → Int → Int → Option Bool) → Option Bool) (n346 : Int) (n347 : Int) (n348 : Int) (n349 : Int) (n350 : Int) (n351 : Int) (n352 : Int) (n353 : Int) (k : KR) : execL Try.prog ht 26 (callfOf (stack_Stack_Upv1.calls F0 F1)) (stack_Stack_Upv1.loops) 0 (codeOf Try.f26) ⟨[(.ptr [0, 0] 0 0), (.d ⟨(.int .i64), n346⟩)] ++ List.replicate (Try.f26.ntmps - ([(.ptr [0, 0] 0 0), (.d ⟨(.int .i64), n346⟩)] : List AV).length) .undef, [([0, 0], ⟨53, 8, (.mix [(.agg [.nilp, (.d ⟨(.int .i64), n347⟩), (.d ⟨(.int .i64), n348⟩), (.d ⟨(.int .i64), n349⟩), (.d ⟨(.int .i64), n350⟩), (.d ⟨(.int .i64), n351⟩), (.d ⟨(.int .i64), n352⟩), (.d ⟨(.int .i64), n353⟩)])])⟩)], 2⟩ (leave Try.prog Try.f26 k) = stack_Stack_Upv1.body F0 F1 n346 n347 n348 n349 n350 n351 n352 n353 (fun y0 y1 y2 y3 y4 y5 y6 y7 => k (.d ⟨.bool, y0⟩) [([0, 0], ⟨53, 8, (.mix [(.agg [.nilp, (.d ⟨(.int .i64), y1⟩), (.d ⟨(.int .i64), y2⟩), (.d ⟨(.int .i64), y3⟩), (.d ⟨(.int .i64), y4⟩), (.d ⟨(.int .i64), y5⟩), (.d ⟨(.int .i64), y6⟩), (.d ⟨(.int .i64), y7⟩)])])⟩)]) := by kernel_rfl
theorem stack_Stack_Upv1.ok (d : Nat) (hd : 4 ≤ d) (n346 : Int) (n347 : Int) (n348 : Int) (n349 : Int) (n350 : Int) (n351 : Int) (n352 : Int) (n353 : Int) (k : KR) (hx : stack_Stack_Upv1 n346 n347 n348 n349 n350 n351 n352 n353 (fun y0 y1 y2 y3 y4 y5 y6 y7 => k (.d ⟨.bool, y0⟩) [([0, 0], ⟨53, 8, (.mix [(.agg [.nilp, (.d ⟨(.int .i64), y1⟩), (.d ⟨(.int .i64), y2⟩), (.d ⟨(.int .i64), y3⟩), (.d ⟨(.int .i64), y4⟩), (.d ⟨(.int .i64), y5⟩), (.d ⟨(.int .i64), y6⟩), (.d ⟨(.int .i64), y7⟩)])])⟩)]) = some true) : callK Try.prog ht d 26 [(.ptr [0, 0] 0 0), (.d ⟨(.int .i64), n346⟩)] [([0, 0], ⟨53, 8, (.mix [(.agg [.nilp, (.d ⟨(.int .i64), n347⟩), (.d ⟨(.int .i64), n348⟩), (.d ⟨(.int .i64), n349⟩), (.d ⟨(.int .i64), n350⟩), (.d ⟨(.int .i64), n351⟩), (.d ⟨(.int .i64), n352⟩), (.d ⟨(.int .i64), n353⟩)])])⟩)] k = some true := by
  obtain ⟨d, rfl⟩ : ∃ e, d = e + 1 := ⟨d - 1, by omega⟩
  exact fn_ok (c := codeOf Try.f26) Try.func26 (by kernel_rfl) (rec := stack_Stack_Upv1.calls stack_Stack_Idv1 stack_Stack_mayv1) (fun g a h k hx => by
    rcases stack_Stack_Idv1.look d (by omega) hx with hx | hx
    rotate_left
    · exact hx
    rcases stack_Stack_mayv1.look d (by omega) hx with hx | hx
    rotate_left
    · exact hx
    cases hx) (loopf := stack_Stack_Upv1.loops) (by
    have e : loopsOf (stack_Stack_Upv1.loops) 0 (codeOf Try.f26) = [] := by kernel_rfl
    rw [e]
    intro p hp
    cases hp) ((stack_Stack_Upv1.eq stack_Stack_Idv1 stack_Stack_mayv1 n346 n347 n348 n349 n350 n351 n352 n353 k).trans hx)
theorem stack_Stack_Upv1.look (d : Nat) (hd : 4 ≤ d) {e : Option Bool} {g : FuncId} {a : List AV} {h : Heap} {k : KR} (hx : stack_Stack_Upv1.get stack_Stack_Upv1 e g a h k = some true) : e = some true ∨ callK Try.prog ht d g a h k = some true := by
  unfold stack_Stack_Upv1.get at hx
  split at hx
  · exact .inr (stack_Stack_Upv1.ok d hd _ _ _ _ _ _ _ _ _ hx)
  · exact .inl hx
/-- function 27: (*sheerleg/stack.Stack).Spill -/
noncomputable def stack_Stack_Spill.body (stack_Stack_ahead : Int → (Bool → Option Bool) → Option Bool) (k1 : Bool → Option Bool) : Option Bool :=
  (stack_Stack_ahead (0 : Int)
  (fun b378 => (k1 b378)))
noncomputable def stack_Stack_Spill (k1 : Bool → Option Bool) : Option Bool := stack_Stack_Spill.body stack_Stack_ahead k1
noncomputable def stack_Stack_Spill.get (F : (Bool → Option Bool) → Option Bool) (e : Option Bool) (g : FuncId) (a : List AV) (h : Heap) (k : KR) : Option Bool := match g, a, h with
  | 27, [.nilp], [] => F (fun y0 => k (.d ⟨.bool, y0⟩) [])
  | _, _, _ => e
noncomputable def stack_Stack_Spill.calls (F0 : Int → (Bool → Option Bool) → Option Bool) : RecF := fun g a h k => (stack_Stack_ahead.get F0 none g a h k)
noncomputable def stack_Stack_Spill.loops : LoopF := fun b => none
set_option maxRecDepth 100000 in
theorem stack_Stack_Spill.eq (F0 : Int → (Bool → Option Bool) → Option Bool) (k : KR) : execL Try.prog ht 27 (callfOf (stack_Stack_Spill.calls F0)) (stack_Stack_Spill.loops) 0 (codeOf Try.f27) ⟨[.nilp] ++ List.replicate (Try.f27.ntmps - ([.nilp] : List AV).length) .undef, [], 2⟩ (leave Try.prog Try.f27 k) = stack_Stack_Spill.body F0 (fun y0 => k (.d ⟨.bool, y0⟩) []) := by kernel_rfl
theorem stack_Stack_Spill.ok (d : Nat) (hd : 4 ≤ d) (k : KR) (hx : stack_Stack_Spill (fun y0 => k (.d ⟨.bool, y0⟩) []) = some true) : callK Try.prog ht d 27 [.nilp] [] k = some true := by
  obtain ⟨d, rfl⟩ : ∃ e, d = e + 1 := ⟨d - 1, by omega⟩
  exact fn_ok (c := codeOf Try.f27) Try.func27 (by kernel_rfl) (rec := stack_Stack_Spill.calls stack_Stack_ahead) (fun g a h k hx => by
    rcases stack_Stack_ahead.look d (by omega) hx with hx | hx
    rotate_left
    · exact hx
    cases hx) (loopf := stack_Stack_Spill.loops) (by
    have e : loopsOf (stack_Stack_Spill.loops) 0 (codeOf Try.f27) = [] := by kernel_rfl
    rw [e]
    intro p hp
    cases hp) ((stack_Stack_Spill.eq stack_Stack_ahead k).trans hx)
theorem stack_Stack_Spill.look (d : Nat) (hd : 4 ≤ d) {e : Option Bool} {g : FuncId} {a : List AV} {h : Heap} {k : KR} (hx : stack_Stack_Spill.get stack_Stack_Spill e g a h k = some true) : e = some true ∨ callK Try.prog ht d g a h k = some true := by
  unfold stack_Stack_Spill.get at hx
  split at hx
  · exact .inr (stack_Stack_Spill.ok d hd _ hx)
  · exact .inl hx
/-- function 27: (*sheerleg/stack.Stack).Spill -/
noncomputable def stack_Stack_Spillv1.body (stack_Stack_aheadv1 : Int → Int → Int → Int → Int → Int → Int → Int → (Bool → Int → Int → Int → Int → Int → Int → Int → Option Bool) → Option Bool) (n380 : Int) (n381 : Int) (n382 : Int) (n383 : Int) (n384 : Int) (n385 : Int) (n386 : Int) (k1 : Bool → Int → Int → Int → Int → Int → Int → Int → Option Bool) : Option Bool :=
  (stack_Stack_aheadv1 (0 : Int) n380 n381 n382 n383 n384 n385 n386
  (fun b387 n388 n389 n390 n391 n392 n393 n394 => (k1 b387 n388 n389 n390 n391 n392 n393 n394)))
noncomputable def stack_Stack_Spillv1 (n380 : Int) (n381 : Int) (n382 : Int) (n383 : Int) (n384 : Int) (n385 : Int) (n386 : Int) (k1 : Bool → Int → Int → Int → Int → Int → Int → Int → Option Bool) : Option Bool := stack_Stack_Spillv1.body stack_Stack_aheadv1 n380 n381 n382 n383 n384 n385 n386 k1
noncomputable def stack_Stack_Spillv1.get (F : Int → Int → Int → Int → Int → Int → Int → (Bool → Int → Int → Int → Int → Int → Int → Int → Option Bool) → Option Bool) (e : Option Bool) (g : FuncId) (a : List AV) (h : Heap) (k : KR) : Option Bool := match g, a, h with
  | 27, [(.ptr [0, 0] 0 0)], [([0, 0], ⟨53, 8, (.mix [(.agg [.nilp, (.d ⟨(.int .i64), n380⟩), (.d ⟨(.int .i64), n381⟩), (.d ⟨(.int .i64), n382⟩), (.d ⟨(.int .i64), n383⟩), (.d ⟨(.int .i64), n384⟩), (.d ⟨(.int .i64), n385⟩), (.d ⟨(.int .i64), n386⟩)])])⟩)] => F n380 n381 n382 n383 n384 n385 n386 (fun y0 y1 y2 y3 y4 y5 y6 y7 => k (.d ⟨.bool, y0⟩) [([0, 0], ⟨53, 8, (.mix [(.agg [.nilp, (.d ⟨(.int .i64), y1⟩), (.d ⟨(.int .i64), y2⟩), (.d ⟨(.int .i64), y3⟩), (.d ⟨(.int .i64), y4⟩), (.d ⟨(.int .i64), y5⟩), (.d ⟨(.int .i64), y6⟩), (.d ⟨(.int .i64), y7⟩)])])⟩)])
  | _, _, _ => e
noncomputable def stack_Stack_Spillv1.calls (F0 : Int → Int → Int → Int → Int → Int → Int → Int → (Bool → Int → Int → Int → Int → Int → Int → Int → Option Bool) → Option Bool) : RecF := fun g a h k => (stack_Stack_aheadv1.get F0 none g a h k)
noncomputable def stack_Stack_Spillv1.loops : LoopF := fun b => none
set_option maxRecDepth 100000 in
theorem stack_Stack_Spillv1.eq (F0 : Int → Int → Int → Int → Int → Int → Int → Int → (Bool → Int → Int → Int → Int → Int → Int → Int → Option Bool) → Option Bool) (n380 : Int) (n381 : Int) (n382 : Int) (n383 : Int) (n384 : Int) (n385 : Int) (n386 : Int) (k : KR) : execL Try.prog ht 27 (callfOf (stack_Stack_Spillv1.calls F0)) (stack_Stack_Spillv1.loops) 0 (codeOf Try.f27) ⟨[(.ptr [0, 0] 0 0)] ++ List.replicate (Try.f27.ntmps - ([(.ptr [0, 0] 0 0)] : List AV).length) .undef, [([0, 0], ⟨53, 8, (.mix [(.agg [.nilp, (.d ⟨(.int .i64), n380⟩), (.d ⟨(.int .i64), n381⟩), (.d ⟨(.int .i64), n382⟩), (.d ⟨(.int .i64), n383⟩), (.d ⟨(.int .i64), n384⟩), (.d ⟨(.int .i64), n385⟩), (.d ⟨(.int .i64), n386⟩)])])⟩)], 2⟩ (leave Try.prog Try.f27 k) = stack_Stack_Spillv1.body F0 n380 n381 n382 n383 n384 n385 n386 (fun y0 y1 y2 y3 y4 y5 y6 y7 => k (.d ⟨.bool, y0⟩) [([0, 0], ⟨53, 8, (.mix [(.agg [.nilp, (.d ⟨(.int .i64), y1⟩), (.d ⟨(.int .i64), y2⟩), (.d ⟨(.int .i64), y3⟩), (.d ⟨(.int .i64), y4⟩), (.d ⟨(.int .i64), y5⟩), (.d ⟨(.int .i64), y6⟩), (.d ⟨(.int .i64), y7⟩)])])⟩)]) := by kernel_rfl
theorem stack_Stack_Spillv1.ok (d : Nat) (hd : 6 ≤ d) (n380 : Int) (n381 : Int) (n382 : Int) (n383 : Int) (n384 : Int) (n385 : Int) (n386 : Int) (k : KR) (hx : stack_Stack_Spillv1 n380 n381 n382 n383 n384 n385 n386 (fun y0 y1 y2 y3 y4 y5 y6 y7 => k (.d ⟨.bool, y0⟩) [([0, 0], ⟨53, 8, (.mix [(.agg [.nilp, (.d ⟨(.int .i64), y1⟩), (.d ⟨(.int .i64), y2⟩), (.d ⟨(.int .i64), y3⟩), (.d ⟨(.int .i64), y4⟩), (.d ⟨(.int .i64), y5⟩), (.d ⟨(.int .i64), y6⟩), (.d ⟨(.int .i64), y7⟩)])])⟩)]) = some true) : callK Try.prog ht d 27 [(.ptr [0, 0] 0 0)] [([0, 0], ⟨53, 8, (.mix [(.agg [.nilp, (.d ⟨(.int .i64), n380⟩), (.d ⟨(.int .i64), n381⟩), (.d ⟨(.int .i64), n382⟩), (.d ⟨(.int .i64), n383⟩), (.d ⟨(.int .i64), n384⟩), (.d ⟨(.int .i64), n385⟩), (.d ⟨(.int .i64), n386⟩)])])⟩)] k = some true := by
  obtain ⟨d, rfl⟩ : ∃ e, d = e + 1 := ⟨d - 1, by omega⟩
  exact fn_ok (c := codeOf Try.f27) Try.func27 (by kernel_rfl) (rec := stack_Stack_Spillv1.calls stack_Stack_aheadv1) (fun g a h k hx => by
    rcases stack_Stack_aheadv1.look d (by omega) hx with hx | hx
    rotate_left
    · exact hx
    cases hx) (loopf := stack_Stack_Spillv1.loops) (by
    have e : loopsOf (stack_Stack_Spillv1.loops) 0 (codeOf Try.f27) = [] := by kernel_rfl
    rw [e]
    intro p hp
    cases hp) ((stack_Stack_Spillv1.eq stack_Stack_aheadv1 n380 n381 n382 n383 n384 n385 n386 k).trans hx)
theorem stack_Stack_Spillv1.look (d : Nat) (hd : 6 ≤ d) {e : Option Bool} {g : FuncId} {a : List AV} {h : Heap} {k : KR} (hx : stack_Stack_Spillv1.get stack_Stack_Spillv1 e g a h k = some true) : e = some true ∨ callK Try.prog ht d g a h k = some true := by
  unfold stack_Stack_Spillv1.get at hx
  split at hx
  · exact .inr (stack_Stack_Spillv1.ok d hd _ _ _ _ _ _ _ _ hx)
  · exact .inl hx
/-- function 11: (*sheerleg/stack.Stack).Grow -/
noncomputable def stack_Stack_Grow.body (stack_Stack_live : (Bool → Option Bool) → Option Bool) (stack_Stack_Id : (Int → Option Bool) → Option Bool) (n403 : Int) (k1 : Bool → Option Bool) : Option Bool :=
  (stack_Stack_live
  (fun b404 => (cond_ (! (! b404)) (cond_ (decide (n403 > (1048576 : Int))) (k1 false) (stack_Stack_Id
  (fun n405 => none))) (k1 false))))
noncomputable def stack_Stack_Grow (n403 : Int) (k1 : Bool → Option Bool) : Option Bool := stack_Stack_Grow.body stack_Stack_live stack_Stack_Id n403 k1
noncomputable def stack_Stack_Grow.get (F : Int → (Bool → Option Bool) → Option Bool) (e : Option Bool) (g : FuncId) (a : List AV) (h : Heap) (k : KR) : Option Bool := match g, a, h with
  | 11, [.nilp, (.d ⟨(.int .i64), n403⟩)], [] => F n403 (fun y0 => k (.d ⟨.bool, y0⟩) [])
  | _, _, _ => e
noncomputable def stack_Stack_Grow.calls (F0 : (Bool → Option Bool) → Option Bool) (F1 : (Int → Option Bool) → Option Bool) : RecF := fun g a h k => (stack_Stack_live.get F0 (stack_Stack_Id.get F1 none g a h k) g a h k)
noncomputable def stack_Stack_Grow.loops : LoopF := fun b => none
set_option maxRecDepth 100000 in
theorem stack_Stack_Grow.eq (F0 : (Bool → Option Bool) → Option Bool) (F1 : (Int → Option Bool) → Option Bool) (n403 : Int) (k : KR) : execL Try.prog ht 11 (callfOf (stack_Stack_Grow.calls F0 F1)) (stack_Stack_Grow.loops) 0 (codeOf Try.f11) ⟨[.nilp, (.d ⟨(.int .i64), n403⟩)] ++ List.replicate (Try.f11.ntmps - ([.nilp, (.d ⟨(.int .i64), n403⟩)] : List AV).length) .undef, [], 2⟩ (leave Try.prog Try.f11 k) = stack_Stack_Grow.body F0 F1 n403 (fun y0 => k (.d ⟨.bool, y0⟩) []) := by kernel_rfl
theorem stack_Stack_Grow.ok (d : Nat) (hd : 4 ≤ d) (n403 : Int) (k : KR) (hx : stack_Stack_Grow n403 (fun y0 => k (.d ⟨.bool, y0⟩) []) = some true) : callK Try.prog ht d 11 [.nilp, (.d ⟨(.int .i64), n403⟩)] [] k = some true := by
  obtain ⟨d, rfl⟩ : ∃ e, d = e + 1 := ⟨d - 1, by omega⟩
  exact fn_ok (c := codeOf Try.f11) Try.func11 (by kernel_rfl) (rec := stack_Stack_Grow.calls stack_Stack_live stack_Stack_Id) (fun g a h k hx => by
    rcases stack_Stack_live.look d (by omega) hx with hx | hx
    rotate_left
    · exact hx
    rcases stack_Stack_Id.look d (by omega) hx with hx | hx
    rotate_left
    · exact hx
    cases hx) (loopf := stack_Stack_Grow.loops) (by
    have e : loopsOf (stack_Stack_Grow.loops) 0 (codeOf Try.f11) = [] := by kernel_rfl
    rw [e]
    intro p hp
    cases hp) ((stack_Stack_Grow.eq stack_Stack_live stack_Stack_Id n403 k).trans hx)
theorem stack_Stack_Grow.look (d : Nat) (hd : 4 ≤ d) {e : Option Bool} {g : FuncId} {a : List AV} {h : Heap} {k : KR} (hx : stack_Stack_Grow.get stack_Stack_Grow e g a h k = some true) : e = some true ∨ callK Try.prog ht d g a h k = some true := by
  unfold stack_Stack_Grow.get at hx
  split at hx
  · exact .inr (stack_Stack_Grow.ok d hd _ _ hx)
  · exact .inl hx
/-- function 35: the loop in block 0 -/
noncomputable def num_Double_L0.body (num_Double_L0 : Int → Int → Int → (Int → Bool → Option Bool) → (Option Bool) → Option Bool) (n434 : Int) (n435 : Int) (n436 : Int) (k1 : Int → Bool → Option Bool) (k2 : Option Bool) : Option Bool :=
  (cond_ (decide (n434 ≤ n436)) (cond_ (decide (n434 ≥ n435)) (k1 n434 true) (cond_ (decide (n434 > (IntKind.wrap .i64 (n436 - n434)))) (k2) (num_Double_L0 (IntKind.wrap .i64 (n434 + n434)) n435 n436 k1 k2))) (k2))
noncomputable def num_Double_L0 : Nat → Int → Int → Int → (Int → Bool → Option Bool) → (Option Bool) → Option Bool
  | 0 => fun _ _ _ _ _ => none
  | n + 1 => num_Double_L0.body (num_Double_L0 n)
noncomputable def num_Double_L0.get (F : Int → Int → Int → (Int → Bool → Option Bool) → (Option Bool) → Option Bool) (e : Option Bool) (st : St) (k : KE) : Option Bool := match st with
  | ⟨sl, hp, m⟩ => match Nat.beq m 2, pickS 25 [0, 1, 2] sl, hp with
    | true, some [(.d ⟨(.int .i64), n434⟩), (.d ⟨(.int .i64), n435⟩), (.d ⟨(.int .i64), n436⟩)], [] => F n434 n435 n436 (fun y0 y1 => k .ret ⟨fillS 25 [6, 7] [(.d ⟨(.int .i64), y0⟩), (.d ⟨.bool, y1⟩)], [], 2⟩) (k (.exit 0) ⟨fillS 25 [] [], [], 2⟩)
    | _, _, _ => e
noncomputable def num_Double_L0.calls : RecF := fun g a h k => none
noncomputable def num_Double_L0.loops : LoopF := fun b => none
set_option maxRecDepth 100000 in
theorem num_Double_L0.step (S : Int → Int → Int → (Int → Bool → Option Bool) → (Option Bool) → Option Bool) (n434 : Int) (n435 : Int) (n436 : Int) (k : KE) : execL Try.prog ht 35 (callfOf (num_Double_L0.calls)) (num_Double_L0.loops) 0 (loopAt 0 (codeOf Try.f35)) ⟨fillS 25 [0, 1, 2] [(.d ⟨(.int .i64), n434⟩), (.d ⟨(.int .i64), n435⟩), (.d ⟨(.int .i64), n436⟩)], [], 2⟩ (again (num_Double_L0.get S none) (plan Try.prog (ht 35 0)) k) = num_Double_L0.body S n434 n435 n436 (fun y0 y1 => k .ret ⟨fillS 25 [6, 7] [(.d ⟨(.int .i64), y0⟩), (.d ⟨.bool, y1⟩)], [], 2⟩) (k (.exit 0) ⟨fillS 25 [] [], [], 2⟩) := by kernel_rfl
theorem num_Double_L0.ok (d : Nat) (hd : 0 ≤ d) : ∀ n st k, num_Double_L0.get (num_Double_L0 n) none st k = some true → iter n (plan Try.prog (ht 35 0)) (fun st k => execK Try.prog ht 35 (callfOf (callK Try.prog ht d)) 0 (loopAt 0 (codeOf Try.f35)) st k) st k = some true :=
  loop_ok (lfn := fun n st k => num_Double_L0.get (num_Double_L0 n) none st k) (rec := num_Double_L0.calls) (fun g a h k hx => by
    cases hx) (loopf := num_Double_L0.loops) (by
    have e : loopsOf (num_Double_L0.loops) 0 (loopAt 0 (codeOf Try.f35)) = [] := by kernel_rfl
    rw [e]
    intro p hp
    cases hp) (fun st k h => by
    obtain ⟨sl, hp, m⟩ := st
    unfold num_Double_L0.get at h
    dsimp only at h
    split at h
    · have h' : (none : Option Bool) = some true := h
      cases h'
    · cases h) (fun n st k h => by
    obtain ⟨sl, hp, m⟩ := st
    unfold num_Double_L0.get at h
    dsimp only at h
    split at h
    · rename_i h1 h2
      obtain rfl := pickS_ok h2
      obtain rfl := Nat.eq_of_beq_eq_true h1
      exact (num_Double_L0.step (num_Double_L0 n) _ _ _ k).trans h
    · cases h)
theorem num_Double_L0.look {F : Int → Int → Int → (Int → Bool → Option Bool) → (Option Bool) → Option Bool} {e : Option Bool} {st : St} {k : KE} (hx : num_Double_L0.get F e st k = some true) : e = some true ∨ num_Double_L0.get F none st k = some true := by
  obtain ⟨sl, hp, m⟩ := st
  unfold num_Double_L0.get at hx ⊢
  dsimp only at hx ⊢
  split at hx
  · exact .inr hx
  · exact .inl hx
/-- function 35: sheerleg/num.Double -/
noncomputable def num_Double.body (num_Double_L0 : Int → Int → Int → (Int → Bool → Option Bool) → (Option Bool) → Option Bool) (n431 : Int) (n432 : Int) (n433 : Int) (k1 : Int → Bool → Option Bool) : Option Bool :=
  (cond_ (decide (n431 < (1 : Int))) (k1 (0 : Int) false) (num_Double_L0 n431 n432 n433
  (fun n437 b438 => (k1 n437 b438))
  (k1 (0 : Int) false)))
noncomputable def num_Double (n431 : Int) (n432 : Int) (n433 : Int) (k1 : Int → Bool → Option Bool) : Option Bool := num_Double.body (num_Double_L0 ROUNDS) n431 n432 n433 k1
noncomputable def num_Double.get (F : Int → Int → Int → (Int → Bool → Option Bool) → Option Bool) (e : Option Bool) (g : FuncId) (a : List AV) (h : Heap) (k : KR) : Option Bool := match g, a, h with
  | 35, [(.d ⟨(.int .i64), n431⟩), (.d ⟨(.int .i64), n432⟩), (.d ⟨(.int .i64), n433⟩)], [] => F n431 n432 n433 (fun y0 y1 => k (.tup [(.d ⟨(.int .i64), y0⟩), (.d ⟨.bool, y1⟩)]) [])
  | _, _, _ => e
noncomputable def num_Double.calls : RecF := fun g a h k => none
noncomputable def num_Double.loops (L0 : Int → Int → Int → (Int → Bool → Option Bool) → (Option Bool) → Option Bool) : LoopF := fun b => match Nat.beq b 0 with | true => some (fun st k => (num_Double_L0.get L0 none st k)) | false => none
set_option maxRecDepth 100000 in
theorem num_Double.eq (L0 : Int → Int → Int → (Int → Bool → Option Bool) → (Option Bool) → Option Bool) (n431 : Int) (n432 : Int) (n433 : Int) (k : KR) : execL Try.prog ht 35 (callfOf (num_Double.calls)) (num_Double.loops L0) 0 (codeOf Try.f35) ⟨[(.d ⟨(.int .i64), n431⟩), (.d ⟨(.int .i64), n432⟩), (.d ⟨(.int .i64), n433⟩)] ++ List.replicate (Try.f35.ntmps - ([(.d ⟨(.int .i64), n431⟩), (.d ⟨(.int .i64), n432⟩), (.d ⟨(.int .i64), n433⟩)] : List AV).length) .undef, [], 2⟩ (leave Try.prog Try.f35 k) = num_Double.body L0 n431 n432 n433 (fun y0 y1 => k (.tup [(.d ⟨(.int .i64), y0⟩), (.d ⟨.bool, y1⟩)]) []) := by kernel_rfl
theorem num_Double.ok (d : Nat) (hd : 1 ≤ d) (n431 : Int) (n432 : Int) (n433 : Int) (k : KR) (hx : num_Double n431 n432 n433 (fun y0 y1 => k (.tup [(.d ⟨(.int .i64), y0⟩), (.d ⟨.bool, y1⟩)]) []) = some true) : callK Try.prog ht d 35 [(.d ⟨(.int .i64), n431⟩), (.d ⟨(.int .i64), n432⟩), (.d ⟨(.int .i64), n433⟩)] [] k = some true := by
  obtain ⟨d, rfl⟩ : ∃ e, d = e + 1 := ⟨d - 1, by omega⟩
  exact fn_ok (c := codeOf Try.f35) Try.func35 (by kernel_rfl) (rec := num_Double.calls) (fun g a h k hx => by
    cases hx) (loopf := num_Double.loops (num_Double_L0 ROUNDS)) (by
    have e : loopsOf (num_Double.loops (num_Double_L0 ROUNDS)) 0 (codeOf Try.f35) = [(0, loopAt 0 (codeOf Try.f35))] := by kernel_rfl
    rw [e]
    intro p hp
    simp only [List.mem_cons, List.not_mem_nil, or_false] at hp
    rcases hp with rfl
    · refine loopRef_of (callf := callfOf (callK Try.prog ht d)) (callfOf_ref (callK_mono d)) fun lf st k hb hx => ?_
      cases hb
      rcases num_Double_L0.look hx with hx | hx
      rotate_left
      · exact num_Double_L0.ok d (by omega) _ _ _ hx
      cases hx) ((num_Double.eq (num_Double_L0 ROUNDS) n431 n432 n433 k).trans hx)
theorem num_Double.look (d : Nat) (hd : 1 ≤ d) {e : Option Bool} {g : FuncId} {a : List AV} {h : Heap} {k : KR} (hx : num_Double.get num_Double e g a h k = some true) : e = some true ∨ callK Try.prog ht d g a h k = some true := by
  unfold num_Double.get at hx
  split at hx
  · exact .inr (num_Double.ok d hd _ _ _ _ hx)
  · exact .inl hx
/-- function 36: (*sheerleg/memory.Memory).Copy -/
noncomputable def memory_Memory_Copy.body (n444 : Int) (n445 : Int) (n446 : Int) (k1 : Bool → Option Bool) : Option Bool :=
  (k1 false)
noncomputable def memory_Memory_Copy (n444 : Int) (n445 : Int) (n446 : Int) (k1 : Bool → Option Bool) : Option Bool := memory_Memory_Copy.body n444 n445 n446 k1
noncomputable def memory_Memory_Copy.get (F : Int → Int → Int → (Bool → Option Bool) → Option Bool) (e : Option Bool) (g : FuncId) (a : List AV) (h : Heap) (k : KR) : Option Bool := match g, a, h with
  | 36, [.nilp, (.d ⟨(.int .i64), n444⟩), (.d ⟨(.int .i64), n445⟩), (.d ⟨(.int .i64), n446⟩)], [] => F n444 n445 n446 (fun y0 => k (.d ⟨.bool, y0⟩) [])
  | _, _, _ => e
noncomputable def memory_Memory_Copy.calls : RecF := fun g a h k => none
noncomputable def memory_Memory_Copy.loops : LoopF := fun b => none
set_option maxRecDepth 100000 in
theorem memory_Memory_Copy.eq (n444 : Int) (n445 : Int) (n446 : Int) (k : KR) : execL Try.prog ht 36 (callfOf (memory_Memory_Copy.calls)) (memory_Memory_Copy.loops) 0 (codeOf Try.f36) ⟨[.nilp, (.d ⟨(.int .i64), n444⟩), (.d ⟨(.int .i64), n445⟩), (.d ⟨(.int .i64), n446⟩)] ++ List.replicate (Try.f36.ntmps - ([.nilp, (.d ⟨(.int .i64), n444⟩), (.d ⟨(.int .i64), n445⟩), (.d ⟨(.int .i64), n446⟩)] : List AV).length) .undef, [], 2⟩ (leave Try.prog Try.f36 k) = memory_Memory_Copy.body n444 n445 n446 (fun y0 => k (.d ⟨.bool, y0⟩) []) := by kernel_rfl
theorem memory_Memory_Copy.ok (d : Nat) (hd : 1 ≤ d) (n444 : Int) (n445 : Int) (n446 : Int) (k : KR) (hx : memory_Memory_Copy n444 n445 n446 (fun y0 => k (.d ⟨.bool, y0⟩) []) = some true) : callK Try.prog ht d 36 [.nilp, (.d ⟨(.int .i64), n444⟩), (.d ⟨(.int .i64), n445⟩), (.d ⟨(.int .i64), n446⟩)] [] k = some true := by
  obtain ⟨d, rfl⟩ : ∃ e, d = e + 1 := ⟨d - 1, by omega⟩
  exact fn_ok (c := codeOf Try.f36) Try.func36 (by kernel_rfl) (rec := memory_Memory_Copy.calls) (fun g a h k hx => by
    cases hx) (loopf := memory_Memory_Copy.loops) (by
    have e : loopsOf (memory_Memory_Copy.loops) 0 (codeOf Try.f36) = [] := by kernel_rfl
    rw [e]
    intro p hp
    cases hp) ((memory_Memory_Copy.eq n444 n445 n446 k).trans hx)
theorem memory_Memory_Copy.look (d : Nat) (hd : 1 ≤ d) {e : Option Bool} {g : FuncId} {a : List AV} {h : Heap} {k : KR} (hx : memory_Memory_Copy.get memory_Memory_Copy e g a h k = some true) : e = some true ∨ callK Try.prog ht d g a h k = some true := by
  unfold memory_Memory_Copy.get at hx
  split at hx
  · exact .inr (memory_Memory_Copy.ok d hd _ _ _ _ hx)
  · exact .inl hx
/-- function 11: (*sheerleg/stack.Stack).Grow -/
noncomputable def stack_Stack_Growv1.body (stack_Stack_livev1 : Int → Int → Int → Int → Int → Int → Int → (Bool → Int → Int → Int → Int → Int → Int → Int → Option Bool) → Option Bool) (stack_Stack_Idv1 : Int → Int → Int → Int → Int → Int → Int → (Int → Int → Int → Int → Int → Int → Int → Int → Option Bool) → Option Bool) (num_Double : Int → Int → Int → (Int → Bool → Option Bool) → Option Bool) (memory_Memory_Grow : Int → (Int → Bool → Option Bool) → Option Bool) (stack_segment : Int → Int → ((Int × Int × Int × Unit) → Option Bool) → Option Bool) (memory_Memory_Copy : Int → Int → Int → (Bool → Option Bool) → Option Bool) (n407 : Int) (n408 : Int) (n409 : Int) (n410 : Int) (n411 : Int) (n412 : Int) (n413 : Int) (n414 : Int) (k1 : Bool → Int → Int → Int → Int → Int → Int → Int → Option Bool) : Option Bool :=
  (stack_Stack_livev1 n408 n409 n410 n411 n412 n413 n414
  (fun b415 n416 n417 n418 n419 n420 n421 n422 => (cond_ (! (! b415)) (cond_ (decide (n407 > (1048576 : Int))) (k1 false n416 n417 n418 n419 n420 n421 n422) (stack_Stack_Idv1 n416 n417 n418 n419 n420 n421 n422
  (fun n423 n424 n425 n426 n427 n428 n429 n430 => (num_Double (IntKind.wrap .i64 ((2 : Int) * (IntKind.wrap .i64 (n426 - n424)))) (IntKind.wrap .i64 ((IntKind.wrap .i64 (n423 + (if (n407 < (0 : Int)) then (0 : Int) else n407))) + (64 : Int))) (4194304 : Int)
  (fun n439 b440 => (cond_ (! (! b440)) (cond_ (decide (n439 > (IntKind.wrap .i64 (n429 - n428)))) (k1 false n424 n425 n426 n427 n428 n429 n430) (memory_Memory_Grow n439
  (fun n441 b442 => (cond_ (! b442) (k1 false n424 n425 n426 n427 n428 n429 n430) (stack_segment n441 n439
  (fun t443 => (memory_Memory_Copy (IntKind.wrap .i64 (t443.2.2.1 - n423)) n427 n423
  (fun b447 => (k1 true t443.1 t443.2.1 t443.2.2.1 (IntKind.wrap .i64 (t443.2.2.1 - n423)) (IntKind.wrap .i64 (n428 + n439)) n429 n430))))))))) (k1 false n424 n425 n426 n427 n428 n429 n430))))))) (k1 false n416 n417 n418 n419 n420 n421 n422))))
noncomputable def stack_Stack_Growv1 (n407 : Int) (n408 : Int) (n409 : Int) (n410 : Int) (n411 : Int) (n412 : Int) (n413 : Int) (n414 : Int) (k1 : Bool → Int → Int → Int → Int → Int → Int → Int → Option Bool) : Option Bool := stack_Stack_Growv1.body stack_Stack_livev1 stack_Stack_Idv1 num_Double memory_Memory_Grow stack_segment memory_Memory_Copy n407 n408 n409 n410 n411 n412 n413 n414 k1
noncomputable def stack_Stack_Growv1.get (F : Int → Int → Int → Int → Int → Int → Int → Int → (Bool → Int → Int → Int → Int → Int → Int → Int → Option Bool) → Option Bool) (e : Option Bool) (g : FuncId) (a : List AV) (h : Heap) (k : KR) : Option Bool := match g, a, h with
  | 11, [(.ptr [0, 0] 0 0), (.d ⟨(.int .i64), n407⟩)], [([0, 0], ⟨53, 8, (.mix [(.agg [.nilp, (.d ⟨(.int .i64), n408⟩), (.d ⟨(.int .i64), n409⟩), (.d ⟨(.int .i64), n410⟩), (.d ⟨(.int .i64), n411⟩), (.d ⟨(.int .i64), n412⟩), (.d ⟨(.int .i64), n413⟩), (.d ⟨(.int .i64), n414⟩)])])⟩)] => F n407 n408 n409 n410 n411 n412 n413 n414 (fun y0 y1 y2 y3 y4 y5 y6 y7 => k (.d ⟨.bool, y0⟩) [([0, 0], ⟨53, 8, (.mix [(.agg [.nilp, (.d ⟨(.int .i64), y1⟩), (.d ⟨(.int .i64), y2⟩), (.d ⟨(.int .i64), y3⟩), (.d ⟨(.int .i64), y4⟩), (.d ⟨(.int .i64), y5⟩), (.d ⟨(.int .i64), y6⟩), (.d ⟨(.int .i64), y7⟩)])])⟩)])
  | _, _, _ => e
noncomputable def stack_Stack_Growv1.calls (F0 : Int → Int → Int → Int → Int → Int → Int → (Bool → Int → Int → Int → Int → Int → Int → Int → Option Bool) → Option Bool) (F1 : Int → Int → Int → Int → Int → Int → Int → (Int → Int → Int → Int → Int → Int → Int → Int → Option Bool) → Option Bool) (F2 : Int → Int → Int → (Int → Bool → Option Bool) → Option Bool) (F3 : Int → (Int → Bool → Option Bool) → Option Bool) (F4 : Int → Int → ((Int × Int × Int × Unit) → Option Bool) → Option Bool) (F5 : Int → Int → Int → (Bool → Option Bool) → Option Bool) : RecF := fun g a h k => (stack_Stack_livev1.get F0 (stack_Stack_Idv1.get F1 (num_Double.get F2 (memory_Memory_Grow.get F3 (stack_segment.get F4 (memory_Memory_Copy.get F5 none g a h k) g a h k) g a h k) g a h k) g a h k) g a h k)
noncomputable def stack_Stack_Growv1.loops : LoopF := fun b => none
set_option maxRecDepth 100000 in
theorem stack_Stack_Growv1.eq (F0 : Int → Int → Int → Int → Int → Int → Int → (Bool → Int → Int → Int → Int → Int → Int → Int → Option Bool) → Option Bool) (F1 : Int → Int → Int → Int → Int → Int → Int → (Int → Int → Int → Int → Int → Int → Int → Int → Option Bool) → Option Bool) (F2 : Int → Int → Int → (Int → Bool → Option Bool) → Option Bool) (F3 : Int → (Int → Bool → Option Bool) → Option Bool) (F4 : Int → Int → ((Int × Int × Int × Unit) → Option Bool) → Option Bool) (F5 : Int → Int → Int → (Bool → Option Bool) → Option Bool) (n407 : Int) (n408 : Int) (n409 : Int) (n410 : Int) (n411 : Int) (n412 : Int) (n413 : Int) (n414 : Int) (k : KR) : execL Try.prog ht 11 (callfOf (stack_Stack_Growv1.calls F0 F1 F2 F3 F4 F5)) (stack_Stack_Growv1.loops) 0 (codeOf Try.f11) ⟨[(.ptr [0, 0] 0 0), (.d ⟨(.int .i64), n407⟩)] ++ List.replicate (Try.f11.ntmps - ([(.ptr [0, 0] 0 0), (.d ⟨(.int .i64), n407⟩)] : List AV).length) .undef, [([0, 0], ⟨53, 8, (.mix [(.agg [.nilp, (.d ⟨(.int .i64), n408⟩), (.d ⟨(.int .i64), n409⟩), (.d ⟨(.int .i64), n410⟩), (.d ⟨(.int .i64), n411⟩), (.d ⟨(.int .i64), n412⟩), (.d ⟨(.int .i64), n413⟩), (.d ⟨(.int .i64), n414⟩)])])⟩)], 2⟩ (leave Try.prog Try.f11 k) = stack_Stack_Growv1.body F0 F1 F2 F3 F4 F5 n407 n408 n409 n410 n411 n412 n413 n414 (fun y0 y1 y2 y3 y4 y5 y6 y7 => k (.d ⟨.bool, y0⟩) [([0, 0], ⟨53, 8, (.mix [(.agg [.nilp, (.d ⟨(.int .i64), y1⟩), (.d ⟨(.int .i64), y2⟩), (.d ⟨(.int .i64), y3⟩), (.d ⟨(.int .i64), y4⟩), (.d ⟨(.int .i64), y5⟩), (.d ⟨(.int .i64), y6⟩), (.d ⟨(.int .i64), y7⟩)])])⟩)]) := by kernel_rfl
theorem stack_Stack_Growv1.ok (d : Nat) (hd : 4 ≤ d) (n407 : Int) (n408 : Int) (n409 : Int) (n410 : Int) (n411 : Int) (n412 : Int) (n413 : Int) (n414 : Int) (k : KR) (hx : stack_Stack_Growv1 n407 n408 n409 n410 n411 n412 n413 n414 (fun y0 y1 y2 y3 y4 y5 y6 y7 => k (.d ⟨.bool, y0⟩) [([0, 0], ⟨53, 8, (.mix [(.agg [.nilp, (.d ⟨(.int .i64), y1⟩), (.d ⟨(.int .i64), y2⟩), (.d ⟨(.int .i64), y3⟩), (.d ⟨(.int .i64), y4⟩), (.d ⟨(.int .i64), y5⟩), (.d ⟨(.int .i64), y6⟩), (.d ⟨(.int .i64), y7⟩)])])⟩)]) = some true) : callK Try.prog ht d 11 [(.ptr [0, 0] 0 0), (.d ⟨(.int .i64), n407⟩)] [([0, 0], ⟨53, 8, (.mix [(.agg [.nilp, (.d ⟨(.int .i64), n408⟩), (.d ⟨(.int .i64), n409⟩), (.d ⟨(.int .i64), n410⟩), (.d ⟨(.int .i64), n411⟩), (.d ⟨(.int .i64), n412⟩), (.d ⟨(.int .i64), n413⟩), (.d ⟨(.int .i64), n414⟩)])])⟩)] k = some true := by
  obtain ⟨d, rfl⟩ : ∃ e, d = e + 1 := ⟨d - 1, by omega⟩
  exact fn_ok (c := codeOf Try.f11) Try.func11 (by kernel_rfl) (rec := stack_Stack_Growv1.calls stack_Stack_livev1 stack_Stack_Idv1 num_Double memory_Memory_Grow stack_segment memory_Memory_Copy) (fun g a h k hx => by
    rcases stack_Stack_livev1.look d (by omega) hx with hx | hx
    rotate_left
    · exact hx
    rcases stack_Stack_Idv1.look d (by omega) hx with hx | hx
    rotate_left
    · exact hx
    rcases num_Double.look d (by omega) hx with hx | hx
    rotate_left
    · exact hx
    rcases memory_Memory_Grow.look d (by omega) hx with hx | hx
    rotate_left
    · exact hx
    rcases stack_segment.look d (by omega) hx with hx | hx
    rotate_left
    · exact hx
    rcases memory_Memory_Copy.look d (by omega) hx with hx | hx
    rotate_left
    · exact hx
    cases hx) (loopf := stack_Stack_Growv1.loops) (by
    have e : loopsOf (stack_Stack_Growv1.loops) 0 (codeOf Try.f11) = [] := by kernel_rfl
    rw [e]
    intro p hp
    cases hp) ((stack_Stack_Growv1.eq stack_Stack_livev1 stack_Stack_Idv1 num_Double memory_Memory_Grow stack_segment memory_Memory_Copy n407 n408 n409 n410 n411 n412 n413 n414 k).trans hx)
theorem stack_Stack_Growv1.look (d : Nat) (hd : 4 ≤ d) {e : Option Bool} {g : FuncId} {a : List AV} {h : Heap} {k : KR} (hx : stack_Stack_Growv1.get stack_Stack_Growv1 e g a h k = some true) : e = some true ∨ callK Try.prog ht d g a h k = some true := by
  unfold stack_Stack_Growv1.get at hx
  split at hx
  · exact .inr (stack_Stack_Growv1.ok d hd _ _ _ _ _ _ _ _ _ hx)
  · exact .inl hx
/-- function 28: (*sheerleg/stack.Stack).Low -/
noncomputable def stack_Stack_Low.body (stack_Stack_live : (Bool → Option Bool) → Option Bool) (k1 : Int → Option Bool) : Option Bool :=
  (stack_Stack_live
  (fun b474 => (cond_ (! b474) (k1 (0 : Int)) none)))
noncomputable def stack_Stack_Low (k1 : Int → Option Bool) : Option Bool := stack_Stack_Low.body stack_Stack_live k1
noncomputable def stack_Stack_Low.get (F : (Int → Option Bool) → Option Bool) (e : Option Bool) (g : FuncId) (a : List AV) (h : Heap) (k : KR) : Option Bool := match g, a, h with
  | 28, [.nilp], [] => F (fun y0 => k (.d ⟨(.int .i64), y0⟩) [])
  | _, _, _ => e
noncomputable def stack_Stack_Low.calls (F0 : (Bool → Option Bool) → Option Bool) : RecF := fun g a h k => (stack_Stack_live.get F0 none g a h k)
noncomputable def stack_Stack_Low.loops : LoopF := fun b => none
set_option maxRecDepth 100000 in
theorem stack_Stack_Low.eq (F0 : (Bool → Option Bool) → Option Bool) (k : KR) : execL Try.prog ht 28 (callfOf (stack_Stack_Low.calls F0)) (stack_Stack_Low.loops) 0 (codeOf Try.f28) ⟨[.nilp] ++ List.replicate (Try.f28.ntmps - ([.nilp] : List AV).length) .undef, [], 2⟩ (leave Try.prog Try.f28 k) = stack_Stack_Low.body F0 (fun y0 => k (.d ⟨(.int .i64), y0⟩) []) := by kernel_rfl
theorem stack_Stack_Low.ok (d : Nat) (hd : 2 ≤ d) (k : KR) (hx : stack_Stack_Low (fun y0 => k (.d ⟨(.int .i64), y0⟩) []) = some true) : callK Try.prog ht d 28 [.nilp] [] k = some true := by
  obtain ⟨d, rfl⟩ : ∃ e, d = e + 1 := ⟨d - 1, by omega⟩
  exact fn_ok (c := codeOf Try.f28) Try.func28 (by kernel_rfl) (rec := stack_Stack_Low.calls stack_Stack_live) (fun g a h k hx => by
    rcases stack_Stack_live.look d (by omega) hx with hx | hx
    rotate_left
    · exact hx
    cases hx) (loopf := stack_Stack_Low.loops) (by
    have e : loopsOf (stack_Stack_Low.loops) 0 (codeOf Try.f28) = [] := by kernel_rfl
    rw [e]
    intro p hp
    cases hp) ((stack_Stack_Low.eq stack_Stack_live k).trans hx)
theorem stack_Stack_Low.look (d : Nat) (hd : 2 ≤ d) {e : Option Bool} {g : FuncId} {a : List AV} {h : Heap} {k : KR} (hx : stack_Stack_Low.get stack_Stack_Low e g a h k = some true) : e = some true ∨ callK Try.prog ht d g a h k = some true := by
  unfold stack_Stack_Low.get at hx
  split at hx
  · exact .inr (stack_Stack_Low.ok d hd _ hx)
  · exact .inl hx
/-- function 28: (*sheerleg/stack.Stack).Low -/
noncomputable def stack_Stack_Lowv1.body (stack_Stack_livev1 : Int → Int → Int → Int → Int → Int → Int → (Bool → Int → Int → Int → Int → Int → Int → Int → Option Bool) → Option Bool) (n476 : Int) (n477 : Int) (n478 : Int) (n479 : Int) (n480 : Int) (n481 : Int) (n482 : Int) (k1 : Int → Int → Int → Int → Int → Int → Int → Int → Option Bool) : Option Bool :=
  (stack_Stack_livev1 n476 n477 n478 n479 n480 n481 n482
  (fun b483 n484 n485 n486 n487 n488 n489 n490 => (cond_ (! b483) (k1 (0 : Int) n484 n485 n486 n487 n488 n489 n490) (k1 n490 n484 n485 n486 n487 n488 n489 n490))))
noncomputable def stack_Stack_Lowv1 (n476 : Int) (n477 : Int) (n478 : Int) (n479 : Int) (n480 : Int) (n481 : Int) (n482 : Int) (k1 : Int → Int → Int → Int → Int → Int → Int → Int → Option Bool) : Option Bool := stack_Stack_Lowv1.body stack_Stack_livev1 n476 n477 n478 n479 n480 n481 n482 k1
noncomputable def stack_Stack_Lowv1.get (F : Int → Int → Int → Int → Int → Int → Int → (Int → Int → Int → Int → Int → Int → Int → Int → Option Bool) → Option Bool) (e : Option Bool) (g : FuncId) (a : List AV) (h : Heap) (k : KR) : Option Bool := match g, a, h with
  | 28, [(.ptr [0, 0] 0 0)], [([0, 0], ⟨53, 8, (.mix [(.agg [.nilp, (.d ⟨(.int .i64), n476⟩), (.d ⟨(.int .i64), n477⟩), (.d ⟨(.int .i64), n478⟩), (.d ⟨(.int .i64), n479⟩), (.d ⟨(.int .i64), n480⟩), (.d ⟨(.int .i64), n481⟩), (.d ⟨(.int .i64), n482⟩)])])⟩)] => F n476 n477 n478 n479 n480 n481 n482 (fun y0 y1 y2 y3 y4 y5 y6 y7 => k (.d ⟨(.int .i64), y0⟩) [([0, 0], ⟨53, 8, (.mix [(.agg [.nilp, (.d ⟨(.int .i64), y1⟩), (.d ⟨(.int .i64), y2⟩), (.d ⟨(.int .i64), y3⟩), (.d ⟨(.int .i64), y4⟩), (.d ⟨(.int .i64), y5⟩), (.d ⟨(.int .i64), y6⟩), (.d ⟨(.int .i64), y7⟩)])])⟩)])
  | _, _, _ => e
noncomputable def stack_Stack_Lowv1.calls (F0 : Int → Int → Int → Int → Int → Int → Int → (Bool → Int → Int → Int → Int → Int → Int → Int → Option Bool) → Option Bool) : RecF := fun g a h k => (stack_Stack_livev1.get F0 none g a h k)
noncomputable def stack_Stack_Lowv1.loops : LoopF := fun b => none
set_option maxRecDepth 100000 in
theorem stack_Stack_Lowv1.eq (F0 : Int → Int → Int → Int → Int → Int → Int → (Bool → Int → Int → Int → Int → Int → Int → Int → Option Bool) → Option Bool) (n476 : Int) (n477 : Int) (n478 : Int) (n479 : Int) (n480 : Int) (n481 : Int) (n482 : Int) (k : KR) : execL Try.prog ht 28 (callfOf (stack_Stack_Lowv1.calls F0)) (stack_Stack_Lowv1.loops) 0 (codeOf Try.f28) ⟨[(.ptr [0, 0] 0 0)] ++ List.replicate (Try.f28.ntmps - ([(.ptr [0, 0] 0 0)] : List AV).length) .undef, [([0, 0], ⟨53, 8, (.mix [(.agg [.nilp, (.d ⟨(.int .i64), n476⟩), (.d ⟨(.int .i64), n477⟩), (.d ⟨(.int .i64), n478⟩), (.d ⟨(.int .i64), n479⟩), (.d ⟨(.int .i64), n480⟩), (.d ⟨(.int .i64), n481⟩), (.d ⟨(.int .i64), n482⟩)])])⟩)], 2⟩ (leave Try.prog Try.f28 k) = stack_Stack_Lowv1.body F0 n476 n477 n478 n479 n480 n481 n482 (fun y0 y1 y2 y3 y4 y5 y6 y7 => k (.d ⟨(.int .i64), y0⟩) [([0, 0], ⟨53, 8, (.mix [(.agg [.nilp, (.d ⟨(.int .i64), y1⟩), (.d ⟨(.int .i64), y2⟩), (.d ⟨(.int .i64), y3⟩), (.d ⟨(.int .i64), y4⟩), (.d ⟨(.int .i64), y5⟩), (.d ⟨(.int .i64), y6⟩), (.d ⟨(.int .i64), y7⟩)])])⟩)]) := by kernel_rfl
theorem stack_Stack_Lowv1.ok (d : Nat) (hd : 2 ≤ d) (n476 : Int) (n477 : Int) (n478 : Int) (n479 : Int) (n480 : Int) (n481 : Int) (n482 : Int) (k : KR) (hx : stack_Stack_Lowv1 n476 n477 n478 n479 n480 n481 n482 (fun y0 y1 y2 y3 y4 y5 y6 y7 => k (.d ⟨(.int .i64), y0⟩) [([0, 0], ⟨53, 8, (.mix [(.agg [.nilp, (.d ⟨(.int .i64), y1⟩), (.d ⟨(.int .i64), y2⟩), (.d ⟨(.int .i64), y3⟩), (.d ⟨(.int .i64), y4⟩), (.d ⟨(.int .i64), y5⟩), (.d ⟨(.int .i64), y6⟩), (.d ⟨(.int .i64), y7⟩)])])⟩)]) = some true) : callK Try.prog ht d 28 [(.ptr [0, 0] 0 0)] [([0, 0], ⟨53, 8, (.mix [(.agg [.nilp, (.d ⟨(.int .i64), n476⟩), (.d ⟨(.int .i64), n477⟩), (.d ⟨(.int .i64), n478⟩), (.d ⟨(.int .i64), n479⟩), (.d ⟨(.int .i64), n480⟩), (.d ⟨(.int .i64), n481⟩), (.d ⟨(.int .i64), n482⟩)])])⟩)] k = some true := by
  obtain ⟨d, rfl⟩ : ∃ e, d = e + 1 := ⟨d - 1, by omega⟩
  exact fn_ok (c := codeOf Try.f28) Try.func28 (by kernel_rfl) (rec := stack_Stack_Lowv1.calls stack_Stack_livev1) (fun g a h k hx => by
    rcases stack_Stack_livev1.look d (by omega) hx with hx | hx
    rotate_left
    · exact hx
    cases hx) (loopf := stack_Stack_Lowv1.loops) (by
    have e : loopsOf (stack_Stack_Lowv1.loops) 0 (codeOf Try.f28) = [] := by kernel_rfl
    rw [e]
    intro p hp
    cases hp) ((stack_Stack_Lowv1.eq stack_Stack_livev1 n476 n477 n478 n479 n480 n481 n482 k).trans hx)
theorem stack_Stack_Lowv1.look (d : Nat) (hd : 2 ≤ d) {e : Option Bool} {g : FuncId} {a : List AV} {h : Heap} {k : KR} (hx : stack_Stack_Lowv1.get stack_Stack_Lowv1 e g a h k = some true) : e = some true ∨ callK Try.prog ht d g a h k = some true := by
  unfold stack_Stack_Lowv1.get at hx
  split at hx
  · exact .inr (stack_Stack_Lowv1.ok d hd _ _ _ _ _ _ _ _ hx)
  · exact .inl hx
/-- function 7: sheerleg/sheerleglaw39.known, all of it at once -/
def law39_known (k1 : Bool → Option Bool) : Option Bool := k1 true
def law39_known.get (F : (Bool → Option Bool) → Option Bool) (e : Option Bool) (g : FuncId) (a : List AV) (h : Heap) (k : KR) : Option Bool := match g, a, h with
  | 7, [], [] => F (fun y => k (.d ⟨.bool, y⟩) [])
  | _, _, _ => e
set_option maxRecDepth 100000 in
theorem law39_known.all (k : KR) : callK Try.prog ht 60 7 [] [] k = k (.d ⟨.bool, true⟩) [] := by kernel_rfl
theorem law39_known.look (d : Nat) (hd : 60 ≤ d) {e : Option Bool} {g : FuncId} {a : List AV} {h : Heap} {k : KR} (hx : law39_known.get law39_known e g a h k = some true) : e = some true ∨ callK Try.prog ht d g a h k = some true := by
  unfold law39_known.get at hx
  split at hx
  · exact .inr (callK_le hd _ _ _ _ _ (fun _ _ h => h) ((law39_known.all _).trans hx))
  · exact .inl hx
/-- function 5: sheerleg/sheerleglaw39.StackNobody -/
noncomputable def law39_StackNobody.body (stack_New : Int → (Bool → Option Bool) → (Bool → Int → Int → Int → Int → Int → Int → Int → Option Bool) → Option Bool) (stack_Stack_Pop : (Int → Bool → Option Bool) → Option Bool) (stack_Stack_Popv1 : Int → Int → Int → Int → Int → Int → Int → (Int → Bool → Int → Int → Int → Int → Int → Int → Int → Option Bool) → Option Bool) (stack_Stack_Get : Int → (Int → Bool → Option Bool) → Option Bool) (stack_Stack_Getv1 : Int → Int → Int → Int → Int → Int → Int → Int → (Int → Bool → Int → Int → Int → Int → Int → Int → Int → Option Bool) → Option Bool) (stack_Stack_Push : Int → (Bool → Option Bool) → Option Bool) (stack_Stack_Pushv1 : Int → Int → Int → Int → Int → Int → Int → Int → (Bool → Int → Int → Int → Int → Int → Int → Int → Option Bool) → Option Bool) (stack_Stack_Set : Int → Int → (Bool → Option Bool) → Option Bool) (stack_Stack_Setv1 : Int → Int → Int → Int → Int → Int → Int → Int → Int → (Bool → Int → Int → Int → Int → Int → Int → Int → Option Bool) → Option Bool) (stack_Stack_Down : Int → (Bool → Option Bool) → Option Bool) (stack_Stack_Downv1 : Int → Int → Int → Int → Int → Int → Int → Int → (Bool → Int → Int → Int → Int → Int → Int → Int → Option Bool) → Option Bool) (stack_Stack_Up : Int → (Bool → Option Bool) → Option Bool) (stack_Stack_Upv1 : Int → Int → Int → Int → Int → Int → Int → Int → (Bool → Int → Int → Int → Int → Int → Int → Int → Option Bool) → Option Bool) (stack_Stack_Spill : (Bool → Option Bool) → Option Bool) (stack_Stack_Spillv1 : Int → Int → Int → Int → Int → Int → Int → (Bool → Int → Int → Int → Int → Int → Int → Int → Option Bool) → Option Bool) (stack_Stack_Grow : Int → (Bool → Option Bool) → Option Bool) (stack_Stack_Growv1 : Int → Int → Int → Int → Int → Int → Int → Int → (Bool → Int → Int → Int → Int → Int → Int → Int → Option Bool) → Option Bool) (stack_Stack_SP : (Int → Option Bool) → Option Bool) (stack_Stack_SPv1 : Int → Int → Int → Int → Int → Int → Int → (Int → Int → Int → Int → Int → Int → Int → Int → Option Bool) → Option Bool) (stack_Stack_Id : (Int → Option Bool) → Option Bool) (stack_Stack_Idv1 : Int → Int → Int → Int → Int → Int → Int → (Int → Int → Int → Int → Int → Int → Int → Int → Option Bool) → Option Bool) (stack_Stack_Low : (Int → Option Bool) → Option Bool) (stack_Stack_Lowv1 : Int → Int → Int → Int → Int → Int → Int → (Int → Int → Int → Int → Int → Int → Int → Int → Option Bool) → Option Bool) (stack_Stack_Seg : ((Int × Int × Int × Unit) → Option Bool) → Option Bool) (stack_Stack_Segv1 : Int → Int → Int → Int → Int → Int → Int → ((Int × Int × Int × Unit) → Int → Int → Int → Int → Int → Int → Int → Option Bool) → Option Bool) (law39_known : (Bool → Option Bool) → Option Bool) (n0 : Int) (n1 : Int) (k1 : Bool → Option Bool) : Option Bool :=
  (stack_New (1000 : Int)
  (fun b9 => (stack_Stack_Pop
  (fun n20 b21 => (stack_Stack_Popv1 (0 : Int) (0 : Int) (0 : Int) (0 : Int) (0 : Int) (0 : Int) (0 : Int)
  (fun n138 b139 n140 n141 n142 n143 n144 n145 n146 => (stack_Stack_Get n0
  (fun n147 b148 => (stack_Stack_Getv1 n0 n140 n141 n142 n143 n144 n145 n146
  (fun n149 b150 n151 n152 n153 n154 n155 n156 n157 => (cond_ (! b9) (cond_ (! b21) (cond_ (! b139) (cond_ (! b148) (cond_ (! b150) (stack_Stack_Push n1
  (fun b166 => (cond_ (! b166) (stack_Stack_Pushv1 n1 n151 n152 n153 n154 n155 n156 n157
  (fun b232 n233 n234 n235 n236 n237 n238 n239 => (cond_ (! b232) (stack_Stack_Set n0 n1
  (fun b243 => (cond_ (! b243) (stack_Stack_Setv1 n0 n1 n233 n234 n235 n236 n237 n238 n239
  (fun b269 n270 n271 n272 n273 n274 n275 n276 => (cond_ (! b269) (stack_Stack_Down (0 : Int)
  (fun b284 => (cond_ (! b284) (stack_Stack_Downv1 (0 : Int) n270 n271 n272 n273 n274 n275 n276
  (fun b334 n335 n336 n337 n338 n339 n340 n341 => (cond_ (! b334) (stack_Stack_Up (0 : Int)
  (fun b345 => (cond_ (! b345) (stack_Stack_Upv1 (0 : Int) n335 n336 n337 n338 n339 n340 n341
  (fun b370 n371 n372 n373 n374 n375 n376 n377 => (cond_ (! b370) (stack_Stack_Spill
  (fun b379 => (cond_ (! b379) (stack_Stack_Spillv1 n371 n372 n373 n374 n375 n376 n377
  (fun b395 n396 n397 n398 n399 n400 n401 n402 => (cond_ (! b395) (stack_Stack_Grow n0
  (fun b406 => (cond_ (! b406) (stack_Stack_Growv1 n0 n396 n397 n398 n399 n400 n401 n402
  (fun b448 n449 n450 n451 n452 n453 n454 n455 => (cond_ (! b448) (stack_Stack_SP
  (fun n456 => (stack_Stack_SPv1 n449 n450 n451 n452 n453 n454 n455
  (fun n457 n458 n459 n460 n461 n462 n463 n464 => (stack_Stack_Id
  (fun n465 => (stack_Stack_Idv1 n458 n459 n460 n461 n462 n463 n464
  (fun n466 n467 n468 n469 n470 n471 n472 n473 => (stack_Stack_Low
  (fun n475 => (stack_Stack_Lowv1 n467 n468 n469 n470 n471 n472 n473
  (fun n491 n492 n493 n494 n495 n496 n497 n498 => (cond_ ((IntKind.wrap .i64 ((IntKind.wrap .i64 ((IntKind.wrap .i64 ((IntKind.wrap .i64 ((IntKind.wrap .i64 (n456 + n457)) + n465)) + n466)) + n475)) + n491)) == (0 : Int)) (stack_Stack_Seg
  (fun t499 => (cond_ ((t499.1 == (0 : Int)) && ((t499.2.1 == (0 : Int)) && ((t499.2.2.1 == (0 : Int)) && true))) (stack_Stack_Segv1 n492 n493 n494 n495 n496 n497 n498
  (fun t500 n501 n502 n503 n504 n505 n506 n507 => (cond_ ((t500.1 == (0 : Int)) && ((t500.2.1 == (0 : Int)) && ((t500.2.2.1 == (0 : Int)) && true))) (law39_known
  (fun b508 => (k1 b508))) (k1 false)))) (k1 false)))) (k1 false)))))))))))))) (k1 false)))) (k1 false)))) (k1 false)))) (k1 false)))) (k1 false)))) (k1 false)))) (k1 false)))) (k1 false)))) (k1 false)))) (k1 false)))) (k1 false)))) (k1 false)))) (k1 false)) (k1 false)) (k1 false)) (k1 false)) (k1 false)))))))))))
  (fun b509 n510 n511 n512 n513 n514 n515 n516 => (stack_Stack_Pop
  (fun n517 b518 => (stack_Stack_Popv1 (0 : Int) (0 : Int) (0 : Int) (0 : Int) (0 : Int) (0 : Int) (0 : Int)
  (fun n519 b520 n521 n522 n523 n524 n525 n526 n527 => (stack_Stack_Get n0
  (fun n528 b529 => (stack_Stack_Getv1 n0 n521 n522 n523 n524 n525 n526 n527
  (fun n530 b531 n532 n533 n534 n535 n536 n537 n538 => (k1 false)))))))))))
noncomputable def law39_StackNobody (n0 : Int) (n1 : Int) (k1 : Bool → Option Bool) : Option Bool := law39_StackNobody.body stack_New stack_Stack_Pop stack_Stack_Popv1 stack_Stack_Get stack_Stack_Getv1 stack_Stack_Push stack_Stack_Pushv1 stack_Stack_Set stack_Stack_Setv1 stack_Stack_Down stack_Stack_Downv1 stack_Stack_Up stack_Stack_Upv1 stack_Stack_Spill stack_Stack_Spillv1 stack_Stack_Grow stack_Stack_Growv1 stack_Stack_SP stack_Stack_SPv1 stack_Stack_Id stack_Stack_Idv1 stack_Stack_Low stack_Stack_Lowv1 stack_Stack_Seg stack_Stack_Segv1 law39_known n0 n1 k1
noncomputable def law39_StackNobody.get (F : Int → Int → (Bool → Option Bool) → Option Bool) (e : Option Bool) (g : FuncId) (a : List AV) (h : Heap) (k : KR) : Option Bool := match g, a, h with
  | 5, [(.d ⟨(.int .i64), n0⟩), (.d ⟨(.int .i64), n1⟩)], [] => F n0 n1 (fun y0 => k (.d ⟨.bool, y0⟩) [])
  | _, _, _ => e
noncomputable def law39_StackNobody.calls (F0 : Int → (Bool → Option Bool) → (Bool → Int → Int → Int → Int → Int → Int → Int → Option Bool) → Option Bool) (F1 : (Int → Bool → Option Bool) → Option Bool) (F2 : Int → Int → Int → Int → Int → Int → Int → (Int → Bool → Int → Int → Int → Int → Int → Int → Int → Option Bool) → Option Bool) (F3 : Int → (Int → Bool → Option Bool) → Option Bool) (F4 : Int → Int → Int → Int → Int → Int → Int → Int → (Int → Bool → Int → Int → Int → Int → Int → Int → Int → Option Bool) → Option Bool) (F5 : Int → (Bool → Option Bool) → Option Bool) (F6 : Int → Int → Int → Int → Int → Int → Int → Int → (Bool → Int → Int → Int → Int → Int → Int → Int → Option Bool) → Option Bool) (F7 : Int → Int → (Bool → Option Bool) → Option Bool) (F8 : Int → Int → Int → Int → Int → Int → Int → Int → Int → (Bool → Int → Int → Int → Int → Int → Int → Int → Option Bool) → Option Bool) (F9 : Int → (Bool → Option Bool) → Option Bool) (F10 : Int → Int → Int → Int → Int → Int → Int → Int → (Bool → Int → Int → Int → Int → Int → Int → Int → Option Bool) → Option Bool) (F11 : Int → (Bool → Option Bool) → Option Bool) (F12 : Int → Int → Int → Int → Int → Int → Int → Int → (Bool → Int → Int → Int → Int → Int → Int → Int → Option Bool) → Option Bool) (F13 : (Bool → Option Bool) → Option Bool) (F14 : Int → Int → Int → Int → Int → Int → Int → (Bool → Int → Int → Int → Int → Int → Int → Int → Option Bool) → Option Bool) (F15 : Int → (Bool → Option Bool) → Option Bool) (F16 : Int → Int → Int → Int → Int → Int → Int → Int → (Bool → Int → Int → Int → Int → Int → Int → Int → Option Bool) → Option Bool) (F17 : (Int → Option Bool) → Option Bool) (F18 : Int → Int → Int → Int → Int → Int → Int → (Int → Int → Int → Int → Int → Int → Int → Int → Option Bool) → Option Bool) (F19 : (Int → Option Bool) → Option Bool) (F20 : Int → Int → Int → Int → Int → Int → Int → (Int → Int → Int → Int → Int → Int → Int → Int → Option Bool) → Option Bool) (F21 : (Int → Option Bool) → Option Bool) (F22 : Int → Int → Int → Int → Int → Int → Int → (Int → Int → Int → Int → Int → Int → Int → Int → Option Bool) → Option Bool) (F23 : ((Int × Int × Int × Unit) → Option Bool) → Option Bool) (F24 : Int → Int → Int → Int → Int → Int → Int → ((Int × Int × Int × Unit) → Int → Int → Int → Int → Int → Int → Int → Option Bool) → Option Bool) (F25 : (Bool → Option Bool) → Option Bool) : RecF := fun g a h k => (stack_New.get F0 (stack_Stack_Pop.get F1 (stack_Stack_Popv1.get F2 (stack_Stack_Get.get F3 (stack_Stack_Getv1.get F4 (stack_Stack_Push.get F5 (stack_Stack_Pushv1.get F6 (stack_Stack_Set.get F7 (stack_Stack_Setv1.get F8 (stack_Stack_Down.get F9 (stack_Stack_Downv1.get F10 (stack_Stack_Up.get F11 (stack_Stack_Upv1.get F12 (stack_Stack_Spill.get F13 (stack_Stack_Spillv1.get F14 (stack_Stack_Grow.get F15 (stack_Stack_Growv1.get F16 (stack_Stack_SP.get F17 (stack_Stack_SPv1.get F18 (stack_Stack_Id.get F19 (stack_Stack_Idv1.get F20 (stack_Stack_Low.get F21 (stack_Stack_Lowv1.get F22 (stack_Stack_Seg.get F23 (stack_Stack_Segv1.get F24 (law39_known.get F25 none g a h k) g a h k) g a h k) g a h k) g a h k) g a h k) g a h k) g a h k) g a h k) g a h k) g a h k) g a h k) g a h k) g a h k) g a h k) g a h k) g a h k) g a h k) g a h k) g a h k) g a h k) g a h k) g a h k) g a h k) g a h k) g a h k)
noncomputable def law39_StackNobody.loops : LoopF := fun b => none
set_option maxRecDepth 100000 in
theorem law39_StackNobody.eq (F0 : Int → (Bool → Option Bool) → (Bool → Int → Int → Int → Int → Int → Int → Int → Option Bool) → Option Bool) (F1 : (Int → Bool → Option Bool) → Option Bool) (F2 : Int → Int → Int → Int → Int → Int → Int → (Int → Bool → Int → Int → Int → Int → Int → Int → Int → Option Bool) → Option Bool) (F3 : Int → (Int → Bool → Option Bool) → Option Bool) (F4 : Int → Int → Int → Int → Int → Int → Int → Int → (Int → Bool → Int → Int → Int → Int → Int → Int → Int → Option Bool) → Option Bool) (F5 : Int → (Bool → Option Bool) → Option Bool) (F6 : Int → Int → Int → Int → Int → Int → Int → Int → (Bool → Int → Int → Int → Int → Int → Int → Int → Option Bool) → Option Bool) (F7 : Int → Int → (Bool → Option Bool) → Option Bool) (F8 : Int → Int → Int → Int → Int → Int → Int → Int → Int → (Bool → Int → Int → Int → Int → Int → Int → Int → Option Bool) → Option Bool) (F9 : Int → (Bool → Option Bool) → Option Bool) (F10 : Int → Int → Int → Int → Int → Int → Int → Int → (Bool → Int → Int → Int → Int → Int → Int → Int → Option Bool) → Option Bool) (F11 : Int → (Bool → Option Bool) → Option Bool) (F12 : Int → Int → Int → Int → Int → Int → Int → Int → (Bool → Int → Int → Int → Int → Int → Int → Int → Option Bool) → Option Bool) (F13 : (Bool → Option Bool) → Option Bool) (F14 : Int → Int → Int → Int → Int → Int → Int → (Bool → Int → Int → Int → Int → Int → Int → Int → Option Bool) → Option Bool) (F15 : Int → (Bool → Option Bool) → Option Bool) (F16 : Int → Int → Int → Int → Int → Int → Int → Int → (Bool → Int → Int → Int → Int → Int → Int → Int → Option Bool) → Option Bool) (F17 : (Int → Option Bool) → Option Bool) (F18 : Int → Int → Int → Int → Int → Int → Int → (Int → Int → Int → Int → Int → Int → Int → Int → Option Bool) → Option Bool) (F19 : (Int → Option Bool) → Option Bool) (F20 : Int → Int → Int → Int → Int → Int → Int → (Int → Int → Int → Int → Int → Int → Int → Int → Option Bool) → Option Bool) (F21 : (Int → Option Bool) → Option Bool) (F22 : Int → Int → Int → Int → Int → Int → Int → (Int → Int → Int → Int → Int → Int → Int → Int → Option Bool) → Option Bool) (F23 : ((Int × Int × Int × Unit) → Option Bool) → Option Bool) (F24 : Int → Int → Int → Int → Int → Int → Int → ((Int × Int × Int × Unit) → Int → Int → Int → Int → Int → Int → Int → Option Bool) → Option Bool) (F25 : (Bool → Option Bool) → Option Bool) (n0 : Int) (n1 : Int) (k : KR) : execL Try.prog ht 5 (callfOf (law39_StackNobody.calls F0 F1 F2 F3 F4 F5 F6 F7 F8 F9 F10 F11 F12 F13 F14 F15 F16 F17 F18 F19 F20 F21 F22 F23 F24 F25)) (law39_StackNobody.loops) 0 (codeOf Try.f5) ⟨[(.d ⟨(.int .i64), n0⟩), (.d ⟨(.int .i64), n1⟩)] ++ List.replicate (Try.f5.ntmps - ([(.d ⟨(.int .i64), n0⟩), (.d ⟨(.int .i64), n1⟩)] : List AV).length) .undef, [], 2⟩ (leave Try.prog Try.f5 k) = law39_StackNobody.body F0 F1 F2 F3 F4 F5 F6 F7 F8 F9 F10 F11 F12 F13 F14 F15 F16 F17 F18 F19 F20 F21 F22 F23 F24 F25 n0 n1 (fun y0 => k (.d ⟨.bool, y0⟩) []) := by kernel_rfl
theorem law39_StackNobody.ok (d : Nat) (hd : 61 ≤ d) (n0 : Int) (n1 : Int) (k : KR) (hx : law39_StackNobody n0 n1 (fun y0 => k (.d ⟨.bool, y0⟩) []) = some true) : callK Try.prog ht d 5 [(.d ⟨(.int .i64), n0⟩), (.d ⟨(.int .i64), n1⟩)] [] k = some true := by
  obtain ⟨d, rfl⟩ : ∃ e, d = e + 1 := ⟨d - 1, by omega⟩
  exact fn_ok (c := codeOf Try.f5) Try.func5 (by kernel_rfl) (rec := law39_StackNobody.calls stack_New stack_Stack_Pop stack_Stack_Popv1 stack_Stack_Get stack_Stack_Getv1 stack_Stack_Push stack_Stack_Pushv1 stack_Stack_Set stack_Stack_Setv1 stack_Stack_Down stack_Stack_Downv1 stack_Stack_Up stack_Stack_Upv1 stack_Stack_Spill stack_Stack_Spillv1 stack_Stack_Grow stack_Stack_Growv1 stack_Stack_SP stack_Stack_SPv1 stack_Stack_Id stack_Stack_Idv1 stack_Stack_Low stack_Stack_Lowv1 stack_Stack_Seg stack_Stack_Segv1 law39_known) (fun g a h k hx => by
    rcases stack_New.look d (by omega) hx with hx | hx
    rotate_left
    · exact hx
    rcases stack_Stack_Pop.look d (by omega) hx with hx | hx
    rotate_left
    · exact hx
    rcases stack_Stack_Popv1.look d (by omega) hx with hx | hx
    rotate_left
    · exact hx
    rcases stack_Stack_Get.look d (by omega) hx with hx | hx
    rotate_left
    · exact hx
    rcases stack_Stack_Getv1.look d (by omega) hx with hx | hx
    rotate_left
    · exact hx
    rcases stack_Stack_Push.look d (by omega) hx with hx | hx
    rotate_left
    · exact hx
    rcases stack_Stack_Pushv1.look d (by omega) hx with hx | hx
    rotate_left
    · exact hx
    rcases stack_Stack_Set.look d (by omega) hx with hx | hx
    rotate_left
    · exact hx
    rcases stack_Stack_Setv1.look d (by omega) hx with hx | hx
    rotate_left
    · exact hx
    rcases stack_Stack_Down.look d (by omega) hx with hx | hx
    rotate_left
    · exact hx
    rcases stack_Stack_Downv1.look d (by omega) hx with hx | hx
    rotate_left
    · exact hx
    rcases stack_Stack_Up.look d (by omega) hx with hx | hx
    rotate_left
    · exact hx
    rcases stack_Stack_Upv1.look d (by omega) hx with hx | hx
    rotate_left
    · exact hx
    rcases stack_Stack_Spill.look d (by omega) hx with hx | hx
    rotate_left
    · exact hx
    rcases stack_Stack_Spillv1.look d (by omega) hx with hx | hx
    rotate_left
    · exact hx
    rcases stack_Stack_Grow.look d (by omega) hx with hx | hx
    rotate_left
    · exact hx
    rcases stack_Stack_Growv1.look d (by omega) hx with hx | hx
    rotate_left
    · exact hx
    rcases stack_Stack_SP.look d (by omega) hx with hx | hx
    rotate_left
    · exact hx
    rcases stack_Stack_SPv1.look d (by omega) hx with hx | hx
    rotate_left
    · exact hx
    rcases stack_Stack_Id.look d (by omega) hx with hx | hx
    rotate_left
    · exact hx
    rcases stack_Stack_Idv1.look d (by omega) hx with hx | hx
    rotate_left
    · exact hx
    rcases stack_Stack_Low.look d (by omega) hx with hx | hx
    rotate_left
    · exact hx
    rcases stack_Stack_Lowv1.look d (by omega) hx with hx | hx
    rotate_left
    · exact hx
    rcases stack_Stack_Seg.look d (by omega) hx with hx | hx
    rotate_left
    · exact hx
    rcases stack_Stack_Segv1.look d (by omega) hx with hx | hx
    rotate_left
    · exact hx
    rcases law39_known.look d (by omega) hx with hx | hx
    rotate_left
    · exact hx
    cases hx) (loopf := law39_StackNobody.loops) (by
    have e : loopsOf (law39_StackNobody.loops) 0 (codeOf Try.f5) = [] := by kernel_rfl
    rw [e]
    intro p hp
    cases hp) ((law39_StackNobody.eq stack_New stack_Stack_Pop stack_Stack_Popv1 stack_Stack_Get stack_Stack_Getv1 stack_Stack_Push stack_Stack_Pushv1 stack_Stack_Set stack_Stack_Setv1 stack_Stack_Down stack_Stack_Downv1 stack_Stack_Up stack_Stack_Upv1 stack_Stack_Spill stack_Stack_Spillv1 stack_Stack_Grow stack_Stack_Growv1 stack_Stack_SP stack_Stack_SPv1 stack_Stack_Id stack_Stack_Idv1 stack_Stack_Low stack_Stack_Lowv1 stack_Stack_Seg stack_Stack_Segv1 law39_known n0 n1 k).trans hx)
theorem law39_StackNobody.look (d : Nat) (hd : 61 ≤ d) {e : Option Bool} {g : FuncId} {a : List AV} {h : Heap} {k : KR} (hx : law39_StackNobody.get law39_StackNobody e g a h k = some true) : e = some true ∨ callK Try.prog ht d g a h k = some true := by
  unfold law39_StackNobody.get at hx
  split at hx
  · exact .inr (law39_StackNobody.ok d hd _ _ _ hx)
  · exact .inl hx
end Go.Proofs.Ytefhednjdlblpaa.n
