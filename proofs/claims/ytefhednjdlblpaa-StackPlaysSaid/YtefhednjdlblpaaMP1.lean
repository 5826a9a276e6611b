/- What the functions come to that P reaches, as plain functions; written by a program of this work, each told by Lean. -/
import Derived.Test.YtefhednjdlblpaaA3
import Derived.Test.YtefhednjdlblpaaChecked
namespace Go.Proofs.Ytefhednjdlblpaa.p
open Go.AX
set_option linter.unusedVariables false
set_option maxRecDepth 100000
set_option maxHeartbeats 4000000
def ht : Hints := hintsOf [(4, [(0, ⟨[2, 7, 8, 9, 10, 12], []⟩), (2, ⟨[7, 10, 15], []⟩), (2000000, ⟨[6], []⟩), (1000000, ⟨[7, 10], []⟩), (1000002, ⟨[7, 10], []⟩)]),
  (35, [(0, ⟨[0, 1, 2], []⟩), (2000000, ⟨[6, 7], []⟩), (1000000, ⟨[], []⟩)]),
  (55, [(0, ⟨[0, 1, 2, 3, 10, 11], []⟩), (2000000, ⟨[8, 9], [(.virt 8 2 1), (.give 8)]⟩), (1000000, ⟨[10], []⟩)]),
  (54, [(0, ⟨[0, 1, 2], []⟩), (2000000, ⟨[6, 7], []⟩), (1000000, ⟨[0, 2], []⟩)]),
  (57, [(2000000, ⟨[6, 7], [(.virt 6 2 1), (.give 6)]⟩)]),
  (37, [(0, ⟨[0, 1, 7, 8], []⟩), (2000000, ⟨[4, 5, 6], [(.virt 4 2 1), (.give 4)]⟩), (1000000, ⟨[0, 7], []⟩)])]
abbrev Tc0 : Type := List (Int × Int × Int × Unit)
abbrev Tc1 : Type := (List Int) × Int × Int × Int × Int × Int × Int × Int × Bool × Unit
/-- function 7: sheerleg/sheerleglaw39.known, all of it at once -/
def law39_known (k1 : Bool → Option Bool) : Option Bool := k1 true
def law39_known.get (F : (Bool → Option Bool) → Option Bool) (e : Option Bool) (g : FuncId) (a : List AV) (h : Heap) (k : KR) : Option Bool := match g, a, h with
  | 7, [], [] => F (fun y => k (.d ⟨.bool, y⟩) [])
  | _, _, _ => e
set_option maxRecDepth 100000 in
theorem law39_known.all (k : KR) : callK Try.prog ht 60 7 [] [] k = k (.d ⟨.bool, true⟩) [] := by kernel_rfl
theorem law39_known.look (d : Nat) (hd : 60 ≤ d) {e : Option Bool} {g : FuncId} {a : List AV} {h : Heap} {k : KR} (hx : law39_known.get law39_known e g a h k = some true) : e = some true ∨ callK Try.prog ht d g a h k = some true := by
  unfold law39_known.get at hx
  split at hx
  · exact .inr (callK_le hd _ _ _ _ _ (fun _ _ h => h) ((law39_known.all _).trans hx))
  · exact .inl hx
/-- function 31: slices.Clone[[]int64,int64] -/
noncomputable def slices_Clone_int64_int64.body (ns5 : List Int) (k1 : (List Int) → Option Bool) : Option Bool :=
  (cond_ (List.isEmpty ns5) (meet (k1 []) (cond_ (Nat.ble (((0 : Nat) + (List.length ns5)) * (8 : Nat)) (140737488355328 : Nat)) (k1 ([] ++ ns5)) none)) (cond_ (Nat.ble (((0 : Nat) + (List.length ns5)) * (8 : Nat)) (140737488355328 : Nat)) (k1 ([] ++ ns5)) none))
noncomputable def slices_Clone_int64_int64 (ns5 : List Int) (k1 : (List Int) → Option Bool) : Option Bool := slices_Clone_int64_int64.body ns5 k1
noncomputable def slices_Clone_int64_int64.get (F : (List Int) → ((List Int) → Option Bool) → Option Bool) (e : Option Bool) (g : FuncId) (a : List AV) (h : Heap) (k : KR) : Option Bool := match g, a, h with
  | 31, [(.bv 0 2 (.int .i64) ns5)], [] => F ns5 (fun y0 => k (.ref [1, 0]) [([1, 0], ⟨2, 1, (.data (.int .i64) y0)⟩)])
  | _, _, _ => e
noncomputable def slices_Clone_int64_int64.calls : RecF := fun g a h k => none
noncomputable def slices_Clone_int64_int64.loops : LoopF := fun b => none
set_option maxRecDepth 100000 in
theorem slices_Clone_int64_int64.eq (ns5 : List Int) (k : KR) : execL Try.prog ht 31 (callfOf (slices_Clone_int64_int64.calls)) (slices_Clone_int64_int64.loops) 0 (codeOf Try.f31) ⟨[(.bv 0 2 (.int .i64) ns5)] ++ List.replicate (Try.f31.ntmps - ([(.bv 0 2 (.int .i64) ns5)] : List AV).length) .undef, [], 2⟩ (leave Try.prog Try.f31 k) = slices_Clone_int64_int64.body ns5 (fun y0 => k (.ref [1, 0]) [([1, 0], ⟨2, 1, (.data (.int .i64) y0)⟩)]) := by kernel_rfl
theorem slices_Clone_int64_int64.ok (d : Nat) (hd : 1 ≤ d) (ns5 : List Int) (k : KR) (hx : slices_Clone_int64_int64 ns5 (fun y0 => k (.ref [1, 0]) [([1, 0], ⟨2, 1, (.data (.int .i64) y0)⟩)]) = some true) : callK Try.prog ht d 31 [(.bv 0 2 (.int .i64) ns5)] [] k = some true := by
  obtain ⟨d, rfl⟩ : ∃ e, d = e + 1 := ⟨d - 1, by omega⟩
  exact fn_ok (c := codeOf Try.f31) Try.func31 (by kernel_rfl) (rec := slices_Clone_int64_int64.calls) (fun g a h k hx => by
    cases hx) (loopf := slices_Clone_int64_int64.loops) (by
    have e : loopsOf (slices_Clone_int64_int64.loops) 0 (codeOf Try.f31) = [] := by kernel_rfl
    rw [e]
    intro p hp
    cases hp) ((slices_Clone_int64_int64.eq ns5 k).trans hx)
theorem slices_Clone_int64_int64.look (d : Nat) (hd : 1 ≤ d) {e : Option Bool} {g : FuncId} {a : List AV} {h : Heap} {k : KR} (hx : slices_Clone_int64_int64.get slices_Clone_int64_int64 e g a h k = some true) : e = some true ∨ callK Try.prog ht d g a h k = some true := by
  unfold slices_Clone_int64_int64.get at hx
  split at hx
  · exact .inr (slices_Clone_int64_int64.ok d hd _ _ hx)
  · exact .inl hx
/-- function 9: sheerleg/memory.New -/
noncomputable def memory_New.body (slices_Clone_int64_int64 : (List Int) → ((List Int) → Option Bool) → Option Bool) (ns4 : List Int) (k1 : Bool → (List Int) → Option Bool) : Option Bool :=
  (slices_Clone_int64_int64 ns4
  (fun ns6 => (k1 true ns6)))
noncomputable def memory_New (ns4 : List Int) (k1 : Bool → (List Int) → Option Bool) : Option Bool := memory_New.body slices_Clone_int64_int64 ns4 k1
noncomputable def memory_New.get (F : (List Int) → (Bool → (List Int) → Option Bool) → Option Bool) (e : Option Bool) (g : FuncId) (a : List AV) (h : Heap) (k : KR) : Option Bool := match g, a, h with
  | 9, [(.bv 0 2 (.int .i64) ns4)], [] => F ns4 (fun y0 y1 => k (.ptr [1, 0] 0 0) [([1, 0], ⟨61, 2, (.mix [(.agg [(.ref [1, 1]), (.d ⟨.bool, y0⟩)])])⟩), ([1, 1], ⟨2, 1, (.data (.int .i64) y1)⟩)])
  | _, _, _ => e
noncomputable def memory_New.calls (F0 : (List Int) → ((List Int) → Option Bool) → Option Bool) : RecF := fun g a h k => (slices_Clone_int64_int64.get F0 none g a h k)
noncomputable def memory_New.loops : LoopF := fun b => none
set_option maxRecDepth 100000 in
theorem memory_New.eq (F0 : (List Int) → ((List Int) → Option Bool) → Option Bool) (ns4 : List Int) (k : KR) : execL Try.prog ht 9 (callfOf (memory_New.calls F0)) (memory_New.loops) 0 (codeOf Try.f9) ⟨[(.bv 0 2 (.int .i64) ns4)] ++ List.replicate (Try.f9.ntmps - ([(.bv 0 2 (.int .i64) ns4)] : List AV).length) .undef, [], 2⟩ (leave Try.prog Try.f9 k) = memory_New.body F0 ns4 (fun y0 y1 => k (.ptr [1, 0] 0 0) [([1, 0], ⟨61, 2, (.mix [(.agg [(.ref [1, 1]), (.d ⟨.bool, y0⟩)])])⟩), ([1, 1], ⟨2, 1, (.data (.int .i64) y1)⟩)]) := by kernel_rfl
theorem memory_New.ok (d : Nat) (hd : 2 ≤ d) (ns4 : List Int) (k : KR) (hx : memory_New ns4 (fun y0 y1 => k (.ptr [1, 0] 0 0) [([1, 0], ⟨61, 2, (.mix [(.agg [(.ref [1, 1]), (.d ⟨.bool, y0⟩)])])⟩), ([1, 1], ⟨2, 1, (.data (.int .i64) y1)⟩)]) = some true) : callK Try.prog ht d 9 [(.bv 0 2 (.int .i64) ns4)] [] k = some true := by
  obtain ⟨d, rfl⟩ : ∃ e, d = e + 1 := ⟨d - 1, by omega⟩
  exact fn_ok (c := codeOf Try.f9) Try.func9 (by kernel_rfl) (rec := memory_New.calls slices_Clone_int64_int64) (fun g a h k hx => by
    rcases slices_Clone_int64_int64.look d (by omega) hx with hx | hx
    rotate_left
    · exact hx
    cases hx) (loopf := memory_New.loops) (by
    have e : loopsOf (memory_New.loops) 0 (codeOf Try.f9) = [] := by kernel_rfl
    rw [e]
    intro p hp
    cases hp) ((memory_New.eq slices_Clone_int64_int64 ns4 k).trans hx)
theorem memory_New.look (d : Nat) (hd : 2 ≤ d) {e : Option Bool} {g : FuncId} {a : List AV} {h : Heap} {k : KR} (hx : memory_New.get memory_New e g a h k = some true) : e = some true ∨ callK Try.prog ht d g a h k = some true := by
  unfold memory_New.get at hx
  split at hx
  · exact .inr (memory_New.ok d hd _ _ hx)
  · exact .inl hx
/-- function 29: (*sheerleg/memory.Memory).Grow -/
noncomputable def memory_Memory_Grow.body (n12 : Int) (b13 : Bool) (ns14 : List Int) (k1 : Int → Bool → Bool → (List Int) → Option Bool) (k2 : Int → Bool → Bool → (List Int) → Option Bool) : Option Bool :=
  (cond_ (! (! b13)) (cond_ (! (decide (n12 < (1 : Int)))) (cond_ (decide (n12 > (IntKind.wrap .i64 ((4194304 : Int) - (((List.length ns14) : Nat) : Int))))) (k1 (0 : Int) false b13 ns14) (cond_ ((decide ((0 : Int) ≤ n12)) && (Nat.ble (((List.length ns14) + (Int.toNat n12)) * (8 : Nat)) (140737488355328 : Nat))) (k2 (((List.length ns14) : Nat) : Int) true b13 (ns14 ++ (List.replicate (Int.toNat n12) (0 : Int)))) none)) (k1 (0 : Int) false b13 ns14)) (k1 (0 : Int) false b13 ns14))
noncomputable def memory_Memory_Grow (n12 : Int) (b13 : Bool) (ns14 : List Int) (k1 : Int → Bool → Bool → (List Int) → Option Bool) (k2 : Int → Bool → Bool → (List Int) → Option Bool) : Option Bool := memory_Memory_Grow.body n12 b13 ns14 k1 k2
noncomputable def memory_Memory_Grow.get (F : Int → Bool → (List Int) → (Int → Bool → Bool → (List Int) → Option Bool) → (Int → Bool → Bool → (List Int) → Option Bool) → Option Bool) (e : Option Bool) (g : FuncId) (a : List AV) (h : Heap) (k : KR) : Option Bool := match g, a, h with
  | 29, [(.ptr [0, 0] 0 0), (.d ⟨(.int .i64), n12⟩)], [([0, 0], ⟨61, 2, (.mix [(.agg [(.ref [0, 1]), (.d ⟨.bool, b13⟩)])])⟩), ([0, 1], ⟨2, 1, (.data (.int .i64) ns14)⟩)] => F n12 b13 ns14 (fun y0 y1 y2 y3 => k (.tup [(.d ⟨(.int .i64), y0⟩), (.d ⟨.bool, y1⟩)]) [([0, 0], ⟨61, 2, (.mix [(.agg [(.ref [0, 1]), (.d ⟨.bool, y2⟩)])])⟩), ([0, 1], ⟨2, 1, (.data (.int .i64) y3)⟩)]) (fun y0 y1 y2 y3 => k (.tup [(.d ⟨(.int .i64), y0⟩), (.d ⟨.bool, y1⟩)]) [([0, 0], ⟨61, 2, (.mix [(.agg [(.ref [1, 0]), (.d ⟨.bool, y2⟩)])])⟩), ([1, 0], ⟨2, 1, (.data (.int .i64) y3)⟩)])
  | _, _, _ => e
noncomputable def memory_Memory_Grow.calls : RecF := fun g a h k => none
noncomputable def memory_Memory_Grow.loops : LoopF := fun b => none
set_option maxRecDepth 100000 in
theorem memory_Memory_Grow.eq (n12 : Int) (b13 : Bool) (ns14 : List Int) (k : KR) : execL Try.prog ht 29 (callfOf (memory_Memory_Grow.calls)) (memory_Memory_Grow.loops) 0 (codeOf Try.f29) ⟨[(.ptr [0, 0] 0 0), (.d ⟨(.int .i64), n12⟩)] ++ List.replicate (Try.f29.ntmps - ([(.ptr [0, 0] 0 0), (.d ⟨(.int .i64), n12⟩)] : List AV).length) .undef, [([0, 0], ⟨61, 2, (.mix [(.agg [(.ref [0, 1]), (.d ⟨.bool, b13⟩)])])⟩), ([0, 1], ⟨2, 1, (.data (.int .i64) ns14)⟩)], 2⟩ (leave Try.prog Try.f29 k) = memory_Memory_Grow.body n12 b13 ns14 (fun y0 y1 y2 y3 => k (.tup [(.d ⟨(.int .i64), y0⟩), (.d ⟨.bool, y1⟩)]) [([0, 0], ⟨61, 2, (.mix [(.agg [(.ref [0, 1]), (.d ⟨.bool, y2⟩)])])⟩), ([0, 1], ⟨2, 1, (.data (.int .i64) y3)⟩)]) (fun y0 y1 y2 y3 => k (.tup [(.d ⟨(.int .i64), y0⟩), (.d ⟨.bool, y1⟩)]) [([0, 0], ⟨61, 2, (.mix [(.agg [(.ref [1, 0]), (.d ⟨.bool, y2⟩)])])⟩), ([1, 0], ⟨2, 1, (.data (.int .i64) y3)⟩)]) := by kernel_rfl
theorem memory_Memory_Grow.ok (d : Nat) (hd : 1 ≤ d) (n12 : Int) (b13 : Bool) (ns14 : List Int) (k : KR) (hx : memory_Memory_Grow n12 b13 ns14 (fun y0 y1 y2 y3 => k (.tup [(.d ⟨(.int .i64), y0⟩), (.d ⟨.bool, y1⟩)]) [([0, 0], ⟨61, 2, (.mix [(.agg [(.ref [0, 1]), (.d ⟨.bool, y2⟩)])])⟩), ([0, 1], ⟨2, 1, (.data (.int .i64) y3)⟩)]) (fun y0 y1 y2 y3 => k (.tup [(.d ⟨(.int .i64), y0⟩), (.d ⟨.bool, y1⟩)]) [([0, 0], ⟨61, 2, (.mix [(.agg [(.ref [1, 0]), (.d ⟨.bool, y2⟩)])])⟩), ([1, 0], ⟨2, 1, (.data (.int .i64) y3)⟩)]) = some true) : callK Try.prog ht d 29 [(.ptr [0, 0] 0 0), (.d ⟨(.int .i64), n12⟩)] [([0, 0], ⟨61, 2, (.mix [(.agg [(.ref [0, 1]), (.d ⟨.bool, b13⟩)])])⟩), ([0, 1], ⟨2, 1, (.data (.int .i64) ns14)⟩)] k = some true := by
  obtain ⟨d, rfl⟩ : ∃ e, d = e + 1 := ⟨d - 1, by omega⟩
  exact fn_ok (c := codeOf Try.f29) Try.func29 (by kernel_rfl) (rec := memory_Memory_Grow.calls) (fun g a h k hx => by
    cases hx) (loopf := memory_Memory_Grow.loops) (by
    have e : loopsOf (memory_Memory_Grow.loops) 0 (codeOf Try.f29) = [] := by kernel_rfl
    rw [e]
    intro p hp
    cases hp) ((memory_Memory_Grow.eq n12 b13 ns14 k).trans hx)
theorem memory_Memory_Grow.look (d : Nat) (hd : 1 ≤ d) {e : Option Bool} {g : FuncId} {a : List AV} {h : Heap} {k : KR} (hx : memory_Memory_Grow.get memory_Memory_Grow e g a h k = some true) : e = some true ∨ callK Try.prog ht d g a h k = some true := by
  unfold memory_Memory_Grow.get at hx
  split at hx
  · exact .inr (memory_Memory_Grow.ok d hd _ _ _ _ hx)
  · exact .inl hx
/-- function 30: sheerleg/stack.segment -/
noncomputable def stack_segment.body (n19 : Int) (n20 : Int) (k1 : (Int × Int × Int × Unit) → Option Bool) : Option Bool :=
  (k1 (n19, ((IntKind.wrap .i64 (n19 + (64 : Int))), ((IntKind.wrap .i64 (n19 + n20)), ()))))
noncomputable def stack_segment (n19 : Int) (n20 : Int) (k1 : (Int × Int × Int × Unit) → Option Bool) : Option Bool := stack_segment.body n19 n20 k1
noncomputable def stack_segment.get (F : Int → Int → ((Int × Int × Int × Unit) → Option Bool) → Option Bool) (e : Option Bool) (g : FuncId) (a : List AV) (h : Heap) (k : KR) : Option Bool := match g, a, h with
  | 30, [(.d ⟨(.int .i64), n19⟩), (.d ⟨(.int .i64), n20⟩)], [] => F n19 n20 (fun y0 => k (.d ⟨(.st [(.int .i64), (.int .i64), (.int .i64)]), y0⟩) [])
  | _, _, _ => e
noncomputable def stack_segment.calls : RecF := fun g a h k => none
noncomputable def stack_segment.loops : LoopF := fun b => none
set_option maxRecDepth 100000 in
theorem stack_segment.eq (n19 : Int) (n20 : Int) (k : KR) : execL Try.prog ht 30 (callfOf (stack_segment.calls)) (stack_segment.loops) 0 (codeOf Try.f30) ⟨[(.d ⟨(.int .i64), n19⟩), (.d ⟨(.int .i64), n20⟩)] ++ List.replicate (Try.f30.ntmps - ([(.d ⟨(.int .i64), n19⟩), (.d ⟨(.int .i64), n20⟩)] : List AV).length) .undef, [], 2⟩ (leave Try.prog Try.f30 k) = stack_segment.body n19 n20 (fun y0 => k (.d ⟨(.st [(.int .i64), (.int .i64), (.int .i64)]), y0⟩) []) := by kernel_rfl
theorem stack_segment.ok (d : Nat) (hd : 1 ≤ d) (n19 : Int) (n20 : Int) (k : KR) (hx : stack_segment n19 n20 (fun y0 => k (.d ⟨(.st [(.int .i64), (.int .i64), (.int .i64)]), y0⟩) []) = some true) : callK Try.prog ht d 30 [(.d ⟨(.int .i64), n19⟩), (.d ⟨(.int .i64), n20⟩)] [] k = some true := by
  obtain ⟨d, rfl⟩ : ∃ e, d = e + 1 := ⟨d - 1, by omega⟩
  exact fn_ok (c := codeOf Try.f30) Try.func30 (by kernel_rfl) (rec := stack_segment.calls) (fun g a h k hx => by
    cases hx) (loopf := stack_segment.loops) (by
    have e : loopsOf (stack_segment.loops) 0 (codeOf Try.f30) = [] := by kernel_rfl
    rw [e]
    intro p hp
    cases hp) ((stack_segment.eq n19 n20 k).trans hx)
theorem stack_segment.look (d : Nat) (hd : 1 ≤ d) {e : Option Bool} {g : FuncId} {a : List AV} {h : Heap} {k : KR} (hx : stack_segment.get stack_segment e g a h k = some true) : e = some true ∨ callK Try.prog ht d g a h k = some true := by
  unfold stack_segment.get at hx
  split at hx
  · exact .inr (stack_segment.ok d hd _ _ _ hx)
  · exact .inl hx
/-- function 8: sheerleg/stack.New -/
noncomputable def stack_New.body (memory_Memory_Grow : Int → Bool → (List Int) → (Int → Bool → Bool → (List Int) → Option Bool) → (Int → Bool → Bool → (List Int) → Option Bool) → Option Bool) (stack_segment : Int → Int → ((Int × Int × Int × Unit) → Option Bool) → Option Bool) (n9 : Int) (b10 : Bool) (ns11 : List Int) (k1 : Bool → Bool → (List Int) → Option Bool) (k2 : Bool → Bool → (List Int) → Int → Int → Int → Int → Int → Int → Int → Option Bool) (k3 : Bool → Bool → (List Int) → Option Bool) (k4 : Bool → Bool → (List Int) → Int → Int → Int → Int → Int → Int → Int → Option Bool) : Option Bool :=
  (cond_ (decide (n9 < (128 : Int))) (k1 false b10 ns11) (memory_Memory_Grow (128 : Int) b10 ns11
  (fun n15 b16 b17 ns18 => (cond_ (! b16) (k1 false b17 ns18) (stack_segment n15 (128 : Int)
  (fun t21 => (k2 true b17 ns18 t21.1 t21.2.1 t21.2.2.1 t21.2.2.1 (128 : Int) n9 (128 : Int))))))
  (fun n22 b23 b24 ns25 => (cond_ (! b23) (k3 false b24 ns25) (stack_segment n22 (128 : Int)
  (fun t26 => (k4 true b24 ns25 t26.1 t26.2.1 t26.2.2.1 t26.2.2.1 (128 : Int) n9 (128 : Int))))))))
noncomputable def stack_New (n9 : Int) (b10 : Bool) (ns11 : List Int) (k1 : Bool → Bool → (List Int) → Option Bool) (k2 : Bool → Bool → (List Int) → Int → Int → Int → Int → Int → Int → Int → Option Bool) (k3 : Bool → Bool → (List Int) → Option Bool) (k4 : Bool → Bool → (List Int) → Int → Int → Int → Int → Int → Int → Int → Option Bool) : Option Bool := stack_New.body memory_Memory_Grow stack_segment n9 b10 ns11 k1 k2 k3 k4
noncomputable def stack_New.get (F : Int → Bool → (List Int) → (Bool → Bool → (List Int) → Option Bool) → (Bool → Bool → (List Int) → Int → Int → Int → Int → Int → Int → Int → Option Bool) → (Bool → Bool → (List Int) → Option Bool) → (Bool → Bool → (List Int) → Int → Int → Int → Int → Int → Int → Int → Option Bool) → Option Bool) (e : Option Bool) (g : FuncId) (a : List AV) (h : Heap) (k : KR) : Option Bool := match g, a, h with
  | 8, [(.ptr [0, 0] 0 0), (.d ⟨(.int .i64), n9⟩)], [([0, 0], ⟨61, 2, (.mix [(.agg [(.ref [0, 1]), (.d ⟨.bool, b10⟩)])])⟩), ([0, 1], ⟨2, 1, (.data (.int .i64) ns11)⟩)] => F n9 b10 ns11 (fun y0 y1 y2 => k (.tup [.nilp, (.d ⟨.bool, y0⟩)]) [([0, 0], ⟨61, 2, (.mix [(.agg [(.ref [0, 1]), (.d ⟨.bool, y1⟩)])])⟩), ([0, 1], ⟨2, 1, (.data (.int .i64) y2)⟩)]) (fun y0 y1 y2 y3 y4 y5 y6 y7 y8 y9 => k (.tup [(.ptr [1, 0] 0 0), (.d ⟨.bool, y0⟩)]) [([0, 0], ⟨61, 2, (.mix [(.agg [(.ref [0, 1]), (.d ⟨.bool, y1⟩)])])⟩), ([0, 1], ⟨2, 1, (.data (.int .i64) y2)⟩), ([1, 0], ⟨53, 8, (.mix [(.agg [(.ptr [0, 0] 0 0), (.d ⟨(.int .i64), y3⟩), (.d ⟨(.int .i64), y4⟩), (.d ⟨(.int .i64), y5⟩), (.d ⟨(.int .i64), y6⟩), (.d ⟨(.int .i64), y7⟩), (.d ⟨(.int .i64), y8⟩), (.d ⟨(.int .i64), y9⟩)])])⟩)]) (fun y0 y1 y2 => k (.tup [.nilp, (.d ⟨.bool, y0⟩)]) [([0, 0], ⟨61, 2, (.mix [(.agg [(.ref [1, 0]), (.d ⟨.bool, y1⟩)])])⟩), ([1, 0], ⟨2, 1, (.data (.int .i64) y2)⟩)]) (fun y0 y1 y2 y3 y4 y5 y6 y7 y8 y9 => k (.tup [(.ptr [1, 1] 0 0), (.d ⟨.bool, y0⟩)]) [([0, 0], ⟨61, 2, (.mix [(.agg [(.ref [1, 0]), (.d ⟨.bool, y1⟩)])])⟩), ([1, 0], ⟨2, 1, (.data (.int .i64) y2)⟩), ([1, 1], ⟨53, 8, (.mix [(.agg [(.ptr [0, 0] 0 0), (.d ⟨(.int .i64), y3⟩), (.d ⟨(.int .i64), y4⟩), (.d ⟨(.int .i64), y5⟩), (.d ⟨(.int .i64), y6⟩), (.d ⟨(.int .i64), y7⟩), (.d ⟨(.int .i64), y8⟩), (.d ⟨(.int .i64), y9⟩)])])⟩)])
  | _, _, _ => e
noncomputable def stack_New.calls (F0 : Int → Bool → (List Int) → (Int → Bool → Bool → (List Int) → Option Bool) → (Int → Bool → Bool → (List Int) → Option Bool) → Option Bool) (F1 : Int → Int → ((Int × Int × Int × Unit) → Option Bool) → Option Bool) : RecF := fun g a h k => (memory_Memory_Grow.get F0 (stack_segment.get F1 none g a h k) g a h k)
noncomputable def stack_New.loops : LoopF := fun b => none
set_option maxRecDepth 100000 in
theorem stack_New.eq (F0 : Int → Bool → (List Int) → (Int → Bool → Bool → (List Int) → Option Bool) → (Int → Bool → Bool → (List Int) → Option Bool) → Option Bool) (F1 : Int → Int → ((Int × Int × Int × Unit) → Option Bool) → Option Bool) (n9 : Int) (b10 : Bool) (ns11 : List Int) (k : KR) : execL Try.prog ht 8 (callfOf (stack_New.calls F0 F1)) (stack_New.loops) 0 (codeOf Try.f8) ⟨[(.ptr [0, 0] 0 0), (.d ⟨(.int .i64), n9⟩)] ++ List.replicate (Try.f8.ntmps - ([(.ptr [0, 0] 0 0), (.d ⟨(.int .i64), n9⟩)] : List AV).length) .undef, [([0, 0], ⟨61, 2, (.mix [(.agg [(.ref [0, 1]), (.d ⟨.bool, b10⟩)])])⟩), ([0, 1], ⟨2, 1, (.data (.int .i64) ns11)⟩)], 2⟩ (leave Try.prog Try.f8 k) = stack_New.body F0 F1 n9 b10 ns11 (fun y0 y1 y2 => k (.tup [.nilp, (.d ⟨.bool, y0⟩)]) [([0, 0], ⟨61, 2, (.mix [(.agg [(.ref [0, 1]), (.d ⟨.bool, y1⟩)])])⟩), ([0, 1], ⟨2, 1, (.data (.int .i64) y2)⟩)]) (fun y0 y1 y2 y3 y4 y5 y6 y7 y8 y9 => k (.tup [(.ptr [1, 0] 0 0), (.d ⟨.bool, y0⟩)]) [([0, 0], ⟨61, 2, (.mix [(.agg [(.ref [0, 1]), (.d ⟨.bool, y1⟩)])])⟩), ([0, 1], ⟨2, 1, (.data (.int .i64) y2)⟩), ([1, 0], ⟨53, 8, (.mix [(.agg [(.ptr [0, 0] 0 0), (.d ⟨(.int .i64), y3⟩), (.d ⟨(.int .i64), y4⟩), (.d ⟨(.int .i64), y5⟩), (.d ⟨(.int .i64), y6⟩), (.d ⟨(.int .i64), y7⟩), (.d ⟨(.int .i64), y8⟩), (.d ⟨(.int .i64), y9⟩)])])⟩)]) (fun y0 y1 y2 => k (.tup [.nilp, (.d ⟨.bool, y0⟩)]) [([0, 0], ⟨61, 2, (.mix [(.agg [(.ref [1, 0]), (.d ⟨.bool, y1⟩)])])⟩), ([1, 0], ⟨2, 1, (.data (.int .i64) y2)⟩)]) (fun y0 y1 y2 y3 y4 y5 y6 y7 y8 y9 => k (.tup [(.ptr [1, 1] 0 0), (.d ⟨.bool, y0⟩)]) [([0, 0], ⟨61, 2, (.mix [(.agg [(.ref [1, 0]), (.d ⟨.bool, y1⟩)])])⟩), ([1, 0], ⟨2, 1, (.data (.int .i64) y2)⟩), ([1, 1], ⟨53, 8, (.mix [(.agg [(.ptr [0, 0] 0 0), (.d ⟨(.int .i64), y3⟩), (.d ⟨(.int .i64), y4⟩), (.d ⟨(.int .i64), y5⟩), (.d ⟨(.int .i64), y6⟩), (.d ⟨(.int .i64), y7⟩), (.d ⟨(.int .i64), y8⟩), (.d ⟨(.int .i64), y9⟩)])])⟩)]) := by kernel_rfl
theorem stack_New.ok (d : Nat) (hd : 2 ≤ d) (n9 : Int) (b10 : Bool) (ns11 : List Int) (k : KR) (hx : stack_New n9 b10 ns11 (fun y0 y1 y2 => k (.tup [.nilp, (.d ⟨.bool, y0⟩)]) [([0, 0], ⟨61, 2, (.mix [(.agg [(.ref [0, 1]), (.d ⟨.bool, y1⟩)])])⟩), ([0, 1], ⟨2, 1, (.data (.int .i64) y2)⟩)]) (fun y0 y1 y2 y3 y4 y5 y6 y7 y8 y9 => k (.tup [(.ptr [1, 0] 0 0), (.d ⟨.bool, y0⟩)]) [([0, 0], ⟨61, 2, (.mix [(.agg [(.ref [0, 1]), (.d ⟨.bool, y1⟩)])])⟩), ([0, 1], ⟨2, 1, (.data (.int .i64) y2)⟩), ([1, 0], ⟨53, 8, (.mix [(.agg [(.ptr [0, 0] 0 0), (.d ⟨(.int .i64), y3⟩), (.d ⟨(.int .i64), y4⟩), (.d ⟨(.int .i64), y5⟩), (.d ⟨(.int .i64), y6⟩), (.d ⟨(.int .i64), y7⟩), (.d ⟨(.int .i64), y8⟩), (.d ⟨(.int .i64), y9⟩)])])⟩)]) (fun y0 y1 y2 => k (.tup [.nilp, (.d ⟨.bool, y0⟩)]) [([0, 0], ⟨61, 2, (.mix [(.agg [(.ref [1, 0]), (.d ⟨.bool, y1⟩)])])⟩), ([1, 0], ⟨2, 1, (.data (.int .i64) y2)⟩)]) (fun y0 y1 y2 y3 y4 y5 y6 y7 y8 y9 => k (.tup [(.ptr [1, 1] 0 0), (.d ⟨.bool, y0⟩)]) [([0, 0], ⟨61, 2, (.mix [(.agg [(.ref [1, 0]), (.d ⟨.bool, y1⟩)])])⟩), ([1, 0], ⟨2, 1, (.data (.int .i64) y2)⟩), ([1, 1], ⟨53, 8, (.mix [(.agg [(.ptr [0, 0] 0 0), (.d ⟨(.int .i64), y3⟩), (.d ⟨(.int .i64), y4⟩), (.d ⟨(.int .i64), y5⟩), (.d ⟨(.int .i64), y6⟩), (.d ⟨(.int .i64), y7⟩), (.d ⟨(.int .i64), y8⟩), (.d ⟨(.int .i64), y9⟩)])])⟩)]) = some true) : callK Try.prog ht d 8 [(.ptr [0, 0] 0 0), (.d ⟨(.int .i64), n9⟩)] [([0, 0], ⟨61, 2, (.mix [(.agg [(.ref [0, 1]), (.d ⟨.bool, b10⟩)])])⟩), ([0, 1], ⟨2, 1, (.data (.int .i64) ns11)⟩)] k = some true := by
  obtain ⟨d, rfl⟩ : ∃ e, d = e + 1 := ⟨d - 1, by omega⟩
  exact fn_ok (c := codeOf Try.f8) Try.func8 (by kernel_rfl) (rec := stack_New.calls memory_Memory_Grow stack_segment) (fun g a h k hx => by
    rcases memory_Memory_Grow.look d (by omega) hx with hx | hx
    rotate_left
    · exact hx
    rcases stack_segment.look d (by omega) hx with hx | hx
    rotate_left
    · exact hx
    cases hx) (loopf := stack_New.loops) (by
    have e : loopsOf (stack_New.loops) 0 (codeOf Try.f8) = [] := by kernel_rfl
    rw [e]
    intro p hp
    cases hp) ((stack_New.eq memory_Memory_Grow stack_segment n9 b10 ns11 k).trans hx)
theorem stack_New.look (d : Nat) (hd : 2 ≤ d) {e : Option Bool} {g : FuncId} {a : List AV} {h : Heap} {k : KR} (hx : stack_New.get stack_New e g a h k = some true) : e = some true ∨ callK Try.prog ht d g a h k = some true := by
  unfold stack_New.get at hx
  split at hx
  · exact .inr (stack_New.ok d hd _ _ _ _ hx)
  · exact .inl hx
/-- function 37: the loop in block 0 -/
noncomputable def ref38_Grow_L0.body (ref38_Grow_L0 : (List Int) → Int → Int → (List Int) → ((List Int) → (List Int) → Option Bool) → Option Bool) (ns53 : List Int) (n54 : Int) (n55 : Int) (ns56 : List Int) (k1 : (List Int) → (List Int) → Option Bool) : Option Bool :=
  (cond_ (decide (n55 < n54)) (cond_ (Nat.ble (((List.length ns56) + (1 : Nat)) * (8 : Nat)) (140737488355328 : Nat)) (ref38_Grow_L0 ns53 n54 (IntKind.wrap .i64 (n55 + (1 : Int))) (ns56 ++ ((0 : Int) :: [])) k1) none) (k1 ns53 ns56))
noncomputable def ref38_Grow_L0 : Nat → (List Int) → Int → Int → (List Int) → ((List Int) → (List Int) → Option Bool) → Option Bool
  | 0 => fun _ _ _ _ _ => none
  | n + 1 => ref38_Grow_L0.body (ref38_Grow_L0 n)
noncomputable def ref38_Grow_L0.get (F : (List Int) → Int → Int → (List Int) → ((List Int) → (List Int) → Option Bool) → Option Bool) (e : Option Bool) (st : St) (k : KE) : Option Bool := match st with
  | ⟨sl, hp, m⟩ => match Nat.beq m 2, pickS 33 [0, 1, 7, 8] sl, hp with
    | true, some [(.bv 0 2 (.int .i64) ns53), (.d ⟨(.int .i64), n54⟩), (.ref [1, 0]), (.d ⟨(.int .i64), n55⟩)], [([1, 0], ⟨2, 1, (.data (.int .i64) ns56)⟩)] => F ns53 n54 n55 ns56 (fun y0 y1 => k (.exit 0) ⟨fillS 33 [0, 7] [(.bv 0 2 (.int .i64) y0), (.ref [1, 0])], [([1, 0], ⟨2, 1, (.data (.int .i64) y1)⟩)], 2⟩)
    | _, _, _ => e
noncomputable def ref38_Grow_L0.calls : RecF := fun g a h k => none
noncomputable def ref38_Grow_L0.loops : LoopF := fun b => none
set_option maxRecDepth 100000 in
theorem ref38_Grow_L0.step (S : (List Int) → Int → Int → (List Int) → ((List Int) → (List Int) → Option Bool) → Option Bool) (ns53 : List Int) (n54 : Int) (n55 : Int) (ns56 : List Int) (k : KE) : execL Try.prog ht 37 (callfOf (ref38_Grow_L0.calls)) (ref38_Grow_L0.loops) 0 (loopAt 0 (codeOf Try.f37)) ⟨fillS 33 [0, 1, 7, 8] [(.bv 0 2 (.int .i64) ns53), (.d ⟨(.int .i64), n54⟩), (.ref [1, 0]), (.d ⟨(.int .i64), n55⟩)], [([1, 0], ⟨2, 1, (.data (.int .i64) ns56)⟩)], 2⟩ (again (ref38_Grow_L0.get S none) (plan Try.prog (ht 37 0)) k) = ref38_Grow_L0.body S ns53 n54 n55 ns56 (fun y0 y1 => k (.exit 0) ⟨fillS 33 [0, 7] [(.bv 0 2 (.int .i64) y0), (.ref [1, 0])], [([1, 0], ⟨2, 1, (.data (.int .i64) y1)⟩)], 2⟩) := by kernel_rfl
theorem ref38_Grow_L0.ok (d : Nat) (hd : 0 ≤ d) : ∀ n st k, ref38_Grow_L0.get (ref38_Grow_L0 n) none st k = some true → iter n (plan Try.prog (ht 37 0)) (fun st k => execK Try.prog ht 37 (callfOf (callK Try.prog ht d)) 0 (loopAt 0 (codeOf Try.f37)) st k) st k = some true :=
  loop_ok (lfn := fun n st k => ref38_Grow_L0.get (ref38_Grow_L0 n) none st k) (rec := ref38_Grow_L0.calls) (fun g a h k hx => by
    cases hx) (loopf := ref38_Grow_L0.loops) (by
    have e : loopsOf (ref38_Grow_L0.loops) 0 (loopAt 0 (codeOf Try.f37)) = [] := by kernel_rfl
    rw [e]
    intro p hp
    cases hp) (fun st k h => by
    obtain ⟨sl, hp, m⟩ := st
    unfold ref38_Grow_L0.get at h
    dsimp only at h
    split at h
    · have h' : (none : Option Bool) = some true := h
      cases h'
    · cases h) (fun n st k h => by
    obtain ⟨sl, hp, m⟩ := st
    unfold ref38_Grow_L0.get at h
    dsimp only at h
    split at h
    · rename_i h1 h2
      obtain rfl := pickS_ok h2
      obtain rfl := Nat.eq_of_beq_eq_true h1
      exact (ref38_Grow_L0.step (ref38_Grow_L0 n) _ _ _ _ k).trans h
    · cases h)
theorem ref38_Grow_L0.look {F : (List Int) → Int → Int → (List Int) → ((List Int) → (List Int) → Option Bool) → Option Bool} {e : Option Bool} {st : St} {k : KE} (hx : ref38_Grow_L0.get F e st k = some true) : e = some true ∨ ref38_Grow_L0.get F none st k = some true := by
  obtain ⟨sl, hp, m⟩ := st
  unfold ref38_Grow_L0.get at hx ⊢
  dsimp only at hx ⊢
  split at hx
  · exact .inr hx
  · exact .inl hx
/-- function 37: sheerleg/sheerlegref38.Grow -/
noncomputable def ref38_Grow.body (ref38_Grow_L0 : (List Int) → Int → Int → (List Int) → ((List Int) → (List Int) → Option Bool) → Option Bool) (ns51 : List Int) (n52 : Int) (k1 : (List Int) → Int → Bool → Option Bool) : Option Bool :=
  (cond_ (! (decide (n52 < (1 : Int)))) (cond_ (decide (n52 > (IntKind.wrap .i64 ((4194304 : Int) - (((List.length ns51) : Nat) : Int))))) (k1 ns51 (0 : Int) false) (cond_ (Nat.ble ((List.length ns51) * (8 : Nat)) (140737488355328 : Nat)) (ref38_Grow_L0 ns51 n52 (0 : Int) ns51
  (fun ns57 ns58 => (k1 ns58 (((List.length ns57) : Nat) : Int) true))) none)) (k1 ns51 (0 : Int) false))
noncomputable def ref38_Grow (ns51 : List Int) (n52 : Int) (k1 : (List Int) → Int → Bool → Option Bool) : Option Bool := ref38_Grow.body (ref38_Grow_L0 ROUNDS) ns51 n52 k1
noncomputable def ref38_Grow.get (F : (List Int) → Int → ((List Int) → Int → Bool → Option Bool) → Option Bool) (e : Option Bool) (g : FuncId) (a : List AV) (h : Heap) (k : KR) : Option Bool := match g, a, h with
  | 37, [(.bv 0 2 (.int .i64) ns51), (.d ⟨(.int .i64), n52⟩)], [] => F ns51 n52 (fun y0 y1 y2 => k (.tup [(.bv 0 2 (.int .i64) y0), (.d ⟨(.int .i64), y1⟩), (.d ⟨.bool, y2⟩)]) [])
  | _, _, _ => e
noncomputable def ref38_Grow.calls : RecF := fun g a h k => none
noncomputable def ref38_Grow.loops (L0 : (List Int) → Int → Int → (List Int) → ((List Int) → (List Int) → Option Bool) → Option Bool) : LoopF := fun b => match Nat.beq b 0 with | true => some (fun st k => (ref38_Grow_L0.get L0 none st k)) | false => none
set_option maxRecDepth 100000 in
theorem ref38_Grow.eq (L0 : (List Int) → Int → Int → (List Int) → ((List Int) → (List Int) → Option Bool) → Option Bool) (ns51 : List Int) (n52 : Int) (k : KR) : execL Try.prog ht 37 (callfOf (ref38_Grow.calls)) (ref38_Grow.loops L0) 0 (codeOf Try.f37) ⟨[(.bv 0 2 (.int .i64) ns51), (.d ⟨(.int .i64), n52⟩)] ++ List.replicate (Try.f37.ntmps - ([(.bv 0 2 (.int .i64) ns51), (.d ⟨(.int .i64), n52⟩)] : List AV).length) .undef, [], 2⟩ (leave Try.prog Try.f37 k) = ref38_Grow.body L0 ns51 n52 (fun y0 y1 y2 => k (.tup [(.bv 0 2 (.int .i64) y0), (.d ⟨(.int .i64), y1⟩), (.d ⟨.bool, y2⟩)]) []) := by kernel_rfl
theorem ref38_Grow.ok (d : Nat) (hd : 1 ≤ d) (ns51 : List Int) (n52 : Int) (k : KR) (hx : ref38_Grow ns51 n52 (fun y0 y1 y2 => k (.tup [(.bv 0 2 (.int .i64) y0), (.d ⟨(.int .i64), y1⟩), (.d ⟨.bool, y2⟩)]) []) = some true) : callK Try.prog ht d 37 [(.bv 0 2 (.int .i64) ns51), (.d ⟨(.int .i64), n52⟩)] [] k = some true := by
  obtain ⟨d, rfl⟩ : ∃ e, d = e + 1 := ⟨d - 1, by omega⟩
  exact fn_ok (c := codeOf Try.f37) Try.func37 (by kernel_rfl) (rec := ref38_Grow.calls) (fun g a h k hx => by
    cases hx) (loopf := ref38_Grow.loops (ref38_Grow_L0 ROUNDS)) (by
    have e : loopsOf (ref38_Grow.loops (ref38_Grow_L0 ROUNDS)) 0 (codeOf Try.f37) = [(0, loopAt 0 (codeOf Try.f37))] := by kernel_rfl
    rw [e]
    intro p hp
    simp only [List.mem_cons, List.not_mem_nil, or_false] at hp
    rcases hp with rfl
    · refine loopRef_of (callf := callfOf (callK Try.prog ht d)) (callfOf_ref (callK_mono d)) fun lf st k hb hx => ?_
      cases hb
      rcases ref38_Grow_L0.look hx with hx | hx
      rotate_left
      · exact ref38_Grow_L0.ok d (by omega) _ _ _ hx
      cases hx) ((ref38_Grow.eq (ref38_Grow_L0 ROUNDS) ns51 n52 k).trans hx)
theorem ref38_Grow.look (d : Nat) (hd : 1 ≤ d) {e : Option Bool} {g : FuncId} {a : List AV} {h : Heap} {k : KR} (hx : ref38_Grow.get ref38_Grow e g a h k = some true) : e = some true ∨ callK Try.prog ht d g a h k = some true := by
  unfold ref38_Grow.get at hx
  split at hx
  · exact .inr (ref38_Grow.ok d hd _ _ _ hx)
  · exact .inl hx
/-- function 17: sheerleg/sheerlegref39.New -/
noncomputable def ref39_New.body (ref38_Grow : (List Int) → Int → ((List Int) → Int → Bool → Option Bool) → Option Bool) (ns49 : List Int) (n50 : Int) (k1 : Tc1 → Bool → Option Bool) : Option Bool :=
  (cond_ (decide (n50 < (128 : Int))) (k1 (ns49, ((0 : Int), ((0 : Int), ((0 : Int), ((0 : Int), ((0 : Int), ((0 : Int), ((0 : Int), (false, ()))))))))) false) (ref38_Grow ns49 (128 : Int)
  (fun ns59 n60 b61 => (cond_ (! b61) (k1 (ns59, ((0 : Int), ((0 : Int), ((0 : Int), ((0 : Int), ((0 : Int), ((0 : Int), ((0 : Int), (false, ()))))))))) false) (k1 (ns59, (n60, ((IntKind.wrap .i64 (n60 + (64 : Int))), ((IntKind.wrap .i64 (n60 + (128 : Int))), ((IntKind.wrap .i64 (n60 + (128 : Int))), ((128 : Int), (n50, ((128 : Int), (true, ()))))))))) true)))))
noncomputable def ref39_New (ns49 : List Int) (n50 : Int) (k1 : Tc1 → Bool → Option Bool) : Option Bool := ref39_New.body ref38_Grow ns49 n50 k1
noncomputable def ref39_New.get (F : (List Int) → Int → (Tc1 → Bool → Option Bool) → Option Bool) (e : Option Bool) (g : FuncId) (a : List AV) (h : Heap) (k : KR) : Option Bool := match g, a, h with
  | 17, [(.bv 0 2 (.int .i64) ns49), (.d ⟨(.int .i64), n50⟩)], [] => F ns49 n50 (fun y0 y1 => k (.tup [(.d ⟨(.st [(.sl 2 (.int .i64)), (.int .i64), (.int .i64), (.int .i64), (.int .i64), (.int .i64), (.int .i64), (.int .i64), .bool]), y0⟩), (.d ⟨.bool, y1⟩)]) [])
  | _, _, _ => e
noncomputable def ref39_New.calls (F0 : (List Int) → Int → ((List Int) → Int → Bool → Option Bool) → Option Bool) : RecF := fun g a h k => (ref38_Grow.get F0 none g a h k)
noncomputable def ref39_New.loops : LoopF := fun b => none
set_option maxRecDepth 100000 in
theorem ref39_New.eq (F0 : (List Int) → Int → ((List Int) → Int → Bool → Option Bool) → Option Bool) (ns49 : List Int) (n50 : Int) (k : KR) : execL Try.prog ht 17 (callfOf (ref39_New.calls F0)) (ref39_New.loops) 0 (codeOf Try.f17) ⟨[(.bv 0 2 (.int .i64) ns49), (.d ⟨(.int .i64), n50⟩)] ++ List.replicate (Try.f17.ntmps - ([(.bv 0 2 (.int .i64) ns49), (.d ⟨(.int .i64), n50⟩)] : List AV).length) .undef, [], 2⟩ (leave Try.prog Try.f17 k) = ref39_New.body F0 ns49 n50 (fun y0 y1 => k (.tup [(.d ⟨(.st [(.sl 2 (.int .i64)), (.int .i64), (.int .i64), (.int .i64), (.int .i64), (.int .i64), (.int .i64), (.int .i64), .bool]), y0⟩), (.d ⟨.bool, y1⟩)]) []) := by kernel_rfl
theorem ref39_New.ok (d : Nat) (hd : 2 ≤ d) (ns49 : List Int) (n50 : Int) (k : KR) (hx : ref39_New ns49 n50 (fun y0 y1 => k (.tup [(.d ⟨(.st [(.sl 2 (.int .i64)), (.int .i64), (.int .i64), (.int .i64), (.int .i64), (.int .i64), (.int .i64), (.int .i64), .bool]), y0⟩), (.d ⟨.bool, y1⟩)]) []) = some true) : callK Try.prog ht d 17 [(.bv 0 2 (.int .i64) ns49), (.d ⟨(.int .i64), n50⟩)] [] k = some true := by
  obtain ⟨d, rfl⟩ : ∃ e, d = e + 1 := ⟨d - 1, by omega⟩
  exact fn_ok (c := codeOf Try.f17) Try.func17 (by kernel_rfl) (rec := ref39_New.calls ref38_Grow) (fun g a h k hx => by
    rcases ref38_Grow.look d (by omega) hx with hx | hx
    rotate_left
    · exact hx
    cases hx) (loopf := ref39_New.loops) (by
    have e : loopsOf (ref39_New.loops) 0 (codeOf Try.f17) = [] := by kernel_rfl
    rw [e]
    intro p hp
    cases hp) ((ref39_New.eq ref38_Grow ns49 n50 k).trans hx)
theorem ref39_New.look (d : Nat) (hd : 2 ≤ d) {e : Option Bool} {g : FuncId} {a : List AV} {h : Heap} {k : KR} (hx : ref39_New.get ref39_New e g a h k = some true) : e = some true ∨ callK Try.prog ht d g a h k = some true := by
  unfold ref39_New.get at hx
  split at hx
  · exact .inr (ref39_New.ok d hd _ _ _ hx)
  · exact .inl hx
/-- function 53: sheerleg/sheerlegref39.in -/
noncomputable def ref39_in.body (t85 : Tc1) (n86 : Int) (k1 : Bool → Option Bool) : Option Bool :=
  (cond_ (decide (n86 ≥ t85.2.1)) (k1 (decide (n86 < t85.2.2.2.1))) (k1 false))
noncomputable def ref39_in (t85 : Tc1) (n86 : Int) (k1 : Bool → Option Bool) : Option Bool := ref39_in.body t85 n86 k1
noncomputable def ref39_in.get (F : Tc1 → Int → (Bool → Option Bool) → Option Bool) (e : Option Bool) (g : FuncId) (a : List AV) (h : Heap) (k : KR) : Option Bool := match g, a, h with
  | 53, [(.d ⟨(.st [(.sl 2 (.int .i64)), (.int .i64), (.int .i64), (.int .i64), (.int .i64), (.int .i64), (.int .i64), (.int .i64), .bool]), t85⟩), (.d ⟨(.int .i64), n86⟩)], [] => F t85 n86 (fun y0 => k (.d ⟨.bool, y0⟩) [])
  | _, _, _ => e
noncomputable def ref39_in.calls : RecF := fun g a h k => none
noncomputable def ref39_in.loops : LoopF := fun b => none
set_option maxRecDepth 100000 in
theorem ref39_in.eq (t85 : Tc1) (n86 : Int) (k : KR) : execL Try.prog ht 53 (callfOf (ref39_in.calls)) (ref39_in.loops) 0 (codeOf Try.f53) ⟨[(.d ⟨(.st [(.sl 2 (.int .i64)), (.int .i64), (.int .i64), (.int .i64), (.int .i64), (.int .i64), (.int .i64), (.int .i64), .bool]), t85⟩), (.d ⟨(.int .i64), n86⟩)] ++ List.replicate (Try.f53.ntmps - ([(.d ⟨(.st [(.sl 2 (.int .i64)), (.int .i64), (.int .i64), (.int .i64), (.int .i64), (.int .i64), (.int .i64), (.int .i64), .bool]), t85⟩), (.d ⟨(.int .i64), n86⟩)] : List AV).length) .undef, [], 2⟩ (leave Try.prog Try.f53 k) = ref39_in.body t85 n86 (fun y0 => k (.d ⟨.bool, y0⟩) []) := by kernel_rfl
theorem ref39_in.ok (d : Nat) (hd : 1 ≤ d) (t85 : Tc1) (n86 : Int) (k : KR) (hx : ref39_in t85 n86 (fun y0 => k (.d ⟨.bool, y0⟩) []) = some true) : callK Try.prog ht d 53 [(.d ⟨(.st [(.sl 2 (.int .i64)), (.int .i64), (.int .i64), (.int .i64), (.int .i64), (.int .i64), (.int .i64), (.int .i64), .bool]), t85⟩), (.d ⟨(.int .i64), n86⟩)] [] k = some true := by
  obtain ⟨d, rfl⟩ : ∃ e, d = e + 1 := ⟨d - 1, by omega⟩
  exact fn_ok (c := codeOf Try.f53) Try.func53 (by kernel_rfl) (rec := ref39_in.calls) (fun g a h k hx => by
    cases hx) (loopf := ref39_in.loops) (by
    have e : loopsOf (ref39_in.loops) 0 (codeOf Try.f53) = [] := by kernel_rfl
    rw [e]
    intro p hp
    cases hp) ((ref39_in.eq t85 n86 k).trans hx)
theorem ref39_in.look (d : Nat) (hd : 1 ≤ d) {e : Option Bool} {g : FuncId} {a : List AV} {h : Heap} {k : KR} (hx : ref39_in.get ref39_in e g a h k = some true) : e = some true ∨ callK Try.prog ht d g a h k = some true := by
  unfold ref39_in.get at hx
  split at hx
  · exact .inr (ref39_in.ok d hd _ _ _ hx)
  · exact .inl hx
/-- function 57: sheerleg/sheerlegref38.Store -/
noncomputable def ref38_Store.body (ns124 : List Int) (n125 : Int) (n126 : Int) (k1 : (List Int) → Bool → Option Bool) : Option Bool :=
  (cond_ (! (decide (n125 < (0 : Int)))) (cond_ (decide (n125 ≥ (((List.length ns124) : Nat) : Int))) (k1 ns124 false) (cond_ (Nat.ble ((List.length ns124) * (8 : Nat)) (140737488355328 : Nat)) (cond_ ((decide ((0 : Int) ≤ n125)) && (decide (n125 < (((List.length ns124) : Nat) : Int)))) (k1 (List.set ns124 (Int.toNat n125) n126) true) none) none)) (k1 ns124 false))
noncomputable def ref38_Store (ns124 : List Int) (n125 : Int) (n126 : Int) (k1 : (List Int) → Bool → Option Bool) : Option Bool := ref38_Store.body ns124 n125 n126 k1
noncomputable def ref38_Store.get (F : (List Int) → Int → Int → ((List Int) → Bool → Option Bool) → Option Bool) (e : Option Bool) (g : FuncId) (a : List AV) (h : Heap) (k : KR) : Option Bool := match g, a, h with
  | 57, [(.bv 0 2 (.int .i64) ns124), (.d ⟨(.int .i64), n125⟩), (.d ⟨(.int .i64), n126⟩)], [] => F ns124 n125 n126 (fun y0 y1 => k (.tup [(.bv 0 2 (.int .i64) y0), (.d ⟨.bool, y1⟩)]) [])
  | _, _, _ => e
noncomputable def ref38_Store.calls : RecF := fun g a h k => none
noncomputable def ref38_Store.loops : LoopF := fun b => none
set_option maxRecDepth 100000 in
theorem ref38_Store.eq (ns124 : List Int) (n125 : Int) (n126 : Int) (k : KR) : execL Try.prog ht 57 (callfOf (ref38_Store.calls)) (ref38_Store.loops) 0 (codeOf Try.f57) ⟨[(.bv 0 2 (.int .i64) ns124), (.d ⟨(.int .i64), n125⟩), (.d ⟨(.int .i64), n126⟩)] ++ List.replicate (Try.f57.ntmps - ([(.bv 0 2 (.int .i64) ns124), (.d ⟨(.int .i64), n125⟩), (.d ⟨(.int .i64), n126⟩)] : List AV).length) .undef, [], 2⟩ (leave Try.prog Try.f57 k) = ref38_Store.body ns124 n125 n126 (fun y0 y1 => k (.tup [(.bv 0 2 (.int .i64) y0), (.d ⟨.bool, y1⟩)]) []) := by kernel_rfl
theorem ref38_Store.ok (d : Nat) (hd : 1 ≤ d) (ns124 : List Int) (n125 : Int) (n126 : Int) (k : KR) (hx : ref38_Store ns124 n125 n126 (fun y0 y1 => k (.tup [(.bv 0 2 (.int .i64) y0), (.d ⟨.bool, y1⟩)]) []) = some true) : callK Try.prog ht d 57 [(.bv 0 2 (.int .i64) ns124), (.d ⟨(.int .i64), n125⟩), (.d ⟨(.int .i64), n126⟩)] [] k = some true := by
  obtain ⟨d, rfl⟩ : ∃ e, d = e + 1 := ⟨d - 1, by omega⟩
  exact fn_ok (c := codeOf Try.f57) Try.func57 (by kernel_rfl) (rec := ref38_Store.calls) (fun g a h k hx => by
    cases hx) (loopf := ref38_Store.loops) (by
    have e : loopsOf (ref38_Store.loops) 0 (codeOf Try.f57) = [] := by kernel_rfl
    rw [e]
    intro p hp
    cases hp) ((ref38_Store.eq ns124 n125 n126 k).trans hx)
theorem ref38_Store.look (d : Nat) (hd : 1 ≤ d) {e : Option Bool} {g : FuncId} {a : List AV} {h : Heap} {k : KR} (hx : ref38_Store.get ref38_Store e g a h k = some true) : e = some true ∨ callK Try.prog ht d g a h k = some true := by
  unfold ref38_Store.get at hx
  split at hx
  · exact .inr (ref38_Store.ok d hd _ _ _ _ hx)
  · exact .inl hx
/-- function 52: sheerleg/sheerlegref39.write -/
noncomputable def ref39_write.body (ref39_in : Tc1 → Int → (Bool → Option Bool) → Option Bool) (ref38_Store : (List Int) → Int → Int → ((List Int) → Bool → Option Bool) → Option Bool) (t120 : Tc1) (n121 : Int) (n122 : Int) (k1 : Tc1 → Bool → Option Bool) : Option Bool :=
  (ref39_in t120 n121
  (fun b123 => (cond_ (! b123) (k1 (t120.1, (t120.2.1, (t120.2.2.1, (t120.2.2.2.1, (t120.2.2.2.2.1, (t120.2.2.2.2.2.1, (t120.2.2.2.2.2.2.1, (t120.2.2.2.2.2.2.2.1, (t120.2.2.2.2.2.2.2.2.1, ()))))))))) false) (ref38_Store t120.1 n121 n122
  (fun ns127 b128 => (k1 (((ns127, (t120.2.1, (t120.2.2.1, (t120.2.2.2.1, (t120.2.2.2.2.1, (t120.2.2.2.2.2.1, (t120.2.2.2.2.2.2.1, (t120.2.2.2.2.2.2.2.1, (t120.2.2.2.2.2.2.2.2.1, ()))))))))).1, ((ns127, (t120.2.1, (t120.2.2.1, (t120.2.2.2.1, (t120.2.2.2.2.1, (t120.2.2.2.2.2.1, (t120.2.2.2.2.2.2.1, (t120.2.2.2.2.2.2.2.1, (t120.2.2.2.2.2.2.2.2.1, ()))))))))).2.1, ((ns127, (t120.2.1, (t120.2.2.1, (t120.2.2.2.1, (t120.2.2.2.2.1, (t120.2.2.2.2.2.1, (t120.2.2.2.2.2.2.1, (t120.2.2.2.2.2.2.2.1, (t120.2.2.2.2.2.2.2.2.1, ()))))))))).2.2.1, ((ns127, (t120.2.1, (t120.2.2.1, (t120.2.2.2.1, (t120.2.2.2.2.1, (t120.2.2.2.2.2.1, (t120.2.2.2.2.2.2.1, (t120.2.2.2.2.2.2.2.1, (t120.2.2.2.2.2.2.2.2.1, ()))))))))).2.2.2.1, ((ns127, (t120.2.1, (t120.2.2.1, (t120.2.2.2.1, (t120.2.2.2.2.1, (t120.2.2.2.2.2.1, (t120.2.2.2.2.2.2.1, (t120.2.2.2.2.2.2.2.1, (t120.2.2.2.2.2.2.2.2.1, ()))))))))).2.2.2.2.1, ((ns127, (t120.2.1, (t120.2.2.1, (t120.2.2.2.1, (t120.2.2.2.2.1, (t120.2.2.2.2.2.1, (t120.2.2.2.2.2.2.1, (t120.2.2.2.2.2.2.2.1, (t120.2.2.2.2.2.2.2.2.1, ()))))))))).2.2.2.2.2.1, ((ns127, (t120.2.1, (t120.2.2.1, (t120.2.2.2.1, (t120.2.2.2.2.1, (t120.2.2.2.2.2.1, (t120.2.2.2.2.2.2.1, (t120.2.2.2.2.2.2.2.1, (t120.2.2.2.2.2.2.2.2.1, ()))))))))).2.2.2.2.2.2.1, ((if ((IntKind.wrap .i64 (n121 - (ns127, (t120.2.1, (t120.2.2.1, (t120.2.2.2.1, (t120.2.2.2.2.1, (t120.2.2.2.2.2.1, (t120.2.2.2.2.2.2.1, (t120.2.2.2.2.2.2.2.1, (t120.2.2.2.2.2.2.2.2.1, ()))))))))).2.1)) < (ns127, (t120.2.1, (t120.2.2.1, (t120.2.2.2.1, (t120.2.2.2.2.1, (t120.2.2.2.2.2.1, (t120.2.2.2.2.2.2.1, (t120.2.2.2.2.2.2.2.1, (t120.2.2.2.2.2.2.2.2.1, ()))))))))).2.2.2.2.2.2.2.1) then (IntKind.wrap .i64 (n121 - (ns127, (t120.2.1, (t120.2.2.1, (t120.2.2.2.1, (t120.2.2.2.2.1, (t120.2.2.2.2.2.1, (t120.2.2.2.2.2.2.1, (t120.2.2.2.2.2.2.2.1, (t120.2.2.2.2.2.2.2.2.1, ()))))))))).2.1)) else (ns127, (t120.2.1, (t120.2.2.1, (t120.2.2.2.1, (t120.2.2.2.2.1, (t120.2.2.2.2.2.1, (t120.2.2.2.2.2.2.1, (t120.2.2.2.2.2.2.2.1, (t120.2.2.2.2.2.2.2.2.1, ()))))))))).2.2.2.2.2.2.2.1), ((ns127, (t120.2.1, (t120.2.2.1, (t120.2.2.2.1, (t120.2.2.2.2.1, (t120.2.2.2.2.2.1, (t120.2.2.2.2.2.2.1, (t120.2.2.2.2.2.2.2.1, (t120.2.2.2.2.2.2.2.2.1, ()))))))))).2.2.2.2.2.2.2.2.1, ()))))))))).1, (((ns127, (t120.2.1, (t120.2.2.1, (t120.2.2.2.1, (t120.2.2.2.2.1, (t120.2.2.2.2.2.1, (t120.2.2.2.2.2.2.1, (t120.2.2.2.2.2.2.2.1, (t120.2.2.2.2.2.2.2.2.1, ()))))))))).1, ((ns127, (t120.2.1, (t120.2.2.1, (t120.2.2.2.1, (t120.2.2.2.2.1, (t120.2.2.2.2.2.1, (t120.2.2.2.2.2.2.1, (t120.2.2.2.2.2.2.2.1, (t120.2.2.2.2.2.2.2.2.1, ()))))))))).2.1, ((ns127, (t120.2.1, (t120.2.2.1, (t120.2.2.2.1, (t120.2.2.2.2.1, (t120.2.2.2.2.2.1, (t120.2.2.2.2.2.2.1, (t120.2.2.2.2.2.2.2.1, (t120.2.2.2.2.2.2.2.2.1, ()))))))))).2.2.1, ((ns127, (t120.2.1, (t120.2.2.1, (t120.2.2.2.1, (t120.2.2.2.2.1, (t120.2.2.2.2.2.1, (t120.2.2.2.2.2.2.1, (t120.2.2.2.2.2.2.2.1, (t120.2.2.2.2.2.2.2.2.1, ()))))))))).2.2.2.1, ((ns127, (t120.2.1, (t120.2.2.1, (t120.2.2.2.1, (t120.2.2.2.2.1, (t120.2.2.2.2.2.1, (t120.2.2.2.2.2.2.1, (t120.2.2.2.2.2.2.2.1, (t120.2.2.2.2.2.2.2.2.1, ()))))))))).2.2.2.2.1, ((ns127, (t120.2.1, (t120.2.2.1, (t120.2.2.2.1, (t120.2.2.2.2.1, (t120.2.2.2.2.2.1, (t120.2.2.2.2.2.2.1, (t120.2.2.2.2.2.2.2.1, (t120.2.2.2.2.2.2.2.2.1, ()))))))))).2.2.2.2.2.1, ((ns127, (t120.2.1, (t120.2.2.1, (t120.2.2.2.1, (t120.2.2.2.2.1, (t120.2.2.2.2.2.1, (t120.2.2.2.2.2.2.1, (t120.2.2.2.2.2.2.2.1, (t120.2.2.2.2.2.2.2.2.1, ()))))))))).2.2.2.2.2.2.1, ((if ((IntKind.wrap .i64 (n121 - (ns127, (t120.2.1, (t120.2.2.1, (t120.2.2.2.1, (t120.2.2.2.2.1, (t120.2.2.2.2.2.1, (t120.2.2.2.2.2.2.1, (t120.2.2.2.2.2.2.2.1, (t120.2.2.2.2.2.2.2.2.1, ()))))))))).2.1)) < (ns127, (t120.2.1, (t120.2.2.1, (t120.2.2.2.1, (t120.2.2.2.2.1, (t120.2.2.2.2.2.1, (t120.2.2.2.2.2.2.1, (t120.2.2.2.2.2.2.2.1, (t120.2.2.2.2.2.2.2.2.1, ()))))))))).2.2.2.2.2.2.2.1) then (IntKind.wrap .i64 (n121 - (ns127, (t120.2.1, (t120.2.2.1, (t120.2.2.2.1, (t120.2.2.2.2.1, (t120.2.2.2.2.2.1, (t120.2.2.2.2.2.2.1, (t120.2.2.2.2.2.2.2.1, (t120.2.2.2.2.2.2.2.2.1, ()))))))))).2.1)) else (ns127, (t120.2.1, (t120.2.2.1, (t120.2.2.2.1, (t120.2.2.2.2.1, (t120.2.2.2.2.2.1, (t120.2.2.2.2.2.2.1, (t120.2.2.2.2.2.2.2.1, (t120.2.2.2.2.2.2.2.2.1, ()))))))))).2.2.2.2.2.2.2.1), ((ns127, (t120.2.1, (t120.2.2.1, (t120.2.2.2.1, (t120.2.2.2.2.1, (t120.2.2.2.2.2.1, (t120.2.2.2.2.2.2.1, (t120.2.2.2.2.2.2.2.1, (t120.2.2.2.2.2.2.2.2.1, ()))))))))).2.2.2.2.2.2.2.2.1, ()))))))))).2.1, (((ns127, (t120.2.1, (t120.2.2.1, (t120.2.2.2.1, (t120.2.2.2.2.1, (t120.2.2.2.2.2.1, (t120.2.2.2.2.2.2.1, (t120.2.2.2.2.2.2.2.1, (t120.2.2.2.2.2.2.2.2.1, ()))))))))).1, ((ns127, (t120.2.1, (t120.2.2.1, (t120.2.2.2.1, (t120.2.2.2.2.1, (t120.2.2.2.2.2.1, (t120.2.2.2.2.2.2.1, (t120.2.2.2.2.2.2.2.1, (t120.2.2.2.2.2.2.2.2.1, ()))))))))).2.1, ((ns127, (t120.2.1, (t120.2.2.1, (t120.2.2.2.1, (t120.2.2.2.2.1, (t120.2.2.2.2.2.1, (t120.2.2.2.2.2.2.1, (t120.2.2.2.2.2.2.2.1, (t120.2.2.2.2.2.2.2.2.1, ()))))))))).2.2.1, ((ns127, (t120.2.1, (t120.2.2.1, (t120.2.2.2.1, (t120.2.2.2.2.1, (t120.2.2.2.2.2.1, (t120.2.2.2.2.2.2.1, (t120.2.2.2.2.2.2.2.1, (t120.2.2.2.2.2.2.2.2.1, ()))))))))).2.2.2.1, ((ns127, (t120.2.1, (t120.2.2.1, (t120.2.2.2.1, (t120.2.2.2.2.1, (t120.2.2.2.2.2.1, (t120.2.2.2.2.2.2.1, (t120.2.2.2.2.2.2.2.1, (t120.2.2.2.2.2.2.2.2.1, ()))))))))).2.2.2.2.1, ((ns127, (t120.2.1, (t120.2.2.1, (t120.2.2.2.1, (t120.2.2.2.2.1, (t120.2.2.2.2.2.1, (t120.2.2.2.2.2.2.1, (t120.2.2.2.2.2.2.2.1, (t120.2.2.2.2.2.2.2.2.1, ()))))))))).2.2.2.2.2.1, ((ns127, (t120.2.1, (t120.2.2.1, (t120.2.2.2.1, (t120.2.2.2.2.1, (t120.2.2.2.2.2.1, (t120.2.2.2.2.2.2.1, (t120.2.2.2.2.2.2.2.1, (t120.2.2.2.2.2.2.2.2.1, ()))))))))).2.2.2.2.2.2.1, ((if ((IntKind.wrap .i64 (n121 - (ns127, (t120.2.1, (t120.2.2.1, (t120.2.2.2.1, (t120.2.2.2.2.1, (t120.2.2.2.2.2.1, (t120.2.2.2.2.2.2.1, (t120.2.2.2.2.2.2.2.1, (t120.2.2.2.2.2.2.2.2.1, ()))))))))).2.1)) < (ns127, (t120.2.1, (t120.2.2.1, (t120.2.2.2.1, (t120.2.2.2.2.1, (t120.2.2.2.2.2.1, (t120.2.2.2.2.2.2.1, (t120.2.2.2.2.2.2.2.1, (t120.2.2.2.2.2.2.2.2.1, ()))))))))).2.2.2.2.2.2.2.1) then (IntKind.wrap .i64 (n121 - (ns127, (t120.2.1, (t120.2.2.1, (t120.2.2.2.1, (t120.2.2.2.2.1, (t120.2.2.2.2.2.1, (t120.2.2.2.2.2.2.1, (t120.2.2.2.2.2.2.2.1, (t120.2.2.2.2.2.2.2.2.1, ()))))))))).2.1)) else (ns127, (t120.2.1, (t120.2.2.1, (t120.2.2.2.1, (t120.2.2.2.2.1, (t120.2.2.2.2.2.1, (t120.2.2.2.2.2.2.1, (t120.2.2.2.2.2.2.2.1, (t120.2.2.2.2.2.2.2.2.1, ()))))))))).2.2.2.2.2.2.2.1), ((ns127, (t120.2.1, (t120.2.2.1, (t120.2.2.2.1, (t120.2.2.2.2.1, (t120.2.2.2.2.2.1, (t120.2.2.2.2.2.2.1, (t120.2.2.2.2.2.2.2.1, (t120.2.2.2.2.2.2.2.2.1, ()))))))))).2.2.2.2.2.2.2.2.1, ()))))))))).2.2.1, (((ns127, (t120.2.1, (t120.2.2.1, (t120.2.2.2.1, (t120.2.2.2.2.1, (t120.2.2.2.2.2.1, (t120.2.2.2.2.2.2.1, (t120.2.2.2.2.2.2.2.1, (t120.2.2.2.2.2.2.2.2.1, ()))))))))).1, ((ns127, (t120.2.1, (t120.2.2.1, (t120.2.2.2.1, (t120.2.2.2.2.1, (t120.2.2.2.2.2.1, (t120.2.2.2.2.2.2.1, (t120.2.2.2.2.2.2.2.1, (t120.2.2.2.2.2.2.2.2.1, ()))))))))).2.1, ((ns127, (t120.2.1, (t120.2.2.1, (t120.2.2.2.1, (t120.2.2.2.2.1, (t120.2.2.2.2.2.1, (t120.2.2.2.2.2.2.1, (t120.2.2.2.2.2.2.2.1, (t120.2.2.2.2.2.2.2.2.1, ()))))))))).2.2.1, ((ns127, (t120.2.1, (t120.2.2.1, (t120.2.2.2.1, (t120.2.2.2.2.1, (t120.2.2.2.2.2.1, (t120.2.2.2.2.2.2.1, (t120.2.2.2.2.2.2.2.1, (t120.2.2.2.2.2.2.2.2.1, ()))))))))).2.2.2.1, ((ns127, (t120.2.1, (t120.2.2.1, (t120.2.2.2.1, (t120.2.2.2.2.1, (t120.2.2.2.2.2.1, (t120.2.2.2.2.2.2.1, (t120.2.2.2.2.2.2.2.1, (t120.2.2.2.2.2.2.2.2.1, ()))))))))).2.2.2.2.1, ((ns127, (t120.2.1, (t120.2.2.1, (t120.2.2.2.1, (t120.2.2.2.2.1, (t120.2.2.2.2.2.1, (t120.2.2.2.2.2.2.1, (t120.2.2.2.2.2.2.2.1, (t120.2.2.2.2.2.2.2.2.1, ()))))))))).2.2.2.2.2.1, ((ns127, (t120.2.1, (t120.2.2.1, (t120.2.2.2.1, (t120.2.2.2.2.1, (t120.2.2.2.2.2.1, (t120.2.2.2.2.2.2.1, (t120.2.2.2.2.2.2.2.1, (t120.2.2.2.2.2.2.2.2.1, ()))))))))).2.2.2.2.2.2.1, ((if ((IntKind.wrap .i64 (n121 - (ns127, (t120.2.1, (t120.2.2.1, (t120.2.2.2.1, (t120.2.2.2.2.1, (t120.2.2.2.2.2.1, (t120.2.2.2.2.2.2.1, (t120.2.2.2.2.2.2.2.1, (t120.2.2.2.2.2.2.2.2.1, ()))))))))).2.1)) < (ns127, (t120.2.1, (t120.2.2.1, (t120.2.2.2.1, (t120.2.2.2.2.1, (t120.2.2.2.2.2.1, (t120.2.2.2.2.2.2.1, (t120.2.2.2.2.2.2.2.1, (t120.2.2.2.2.2.2.2.2.1, ()))))))))).2.2.2.2.2.2.2.1) then (IntKind.wrap .i64 (n121 - (ns127, (t120.2.1, (t120.2.2.1, (t120.2.2.2.1, (t120.2.2.2.2.1, (t120.2.2.2.2.2.1, (t120.2.2.2.2.2.2.1, (t120.2.2.2.2.2.2.2.1, (t120.2.2.2.2.2.2.2.2.1, ()))))))))).2.1)) else (ns127, (t120.2.1, (t120.2.2.1, (t120.2.2.2.1, (t120.2.2.2.2.1, (t120.2.2.2.2.2.1, (t120.2.2.2.2.2.2.1, (t120.2.2.2.2.2.2.2.1, (t120.2.2.2.2.2.2.2.2.1, ()))))))))).2.2.2.2.2.2.2.1), ((ns127, (t120.2.1, (t120.2.2.1, (t120.2.2.2.1, (t120.2.2.2.2.1, (t120.2.2.2.2.2.1, (t120.2.2.2.2.2.2.1, (t120.2.2.2.2.2.2.2.1, (t120.2.2.2.2.2.2.2.2.1, ()))))))))).2.2.2.2.2.2.2.2.1, ()))))))))).2.2.2.1, (((ns127, (t120.2.1, (t120.2.2.1, (t120.2.2.2.1, (t120.2.2.2.2.1, (t120.2.2.2.2.2.1, (t120.2.2.2.2.2.2.1, (t120.2.2.2.2.2.2.2.1, (t120.2.2.2.2.2.2.2.2.1, ()))))))))).1, ((ns127, (t120.2.1, (t120.2.2.1, (t120.2.2.2.1, (t120.2.2.2.2.1, (t120.2.2.2.2.2.1, (t120.2.2.2.2.2.2.1, (t120.2.2.2.2.2.2.2.1, (t120.2.2.2.2.2.2.2.2.1, ()))))))))).2.1, ((ns127, (t120.2.1, (t120.2.2.1, (t120.2.2.2.1, (t120.2.2.2.2.1, (t120.2.2.2.2.2.1, (t120.2.2.2.2.2.2.1, (t120.2.2.2.2.2.2.2.1, (t120.2.2.2.2.2.2.2.2.1, ()))))))))).2.2.1, ((ns127, (t120.2.1, (t120.2.2.1, (t120.2.2.2.1, (t120.2.2.2.2.1, (t120.2.2.2.2.2.1, (t120.2.2.2.2.2.2.1, (t120.2.2.2.2.2.2.2.1, (t120.2.2.2.2.2.2.2.2.1, ()))))))))).2.2.2.1, ((ns127, (t120.2.1, (t120.2.2.1, (t120.2.2.2.1, (t120.2.2.2.2.1, (t120.2.2.2.2.2.1, (t120.2.2.2.2.2.2.1, (t120.2.2.2.2.2.2.2.1, (t120.2.2.2.2.2.2.2.2.1, ()))))))))).2.2.2.2.1, ((ns127, (t120.2.1, (t120.2.2.1, (t120.2.2.2.1, (t120.2.2.2.2.1, (t120.2.2.2.2.2.1, (t120.2.2.2.2.2.2.1, (t120.2.2.2.2.2.2.2.1, (t120.2.2.2.2.2.2.2.2.1, ()))))))))).2.2.2.2.2.1, ((ns127, (t120.2.1, (t120.2.2.1, (t120.2.2.2.1, (t120.2.2.2.2.1, (t120.2.2.2.2.2.1, (t120.2.2.2.2.2.2.1, (t120.2.2.2.2.2.2.2.1, (t120.2.2.2.2.2.2.2.2.1, ()))))))))).2.2.2.2.2.2.1, ((if ((IntKind.wrap .i64 (n121 - (ns127, (t120.2.1, (t120.2.2.1, (t120.2.2.2.1, (t120.2.2.2.2.1, (t120.2.2.2.2.2.1, (t120.2.2.2.2.2.2.1, (t120.2.2.2.2.2.2.2.1, (t120.2.2.2.2.2.2.2.2.1, ()))))))))).2.1)) < (ns127, (t120.2.1, (t120.2.2.1, (t120.2.2.2.1, (t120.2.2.2.2.1, (t120.2.2.2.2.2.1, (t120.2.2.2.2.2.2.1, (t120.2.2.2.2.2.2.2.1, (t120.2.2.2.2.2.2.2.2.1, ()))))))))).2.2.2.2.2.2.2.1) then (IntKind.wrap .i64 (n121 - (ns127, (t120.2.1, (t120.2.2.1, (t120.2.2.2.1, (t120.2.2.2.2.1, (t120.2.2.2.2.2.1, (t120.2.2.2.2.2.2.1, (t120.2.2.2.2.2.2.2.1, (t120.2.2.2.2.2.2.2.2.1, ()))))))))).2.1)) else (ns127, (t120.2.1, (t120.2.2.1, (t120.2.2.2.1, (t120.2.2.2.2.1, (t120.2.2.2.2.2.1, (t120.2.2.2.2.2.2.1, (t120.2.2.2.2.2.2.2.1, (t120.2.2.2.2.2.2.2.2.1, ()))))))))).2.2.2.2.2.2.2.1), ((ns127, (t120.2.1, (t120.2.2.1, (t120.2.2.2.1, (t120.2.2.2.2.1, (t120.2.2.2.2.2.1, (t120.2.2.2.2.2.2.1, (t120.2.2.2.2.2.2.2.1, (t120.2.2.2.2.2.2.2.2.1, ()))))))))).2.2.2.2.2.2.2.2.1, ()))))))))).2.2.2.2.1, (((ns127, (t120.2.1, (t120.2.2.1, (t120.2.2.2.1, (t120.2.2.2.2.1, (t120.2.2.2.2.2.1, (t120.2.2.2.2.2.2.1, (t120.2.2.2.2.2.2.2.1, (t120.2.2.2.2.2.2.2.2.1, ()))))))))).1, ((ns127, (t120.2.1, (t120.2.2.1, (t120.2.2.2.1, (t120.2.2.2.2.1, (t120.2.2.2.2.2.1, (t120.2.2.2.2.2.2.1, (t120.2.2.2.2.2.2.2.1, (t120.2.2.2.2.2.2.2.2.1, ()))))))))).2.1, ((ns127, (t120.2.1, (t120.2.2.1, (t120.2.2.2.1, (t120.2.2.2.2.1, (t120.2.2.2.2.2.1, (t120.2.2.2.2.2.2.1, (t120.2.2.2.2.2.2.2.1, (t120.2.2.2.2.2.2.2.2.1, ()))))))))).2.2.1, ((ns127, (t120.2.1, (t120.2.2.1, (t120.2.2.2.1, (t120.2.2.2.2.1, (t120.2.2.2.2.2.1, (t120.2.2.2.2.2.2.1, (t120.2.2.2.2.2.2.2.1, (t120.2.2.2.2.2.2.2.2.1, ()))))))))).2.2.2.1, ((ns127, (t120.2.1, (t120.2.2.1, (t120.2.2.2.1, (t120.2.2.2.2.1, (t120.2.2.2.2.2.1, (t120.2.2.2.2.2.2.1, (t120.2.2.2.2.2.2.2.1, (t120.2.2.2.2.2.2.2.2.1, ()))))))))).2.2.2.2.1, ((ns127, (t120.2.1, (t120.2.2.1, (t120.2.2.2.1, (t120.2.2.2.2.1, (t120.2.2.2.2.2.1, (t120.2.2.2.2.2.2.1, (t120.2.2.2.2.2.2.2.1, (t120.2.2.2.2.2.2.2.2.1, ()))))))))).2.2.2.2.2.1, ((ns127, (t120.2.1, (t120.2.2.1, (t120.2.2.2.1, (t120.2.2.2.2.1, (t120.2.2.2.2.2.1, (t120.2.2.2.2.2.2.1, (t120.2.2.2.2.2.2.2.1, (t120.2.2.2.2.2.2.2.2.1, ()))))))))).2.2.2.2.2.2.1, ((if ((IntKind.wrap .i64 (n121 - (ns127, (t120.2.1, (t120.2.2.1, (t120.2.2.2.1, (t120.2.2.2.2.1, (t120.2.2.2.2.2.1, (t120.2.2.2.2.2.2.1, (t120.2.2.2.2.2.2.2.1, (t120.2.2.2.2.2.2.2.2.1, ()))))))))).2.1)) < (ns127, (t120.2.1, (t120.2.2.1, (t120.2.2.2.1, (t120.2.2.2.2.1, (t120.2.2.2.2.2.1, (t120.2.2.2.2.2.2.1, (t120.2.2.2.2.2.2.2.1, (t120.2.2.2.2.2.2.2.2.1, ()))))))))).2.2.2.2.2.2.2.1) then (IntKind.wrap .i64 (n121 - (ns127, (t120.2.1, (t120.2.2.1, (t120.2.2.2.1, (t120.2.2.2.2.1, (t120.2.2.2.2.2.1, (t120.2.2.2.2.2.2.1, (t120.2.2.2.2.2.2.2.1, (t120.2.2.2.2.2.2.2.2.1, ()))))))))).2.1)) else (ns127, (t120.2.1, (t120.2.2.1, (t120.2.2.2.1, (t120.2.2.2.2.1, (t120.2.2.2.2.2.1, (t120.2.2.2.2.2.2.1, (t120.2.2.2.2.2.2.2.1, (t120.2.2.2.2.2.2.2.2.1, ()))))))))).2.2.2.2.2.2.2.1), ((ns127, (t120.2.1, (t120.2.2.1, (t120.2.2.2.1, (t120.2.2.2.2.1, (t120.2.2.2.2.2.1, (t120.2.2.2.2.2.2.1, (t120.2.2.2.2.2.2.2.1, (t120.2.2.2.2.2.2.2.2.1, ()))))))))).2.2.2.2.2.2.2.2.1, ()))))))))).2.2.2.2.2.1, (((ns127, (t120.2.1, (t120.2.2.1, (t120.2.2.2.1, (t120.2.2.2.2.1, (t120.2.2.2.2.2.1, (t120.2.2.2.2.2.2.1, (t120.2.2.2.2.2.2.2.1, (t120.2.2.2.2.2.2.2.2.1, ()))))))))).1, ((ns127, (t120.2.1, (t120.2.2.1, (t120.2.2.2.1, (t120.2.2.2.2.1, (t120.2.2.2.2.2.1, (t120.2.2.2.2.2.2.1, (t120.2.2.2.2.2.2.2.1, (t120.2.2.2.2.2.2.2.2.1, ()))))))))).2.1, ((ns127, (t120.2.1, (t120.2.2.1, (t120.2.2.2.1, (t120.2.2.2.2.1, (t120.2.2.2.2.2.1, (t120.2.2.2.2.2.2.1, (t120.2.2.2.2.2.2.2.1, (t120.2.2.2.2.2.2.2.2.1, ()))))))))).2.2.1, ((ns127, (t120.2.1, (t120.2.2.1, (t120.2.2.2.1, (t120.2.2.2.2.1, (t120.2.2.2.2.2.1, (t120.2.2.2.2.2.2.1, (t120.2.2.2.2.2.2.2.1, (t120.2.2.2.2.2.2.2.2.1, ()))))))))).2.2.2.1, ((ns127, (t120.2.1, (t120.2.2.1, (t120.2.2.2.1, (t120.2.2.2.2.1, (t120.2.2.2.2.2.1, (t120.2.2.2.2.2.2.1, (t120.2.2.2.2.2.2.2.1, (t120.2.2.2.2.2.2.2.2.1, ()))))))))).2.2.2.2.1, ((ns127, (t120.2.1, (t120.2.2.1, (t120.2.2.2.1, (t120.2.2.2.2.1, (t120.2.2.2.2.2.1, (t120.2.2.2.2.2.2.1, (t120.2.2.2.2.2.2.2.1, (t120.2.2.2.2.2.2.2.2.1, ()))))))))).2.2.2.2.2.1, ((ns127, (t120.2.1, (t120.2.2.1, (t120.2.2.2.1, (t120.2.2.2.2.1, (t120.2.2.2.2.2.1, (t120.2.2.2.2.2.2.1, (t120.2.2.2.2.2.2.2.1, (t120.2.2.2.2.2.2.2.2.1, ()))))))))).2.2.2.2.2.2.1, ((if ((IntKind.wrap .i64 (n121 - (ns127, (t120.2.1, (t120.2.2.1, (t120.2.2.2.1, (t120.2.2.2.2.1, (t120.2.2.2.2.2.1, (t120.2.2.2.2.2.2.1, (t120.2.2.2.2.2.2.2.1, (t120.2.2.2.2.2.2.2.2.1, ()))))))))).2.1)) < (ns127, (t120.2.1, (t120.2.2.1, (t120.2.2.2.1, (t120.2.2.2.2.1, (t120.2.2.2.2.2.1, (t120.2.2.2.2.2.2.1, (t120.2.2.2.2.2.2.2.1, (t120.2.2.2.2.2.2.2.2.1, ()))))))))).2.2.2.2.2.2.2.1) then (IntKind.wrap .i64 (n121 - (ns127, (t120.2.1, (t120.2.2.1, (t120.2.2.2.1, (t120.2.2.2.2.1, (t120.2.2.2.2.2.1, (t120.2.2.2.2.2.2.1, (t120.2.2.2.2.2.2.2.1, (t120.2.2.2.2.2.2.2.2.1, ()))))))))).2.1)) else (ns127, (t120.2.1, (t120.2.2.1, (t120.2.2.2.1, (t120.2.2.2.2.1, (t120.2.2.2.2.2.1, (t120.2.2.2.2.2.2.1, (t120.2.2.2.2.2.2.2.1, (t120.2.2.2.2.2.2.2.2.1, ()))))))))).2.2.2.2.2.2.2.1), ((ns127, (t120.2.1, (t120.2.2.1, (t120.2.2.2.1, (t120.2.2.2.2.1, (t120.2.2.2.2.2.1, (t120.2.2.2.2.2.2.1, (t120.2.2.2.2.2.2.2.1, (t120.2.2.2.2.2.2.2.2.1, ()))))))))).2.2.2.2.2.2.2.2.1, ()))))))))).2.2.2.2.2.2.1, (((ns127, (t120.2.1, (t120.2.2.1, (t120.2.2.2.1, (t120.2.2.2.2.1, (t120.2.2.2.2.2.1, (t120.2.2.2.2.2.2.1, (t120.2.2.2.2.2.2.2.1, (t120.2.2.2.2.2.2.2.2.1, ()))))))))).1, ((ns127, (t120.2.1, (t120.2.2.1, (t120.2.2.2.1, (t120.2.2.2.2.1, (t120.2.2.2.2.2.1, (t120.2.2.2.2.2.2.1, (t120.2.2.2.2.2.2.2.1, (t120.2.2.2.2.2.2.2.2.1, ()))))))))).2.1, ((ns127, (t120.2.1, (t120.2.2.1, (t120.2.2.2.1, (t120.2.2.2.2.1, (t120.2.2.2.2.2.1, (t120.2.2.2.2.2.2.1, (t120.2.2.2.2.2.2.2.1, (t120.2.2.2.2.2.2.2.2.1, ()))))))))).2.2.1, ((ns127, (t120.2.1, (t120.2.2.1, (t120.2.2.2.1, (t120.2.2.2.2.1, (t120.2.2.2.2.2.1, (t120.2.2.2.2.2.2.1, (t120.2.2.2.2.2.2.2.1, (t120.2.2.2.2.2.2.2.2.1, ()))))))))).2.2.2.1, ((ns127, (t120.2.1, (t120.2.2.1, (t120.2.2.2.1, (t120.2.2.2.2.1, (t120.2.2.2.2.2.1, (t120.2.2.2.2.2.2.1, (t120.2.2.2.2.2.2.2.1, (t120.2.2.2.2.2.2.2.2.1, ()))))))))).2.2.2.2.1, ((ns127, (t120.2.1, (t120.2.2.1, (t120.2.2.2.1, (t120.2.2.2.2.1, (t120.2.2.2.2.2.1, (t120.2.2.2.2.2.2.1, (t120.2.2.2.2.2.2.2.1, (t120.2.2.2.2.2.2.2.2.1, ()))))))))).2.2.2.2.2.1, ((ns127, (t120.2.1, (t120.2.2.1, (t120.2.2.2.1, (t120.2.2.2.2.1, (t120.2.2.2.2.2.1, (t120.2.2.2.2.2.2.1, (t120.2.2.2.2.2.2.2.1, (t120.2.2.2.2.2.2.2.2.1, ()))))))))).2.2.2.2.2.2.1, ((if ((IntKind.wrap .i64 (n121 - (ns127, (t120.2.1, (t120.2.2.1, (t120.2.2.2.1, (t120.2.2.2.2.1, (t120.2.2.2.2.2.1, (t120.2.2.2.2.2.2.1, (t120.2.2.2.2.2.2.2.1, (t120.2.2.2.2.2.2.2.2.1, ()))))))))).2.1)) < (ns127, (t120.2.1, (t120.2.2.1, (t120.2.2.2.1, (t120.2.2.2.2.1, (t120.2.2.2.2.2.1, (t120.2.2.2.2.2.2.1, (t120.2.2.2.2.2.2.2.1, (t120.2.2.2.2.2.2.2.2.1, ()))))))))).2.2.2.2.2.2.2.1) then (IntKind.wrap .i64 (n121 - (ns127, (t120.2.1, (t120.2.2.1, (t120.2.2.2.1, (t120.2.2.2.2.1, (t120.2.2.2.2.2.1, (t120.2.2.2.2.2.2.1, (t120.2.2.2.2.2.2.2.1, (t120.2.2.2.2.2.2.2.2.1, ()))))))))).2.1)) else (ns127, (t120.2.1, (t120.2.2.1, (t120.2.2.2.1, (t120.2.2.2.2.1, (t120.2.2.2.2.2.1, (t120.2.2.2.2.2.2.1, (t120.2.2.2.2.2.2.2.1, (t120.2.2.2.2.2.2.2.2.1, ()))))))))).2.2.2.2.2.2.2.1), ((ns127, (t120.2.1, (t120.2.2.1, (t120.2.2.2.1, (t120.2.2.2.2.1, (t120.2.2.2.2.2.1, (t120.2.2.2.2.2.2.1, (t120.2.2.2.2.2.2.2.1, (t120.2.2.2.2.2.2.2.2.1, ()))))))))).2.2.2.2.2.2.2.2.1, ()))))))))).2.2.2.2.2.2.2.1, (((ns127, (t120.2.1, (t120.2.2.1, (t120.2.2.2.1, (t120.2.2.2.2.1, (t120.2.2.2.2.2.1, (t120.2.2.2.2.2.2.1, (t120.2.2.2.2.2.2.2.1, (t120.2.2.2.2.2.2.2.2.1, ()))))))))).1, ((ns127, (t120.2.1, (t120.2.2.1, (t120.2.2.2.1, (t120.2.2.2.2.1, (t120.2.2.2.2.2.1, (t120.2.2.2.2.2.2.1, (t120.2.2.2.2.2.2.2.1, (t120.2.2.2.2.2.2.2.2.1, ()))))))))).2.1, ((ns127, (t120.2.1, (t120.2.2.1, (t120.2.2.2.1, (t120.2.2.2.2.1, (t120.2.2.2.2.2.1, (t120.2.2.2.2.2.2.1, (t120.2.2.2.2.2.2.2.1, (t120.2.2.2.2.2.2.2.2.1, ()))))))))).2.2.1, ((ns127, (t120.2.1, (t120.2.2.1, (t120.2.2.2.1, (t120.2.2.2.2.1, (t120.2.2.2.2.2.1, (t120.2.2.2.2.2.2.1, (t120.2.2.2.2.2.2.2.1, (t120.2.2.2.2.2.2.2.2.1, ()))))))))).2.2.2.1, ((ns127, (t120.2.1, (t120.2.2.1, (t120.2.2.2.1, (t120.2.2.2.2.1, (t120.2.2.2.2.2.1, (t120.2.2.2.2.2.2.1, (t120.2.2.2.2.2.2.2.1, (t120.2.2.2.2.2.2.2.2.1, ()))))))))).2.2.2.2.1, ((ns127, (t120.2.1, (t120.2.2.1, (t120.2.2.2.1, (t120.2.2.2.2.1, (t120.2.2.2.2.2.1, (t120.2.2.2.2.2.2.1, (t120.2.2.2.2.2.2.2.1, (t120.2.2.2.2.2.2.2.2.1, ()))))))))).2.2.2.2.2.1, ((ns127, (t120.2.1, (t120.2.2.1, (t120.2.2.2.1, (t120.2.2.2.2.1, (t120.2.2.2.2.2.1, (t120.2.2.2.2.2.2.1, (t120.2.2.2.2.2.2.2.1, (t120.2.2.2.2.2.2.2.2.1, ()))))))))).2.2.2.2.2.2.1, ((if ((IntKind.wrap .i64 (n121 - (ns127, (t120.2.1, (t120.2.2.1, (t120.2.2.2.1, (t120.2.2.2.2.1, (t120.2.2.2.2.2.1, (t120.2.2.2.2.2.2.1, (t120.2.2.2.2.2.2.2.1, (t120.2.2.2.2.2.2.2.2.1, ()))))))))).2.1)) < (ns127, (t120.2.1, (t120.2.2.1, (t120.2.2.2.1, (t120.2.2.2.2.1, (t120.2.2.2.2.2.1, (t120.2.2.2.2.2.2.1, (t120.2.2.2.2.2.2.2.1, (t120.2.2.2.2.2.2.2.2.1, ()))))))))).2.2.2.2.2.2.2.1) then (IntKind.wrap .i64 (n121 - (ns127, (t120.2.1, (t120.2.2.1, (t120.2.2.2.1, (t120.2.2.2.2.1, (t120.2.2.2.2.2.1, (t120.2.2.2.2.2.2.1, (t120.2.2.2.2.2.2.2.1, (t120.2.2.2.2.2.2.2.2.1, ()))))))))).2.1)) else (ns127, (t120.2.1, (t120.2.2.1, (t120.2.2.2.1, (t120.2.2.2.2.1, (t120.2.2.2.2.2.1, (t120.2.2.2.2.2.2.1, (t120.2.2.2.2.2.2.2.1, (t120.2.2.2.2.2.2.2.2.1, ()))))))))).2.2.2.2.2.2.2.1), ((ns127, (t120.2.1, (t120.2.2.1, (t120.2.2.2.1, (t120.2.2.2.2.1, (t120.2.2.2.2.2.1, (t120.2.2.2.2.2.2.1, (t120.2.2.2.2.2.2.2.1, (t120.2.2.2.2.2.2.2.2.1, ()))))))))).2.2.2.2.2.2.2.2.1, ()))))))))).2.2.2.2.2.2.2.2.1, ()))))))))) b128))))))
noncomputable def ref39_write (t120 : Tc1) (n121 : Int) (n122 : Int) (k1 : Tc1 → Bool → Option Bool) : Option Bool := ref39_write.body ref39_in ref38_Store t120 n121 n122 k1
noncomputable def ref39_write.get (F : Tc1 → Int → Int → (Tc1 → Bool → Option Bool) → Option Bool) (e : Option Bool) (g : FuncId) (a : List AV) (h : Heap) (k : KR) : Option Bool := match g, a, h with
  | 52, [(.d ⟨(.st [(.sl 2 (.int .i64)), (.int .i64), (.int .i64), (.int .i64), (.int .i64), (.int .i64), (.int .i64), (.int .i64), .bool]), t120⟩), (.d ⟨(.int .i64), n121⟩), (.d ⟨(.int .i64), n122⟩)], [] => F t120 n121 n122 (fun y0 y1 => k (.tup [(.d ⟨(.st [(.sl 2 (.int .i64)), (.int .i64), (.int .i64), (.int .i64), (.int .i64), (.int .i64), (.int .i64), (.int .i64), .bool]), y0⟩), (.d ⟨.bool, y1⟩)]) [])
  | _, _, _ => e
noncomputable def ref39_write.calls (F0 : Tc1 → Int → (Bool → Option Bool) → Option Bool) (F1 : (List Int) → Int → Int → ((List Int) → Bool → Option Bool) → Option Bool) : RecF := fun g a h k => (ref39_in.get F0 (ref38_Store.get F1 none g a h k) g a h k)
noncomputable def ref39_write.loops : LoopF := fun b => none
set_option maxRecDepth 100000 in
theorem ref39_write.eq (F0 : Tc1 → Int → (Bool → Option Bool) → Option Bool) (F1 : (List Int) → Int → Int → ((List Int) → Bool → Option Bool) → Option Bool) (t120 : Tc1) (n121 : Int) (n122 : Int) (k : KR) : execL Try.prog ht 52 (callfOf (ref39_write.calls F0 F1)) (ref39_write.loops) 0 (codeOf Try.f52) ⟨[(.d ⟨(.st [(.sl 2 (.int .i64)), (.int .i64), (.int .i64), (.int .i64), (.int .i64), (.int .i64), (.int .i64), (.int .i64), .bool]), t120⟩), (.d ⟨(.int .i64), n121⟩), (.d ⟨(.int .i64), n122⟩)] ++ List.replicate (Try.f52.ntmps - ([(.d ⟨(.st [(.sl 2 (.int .i64)), (.int .i64), (.int .i64), (.int .i64), (.int .i64), (.int .i64), (.int .i64), (.int .i64), .bool]), t120⟩), (.d ⟨(.int .i64), n121⟩), (.d ⟨(.int .i64), n122⟩)] : List AV).length) .undef, [], 2⟩ (leave Try.prog Try.f52 k) = ref39_write.body F0 F1 t120 n121 n122 (fun y0 y1 => k (.tup [(.d ⟨(.st [(.sl 2 (.int .i64)), (.int .i64), (.int .i64), (.int .i64), (.int .i64), (.int .i64), (.int .i64), (.int .i64), .bool]), y0⟩), (.d ⟨.bool, y1⟩)]) []) := by kernel_rfl
theorem ref39_write.ok (d : Nat) (hd : 2 ≤ d) (t120 : Tc1) (n121 : Int) (n122 : Int) (k : KR) (hx : ref39_write t120 n121 n122 (fun y0 y1 => k (.tup [(.d ⟨(.st [(.sl 2 (.int .i64)), (.int .i64), (.int .i64), (.int .i64), (.int .i64), (.int .i64), (.int .i64), (.int .i64), .bool]), y0⟩), (.d ⟨.bool, y1⟩)]) []) = some true) : callK Try.prog ht d 52 [(.d ⟨(.st [(.sl 2 (.int .i64)), (.int .i64), (.int .i64), (.int .i64), (.int .i64), (.int .i64), (.int .i64), (.int .i64), .bool]), t120⟩), (.d ⟨(.int .i64), n121⟩), (.d ⟨(.int .i64), n122⟩)] [] k = some true := by
  obtain ⟨d, rfl⟩ : ∃ e, d = e + 1 := ⟨d - 1, by omega⟩
  exact fn_ok (c := codeOf Try.f52) Try.func52 (by kernel_rfl) (rec := ref39_write.calls ref39_in ref38_Store) (fun g a h k hx => by
    rcases ref39_in.look d (by omega) hx with hx | hx
    rotate_left
    · exact hx
    rcases ref38_Store.look d (by omega) hx with hx | hx
    rotate_left
    · exact hx
    cases hx) (loopf := ref39_write.loops) (by
    have e : loopsOf (ref39_write.loops) 0 (codeOf Try.f52) = [] := by kernel_rfl
    rw [e]
    intro p hp
    cases hp) ((ref39_write.eq ref39_in ref38_Store t120 n121 n122 k).trans hx)
theorem ref39_write.look (d : Nat) (hd : 2 ≤ d) {e : Option Bool} {g : FuncId} {a : List AV} {h : Heap} {k : KR} (hx : ref39_write.get ref39_write e g a h k = some true) : e = some true ∨ callK Try.prog ht d g a h k = some true := by
  unfold ref39_write.get at hx
  split at hx
  · exact .inr (ref39_write.ok d hd _ _ _ _ hx)
  · exact .inl hx
/-- function 38: sheerleg/sheerlegref39.Push -/
noncomputable def ref39_Push.body (ref39_write : Tc1 → Int → Int → (Tc1 → Bool → Option Bool) → Option Bool) (t118 : Tc1) (n119 : Int) (k1 : Tc1 → Bool → Option Bool) : Option Bool :=
  (ref39_write t118 (IntKind.wrap .i64 (t118.2.2.2.2.1 - (1 : Int))) n119
  (fun t129 b130 => (cond_ (! b130) (k1 (t118.1, (t118.2.1, (t118.2.2.1, (t118.2.2.2.1, (t118.2.2.2.2.1, (t118.2.2.2.2.2.1, (t118.2.2.2.2.2.2.1, (t118.2.2.2.2.2.2.2.1, (t118.2.2.2.2.2.2.2.2.1, ()))))))))) false) (k1 (t129.1, (t129.2.1, (t129.2.2.1, (t129.2.2.2.1, ((IntKind.wrap .i64 (t118.2.2.2.2.1 - (1 : Int))), (t129.2.2.2.2.2.1, (t129.2.2.2.2.2.2.1, (t129.2.2.2.2.2.2.2.1, (t129.2.2.2.2.2.2.2.2.1, ()))))))))) true))))
noncomputable def ref39_Push (t118 : Tc1) (n119 : Int) (k1 : Tc1 → Bool → Option Bool) : Option Bool := ref39_Push.body ref39_write t118 n119 k1
noncomputable def ref39_Push.get (F : Tc1 → Int → (Tc1 → Bool → Option Bool) → Option Bool) (e : Option Bool) (g : FuncId) (a : List AV) (h : Heap) (k : KR) : Option Bool := match g, a, h with
  | 38, [(.d ⟨(.st [(.sl 2 (.int .i64)), (.int .i64), (.int .i64), (.int .i64), (.int .i64), (.int .i64), (.int .i64), (.int .i64), .bool]), t118⟩), (.d ⟨(.int .i64), n119⟩)], [] => F t118 n119 (fun y0 y1 => k (.tup [(.d ⟨(.st [(.sl 2 (.int .i64)), (.int .i64), (.int .i64), (.int .i64), (.int .i64), (.int .i64), (.int .i64), (.int .i64), .bool]), y0⟩), (.d ⟨.bool, y1⟩)]) [])
  | _, _, _ => e
noncomputable def ref39_Push.calls (F0 : Tc1 → Int → Int → (Tc1 → Bool → Option Bool) → Option Bool) : RecF := fun g a h k => (ref39_write.get F0 none g a h k)
noncomputable def ref39_Push.loops : LoopF := fun b => none
set_option maxRecDepth 100000 in
theorem ref39_Push.eq (F0 : Tc1 → Int → Int → (Tc1 → Bool → Option Bool) → Option Bool) (t118 : Tc1) (n119 : Int) (k : KR) : execL Try.prog ht 38 (callfOf (ref39_Push.calls F0)) (ref39_Push.loops) 0 (codeOf Try.f38) ⟨[(.d ⟨(.st [(.sl 2 (.int .i64)), (.int .i64), (.int .i64), (.int .i64), (.int .i64), (.int .i64), (.int .i64), (.int .i64), .bool]), t118⟩), (.d ⟨(.int .i64), n119⟩)] ++ List.replicate (Try.f38.ntmps - ([(.d ⟨(.st [(.sl 2 (.int .i64)), (.int .i64), (.int .i64), (.int .i64), (.int .i64), (.int .i64), (.int .i64), (.int .i64), .bool]), t118⟩), (.d ⟨(.int .i64), n119⟩)] : List AV).length) .undef, [], 2⟩ (leave Try.prog Try.f38 k) = ref39_Push.body F0 t118 n119 (fun y0 y1 => k (.tup [(.d ⟨(.st [(.sl 2 (.int .i64)), (.int .i64), (.int .i64), (.int .i64), (.int .i64), (.int .i64), (.int .i64), (.int .i64), .bool]), y0⟩), (.d ⟨.bool, y1⟩)]) []) := by kernel_rfl
theorem ref39_Push.ok (d : Nat) (hd : 3 ≤ d) (t118 : Tc1) (n119 : Int) (k : KR) (hx : ref39_Push t118 n119 (fun y0 y1 => k (.tup [(.d ⟨(.st [(.sl 2 (.int .i64)), (.int .i64), (.int .i64), (.int .i64), (.int .i64), (.int .i64), (.int .i64), (.int .i64), .bool]), y0⟩), (.d ⟨.bool, y1⟩)]) []) = some true) : callK Try.prog ht d 38 [(.d ⟨(.st [(.sl 2 (.int .i64)), (.int .i64), (.int .i64), (.int .i64), (.int .i64), (.int .i64), (.int .i64), (.int .i64), .bool]), t118⟩), (.d ⟨(.int .i64), n119⟩)] [] k = some true := by
  obtain ⟨d, rfl⟩ : ∃ e, d = e + 1 := ⟨d - 1, by omega⟩
  exact fn_ok (c := codeOf Try.f38) Try.func38 (by kernel_rfl) (rec := ref39_Push.calls ref39_write) (fun g a h k hx => by
    rcases ref39_write.look d (by omega) hx with hx | hx
    rotate_left
    · exact hx
    cases hx) (loopf := ref39_Push.loops) (by
    have e : loopsOf (ref39_Push.loops) 0 (codeOf Try.f38) = [] := by kernel_rfl
    rw [e]
    intro p hp
    cases hp) ((ref39_Push.eq ref39_write t118 n119 k).trans hx)
theorem ref39_Push.look (d : Nat) (hd : 3 ≤ d) {e : Option Bool} {g : FuncId} {a : List AV} {h : Heap} {k : KR} (hx : ref39_Push.get ref39_Push e g a h k = some true) : e = some true ∨ callK Try.prog ht d g a h k = some true := by
  unfold ref39_Push.get at hx
  split at hx
  · exact .inr (ref39_Push.ok d hd _ _ _ hx)
  · exact .inl hx
/-- function 34: (*sheerleg/stack.Stack).live -/
noncomputable def stack_Stack_live.body (k1 : Bool → Option Bool) : Option Bool :=
  (k1 false)
noncomputable def stack_Stack_live (k1 : Bool → Option Bool) : Option Bool := stack_Stack_live.body k1
noncomputable def stack_Stack_live.get (F : (Bool → Option Bool) → Option Bool) (e : Option Bool) (g : FuncId) (a : List AV) (h : Heap) (k : KR) : Option Bool := match g, a, h with
  | 34, [.nilp], [] => F (fun y0 => k (.d ⟨.bool, y0⟩) [])
  | _, _, _ => e
noncomputable def stack_Stack_live.calls : RecF := fun g a h k => none
noncomputable def stack_Stack_live.loops : LoopF := fun b => none
set_option maxRecDepth 100000 in
theorem stack_Stack_live.eq (k : KR) : execL Try.prog ht 34 (callfOf (stack_Stack_live.calls)) (stack_Stack_live.loops) 0 (codeOf Try.f34) ⟨[.nilp] ++ List.replicate (Try.f34.ntmps - ([.nilp] : List AV).length) .undef, [], 2⟩ (leave Try.prog Try.f34 k) = stack_Stack_live.body (fun y0 => k (.d ⟨.bool, y0⟩) []) := by kernel_rfl
theorem stack_Stack_live.ok (d : Nat) (hd : 1 ≤ d) (k : KR) (hx : stack_Stack_live (fun y0 => k (.d ⟨.bool, y0⟩) []) = some true) : callK Try.prog ht d 34 [.nilp] [] k = some true := by
  obtain ⟨d, rfl⟩ : ∃ e, d = e + 1 := ⟨d - 1, by omega⟩
  exact fn_ok (c := codeOf Try.f34) Try.func34 (by kernel_rfl) (rec := stack_Stack_live.calls) (fun g a h k hx => by
    cases hx) (loopf := stack_Stack_live.loops) (by
    have e : loopsOf (stack_Stack_live.loops) 0 (codeOf Try.f34) = [] := by kernel_rfl
    rw [e]
    intro p hp
    cases hp) ((stack_Stack_live.eq k).trans hx)
theorem stack_Stack_live.look (d : Nat) (hd : 1 ≤ d) {e : Option Bool} {g : FuncId} {a : List AV} {h : Heap} {k : KR} (hx : stack_Stack_live.get stack_Stack_live e g a h k = some true) : e = some true ∨ callK Try.prog ht d g a h k = some true := by
  unfold stack_Stack_live.get at hx
  split at hx
  · exact .inr (stack_Stack_live.ok d hd _ hx)
  · exact .inl hx
/-- function 13: (*sheerleg/stack.Stack).SP -/
noncomputable def stack_Stack_SP.body (stack_Stack_live : (Bool → Option Bool) → Option Bool) (k1 : Int → Option Bool) : Option Bool :=
  (stack_Stack_live
  (fun b135 => (cond_ (! b135) (k1 (0 : Int)) none)))
noncomputable def stack_Stack_SP (k1 : Int → Option Bool) : Option Bool := stack_Stack_SP.body stack_Stack_live k1
noncomputable def stack_Stack_SP.get (F : (Int → Option Bool) → Option Bool) (e : Option Bool) (g : FuncId) (a : List AV) (h : Heap) (k : KR) : Option Bool := match g, a, h with
  | 13, [.nilp], [] => F (fun y0 => k (.d ⟨(.int .i64), y0⟩) [])
  | _, _, _ => e
noncomputable def stack_Stack_SP.calls (F0 : (Bool → Option Bool) → Option Bool) : RecF := fun g a h k => (stack_Stack_live.get F0 none g a h k)
noncomputable def stack_Stack_SP.loops : LoopF := fun b => none
set_option maxRecDepth 100000 in
theorem stack_Stack_SP.eq (F0 : (Bool → Option Bool) → Option Bool) (k : KR) : execL Try.prog ht 13 (callfOf (stack_Stack_SP.calls F0)) (stack_Stack_SP.loops) 0 (codeOf Try.f13) ⟨[.nilp] ++ List.replicate (Try.f13.ntmps - ([.nilp] : List AV).length) .undef, [], 2⟩ (leave Try.prog Try.f13 k) = stack_Stack_SP.body F0 (fun y0 => k (.d ⟨(.int .i64), y0⟩) []) := by kernel_rfl
theorem stack_Stack_SP.ok (d : Nat) (hd : 2 ≤ d) (k : KR) (hx : stack_Stack_SP (fun y0 => k (.d ⟨(.int .i64), y0⟩) []) = some true) : callK Try.prog ht d 13 [.nilp] [] k = some true := by
  obtain ⟨d, rfl⟩ : ∃ e, d = e + 1 := ⟨d - 1, by omega⟩
  exact fn_ok (c := codeOf Try.f13) Try.func13 (by kernel_rfl) (rec := stack_Stack_SP.calls stack_Stack_live) (fun g a h k hx => by
    rcases stack_Stack_live.look d (by omega) hx with hx | hx
    rotate_left
    · exact hx
    cases hx) (loopf := stack_Stack_SP.loops) (by
    have e : loopsOf (stack_Stack_SP.loops) 0 (codeOf Try.f13) = [] := by kernel_rfl
    rw [e]
    intro p hp
    cases hp) ((stack_Stack_SP.eq stack_Stack_live k).trans hx)
theorem stack_Stack_SP.look (d : Nat) (hd : 2 ≤ d) {e : Option Bool} {g : FuncId} {a : List AV} {h : Heap} {k : KR} (hx : stack_Stack_SP.get stack_Stack_SP e g a h k = some true) : e = some true ∨ callK Try.prog ht d g a h k = some true := by
  unfold stack_Stack_SP.get at hx
  split at hx
  · exact .inr (stack_Stack_SP.ok d hd _ hx)
  · exact .inl hx
/-- function 33: (*sheerleg/stack.Stack).write -/
noncomputable def stack_Stack_write.body (stack_Stack_live : (Bool → Option Bool) → Option Bool) (n137 : Int) (n138 : Int) (k1 : Bool → Option Bool) : Option Bool :=
  (stack_Stack_live
  (fun b139 => (cond_ (! (! b139)) none (k1 false))))
noncomputable def stack_Stack_write (n137 : Int) (n138 : Int) (k1 : Bool → Option Bool) : Option Bool := stack_Stack_write.body stack_Stack_live n137 n138 k1
noncomputable def stack_Stack_write.get (F : Int → Int → (Bool → Option Bool) → Option Bool) (e : Option Bool) (g : FuncId) (a : List AV) (h : Heap) (k : KR) : Option Bool := match g, a, h with
  | 33, [.nilp, (.d ⟨(.int .i64), n137⟩), (.d ⟨(.int .i64), n138⟩)], [] => F n137 n138 (fun y0 => k (.d ⟨.bool, y0⟩) [])
  | _, _, _ => e
noncomputable def stack_Stack_write.calls (F0 : (Bool → Option Bool) → Option Bool) : RecF := fun g a h k => (stack_Stack_live.get F0 none g a h k)
noncomputable def stack_Stack_write.loops : LoopF := fun b => none
set_option maxRecDepth 100000 in
theorem stack_Stack_write.eq (F0 : (Bool → Option Bool) → Option Bool) (n137 : Int) (n138 : Int) (k : KR) : execL Try.prog ht 33 (callfOf (stack_Stack_write.calls F0)) (stack_Stack_write.loops) 0 (codeOf Try.f33) ⟨[.nilp, (.d ⟨(.int .i64), n137⟩), (.d ⟨(.int .i64), n138⟩)] ++ List.replicate (Try.f33.ntmps - ([.nilp, (.d ⟨(.int .i64), n137⟩), (.d ⟨(.int .i64), n138⟩)] : List AV).length) .undef, [], 2⟩ (leave Try.prog Try.f33 k) = stack_Stack_write.body F0 n137 n138 (fun y0 => k (.d ⟨.bool, y0⟩) []) := by kernel_rfl
theorem stack_Stack_write.ok (d : Nat) (hd : 2 ≤ d) (n137 : Int) (n138 : Int) (k : KR) (hx : stack_Stack_write n137 n138 (fun y0 => k (.d ⟨.bool, y0⟩) []) = some true) : callK Try.prog ht d 33 [.nilp, (.d ⟨(.int .i64), n137⟩), (.d ⟨(.int .i64), n138⟩)] [] k = some true := by
  obtain ⟨d, rfl⟩ : ∃ e, d = e + 1 := ⟨d - 1, by omega⟩
  exact fn_ok (c := codeOf Try.f33) Try.func33 (by kernel_rfl) (rec := stack_Stack_write.calls stack_Stack_live) (fun g a h k hx => by
    rcases stack_Stack_live.look d (by omega) hx with hx | hx
    rotate_left
    · exact hx
    cases hx) (loopf := stack_Stack_write.loops) (by
    have e : loopsOf (stack_Stack_write.loops) 0 (codeOf Try.f33) = [] := by kernel_rfl
    rw [e]
    intro p hp
    cases hp) ((stack_Stack_write.eq stack_Stack_live n137 n138 k).trans hx)
theorem stack_Stack_write.look (d : Nat) (hd : 2 ≤ d) {e : Option Bool} {g : FuncId} {a : List AV} {h : Heap} {k : KR} (hx : stack_Stack_write.get stack_Stack_write e g a h k = some true) : e = some true ∨ callK Try.prog ht d g a h k = some true := by
  unfold stack_Stack_write.get at hx
  split at hx
  · exact .inr (stack_Stack_write.ok d hd _ _ _ hx)
  · exact .inl hx
/-- function 32: (*sheerleg/stack.Stack).ahead -/
noncomputable def stack_Stack_ahead.body (stack_Stack_SP : (Int → Option Bool) → Option Bool) (stack_Stack_write : Int → Int → (Bool → Option Bool) → Option Bool) (n134 : Int) (k1 : Bool → Option Bool) : Option Bool :=
  (stack_Stack_SP
  (fun n136 => (stack_Stack_write (IntKind.wrap .i64 (n136 - (1 : Int))) n134
  (fun b140 => (k1 b140)))))
noncomputable def stack_Stack_ahead (n134 : Int) (k1 : Bool → Option Bool) : Option Bool := stack_Stack_ahead.body stack_Stack_SP stack_Stack_write n134 k1
noncomputable def stack_Stack_ahead.get (F : Int → (Bool → Option Bool) → Option Bool) (e : Option Bool) (g : FuncId) (a : List AV) (h : Heap) (k : KR) : Option Bool := match g, a, h with
  | 32, [.nilp, (.fn (.func 33) [.nilp] []), (.d ⟨(.int .i64), n134⟩)], [] => F n134 (fun y0 => k (.d ⟨.bool, y0⟩) [])
  | _, _, _ => e
noncomputable def stack_Stack_ahead.calls (F0 : (Int → Option Bool) → Option Bool) (F1 : Int → Int → (Bool → Option Bool) → Option Bool) : RecF := fun g a h k => (stack_Stack_SP.get F0 (stack_Stack_write.get F1 none g a h k) g a h k)
noncomputable def stack_Stack_ahead.loops : LoopF := fun b => none
set_option maxRecDepth 100000 in
theorem stack_Stack_ahead.eq (F0 : (Int → Option Bool) → Option Bool) (F1 : Int → Int → (Bool → Option Bool) → Option Bool) (n134 : Int) (k : KR) : execL Try.prog ht 32 (callfOf (stack_Stack_ahead.calls F0 F1)) (stack_Stack_ahead.loops) 0 (codeOf Try.f32) ⟨[.nilp, (.fn (.func 33) [.nilp] []), (.d ⟨(.int .i64), n134⟩)] ++ List.replicate (Try.f32.ntmps - ([.nilp, (.fn (.func 33) [.nilp] []), (.d ⟨(.int .i64), n134⟩)] : List AV).length) .undef, [], 2⟩ (leave Try.prog Try.f32 k) = stack_Stack_ahead.body F0 F1 n134 (fun y0 => k (.d ⟨.bool, y0⟩) []) := by kernel_rfl
theorem stack_Stack_ahead.ok (d : Nat) (hd : 3 ≤ d) (n134 : Int) (k : KR) (hx : stack_Stack_ahead n134 (fun y0 => k (.d ⟨.bool, y0⟩) []) = some true) : callK Try.prog ht d 32 [.nilp, (.fn (.func 33) [.nilp] []), (.d ⟨(.int .i64), n134⟩)] [] k = some true := by
  obtain ⟨d, rfl⟩ : ∃ e, d = e + 1 := ⟨d - 1, by omega⟩
  exact fn_ok (c := codeOf Try.f32) Try.func32 (by kernel_rfl) (rec := stack_Stack_ahead.calls stack_Stack_SP stack_Stack_write) (fun g a h k hx => by
    rcases stack_Stack_SP.look d (by omega) hx with hx | hx
    rotate_left
    · exact hx
    rcases stack_Stack_write.look d (by omega) hx with hx | hx
    rotate_left
    · exact hx
    cases hx) (loopf := stack_Stack_ahead.loops) (by
    have e : loopsOf (stack_Stack_ahead.loops) 0 (codeOf Try.f32) = [] := by kernel_rfl
    rw [e]
    intro p hp
    cases hp) ((stack_Stack_ahead.eq stack_Stack_SP stack_Stack_write n134 k).trans hx)
theorem stack_Stack_ahead.look (d : Nat) (hd : 3 ≤ d) {e : Option Bool} {g : FuncId} {a : List AV} {h : Heap} {k : KR} (hx : stack_Stack_ahead.get stack_Stack_ahead e g a h k = some true) : e = some true ∨ callK Try.prog ht d g a h k = some true := by
  unfold stack_Stack_ahead.get at hx
  split at hx
  · exact .inr (stack_Stack_ahead.ok d hd _ _ hx)
  · exact .inl hx
/-- function 10: (*sheerleg/stack.Stack).Push -/
noncomputable def stack_Stack_Push.body (stack_Stack_ahead : Int → (Bool → Option Bool) → Option Bool) (n133 : Int) (k1 : Bool → Option Bool) : Option Bool :=
  (stack_Stack_ahead n133
  (fun b141 => (cond_ (! b141) (k1 false) none)))
noncomputable def stack_Stack_Push (n133 : Int) (k1 : Bool → Option Bool) : Option Bool := stack_Stack_Push.body stack_Stack_ahead n133 k1
noncomputable def stack_Stack_Push.get (F : Int → (Bool → Option Bool) → Option Bool) (e : Option Bool) (g : FuncId) (a : List AV) (h : Heap) (k : KR) : Option Bool := match g, a, h with
  | 10, [.nilp, (.d ⟨(.int .i64), n133⟩)], [] => F n133 (fun y0 => k (.d ⟨.bool, y0⟩) [])
  | _, _, _ => e
noncomputable def stack_Stack_Push.calls (F0 : Int → (Bool → Option Bool) → Option Bool) : RecF := fun g a h k => (stack_Stack_ahead.get F0 none g a h k)
noncomputable def stack_Stack_Push.loops : LoopF := fun b => none
set_option maxRecDepth 100000 in
theorem stack_Stack_Push.eq (F0 : Int → (Bool → Option Bool) → Option Bool) (n133 : Int) (k : KR) : execL Try.prog ht 10 (callfOf (stack_Stack_Push.calls F0)) (stack_Stack_Push.loops) 0 (codeOf Try.f10) ⟨[.nilp, (.d ⟨(.int .i64), n133⟩)] ++ List.replicate (Try.f10.ntmps - ([.nilp, (.d ⟨(.int .i64), n133⟩)] : List AV).length) .undef, [], 2⟩ (leave Try.prog Try.f10 k) = stack_Stack_Push.body F0 n133 (fun y0 => k (.d ⟨.bool, y0⟩) []) := by kernel_rfl
theorem stack_Stack_Push.ok (d : Nat) (hd : 4 ≤ d) (n133 : Int) (k : KR) (hx : stack_Stack_Push n133 (fun y0 => k (.d ⟨.bool, y0⟩) []) = some true) : callK Try.prog ht d 10 [.nilp, (.d ⟨(.int .i64), n133⟩)] [] k = some true := by
  obtain ⟨d, rfl⟩ : ∃ e, d = e + 1 := ⟨d - 1, by omega⟩
  exact fn_ok (c := codeOf Try.f10) Try.func10 (by kernel_rfl) (rec := stack_Stack_Push.calls stack_Stack_ahead) (fun g a h k hx => by
    rcases stack_Stack_ahead.look d (by omega) hx with hx | hx
    rotate_left
    · exact hx
    cases hx) (loopf := stack_Stack_Push.loops) (by
    have e : loopsOf (stack_Stack_Push.loops) 0 (codeOf Try.f10) = [] := by kernel_rfl
    rw [e]
    intro p hp
    cases hp) ((stack_Stack_Push.eq stack_Stack_ahead n133 k).trans hx)
theorem stack_Stack_Push.look (d : Nat) (hd : 4 ≤ d) {e : Option Bool} {g : FuncId} {a : List AV} {h : Heap} {k : KR} (hx : stack_Stack_Push.get stack_Stack_Push e g a h k = some true) : e = some true ∨ callK Try.prog ht d g a h k = some true := by
  unfold stack_Stack_Push.get at hx
  split at hx
  · exact .inr (stack_Stack_Push.ok d hd _ _ hx)
  · exact .inl hx
/-- function 14: (*sheerleg/stack.Stack).Seg -/
noncomputable def stack_Stack_Seg.body (stack_Stack_live : (Bool → Option Bool) → Option Bool) (k1 : (Int × Int × Int × Unit) → Option Bool) : Option Bool :=
  (stack_Stack_live
  (fun b145 => (cond_ (! b145) (k1 ((0 : Int), ((0 : Int), ((0 : Int), ())))) none)))
noncomputable def stack_Stack_Seg (k1 : (Int × Int × Int × Unit) → Option Bool) : Option Bool := stack_Stack_Seg.body stack_Stack_live k1
noncomputable def stack_Stack_Seg.get (F : ((Int × Int × Int × Unit) → Option Bool) → Option Bool) (e : Option Bool) (g : FuncId) (a : List AV) (h : Heap) (k : KR) : Option Bool := match g, a, h with
  | 14, [.nilp], [] => F (fun y0 => k (.d ⟨(.st [(.int .i64), (.int .i64), (.int .i64)]), y0⟩) [])
  | _, _, _ => e
noncomputable def stack_Stack_Seg.calls (F0 : (Bool → Option Bool) → Option Bool) : RecF := fun g a h k => (stack_Stack_live.get F0 none g a h k)
noncomputable def stack_Stack_Seg.loops : LoopF := fun b => none
set_option maxRecDepth 100000 in
theorem stack_Stack_Seg.eq (F0 : (Bool → Option Bool) → Option Bool) (k : KR) : execL Try.prog ht 14 (callfOf (stack_Stack_Seg.calls F0)) (stack_Stack_Seg.loops) 0 (codeOf Try.f14) ⟨[.nilp] ++ List.replicate (Try.f14.ntmps - ([.nilp] : List AV).length) .undef, [], 2⟩ (leave Try.prog Try.f14 k) = stack_Stack_Seg.body F0 (fun y0 => k (.d ⟨(.st [(.int .i64), (.int .i64), (.int .i64)]), y0⟩) []) := by kernel_rfl
theorem stack_Stack_Seg.ok (d : Nat) (hd : 2 ≤ d) (k : KR) (hx : stack_Stack_Seg (fun y0 => k (.d ⟨(.st [(.int .i64), (.int .i64), (.int .i64)]), y0⟩) []) = some true) : callK Try.prog ht d 14 [.nilp] [] k = some true := by
  obtain ⟨d, rfl⟩ : ∃ e, d = e + 1 := ⟨d - 1, by omega⟩
  exact fn_ok (c := codeOf Try.f14) Try.func14 (by kernel_rfl) (rec := stack_Stack_Seg.calls stack_Stack_live) (fun g a h k hx => by
    rcases stack_Stack_live.look d (by omega) hx with hx | hx
    rotate_left
    · exact hx
    cases hx) (loopf := stack_Stack_Seg.loops) (by
    have e : loopsOf (stack_Stack_Seg.loops) 0 (codeOf Try.f14) = [] := by kernel_rfl
    rw [e]
    intro p hp
    cases hp) ((stack_Stack_Seg.eq stack_Stack_live k).trans hx)
theorem stack_Stack_Seg.look (d : Nat) (hd : 2 ≤ d) {e : Option Bool} {g : FuncId} {a : List AV} {h : Heap} {k : KR} (hx : stack_Stack_Seg.get stack_Stack_Seg e g a h k = some true) : e = some true ∨ callK Try.prog ht d g a h k = some true := by
  unfold stack_Stack_Seg.get at hx
  split at hx
  · exact .inr (stack_Stack_Seg.ok d hd _ hx)
  · exact .inl hx
/-- function 16: (*sheerleg/stack.Stack).Id -/
noncomputable def stack_Stack_Id.body (stack_Stack_Seg : ((Int × Int × Int × Unit) → Option Bool) → Option Bool) (stack_Stack_SP : (Int → Option Bool) → Option Bool) (k1 : Int → Option Bool) : Option Bool :=
  (stack_Stack_Seg
  (fun t146 => (stack_Stack_SP
  (fun n147 => (k1 (IntKind.wrap .i64 (t146.2.2.1 - n147)))))))
noncomputable def stack_Stack_Id (k1 : Int → Option Bool) : Option Bool := stack_Stack_Id.body stack_Stack_Seg stack_Stack_SP k1
noncomputable def stack_Stack_Id.get (F : (Int → Option Bool) → Option Bool) (e : Option Bool) (g : FuncId) (a : List AV) (h : Heap) (k : KR) : Option Bool := match g, a, h with
  | 16, [.nilp], [] => F (fun y0 => k (.d ⟨(.int .i64), y0⟩) [])
  | _, _, _ => e
noncomputable def stack_Stack_Id.calls (F0 : ((Int × Int × Int × Unit) → Option Bool) → Option Bool) (F1 : (Int → Option Bool) → Option Bool) : RecF := fun g a h k => (stack_Stack_Seg.get F0 (stack_Stack_SP.get F1 none g a h k) g a h k)
noncomputable def stack_Stack_Id.loops : LoopF := fun b => none
set_option maxRecDepth 100000 in
theorem stack_Stack_Id.eq (F0 : ((Int × Int × Int × Unit) → Option Bool) → Option Bool) (F1 : (Int → Option Bool) → Option Bool) (k : KR) : execL Try.prog ht 16 (callfOf (stack_Stack_Id.calls F0 F1)) (stack_Stack_Id.loops) 0 (codeOf Try.f16) ⟨[.nilp] ++ List.replicate (Try.f16.ntmps - ([.nilp] : List AV).length) .undef, [], 2⟩ (leave Try.prog Try.f16 k) = stack_Stack_Id.body F0 F1 (fun y0 => k (.d ⟨(.int .i64), y0⟩) []) := by kernel_rfl
theorem stack_Stack_Id.ok (d : Nat) (hd : 3 ≤ d) (k : KR) (hx : stack_Stack_Id (fun y0 => k (.d ⟨(.int .i64), y0⟩) []) = some true) : callK Try.prog ht d 16 [.nilp] [] k = some true := by
  obtain ⟨d, rfl⟩ : ∃ e, d = e + 1 := ⟨d - 1, by omega⟩
  exact fn_ok (c := codeOf Try.f16) Try.func16 (by kernel_rfl) (rec := stack_Stack_Id.calls stack_Stack_Seg stack_Stack_SP) (fun g a h k hx => by
    rcases stack_Stack_Seg.look d (by omega) hx with hx | hx
    rotate_left
    · exact hx
    rcases stack_Stack_SP.look d (by omega) hx with hx | hx
    rotate_left
    · exact hx
    cases hx) (loopf := stack_Stack_Id.loops) (by
    have e : loopsOf (stack_Stack_Id.loops) 0 (codeOf Try.f16) = [] := by kernel_rfl
    rw [e]
    intro p hp
    cases hp) ((stack_Stack_Id.eq stack_Stack_Seg stack_Stack_SP k).trans hx)
theorem stack_Stack_Id.look (d : Nat) (hd : 3 ≤ d) {e : Option Bool} {g : FuncId} {a : List AV} {h : Heap} {k : KR} (hx : stack_Stack_Id.get stack_Stack_Id e g a h k = some true) : e = some true ∨ callK Try.prog ht d g a h k = some true := by
  unfold stack_Stack_Id.get at hx
  split at hx
  · exact .inr (stack_Stack_Id.ok d hd _ hx)
  · exact .inl hx
/-- function 48: (*sheerleg/stack.Stack).has -/
noncomputable def stack_Stack_has.body (stack_Stack_Id : (Int → Option Bool) → Option Bool) (n144 : Int) (k1 : Bool → Option Bool) : Option Bool :=
  (cond_ (decide (n144 ≥ (0 : Int))) (stack_Stack_Id
  (fun n148 => (k1 (decide (n144 < n148))))) (k1 false))
noncomputable def stack_Stack_has (n144 : Int) (k1 : Bool → Option Bool) : Option Bool := stack_Stack_has.body stack_Stack_Id n144 k1
noncomputable def stack_Stack_has.get (F : Int → (Bool → Option Bool) → Option Bool) (e : Option Bool) (g : FuncId) (a : List AV) (h : Heap) (k : KR) : Option Bool := match g, a, h with
  | 48, [.nilp, (.d ⟨(.int .i64), n144⟩)], [] => F n144 (fun y0 => k (.d ⟨.bool, y0⟩) [])
  | _, _, _ => e
noncomputable def stack_Stack_has.calls (F0 : (Int → Option Bool) → Option Bool) : RecF := fun g a h k => (stack_Stack_Id.get F0 none g a h k)
noncomputable def stack_Stack_has.loops : LoopF := fun b => none
set_option maxRecDepth 100000 in
theorem stack_Stack_has.eq (F0 : (Int → Option Bool) → Option Bool) (n144 : Int) (k : KR) : execL Try.prog ht 48 (callfOf (stack_Stack_has.calls F0)) (stack_Stack_has.loops) 0 (codeOf Try.f48) ⟨[.nilp, (.d ⟨(.int .i64), n144⟩)] ++ List.replicate (Try.f48.ntmps - ([.nilp, (.d ⟨(.int .i64), n144⟩)] : List AV).length) .undef, [], 2⟩ (leave Try.prog Try.f48 k) = stack_Stack_has.body F0 n144 (fun y0 => k (.d ⟨.bool, y0⟩) []) := by kernel_rfl
theorem stack_Stack_has.ok (d : Nat) (hd : 4 ≤ d) (n144 : Int) (k : KR) (hx : stack_Stack_has n144 (fun y0 => k (.d ⟨.bool, y0⟩) []) = some true) : callK Try.prog ht d 48 [.nilp, (.d ⟨(.int .i64), n144⟩)] [] k = some true := by
  obtain ⟨d, rfl⟩ : ∃ e, d = e + 1 := ⟨d - 1, by omega⟩
  exact fn_ok (c := codeOf Try.f48) Try.func48 (by kernel_rfl) (rec := stack_Stack_has.calls stack_Stack_Id) (fun g a h k hx => by
    rcases stack_Stack_Id.look d (by omega) hx with hx | hx
    rotate_left
    · exact hx
    cases hx) (loopf := stack_Stack_has.loops) (by
    have e : loopsOf (stack_Stack_has.loops) 0 (codeOf Try.f48) = [] := by kernel_rfl
    rw [e]
    intro p hp
    cases hp) ((stack_Stack_has.eq stack_Stack_Id n144 k).trans hx)
theorem stack_Stack_has.look (d : Nat) (hd : 4 ≤ d) {e : Option Bool} {g : FuncId} {a : List AV} {h : Heap} {k : KR} (hx : stack_Stack_has.get stack_Stack_has e g a h k = some true) : e = some true ∨ callK Try.prog ht d g a h k = some true := by
  unfold stack_Stack_has.get at hx
  split at hx
  · exact .inr (stack_Stack_has.ok d hd _ _ hx)
  · exact .inl hx
/-- function 23: (*sheerleg/stack.Stack).Get -/
noncomputable def stack_Stack_Get.body (stack_Stack_has : Int → (Bool → Option Bool) → Option Bool) (n143 : Int) (k1 : Int → Bool → Option Bool) : Option Bool :=
  (stack_Stack_has n143
  (fun b149 => (cond_ (! b149) (k1 (0 : Int) false) none)))
noncomputable def stack_Stack_Get (n143 : Int) (k1 : Int → Bool → Option Bool) : Option Bool := stack_Stack_Get.body stack_Stack_has n143 k1
noncomputable def stack_Stack_Get.get (F : Int → (Int → Bool → Option Bool) → Option Bool) (e : Option Bool) (g : FuncId) (a : List AV) (h : Heap) (k : KR) : Option Bool := match g, a, h with
  | 23, [.nilp, (.d ⟨(.int .i64), n143⟩)], [] => F n143 (fun y0 y1 => k (.tup [(.d ⟨(.int .i64), y0⟩), (.d ⟨.bool, y1⟩)]) [])
  | _, _, _ => e
noncomputable def stack_Stack_Get.calls (F0 : Int → (Bool → Option Bool) → Option Bool) : RecF := fun g a h k => (stack_Stack_has.get F0 none g a h k)
noncomputable def stack_Stack_Get.loops : LoopF := fun b => none
set_option maxRecDepth 100000 in
theorem stack_Stack_Get.eq (F0 : Int → (Bool → Option Bool) → Option Bool) (n143 : Int) (k : KR) : execL Try.prog ht 23 (callfOf (stack_Stack_Get.calls F0)) (stack_Stack_Get.loops) 0 (codeOf Try.f23) ⟨[.nilp, (.d ⟨(.int .i64), n143⟩)] ++ List.replicate (Try.f23.ntmps - ([.nilp, (.d ⟨(.int .i64), n143⟩)] : List AV).length) .undef, [], 2⟩ (leave Try.prog Try.f23 k) = stack_Stack_Get.body F0 n143 (fun y0 y1 => k (.tup [(.d ⟨(.int .i64), y0⟩), (.d ⟨.bool, y1⟩)]) []) := by kernel_rfl
theorem stack_Stack_Get.ok (d : Nat) (hd : 5 ≤ d) (n143 : Int) (k : KR) (hx : stack_Stack_Get n143 (fun y0 y1 => k (.tup [(.d ⟨(.int .i64), y0⟩), (.d ⟨.bool, y1⟩)]) []) = some true) : callK Try.prog ht d 23 [.nilp, (.d ⟨(.int .i64), n143⟩)] [] k = some true := by
  obtain ⟨d, rfl⟩ : ∃ e, d = e + 1 := ⟨d - 1, by omega⟩
  exact fn_ok (c := codeOf Try.f23) Try.func23 (by kernel_rfl) (rec := stack_Stack_Get.calls stack_Stack_has) (fun g a h k hx => by
    rcases stack_Stack_has.look d (by omega) hx with hx | hx
    rotate_left
    · exact hx
    cases hx) (loopf := stack_Stack_Get.loops) (by
    have e : loopsOf (stack_Stack_Get.loops) 0 (codeOf Try.f23) = [] := by kernel_rfl
    rw [e]
    intro p hp
    cases hp) ((stack_Stack_Get.eq stack_Stack_has n143 k).trans hx)
theorem stack_Stack_Get.look (d : Nat) (hd : 5 ≤ d) {e : Option Bool} {g : FuncId} {a : List AV} {h : Heap} {k : KR} (hx : stack_Stack_Get.get stack_Stack_Get e g a h k = some true) : e = some true ∨ callK Try.prog ht d g a h k = some true := by
  unfold stack_Stack_Get.get at hx
  split at hx
  · exact .inr (stack_Stack_Get.ok d hd _ _ hx)
  · exact .inl hx
/-- function 15: (*sheerleg/stack.Stack).Pop -/
noncomputable def stack_Stack_Pop.body (stack_Stack_Get : Int → (Int → Bool → Option Bool) → Option Bool) (k1 : Int → Bool → Option Bool) : Option Bool :=
  (stack_Stack_Get (0 : Int)
  (fun n150 b151 => (cond_ b151 none (k1 n150 b151))))
noncomputable def stack_Stack_Pop (k1 : Int → Bool → Option Bool) : Option Bool := stack_Stack_Pop.body stack_Stack_Get k1
noncomputable def stack_Stack_Pop.get (F : (Int → Bool → Option Bool) → Option Bool) (e : Option Bool) (g : FuncId) (a : List AV) (h : Heap) (k : KR) : Option Bool := match g, a, h with
  | 15, [.nilp], [] => F (fun y0 y1 => k (.tup [(.d ⟨(.int .i64), y0⟩), (.d ⟨.bool, y1⟩)]) [])
  | _, _, _ => e
noncomputable def stack_Stack_Pop.calls (F0 : Int → (Int → Bool → Option Bool) → Option Bool) : RecF := fun g a h k => (stack_Stack_Get.get F0 none g a h k)
noncomputable def stack_Stack_Pop.loops : LoopF := fun b => none
set_option maxRecDepth 100000 in
theorem stack_Stack_Pop.eq (F0 : Int → (Int → Bool → Option Bool) → Option Bool) (k : KR) : execL Try.prog ht 15 (callfOf (stack_Stack_Pop.calls F0)) (stack_Stack_Pop.loops) 0 (codeOf Try.f15) ⟨[.nilp] ++ List.replicate (Try.f15.ntmps - ([.nilp] : List AV).length) .undef, [], 2⟩ (leave Try.prog Try.f15 k) = stack_Stack_Pop.body F0 (fun y0 y1 => k (.tup [(.d ⟨(.int .i64), y0⟩), (.d ⟨.bool, y1⟩)]) []) := by kernel_rfl
theorem stack_Stack_Pop.ok (d : Nat) (hd : 6 ≤ d) (k : KR) (hx : stack_Stack_Pop (fun y0 y1 => k (.tup [(.d ⟨(.int .i64), y0⟩), (.d ⟨.bool, y1⟩)]) []) = some true) : callK Try.prog ht d 15 [.nilp] [] k = some true := by
  obtain ⟨d, rfl⟩ : ∃ e, d = e + 1 := ⟨d - 1, by omega⟩
  exact fn_ok (c := codeOf Try.f15) Try.func15 (by kernel_rfl) (rec := stack_Stack_Pop.calls stack_Stack_Get) (fun g a h k hx => by
    rcases stack_Stack_Get.look d (by omega) hx with hx | hx
    rotate_left
    · exact hx
    cases hx) (loopf := stack_Stack_Pop.loops) (by
    have e : loopsOf (stack_Stack_Pop.loops) 0 (codeOf Try.f15) = [] := by kernel_rfl
    rw [e]
    intro p hp
    cases hp) ((stack_Stack_Pop.eq stack_Stack_Get k).trans hx)
theorem stack_Stack_Pop.look (d : Nat) (hd : 6 ≤ d) {e : Option Bool} {g : FuncId} {a : List AV} {h : Heap} {k : KR} (hx : stack_Stack_Pop.get stack_Stack_Pop e g a h k = some true) : e = some true ∨ callK Try.prog ht d g a h k = some true := by
  unfold stack_Stack_Pop.get at hx
  split at hx
  · exact .inr (stack_Stack_Pop.ok d hd _ hx)
  · exact .inl hx
/-- function 21: sheerleg/sheerlegref38.Load -/
noncomputable def ref38_Load.body (ns156 : List Int) (n157 : Int) (k1 : Int → Bool → Option Bool) : Option Bool :=
  (cond_ (! (decide (n157 < (0 : Int)))) (cond_ (decide (n157 ≥ (((List.length ns156) : Nat) : Int))) (k1 (0 : Int) false) (cond_ ((decide ((0 : Int) ≤ n157)) && (decide (n157 < (((List.length ns156) : Nat) : Int)))) (k1 (List.getD ns156 (Int.toNat n157) (0 : Int)) true) none)) (k1 (0 : Int) false))
noncomputable def ref38_Load (ns156 : List Int) (n157 : Int) (k1 : Int → Bool → Option Bool) : Option Bool := ref38_Load.body ns156 n157 k1
noncomputable def ref38_Load.get (F : (List Int) → Int → (Int → Bool → Option Bool) → Option Bool) (e : Option Bool) (g : FuncId) (a : List AV) (h : Heap) (k : KR) : Option Bool := match g, a, h with
  | 21, [(.bv 0 2 (.int .i64) ns156), (.d ⟨(.int .i64), n157⟩)], [] => F ns156 n157 (fun y0 y1 => k (.tup [(.d ⟨(.int .i64), y0⟩), (.d ⟨.bool, y1⟩)]) [])
  | _, _, _ => e
noncomputable def ref38_Load.calls : RecF := fun g a h k => none
noncomputable def ref38_Load.loops : LoopF := fun b => none
set_option maxRecDepth 100000 in
theorem ref38_Load.eq (ns156 : List Int) (n157 : Int) (k : KR) : execL Try.prog ht 21 (callfOf (ref38_Load.calls)) (ref38_Load.loops) 0 (codeOf Try.f21) ⟨[(.bv 0 2 (.int .i64) ns156), (.d ⟨(.int .i64), n157⟩)] ++ List.replicate (Try.f21.ntmps - ([(.bv 0 2 (.int .i64) ns156), (.d ⟨(.int .i64), n157⟩)] : List AV).length) .undef, [], 2⟩ (leave Try.prog Try.f21 k) = ref38_Load.body ns156 n157 (fun y0 y1 => k (.tup [(.d ⟨(.int .i64), y0⟩), (.d ⟨.bool, y1⟩)]) []) := by kernel_rfl
theorem ref38_Load.ok (d : Nat) (hd : 1 ≤ d) (ns156 : List Int) (n157 : Int) (k : KR) (hx : ref38_Load ns156 n157 (fun y0 y1 => k (.tup [(.d ⟨(.int .i64), y0⟩), (.d ⟨.bool, y1⟩)]) []) = some true) : callK Try.prog ht d 21 [(.bv 0 2 (.int .i64) ns156), (.d ⟨(.int .i64), n157⟩)] [] k = some true := by
  obtain ⟨d, rfl⟩ : ∃ e, d = e + 1 := ⟨d - 1, by omega⟩
  exact fn_ok (c := codeOf Try.f21) Try.func21 (by kernel_rfl) (rec := ref38_Load.calls) (fun g a h k hx => by
    cases hx) (loopf := ref38_Load.loops) (by
    have e : loopsOf (ref38_Load.loops) 0 (codeOf Try.f21) = [] := by kernel_rfl
    rw [e]
    intro p hp
    cases hp) ((ref38_Load.eq ns156 n157 k).trans hx)
theorem ref38_Load.look (d : Nat) (hd : 1 ≤ d) {e : Option Bool} {g : FuncId} {a : List AV} {h : Heap} {k : KR} (hx : ref38_Load.get ref38_Load e g a h k = some true) : e = some true ∨ callK Try.prog ht d g a h k = some true := by
  unfold ref38_Load.get at hx
  split at hx
  · exact .inr (ref38_Load.ok d hd _ _ _ hx)
  · exact .inl hx
/-- function 39: sheerleg/sheerlegref39.Pop -/
noncomputable def ref39_Pop.body (ref39_in : Tc1 → Int → (Bool → Option Bool) → Option Bool) (ref38_Load : (List Int) → Int → (Int → Bool → Option Bool) → Option Bool) (t154 : Tc1) (k1 : Tc1 → Int → Bool → Option Bool) : Option Bool :=
  (ref39_in t154 t154.2.2.2.2.1
  (fun b155 => (cond_ (! b155) (k1 (t154.1, (t154.2.1, (t154.2.2.1, (t154.2.2.2.1, (t154.2.2.2.2.1, (t154.2.2.2.2.2.1, (t154.2.2.2.2.2.2.1, (t154.2.2.2.2.2.2.2.1, (t154.2.2.2.2.2.2.2.2.1, ()))))))))) (0 : Int) false) (ref38_Load t154.1 t154.2.2.2.2.1
  (fun n158 b159 => (k1 ((t154.1, (t154.2.1, (t154.2.2.1, (t154.2.2.2.1, ((IntKind.wrap .i64 (t154.2.2.2.2.1 + (1 : Int))), (t154.2.2.2.2.2.1, (t154.2.2.2.2.2.2.1, (t154.2.2.2.2.2.2.2.1, (t154.2.2.2.2.2.2.2.2.1, ()))))))))).1, ((t154.1, (t154.2.1, (t154.2.2.1, (t154.2.2.2.1, ((IntKind.wrap .i64 (t154.2.2.2.2.1 + (1 : Int))), (t154.2.2.2.2.2.1, (t154.2.2.2.2.2.2.1, (t154.2.2.2.2.2.2.2.1, (t154.2.2.2.2.2.2.2.2.1, ()))))))))).2.1, ((t154.1, (t154.2.1, (t154.2.2.1, (t154.2.2.2.1, ((IntKind.wrap .i64 (t154.2.2.2.2.1 + (1 : Int))), (t154.2.2.2.2.2.1, (t154.2.2.2.2.2.2.1, (t154.2.2.2.2.2.2.2.1, (t154.2.2.2.2.2.2.2.2.1, ()))))))))).2.2.1, ((t154.1, (t154.2.1, (t154.2.2.1, (t154.2.2.2.1, ((IntKind.wrap .i64 (t154.2.2.2.2.1 + (1 : Int))), (t154.2.2.2.2.2.1, (t154.2.2.2.2.2.2.1, (t154.2.2.2.2.2.2.2.1, (t154.2.2.2.2.2.2.2.2.1, ()))))))))).2.2.2.1, ((t154.1, (t154.2.1, (t154.2.2.1, (t154.2.2.2.1, ((IntKind.wrap .i64 (t154.2.2.2.2.1 + (1 : Int))), (t154.2.2.2.2.2.1, (t154.2.2.2.2.2.2.1, (t154.2.2.2.2.2.2.2.1, (t154.2.2.2.2.2.2.2.2.1, ()))))))))).2.2.2.2.1, ((t154.1, (t154.2.1, (t154.2.2.1, (t154.2.2.2.1, ((IntKind.wrap .i64 (t154.2.2.2.2.1 + (1 : Int))), (t154.2.2.2.2.2.1, (t154.2.2.2.2.2.2.1, (t154.2.2.2.2.2.2.2.1, (t154.2.2.2.2.2.2.2.2.1, ()))))))))).2.2.2.2.2.1, ((t154.1, (t154.2.1, (t154.2.2.1, (t154.2.2.2.1, ((IntKind.wrap .i64 (t154.2.2.2.2.1 + (1 : Int))), (t154.2.2.2.2.2.1, (t154.2.2.2.2.2.2.1, (t154.2.2.2.2.2.2.2.1, (t154.2.2.2.2.2.2.2.2.1, ()))))))))).2.2.2.2.2.2.1, ((t154.1, (t154.2.1, (t154.2.2.1, (t154.2.2.2.1, ((IntKind.wrap .i64 (t154.2.2.2.2.1 + (1 : Int))), (t154.2.2.2.2.2.1, (t154.2.2.2.2.2.2.1, (t154.2.2.2.2.2.2.2.1, (t154.2.2.2.2.2.2.2.2.1, ()))))))))).2.2.2.2.2.2.2.1, ((t154.1, (t154.2.1, (t154.2.2.1, (t154.2.2.2.1, ((IntKind.wrap .i64 (t154.2.2.2.2.1 + (1 : Int))), (t154.2.2.2.2.2.1, (t154.2.2.2.2.2.2.1, (t154.2.2.2.2.2.2.2.1, (t154.2.2.2.2.2.2.2.2.1, ()))))))))).2.2.2.2.2.2.2.2.1, ()))))))))) n158 b159))))))
noncomputable def ref39_Pop (t154 : Tc1) (k1 : Tc1 → Int → Bool → Option Bool) : Option Bool := ref39_Pop.body ref39_in ref38_Load t154 k1
noncomputable def ref39_Pop.get (F : Tc1 → (Tc1 → Int → Bool → Option Bool) → Option Bool) (e : Option Bool) (g : FuncId) (a : List AV) (h : Heap) (k : KR) : Option Bool := match g, a, h with
  | 39, [(.d ⟨(.st [(.sl 2 (.int .i64)), (.int .i64), (.int .i64), (.int .i64), (.int .i64), (.int .i64), (.int .i64), (.int .i64), .bool]), t154⟩)], [] => F t154 (fun y0 y1 y2 => k (.tup [(.d ⟨(.st [(.sl 2 (.int .i64)), (.int .i64), (.int .i64), (.int .i64), (.int .i64), (.int .i64), (.int .i64), (.int .i64), .bool]), y0⟩), (.d ⟨(.int .i64), y1⟩), (.d ⟨.bool, y2⟩)]) [])
  | _, _, _ => e
noncomputable def ref39_Pop.calls (F0 : Tc1 → Int → (Bool → Option Bool) → Option Bool) (F1 : (List Int) → Int → (Int → Bool → Option Bool) → Option Bool) : RecF := fun g a h k => (ref39_in.get F0 (ref38_Load.get F1 none g a h k) g a h k)
noncomputable def ref39_Pop.loops : LoopF := fun b => none
set_option maxRecDepth 100000 in
theorem ref39_Pop.eq (F0 : Tc1 → Int → (Bool → Option Bool) → Option Bool) (F1 : (List Int) → Int → (Int → Bool → Option Bool) → Option Bool) (t154 : Tc1) (k : KR) : execL Try.prog ht 39 (callfOf (ref39_Pop.calls F0 F1)) (ref39_Pop.loops) 0 (codeOf Try.f39) ⟨[(.d ⟨(.st [(.sl 2 (.int .i64)), (.int .i64), (.int .i64), (.int .i64), (.int .i64), (.int .i64), (.int .i64), (.int .i64), .bool]), t154⟩)] ++ List.replicate (Try.f39.ntmps - ([(.d ⟨(.st [(.sl 2 (.int .i64)), (.int .i64), (.int .i64), (.int .i64), (.int .i64), (.int .i64), (.int .i64), (.int .i64), .bool]), t154⟩)] : List AV).length) .undef, [], 2⟩ (leave Try.prog Try.f39 k) = ref39_Pop.body F0 F1 t154 (fun y0 y1 y2 => k (.tup [(.d ⟨(.st [(.sl 2 (.int .i64)), (.int .i64), (.int .i64), (.int .i64), (.int .i64), (.int .i64), (.int .i64), (.int .i64), .bool]), y0⟩), (.d ⟨(.int .i64), y1⟩), (.d ⟨.bool, y2⟩)]) []) := by kernel_rfl
theorem ref39_Pop.ok (d : Nat) (hd : 2 ≤ d) (t154 : Tc1) (k : KR) (hx : ref39_Pop t154 (fun y0 y1 y2 => k (.tup [(.d ⟨(.st [(.sl 2 (.int .i64)), (.int .i64), (.int .i64), (.int .i64), (.int .i64), (.int .i64), (.int .i64), (.int .i64), .bool]), y0⟩), (.d ⟨(.int .i64), y1⟩), (.d ⟨.bool, y2⟩)]) []) = some true) : callK Try.prog ht d 39 [(.d ⟨(.st [(.sl 2 (.int .i64)), (.int .i64), (.int .i64), (.int .i64), (.int .i64), (.int .i64), (.int .i64), (.int .i64), .bool]), t154⟩)] [] k = some true := by
  obtain ⟨d, rfl⟩ : ∃ e, d = e + 1 := ⟨d - 1, by omega⟩
  exact fn_ok (c := codeOf Try.f39) Try.func39 (by kernel_rfl) (rec := ref39_Pop.calls ref39_in ref38_Load) (fun g a h k hx => by
    rcases ref39_in.look d (by omega) hx with hx | hx
    rotate_left
    · exact hx
    rcases ref38_Load.look d (by omega) hx with hx | hx
    rotate_left
    · exact hx
    cases hx) (loopf := ref39_Pop.loops) (by
    have e : loopsOf (ref39_Pop.loops) 0 (codeOf Try.f39) = [] := by kernel_rfl
    rw [e]
    intro p hp
    cases hp) ((ref39_Pop.eq ref39_in ref38_Load t154 k).trans hx)
theorem ref39_Pop.look (d : Nat) (hd : 2 ≤ d) {e : Option Bool} {g : FuncId} {a : List AV} {h : Heap} {k : KR} (hx : ref39_Pop.get ref39_Pop e g a h k = some true) : e = some true ∨ callK Try.prog ht d g a h k = some true := by
  unfold ref39_Pop.get at hx
  split at hx
  · exact .inr (ref39_Pop.ok d hd _ _ hx)
  · exact .inl hx
/-- function 40: sheerleg/sheerlegref39.Move -/
noncomputable def ref39_Move.body (t163 : Tc1) (n164 : Int) (b165 : Bool) (k1 : Tc1 → Bool → Option Bool) : Option Bool :=
  (cond_ (! (decide (n164 < (0 : Int)))) (cond_ b165 (cond_ (! (decide (n164 > (IntKind.wrap .i64 (t163.2.2.2.2.1 - t163.2.1))))) (cond_ (! b165) (cond_ (decide (n164 > (IntKind.wrap .i64 (t163.2.2.2.1 - t163.2.2.2.2.1)))) (k1 (t163.1, (t163.2.1, (t163.2.2.1, (t163.2.2.2.1, (t163.2.2.2.2.1, (t163.2.2.2.2.2.1, (t163.2.2.2.2.2.2.1, (t163.2.2.2.2.2.2.2.1, (t163.2.2.2.2.2.2.2.2.1, ()))))))))) false) (cond_ b165 (k1 ((t163.1, (t163.2.1, (t163.2.2.1, (t163.2.2.2.1, ((IntKind.wrap .i64 (t163.2.2.2.2.1 - n164)), (t163.2.2.2.2.2.1, (t163.2.2.2.2.2.2.1, (t163.2.2.2.2.2.2.2.1, (t163.2.2.2.2.2.2.2.2.1, ()))))))))).1, ((t163.1, (t163.2.1, (t163.2.2.1, (t163.2.2.2.1, ((IntKind.wrap .i64 (t163.2.2.2.2.1 - n164)), (t163.2.2.2.2.2.1, (t163.2.2.2.2.2.2.1, (t163.2.2.2.2.2.2.2.1, (t163.2.2.2.2.2.2.2.2.1, ()))))))))).2.1, ((t163.1, (t163.2.1, (t163.2.2.1, (t163.2.2.2.1, ((IntKind.wrap .i64 (t163.2.2.2.2.1 - n164)), (t163.2.2.2.2.2.1, (t163.2.2.2.2.2.2.1, (t163.2.2.2.2.2.2.2.1, (t163.2.2.2.2.2.2.2.2.1, ()))))))))).2.2.1, ((t163.1, (t163.2.1, (t163.2.2.1, (t163.2.2.2.1, ((IntKind.wrap .i64 (t163.2.2.2.2.1 - n164)), (t163.2.2.2.2.2.1, (t163.2.2.2.2.2.2.1, (t163.2.2.2.2.2.2.2.1, (t163.2.2.2.2.2.2.2.2.1, ()))))))))).2.2.2.1, ((t163.1, (t163.2.1, (t163.2.2.1, (t163.2.2.2.1, ((IntKind.wrap .i64 (t163.2.2.2.2.1 - n164)), (t163.2.2.2.2.2.1, (t163.2.2.2.2.2.2.1, (t163.2.2.2.2.2.2.2.1, (t163.2.2.2.2.2.2.2.2.1, ()))))))))).2.2.2.2.1, ((t163.1, (t163.2.1, (t163.2.2.1, (t163.2.2.2.1, ((IntKind.wrap .i64 (t163.2.2.2.2.1 - n164)), (t163.2.2.2.2.2.1, (t163.2.2.2.2.2.2.1, (t163.2.2.2.2.2.2.2.1, (t163.2.2.2.2.2.2.2.2.1, ()))))))))).2.2.2.2.2.1, ((t163.1, (t163.2.1, (t163.2.2.1, (t163.2.2.2.1, ((IntKind.wrap .i64 (t163.2.2.2.2.1 - n164)), (t163.2.2.2.2.2.1, (t163.2.2.2.2.2.2.1, (t163.2.2.2.2.2.2.2.1, (t163.2.2.2.2.2.2.2.2.1, ()))))))))).2.2.2.2.2.2.1, ((t163.1, (t163.2.1, (t163.2.2.1, (t163.2.2.2.1, ((IntKind.wrap .i64 (t163.2.2.2.2.1 - n164)), (t163.2.2.2.2.2.1, (t163.2.2.2.2.2.2.1, (t163.2.2.2.2.2.2.2.1, (t163.2.2.2.2.2.2.2.2.1, ()))))))))).2.2.2.2.2.2.2.1, ((t163.1, (t163.2.1, (t163.2.2.1, (t163.2.2.2.1, ((IntKind.wrap .i64 (t163.2.2.2.2.1 - n164)), (t163.2.2.2.2.2.1, (t163.2.2.2.2.2.2.1, (t163.2.2.2.2.2.2.2.1, (t163.2.2.2.2.2.2.2.2.1, ()))))))))).2.2.2.2.2.2.2.2.1, ()))))))))) true) (k1 ((t163.1, (t163.2.1, (t163.2.2.1, (t163.2.2.2.1, ((IntKind.wrap .i64 (t163.2.2.2.2.1 + n164)), (t163.2.2.2.2.2.1, (t163.2.2.2.2.2.2.1, (t163.2.2.2.2.2.2.2.1, (t163.2.2.2.2.2.2.2.2.1, ()))))))))).1, ((t163.1, (t163.2.1, (t163.2.2.1, (t163.2.2.2.1, ((IntKind.wrap .i64 (t163.2.2.2.2.1 + n164)), (t163.2.2.2.2.2.1, (t163.2.2.2.2.2.2.1, (t163.2.2.2.2.2.2.2.1, (t163.2.2.2.2.2.2.2.2.1, ()))))))))).2.1, ((t163.1, (t163.2.1, (t163.2.2.1, (t163.2.2.2.1, ((IntKind.wrap .i64 (t163.2.2.2.2.1 + n164)), (t163.2.2.2.2.2.1, (t163.2.2.2.2.2.2.1, (t163.2.2.2.2.2.2.2.1, (t163.2.2.2.2.2.2.2.2.1, ()))))))))).2.2.1, ((t163.1, (t163.2.1, (t163.2.2.1, (t163.2.2.2.1, ((IntKind.wrap .i64 (t163.2.2.2.2.1 + n164)), (t163.2.2.2.2.2.1, (t163.2.2.2.2.2.2.1, (t163.2.2.2.2.2.2.2.1, (t163.2.2.2.2.2.2.2.2.1, ()))))))))).2.2.2.1, ((t163.1, (t163.2.1, (t163.2.2.1, (t163.2.2.2.1, ((IntKind.wrap .i64 (t163.2.2.2.2.1 + n164)), (t163.2.2.2.2.2.1, (t163.2.2.2.2.2.2.1, (t163.2.2.2.2.2.2.2.1, (t163.2.2.2.2.2.2.2.2.1, ()))))))))).2.2.2.2.1, ((t163.1, (t163.2.1, (t163.2.2.1, (t163.2.2.2.1, ((IntKind.wrap .i64 (t163.2.2.2.2.1 + n164)), (t163.2.2.2.2.2.1, (t163.2.2.2.2.2.2.1, (t163.2.2.2.2.2.2.2.1, (t163.2.2.2.2.2.2.2.2.1, ()))))))))).2.2.2.2.2.1, ((t163.1, (t163.2.1, (t163.2.2.1, (t163.2.2.2.1, ((IntKind.wrap .i64 (t163.2.2.2.2.1 + n164)), (t163.2.2.2.2.2.1, (t163.2.2.2.2.2.2.1, (t163.2.2.2.2.2.2.2.1, (t163.2.2.2.2.2.2.2.2.1, ()))))))))).2.2.2.2.2.2.1, ((t163.1, (t163.2.1, (t163.2.2.1, (t163.2.2.2.1, ((IntKind.wrap .i64 (t163.2.2.2.2.1 + n164)), (t163.2.2.2.2.2.1, (t163.2.2.2.2.2.2.1, (t163.2.2.2.2.2.2.2.1, (t163.2.2.2.2.2.2.2.2.1, ()))))))))).2.2.2.2.2.2.2.1, ((t163.1, (t163.2.1, (t163.2.2.1, (t163.2.2.2.1, ((IntKind.wrap .i64 (t163.2.2.2.2.1 + n164)), (t163.2.2.2.2.2.1, (t163.2.2.2.2.2.2.1, (t163.2.2.2.2.2.2.2.1, (t163.2.2.2.2.2.2.2.2.1, ()))))))))).2.2.2.2.2.2.2.2.1, ()))))))))) true))) (cond_ b165 (k1 ((t163.1, (t163.2.1, (t163.2.2.1, (t163.2.2.2.1, ((IntKind.wrap .i64 (t163.2.2.2.2.1 - n164)), (t163.2.2.2.2.2.1, (t163.2.2.2.2.2.2.1, (t163.2.2.2.2.2.2.2.1, (t163.2.2.2.2.2.2.2.2.1, ()))))))))).1, ((t163.1, (t163.2.1, (t163.2.2.1, (t163.2.2.2.1, ((IntKind.wrap .i64 (t163.2.2.2.2.1 - n164)), (t163.2.2.2.2.2.1, (t163.2.2.2.2.2.2.1, (t163.2.2.2.2.2.2.2.1, (t163.2.2.2.2.2.2.2.2.1, ()))))))))).2.1, ((t163.1, (t163.2.1, (t163.2.2.1, (t163.2.2.2.1, ((IntKind.wrap .i64 (t163.2.2.2.2.1 - n164)), (t163.2.2.2.2.2.1, (t163.2.2.2.2.2.2.1, (t163.2.2.2.2.2.2.2.1, (t163.2.2.2.2.2.2.2.2.1, ()))))))))).2.2.1, ((t163.1, (t163.2.1, (t163.2.2.1, (t163.2.2.2.1, ((IntKind.wrap .i64 (t163.2.2.2.2.1 - n164)), (t163.2.2.2.2.2.1, (t163.2.2.2.2.2.2.1, (t163.2.2.2.2.2.2.2.1, (t163.2.2.2.2.2.2.2.2.1, ()))))))))).2.2.2.1, ((t163.1, (t163.2.1, (t163.2.2.1, (t163.2.2.2.1, ((IntKind.wrap .i64 (t163.2.2.2.2.1 - n164)), (t163.2.2.2.2.2.1, (t163.2.2.2.2.2.2.1, (t163.2.2.2.2.2.2.2.1, (t163.2.2.2.2.2.2.2.2.1, ()))))))))).2.2.2.2.1, ((t163.1, (t163.2.1, (t163.2.2.1, (t163.2.2.2.1, ((IntKind.wrap .i64 (t163.2.2.2.2.1 - n164)), (t163.2.2.2.2.2.1, (t163.2.2.2.2.2.2.1, (t163.2.2.2.2.2.2.2.1, (t163.2.2.2.2.2.2.2.2.1, ()))))))))).2.2.2.2.2.1, ((t163.1, (t163.2.1, (t163.2.2.1, (t163.2.2.2.1, ((IntKind.wrap .i64 (t163.2.2.2.2.1 - n164)), (t163.2.2.2.2.2.1, (t163.2.2.2.2.2.2.1, (t163.2.2.2.2.2.2.2.1, (t163.2.2.2.2.2.2.2.2.1, ()))))))))).2.2.2.2.2.2.1, ((t163.1, (t163.2.1, (t163.2.2.1, (t163.2.2.2.1, ((IntKind.wrap .i64 (t163.2.2.2.2.1 - n164)), (t163.2.2.2.2.2.1, (t163.2.2.2.2.2.2.1, (t163.2.2.2.2.2.2.2.1, (t163.2.2.2.2.2.2.2.2.1, ()))))))))).2.2.2.2.2.2.2.1, ((t163.1, (t163.2.1, (t163.2.2.1, (t163.2.2.2.1, ((IntKind.wrap .i64 (t163.2.2.2.2.1 - n164)), (t163.2.2.2.2.2.1, (t163.2.2.2.2.2.2.1, (t163.2.2.2.2.2.2.2.1, (t163.2.2.2.2.2.2.2.2.1, ()))))))))).2.2.2.2.2.2.2.2.1, ()))))))))) true) (k1 ((t163.1, (t163.2.1, (t163.2.2.1, (t163.2.2.2.1, ((IntKind.wrap .i64 (t163.2.2.2.2.1 + n164)), (t163.2.2.2.2.2.1, (t163.2.2.2.2.2.2.1, (t163.2.2.2.2.2.2.2.1, (t163.2.2.2.2.2.2.2.2.1, ()))))))))).1, ((t163.1, (t163.2.1, (t163.2.2.1, (t163.2.2.2.1, ((IntKind.wrap .i64 (t163.2.2.2.2.1 + n164)), (t163.2.2.2.2.2.1, (t163.2.2.2.2.2.2.1, (t163.2.2.2.2.2.2.2.1, (t163.2.2.2.2.2.2.2.2.1, ()))))))))).2.1, ((t163.1, (t163.2.1, (t163.2.2.1, (t163.2.2.2.1, ((IntKind.wrap .i64 (t163.2.2.2.2.1 + n164)), (t163.2.2.2.2.2.1, (t163.2.2.2.2.2.2.1, (t163.2.2.2.2.2.2.2.1, (t163.2.2.2.2.2.2.2.2.1, ()))))))))).2.2.1, ((t163.1, (t163.2.1, (t163.2.2.1, (t163.2.2.2.1, ((IntKind.wrap .i64 (t163.2.2.2.2.1 + n164)), (t163.2.2.2.2.2.1, (t163.2.2.2.2.2.2.1, (t163.2.2.2.2.2.2.2.1, (t163.2.2.2.2.2.2.2.2.1, ()))))))))).2.2.2.1, ((t163.1, (t163.2.1, (t163.2.2.1, (t163.2.2.2.1, ((IntKind.wrap .i64 (t163.2.2.2.2.1 + n164)), (t163.2.2.2.2.2.1, (t163.2.2.2.2.2.2.1, (t163.2.2.2.2.2.2.2.1, (t163.2.2.2.2.2.2.2.2.1, ()))))))))).2.2.2.2.1, ((t163.1, (t163.2.1, (t163.2.2.1, (t163.2.2.2.1, ((IntKind.wrap .i64 (t163.2.2.2.2.1 + n164)), (t163.2.2.2.2.2.1, (t163.2.2.2.2.2.2.1, (t163.2.2.2.2.2.2.2.1, (t163.2.2.2.2.2.2.2.2.1, ()))))))))).2.2.2.2.2.1, ((t163.1, (t163.2.1, (t163.2.2.1, (t163.2.2.2.1, ((IntKind.wrap .i64 (t163.2.2.2.2.1 + n164)), (t163.2.2.2.2.2.1, (t163.2.2.2.2.2.2.1, (t163.2.2.2.2.2.2.2.1, (t163.2.2.2.2.2.2.2.2.1, ()))))))))).2.2.2.2.2.2.1, ((t163.1, (t163.2.1, (t163.2.2.1, (t163.2.2.2.1, ((IntKind.wrap .i64 (t163.2.2.2.2.1 + n164)), (t163.2.2.2.2.2.1, (t163.2.2.2.2.2.2.1, (t163.2.2.2.2.2.2.2.1, (t163.2.2.2.2.2.2.2.2.1, ()))))))))).2.2.2.2.2.2.2.1, ((t163.1, (t163.2.1, (t163.2.2.1, (t163.2.2.2.1, ((IntKind.wrap .i64 (t163.2.2.2.2.1 + n164)), (t163.2.2.2.2.2.1, (t163.2.2.2.2.2.2.1, (t163.2.2.2.2.2.2.2.1, (t163.2.2.2.2.2.2.2.2.1, ()))))))))).2.2.2.2.2.2.2.2.1, ()))))))))) true))) (k1 (t163.1, (t163.2.1, (t163.2.2.1, (t163.2.2.2.1, (t163.2.2.2.2.1, (t163.2.2.2.2.2.1, (t163.2.2.2.2.2.2.1, (t163.2.2.2.2.2.2.2.1, (t163.2.2.2.2.2.2.2.2.1, ()))))))))) false)) (cond_ (! b165) (cond_ (decide (n164 > (IntKind.wrap .i64 (t163.2.2.2.1 - t163.2.2.2.2.1)))) (k1 (t163.1, (t163.2.1, (t163.2.2.1, (t163.2.2.2.1, (t163.2.2.2.2.1, (t163.2.2.2.2.2.1, (t163.2.2.2.2.2.2.1, (t163.2.2.2.2.2.2.2.1, (t163.2.2.2.2.2.2.2.2.1, ()))))))))) false) (cond_ b165 (k1 ((t163.1, (t163.2.1, (t163.2.2.1, (t163.2.2.2.1, ((IntKind.wrap .i64 (t163.2.2.2.2.1 - n164)), (t163.2.2.2.2.2.1, (t163.2.2.2.2.2.2.1, (t163.2.2.2.2.2.2.2.1, (t163.2.2.2.2.2.2.2.2.1, ()))))))))).1, ((t163.1, (t163.2.1, (t163.2.2.1, (t163.2.2.2.1, ((IntKind.wrap .i64 (t163.2.2.2.2.1 - n164)), (t163.2.2.2.2.2.1, (t163.2.2.2.2.2.2.1, (t163.2.2.2.2.2.2.2.1, (t163.2.2.2.2.2.2.2.2.1, ()))))))))).2.1, ((t163.1, (t163.2.1, (t163.2.2.1, (t163.2.2.2.1, ((IntKind.wrap .i64 (t163.2.2.2.2.1 - n164)), (t163.2.2.2.2.2.1, (t163.2.2.2.2.2.2.1, (t163.2.2.2.2.2.2.2.1, (t163.2.2.2.2.2.2.2.2.1, ()))))))))).2.2.1, ((t163.1, (t163.2.1, (t163.2.2.1, (t163.2.2.2.1, ((IntKind.wrap .i64 (t163.2.2.2.2.1 - n164)), (t163.2.2.2.2.2.1, (t163.2.2.2.2.2.2.1, (t163.2.2.2.2.2.2.2.1, (t163.2.2.2.2.2.2.2.2.1, ()))))))))).2.2.2.1, ((t163.1, (t163.2.1, (t163.2.2.1, (t163.2.2.2.1, ((IntKind.wrap .i64 (t163.2.2.2.2.1 - n164)), (t163.2.2.2.2.2.1, (t163.2.2.2.2.2.2.1, (t163.2.2.2.2.2.2.2.1, (t163.2.2.2.2.2.2.2.2.1, ()))))))))).2.2.2.2.1, ((t163.1, (t163.2.1, (t163.2.2.1, (t163.2.2.2.1, ((IntKind.wrap .i64 (t163.2.2.2.2.1 - n164)), (t163.2.2.2.2.2.1, (t163.2.2.2.2.2.2.1, (t163.2.2.2.2.2.2.2.1, (t163.2.2.2.2.2.2.2.2.1, ()))))))))).2.2.2.2.2.1, ((t163.1, (t163.2.1, (t163.2.2.1, (t163.2.2.2.1, ((IntKind.wrap .i64 (t163.2.2.2.2.1 - n164)), (t163.2.2.2.2.2.1, (t163.2.2.2.2.2.2.1, (t163.2.2.2.2.2.2.2.1, (t163.2.2.2.2.2.2.2.2.1, ()))))))))).2.2.2.2.2.2.1, ((t163.1, (t163.2.1, (t163.2.2.1, (t163.2.2.2.1, ((IntKind.wrap .i64 (t163.2.2.2.2.1 - n164)), (t163.2.2.2.2.2.1, (t163.2.2.2.2.2.2.1, (t163.2.2.2.2.2.2.2.1, (t163.2.2.2.2.2.2.2.2.1, ()))))))))).2.2.2.2.2.2.2.1, ((t163.1, (t163.2.1, (t163.2.2.1, (t163.2.2.2.1, ((IntKind.wrap .i64 (t163.2.2.2.2.1 - n164)), (t163.2.2.2.2.2.1, (t163.2.2.2.2.2.2.1, (t163.2.2.2.2.2.2.2.1, (t163.2.2.2.2.2.2.2.2.1, ()))))))))).2.2.2.2.2.2.2.2.1, ()))))))))) true) (k1 ((t163.1, (t163.2.1, (t163.2.2.1, (t163.2.2.2.1, ((IntKind.wrap .i64 (t163.2.2.2.2.1 + n164)), (t163.2.2.2.2.2.1, (t163.2.2.2.2.2.2.1, (t163.2.2.2.2.2.2.2.1, (t163.2.2.2.2.2.2.2.2.1, ()))))))))).1, ((t163.1, (t163.2.1, (t163.2.2.1, (t163.2.2.2.1, ((IntKind.wrap .i64 (t163.2.2.2.2.1 + n164)), (t163.2.2.2.2.2.1, (t163.2.2.2.2.2.2.1, (t163.2.2.2.2.2.2.2.1, (t163.2.2.2.2.2.2.2.2.1, ()))))))))).2.1, ((t163.1, (t163.2.1, (t163.2.2.1, (t163.2.2.2.1, ((IntKind.wrap .i64 (t163.2.2.2.2.1 + n164)), (t163.2.2.2.2.2.1, (t163.2.2.2.2.2.2.1, (t163.2.2.2.2.2.2.2.1, (t163.2.2.2.2.2.2.2.2.1, ()))))))))).2.2.1, ((t163.1, (t163.2.1, (t163.2.2.1, (t163.2.2.2.1, ((IntKind.wrap .i64 (t163.2.2.2.2.1 + n164)), (t163.2.2.2.2.2.1, (t163.2.2.2.2.2.2.1, (t163.2.2.2.2.2.2.2.1, (t163.2.2.2.2.2.2.2.2.1, ()))))))))).2.2.2.1, ((t163.1, (t163.2.1, (t163.2.2.1, (t163.2.2.2.1, ((IntKind.wrap .i64 (t163.2.2.2.2.1 + n164)), (t163.2.2.2.2.2.1, (t163.2.2.2.2.2.2.1, (t163.2.2.2.2.2.2.2.1, (t163.2.2.2.2.2.2.2.2.1, ()))))))))).2.2.2.2.1, ((t163.1, (t163.2.1, (t163.2.2.1, (t163.2.2.2.1, ((IntKind.wrap .i64 (t163.2.2.2.2.1 + n164)), (t163.2.2.2.2.2.1, (t163.2.2.2.2.2.2.1, (t163.2.2.2.2.2.2.2.1, (t163.2.2.2.2.2.2.2.2.1, ()))))))))).2.2.2.2.2.1, ((t163.1, (t163.2.1, (t163.2.2.1, (t163.2.2.2.1, ((IntKind.wrap .i64 (t163.2.2.2.2.1 + n164)), (t163.2.2.2.2.2.1, (t163.2.2.2.2.2.2.1, (t163.2.2.2.2.2.2.2.1, (t163.2.2.2.2.2.2.2.2.1, ()))))))))).2.2.2.2.2.2.1, ((t163.1, (t163.2.1, (t163.2.2.1, (t163.2.2.2.1, ((IntKind.wrap .i64 (t163.2.2.2.2.1 + n164)), (t163.2.2.2.2.2.1, (t163.2.2.2.2.2.2.1, (t163.2.2.2.2.2.2.2.1, (t163.2.2.2.2.2.2.2.2.1, ()))))))))).2.2.2.2.2.2.2.1, ((t163.1, (t163.2.1, (t163.2.2.1, (t163.2.2.2.1, ((IntKind.wrap .i64 (t163.2.2.2.2.1 + n164)), (t163.2.2.2.2.2.1, (t163.2.2.2.2.2.2.1, (t163.2.2.2.2.2.2.2.1, (t163.2.2.2.2.2.2.2.2.1, ()))))))))).2.2.2.2.2.2.2.2.1, ()))))))))) true))) (cond_ b165 (k1 ((t163.1, (t163.2.1, (t163.2.2.1, (t163.2.2.2.1, ((IntKind.wrap .i64 (t163.2.2.2.2.1 - n164)), (t163.2.2.2.2.2.1, (t163.2.2.2.2.2.2.1, (t163.2.2.2.2.2.2.2.1, (t163.2.2.2.2.2.2.2.2.1, ()))))))))).1, ((t163.1, (t163.2.1, (t163.2.2.1, (t163.2.2.2.1, ((IntKind.wrap .i64 (t163.2.2.2.2.1 - n164)), (t163.2.2.2.2.2.1, (t163.2.2.2.2.2.2.1, (t163.2.2.2.2.2.2.2.1, (t163.2.2.2.2.2.2.2.2.1, ()))))))))).2.1, ((t163.1, (t163.2.1, (t163.2.2.1, (t163.2.2.2.1, ((IntKind.wrap .i64 (t163.2.2.2.2.1 - n164)), (t163.2.2.2.2.2.1, (t163.2.2.2.2.2.2.1, (t163.2.2.2.2.2.2.2.1, (t163.2.2.2.2.2.2.2.2.1, ()))))))))).2.2.1, ((t163.1, (t163.2.1, (t163.2.2.1, (t163.2.2.2.1, ((IntKind.wrap .i64 (t163.2.2.2.2.1 - n164)), (t163.2.2.2.2.2.1, (t163.2.2.2.2.2.2.1, (t163.2.2.2.2.2.2.2.1, (t163.2.2.2.2.2.2.2.2.1, ()))))))))).2.2.2.1, ((t163.1, (t163.2.1, (t163.2.2.1, (t163.2.2.2.1, ((IntKind.wrap .i64 (t163.2.2.2.2.1 - n164)), (t163.2.2.2.2.2.1, (t163.2.2.2.2.2.2.1, (t163.2.2.2.2.2.2.2.1, (t163.2.2.2.2.2.2.2.2.1, ()))))))))).2.2.2.2.1, ((t163.1, (t163.2.1, (t163.2.2.1, (t163.2.2.2.1, ((IntKind.wrap .i64 (t163.2.2.2.2.1 - n164)), (t163.2.2.2.2.2.1, (t163.2.2.2.2.2.2.1, (t163.2.2.2.2.2.2.2.1, (t163.2.2.2.2.2.2.2.2.1, ()))))))))).2.2.2.2.2.1, ((t163.1, (t163.2.1, (t163.2.2.1, (t163.2.2.2.1, ((IntKind.wrap .i64 (t163.2.2.2.2.1 - n164)), (t163.2.2.2.2.2.1, (t163.2.2.2.2.2.2.1, (t163.2.2.2.2.2.2.2.1, (t163.2.2.2.2.2.2.2.2.1, ()))))))))).2.2.2.2.2.2.1, ((t163.1, (t163.2.1, (t163.2.2.1, (t163.2.2.2.1, ((IntKind.wrap .i64 (t163.2.2.2.2.1 - n164)), (t163.2.2.2.2.2.1, (t163.2.2.2.2.2.2.1, (t163.2.2.2.2.2.2.2.1, (t163.2.2.2.2.2.2.2.2.1, ()))))))))).2.2.2.2.2.2.2.1, ((t163.1, (t163.2.1, (t163.2.2.1, (t163.2.2.2.1, ((IntKind.wrap .i64 (t163.2.2.2.2.1 - n164)), (t163.2.2.2.2.2.1, (t163.2.2.2.2.2.2.1, (t163.2.2.2.2.2.2.2.1, (t163.2.2.2.2.2.2.2.2.1, ()))))))))).2.2.2.2.2.2.2.2.1, ()))))))))) true) (k1 ((t163.1, (t163.2.1, (t163.2.2.1, (t163.2.2.2.1, ((IntKind.wrap .i64 (t163.2.2.2.2.1 + n164)), (t163.2.2.2.2.2.1, (t163.2.2.2.2.2.2.1, (t163.2.2.2.2.2.2.2.1, (t163.2.2.2.2.2.2.2.2.1, ()))))))))).1, ((t163.1, (t163.2.1, (t163.2.2.1, (t163.2.2.2.1, ((IntKind.wrap .i64 (t163.2.2.2.2.1 + n164)), (t163.2.2.2.2.2.1, (t163.2.2.2.2.2.2.1, (t163.2.2.2.2.2.2.2.1, (t163.2.2.2.2.2.2.2.2.1, ()))))))))).2.1, ((t163.1, (t163.2.1, (t163.2.2.1, (t163.2.2.2.1, ((IntKind.wrap .i64 (t163.2.2.2.2.1 + n164)), (t163.2.2.2.2.2.1, (t163.2.2.2.2.2.2.1, (t163.2.2.2.2.2.2.2.1, (t163.2.2.2.2.2.2.2.2.1, ()))))))))).2.2.1, ((t163.1, (t163.2.1, (t163.2.2.1, (t163.2.2.2.1, ((IntKind.wrap .i64 (t163.2.2.2.2.1 + n164)), (t163.2.2.2.2.2.1, (t163.2.2.2.2.2.2.1, (t163.2.2.2.2.2.2.2.1, (t163.2.2.2.2.2.2.2.2.1, ()))))))))).2.2.2.1, ((t163.1, (t163.2.1, (t163.2.2.1, (t163.2.2.2.1, ((IntKind.wrap .i64 (t163.2.2.2.2.1 + n164)), (t163.2.2.2.2.2.1, (t163.2.2.2.2.2.2.1, (t163.2.2.2.2.2.2.2.1, (t163.2.2.2.2.2.2.2.2.1, ()))))))))).2.2.2.2.1, ((t163.1, (t163.2.1, (t163.2.2.1, (t163.2.2.2.1, ((IntKind.wrap .i64 (t163.2.2.2.2.1 + n164)), (t163.2.2.2.2.2.1, (t163.2.2.2.2.2.2.1, (t163.2.2.2.2.2.2.2.1, (t163.2.2.2.2.2.2.2.2.1, ()))))))))).2.2.2.2.2.1, ((t163.1, (t163.2.1, (t163.2.2.1, (t163.2.2.2.1, ((IntKind.wrap .i64 (t163.2.2.2.2.1 + n164)), (t163.2.2.2.2.2.1, (t163.2.2.2.2.2.2.1, (t163.2.2.2.2.2.2.2.1, (t163.2.2.2.2.2.2.2.2.1, ()))))))))).2.2.2.2.2.2.1, ((t163.1, (t163.2.1, (t163.2.2.1, (t163.2.2.2.1, ((IntKind.wrap .i64 (t163.2.2.2.2.1 + n164)), (t163.2.2.2.2.2.1, (t163.2.2.2.2.2.2.1, (t163.2.2.2.2.2.2.2.1, (t163.2.2.2.2.2.2.2.2.1, ()))))))))).2.2.2.2.2.2.2.1, ((t163.1, (t163.2.1, (t163.2.2.1, (t163.2.2.2.1, ((IntKind.wrap .i64 (t163.2.2.2.2.1 + n164)), (t163.2.2.2.2.2.1, (t163.2.2.2.2.2.2.1, (t163.2.2.2.2.2.2.2.1, (t163.2.2.2.2.2.2.2.2.1, ()))))))))).2.2.2.2.2.2.2.2.1, ()))))))))) true)))) (k1 (t163.1, (t163.2.1, (t163.2.2.1, (t163.2.2.2.1, (t163.2.2.2.2.1, (t163.2.2.2.2.2.1, (t163.2.2.2.2.2.2.1, (t163.2.2.2.2.2.2.2.1, (t163.2.2.2.2.2.2.2.2.1, ()))))))))) false))
noncomputable def ref39_Move (t163 : Tc1) (n164 : Int) (b165 : Bool) (k1 : Tc1 → Bool → Option Bool) : Option Bool := ref39_Move.body t163 n164 b165 k1
noncomputable def ref39_Move.get (F : Tc1 → Int → Bool → (Tc1 → Bool → Option Bool) → Option Bool) (e : Option Bool) (g : FuncId) (a : List AV) (h : Heap) (k : KR) : Option Bool := match g, a, h with
  | 40, [(.d ⟨(.st [(.sl 2 (.int .i64)), (.int .i64), (.int .i64), (.int .i64), (.int .i64), (.int .i64), (.int .i64), (.int .i64), .bool]), t163⟩), (.d ⟨(.int .i64), n164⟩), (.d ⟨.bool, b165⟩)], [] => F t163 n164 b165 (fun y0 y1 => k (.tup [(.d ⟨(.st [(.sl 2 (.int .i64)), (.int .i64), (.int .i64), (.int .i64), (.int .i64), (.int .i64), (.int .i64), (.int .i64), .bool]), y0⟩), (.d ⟨.bool, y1⟩)]) [])
  | _, _, _ => e
noncomputable def ref39_Move.calls : RecF := fun g a h k => none
noncomputable def ref39_Move.loops : LoopF := fun b => none
set_option maxRecDepth 100000 in
theorem ref39_Move.eq (t163 : Tc1) (n164 : Int) (b165 : Bool) (k : KR) : execL Try.prog ht 40 (callfOf (ref39_Move.calls)) (ref39_Move.loops) 0 (codeOf Try.f40) ⟨[(.d ⟨(.st [(.sl 2 (.int .i64)), (.int .i64), (.int .i64), (.int .i64), (.int .i64), (.int .i64), (.int .i64), (.int .i64), .bool]), t163⟩), (.d ⟨(.int .i64), n164⟩), (.d ⟨.bool, b165⟩)] ++ List.replicate (Try.f40.ntmps - ([(.d ⟨(.st [(.sl 2 (.int .i64)), (.int .i64), (.int .i64), (.int .i64), (.int .i64), (.int .i64), (.int .i64), (.int .i64), .bool]), t163⟩), (.d ⟨(.int .i64), n164⟩), (.d ⟨.bool, b165⟩)] : List AV).length) .undef, [], 2⟩ (leave Try.prog Try.f40 k) = ref39_Move.body t163 n164 b165 (fun y0 y1 => k (.tup [(.d ⟨(.st [(.sl 2 (.int .i64)), (.int .i64), (.int .i64), (.int .i64), (.int .i64), (.int .i64), (.int .i64), (.int .i64), .bool]), y0⟩), (.d ⟨.bool, y1⟩)]) []) := by kernel_rfl
theorem ref39_Move.ok (d : Nat) (hd : 1 ≤ d) (t163 : Tc1) (n164 : Int) (b165 : Bool) (k : KR) (hx : ref39_Move t163 n164 b165 (fun y0 y1 => k (.tup [(.d ⟨(.st [(.sl 2 (.int .i64)), (.int .i64), (.int .i64), (.int .i64), (.int .i64), (.int .i64), (.int .i64), (.int .i64), .bool]), y0⟩), (.d ⟨.bool, y1⟩)]) []) = some true) : callK Try.prog ht d 40 [(.d ⟨(.st [(.sl 2 (.int .i64)), (.int .i64), (.int .i64), (.int .i64), (.int .i64), (.int .i64), (.int .i64), (.int .i64), .bool]), t163⟩), (.d ⟨(.int .i64), n164⟩), (.d ⟨.bool, b165⟩)] [] k = some true := by
  obtain ⟨d, rfl⟩ : ∃ e, d = e + 1 := ⟨d - 1, by omega⟩
  exact fn_ok (c := codeOf Try.f40) Try.func40 (by kernel_rfl) (rec := ref39_Move.calls) (fun g a h k hx => by
    cases hx) (loopf := ref39_Move.loops) (by
    have e : loopsOf (ref39_Move.loops) 0 (codeOf Try.f40) = [] := by kernel_rfl
    rw [e]
    intro p hp
    cases hp) ((ref39_Move.eq t163 n164 b165 k).trans hx)
theorem ref39_Move.look (d : Nat) (hd : 1 ≤ d) {e : Option Bool} {g : FuncId} {a : List AV} {h : Heap} {k : KR} (hx : ref39_Move.get ref39_Move e g a h k = some true) : e = some true ∨ callK Try.prog ht d g a h k = some true := by
  unfold ref39_Move.get at hx
  split at hx
  · exact .inr (ref39_Move.ok d hd _ _ _ _ hx)
  · exact .inl hx
/-- function 49: (*sheerleg/stack.Stack).may -/
noncomputable def stack_Stack_may.body (stack_Stack_live : (Bool → Option Bool) → Option Bool) (n171 : Int) (n172 : Int) (k1 : Bool → Option Bool) : Option Bool :=
  (stack_Stack_live
  (fun b173 => (cond_ b173 (cond_ (decide (n171 ≥ (0 : Int))) (k1 (decide (n171 ≤ n172))) (k1 false)) (k1 false))))
noncomputable def stack_Stack_may (n171 : Int) (n172 : Int) (k1 : Bool → Option Bool) : Option Bool := stack_Stack_may.body stack_Stack_live n171 n172 k1
noncomputable def stack_Stack_may.get (F : Int → Int → (Bool → Option Bool) → Option Bool) (e : Option Bool) (g : FuncId) (a : List AV) (h : Heap) (k : KR) : Option Bool := match g, a, h with
  | 49, [.nilp, (.d ⟨(.int .i64), n171⟩), (.d ⟨(.int .i64), n172⟩)], [] => F n171 n172 (fun y0 => k (.d ⟨.bool, y0⟩) [])
  | _, _, _ => e
noncomputable def stack_Stack_may.calls (F0 : (Bool → Option Bool) → Option Bool) : RecF := fun g a h k => (stack_Stack_live.get F0 none g a h k)
noncomputable def stack_Stack_may.loops : LoopF := fun b => none
set_option maxRecDepth 100000 in
theorem stack_Stack_may.eq (F0 : (Bool → Option Bool) → Option Bool) (n171 : Int) (n172 : Int) (k : KR) : execL Try.prog ht 49 (callfOf (stack_Stack_may.calls F0)) (stack_Stack_may.loops) 0 (codeOf Try.f49) ⟨[.nilp, (.d ⟨(.int .i64), n171⟩), (.d ⟨(.int .i64), n172⟩)] ++ List.replicate (Try.f49.ntmps - ([.nilp, (.d ⟨(.int .i64), n171⟩), (.d ⟨(.int .i64), n172⟩)] : List AV).length) .undef, [], 2⟩ (leave Try.prog Try.f49 k) = stack_Stack_may.body F0 n171 n172 (fun y0 => k (.d ⟨.bool, y0⟩) []) := by kernel_rfl
theorem stack_Stack_may.ok (d : Nat) (hd : 2 ≤ d) (n171 : Int) (n172 : Int) (k : KR) (hx : stack_Stack_may n171 n172 (fun y0 => k (.d ⟨.bool, y0⟩) []) = some true) : callK Try.prog ht d 49 [.nilp, (.d ⟨(.int .i64), n171⟩), (.d ⟨(.int .i64), n172⟩)] [] k = some true := by
  obtain ⟨d, rfl⟩ : ∃ e, d = e + 1 := ⟨d - 1, by omega⟩
  exact fn_ok (c := codeOf Try.f49) Try.func49 (by kernel_rfl) (rec := stack_Stack_may.calls stack_Stack_live) (fun g a h k hx => by
    rcases stack_Stack_live.look d (by omega) hx with hx | hx
    rotate_left
    · exact hx
    cases hx) (loopf := stack_Stack_may.loops) (by
    have e : loopsOf (stack_Stack_may.loops) 0 (codeOf Try.f49) = [] := by kernel_rfl
    rw [e]
    intro p hp
    cases hp) ((stack_Stack_may.eq stack_Stack_live n171 n172 k).trans hx)
theorem stack_Stack_may.look (d : Nat) (hd : 2 ≤ d) {e : Option Bool} {g : FuncId} {a : List AV} {h : Heap} {k : KR} (hx : stack_Stack_may.get stack_Stack_may e g a h k = some true) : e = some true ∨ callK Try.prog ht d g a h k = some true := by
  unfold stack_Stack_may.get at hx
  split at hx
  · exact .inr (stack_Stack_may.ok d hd _ _ _ hx)
  · exact .inl hx
/-- function 25: (*sheerleg/stack.Stack).Down -/
noncomputable def stack_Stack_Down.body (stack_Stack_SP : (Int → Option Bool) → Option Bool) (stack_Stack_Seg : ((Int × Int × Int × Unit) → Option Bool) → Option Bool) (stack_Stack_may : Int → Int → (Bool → Option Bool) → Option Bool) (n168 : Int) (k1 : Bool → Option Bool) : Option Bool :=
  (stack_Stack_SP
  (fun n169 => (stack_Stack_Seg
  (fun t170 => (stack_Stack_may n168 (IntKind.wrap .i64 (n169 - t170.1))
  (fun b174 => (cond_ (! b174) (k1 false) none)))))))
noncomputable def stack_Stack_Down (n168 : Int) (k1 : Bool → Option Bool) : Option Bool := stack_Stack_Down.body stack_Stack_SP stack_Stack_Seg stack_Stack_may n168 k1
noncomputable def stack_Stack_Down.get (F : Int → (Bool → Option Bool) → Option Bool) (e : Option Bool) (g : FuncId) (a : List AV) (h : Heap) (k : KR) : Option Bool := match g, a, h with
  | 25, [.nilp, (.d ⟨(.int .i64), n168⟩)], [] => F n168 (fun y0 => k (.d ⟨.bool, y0⟩) [])
  | _, _, _ => e
noncomputable def stack_Stack_Down.calls (F0 : (Int → Option Bool) → Option Bool) (F1 : ((Int × Int × Int × Unit) → Option Bool) → Option Bool) (F2 : Int → Int → (Bool → Option Bool) → Option Bool) : RecF := fun g a h k => (stack_Stack_SP.get F0 (stack_Stack_Seg.get F1 (stack_Stack_may.get F2 none g a h k) g a h k) g a h k)
noncomputable def stack_Stack_Down.loops : LoopF := fun b => none
set_option maxRecDepth 100000 in
theorem stack_Stack_Down.eq (F0 : (Int → Option Bool) → Option Bool) (F1 : ((Int × Int × Int × Unit) → Option Bool) → Option Bool) (F2 : Int → Int → (Bool → Option Bool) → Option Bool) (n168 : Int) (k : KR) : execL Try.prog ht 25 (callfOf (stack_Stack_Down.calls F0 F1 F2)) (stack_Stack_Down.loops) 0 (codeOf Try.f25) ⟨[.nilp, (.d ⟨(.int .i64), n168⟩)] ++ List.replicate (Try.f25.ntmps - ([.nilp, (.d ⟨(.int .i64), n168⟩)] : List AV).length) .undef, [], 2⟩ (leave Try.prog Try.f25 k) = stack_Stack_Down.body F0 F1 F2 n168 (fun y0 => k (.d ⟨.bool, y0⟩) []) := by kernel_rfl
theorem stack_Stack_Down.ok (d : Nat) (hd : 3 ≤ d) (n168 : Int) (k : KR) (hx : stack_Stack_Down n168 (fun y0 => k (.d ⟨.bool, y0⟩) []) = some true) : callK Try.prog ht d 25 [.nilp, (.d ⟨(.int .i64), n168⟩)] [] k = some true := by
  obtain ⟨d, rfl⟩ : ∃ e, d = e + 1 := ⟨d - 1, by omega⟩
  exact fn_ok (c := codeOf Try.f25) Try.func25 (by kernel_rfl) (rec := stack_Stack_Down.calls stack_Stack_SP stack_Stack_Seg stack_Stack_may) (fun g a h k hx => by
    rcases stack_Stack_SP.look d (by omega) hx with hx | hx
    rotate_left
    · exact hx
    rcases stack_Stack_Seg.look d (by omega) hx with hx | hx
    rotate_left
    · exact hx
    rcases stack_Stack_may.look d (by omega) hx with hx | hx
    rotate_left
    · exact hx
    cases hx) (loopf := stack_Stack_Down.loops) (by
    have e : loopsOf (stack_Stack_Down.loops) 0 (codeOf Try.f25) = [] := by kernel_rfl
    rw [e]
    intro p hp
    cases hp) ((stack_Stack_Down.eq stack_Stack_SP stack_Stack_Seg stack_Stack_may n168 k).trans hx)
theorem stack_Stack_Down.look (d : Nat) (hd : 3 ≤ d) {e : Option Bool} {g : FuncId} {a : List AV} {h : Heap} {k : KR} (hx : stack_Stack_Down.get stack_Stack_Down e g a h k = some true) : e = some true ∨ callK Try.prog ht d g a h k = some true := by
  unfold stack_Stack_Down.get at hx
  split at hx
  · exact .inr (stack_Stack_Down.ok d hd _ _ hx)
  · exact .inl hx
/-- function 26: (*sheerleg/stack.Stack).Up -/
noncomputable def stack_Stack_Up.body (stack_Stack_Id : (Int → Option Bool) → Option Bool) (stack_Stack_may : Int → Int → (Bool → Option Bool) → Option Bool) (n178 : Int) (k1 : Bool → Option Bool) : Option Bool :=
  (stack_Stack_Id
  (fun n179 => (stack_Stack_may n178 n179
  (fun b180 => (cond_ (! b180) (k1 false) none)))))
noncomputable def stack_Stack_Up (n178 : Int) (k1 : Bool → Option Bool) : Option Bool := stack_Stack_Up.body stack_Stack_Id stack_Stack_may n178 k1
noncomputable def stack_Stack_Up.get (F : Int → (Bool → Option Bool) → Option Bool) (e : Option Bool) (g : FuncId) (a : List AV) (h : Heap) (k : KR) : Option Bool := match g, a, h with
  | 26, [.nilp, (.d ⟨(.int .i64), n178⟩)], [] => F n178 (fun y0 => k (.d ⟨.bool, y0⟩) [])
  | _, _, _ => e
noncomputable def stack_Stack_Up.calls (F0 : (Int → Option Bool) → Option Bool) (F1 : Int → Int → (Bool → Option Bool) → Option Bool) : RecF := fun g a h k => (stack_Stack_Id.get F0 (stack_Stack_may.get F1 none g a h k) g a h k)
noncomputable def stack_Stack_Up.loops : LoopF := fun b => none
set_option maxRecDepth 100000 in
theorem stack_Stack_Up.eq (F0 : (Int → Option Bool) → Option Bool) (F1 : Int → Int → (Bool → Option Bool) → Option Bool) (n178 : Int) (k : KR) : execL Try.prog ht 26 (callfOf (stack_Stack_Up.calls F0 F1)) (stack_Stack_Up.loops) 0 (codeOf Try.f26) ⟨[.nilp, (.d ⟨(.int .i64), n178⟩)] ++ List.replicate (Try.f26.ntmps - ([.nilp, (.d ⟨(.int .i64), n178⟩)] : List AV).length) .undef, [], 2⟩ (leave Try.prog Try.f26 k) = stack_Stack_Up.body F0 F1 n178 (fun y0 => k (.d ⟨.bool, y0⟩) []) := by kernel_rfl
theorem stack_Stack_Up.ok (d : Nat) (hd : 4 ≤ d) (n178 : Int) (k : KR) (hx : stack_Stack_Up n178 (fun y0 => k (.d ⟨.bool, y0⟩) []) = some true) : callK Try.prog ht d 26 [.nilp, (.d ⟨(.int .i64), n178⟩)] [] k = some true := by
  obtain ⟨d, rfl⟩ : ∃ e, d = e + 1 := ⟨d - 1, by omega⟩
  exact fn_ok (c := codeOf Try.f26) Try.func26 (by kernel_rfl) (rec := stack_Stack_Up.calls stack_Stack_Id stack_Stack_may) (fun g a h k hx => by
    rcases stack_Stack_Id.look d (by omega) hx with hx | hx
    rotate_left
    · exact hx
    rcases stack_Stack_may.look d (by omega) hx with hx | hx
    rotate_left
    · exact hx
    cases hx) (loopf := stack_Stack_Up.loops) (by
    have e : loopsOf (stack_Stack_Up.loops) 0 (codeOf Try.f26) = [] := by kernel_rfl
    rw [e]
    intro p hp
    cases hp) ((stack_Stack_Up.eq stack_Stack_Id stack_Stack_may n178 k).trans hx)
theorem stack_Stack_Up.look (d : Nat) (hd : 4 ≤ d) {e : Option Bool} {g : FuncId} {a : List AV} {h : Heap} {k : KR} (hx : stack_Stack_Up.get stack_Stack_Up e g a h k = some true) : e = some true ∨ callK Try.prog ht d g a h k = some true := by
  unfold stack_Stack_Up.get at hx
  split at hx
  · exact .inr (stack_Stack_Up.ok d hd _ _ hx)
  · exact .inl hx
/-- function 41: sheerleg/sheerlegref39.Get -/
noncomputable def ref39_Get.body (ref38_Load : (List Int) → Int → (Int → Bool → Option Bool) → Option Bool) (t184 : Tc1) (n185 : Int) (k1 : Int → Bool → Option Bool) : Option Bool :=
  (cond_ (! (decide (n185 < (0 : Int)))) (cond_ (decide (n185 ≥ (IntKind.wrap .i64 (t184.2.2.2.1 - t184.2.2.2.2.1)))) (k1 (0 : Int) false) (ref38_Load t184.1 (IntKind.wrap .i64 (t184.2.2.2.2.1 + n185))
  (fun n186 b187 => (k1 n186 b187)))) (k1 (0 : Int) false))
noncomputable def ref39_Get (t184 : Tc1) (n185 : Int) (k1 : Int → Bool → Option Bool) : Option Bool := ref39_Get.body ref38_Load t184 n185 k1
noncomputable def ref39_Get.get (F : Tc1 → Int → (Int → Bool → Option Bool) → Option Bool) (e : Option Bool) (g : FuncId) (a : List AV) (h : Heap) (k : KR) : Option Bool := match g, a, h with
  | 41, [(.d ⟨(.st [(.sl 2 (.int .i64)), (.int .i64), (.int .i64), (.int .i64), (.int .i64), (.int .i64), (.int .i64), (.int .i64), .bool]), t184⟩), (.d ⟨(.int .i64), n185⟩)], [] => F t184 n185 (fun y0 y1 => k (.tup [(.d ⟨(.int .i64), y0⟩), (.d ⟨.bool, y1⟩)]) [])
  | _, _, _ => e
noncomputable def ref39_Get.calls (F0 : (List Int) → Int → (Int → Bool → Option Bool) → Option Bool) : RecF := fun g a h k => (ref38_Load.get F0 none g a h k)
noncomputable def ref39_Get.loops : LoopF := fun b => none
set_option maxRecDepth 100000 in
theorem ref39_Get.eq (F0 : (List Int) → Int → (Int → Bool → Option Bool) → Option Bool) (t184 : Tc1) (n185 : Int) (k : KR) : execL Try.prog ht 41 (callfOf (ref39_Get.calls F0)) (ref39_Get.loops) 0 (codeOf Try.f41) ⟨[(.d ⟨(.st [(.sl 2 (.int .i64)), (.int .i64), (.int .i64), (.int .i64), (.int .i64), (.int .i64), (.int .i64), (.int .i64), .bool]), t184⟩), (.d ⟨(.int .i64), n185⟩)] ++ List.replicate (Try.f41.ntmps - ([(.d ⟨(.st [(.sl 2 (.int .i64)), (.int .i64), (.int .i64), (.int .i64), (.int .i64), (.int .i64), (.int .i64), (.int .i64), .bool]), t184⟩), (.d ⟨(.int .i64), n185⟩)] : List AV).length) .undef, [], 2⟩ (leave Try.prog Try.f41 k) = ref39_Get.body F0 t184 n185 (fun y0 y1 => k (.tup [(.d ⟨(.int .i64), y0⟩), (.d ⟨.bool, y1⟩)]) []) := by kernel_rfl
theorem ref39_Get.ok (d : Nat) (hd : 2 ≤ d) (t184 : Tc1) (n185 : Int) (k : KR) (hx : ref39_Get t184 n185 (fun y0 y1 => k (.tup [(.d ⟨(.int .i64), y0⟩), (.d ⟨.bool, y1⟩)]) []) = some true) : callK Try.prog ht d 41 [(.d ⟨(.st [(.sl 2 (.int .i64)), (.int .i64), (.int .i64), (.int .i64), (.int .i64), (.int .i64), (.int .i64), (.int .i64), .bool]), t184⟩), (.d ⟨(.int .i64), n185⟩)] [] k = some true := by
  obtain ⟨d, rfl⟩ : ∃ e, d = e + 1 := ⟨d - 1, by omega⟩
  exact fn_ok (c := codeOf Try.f41) Try.func41 (by kernel_rfl) (rec := ref39_Get.calls ref38_Load) (fun g a h k hx => by
    rcases ref38_Load.look d (by omega) hx with hx | hx
    rotate_left
    · exact hx
    cases hx) (loopf := ref39_Get.loops) (by
    have e : loopsOf (ref39_Get.loops) 0 (codeOf Try.f41) = [] := by kernel_rfl
    rw [e]
    intro p hp
    cases hp) ((ref39_Get.eq ref38_Load t184 n185 k).trans hx)
theorem ref39_Get.look (d : Nat) (hd : 2 ≤ d) {e : Option Bool} {g : FuncId} {a : List AV} {h : Heap} {k : KR} (hx : ref39_Get.get ref39_Get e g a h k = some true) : e = some true ∨ callK Try.prog ht d g a h k = some true := by
  unfold ref39_Get.get at hx
  split at hx
  · exact .inr (ref39_Get.ok d hd _ _ _ hx)
  · exact .inl hx
/-- function 42: sheerleg/sheerlegref39.Set -/
noncomputable def ref39_Set.body (ref39_write : Tc1 → Int → Int → (Tc1 → Bool → Option Bool) → Option Bool) (t190 : Tc1) (n191 : Int) (n192 : Int) (k1 : Tc1 → Bool → Option Bool) : Option Bool :=
  (cond_ (! (decide (n191 < (0 : Int)))) (cond_ (decide (n191 ≥ (IntKind.wrap .i64 (t190.2.2.2.1 - t190.2.2.2.2.1)))) (k1 (t190.1, (t190.2.1, (t190.2.2.1, (t190.2.2.2.1, (t190.2.2.2.2.1, (t190.2.2.2.2.2.1, (t190.2.2.2.2.2.2.1, (t190.2.2.2.2.2.2.2.1, (t190.2.2.2.2.2.2.2.2.1, ()))))))))) false) (ref39_write t190 (IntKind.wrap .i64 (t190.2.2.2.2.1 + n191)) n192
  (fun t193 b194 => (k1 (t193.1, (t193.2.1, (t193.2.2.1, (t193.2.2.2.1, (t193.2.2.2.2.1, (t193.2.2.2.2.2.1, (t193.2.2.2.2.2.2.1, (t193.2.2.2.2.2.2.2.1, (t193.2.2.2.2.2.2.2.2.1, ()))))))))) b194)))) (k1 (t190.1, (t190.2.1, (t190.2.2.1, (t190.2.2.2.1, (t190.2.2.2.2.1, (t190.2.2.2.2.2.1, (t190.2.2.2.2.2.2.1, (t190.2.2.2.2.2.2.2.1, (t190.2.2.2.2.2.2.2.2.1, ()))))))))) false))
noncomputable def ref39_Set (t190 : Tc1) (n191 : Int) (n192 : Int) (k1 : Tc1 → Bool → Option Bool) : Option Bool := ref39_Set.body ref39_write t190 n191 n192 k1
noncomputable def ref39_Set.get (F : Tc1 → Int → Int → (Tc1 → Bool → Option Bool) → Option Bool) (e : Option Bool) (g : FuncId) (a : List AV) (h : Heap) (k : KR) : Option Bool := match g, a, h with
  | 42, [(.d ⟨(.st [(.sl 2 (.int .i64)), (.int .i64), (.int .i64), (.int .i64), (.int .i64), (.int .i64), (.int .i64), (.int .i64), .bool]), t190⟩), (.d ⟨(.int .i64), n191⟩), (.d ⟨(.int .i64), n192⟩)], [] => F t190 n191 n192 (fun y0 y1 => k (.tup [(.d ⟨(.st [(.sl 2 (.int .i64)), (.int .i64), (.int .i64), (.int .i64), (.int .i64), (.int .i64), (.int .i64), (.int .i64), .bool]), y0⟩), (.d ⟨.bool, y1⟩)]) [])
  | _, _, _ => e
noncomputable def ref39_Set.calls (F0 : Tc1 → Int → Int → (Tc1 → Bool → Option Bool) → Option Bool) : RecF := fun g a h k => (ref39_write.get F0 none g a h k)
noncomputable def ref39_Set.loops : LoopF := fun b => none
set_option maxRecDepth 100000 in
theorem ref39_Set.eq (F0 : Tc1 → Int → Int → (Tc1 → Bool → Option Bool) → Option Bool) (t190 : Tc1) (n191 : Int) (n192 : Int) (k : KR) : execL Try.prog ht 42 (callfOf (ref39_Set.calls F0)) (ref39_Set.loops) 0 (codeOf Try.f42) ⟨[(.d ⟨(.st [(.sl 2 (.int .i64)), (.int .i64), (.int .i64), (.int .i64), (.int .i64), (.int .i64), (.int .i64), (.int .i64), .bool]), t190⟩), (.d ⟨(.int .i64), n191⟩), (.d ⟨(.int .i64), n192⟩)] ++ List.replicate (Try.f42.ntmps - ([(.d ⟨(.st [(.sl 2 (.int .i64)), (.int .i64), (.int .i64), (.int .i64), (.int .i64), (.int .i64), (.int .i64), (.int .i64), .bool]), t190⟩), (.d ⟨(.int .i64), n191⟩), (.d ⟨(.int .i64), n192⟩)] : List AV).length) .undef, [], 2⟩ (leave Try.prog Try.f42 k) = ref39_Set.body F0 t190 n191 n192 (fun y0 y1 => k (.tup [(.d ⟨(.st [(.sl 2 (.int .i64)), (.int .i64), (.int .i64), (.int .i64), (.int .i64), (.int .i64), (.int .i64), (.int .i64), .bool]), y0⟩), (.d ⟨.bool, y1⟩)]) []) := by kernel_rfl
theorem ref39_Set.ok (d : Nat) (hd : 3 ≤ d) (t190 : Tc1) (n191 : Int) (n192 : Int) (k : KR) (hx : ref39_Set t190 n191 n192 (fun y0 y1 => k (.tup [(.d ⟨(.st [(.sl 2 (.int .i64)), (.int .i64), (.int .i64), (.int .i64), (.int .i64), (.int .i64), (.int .i64), (.int .i64), .bool]), y0⟩), (.d ⟨.bool, y1⟩)]) []) = some true) : callK Try.prog ht d 42 [(.d ⟨(.st [(.sl 2 (.int .i64)), (.int .i64), (.int .i64), (.int .i64), (.int .i64), (.int .i64), (.int .i64), (.int .i64), .bool]), t190⟩), (.d ⟨(.int .i64), n191⟩), (.d ⟨(.int .i64), n192⟩)] [] k = some true := by
  obtain ⟨d, rfl⟩ : ∃ e, d = e + 1 := ⟨d - 1, by omega⟩
  exact fn_ok (c := codeOf Try.f42) Try.func42 (by kernel_rfl) (rec := ref39_Set.calls ref39_write) (fun g a h k hx => by
    rcases ref39_write.look d (by omega) hx with hx | hx
    rotate_left
    · exact hx
    cases hx) (loopf := ref39_Set.loops) (by
    have e : loopsOf (ref39_Set.loops) 0 (codeOf Try.f42) = [] := by kernel_rfl
    rw [e]
    intro p hp
    cases hp) ((ref39_Set.eq ref39_write t190 n191 n192 k).trans hx)
theorem ref39_Set.look (d : Nat) (hd : 3 ≤ d) {e : Option Bool} {g : FuncId} {a : List AV} {h : Heap} {k : KR} (hx : ref39_Set.get ref39_Set e g a h k = some true) : e = some true ∨ callK Try.prog ht d g a h k = some true := by
  unfold ref39_Set.get at hx
  split at hx
  · exact .inr (ref39_Set.ok d hd _ _ _ _ hx)
  · exact .inl hx
/-- function 24: (*sheerleg/stack.Stack).Set -/
noncomputable def stack_Stack_Set.body (stack_Stack_has : Int → (Bool → Option Bool) → Option Bool) (n197 : Int) (n198 : Int) (k1 : Bool → Option Bool) : Option Bool :=
  (stack_Stack_has n197
  (fun b199 => (cond_ b199 none (k1 false))))
noncomputable def stack_Stack_Set (n197 : Int) (n198 : Int) (k1 : Bool → Option Bool) : Option Bool := stack_Stack_Set.body stack_Stack_has n197 n198 k1
noncomputable def stack_Stack_Set.get (F : Int → Int → (Bool → Option Bool) → Option Bool) (e : Option Bool) (g : FuncId) (a : List AV) (h : Heap) (k : KR) : Option Bool := match g, a, h with
  | 24, [.nilp, (.d ⟨(.int .i64), n197⟩), (.d ⟨(.int .i64), n198⟩)], [] => F n197 n198 (fun y0 => k (.d ⟨.bool, y0⟩) [])
  | _, _, _ => e
noncomputable def stack_Stack_Set.calls (F0 : Int → (Bool → Option Bool) → Option Bool) : RecF := fun g a h k => (stack_Stack_has.get F0 none g a h k)
noncomputable def stack_Stack_Set.loops : LoopF := fun b => none
set_option maxRecDepth 100000 in
theorem stack_Stack_Set.eq (F0 : Int → (Bool → Option Bool) → Option Bool) (n197 : Int) (n198 : Int) (k : KR) : execL Try.prog ht 24 (callfOf (stack_Stack_Set.calls F0)) (stack_Stack_Set.loops) 0 (codeOf Try.f24) ⟨[.nilp, (.d ⟨(.int .i64), n197⟩), (.d ⟨(.int .i64), n198⟩)] ++ List.replicate (Try.f24.ntmps - ([.nilp, (.d ⟨(.int .i64), n197⟩), (.d ⟨(.int .i64), n198⟩)] : List AV).length) .undef, [], 2⟩ (leave Try.prog Try.f24 k) = stack_Stack_Set.body F0 n197 n198 (fun y0 => k (.d ⟨.bool, y0⟩) []) := by kernel_rfl
theorem stack_Stack_Set.ok (d : Nat) (hd : 5 ≤ d) (n197 : Int) (n198 : Int) (k : KR) (hx : stack_Stack_Set n197 n198 (fun y0 => k (.d ⟨.bool, y0⟩) []) = some true) : callK Try.prog ht d 24 [.nilp, (.d ⟨(.int .i64), n197⟩), (.d ⟨(.int .i64), n198⟩)] [] k = some true := by
  obtain ⟨d, rfl⟩ : ∃ e, d = e + 1 := ⟨d - 1, by omega⟩
  exact fn_ok (c := codeOf Try.f24) Try.func24 (by kernel_rfl) (rec := stack_Stack_Set.calls stack_Stack_has) (fun g a h k hx => by
    rcases stack_Stack_has.look d (by omega) hx with hx | hx
    rotate_left
    · exact hx
    cases hx) (loopf := stack_Stack_Set.loops) (by
    have e : loopsOf (stack_Stack_Set.loops) 0 (codeOf Try.f24) = [] := by kernel_rfl
    rw [e]
    intro p hp
    cases hp) ((stack_Stack_Set.eq stack_Stack_has n197 n198 k).trans hx)
theorem stack_Stack_Set.look (d : Nat) (hd : 5 ≤ d) {e : Option Bool} {g : FuncId} {a : List AV} {h : Heap} {k : KR} (hx : stack_Stack_Set.get stack_Stack_Set e g a h k = some true) : e = some true ∨ callK Try.prog ht d g a h k = some true := by
  unfold stack_Stack_Set.get at hx
  split at hx
  · exact .inr (stack_Stack_Set.ok d hd _ _ _ hx)
  · exact .inl hx
/-- function 43: sheerleg/sheerlegref39.Spill -/
noncomputable def ref39_Spill.body (ref39_write : Tc1 → Int → Int → (Tc1 → Bool → Option Bool) → Option Bool) (t201 : Tc1) (k1 : Tc1 → Bool → Option Bool) : Option Bool :=
  (ref39_write t201 (IntKind.wrap .i64 (t201.2.2.2.2.1 - (1 : Int))) (0 : Int)
  (fun t202 b203 => (k1 (t202.1, (t202.2.1, (t202.2.2.1, (t202.2.2.2.1, (t202.2.2.2.2.1, (t202.2.2.2.2.2.1, (t202.2.2.2.2.2.2.1, (t202.2.2.2.2.2.2.2.1, (t202.2.2.2.2.2.2.2.2.1, ()))))))))) b203)))
noncomputable def ref39_Spill (t201 : Tc1) (k1 : Tc1 → Bool → Option Bool) : Option Bool := ref39_Spill.body ref39_write t201 k1
noncomputable def ref39_Spill.get (F : Tc1 → (Tc1 → Bool → Option Bool) → Option Bool) (e : Option Bool) (g : FuncId) (a : List AV) (h : Heap) (k : KR) : Option Bool := match g, a, h with
  | 43, [(.d ⟨(.st [(.sl 2 (.int .i64)), (.int .i64), (.int .i64), (.int .i64), (.int .i64), (.int .i64), (.int .i64), (.int .i64), .bool]), t201⟩)], [] => F t201 (fun y0 y1 => k (.tup [(.d ⟨(.st [(.sl 2 (.int .i64)), (.int .i64), (.int .i64), (.int .i64), (.int .i64), (.int .i64), (.int .i64), (.int .i64), .bool]), y0⟩), (.d ⟨.bool, y1⟩)]) [])
  | _, _, _ => e
noncomputable def ref39_Spill.calls (F0 : Tc1 → Int → Int → (Tc1 → Bool → Option Bool) → Option Bool) : RecF := fun g a h k => (ref39_write.get F0 none g a h k)
noncomputable def ref39_Spill.loops : LoopF := fun b => none
set_option maxRecDepth 100000 in
theorem ref39_Spill.eq (F0 : Tc1 → Int → Int → (Tc1 → Bool → Option Bool) → Option Bool) (t201 : Tc1) (k : KR) : execL Try.prog ht 43 (callfOf (ref39_Spill.calls F0)) (ref39_Spill.loops) 0 (codeOf Try.f43) ⟨[(.d ⟨(.st [(.sl 2 (.int .i64)), (.int .i64), (.int .i64), (.int .i64), (.int .i64), (.int .i64), (.int .i64), (.int .i64), .bool]), t201⟩)] ++ List.replicate (Try.f43.ntmps - ([(.d ⟨(.st [(.sl 2 (.int .i64)), (.int .i64), (.int .i64), (.int .i64), (.int .i64), (.int .i64), (.int .i64), (.int .i64), .bool]), t201⟩)] : List AV).length) .undef, [], 2⟩ (leave Try.prog Try.f43 k) = ref39_Spill.body F0 t201 (fun y0 y1 => k (.tup [(.d ⟨(.st [(.sl 2 (.int .i64)), (.int .i64), (.int .i64), (.int .i64), (.int .i64), (.int .i64), (.int .i64), (.int .i64), .bool]), y0⟩), (.d ⟨.bool, y1⟩)]) []) := by kernel_rfl
theorem ref39_Spill.ok (d : Nat) (hd : 3 ≤ d) (t201 : Tc1) (k : KR) (hx : ref39_Spill t201 (fun y0 y1 => k (.tup [(.d ⟨(.st [(.sl 2 (.int .i64)), (.int .i64), (.int .i64), (.int .i64), (.int .i64), (.int .i64), (.int .i64), (.int .i64), .bool]), y0⟩), (.d ⟨.bool, y1⟩)]) []) = some true) : callK Try.prog ht d 43 [(.d ⟨(.st [(.sl 2 (.int .i64)), (.int .i64), (.int .i64), (.int .i64), (.int .i64), (.int .i64), (.int .i64), (.int .i64), .bool]), t201⟩)] [] k = some true := by
  obtain ⟨d, rfl⟩ : ∃ e, d = e + 1 := ⟨d - 1, by omega⟩
  exact fn_ok (c := codeOf Try.f43) Try.func43 (by kernel_rfl) (rec := ref39_Spill.calls ref39_write) (fun g a h k hx => by
    rcases ref39_write.look d (by omega) hx with hx | hx
    rotate_left
    · exact hx
    cases hx) (loopf := ref39_Spill.loops) (by
    have e : loopsOf (ref39_Spill.loops) 0 (codeOf Try.f43) = [] := by kernel_rfl
    rw [e]
    intro p hp
    cases hp) ((ref39_Spill.eq ref39_write t201 k).trans hx)
theorem ref39_Spill.look (d : Nat) (hd : 3 ≤ d) {e : Option Bool} {g : FuncId} {a : List AV} {h : Heap} {k : KR} (hx : ref39_Spill.get ref39_Spill e g a h k = some true) : e = some true ∨ callK Try.prog ht d g a h k = some true := by
  unfold ref39_Spill.get at hx
  split at hx
  · exact .inr (ref39_Spill.ok d hd _ _ hx)
  · exact .inl hx
/-- function 27: (*sheerleg/stack.Stack).Spill -/
noncomputable def stack_Stack_Spill.body (stack_Stack_ahead : Int → (Bool → Option Bool) → Option Bool) (k1 : Bool → Option Bool) : Option Bool :=
  (stack_Stack_ahead (0 : Int)
  (fun b206 => (k1 b206)))
noncomputable def stack_Stack_Spill (k1 : Bool → Option Bool) : Option Bool := stack_Stack_Spill.body stack_Stack_ahead k1
noncomputable def stack_Stack_Spill.get (F : (Bool → Option Bool) → Option Bool) (e : Option Bool) (g : FuncId) (a : List AV) (h : Heap) (k : KR) : Option Bool := match g, a, h with
  | 27, [.nilp], [] => F (fun y0 => k (.d ⟨.bool, y0⟩) [])
  | _, _, _ => e
noncomputable def stack_Stack_Spill.calls (F0 : Int → (Bool → Option Bool) → Option Bool) : RecF := fun g a h k => (stack_Stack_ahead.get F0 none g a h k)
noncomputable def stack_Stack_Spill.loops : LoopF := fun b => none
set_option maxRecDepth 100000 in
theorem stack_Stack_Spill.eq (F0 : Int → (Bool → Option Bool) → Option Bool) (k : KR) : execL Try.prog ht 27 (callfOf (stack_Stack_Spill.calls F0)) (stack_Stack_Spill.loops) 0 (codeOf Try.f27) ⟨[.nilp] ++ List.replicate (Try.f27.ntmps - ([.nilp] : List AV).length) .undef, [], 2⟩ (leave Try.prog Try.f27 k) = stack_Stack_Spill.body F0 (fun y0 => k (.d ⟨.bool, y0⟩) []) := by kernel_rfl
theorem stack_Stack_Spill.ok (d : Nat) (hd : 4 ≤ d) (k : KR) (hx : stack_Stack_Spill (fun y0 => k (.d ⟨.bool, y0⟩) []) = some true) : callK Try.prog ht d 27 [.nilp] [] k = some true := by
  obtain ⟨d, rfl⟩ : ∃ e, d = e + 1 := ⟨d - 1, by omega⟩
  exact fn_ok (c := codeOf Try.f27) Try.func27 (by kernel_rfl) (rec := stack_Stack_Spill.calls stack_Stack_ahead) (fun g a h k hx => by
    rcases stack_Stack_ahead.look d (by omega) hx with hx | hx
    rotate_left
    · exact hx
    cases hx) (loopf := stack_Stack_Spill.loops) (by
    have e : loopsOf (stack_Stack_Spill.loops) 0 (codeOf Try.f27) = [] := by kernel_rfl
    rw [e]
    intro p hp
    cases hp) ((stack_Stack_Spill.eq stack_Stack_ahead k).trans hx)
theorem stack_Stack_Spill.look (d : Nat) (hd : 4 ≤ d) {e : Option Bool} {g : FuncId} {a : List AV} {h : Heap} {k : KR} (hx : stack_Stack_Spill.get stack_Stack_Spill e g a h k = some true) : e = some true ∨ callK Try.prog ht d g a h k = some true := by
  unfold stack_Stack_Spill.get at hx
  split at hx
  · exact .inr (stack_Stack_Spill.ok d hd _ hx)
  · exact .inl hx
/-- function 45: sheerleg/sheerlegref39.Id -/
noncomputable def ref39_Id.body (t210 : Tc1) (k1 : Int → Option Bool) : Option Bool :=
  (k1 (IntKind.wrap .i64 (t210.2.2.2.1 - t210.2.2.2.2.1)))
noncomputable def ref39_Id (t210 : Tc1) (k1 : Int → Option Bool) : Option Bool := ref39_Id.body t210 k1
noncomputable def ref39_Id.get (F : Tc1 → (Int → Option Bool) → Option Bool) (e : Option Bool) (g : FuncId) (a : List AV) (h : Heap) (k : KR) : Option Bool := match g, a, h with
  | 45, [(.d ⟨(.st [(.sl 2 (.int .i64)), (.int .i64), (.int .i64), (.int .i64), (.int .i64), (.int .i64), (.int .i64), (.int .i64), .bool]), t210⟩)], [] => F t210 (fun y0 => k (.d ⟨(.int .i64), y0⟩) [])
  | _, _, _ => e
noncomputable def ref39_Id.calls : RecF := fun g a h k => none
noncomputable def ref39_Id.loops : LoopF := fun b => none
set_option maxRecDepth 100000 in
theorem ref39_Id.eq (t210 : Tc1) (k : KR) : execL Try.prog ht 45 (callfOf (ref39_Id.calls)) (ref39_Id.loops) 0 (codeOf Try.f45) ⟨[(.d ⟨(.st [(.sl 2 (.int .i64)), (.int .i64), (.int .i64), (.int .i64), (.int .i64), (.int .i64), (.int .i64), (.int .i64), .bool]), t210⟩)] ++ List.replicate (Try.f45.ntmps - ([(.d ⟨(.st [(.sl 2 (.int .i64)), (.int .i64), (.int .i64), (.int .i64), (.int .i64), (.int .i64), (.int .i64), (.int .i64), .bool]), t210⟩)] : List AV).length) .undef, [], 2⟩ (leave Try.prog Try.f45 k) = ref39_Id.body t210 (fun y0 => k (.d ⟨(.int .i64), y0⟩) []) := by kernel_rfl
theorem ref39_Id.ok (d : Nat) (hd : 1 ≤ d) (t210 : Tc1) (k : KR) (hx : ref39_Id t210 (fun y0 => k (.d ⟨(.int .i64), y0⟩) []) = some true) : callK Try.prog ht d 45 [(.d ⟨(.st [(.sl 2 (.int .i64)), (.int .i64), (.int .i64), (.int .i64), (.int .i64), (.int .i64), (.int .i64), (.int .i64), .bool]), t210⟩)] [] k = some true := by
  obtain ⟨d, rfl⟩ : ∃ e, d = e + 1 := ⟨d - 1, by omega⟩
  exact fn_ok (c := codeOf Try.f45) Try.func45 (by kernel_rfl) (rec := ref39_Id.calls) (fun g a h k hx => by
    cases hx) (loopf := ref39_Id.loops) (by
    have e : loopsOf (ref39_Id.loops) 0 (codeOf Try.f45) = [] := by kernel_rfl
    rw [e]
    intro p hp
    cases hp) ((ref39_Id.eq t210 k).trans hx)
theorem ref39_Id.look (d : Nat) (hd : 1 ≤ d) {e : Option Bool} {g : FuncId} {a : List AV} {h : Heap} {k : KR} (hx : ref39_Id.get ref39_Id e g a h k = some true) : e = some true ∨ callK Try.prog ht d g a h k = some true := by
  unfold ref39_Id.get at hx
  split at hx
  · exact .inr (ref39_Id.ok d hd _ _ hx)
  · exact .inl hx
/-- function 54: the loop in block 0 -/
noncomputable def ref01_Double_L0.body (ref01_Double_L0 : Int → Int → Int → (Int → Bool → Option Bool) → (Int → Int → Option Bool) → Option Bool) (n215 : Int) (n216 : Int) (n217 : Int) (k1 : Int → Bool → Option Bool) (k2 : Int → Int → Option Bool) : Option Bool :=
  (cond_ (decide (n215 < n216)) (cond_ (decide (n215 > (IntKind.wrap .i64 (Int.tdiv n217 (2 : Int))))) (k1 (0 : Int) false) (ref01_Double_L0 (IntKind.wrap .i64 ((2 : Int) * n215)) n216 n217 k1 k2)) (k2 n215 n217))
noncomputable def ref01_Double_L0 : Nat → Int → Int → Int → (Int → Bool → Option Bool) → (Int → Int → Option Bool) → Option Bool
  | 0 => fun _ _ _ _ _ => none
  | n + 1 => ref01_Double_L0.body (ref01_Double_L0 n)
noncomputable def ref01_Double_L0.get (F : Int → Int → Int → (Int → Bool → Option Bool) → (Int → Int → Option Bool) → Option Bool) (e : Option Bool) (st : St) (k : KE) : Option Bool := match st with
  | ⟨sl, hp, m⟩ => match Nat.beq m 2, pickS 23 [0, 1, 2] sl, hp with
    | true, some [(.d ⟨(.int .i64), n215⟩), (.d ⟨(.int .i64), n216⟩), (.d ⟨(.int .i64), n217⟩)], [] => F n215 n216 n217 (fun y0 y1 => k .ret ⟨fillS 23 [6, 7] [(.d ⟨(.int .i64), y0⟩), (.d ⟨.bool, y1⟩)], [], 2⟩) (fun y0 y1 => k (.exit 0) ⟨fillS 23 [0, 2] [(.d ⟨(.int .i64), y0⟩), (.d ⟨(.int .i64), y1⟩)], [], 2⟩)
    | _, _, _ => e
noncomputable def ref01_Double_L0.calls : RecF := fun g a h k => none
noncomputable def ref01_Double_L0.loops : LoopF := fun b => none
set_option maxRecDepth 100000 in
theorem ref01_Double_L0.step (S : Int → Int → Int → (Int → Bool → Option Bool) → (Int → Int → Option Bool) → Option Bool) (n215 : Int) (n216 : Int) (n217 : Int) (k : KE) : execL Try.prog ht 54 (callfOf (ref01_Double_L0.calls)) (ref01_Double_L0.loops) 0 (loopAt 0 (codeOf Try.f54)) ⟨fillS 23 [0, 1, 2] [(.d ⟨(.int .i64), n215⟩), (.d ⟨(.int .i64), n216⟩), (.d ⟨(.int .i64), n217⟩)], [], 2⟩ (again (ref01_Double_L0.get S none) (plan Try.prog (ht 54 0)) k) = ref01_Double_L0.body S n215 n216 n217 (fun y0 y1 => k .ret ⟨fillS 23 [6, 7] [(.d ⟨(.int .i64), y0⟩), (.d ⟨.bool, y1⟩)], [], 2⟩) (fun y0 y1 => k (.exit 0) ⟨fillS 23 [0, 2] [(.d ⟨(.int .i64), y0⟩), (.d ⟨(.int .i64), y1⟩)], [], 2⟩) := by kernel_rfl
theorem ref01_Double_L0.ok (d : Nat) (hd : 0 ≤ d) : ∀ n st k, ref01_Double_L0.get (ref01_Double_L0 n) none st k = some true → iter n (plan Try.prog (ht 54 0)) (fun st k => execK Try.prog ht 54 (callfOf (callK Try.prog ht d)) 0 (loopAt 0 (codeOf Try.f54)) st k) st k = some true :=
  loop_ok (lfn := fun n st k => ref01_Double_L0.get (ref01_Double_L0 n) none st k) (rec := ref01_Double_L0.calls) (fun g a h k hx => by
    cases hx) (loopf := ref01_Double_L0.loops) (by
    have e : loopsOf (ref01_Double_L0.loops) 0 (loopAt 0 (codeOf Try.f54)) = [] := by kernel_rfl
    rw [e]
    intro p hp
    cases hp) (fun st k h => by
    obtain ⟨sl, hp, m⟩ := st
    unfold ref01_Double_L0.get at h
    dsimp only at h
    split at h
    · have h' : (none : Option Bool) = some true := h
      cases h'
    · cases h) (fun n st k h => by
    obtain ⟨sl, hp, m⟩ := st
    unfold ref01_Double_L0.get at h
    dsimp only at h
    split at h
    · rename_i h1 h2
      obtain rfl := pickS_ok h2
      obtain rfl := Nat.eq_of_beq_eq_true h1
      exact (ref01_Double_L0.step (ref01_Double_L0 n) _ _ _ k).trans h
    · cases h)
theorem ref01_Double_L0.look {F : Int → Int → Int → (Int → Bool → Option Bool) → (Int → Int → Option Bool) → Option Bool} {e : Option Bool} {st : St} {k : KE} (hx : ref01_Double_L0.get F e st k = some true) : e = some true ∨ ref01_Double_L0.get F none st k = some true := by
  obtain ⟨sl, hp, m⟩ := st
  unfold ref01_Double_L0.get at hx ⊢
  dsimp only at hx ⊢
  split at hx
  · exact .inr hx
  · exact .inl hx
/-- function 54: sheerleg/sheerlegref01.Double -/
noncomputable def ref01_Double.body (ref01_Double_L0 : Int → Int → Int → (Int → Bool → Option Bool) → (Int → Int → Option Bool) → Option Bool) (n212 : Int) (n213 : Int) (n214 : Int) (k1 : Int → Bool → Option Bool) : Option Bool :=
  (cond_ (decide (n212 < (1 : Int))) (k1 (0 : Int) false) (ref01_Double_L0 n212 n213 n214
  (fun n218 b219 => (k1 n218 b219))
  (fun n220 n221 => (cond_ (decide (n220 > n221)) (k1 (0 : Int) false) (k1 n220 true)))))
noncomputable def ref01_Double (n212 : Int) (n213 : Int) (n214 : Int) (k1 : Int → Bool → Option Bool) : Option Bool := ref01_Double.body (ref01_Double_L0 ROUNDS) n212 n213 n214 k1
noncomputable def ref01_Double.get (F : Int → Int → Int → (Int → Bool → Option Bool) → Option Bool) (e : Option Bool) (g : FuncId) (a : List AV) (h : Heap) (k : KR) : Option Bool := match g, a, h with
  | 54, [(.d ⟨(.int .i64), n212⟩), (.d ⟨(.int .i64), n213⟩), (.d ⟨(.int .i64), n214⟩)], [] => F n212 n213 n214 (fun y0 y1 => k (.tup [(.d ⟨(.int .i64), y0⟩), (.d ⟨.bool, y1⟩)]) [])
  | _, _, _ => e
noncomputable def ref01_Double.calls : RecF := fun g a h k => none
noncomputable def ref01_Double.loops (L0 : Int → Int → Int → (Int → Bool → Option Bool) → (Int → Int → Option Bool) → Option Bool) : LoopF := fun b => match Nat.beq b 0 with | true => some (fun st k => (ref01_Double_L0.get L0 none st k)) | false => none
set_option maxRecDepth 100000 in
theorem ref01_Double.eq (L0 : Int → Int → Int → (Int → Bool → Option Bool) → (Int → Int → Option Bool) → Option Bool) (n212 : Int) (n213 : Int) (n214 : Int) (k : KR) : execL Try.prog ht 54 (callfOf (ref01_Double.calls)) (ref01_Double.loops L0) 0 (codeOf Try.f54) ⟨[(.d ⟨(.int .i64), n212⟩), (.d ⟨(.int .i64), n213⟩), (.d ⟨(.int .i64), n214⟩)] ++ List.replicate (Try.f54.ntmps - ([(.d ⟨(.int .i64), n212⟩), (.d ⟨(.int .i64), n213⟩), (.d ⟨(.int .i64), n214⟩)] : List AV).length) .undef, [], 2⟩ (leave Try.prog Try.f54 k) = ref01_Double.body L0 n212 n213 n214 (fun y0 y1 => k (.tup [(.d ⟨(.int .i64), y0⟩), (.d ⟨.bool, y1⟩)]) []) := by kernel_rfl
theorem ref01_Double.ok (d : Nat) (hd : 1 ≤ d) (n212 : Int) (n213 : Int) (n214 : Int) (k : KR) (hx : ref01_Double n212 n213 n214 (fun y0 y1 => k (.tup [(.d ⟨(.int .i64), y0⟩), (.d ⟨.bool, y1⟩)]) []) = some true) : callK Try.prog ht d 54 [(.d ⟨(.int .i64), n212⟩), (.d ⟨(.int .i64), n213⟩), (.d ⟨(.int .i64), n214⟩)] [] k = some true := by
  obtain ⟨d, rfl⟩ : ∃ e, d = e + 1 := ⟨d - 1, by omega⟩
  exact fn_ok (c := codeOf Try.f54) Try.func54 (by kernel_rfl) (rec := ref01_Double.calls) (fun g a h k hx => by
    cases hx) (loopf := ref01_Double.loops (ref01_Double_L0 ROUNDS)) (by
    have e : loopsOf (ref01_Double.loops (ref01_Double_L0 ROUNDS)) 0 (codeOf Try.f54) = [(0, loopAt 0 (codeOf Try.f54))] := by kernel_rfl
    rw [e]
    intro p hp
    simp only [List.mem_cons, List.not_mem_nil, or_false] at hp
    rcases hp with rfl
    · refine loopRef_of (callf := callfOf (callK Try.prog ht d)) (callfOf_ref (callK_mono d)) fun lf st k hb hx => ?_
      cases hb
      rcases ref01_Double_L0.look hx with hx | hx
      rotate_left
      · exact ref01_Double_L0.ok d (by omega) _ _ _ hx
      cases hx) ((ref01_Double.eq (ref01_Double_L0 ROUNDS) n212 n213 n214 k).trans hx)
theorem ref01_Double.look (d : Nat) (hd : 1 ≤ d) {e : Option Bool} {g : FuncId} {a : List AV} {h : Heap} {k : KR} (hx : ref01_Double.get ref01_Double e g a h k = some true) : e = some true ∨ callK Try.prog ht d g a h k = some true := by
  unfold ref01_Double.get at hx
  split at hx
  · exact .inr (ref01_Double.ok d hd _ _ _ _ hx)
  · exact .inl hx
/-- function 58: sheerleg/sheerlegref38.within -/
noncomputable def ref38_within.body (ns231 : List Int) (n232 : Int) (n233 : Int) (k1 : Bool → Option Bool) : Option Bool :=
  (cond_ (decide (n232 ≥ (0 : Int))) (cond_ (decide (n232 ≤ (((List.length ns231) : Nat) : Int))) (k1 (decide (n233 ≤ (IntKind.wrap .i64 ((((List.length ns231) : Nat) : Int) - n232))))) (k1 false)) (k1 false))
noncomputable def ref38_within (ns231 : List Int) (n232 : Int) (n233 : Int) (k1 : Bool → Option Bool) : Option Bool := ref38_within.body ns231 n232 n233 k1
noncomputable def ref38_within.get (F : (List Int) → Int → Int → (Bool → Option Bool) → Option Bool) (e : Option Bool) (g : FuncId) (a : List AV) (h : Heap) (k : KR) : Option Bool := match g, a, h with
  | 58, [(.bv 0 2 (.int .i64) ns231), (.d ⟨(.int .i64), n232⟩), (.d ⟨(.int .i64), n233⟩)], [] => F ns231 n232 n233 (fun y0 => k (.d ⟨.bool, y0⟩) [])
  | _, _, _ => e
noncomputable def ref38_within.calls : RecF := fun g a h k => none
noncomputable def ref38_within.loops : LoopF := fun b => none
set_option maxRecDepth 100000 in
theorem ref38_within.eq (ns231 : List Int) (n232 : Int) (n233 : Int) (k : KR) : execL Try.prog ht 58 (callfOf (ref38_within.calls)) (ref38_within.loops) 0 (codeOf Try.f58) ⟨[(.bv 0 2 (.int .i64) ns231), (.d ⟨(.int .i64), n232⟩), (.d ⟨(.int .i64), n233⟩)] ++ List.replicate (Try.f58.ntmps - ([(.bv 0 2 (.int .i64) ns231), (.d ⟨(.int .i64), n232⟩), (.d ⟨(.int .i64), n233⟩)] : List AV).length) .undef, [], 2⟩ (leave Try.prog Try.f58 k) = ref38_within.body ns231 n232 n233 (fun y0 => k (.d ⟨.bool, y0⟩) []) := by kernel_rfl
theorem ref38_within.ok (d : Nat) (hd : 1 ≤ d) (ns231 : List Int) (n232 : Int) (n233 : Int) (k : KR) (hx : ref38_within ns231 n232 n233 (fun y0 => k (.d ⟨.bool, y0⟩) []) = some true) : callK Try.prog ht d 58 [(.bv 0 2 (.int .i64) ns231), (.d ⟨(.int .i64), n232⟩), (.d ⟨(.int .i64), n233⟩)] [] k = some true := by
  obtain ⟨d, rfl⟩ : ∃ e, d = e + 1 := ⟨d - 1, by omega⟩
  exact fn_ok (c := codeOf Try.f58) Try.func58 (by kernel_rfl) (rec := ref38_within.calls) (fun g a h k hx => by
    cases hx) (loopf := ref38_within.loops) (by
    have e : loopsOf (ref38_within.loops) 0 (codeOf Try.f58) = [] := by kernel_rfl
    rw [e]
    intro p hp
    cases hp) ((ref38_within.eq ns231 n232 n233 k).trans hx)
theorem ref38_within.look (d : Nat) (hd : 1 ≤ d) {e : Option Bool} {g : FuncId} {a : List AV} {h : Heap} {k : KR} (hx : ref38_within.get ref38_within e g a h k = some true) : e = some true ∨ callK Try.prog ht d g a h k = some true := by
  unfold ref38_within.get at hx
  split at hx
  · exact .inr (ref38_within.ok d hd _ _ _ _ hx)
  · exact .inl hx
/-- function 55: the loop in block 0 -/
noncomputable def ref38_Copy_L0.body (ref38_Copy_L0 : (List Int) → Int → Int → Int → Int → (List Int) → ((List Int) → Option Bool) → Option Bool) (ns308 : List Int) (n309 : Int) (n310 : Int) (n311 : Int) (n312 : Int) (ns313 : List Int) (k1 : (List Int) → Option Bool) : Option Bool :=
  (cond_ (decide (n312 < n311)) (cond_ ((decide ((0 : Int) ≤ (IntKind.wrap .i64 (n310 + n312)))) && (decide ((IntKind.wrap .i64 (n310 + n312)) < (((List.length ns308) : Nat) : Int)))) (cond_ ((decide ((0 : Int) ≤ (IntKind.wrap .i64 (n309 + n312)))) && (decide ((IntKind.wrap .i64 (n309 + n312)) < (((List.length ns313) : Nat) : Int)))) (ref38_Copy_L0 ns308 n309 n310 n311 (IntKind.wrap .i64 (n312 + (1 : Int))) (List.set ns313 (Int.toNat (IntKind.wrap .i64 (n309 + n312))) (List.getD ns308 (Int.toNat (IntKind.wrap .i64 (n310 + n312))) (0 : Int))) k1) none) none) (k1 ns313))
noncomputable def ref38_Copy_L0 : Nat → (List Int) → Int → Int → Int → Int → (List Int) → ((List Int) → Option Bool) → Option Bool
  | 0 => fun _ _ _ _ _ _ _ => none
  | n + 1 => ref38_Copy_L0.body (ref38_Copy_L0 n)
noncomputable def ref38_Copy_L0.get (F : (List Int) → Int → Int → Int → Int → (List Int) → ((List Int) → Option Bool) → Option Bool) (e : Option Bool) (st : St) (k : KE) : Option Bool := match st with
  | ⟨sl, hp, m⟩ => match Nat.beq m 2, pickS 49 [0, 1, 2, 3, 10, 11] sl, hp with
    | true, some [(.bv 0 2 (.int .i64) ns308), (.d ⟨(.int .i64), n309⟩), (.d ⟨(.int .i64), n310⟩), (.d ⟨(.int .i64), n311⟩), (.ref [1, 0]), (.d ⟨(.int .i64), n312⟩)], [([1, 0], ⟨2, 1, (.data (.int .i64) ns313)⟩)] => F ns308 n309 n310 n311 n312 ns313 (fun y0 => k (.exit 0) ⟨fillS 49 [10] [(.ref [1, 0])], [([1, 0], ⟨2, 1, (.data (.int .i64) y0)⟩)], 2⟩)
    | _, _, _ => e
noncomputable def ref38_Copy_L0.calls : RecF := fun g a h k => none
noncomputable def ref38_Copy_L0.loops : LoopF := fun b => none
set_option maxRecDepth 100000 in
theorem ref38_Copy_L0.step (S : (List Int) → Int → Int → Int → Int → (List Int) → ((List Int) → Option Bool) → Option Bool) (ns308 : List Int) (n309 : Int) (n310 : Int) (n311 : Int) (n312 : Int) (ns313 : List Int) (k : KE) : execL Try.prog ht 55 (callfOf (ref38_Copy_L0.calls)) (ref38_Copy_L0.loops) 0 (loopAt 0 (codeOf Try.f55)) ⟨fillS 49 [0, 1, 2, 3, 10, 11] [(.bv 0 2 (.int .i64) ns308), (.d ⟨(.int .i64), n309⟩), (.d ⟨(.int .i64), n310⟩), (.d ⟨(.int .i64), n311⟩), (.ref [1, 0]), (.d ⟨(.int .i64), n312⟩)], [([1, 0], ⟨2, 1, (.data (.int .i64) ns313)⟩)], 2⟩ (again (ref38_Copy_L0.get S none) (plan Try.prog (ht 55 0)) k) = ref38_Copy_L0.body S ns308 n309 n310 n311 n312 ns313 (fun y0 => k (.exit 0) ⟨fillS 49 [10] [(.ref [1, 0])], [([1, 0], ⟨2, 1, (.data (.int .i64) y0)⟩)], 2⟩) := by kernel_rfl
theorem ref38_Copy_L0.ok (d : Nat) (hd : 0 ≤ d) : ∀ n st k, ref38_Copy_L0.get (ref38_Copy_L0 n) none st k = some true → iter n (plan Try.prog (ht 55 0)) (fun st k => execK Try.prog ht 55 (callfOf (callK Try.prog ht d)) 0 (loopAt 0 (codeOf Try.f55)) st k) st k = some true :=
  loop_ok (lfn := fun n st k => ref38_Copy_L0.get (ref38_Copy_L0 n) none st k) (rec := ref38_Copy_L0.calls) (fun g a h k hx => by
    cases hx) (loopf := ref38_Copy_L0.loops) (by
    have e : loopsOf (ref38_Copy_L0.loops) 0 (loopAt 0 (codeOf Try.f55)) = [] := by kernel_rfl
    rw [e]
    intro p hp
    cases hp) (fun st k h => by
    obtain ⟨sl, hp, m⟩ := st
    unfold ref38_Copy_L0.get at h
    dsimp only at h
    split at h
    · have h' : (none : Option Bool) = some true := h
      cases h'
    · cases h) (fun n st k h => by
    obtain ⟨sl, hp, m⟩ := st
    unfold ref38_Copy_L0.get at h
    dsimp only at h
    split at h
    · rename_i h1 h2
      obtain rfl := pickS_ok h2
      obtain rfl := Nat.eq_of_beq_eq_true h1
      exact (ref38_Copy_L0.step (ref38_Copy_L0 n) _ _ _ _ _ _ k).trans h
    · cases h)
theorem ref38_Copy_L0.look {F : (List Int) → Int → Int → Int → Int → (List Int) → ((List Int) → Option Bool) → Option Bool} {e : Option Bool} {st : St} {k : KE} (hx : ref38_Copy_L0.get F e st k = some true) : e = some true ∨ ref38_Copy_L0.get F none st k = some true := by
  obtain ⟨sl, hp, m⟩ := st
  unfold ref38_Copy_L0.get at hx ⊢
  dsimp only at hx ⊢
  split at hx
  · exact .inr hx
  · exact .inl hx
/-- function 55: sheerleg/sheerlegref38.Copy -/
noncomputable def ref38_Copy.body (ref38_within : (List Int) → Int → Int → (Bool → Option Bool) → Option Bool) (ref38_Copy_L0 : (List Int) → Int → Int → Int → Int → (List Int) → ((List Int) → Option Bool) → Option Bool) (ns302 : List Int) (n303 : Int) (n304 : Int) (n305 : Int) (k1 : (List Int) → Bool → Option Bool) : Option Bool :=
  (cond_ (! (decide (n305 < (0 : Int)))) (ref38_within ns302 n303 n305
  (fun b306 => (cond_ (! (! b306)) (ref38_within ns302 n304 n305
  (fun b307 => (cond_ (! b307) (k1 ns302 false) (cond_ (Nat.ble ((List.length ns302) * (8 : Nat)) (140737488355328 : Nat)) (ref38_Copy_L0 ns302 n303 n304 n305 (0 : Int) ns302
  (fun ns314 => (k1 ns314 true))) none)))) (k1 ns302 false)))) (k1 ns302 false))
noncomputable def ref38_Copy (ns302 : List Int) (n303 : Int) (n304 : Int) (n305 : Int) (k1 : (List Int) → Bool → Option Bool) : Option Bool := ref38_Copy.body ref38_within (ref38_Copy_L0 ROUNDS) ns302 n303 n304 n305 k1
noncomputable def ref38_Copy.get (F : (List Int) → Int → Int → Int → ((List Int) → Bool → Option Bool) → Option Bool) (e : Option Bool) (g : FuncId) (a : List AV) (h : Heap) (k : KR) : Option Bool := match g, a, h with
  | 55, [(.bv 0 2 (.int .i64) ns302), (.d ⟨(.int .i64), n303⟩), (.d ⟨(.int .i64), n304⟩), (.d ⟨(.int .i64), n305⟩)], [] => F ns302 n303 n304 n305 (fun y0 y1 => k (.tup [(.bv 0 2 (.int .i64) y0), (.d ⟨.bool, y1⟩)]) [])
  | _, _, _ => e
noncomputable def ref38_Copy.calls (F0 : (List Int) → Int → Int → (Bool → Option Bool) → Option Bool) : RecF := fun g a h k => (ref38_within.get F0 none g a h k)
noncomputable def ref38_Copy.loops (L0 : (List Int) → Int → Int → Int → Int → (List Int) → ((List Int) → Option Bool) → Option Bool) : LoopF := fun b => match Nat.beq b 0 with | true => some (fun st k => (ref38_Copy_L0.get L0 none st k)) | false => none
set_option maxRecDepth 100000 in
theorem ref38_Copy.eq (F0 : (List Int) → Int → Int → (Bool → Option Bool) → Option Bool) (L0 : (List Int) → Int → Int → Int → Int → (List Int) → ((List Int) → Option Bool) → Option Bool) (ns302 : List Int) (n303 : Int) (n304 : Int) (n305 : Int) (k : KR) : execL Try.prog ht 55 (callfOf (ref38_Copy.calls F0)) (ref38_Copy.loops L0) 0 (codeOf Try.f55) ⟨[(.bv 0 2 (.int .i64) ns302), (.d ⟨(.int .i64), n303⟩), (.d ⟨(.int .i64), n304⟩), (.d ⟨(.int .i64), n305⟩)] ++ List.replicate (Try.f55.ntmps - ([(.bv 0 2 (.int .i64) ns302), (.d ⟨(.int .i64), n303⟩), (.d ⟨(.int .i64), n304⟩), (.d ⟨(.int .i64), n305⟩)] : List AV).length) .undef, [], 2⟩ (leave Try.prog Try.f55 k) = ref38_Copy.body F0 L0 ns302 n303 n304 n305 (fun y0 y1 => k (.tup [(.bv 0 2 (.int .i64) y0), (.d ⟨.bool, y1⟩)]) []) := by kernel_rfl
theorem ref38_Copy.ok (d : Nat) (hd : 2 ≤ d) (ns302 : List Int) (n303 : Int) (n304 : Int) (n305 : Int) (k : KR) (hx : ref38_Copy ns302 n303 n304 n305 (fun y0 y1 => k (.tup [(.bv 0 2 (.int .i64) y0), (.d ⟨.bool, y1⟩)]) []) = some true) : callK Try.prog ht d 55 [(.bv 0 2 (.int .i64) ns302), (.d ⟨(.int .i64), n303⟩), (.d ⟨(.int .i64), n304⟩), (.d ⟨(.int .i64), n305⟩)] [] k = some true := by
  obtain ⟨d, rfl⟩ : ∃ e, d = e + 1 := ⟨d - 1, by omega⟩
  exact fn_ok (c := codeOf Try.f55) Try.func55 (by kernel_rfl) (rec := ref38_Copy.calls ref38_within) (fun g a h k hx => by
    rcases ref38_within.look d (by omega) hx with hx | hx
    rotate_left
    · exact hx
    cases hx) (loopf := ref38_Copy.loops (ref38_Copy_L0 ROUNDS)) (by
    have e : loopsOf (ref38_Copy.loops (ref38_Copy_L0 ROUNDS)) 0 (codeOf Try.f55) = [(0, loopAt 0 (codeOf Try.f55))] := by kernel_rfl
    rw [e]
    intro p hp
    simp only [List.mem_cons, List.not_mem_nil, or_false] at hp
    rcases hp with rfl
    · refine loopRef_of (callf := callfOf (callK Try.prog ht d)) (callfOf_ref (callK_mono d)) fun lf st k hb hx => ?_
      cases hb
      rcases ref38_Copy_L0.look hx with hx | hx
      rotate_left
      · exact ref38_Copy_L0.ok d (by omega) _ _ _ hx
      cases hx) ((ref38_Copy.eq ref38_within (ref38_Copy_L0 ROUNDS) ns302 n303 n304 n305 k).trans hx)
theorem ref38_Copy.look (d : Nat) (hd : 2 ≤ d) {e : Option Bool} {g : FuncId} {a : List AV} {h : Heap} {k : KR} (hx : ref38_Copy.get ref38_Copy e g a h k = some true) : e = some true ∨ callK Try.prog ht d g a h k = some true := by
  unfold ref38_Copy.get at hx
  split at hx
  · exact .inr (ref38_Copy.ok d hd _ _ _ _ _ hx)
  · exact .inl hx
/-- function 44: sheerleg/sheerlegref39.Grow -/
noncomputable def ref39_Grow.body (ref39_Id : Tc1 → (Int → Option Bool) → Option Bool) (ref01_Double : Int → Int → Int → (Int → Bool → Option Bool) → Option Bool) (ref38_Grow : (List Int) → Int → ((List Int) → Int → Bool → Option Bool) → Option Bool) (ref38_Copy : (List Int) → Int → Int → Int → ((List Int) → Bool → Option Bool) → Option Bool) (t294 : Tc1) (n295 : Int) (k1 : Tc1 → Bool → Option Bool) : Option Bool :=
  (cond_ (! (! t294.2.2.2.2.2.2.2.2.1)) (cond_ (decide (n295 > (1048576 : Int))) (k1 (t294.1, (t294.2.1, (t294.2.2.1, (t294.2.2.2.1, (t294.2.2.2.2.1, (t294.2.2.2.2.2.1, (t294.2.2.2.2.2.2.1, (t294.2.2.2.2.2.2.2.1, (t294.2.2.2.2.2.2.2.2.1, ()))))))))) false) (ref39_Id t294
  (fun n296 => (ref01_Double (IntKind.wrap .i64 ((2 : Int) * (IntKind.wrap .i64 (t294.2.2.2.1 - t294.2.1)))) (IntKind.wrap .i64 ((IntKind.wrap .i64 (n296 + (if (n295 < (0 : Int)) then (0 : Int) else n295))) + (64 : Int))) (4194304 : Int)
  (fun n297 b298 => (cond_ (! (! b298)) (cond_ (decide (n297 > (IntKind.wrap .i64 (t294.2.2.2.2.2.2.1 - t294.2.2.2.2.2.1)))) (k1 (t294.1, (t294.2.1, (t294.2.2.1, (t294.2.2.2.1, (t294.2.2.2.2.1, (t294.2.2.2.2.2.1, (t294.2.2.2.2.2.2.1, (t294.2.2.2.2.2.2.2.1, (t294.2.2.2.2.2.2.2.2.1, ()))))))))) false) (ref38_Grow t294.1 n297
  (fun ns299 n300 b301 => (cond_ (! b301) (k1 (t294.1, (t294.2.1, (t294.2.2.1, (t294.2.2.2.1, (t294.2.2.2.2.1, (t294.2.2.2.2.2.1, (t294.2.2.2.2.2.2.1, (t294.2.2.2.2.2.2.2.1, (t294.2.2.2.2.2.2.2.2.1, ()))))))))) false) (ref38_Copy ns299 (IntKind.wrap .i64 ((IntKind.wrap .i64 (n300 + n297)) - n296)) t294.2.2.2.2.1 n296
  (fun ns315 b316 => (k1 (ns315, (n300, ((IntKind.wrap .i64 (n300 + (64 : Int))), ((IntKind.wrap .i64 (n300 + n297)), ((IntKind.wrap .i64 ((IntKind.wrap .i64 (n300 + n297)) - n296)), ((IntKind.wrap .i64 (t294.2.2.2.2.2.1 + n297)), (t294.2.2.2.2.2.2.1, (t294.2.2.2.2.2.2.2.1, (true, ()))))))))) b316))))))) (k1 (t294.1, (t294.2.1, (t294.2.2.1, (t294.2.2.2.1, (t294.2.2.2.2.1, (t294.2.2.2.2.2.1, (t294.2.2.2.2.2.2.1, (t294.2.2.2.2.2.2.2.1, (t294.2.2.2.2.2.2.2.2.1, ()))))))))) false))))))) (k1 (t294.1, (t294.2.1, (t294.2.2.1, (t294.2.2.2.1, (t294.2.2.2.2.1, (t294.2.2.2.2.2.1, (t294.2.2.2.2.2.2.1, (t294.2.2.2.2.2.2.2.1, (t294.2.2.2.2.2.2.2.2.1, ()))))))))) false))
noncomputable def ref39_Grow (t294 : Tc1) (n295 : Int) (k1 : Tc1 → Bool → Option Bool) : Option Bool := ref39_Grow.body ref39_Id ref01_Double ref38_Grow ref38_Copy t294 n295 k1
noncomputable def ref39_Grow.get (F : Tc1 → Int → (Tc1 → Bool → Option Bool) → Option Bool) (e : Option Bool) (g : FuncId) (a : List AV) (h : Heap) (k : KR) : Option Bool := match g, a, h with
  | 44, [(.d ⟨(.st [(.sl 2 (.int .i64)), (.int .i64), (.int .i64), (.int .i64), (.int .i64), (.int .i64), (.int .i64), (.int .i64), .bool]), t294⟩), (.d ⟨(.int .i64), n295⟩)], [] => F t294 n295 (fun y0 y1 => k (.tup [(.d ⟨(.st [(.sl 2 (.int .i64)), (.int .i64), (.int .i64), (.int .i64), (.int .i64), (.int .i64), (.int .i64), (.int .i64), .bool]), y0⟩), (.d ⟨.bool, y1⟩)]) [])
  | _, _, _ => e
noncomputable def ref39_Grow.calls (F0 : Tc1 → (Int → Option Bool) → Option Bool) (F1 : Int → Int → Int → (Int → Bool → Option Bool) → Option Bool) (F2 : (List Int) → Int → ((List Int) → Int → Bool → Option Bool) → Option Bool) (F3 : (List Int) → Int → Int → Int → ((List Int) → Bool → Option Bool) → Option Bool) : RecF := fun g a h k => (ref39_Id.get F0 (ref01_Double.get F1 (ref38_Grow.get F2 (ref38_Copy.get F3 none g a h k) g a h k) g a h k) g a h k)
noncomputable def ref39_Grow.loops : LoopF := fun b => none
set_option maxRecDepth 100000 in
theorem ref39_Grow.eq (F0 : Tc1 → (Int → Option Bool) → Option Bool) (F1 : Int → Int → Int → (Int → Bool → Option Bool) → Option Bool) (F2 : (List Int) → Int → ((List Int) → Int → Bool → Option Bool) → Option Bool) (F3 : (List Int) → Int → Int → Int → ((List Int) → Bool → Option Bool) → Option Bool) (t294 : Tc1) (n295 : Int) (k : KR) : execL Try.prog ht 44 (callfOf (ref39_Grow.calls F0 F1 F2 F3)) (ref39_Grow.loops) 0 (codeOf Try.f44) ⟨[(.d ⟨(.st [(.sl 2 (.int .i64)), (.int .i64), (.int .i64), (.int .i64), (.int .i64), (.int .i64), (.int .i64), (.int .i64), .bool]), t294⟩), (.d ⟨(.int .i64), n295⟩)] ++ List.replicate (Try.f44.ntmps - ([(.d ⟨(.st [(.sl 2 (.int .i64)), (.int .i64), (.int .i64), (.int .i64), (.int .i64), (.int .i64), (.int .i64), (.int .i64), .bool]), t294⟩), (.d ⟨(.int .i64), n295⟩)] : List AV).length) .undef, [], 2⟩ (leave Try.prog Try.f44 k) = ref39_Grow.body F0 F1 F2 F3 t294 n295 (fun y0 y1 => k (.tup [(.d ⟨(.st [(.sl 2 (.int .i64)), (.int .i64), (.int .i64), (.int .i64), (.int .i64), (.int .i64), (.int .i64), (.int .i64), .bool]), y0⟩), (.d ⟨.bool, y1⟩)]) []) := by kernel_rfl
theorem ref39_Grow.ok (d : Nat) (hd : 3 ≤ d) (t294 : Tc1) (n295 : Int) (k : KR) (hx : ref39_Grow t294 n295 (fun y0 y1 => k (.tup [(.d ⟨(.st [(.sl 2 (.int .i64)), (.int .i64), (.int .i64), (.int .i64), (.int .i64), (.int .i64), (.int .i64), (.int .i64), .bool]), y0⟩), (.d ⟨.bool, y1⟩)]) []) = some true) : callK Try.prog ht d 44 [(.d ⟨(.st [(.sl 2 (.int .i64)), (.int .i64), (.int .i64), (.int .i64), (.int .i64), (.int .i64), (.int .i64), (.int .i64), .bool]), t294⟩), (.d ⟨(.int .i64), n295⟩)] [] k = some true := by
  obtain ⟨d, rfl⟩ : ∃ e, d = e + 1 := ⟨d - 1, by omega⟩
  exact fn_ok (c := codeOf Try.f44) Try.func44 (by kernel_rfl) (rec := ref39_Grow.calls ref39_Id ref01_Double ref38_Grow ref38_Copy) (fun g a h k hx => by
    rcases ref39_Id.look d (by omega) hx with hx | hx
    rotate_left
    · exact hx
    rcases ref01_Double.look d (by omega) hx with hx | hx
    rotate_left
    · exact hx
    rcases ref38_Grow.look d (by omega) hx with hx | hx
    rotate_left
    · exact hx
    rcases ref38_Copy.look d (by omega) hx with hx | hx
    rotate_left
    · exact hx
    cases hx) (loopf := ref39_Grow.loops) (by
    have e : loopsOf (ref39_Grow.loops) 0 (codeOf Try.f44) = [] := by kernel_rfl
    rw [e]
    intro p hp
    cases hp) ((ref39_Grow.eq ref39_Id ref01_Double ref38_Grow ref38_Copy t294 n295 k).trans hx)
theorem ref39_Grow.look (d : Nat) (hd : 3 ≤ d) {e : Option Bool} {g : FuncId} {a : List AV} {h : Heap} {k : KR} (hx : ref39_Grow.get ref39_Grow e g a h k = some true) : e = some true ∨ callK Try.prog ht d g a h k = some true := by
  unfold ref39_Grow.get at hx
  split at hx
  · exact .inr (ref39_Grow.ok d hd _ _ _ hx)
  · exact .inl hx
/-- function 11: (*sheerleg/stack.Stack).Grow -/
noncomputable def stack_Stack_Grow.body (stack_Stack_live : (Bool → Option Bool) → Option Bool) (stack_Stack_Id : (Int → Option Bool) → Option Bool) (n319 : Int) (k1 : Bool → Option Bool) : Option Bool :=
  (stack_Stack_live
  (fun b320 => (cond_ (! (! b320)) (cond_ (decide (n319 > (1048576 : Int))) (k1 false) (stack_Stack_Id
  (fun n321 => none))) (k1 false))))
noncomputable def stack_Stack_Grow (n319 : Int) (k1 : Bool → Option Bool) : Option Bool := stack_Stack_Grow.body stack_Stack_live stack_Stack_Id n319 k1
noncomputable def stack_Stack_Grow.get (F : Int → (Bool → Option Bool) → Option Bool) (e : Option Bool) (g : FuncId) (a : List AV) (h : Heap) (k : KR) : Option Bool := match g, a, h with
  | 11, [.nilp, (.d ⟨(.int .i64), n319⟩)], [] => F n319 (fun y0 => k (.d ⟨.bool, y0⟩) [])
  | _, _, _ => e
noncomputable def stack_Stack_Grow.calls (F0 : (Bool → Option Bool) → Option Bool) (F1 : (Int → Option Bool) → Option Bool) : RecF := fun g a h k => (stack_Stack_live.get F0 (stack_Stack_Id.get F1 none g a h k) g a h k)
noncomputable def stack_Stack_Grow.loops : LoopF := fun b => none
set_option maxRecDepth 100000 in
theorem stack_Stack_Grow.eq (F0 : (Bool → Option Bool) → Option Bool) (F1 : (Int → Option Bool) → Option Bool) (n319 : Int) (k : KR) : execL Try.prog ht 11 (callfOf (stack_Stack_Grow.calls F0 F1)) (stack_Stack_Grow.loops) 0 (codeOf Try.f11) ⟨[.nilp, (.d ⟨(.int .i64), n319⟩)] ++ List.replicate (Try.f11.ntmps - ([.nilp, (.d ⟨(.int .i64), n319⟩)] : List AV).length) .undef, [], 2⟩ (leave Try.prog Try.f11 k) = stack_Stack_Grow.body F0 F1 n319 (fun y0 => k (.d ⟨.bool, y0⟩) []) := by kernel_rfl
theorem stack_Stack_Grow.ok (d : Nat) (hd : 4 ≤ d) (n319 : Int) (k : KR) (hx : stack_Stack_Grow n319 (fun y0 => k (.d ⟨.bool, y0⟩) []) = some true) : callK Try.prog ht d 11 [.nilp, (.d ⟨(.int .i64), n319⟩)] [] k = some true := by
  obtain ⟨d, rfl⟩ : ∃ e, d = e + 1 := ⟨d - 1, by omega⟩
  exact fn_ok (c := codeOf Try.f11) Try.func11 (by kernel_rfl) (rec := stack_Stack_Grow.calls stack_Stack_live stack_Stack_Id) (fun g a h k hx => by
    rcases stack_Stack_live.look d (by omega) hx with hx | hx
    rotate_left
    · exact hx
    rcases stack_Stack_Id.look d (by omega) hx with hx | hx
    rotate_left
    · exact hx
    cases hx) (loopf := stack_Stack_Grow.loops) (by
    have e : loopsOf (stack_Stack_Grow.loops) 0 (codeOf Try.f11) = [] := by kernel_rfl
    rw [e]
    intro p hp
    cases hp) ((stack_Stack_Grow.eq stack_Stack_live stack_Stack_Id n319 k).trans hx)
theorem stack_Stack_Grow.look (d : Nat) (hd : 4 ≤ d) {e : Option Bool} {g : FuncId} {a : List AV} {h : Heap} {k : KR} (hx : stack_Stack_Grow.get stack_Stack_Grow e g a h k = some true) : e = some true ∨ callK Try.prog ht d g a h k = some true := by
  unfold stack_Stack_Grow.get at hx
  split at hx
  · exact .inr (stack_Stack_Grow.ok d hd _ _ hx)
  · exact .inl hx
/-- function 18: sheerleg/sheerleglaw39.play -/
noncomputable def law39_play.body (ref39_Push : Tc1 → Int → (Tc1 → Bool → Option Bool) → Option Bool) (stack_Stack_Push : Int → (Bool → Option Bool) → Option Bool) (stack_Stack_Pop : (Int → Bool → Option Bool) → Option Bool) (ref39_Pop : Tc1 → (Tc1 → Int → Bool → Option Bool) → Option Bool) (ref39_Move : Tc1 → Int → Bool → (Tc1 → Bool → Option Bool) → Option Bool) (stack_Stack_Down : Int → (Bool → Option Bool) → Option Bool) (stack_Stack_Up : Int → (Bool → Option Bool) → Option Bool) (stack_Stack_Get : Int → (Int → Bool → Option Bool) → Option Bool) (ref39_Get : Tc1 → Int → (Int → Bool → Option Bool) → Option Bool) (ref39_Set : Tc1 → Int → Int → (Tc1 → Bool → Option Bool) → Option Bool) (stack_Stack_Set : Int → Int → (Bool → Option Bool) → Option Bool) (ref39_Spill : Tc1 → (Tc1 → Bool → Option Bool) → Option Bool) (stack_Stack_Spill : (Bool → Option Bool) → Option Bool) (ref39_Grow : Tc1 → Int → (Tc1 → Bool → Option Bool) → Option Bool) (stack_Stack_Grow : Int → (Bool → Option Bool) → Option Bool) (t268 : Tc1) (t269 : Int × Int × Int × Unit) (k1 : Tc1 → Bool → Option Bool) : Option Bool :=
  (cond_ (t269.1 == (0 : Int)) (ref39_Push t268 t269.2.2.1
  (fun t270 b271 => (stack_Stack_Push t269.2.2.1
  (fun b272 => (k1 (t270.1, (t270.2.1, (t270.2.2.1, (t270.2.2.2.1, (t270.2.2.2.2.1, (t270.2.2.2.2.2.1, (t270.2.2.2.2.2.2.1, (t270.2.2.2.2.2.2.2.1, (t270.2.2.2.2.2.2.2.2.1, ()))))))))) (b272 == b271)))))) (cond_ (t269.1 == (1 : Int)) (stack_Stack_Pop
  (fun n273 b274 => (ref39_Pop t268
  (fun t275 n276 b277 => (cond_ (n273 == n276) (k1 (t275.1, (t275.2.1, (t275.2.2.1, (t275.2.2.2.1, (t275.2.2.2.2.1, (t275.2.2.2.2.2.1, (t275.2.2.2.2.2.2.1, (t275.2.2.2.2.2.2.2.1, (t275.2.2.2.2.2.2.2.2.1, ()))))))))) (b274 == b277)) (k1 (t275.1, (t275.2.1, (t275.2.2.1, (t275.2.2.2.1, (t275.2.2.2.2.1, (t275.2.2.2.2.2.1, (t275.2.2.2.2.2.2.1, (t275.2.2.2.2.2.2.2.1, (t275.2.2.2.2.2.2.2.2.1, ()))))))))) false)))))) (cond_ (t269.1 == (2 : Int)) (ref39_Move t268 t269.2.1 true
  (fun t278 b279 => (stack_Stack_Down t269.2.1
  (fun b280 => (k1 (t278.1, (t278.2.1, (t278.2.2.1, (t278.2.2.2.1, (t278.2.2.2.2.1, (t278.2.2.2.2.2.1, (t278.2.2.2.2.2.2.1, (t278.2.2.2.2.2.2.2.1, (t278.2.2.2.2.2.2.2.2.1, ()))))))))) (b280 == b279)))))) (cond_ (t269.1 == (3 : Int)) (ref39_Move t268 t269.2.1 false
  (fun t281 b282 => (stack_Stack_Up t269.2.1
  (fun b283 => (k1 (t281.1, (t281.2.1, (t281.2.2.1, (t281.2.2.2.1, (t281.2.2.2.2.1, (t281.2.2.2.2.2.1, (t281.2.2.2.2.2.2.1, (t281.2.2.2.2.2.2.2.1, (t281.2.2.2.2.2.2.2.2.1, ()))))))))) (b283 == b282)))))) (cond_ (t269.1 == (4 : Int)) (stack_Stack_Get t269.2.1
  (fun n284 b285 => (ref39_Get t268 t269.2.1
  (fun n286 b287 => (cond_ (n284 == n286) (k1 (t268.1, (t268.2.1, (t268.2.2.1, (t268.2.2.2.1, (t268.2.2.2.2.1, (t268.2.2.2.2.2.1, (t268.2.2.2.2.2.2.1, (t268.2.2.2.2.2.2.2.1, (t268.2.2.2.2.2.2.2.2.1, ()))))))))) (b285 == b287)) (k1 (t268.1, (t268.2.1, (t268.2.2.1, (t268.2.2.2.1, (t268.2.2.2.2.1, (t268.2.2.2.2.2.1, (t268.2.2.2.2.2.2.1, (t268.2.2.2.2.2.2.2.1, (t268.2.2.2.2.2.2.2.2.1, ()))))))))) false)))))) (cond_ (t269.1 == (5 : Int)) (ref39_Set t268 t269.2.1 t269.2.2.1
  (fun t288 b289 => (stack_Stack_Set t269.2.1 t269.2.2.1
  (fun b290 => (k1 (t288.1, (t288.2.1, (t288.2.2.1, (t288.2.2.2.1, (t288.2.2.2.2.1, (t288.2.2.2.2.2.1, (t288.2.2.2.2.2.2.1, (t288.2.2.2.2.2.2.2.1, (t288.2.2.2.2.2.2.2.2.1, ()))))))))) (b290 == b289)))))) (cond_ (t269.1 == (6 : Int)) (ref39_Spill t268
  (fun t291 b292 => (stack_Stack_Spill
  (fun b293 => (k1 (t291.1, (t291.2.1, (t291.2.2.1, (t291.2.2.2.1, (t291.2.2.2.2.1, (t291.2.2.2.2.2.1, (t291.2.2.2.2.2.2.1, (t291.2.2.2.2.2.2.2.1, (t291.2.2.2.2.2.2.2.2.1, ()))))))))) (b293 == b292)))))) (ref39_Grow t268 t269.2.1
  (fun t317 b318 => (stack_Stack_Grow t269.2.1
  (fun b322 => (k1 (t317.1, (t317.2.1, (t317.2.2.1, (t317.2.2.2.1, (t317.2.2.2.2.1, (t317.2.2.2.2.2.1, (t317.2.2.2.2.2.2.1, (t317.2.2.2.2.2.2.2.1, (t317.2.2.2.2.2.2.2.2.1, ()))))))))) (b322 == b318)))))))))))))
noncomputable def law39_play (t268 : Tc1) (t269 : Int × Int × Int × Unit) (k1 : Tc1 → Bool → Option Bool) : Option Bool := law39_play.body ref39_Push stack_Stack_Push stack_Stack_Pop ref39_Pop ref39_Move stack_Stack_Down stack_Stack_Up stack_Stack_Get ref39_Get ref39_Set stack_Stack_Set ref39_Spill stack_Stack_Spill ref39_Grow stack_Stack_Grow t268 t269 k1
noncomputable def law39_play.get (F : Tc1 → (Int × Int × Int × Unit) → (Tc1 → Bool → Option Bool) → Option Bool) (e : Option Bool) (g : FuncId) (a : List AV) (h : Heap) (k : KR) : Option Bool := match g, a, h with
  | 18, [.nilp, (.d ⟨(.st [(.sl 2 (.int .i64)), (.int .i64), (.int .i64), (.int .i64), (.int .i64), (.int .i64), (.int .i64), (.int .i64), .bool]), t268⟩), (.d ⟨(.st [(.int .i64), (.int .i64), (.int .i64)]), t269⟩)], [] => F t268 t269 (fun y0 y1 => k (.tup [(.d ⟨(.st [(.sl 2 (.int .i64)), (.int .i64), (.int .i64), (.int .i64), (.int .i64), (.int .i64), (.int .i64), (.int .i64), .bool]), y0⟩), (.d ⟨.bool, y1⟩)]) [])
  | _, _, _ => e
noncomputable def law39_play.calls (F0 : Tc1 → Int → (Tc1 → Bool → Option Bool) → Option Bool) (F1 : Int → (Bool → Option Bool) → Option Bool) (F2 : (Int → Bool → Option Bool) → Option Bool) (F3 : Tc1 → (Tc1 → Int → Bool → Option Bool) → Option Bool) (F4 : Tc1 → Int → Bool → (Tc1 → Bool → Option Bool) → Option Bool) (F5 : Int → (Bool → Option Bool) → Option Bool) (F6 : Int → (Bool → Option Bool) → Option Bool) (F7 : Int → (Int → Bool → Option Bool) → Option Bool) (F8 : Tc1 → Int → (Int → Bool → Option Bool) → Option Bool) (F9 : Tc1 → Int → Int → (Tc1 → Bool → Option Bool) → Option Bool) (F10 : Int → Int → (Bool → Option Bool) → Option Bool) (F11 : Tc1 → (Tc1 → Bool → Option Bool) → Option Bool) (F12 : (Bool → Option Bool) → Option Bool) (F13 : Tc1 → Int → (Tc1 → Bool → Option Bool) → Option Bool) (F14 : Int → (Bool → Option Bool) → Option Bool) : RecF := fun g a h k => (ref39_Push.get F0 (stack_Stack_Push.get F1 (stack_Stack_Pop.get F2 (ref39_Pop.get F3 (ref39_Move.get F4 (stack_Stack_Down.get F5 (stack_Stack_Up.get F6 (stack_Stack_Get.get F7 (ref39_Get.get F8 (ref39_Set.get F9 (stack_Stack_Set.get F10 (ref39_Spill.get F11 (stack_Stack_Spill.get F12 (ref39_Grow.get F13 (stack_Stack_Grow.get F14 none g a h k) g a h k) g a h k) g a h k) g a h k) g a h k) g a h k) g a h k) g a h k) g a h k) g a h k) g a h k) g a h k) g a h k) g a h k)
noncomputable def law39_play.loops : LoopF := fun b => none
set_option maxRecDepth 100000 in
theorem law39_play.eq (F0 : Tc1 → Int → (Tc1 → Bool → Option Bool) → Option Bool) (F1 : Int → (Bool → Option Bool) → Option Bool) (F2 : (Int → Bool → Option Bool) → Option Bool) (F3 : Tc1 → (Tc1 → Int → Bool → Option Bool) → Option Bool) (F4 : Tc1 → Int → Bool → (Tc1 → Bool → Option Bool) → Option Bool) (F5 : Int → (Bool → Option Bool) → Option Bool) (F6 : Int → (Bool → Option Bool) → Option Bool) (F7 : Int → (Int → Bool → Option Bool) → Option Bool) (F8 : Tc1 → Int → (Int → Bool → Option Bool) → Option Bool) (F9 : Tc1 → Int → Int → (Tc1 → Bool → Option Bool) → Option Bool) (F10 : Int → Int → (Bool → Option Bool) → Option Bool) (F11 : Tc1 → (Tc1 → Bool → Option Bool) → Option Bool) (F12 : (Bool → Option Bool) → Option Bool) (F13 : Tc1 → Int → (Tc1 → Bool → Option Bool) → Option Bool) (F14 : Int → (Bool → Option Bool) → Option Bool) (t268 : Tc1) (t269 : Int × Int × Int × Unit) (k : KR) : execL Try.prog ht 18 (callfOf (law39_play.calls F0 F1 F2 F3 F4 F5 F6 F7 F8 F9 F10 F11 F12 F13 F14)) (law39_play.loops) 0 (codeOf Try.f18) ⟨[.nilp, (.d ⟨(.st [(.sl 2 (.int .i64)), (.int .i64), (.int .i64), (.int .i64), (.int .i64), (.int .i64), (.int .i64), (.int .i64), .bool]), t268⟩), (.d ⟨(.st [(.int .i64), (.int .i64), (.int .i64)]), t269⟩)] ++ List.replicate (Try.f18.ntmps - ([.nilp, (.d ⟨(.st [(.sl 2 (.int .i64)), (.int .i64), (.int .i64), (.int .i64), (.int .i64), (.int .i64), (.int .i64), (.int .i64), .bool]), t268⟩), (.d ⟨(.st [(.int .i64), (.int .i64), (.int .i64)]), t269⟩)] : List AV).length) .undef, [], 2⟩ (leave Try.prog Try.f18 k) = law39_play.body F0 F1 F2 F3 F4 F5 F6 F7 F8 F9 F10 F11 F12 F13 F14 t268 t269 (fun y0 y1 => k (.tup [(.d ⟨(.st [(.sl 2 (.int .i64)), (.int .i64), (.int .i64), (.int .i64), (.int .i64), (.int .i64), (.int .i64), (.int .i64), .bool]), y0⟩), (.d ⟨.bool, y1⟩)]) []) := by kernel_rfl
theorem law39_play.ok (d : Nat) (hd : 7 ≤ d) (t268 : Tc1) (t269 : Int × Int × Int × Unit) (k : KR) (hx : law39_play t268 t269 (fun y0 y1 => k (.tup [(.d ⟨(.st [(.sl 2 (.int .i64)), (.int .i64), (.int .i64), (.int .i64), (.int .i64), (.int .i64), (.int .i64), (.int .i64), .bool]), y0⟩), (.d ⟨.bool, y1⟩)]) []) = some true) : callK Try.prog ht d 18 [.nilp, (.d ⟨(.st [(.sl 2 (.int .i64)), (.int .i64), (.int .i64), (.int .i64), (.int .i64), (.int .i64), (.int .i64), (.int .i64), .bool]), t268⟩), (.d ⟨(.st [(.int .i64), (.int .i64), (.int .i64)]), t269⟩)] [] k = some true := by
  obtain ⟨d, rfl⟩ : ∃ e, d = e + 1 := ⟨d - 1, by omega⟩
  exact fn_ok (c := codeOf Try.f18) Try.func18 (by kernel_rfl) (rec := law39_play.calls ref39_Push stack_Stack_Push stack_Stack_Pop ref39_Pop ref39_Move stack_Stack_Down stack_Stack_Up stack_Stack_Get ref39_Get ref39_Set stack_Stack_Set ref39_Spill stack_Stack_Spill ref39_Grow stack_Stack_Grow) (fun g a h k hx => by
    rcases ref39_Push.look d (by omega) hx with hx | hx
    rotate_left
    · exact hx
    rcases stack_Stack_Push.look d (by omega) hx with hx | hx
    rotate_left
    · exact hx
    rcases stack_Stack_Pop.look d (by omega) hx with hx | hx
    rotate_left
    · exact hx
    rcases ref39_Pop.look d (by omega) hx with hx | hx
    rotate_left
    · exact hx
    rcases ref39_Move.look d (by omega) hx with hx | hx
    rotate_left
    · exact hx
    rcases stack_Stack_Down.look d (by omega) hx with hx | hx
    rotate_left
    · exact hx
    rcases stack_Stack_Up.look d (by omega) hx with hx | hx
    rotate_left
    · exact hx
    rcases stack_Stack_Get.look d (by omega) hx with hx | hx
    rotate_left
    · exact hx
    rcases ref39_Get.look d (by omega) hx with hx | hx
    rotate_left
    · exact hx
    rcases ref39_Set.look d (by omega) hx with hx | hx
    rotate_left
    · exact hx
    rcases stack_Stack_Set.look d (by omega) hx with hx | hx
    rotate_left
    · exact hx
    rcases ref39_Spill.look d (by omega) hx with hx | hx
    rotate_left
    · exact hx
    rcases stack_Stack_Spill.look d (by omega) hx with hx | hx
    rotate_left
    · exact hx
    rcases ref39_Grow.look d (by omega) hx with hx | hx
    rotate_left
    · exact hx
    rcases stack_Stack_Grow.look d (by omega) hx with hx | hx
    rotate_left
    · exact hx
    cases hx) (loopf := law39_play.loops) (by
    have e : loopsOf (law39_play.loops) 0 (codeOf Try.f18) = [] := by kernel_rfl
    rw [e]
    intro p hp
    cases hp) ((law39_play.eq ref39_Push stack_Stack_Push stack_Stack_Pop ref39_Pop ref39_Move stack_Stack_Down stack_Stack_Up stack_Stack_Get ref39_Get ref39_Set stack_Stack_Set ref39_Spill stack_Stack_Spill ref39_Grow stack_Stack_Grow t268 t269 k).trans hx)
theorem law39_play.look (d : Nat) (hd : 7 ≤ d) {e : Option Bool} {g : FuncId} {a : List AV} {h : Heap} {k : KR} (hx : law39_play.get law39_play e g a h k = some true) : e = some true ∨ callK Try.prog ht d g a h k = some true := by
  unfold law39_play.get at hx
  split at hx
  · exact .inr (law39_play.ok d hd _ _ _ hx)
  · exact .inl hx
/-- function 28: (*sheerleg/stack.Stack).Low -/
noncomputable def stack_Stack_Low.body (stack_Stack_live : (Bool → Option Bool) → Option Bool) (k1 : Int → Option Bool) : Option Bool :=
  (stack_Stack_live
  (fun b330 => (cond_ (! b330) (k1 (0 : Int)) none)))
noncomputable def stack_Stack_Low (k1 : Int → Option Bool) : Option Bool := stack_Stack_Low.body stack_Stack_live k1
noncomputable def stack_Stack_Low.get (F : (Int → Option Bool) → Option Bool) (e : Option Bool) (g : FuncId) (a : List AV) (h : Heap) (k : KR) : Option Bool := match g, a, h with
  | 28, [.nilp], [] => F (fun y0 => k (.d ⟨(.int .i64), y0⟩) [])
  | _, _, _ => e
noncomputable def stack_Stack_Low.calls (F0 : (Bool → Option Bool) → Option Bool) : RecF := fun g a h k => (stack_Stack_live.get F0 none g a h k)
noncomputable def stack_Stack_Low.loops : LoopF := fun b => none
set_option maxRecDepth 100000 in
theorem stack_Stack_Low.eq (F0 : (Bool → Option Bool) → Option Bool) (k : KR) : execL Try.prog ht 28 (callfOf (stack_Stack_Low.calls F0)) (stack_Stack_Low.loops) 0 (codeOf Try.f28) ⟨[.nilp] ++ List.replicate (Try.f28.ntmps - ([.nilp] : List AV).length) .undef, [], 2⟩ (leave Try.prog Try.f28 k) = stack_Stack_Low.body F0 (fun y0 => k (.d ⟨(.int .i64), y0⟩) []) := by kernel_rfl
theorem stack_Stack_Low.ok (d : Nat) (hd : 2 ≤ d) (k : KR) (hx : stack_Stack_Low (fun y0 => k (.d ⟨(.int .i64), y0⟩) []) = some true) : callK Try.prog ht d 28 [.nilp] [] k = some true := by
  obtain ⟨d, rfl⟩ : ∃ e, d = e + 1 := ⟨d - 1, by omega⟩
  exact fn_ok (c := codeOf Try.f28) Try.func28 (by kernel_rfl) (rec := stack_Stack_Low.calls stack_Stack_live) (fun g a h k hx => by
    rcases stack_Stack_live.look d (by omega) hx with hx | hx
    rotate_left
    · exact hx
    cases hx) (loopf := stack_Stack_Low.loops) (by
    have e : loopsOf (stack_Stack_Low.loops) 0 (codeOf Try.f28) = [] := by kernel_rfl
    rw [e]
    intro p hp
    cases hp) ((stack_Stack_Low.eq stack_Stack_live k).trans hx)
theorem stack_Stack_Low.look (d : Nat) (hd : 2 ≤ d) {e : Option Bool} {g : FuncId} {a : List AV} {h : Heap} {k : KR} (hx : stack_Stack_Low.get stack_Stack_Low e g a h k = some true) : e = some true ∨ callK Try.prog ht d g a h k = some true := by
  unfold stack_Stack_Low.get at hx
  split at hx
  · exact .inr (stack_Stack_Low.ok d hd _ hx)
  · exact .inl hx
/-- function 19: sheerleg/sheerleglaw39.told -/
noncomputable def law39_told.body (stack_Stack_Seg : ((Int × Int × Int × Unit) → Option Bool) → Option Bool) (stack_Stack_SP : (Int → Option Bool) → Option Bool) (stack_Stack_Id : (Int → Option Bool) → Option Bool) (ref39_Id : Tc1 → (Int → Option Bool) → Option Bool) (stack_Stack_Low : (Int → Option Bool) → Option Bool) (t325 : Tc1) (k1 : Bool → Option Bool) : Option Bool :=
  (stack_Stack_Seg
  (fun t326 => (cond_ ((t326.1 == t325.2.1) && ((t326.2.1 == t325.2.2.1) && ((t326.2.2.1 == t325.2.2.2.1) && true))) (stack_Stack_SP
  (fun n327 => (cond_ (n327 == t325.2.2.2.2.1) (stack_Stack_Id
  (fun n328 => (ref39_Id t325
  (fun n329 => (cond_ (n328 == n329) (stack_Stack_Low
  (fun n331 => (k1 (n331 == t325.2.2.2.2.2.2.2.1)))) (k1 false)))))) (k1 false)))) (k1 false))))
noncomputable def law39_told (t325 : Tc1) (k1 : Bool → Option Bool) : Option Bool := law39_told.body stack_Stack_Seg stack_Stack_SP stack_Stack_Id ref39_Id stack_Stack_Low t325 k1
noncomputable def law39_told.get (F : Tc1 → (Bool → Option Bool) → Option Bool) (e : Option Bool) (g : FuncId) (a : List AV) (h : Heap) (k : KR) : Option Bool := match g, a, h with
  | 19, [.nilp, (.d ⟨(.st [(.sl 2 (.int .i64)), (.int .i64), (.int .i64), (.int .i64), (.int .i64), (.int .i64), (.int .i64), (.int .i64), .bool]), t325⟩)], [] => F t325 (fun y0 => k (.d ⟨.bool, y0⟩) [])
  | _, _, _ => e
noncomputable def law39_told.calls (F0 : ((Int × Int × Int × Unit) → Option Bool) → Option Bool) (F1 : (Int → Option Bool) → Option Bool) (F2 : (Int → Option Bool) → Option Bool) (F3 : Tc1 → (Int → Option Bool) → Option Bool) (F4 : (Int → Option Bool) → Option Bool) : RecF := fun g a h k => (stack_Stack_Seg.get F0 (stack_Stack_SP.get F1 (stack_Stack_Id.get F2 (ref39_Id.get F3 (stack_Stack_Low.get F4 none g a h k) g a h k) g a h k) g a h k) g a h k)
noncomputable def law39_told.loops : LoopF := fun b => none
set_option maxRecDepth 100000 in
theorem law39_told.eq (F0 : ((Int × Int × Int × Unit) → Option Bool) → Option Bool) (F1 : (Int → Option Bool) → Option Bool) (F2 : (Int → Option Bool) → Option Bool) (F3 : Tc1 → (Int → Option Bool) → Option Bool) (F4 : (Int → Option Bool) → Option Bool) (t325 : Tc1) (k : KR) : execL Try.prog ht 19 (callfOf (law39_told.calls F0 F1 F2 F3 F4)) (law39_told.loops) 0 (codeOf Try.f19) ⟨[.nilp, (.d ⟨(.st [(.sl 2 (.int .i64)), (.int .i64), (.int .i64), (.int .i64), (.int .i64), (.int .i64), (.int .i64), (.int .i64), .bool]), t325⟩)] ++ List.replicate (Try.f19.ntmps - ([.nilp, (.d ⟨(.st [(.sl 2 (.int .i64)), (.int .i64), (.int .i64), (.int .i64), (.int .i64), (.int .i64), (.int .i64), (.int .i64), .bool]), t325⟩)] : List AV).length) .undef, [], 2⟩ (leave Try.prog Try.f19 k) = law39_told.body F0 F1 F2 F3 F4 t325 (fun y0 => k (.d ⟨.bool, y0⟩) []) := by kernel_rfl
theorem law39_told.ok (d : Nat) (hd : 4 ≤ d) (t325 : Tc1) (k : KR) (hx : law39_told t325 (fun y0 => k (.d ⟨.bool, y0⟩) []) = some true) : callK Try.prog ht d 19 [.nilp, (.d ⟨(.st [(.sl 2 (.int .i64)), (.int .i64), (.int .i64), (.int .i64), (.int .i64), (.int .i64), (.int .i64), (.int .i64), .bool]), t325⟩)] [] k = some true := by
  obtain ⟨d, rfl⟩ : ∃ e, d = e + 1 := ⟨d - 1, by omega⟩
  exact fn_ok (c := codeOf Try.f19) Try.func19 (by kernel_rfl) (rec := law39_told.calls stack_Stack_Seg stack_Stack_SP stack_Stack_Id ref39_Id stack_Stack_Low) (fun g a h k hx => by
    rcases stack_Stack_Seg.look d (by omega) hx with hx | hx
    rotate_left
    · exact hx
    rcases stack_Stack_SP.look d (by omega) hx with hx | hx
    rotate_left
    · exact hx
    rcases stack_Stack_Id.look d (by omega) hx with hx | hx
    rotate_left
    · exact hx
    rcases ref39_Id.look d (by omega) hx with hx | hx
    rotate_left
    · exact hx
    rcases stack_Stack_Low.look d (by omega) hx with hx | hx
    rotate_left
    · exact hx
    cases hx) (loopf := law39_told.loops) (by
    have e : loopsOf (law39_told.loops) 0 (codeOf Try.f19) = [] := by kernel_rfl
    rw [e]
    intro p hp
    cases hp) ((law39_told.eq stack_Stack_Seg stack_Stack_SP stack_Stack_Id ref39_Id stack_Stack_Low t325 k).trans hx)
theorem law39_told.look (d : Nat) (hd : 4 ≤ d) {e : Option Bool} {g : FuncId} {a : List AV} {h : Heap} {k : KR} (hx : law39_told.get law39_told e g a h k = some true) : e = some true ∨ callK Try.prog ht d g a h k = some true := by
  unfold law39_told.get at hx
  split at hx
  · exact .inr (law39_told.ok d hd _ _ hx)
  · exact .inl hx
/-- function 4: the loop in block 0 -/
noncomputable def law39_StackPlays_L0.body (law39_StackPlays_L0 : Tc0 → Bool → Int → Bool → (List Int) → (List Int) → Int → Int → Int → Int → Int → Int → Int → Bool → (Bool → Option Bool) → (Bool → (List Int) → (List Int) → Int → Int → Int → Int → Int → Int → Int → Bool → Option Bool) → Option Bool) (law39_play : Tc1 → (Int × Int × Int × Unit) → (Tc1 → Bool → Option Bool) → Option Bool) (law39_told : Tc1 → (Bool → Option Bool) → Option Bool) (ts254 : Tc0) (b255 : Bool) (n256 : Int) (b257 : Bool) (ns258 : List Int) (l259 : List Int) (n260 : Int) (n261 : Int) (n262 : Int) (n263 : Int) (n264 : Int) (n265 : Int) (n266 : Int) (b267 : Bool) (k1 : Bool → Option Bool) (k2 : Bool → (List Int) → (List Int) → Int → Int → Int → Int → Int → Int → Int → Bool → Option Bool) : Option Bool :=
  (cond_ b255 (cond_ (decide (n256 < (((List.length ts254) : Nat) : Int))) (cond_ ((decide ((0 : Int) ≤ n256)) && (decide (n256 < (((List.length ts254) : Nat) : Int)))) (law39_play (l259, (n260, (n261, (n262, (n263, (n264, (n265, (n266, (b267, ()))))))))) (List.getD ts254 (Int.toNat n256) ((0 : Int), ((0 : Int), ((0 : Int), ()))))
  (fun t323 b324 => (cond_ (! (! b324)) (law39_told (t323.1, (t323.2.1, (t323.2.2.1, (t323.2.2.2.1, (t323.2.2.2.2.1, (t323.2.2.2.2.2.1, (t323.2.2.2.2.2.2.1, (t323.2.2.2.2.2.2.2.1, (t323.2.2.2.2.2.2.2.2.1, ())))))))))
  (fun b332 => (cond_ (! b332) (k1 false) (law39_StackPlays_L0 ts254 b255 (IntKind.wrap .i64 (n256 + (1 : Int))) b257 ns258 t323.1 t323.2.1 t323.2.2.1 t323.2.2.2.1 t323.2.2.2.2.1 t323.2.2.2.2.2.1 t323.2.2.2.2.2.2.1 t323.2.2.2.2.2.2.2.1 t323.2.2.2.2.2.2.2.2.1 k1 k2)))) (k1 false)))) none) (k2 b257 ns258 l259 n260 n261 n262 n263 n264 n265 n266 b267)) (k2 b257 ns258 l259 n260 n261 n262 n263 n264 n265 n266 b267))
noncomputable def law39_StackPlays_L0 : Nat → Tc0 → Bool → Int → Bool → (List Int) → (List Int) → Int → Int → Int → Int → Int → Int → Int → Bool → (Bool → Option Bool) → (Bool → (List Int) → (List Int) → Int → Int → Int → Int → Int → Int → Int → Bool → Option Bool) → Option Bool
  | 0 => fun _ _ _ _ _ _ _ _ _ _ _ _ _ _ _ _ => none
  | n + 1 => law39_StackPlays_L0.body (law39_StackPlays_L0 n) law39_play law39_told
noncomputable def law39_StackPlays_L0.get (F : Tc0 → Bool → Int → Bool → (List Int) → (List Int) → Int → Int → Int → Int → Int → Int → Int → Bool → (Bool → Option Bool) → (Bool → (List Int) → (List Int) → Int → Int → Int → Int → Int → Int → Int → Bool → Option Bool) → Option Bool) (e : Option Bool) (st : St) (k : KE) : Option Bool := match st with
  | ⟨sl, hp, m⟩ => match Nat.beq m 2, pickS 123 [2, 7, 8, 9, 10, 12] sl, hp with
    | true, some [(.bv 0 47 (.st [(.int .i64), (.int .i64), (.int .i64)]) ts254), (.ptr [1, 0] 0 0), .nilp, (.d ⟨.bool, b255⟩), (.ptr [1, 2] 0 0), (.d ⟨(.int .i64), n256⟩)], [([1, 0], ⟨61, 2, (.mix [(.agg [(.ref [1, 1]), (.d ⟨.bool, b257⟩)])])⟩), ([1, 1], ⟨2, 1, (.data (.int .i64) ns258)⟩), ([1, 2], ⟨42, 9, (.mix [(.agg [(.d ⟨(.sl 2 (.int .i64)), l259⟩), (.d ⟨(.int .i64), n260⟩), (.d ⟨(.int .i64), n261⟩), (.d ⟨(.int .i64), n262⟩), (.d ⟨(.int .i64), n263⟩), (.d ⟨(.int .i64), n264⟩), (.d ⟨(.int .i64), n265⟩), (.d ⟨(.int .i64), n266⟩), (.d ⟨.bool, b267⟩)])])⟩)] => F ts254 b255 n256 b257 ns258 l259 n260 n261 n262 n263 n264 n265 n266 b267 (fun y0 => k .ret ⟨fillS 123 [6] [(.d ⟨.bool, y0⟩)], [], 2⟩) (fun y0 y1 y2 y3 y4 y5 y6 y7 y8 y9 y10 => k (.exit 0) ⟨fillS 123 [7, 10] [(.ptr [1, 0] 0 0), (.ptr [1, 2] 0 0)], [([1, 0], ⟨61, 2, (.mix [(.agg [(.ref [1, 1]), (.d ⟨.bool, y0⟩)])])⟩), ([1, 1], ⟨2, 1, (.data (.int .i64) y1)⟩), ([1, 2], ⟨42, 9, (.mix [(.agg [(.d ⟨(.sl 2 (.int .i64)), y2⟩), (.d ⟨(.int .i64), y3⟩), (.d ⟨(.int .i64), y4⟩), (.d ⟨(.int .i64), y5⟩), (.d ⟨(.int .i64), y6⟩), (.d ⟨(.int .i64), y7⟩), (.d ⟨(.int .i64), y8⟩), (.d ⟨(.int .i64), y9⟩), (.d ⟨.bool, y10⟩)])])⟩)], 2⟩)
    | _, _, _ => e
noncomputable def law39_StackPlays_L0.calls (F0 : Tc1 → (Int × Int × Int × Unit) → (Tc1 → Bool → Option Bool) → Option Bool) (F1 : Tc1 → (Bool → Option Bool) → Option Bool) : RecF := fun g a h k => (law39_play.get F0 (law39_told.get F1 none g a h k) g a h k)
noncomputable def law39_StackPlays_L0.loops : LoopF := fun b => none
set_option maxRecDepth 100000 in
theorem law39_StackPlays_L0.step (S : Tc0 → Bool → Int → Bool → (List Int) → (List Int) → Int → Int → Int → Int → Int → Int → Int → Bool → (Bool → Option Bool) → (Bool → (List Int) → (List Int) → Int → Int → Int → Int → Int → Int → Int → Bool → Option Bool) → Option Bool) (F0 : Tc1 → (Int × Int × Int × Unit) → (Tc1 → Bool → Option Bool) → Option Bool) (F1 : Tc1 → (Bool → Option Bool) → Option Bool) (ts254 : Tc0) (b255 : Bool) (n256 : Int) (b257 : Bool) (ns258 : List Int) (l259 : List Int) (n260 : Int) (n261 : Int) (n262 : Int) (n263 : Int) (n264 : Int) (n265 : Int) (n266 : Int) (b267 : Bool) (k : KE) : execL Try.prog ht 4 (callfOf (law39_StackPlays_L0.calls F0 F1)) (law39_StackPlays_L0.loops) 0 (loopAt 0 (codeOf Try.f4)) ⟨fillS 123 [2, 7, 8, 9, 10, 12] [(.bv 0 47 (.st [(.int .i64), (.int .i64), (.int .i64)]) ts254), (.ptr [1, 0] 0 0), .nilp, (.d ⟨.bool, b255⟩), (.ptr [1, 2] 0 0), (.d ⟨(.int .i64), n256⟩)], [([1, 0], ⟨61, 2, (.mix [(.agg [(.ref [1, 1]), (.d ⟨.bool, b257⟩)])])⟩), ([1, 1], ⟨2, 1, (.data (.int .i64) ns258)⟩), ([1, 2], ⟨42, 9, (.mix [(.agg [(.d ⟨(.sl 2 (.int .i64)), l259⟩), (.d ⟨(.int .i64), n260⟩), (.d ⟨(.int .i64), n261⟩), (.d ⟨(.int .i64), n262⟩), (.d ⟨(.int .i64), n263⟩), (.d ⟨(.int .i64), n264⟩), (.d ⟨(.int .i64), n265⟩), (.d ⟨(.int .i64), n266⟩), (.d ⟨.bool, b267⟩)])])⟩)], 2⟩ (again (law39_StackPlays_L0.get S none) (plan Try.prog (ht 4 0)) k) = law39_StackPlays_L0.body S F0 F1 ts254 b255 n256 b257 ns258 l259 n260 n261 n262 n263 n264 n265 n266 b267 (fun y0 => k .ret ⟨fillS 123 [6] [(.d ⟨.bool, y0⟩)], [], 2⟩) (fun y0 y1 y2 y3 y4 y5 y6 y7 y8 y9 y10 => k (.exit 0) ⟨fillS 123 [7, 10] [(.ptr [1, 0] 0 0), (.ptr [1, 2] 0 0)], [([1, 0], ⟨61, 2, (.mix [(.agg [(.ref [1, 1]), (.d ⟨.bool, y0⟩)])])⟩), ([1, 1], ⟨2, 1, (.data (.int .i64) y1)⟩), ([1, 2], ⟨42, 9, (.mix [(.agg [(.d ⟨(.sl 2 (.int .i64)), y2⟩), (.d ⟨(.int .i64), y3⟩), (.d ⟨(.int .i64), y4⟩), (.d ⟨(.int .i64), y5⟩), (.d ⟨(.int .i64), y6⟩), (.d ⟨(.int .i64), y7⟩), (.d ⟨(.int .i64), y8⟩), (.d ⟨(.int .i64), y9⟩), (.d ⟨.bool, y10⟩)])])⟩)], 2⟩) := by kernel_rfl
theorem law39_StackPlays_L0.ok (d : Nat) (hd : 7 ≤ d) : ∀ n st k, law39_StackPlays_L0.get (law39_StackPlays_L0 n) none st k = some true → iter n (plan Try.prog (ht 4 0)) (fun st k => execK Try.prog ht 4 (callfOf (callK Try.prog ht d)) 0 (loopAt 0 (codeOf Try.f4)) st k) st k = some true :=
  loop_ok (lfn := fun n st k => law39_StackPlays_L0.get (law39_StackPlays_L0 n) none st k) (rec := law39_StackPlays_L0.calls law39_play law39_told) (fun g a h k hx => by
    rcases law39_play.look d (by omega) hx with hx | hx
    rotate_left
    · exact hx
    rcases law39_told.look d (by omega) hx with hx | hx
    rotate_left
    · exact hx
    cases hx) (loopf := law39_StackPlays_L0.loops) (by
    have e : loopsOf (law39_StackPlays_L0.loops) 0 (loopAt 0 (codeOf Try.f4)) = [] := by kernel_rfl
    rw [e]
    intro p hp
    cases hp) (fun st k h => by
    obtain ⟨sl, hp, m⟩ := st
    unfold law39_StackPlays_L0.get at h
    dsimp only at h
    split at h
    · have h' : (none : Option Bool) = some true := h
      cases h'
    · cases h) (fun n st k h => by
    obtain ⟨sl, hp, m⟩ := st
    unfold law39_StackPlays_L0.get at h
    dsimp only at h
    split at h
    · rename_i h1 h2
      obtain rfl := pickS_ok h2
      obtain rfl := Nat.eq_of_beq_eq_true h1
      exact (law39_StackPlays_L0.step (law39_StackPlays_L0 n) law39_play law39_told _ _ _ _ _ _ _ _ _ _ _ _ _ _ k).trans h
    · cases h)
theorem law39_StackPlays_L0.look {F : Tc0 → Bool → Int → Bool → (List Int) → (List Int) → Int → Int → Int → Int → Int → Int → Int → Bool → (Bool → Option Bool) → (Bool → (List Int) → (List Int) → Int → Int → Int → Int → Int → Int → Int → Bool → Option Bool) → Option Bool} {e : Option Bool} {st : St} {k : KE} (hx : law39_StackPlays_L0.get F e st k = some true) : e = some true ∨ law39_StackPlays_L0.get F none st k = some true := by
  obtain ⟨sl, hp, m⟩ := st
  unfold law39_StackPlays_L0.get at hx ⊢
  dsimp only at hx ⊢
  split at hx
  · exact .inr hx
  · exact .inl hx
/-- function 22: (*sheerleg/memory.Memory).Size -/
noncomputable def memory_Memory_Size.body (b364 : Bool) (ns365 : List Int) (k1 : Int → Bool → (List Int) → Option Bool) : Option Bool :=
  (cond_ (! b364) (k1 (0 : Int) b364 ns365) (k1 (((List.length ns365) : Nat) : Int) b364 ns365))
noncomputable def memory_Memory_Size (b364 : Bool) (ns365 : List Int) (k1 : Int → Bool → (List Int) → Option Bool) : Option Bool := memory_Memory_Size.body b364 ns365 k1
noncomputable def memory_Memory_Size.get (F : Bool → (List Int) → (Int → Bool → (List Int) → Option Bool) → Option Bool) (e : Option Bool) (g : FuncId) (a : List AV) (h : Heap) (k : KR) : Option Bool := match g, a, h with
  | 22, [(.ptr [0, 0] 0 0)], [([0, 0], ⟨61, 2, (.mix [(.agg [(.ref [0, 1]), (.d ⟨.bool, b364⟩)])])⟩), ([0, 1], ⟨2, 1, (.data (.int .i64) ns365)⟩)] => F b364 ns365 (fun y0 y1 y2 => k (.d ⟨(.int .i64), y0⟩) [([0, 0], ⟨61, 2, (.mix [(.agg [(.ref [0, 1]), (.d ⟨.bool, y1⟩)])])⟩), ([0, 1], ⟨2, 1, (.data (.int .i64) y2)⟩)])
  | _, _, _ => e
noncomputable def memory_Memory_Size.calls : RecF := fun g a h k => none
noncomputable def memory_Memory_Size.loops : LoopF := fun b => none
set_option maxRecDepth 100000 in
theorem memory_Memory_Size.eq (b364 : Bool) (ns365 : List Int) (k : KR) : execL Try.prog ht 22 (callfOf (memory_Memory_Size.calls)) (memory_Memory_Size.loops) 0 (codeOf Try.f22) ⟨[(.ptr [0, 0] 0 0)] ++ List.replicate (Try.f22.ntmps - ([(.ptr [0, 0] 0 0)] : List AV).length) .undef, [([0, 0], ⟨61, 2, (.mix [(.agg [(.ref [0, 1]), (.d ⟨.bool, b364⟩)])])⟩), ([0, 1], ⟨2, 1, (.data (.int .i64) ns365)⟩)], 2⟩ (leave Try.prog Try.f22 k) = memory_Memory_Size.body b364 ns365 (fun y0 y1 y2 => k (.d ⟨(.int .i64), y0⟩) [([0, 0], ⟨61, 2, (.mix [(.agg [(.ref [0, 1]), (.d ⟨.bool, y1⟩)])])⟩), ([0, 1], ⟨2, 1, (.data (.int .i64) y2)⟩)]) := by kernel_rfl
theorem memory_Memory_Size.ok (d : Nat) (hd : 1 ≤ d) (b364 : Bool) (ns365 : List Int) (k : KR) (hx : memory_Memory_Size b364 ns365 (fun y0 y1 y2 => k (.d ⟨(.int .i64), y0⟩) [([0, 0], ⟨61, 2, (.mix [(.agg [(.ref [0, 1]), (.d ⟨.bool, y1⟩)])])⟩), ([0, 1], ⟨2, 1, (.data (.int .i64) y2)⟩)]) = some true) : callK Try.prog ht d 22 [(.ptr [0, 0] 0 0)] [([0, 0], ⟨61, 2, (.mix [(.agg [(.ref [0, 1]), (.d ⟨.bool, b364⟩)])])⟩), ([0, 1], ⟨2, 1, (.data (.int .i64) ns365)⟩)] k = some true := by
  obtain ⟨d, rfl⟩ : ∃ e, d = e + 1 := ⟨d - 1, by omega⟩
  exact fn_ok (c := codeOf Try.f22) Try.func22 (by kernel_rfl) (rec := memory_Memory_Size.calls) (fun g a h k hx => by
    cases hx) (loopf := memory_Memory_Size.loops) (by
    have e : loopsOf (memory_Memory_Size.loops) 0 (codeOf Try.f22) = [] := by kernel_rfl
    rw [e]
    intro p hp
    cases hp) ((memory_Memory_Size.eq b364 ns365 k).trans hx)
theorem memory_Memory_Size.look (d : Nat) (hd : 1 ≤ d) {e : Option Bool} {g : FuncId} {a : List AV} {h : Heap} {k : KR} (hx : memory_Memory_Size.get memory_Memory_Size e g a h k = some true) : e = some true ∨ callK Try.prog ht d g a h k = some true := by
  unfold memory_Memory_Size.get at hx
  split at hx
  · exact .inr (memory_Memory_Size.ok d hd _ _ _ hx)
  · exact .inl hx
/-- function 47: (*sheerleg/memory.Memory).Load$1 -/
noncomputable def memory_Memory_Loadfn1.body (m369 : Nat) (ns370 : List Int) (n371 : Int) (k1 : (List Int) → Int → Option Bool) : Option Bool :=
  (k1 ns370 (List.getD ns370 m369 (0 : Int)))
noncomputable def memory_Memory_Loadfn1 (m369 : Nat) (ns370 : List Int) (n371 : Int) (k1 : (List Int) → Int → Option Bool) : Option Bool := memory_Memory_Loadfn1.body m369 ns370 n371 k1
noncomputable def memory_Memory_Loadfn1.get (F : Nat → (List Int) → Int → ((List Int) → Int → Option Bool) → Option Bool) (e : Option Bool) (g : FuncId) (a : List AV) (h : Heap) (k : KR) : Option Bool := match g, a, h with
  | 47, [(.ptr [0, 0] m369 0), (.ptr [0, 1] 0 0)], [([0, 0], ⟨2, 1, (.data (.int .i64) ns370)⟩), ([0, 1], ⟨2, 1, (.data (.int .i64) [n371])⟩)] => F m369 ns370 n371 (fun y0 y1 => k (.tup []) [([0, 0], ⟨2, 1, (.data (.int .i64) y0)⟩), ([0, 1], ⟨2, 1, (.data (.int .i64) [y1])⟩)])
  | _, _, _ => e
noncomputable def memory_Memory_Loadfn1.calls : RecF := fun g a h k => none
noncomputable def memory_Memory_Loadfn1.loops : LoopF := fun b => none
set_option maxRecDepth 100000 in
theorem memory_Memory_Loadfn1.eq (m369 : Nat) (ns370 : List Int) (n371 : Int) (k : KR) : execL Try.prog ht 47 (callfOf (memory_Memory_Loadfn1.calls)) (memory_Memory_Loadfn1.loops) 0 (codeOf Try.f47) ⟨[(.ptr [0, 0] m369 0), (.ptr [0, 1] 0 0)] ++ List.replicate (Try.f47.ntmps - ([(.ptr [0, 0] m369 0), (.ptr [0, 1] 0 0)] : List AV).length) .undef, [([0, 0], ⟨2, 1, (.data (.int .i64) ns370)⟩), ([0, 1], ⟨2, 1, (.data (.int .i64) [n371])⟩)], 2⟩ (leave Try.prog Try.f47 k) = memory_Memory_Loadfn1.body m369 ns370 n371 (fun y0 y1 => k (.tup []) [([0, 0], ⟨2, 1, (.data (.int .i64) y0)⟩), ([0, 1], ⟨2, 1, (.data (.int .i64) [y1])⟩)]) := by kernel_rfl
theorem memory_Memory_Loadfn1.ok (d : Nat) (hd : 1 ≤ d) (m369 : Nat) (ns370 : List Int) (n371 : Int) (k : KR) (hx : memory_Memory_Loadfn1 m369 ns370 n371 (fun y0 y1 => k (.tup []) [([0, 0], ⟨2, 1, (.data (.int .i64) y0)⟩), ([0, 1], ⟨2, 1, (.data (.int .i64) [y1])⟩)]) = some true) : callK Try.prog ht d 47 [(.ptr [0, 0] m369 0), (.ptr [0, 1] 0 0)] [([0, 0], ⟨2, 1, (.data (.int .i64) ns370)⟩), ([0, 1], ⟨2, 1, (.data (.int .i64) [n371])⟩)] k = some true := by
  obtain ⟨d, rfl⟩ : ∃ e, d = e + 1 := ⟨d - 1, by omega⟩
  exact fn_ok (c := codeOf Try.f47) Try.func47 (by kernel_rfl) (rec := memory_Memory_Loadfn1.calls) (fun g a h k hx => by
    cases hx) (loopf := memory_Memory_Loadfn1.loops) (by
    have e : loopsOf (memory_Memory_Loadfn1.loops) 0 (codeOf Try.f47) = [] := by kernel_rfl
    rw [e]
    intro p hp
    cases hp) ((memory_Memory_Loadfn1.eq m369 ns370 n371 k).trans hx)
theorem memory_Memory_Loadfn1.look (d : Nat) (hd : 1 ≤ d) {e : Option Bool} {g : FuncId} {a : List AV} {h : Heap} {k : KR} (hx : memory_Memory_Loadfn1.get memory_Memory_Loadfn1 e g a h k = some true) : e = some true ∨ callK Try.prog ht d g a h k = some true := by
  unfold memory_Memory_Loadfn1.get at hx
  split at hx
  · exact .inr (memory_Memory_Loadfn1.ok d hd _ _ _ _ hx)
  · exact .inl hx
/-- function 46: (*sheerleg/memory.Memory).at -/
noncomputable def memory_Memory_at.body (memory_Memory_Size : Bool → (List Int) → (Int → Bool → (List Int) → Option Bool) → Option Bool) (memory_Memory_Loadfn1 : Nat → (List Int) → Int → ((List Int) → Int → Option Bool) → Option Bool) (n360 : Int) (b361 : Bool) (ns362 : List Int) (n363 : Int) (k1 : Bool → Bool → (List Int) → Int → Option Bool) : Option Bool :=
  (cond_ (! (decide (n360 < (0 : Int)))) (memory_Memory_Size b361 ns362
  (fun n366 b367 ns368 => (cond_ (decide (n360 ≥ n366)) (k1 false b367 ns368 n363) (cond_ ((decide ((0 : Int) ≤ n360)) && (decide (n360 < (((List.length ns368) : Nat) : Int)))) (memory_Memory_Loadfn1 (Int.toNat n360) ns368 n363
  (fun ns372 n373 => (k1 true b367 ns372 n373))) none)))) (k1 false b361 ns362 n363))
noncomputable def memory_Memory_at (n360 : Int) (b361 : Bool) (ns362 : List Int) (n363 : Int) (k1 : Bool → Bool → (List Int) → Int → Option Bool) : Option Bool := memory_Memory_at.body memory_Memory_Size memory_Memory_Loadfn1 n360 b361 ns362 n363 k1
noncomputable def memory_Memory_at.get (F : Int → Bool → (List Int) → Int → (Bool → Bool → (List Int) → Int → Option Bool) → Option Bool) (e : Option Bool) (g : FuncId) (a : List AV) (h : Heap) (k : KR) : Option Bool := match g, a, h with
  | 46, [(.ptr [0, 0] 0 0), (.d ⟨(.int .i64), n360⟩), (.fn (.func 47) [] [(.ptr [0, 2] 0 0)])], [([0, 0], ⟨61, 2, (.mix [(.agg [(.ref [0, 1]), (.d ⟨.bool, b361⟩)])])⟩), ([0, 1], ⟨2, 1, (.data (.int .i64) ns362)⟩), ([0, 2], ⟨2, 1, (.data (.int .i64) [n363])⟩)] => F n360 b361 ns362 n363 (fun y0 y1 y2 y3 => k (.d ⟨.bool, y0⟩) [([0, 0], ⟨61, 2, (.mix [(.agg [(.ref [0, 1]), (.d ⟨.bool, y1⟩)])])⟩), ([0, 1], ⟨2, 1, (.data (.int .i64) y2)⟩), ([0, 2], ⟨2, 1, (.data (.int .i64) [y3])⟩)])
  | _, _, _ => e
noncomputable def memory_Memory_at.calls (F0 : Bool → (List Int) → (Int → Bool → (List Int) → Option Bool) → Option Bool) (F1 : Nat → (List Int) → Int → ((List Int) → Int → Option Bool) → Option Bool) : RecF := fun g a h k => (memory_Memory_Size.get F0 (memory_Memory_Loadfn1.get F1 none g a h k) g a h k)
noncomputable def memory_Memory_at.loops : LoopF := fun b => none
set_option maxRecDepth 100000 in
theorem memory_Memory_at.eq (F0 : Bool → (List Int) → (Int → Bool → (List Int) → Option Bool) → Option Bool) (F1 : Nat → (List Int) → Int → ((List Int) → Int → Option Bool) → Option Bool) (n360 : Int) (b361 : Bool) (ns362 : List Int) (n363 : Int) (k : KR) : execL Try.prog ht 46 (callfOf (memory_Memory_at.calls F0 F1)) (memory_Memory_at.loops) 0 (codeOf Try.f46) ⟨[(.ptr [0, 0] 0 0), (.d ⟨(.int .i64), n360⟩), (.fn (.func 47) [] [(.ptr [0, 2] 0 0)])] ++ List.replicate (Try.f46.ntmps - ([(.ptr [0, 0] 0 0), (.d ⟨(.int .i64), n360⟩), (.fn (.func 47) [] [(.ptr [0, 2] 0 0)])] : List AV).length) .undef, [([0, 0], ⟨61, 2, (.mix [(.agg [(.ref [0, 1]), (.d ⟨.bool, b361⟩)])])⟩), ([0, 1], ⟨2, 1, (.data (.int .i64) ns362)⟩), ([0, 2], ⟨2, 1, (.data (.int .i64) [n363])⟩)], 2⟩ (leave Try.prog Try.f46 k) = memory_Memory_at.body F0 F1 n360 b361 ns362 n363 (fun y0 y1 y2 y3 => k (.d ⟨.bool, y0⟩) [([0, 0], ⟨61, 2, (.mix [(.agg [(.ref [0, 1]), (.d ⟨.bool, y1⟩)])])⟩), ([0, 1], ⟨2, 1, (.data (.int .i64) y2)⟩), ([0, 2], ⟨2, 1, (.data (.int .i64) [y3])⟩)]) := by kernel_rfl
theorem memory_Memory_at.ok (d : Nat) (hd : 2 ≤ d) (n360 : Int) (b361 : Bool) (ns362 : List Int) (n363 : Int) (k : KR) (hx : memory_Memory_at n360 b361 ns362 n363 (fun y0 y1 y2 y3 => k (.d ⟨.bool, y0⟩) [([0, 0], ⟨61, 2, (.mix [(.agg [(.ref [0, 1]), (.d ⟨.bool, y1⟩)])])⟩), ([0, 1], ⟨2, 1, (.data (.int .i64) y2)⟩), ([0, 2], ⟨2, 1, (.data (.int .i64) [y3])⟩)]) = some true) : callK Try.prog ht d 46 [(.ptr [0, 0] 0 0), (.d ⟨(.int .i64), n360⟩), (.fn (.func 47) [] [(.ptr [0, 2] 0 0)])] [([0, 0], ⟨61, 2, (.mix [(.agg [(.ref [0, 1]), (.d ⟨.bool, b361⟩)])])⟩), ([0, 1], ⟨2, 1, (.data (.int .i64) ns362)⟩), ([0, 2], ⟨2, 1, (.data (.int .i64) [n363])⟩)] k = some true := by
  obtain ⟨d, rfl⟩ : ∃ e, d = e + 1 := ⟨d - 1, by omega⟩
  exact fn_ok (c := codeOf Try.f46) Try.func46 (by kernel_rfl) (rec := memory_Memory_at.calls memory_Memory_Size memory_Memory_Loadfn1) (fun g a h k hx => by
    rcases memory_Memory_Size.look d (by omega) hx with hx | hx
    rotate_left
    · exact hx
    rcases memory_Memory_Loadfn1.look d (by omega) hx with hx | hx
    rotate_left
    · exact hx
    cases hx) (loopf := memory_Memory_at.loops) (by
    have e : loopsOf (memory_Memory_at.loops) 0 (codeOf Try.f46) = [] := by kernel_rfl
    rw [e]
    intro p hp
    cases hp) ((memory_Memory_at.eq memory_Memory_Size memory_Memory_Loadfn1 n360 b361 ns362 n363 k).trans hx)
theorem memory_Memory_at.look (d : Nat) (hd : 2 ≤ d) {e : Option Bool} {g : FuncId} {a : List AV} {h : Heap} {k : KR} (hx : memory_Memory_at.get memory_Memory_at e g a h k = some true) : e = some true ∨ callK Try.prog ht d g a h k = some true := by
  unfold memory_Memory_at.get at hx
  split at hx
  · exact .inr (memory_Memory_at.ok d hd _ _ _ _ _ hx)
  · exact .inl hx
/-- function 20: (*sheerleg/memory.Memory).Load -/
noncomputable def memory_Memory_Load.body (memory_Memory_at : Int → Bool → (List Int) → Int → (Bool → Bool → (List Int) → Int → Option Bool) → Option Bool) (n357 : Int) (b358 : Bool) (ns359 : List Int) (k1 : Int → Bool → Bool → (List Int) → Option Bool) : Option Bool :=
  (memory_Memory_at n357 b358 ns359 (0 : Int)
  (fun b374 b375 ns376 n377 => (k1 n377 b374 b375 ns376)))
noncomputable def memory_Memory_Load (n357 : Int) (b358 : Bool) (ns359 : List Int) (k1 : Int → Bool → Bool → (List Int) → Option Bool) : Option Bool := memory_Memory_Load.body memory_Memory_at n357 b358 ns359 k1
noncomputable def memory_Memory_Load.get (F : Int → Bool → (List Int) → (Int → Bool → Bool → (List Int) → Option Bool) → Option Bool) (e : Option Bool) (g : FuncId) (a : List AV) (h : Heap) (k : KR) : Option Bool := match g, a, h with
  | 20, [(.ptr [0, 0] 0 0), (.d ⟨(.int .i64), n357⟩)], [([0, 0], ⟨61, 2, (.mix [(.agg [(.ref [0, 1]), (.d ⟨.bool, b358⟩)])])⟩), ([0, 1], ⟨2, 1, (.data (.int .i64) ns359)⟩)] => F n357 b358 ns359 (fun y0 y1 y2 y3 => k (.tup [(.d ⟨(.int .i64), y0⟩), (.d ⟨.bool, y1⟩)]) [([0, 0], ⟨61, 2, (.mix [(.agg [(.ref [0, 1]), (.d ⟨.bool, y2⟩)])])⟩), ([0, 1], ⟨2, 1, (.data (.int .i64) y3)⟩)])
  | _, _, _ => e
noncomputable def memory_Memory_Load.calls (F0 : Int → Bool → (List Int) → Int → (Bool → Bool → (List Int) → Int → Option Bool) → Option Bool) : RecF := fun g a h k => (memory_Memory_at.get F0 none g a h k)
noncomputable def memory_Memory_Load.loops : LoopF := fun b => none
set_option maxRecDepth 100000 in
theorem memory_Memory_Load.eq (F0 : Int → Bool → (List Int) → Int → (Bool → Bool → (List Int) → Int → Option Bool) → Option Bool) (n357 : Int) (b358 : Bool) (ns359 : List Int) (k : KR) : execL Try.prog ht 20 (callfOf (memory_Memory_Load.calls F0)) (memory_Memory_Load.loops) 0 (codeOf Try.f20) ⟨[(.ptr [0, 0] 0 0), (.d ⟨(.int .i64), n357⟩)] ++ List.replicate (Try.f20.ntmps - ([(.ptr [0, 0] 0 0), (.d ⟨(.int .i64), n357⟩)] : List AV).length) .undef, [([0, 0], ⟨61, 2, (.mix [(.agg [(.ref [0, 1]), (.d ⟨.bool, b358⟩)])])⟩), ([0, 1], ⟨2, 1, (.data (.int .i64) ns359)⟩)], 2⟩ (leave Try.prog Try.f20 k) = memory_Memory_Load.body F0 n357 b358 ns359 (fun y0 y1 y2 y3 => k (.tup [(.d ⟨(.int .i64), y0⟩), (.d ⟨.bool, y1⟩)]) [([0, 0], ⟨61, 2, (.mix [(.agg [(.ref [0, 1]), (.d ⟨.bool, y2⟩)])])⟩), ([0, 1], ⟨2, 1, (.data (.int .i64) y3)⟩)]) := by kernel_rfl
theorem memory_Memory_Load.ok (d : Nat) (hd : 3 ≤ d) (n357 : Int) (b358 : Bool) (ns359 : List Int) (k : KR) (hx : memory_Memory_Load n357 b358 ns359 (fun y0 y1 y2 y3 => k (.tup [(.d ⟨(.int .i64), y0⟩), (.d ⟨.bool, y1⟩)]) [([0, 0], ⟨61, 2, (.mix [(.agg [(.ref [0, 1]), (.d ⟨.bool, y2⟩)])])⟩), ([0, 1], ⟨2, 1, (.data (.int .i64) y3)⟩)]) = some true) : callK Try.prog ht d 20 [(.ptr [0, 0] 0 0), (.d ⟨(.int .i64), n357⟩)] [([0, 0], ⟨61, 2, (.mix [(.agg [(.ref [0, 1]), (.d ⟨.bool, b358⟩)])])⟩), ([0, 1], ⟨2, 1, (.data (.int .i64) ns359)⟩)] k = some true := by
  obtain ⟨d, rfl⟩ : ∃ e, d = e + 1 := ⟨d - 1, by omega⟩
  exact fn_ok (c := codeOf Try.f20) Try.func20 (by kernel_rfl) (rec := memory_Memory_Load.calls memory_Memory_at) (fun g a h k hx => by
    rcases memory_Memory_at.look d (by omega) hx with hx | hx
    rotate_left
    · exact hx
    cases hx) (loopf := memory_Memory_Load.loops) (by
    have e : loopsOf (memory_Memory_Load.loops) 0 (codeOf Try.f20) = [] := by kernel_rfl
    rw [e]
    intro p hp
    cases hp) ((memory_Memory_Load.eq memory_Memory_at n357 b358 ns359 k).trans hx)
theorem memory_Memory_Load.look (d : Nat) (hd : 3 ≤ d) {e : Option Bool} {g : FuncId} {a : List AV} {h : Heap} {k : KR} (hx : memory_Memory_Load.get memory_Memory_Load e g a h k = some true) : e = some true ∨ callK Try.prog ht d g a h k = some true := by
  unfold memory_Memory_Load.get at hx
  split at hx
  · exact .inr (memory_Memory_Load.ok d hd _ _ _ _ hx)
  · exact .inl hx
/-- function 4: the loop in block 2 -/
noncomputable def law39_StackPlays_L2.body (law39_StackPlays_L2 : Int → Bool → (List Int) → (List Int) → Int → Int → Int → Int → Int → Int → Int → Bool → (Bool → Option Bool) → (Bool → (List Int) → (List Int) → Int → Int → Int → Int → Int → Int → Int → Bool → Option Bool) → Option Bool) (memory_Memory_Load : Int → Bool → (List Int) → (Int → Bool → Bool → (List Int) → Option Bool) → Option Bool) (ref38_Load : (List Int) → Int → (Int → Bool → Option Bool) → Option Bool) (n345 : Int) (b346 : Bool) (ns347 : List Int) (l348 : List Int) (n349 : Int) (n350 : Int) (n351 : Int) (n352 : Int) (n353 : Int) (n354 : Int) (n355 : Int) (b356 : Bool) (k1 : Bool → Option Bool) (k2 : Bool → (List Int) → (List Int) → Int → Int → Int → Int → Int → Int → Int → Bool → Option Bool) : Option Bool :=
  (cond_ (decide (n345 ≤ (((List.length l348) : Nat) : Int))) (memory_Memory_Load n345 b346 ns347
  (fun n378 b379 b380 ns381 => (ref38_Load l348 n345
  (fun n382 b383 => (cond_ (! (n378 != n382)) (cond_ (! (b379 == b383)) (k1 false) (law39_StackPlays_L2 (IntKind.wrap .i64 (n345 + (1 : Int))) b380 ns381 l348 n349 n350 n351 n352 n353 n354 n355 b356 k1 k2)) (k1 false)))))) (k2 b346 ns347 l348 n349 n350 n351 n352 n353 n354 n355 b356))
noncomputable def law39_StackPlays_L2 : Nat → Int → Bool → (List Int) → (List Int) → Int → Int → Int → Int → Int → Int → Int → Bool → (Bool → Option Bool) → (Bool → (List Int) → (List Int) → Int → Int → Int → Int → Int → Int → Int → Bool → Option Bool) → Option Bool
  | 0 => fun _ _ _ _ _ _ _ _ _ _ _ _ _ _ => none
  | n + 1 => law39_StackPlays_L2.body (law39_StackPlays_L2 n) memory_Memory_Load ref38_Load
noncomputable def law39_StackPlays_L2.get (F : Int → Bool → (List Int) → (List Int) → Int → Int → Int → Int → Int → Int → Int → Bool → (Bool → Option Bool) → (Bool → (List Int) → (List Int) → Int → Int → Int → Int → Int → Int → Int → Bool → Option Bool) → Option Bool) (e : Option Bool) (st : St) (k : KE) : Option Bool := match st with
  | ⟨sl, hp, m⟩ => match Nat.beq m 2, pickS 123 [7, 10, 15] sl, hp with
    | true, some [(.ptr [1, 0] 0 0), (.ptr [1, 2] 0 0), (.d ⟨(.int .i64), n345⟩)], [([1, 0], ⟨61, 2, (.mix [(.agg [(.ref [1, 1]), (.d ⟨.bool, b346⟩)])])⟩), ([1, 1], ⟨2, 1, (.data (.int .i64) ns347)⟩), ([1, 2], ⟨42, 9, (.mix [(.agg [(.d ⟨(.sl 2 (.int .i64)), l348⟩), (.d ⟨(.int .i64), n349⟩), (.d ⟨(.int .i64), n350⟩), (.d ⟨(.int .i64), n351⟩), (.d ⟨(.int .i64), n352⟩), (.d ⟨(.int .i64), n353⟩), (.d ⟨(.int .i64), n354⟩), (.d ⟨(.int .i64), n355⟩), (.d ⟨.bool, b356⟩)])])⟩)] => F n345 b346 ns347 l348 n349 n350 n351 n352 n353 n354 n355 b356 (fun y0 => k .ret ⟨fillS 123 [6] [(.d ⟨.bool, y0⟩)], [], 2⟩) (fun y0 y1 y2 y3 y4 y5 y6 y7 y8 y9 y10 => k (.exit 2) ⟨fillS 123 [7, 10] [(.ptr [1, 0] 0 0), (.ptr [1, 2] 0 0)], [([1, 0], ⟨61, 2, (.mix [(.agg [(.ref [1, 1]), (.d ⟨.bool, y0⟩)])])⟩), ([1, 1], ⟨2, 1, (.data (.int .i64) y1)⟩), ([1, 2], ⟨42, 9, (.mix [(.agg [(.d ⟨(.sl 2 (.int .i64)), y2⟩), (.d ⟨(.int .i64), y3⟩), (.d ⟨(.int .i64), y4⟩), (.d ⟨(.int .i64), y5⟩), (.d ⟨(.int .i64), y6⟩), (.d ⟨(.int .i64), y7⟩), (.d ⟨(.int .i64), y8⟩), (.d ⟨(.int .i64), y9⟩), (.d ⟨.bool, y10⟩)])])⟩)], 2⟩)
    | _, _, _ => e
noncomputable def law39_StackPlays_L2.calls (F0 : Int → Bool → (List Int) → (Int → Bool → Bool → (List Int) → Option Bool) → Option Bool) (F1 : (List Int) → Int → (Int → Bool → Option Bool) → Option Bool) : RecF := fun g a h k => (memory_Memory_Load.get F0 (ref38_Load.get F1 none g a h k) g a h k)
noncomputable def law39_StackPlays_L2.loops : LoopF := fun b => none
set_option maxRecDepth 100000 in
theorem law39_StackPlays_L2.step (S : Int → Bool → (List Int) → (List Int) → Int → Int → Int → Int → Int → Int → Int → Bool → (Bool → Option Bool) → (Bool → (List Int) → (List Int) → Int → Int → Int → Int → Int → Int → Int → Bool → Option Bool) → Option Bool) (F0 : Int → Bool → (List Int) → (Int → Bool → Bool → (List Int) → Option Bool) → Option Bool) (F1 : (List Int) → Int → (Int → Bool → Option Bool) → Option Bool) (n345 : Int) (b346 : Bool) (ns347 : List Int) (l348 : List Int) (n349 : Int) (n350 : Int) (n351 : Int) (n352 : Int) (n353 : Int) (n354 : Int) (n355 : Int) (b356 : Bool) (k : KE) : execL Try.prog ht 4 (callfOf (law39_StackPlays_L2.calls F0 F1)) (law39_StackPlays_L2.loops) 2 (loopAt 2 (codeOf Try.f4)) ⟨fillS 123 [7, 10, 15] [(.ptr [1, 0] 0 0), (.ptr [1, 2] 0 0), (.d ⟨(.int .i64), n345⟩)], [([1, 0], ⟨61, 2, (.mix [(.agg [(.ref [1, 1]), (.d ⟨.bool, b346⟩)])])⟩), ([1, 1], ⟨2, 1, (.data (.int .i64) ns347)⟩), ([1, 2], ⟨42, 9, (.mix [(.agg [(.d ⟨(.sl 2 (.int .i64)), l348⟩), (.d ⟨(.int .i64), n349⟩), (.d ⟨(.int .i64), n350⟩), (.d ⟨(.int .i64), n351⟩), (.d ⟨(.int .i64), n352⟩), (.d ⟨(.int .i64), n353⟩), (.d ⟨(.int .i64), n354⟩), (.d ⟨(.int .i64), n355⟩), (.d ⟨.bool, b356⟩)])])⟩)], 2⟩ (again (law39_StackPlays_L2.get S none) (plan Try.prog (ht 4 2)) k) = law39_StackPlays_L2.body S F0 F1 n345 b346 ns347 l348 n349 n350 n351 n352 n353 n354 n355 b356 (fun y0 => k .ret ⟨fillS 123 [6] [(.d ⟨.bool, y0⟩)], [], 2⟩) (fun y0 y1 y2 y3 y4 y5 y6 y7 y8 y9 y10 => k (.exit 2) ⟨fillS 123 [7, 10] [(.ptr [1, 0] 0 0), (.ptr [1, 2] 0 0)], [([1, 0], ⟨61, 2, (.mix [(.agg [(.ref [1, 1]), (.d ⟨.bool, y0⟩)])])⟩), ([1, 1], ⟨2, 1, (.data (.int .i64) y1)⟩), ([1, 2], ⟨42, 9, (.mix [(.agg [(.d ⟨(.sl 2 (.int .i64)), y2⟩), (.d ⟨(.int .i64), y3⟩), (.d ⟨(.int .i64), y4⟩), (.d ⟨(.int .i64), y5⟩), (.d ⟨(.int .i64), y6⟩), (.d ⟨(.int .i64), y7⟩), (.d ⟨(.int .i64), y8⟩), (.d ⟨(.int .i64), y9⟩), (.d ⟨.bool, y10⟩)])])⟩)], 2⟩) := by kernel_rfl
theorem law39_StackPlays_L2.ok (d : Nat) (hd : 3 ≤ d) : ∀ n st k, law39_StackPlays_L2.get (law39_StackPlays_L2 n) none st k = some true → iter n (plan Try.prog (ht 4 2)) (fun st k => execK Try.prog ht 4 (callfOf (callK Try.prog ht d)) 2 (loopAt 2 (codeOf Try.f4)) st k) st k = some true :=
  loop_ok (lfn := fun n st k => law39_StackPlays_L2.get (law39_StackPlays_L2 n) none st k) (rec := law39_StackPlays_L2.calls memory_Memory_Load ref38_Load) (fun g a h k hx => by
    rcases memory_Memory_Load.look d (by omega) hx with hx | hx
    rotate_left
    · exact hx
    rcases ref38_Load.look d (by omega) hx with hx | hx
    rotate_left
    · exact hx
    cases hx) (loopf := law39_StackPlays_L2.loops) (by
    have e : loopsOf (law39_StackPlays_L2.loops) 2 (loopAt 2 (codeOf Try.f4)) = [] := by kernel_rfl
    rw [e]
    intro p hp
    cases hp) (fun st k h => by
    obtain ⟨sl, hp, m⟩ := st
    unfold law39_StackPlays_L2.get at h
    dsimp only at h
    split at h
    · have h' : (none : Option Bool) = some true := h
      cases h'
    · cases h) (fun n st k h => by
    obtain ⟨sl, hp, m⟩ := st
    unfold law39_StackPlays_L2.get at h
    dsimp only at h
    split at h
    · rename_i h1 h2
      obtain rfl := pickS_ok h2
      obtain rfl := Nat.eq_of_beq_eq_true h1
      exact (law39_StackPlays_L2.step (law39_StackPlays_L2 n) memory_Memory_Load ref38_Load _ _ _ _ _ _ _ _ _ _ _ _ k).trans h
    · cases h)
theorem law39_StackPlays_L2.look {F : Int → Bool → (List Int) → (List Int) → Int → Int → Int → Int → Int → Int → Int → Bool → (Bool → Option Bool) → (Bool → (List Int) → (List Int) → Int → Int → Int → Int → Int → Int → Int → Bool → Option Bool) → Option Bool} {e : Option Bool} {st : St} {k : KE} (hx : law39_StackPlays_L2.get F e st k = some true) : e = some true ∨ law39_StackPlays_L2.get F none st k = some true := by
  obtain ⟨sl, hp, m⟩ := st
  unfold law39_StackPlays_L2.get at hx ⊢
  dsimp only at hx ⊢
  split at hx
  · exact .inr hx
  · exact .inl hx
/-- function 34: (*sheerleg/stack.Stack).live -/
noncomputable def stack_Stack_livev1.body (n503 : Int) (n504 : Int) (n505 : Int) (n506 : Int) (n507 : Int) (n508 : Int) (n509 : Int) (b510 : Bool) (ns511 : List Int) (k1 : Bool → Int → Int → Int → Int → Int → Int → Int → Bool → (List Int) → Option Bool) : Option Bool :=
  (k1 true n503 n504 n505 n506 n507 n508 n509 b510 ns511)
noncomputable def stack_Stack_livev1 (n503 : Int) (n504 : Int) (n505 : Int) (n506 : Int) (n507 : Int) (n508 : Int) (n509 : Int) (b510 : Bool) (ns511 : List Int) (k1 : Bool → Int → Int → Int → Int → Int → Int → Int → Bool → (List Int) → Option Bool) : Option Bool := stack_Stack_livev1.body n503 n504 n505 n506 n507 n508 n509 b510 ns511 k1
noncomputable def stack_Stack_livev1.get (F : Int → Int → Int → Int → Int → Int → Int → Bool → (List Int) → (Bool → Int → Int → Int → Int → Int → Int → Int → Bool → (List Int) → Option Bool) → Option Bool) (e : Option Bool) (g : FuncId) (a : List AV) (h : Heap) (k : KR) : Option Bool := match g, a, h with
  | 34, [(.ptr [0, 0] 0 0)], [([0, 0], ⟨53, 8, (.mix [(.agg [(.ptr [0, 1] 0 0), (.d ⟨(.int .i64), n503⟩), (.d ⟨(.int .i64), n504⟩), (.d ⟨(.int .i64), n505⟩), (.d ⟨(.int .i64), n506⟩), (.d ⟨(.int .i64), n507⟩), (.d ⟨(.int .i64), n508⟩), (.d ⟨(.int .i64), n509⟩)])])⟩), ([0, 1], ⟨61, 2, (.mix [(.agg [(.ref [0, 2]), (.d ⟨.bool, b510⟩)])])⟩), ([0, 2], ⟨2, 1, (.data (.int .i64) ns511)⟩)] => F n503 n504 n505 n506 n507 n508 n509 b510 ns511 (fun y0 y1 y2 y3 y4 y5 y6 y7 y8 y9 => k (.d ⟨.bool, y0⟩) [([0, 0], ⟨53, 8, (.mix [(.agg [(.ptr [0, 1] 0 0), (.d ⟨(.int .i64), y1⟩), (.d ⟨(.int .i64), y2⟩), (.d ⟨(.int .i64), y3⟩), (.d ⟨(.int .i64), y4⟩), (.d ⟨(.int .i64), y5⟩), (.d ⟨(.int .i64), y6⟩), (.d ⟨(.int .i64), y7⟩)])])⟩), ([0, 1], ⟨61, 2, (.mix [(.agg [(.ref [0, 2]), (.d ⟨.bool, y8⟩)])])⟩), ([0, 2], ⟨2, 1, (.data (.int .i64) y9)⟩)])
  | _, _, _ => e
noncomputable def stack_Stack_livev1.calls : RecF := fun g a h k => none
noncomputable def stack_Stack_livev1.loops : LoopF := fun b => none
set_option maxRecDepth 100000 in
theorem stack_Stack_livev1.eq (n503 : Int) (n504 : Int) (n505 : Int) (n506 : Int) (n507 : Int) (n508 : Int) (n509 : Int) (b510 : Bool) (ns511 : List Int) (k : KR) : execL Try.prog ht 34 (callfOf (stack_Stack_livev1.calls)) (stack_Stack_livev1.loops) 0 (codeOf Try.f34) ⟨[(.ptr [0, 0] 0 0)] ++ List.replicate (Try.f34.ntmps - ([(.ptr [0, 0] 0 0)] : List AV).length) .undef, [([0, 0], ⟨53, 8, (.mix [(.agg [(.ptr [0, 1] 0 0), (.d ⟨(.int .i64), n503⟩), (.d ⟨(.int .i64), n504⟩), (.d ⟨(.int .i64), n505⟩), (.d ⟨(.int .i64), n506⟩), (.d ⟨(.int .i64), n507⟩), (.d ⟨(.int .i64), n508⟩), (.d ⟨(.int .i64), n509⟩)])])⟩), ([0, 1], ⟨61, 2, (.mix [(.agg [(.ref [0, 2]), (.d ⟨.bool, b510⟩)])])⟩), ([0, 2], ⟨2, 1, (.data (.int .i64) ns511)⟩)], 2⟩ (leave Try.prog Try.f34 k) = stack_Stack_livev1.body n503 n504 n505 n506 n507 n508 n509 b510 ns511 (fun y0 y1 y2 y3 y4 y5 y6 y7 y8 y9 => k (.d ⟨.bool, y0⟩) [([0, 0], ⟨53, 8, (.mix [(.agg [(.ptr [0, 1] 0 0), (.d ⟨(.int .i64), y1⟩), (.d ⟨(.int .i64), y2⟩), (.d ⟨(.int .i64), y3⟩), (.d ⟨(.int .i64), y4⟩), (.d ⟨(.int .i64), y5⟩), (.d ⟨(.int .i64), y6⟩), (.d ⟨(.int .i64), y7⟩)])])⟩), ([0, 1], ⟨61, 2, (.mix [(.agg [(.ref [0, 2]), (.d ⟨.bool, y8⟩)])])⟩), ([0, 2], ⟨2, 1, (.data (.int .i64) y9)⟩)]) := by kernel_rfl
theorem stack_Stack_livev1.ok (d : Nat) (hd : 1 ≤ d) (n503 : Int) (n504 : Int) (n505 : Int) (n506 : Int) (n507 : Int) (n508 : Int) (n509 : Int) (b510 : Bool) (ns511 : List Int) (k : KR) (hx : stack_Stack_livev1 n503 n504 n505 n506 n507 n508 n509 b510 ns511 (fun y0 y1 y2 y3 y4 y5 y6 y7 y8 y9 => k (.d ⟨.bool, y0⟩) [([0, 0], ⟨53, 8, (.mix [(.agg [(.ptr [0, 1] 0 0), (.d ⟨(.int .i64), y1⟩), (.d ⟨(.int .i64), y2⟩), (.d ⟨(.int .i64), y3⟩), (.d ⟨(.int .i64), y4⟩), (.d ⟨(.int .i64), y5⟩), (.d ⟨(.int .i64), y6⟩), (.d ⟨(.int .i64), y7⟩)])])⟩), ([0, 1], ⟨61, 2, (.mix [(.agg [(.ref [0, 2]), (.d ⟨.bool, y8⟩)])])⟩), ([0, 2], ⟨2, 1, (.data (.int .i64) y9)⟩)]) = some true) : callK Try.prog ht d 34 [(.ptr [0, 0] 0 0)] [([0, 0], ⟨53, 8, (.mix [(.agg [(.ptr [0, 1] 0 0), (.d ⟨(.int .i64), n503⟩), (.d ⟨(.int .i64), n504⟩), (.d ⟨(.int .i64), n505⟩), (.d ⟨(.int .i64), n506⟩), (.d ⟨(.int .i64), n507⟩), (.d ⟨(.int .i64), n508⟩), (.d ⟨(.int .i64), n509⟩)])])⟩), ([0, 1], ⟨61, 2, (.mix [(.agg [(.ref [0, 2]), (.d ⟨.bool, b510⟩)])])⟩), ([0, 2], ⟨2, 1, (.data (.int .i64) ns511)⟩)] k = some true := by
  obtain ⟨d, rfl⟩ : ∃ e, d = e + 1 := ⟨d - 1, by omega⟩
  exact fn_ok (c := codeOf Try.f34) Try.func34 (by kernel_rfl) (rec := stack_Stack_livev1.calls) (fun g a h k hx => by
    cases hx) (loopf := stack_Stack_livev1.loops) (by
    have e : loopsOf (stack_Stack_livev1.loops) 0 (codeOf Try.f34) = [] := by kernel_rfl
    rw [e]
    intro p hp
    cases hp) ((stack_Stack_livev1.eq n503 n504 n505 n506 n507 n508 n509 b510 ns511 k).trans hx)
theorem stack_Stack_livev1.look (d : Nat) (hd : 1 ≤ d) {e : Option Bool} {g : FuncId} {a : List AV} {h : Heap} {k : KR} (hx : stack_Stack_livev1.get stack_Stack_livev1 e g a h k = some true) : e = some true ∨ callK Try.prog ht d g a h k = some true := by
  unfold stack_Stack_livev1.get at hx
  split at hx
  · exact .inr (stack_Stack_livev1.ok d hd _ _ _ _ _ _ _ _ _ _ hx)
  · exact .inl hx
/-- function 13: (*sheerleg/stack.Stack).SP -/
noncomputable def stack_Stack_SPv1.body (stack_Stack_livev1 : Int → Int → Int → Int → Int → Int → Int → Bool → (List Int) → (Bool → Int → Int → Int → Int → Int → Int → Int → Bool → (List Int) → Option Bool) → Option Bool) (n494 : Int) (n495 : Int) (n496 : Int) (n497 : Int) (n498 : Int) (n499 : Int) (n500 : Int) (b501 : Bool) (ns502 : List Int) (k1 : Int → Int → Int → Int → Int → Int → Int → Int → Bool → (List Int) → Option Bool) : Option Bool :=
  (stack_Stack_livev1 n494 n495 n496 n497 n498 n499 n500 b501 ns502
  (fun b512 n513 n514 n515 n516 n517 n518 n519 b520 ns521 => (cond_ (! b512) (k1 (0 : Int) n513 n514 n515 n516 n517 n518 n519 b520 ns521) (k1 n516 n513 n514 n515 n516 n517 n518 n519 b520 ns521))))
noncomputable def stack_Stack_SPv1 (n494 : Int) (n495 : Int) (n496 : Int) (n497 : Int) (n498 : Int) (n499 : Int) (n500 : Int) (b501 : Bool) (ns502 : List Int) (k1 : Int → Int → Int → Int → Int → Int → Int → Int → Bool → (List Int) → Option Bool) : Option Bool := stack_Stack_SPv1.body stack_Stack_livev1 n494 n495 n496 n497 n498 n499 n500 b501 ns502 k1
noncomputable def stack_Stack_SPv1.get (F : Int → Int → Int → Int → Int → Int → Int → Bool → (List Int) → (Int → Int → Int → Int → Int → Int → Int → Int → Bool → (List Int) → Option Bool) → Option Bool) (e : Option Bool) (g : FuncId) (a : List AV) (h : Heap) (k : KR) : Option Bool := match g, a, h with
  | 13, [(.ptr [0, 0] 0 0)], [([0, 0], ⟨53, 8, (.mix [(.agg [(.ptr [0, 1] 0 0), (.d ⟨(.int .i64), n494⟩), (.d ⟨(.int .i64), n495⟩), (.d ⟨(.int .i64), n496⟩), (.d ⟨(.int .i64), n497⟩), (.d ⟨(.int .i64), n498⟩), (.d ⟨(.int .i64), n499⟩), (.d ⟨(.int .i64), n500⟩)])])⟩), ([0, 1], ⟨61, 2, (.mix [(.agg [(.ref [0, 2]), (.d ⟨.bool, b501⟩)])])⟩), ([0, 2], ⟨2, 1, (.data (.int .i64) ns502)⟩)] => F n494 n495 n496 n497 n498 n499 n500 b501 ns502 (fun y0 y1 y2 y3 y4 y5 y6 y7 y8 y9 => k (.d ⟨(.int .i64), y0⟩) [([0, 0], ⟨53, 8, (.mix [(.agg [(.ptr [0, 1] 0 0), (.d ⟨(.int .i64), y1⟩), (.d ⟨(.int .i64), y2⟩), (.d ⟨(.int .i64), y3⟩), (.d ⟨(.int .i64), y4⟩), (.d ⟨(.int .i64), y5⟩), (.d ⟨(.int .i64), y6⟩), (.d ⟨(.int .i64), y7⟩)])])⟩), ([0, 1], ⟨61, 2, (.mix [(.agg [(.ref [0, 2]), (.d ⟨.bool, y8⟩)])])⟩), ([0, 2], ⟨2, 1, (.data (.int .i64) y9)⟩)])
  | _, _, _ => e
noncomputable def stack_Stack_SPv1.calls (F0 : Int → Int → Int → Int → Int → Int → Int → Bool → (List Int) → (Bool → Int → Int → Int → Int → Int → Int → Int → Bool → (List Int) → Option Bool) → Option Bool) : RecF := fun g a h k => (stack_Stack_livev1.get F0 none g a h k)
noncomputable def stack_Stack_SPv1.loops : LoopF := fun b => none
set_option maxRecDepth 100000 in
theorem stack_Stack_SPv1.eq (F0 : Int → Int → Int → Int → Int → Int → Int → Bool → (List Int) → (Bool → Int → Int → Int → Int → Int → Int → Int → Bool → (List Int) → Option Bool) → Option Bool) (n494 : Int) (n495 : Int) (n496 : Int) (n497 : Int) (n498 : Int) (n499 : Int) (n500 : Int) (b501 : Bool) (ns502 : List Int) (k : KR) : execL Try.prog ht 13 (callfOf (stack_Stack_SPv1.calls F0)) (stack_Stack_SPv1.loops) 0 (codeOf Try.f13) ⟨[(.ptr [0, 0] 0 0)] ++ List.replicate (Try.f13.ntmps - ([(.ptr [0, 0] 0 0)] : List AV).length) .undef, [([0, 0], ⟨53, 8, (.mix [(.agg [(.ptr [0, 1] 0 0), (.d ⟨(.int .i64), n494⟩), (.d ⟨(.int .i64), n495⟩), (.d ⟨(.int .i64), n496⟩), (.d ⟨(.int .i64), n497⟩), (.d ⟨(.int .i64), n498⟩), (.d ⟨(.int .i64), n499⟩), (.d ⟨(.int .i64), n500⟩)])])⟩), ([0, 1], ⟨61, 2, (.mix [(.agg [(.ref [0, 2]), (.d ⟨.bool, b501⟩)])])⟩), ([0, 2], ⟨2, 1, (.data (.int .i64) ns502)⟩)], 2⟩ (leave Try.prog Try.f13 k) = stack_Stack_SPv1.body F0 n494 n495 n496 n497 n498 n499 n500 b501 ns502 (fun y0 y1 y2 y3 y4 y5 y6 y7 y8 y9 => k (.d ⟨(.int .i64), y0⟩) [([0, 0], ⟨53, 8, (.mix [(.agg [(.ptr [0, 1] 0 0), (.d ⟨(.int .i64), y1⟩), (.d ⟨(.int .i64), y2⟩), (.d ⟨(.int .i64), y3⟩), (.d ⟨(.int .i64), y4⟩), (.d ⟨(.int .i64), y5⟩), (.d ⟨(.int .i64), y6⟩), (.d ⟨(.int .i64), y7⟩)])])⟩), ([0, 1], ⟨61, 2, (.mix [(.agg [(.ref [0, 2]), (.d ⟨.bool, y8⟩)])])⟩), ([0, 2], ⟨2, 1, (.data (.int .i64) y9)⟩)]) := by kernel_rfl
theorem stack_Stack_SPv1.ok (d : Nat) (hd : 2 ≤ d) (n494 : Int) (n495 : Int) (n496 : Int) (n497 : Int) (n498 : Int) (n499 : Int) (n500 : Int) (b501 : Bool) (ns502 : List Int) (k : KR) (hx : stack_Stack_SPv1 n494 n495 n496 n497 n498 n499 n500 b501 ns502 (fun y0 y1 y2 y3 y4 y5 y6 y7 y8 y9 => k (.d ⟨(.int .i64), y0⟩) [([0, 0], ⟨53, 8, (.mix [(.agg [(.ptr [0, 1] 0 0), (.d ⟨(.int .i64), y1⟩), (.d ⟨(.int .i64), y2⟩), (.d ⟨(.int .i64), y3⟩), (.d ⟨(.int .i64), y4⟩), (.d ⟨(.int .i64), y5⟩), (.d ⟨(.int .i64), y6⟩), (.d ⟨(.int .i64), y7⟩)])])⟩), ([0, 1], ⟨61, 2, (.mix [(.agg [(.ref [0, 2]), (.d ⟨.bool, y8⟩)])])⟩), ([0, 2], ⟨2, 1, (.data (.int .i64) y9)⟩)]) = some true) : callK Try.prog ht d 13 [(.ptr [0, 0] 0 0)] [([0, 0], ⟨53, 8, (.mix [(.agg [(.ptr [0, 1] 0 0), (.d ⟨(.int .i64), n494⟩), (.d ⟨(.int .i64), n495⟩), (.d ⟨(.int .i64), n496⟩), (.d ⟨(.int .i64), n497⟩), (.d ⟨(.int .i64), n498⟩), (.d ⟨(.int .i64), n499⟩), (.d ⟨(.int .i64), n500⟩)])])⟩), ([0, 1], ⟨61, 2, (.mix [(.agg [(.ref [0, 2]), (.d ⟨.bool, b501⟩)])])⟩), ([0, 2], ⟨2, 1, (.data (.int .i64) ns502)⟩)] k = some true := by
  obtain ⟨d, rfl⟩ : ∃ e, d = e + 1 := ⟨d - 1, by omega⟩
  exact fn_ok (c := codeOf Try.f13) Try.func13 (by kernel_rfl) (rec := stack_Stack_SPv1.calls stack_Stack_livev1) (fun g a h k hx => by
    rcases stack_Stack_livev1.look d (by omega) hx with hx | hx
    rotate_left
    · exact hx
    cases hx) (loopf := stack_Stack_SPv1.loops) (by
    have e : loopsOf (stack_Stack_SPv1.loops) 0 (codeOf Try.f13) = [] := by kernel_rfl
    rw [e]
    intro p hp
    cases hp) ((stack_Stack_SPv1.eq stack_Stack_livev1 n494 n495 n496 n497 n498 n499 n500 b501 ns502 k).trans hx)
theorem stack_Stack_SPv1.look (d : Nat) (hd : 2 ≤ d) {e : Option Bool} {g : FuncId} {a : List AV} {h : Heap} {k : KR} (hx : stack_Stack_SPv1.get stack_Stack_SPv1 e g a h k = some true) : e = some true ∨ callK Try.prog ht d g a h k = some true := by
  unfold stack_Stack_SPv1.get at hx
  split at hx
  · exact .inr (stack_Stack_SPv1.ok d hd _ _ _ _ _ _ _ _ _ _ hx)
  · exact .inl hx
/-- function 56: (*sheerleg/memory.Memory).Store$1 -/
noncomputable def memory_Memory_Storefn1.body (m564 : Nat) (ns565 : List Int) (n566 : Int) (k1 : (List Int) → Int → Option Bool) : Option Bool :=
  (k1 (List.set ns565 m564 n566) n566)
noncomputable def memory_Memory_Storefn1 (m564 : Nat) (ns565 : List Int) (n566 : Int) (k1 : (List Int) → Int → Option Bool) : Option Bool := memory_Memory_Storefn1.body m564 ns565 n566 k1
noncomputable def memory_Memory_Storefn1.get (F : Nat → (List Int) → Int → ((List Int) → Int → Option Bool) → Option Bool) (e : Option Bool) (g : FuncId) (a : List AV) (h : Heap) (k : KR) : Option Bool := match g, a, h with
  | 56, [(.ptr [0, 0] m564 0), (.ptr [0, 1] 0 0)], [([0, 0], ⟨2, 1, (.data (.int .i64) ns565)⟩), ([0, 1], ⟨2, 1, (.data (.int .i64) [n566])⟩)] => F m564 ns565 n566 (fun y0 y1 => k (.tup []) [([0, 0], ⟨2, 1, (.data (.int .i64) y0)⟩), ([0, 1], ⟨2, 1, (.data (.int .i64) [y1])⟩)])
  | _, _, _ => e
noncomputable def memory_Memory_Storefn1.calls : RecF := fun g a h k => none
noncomputable def memory_Memory_Storefn1.loops : LoopF := fun b => none
set_option maxRecDepth 100000 in
theorem memory_Memory_Storefn1.eq (m564 : Nat) (ns565 : List Int) (n566 : Int) (k : KR) : execL Try.prog ht 56 (callfOf (memory_Memory_Storefn1.calls)) (memory_Memory_Storefn1.loops) 0 (codeOf Try.f56) ⟨[(.ptr [0, 0] m564 0), (.ptr [0, 1] 0 0)] ++ List.replicate (Try.f56.ntmps - ([(.ptr [0, 0] m564 0), (.ptr [0, 1] 0 0)] : List AV).length) .undef, [([0, 0], ⟨2, 1, (.data (.int .i64) ns565)⟩), ([0, 1], ⟨2, 1, (.data (.int .i64) [n566])⟩)], 2⟩ (leave Try.prog Try.f56 k) = memory_Memory_Storefn1.body m564 ns565 n566 (fun y0 y1 => k (.tup []) [([0, 0], ⟨2, 1, (.data (.int .i64) y0)⟩), ([0, 1], ⟨2, 1, (.data (.int .i64) [y1])⟩)]) := by kernel_rfl
theorem memory_Memory_Storefn1.ok (d : Nat) (hd : 1 ≤ d) (m564 : Nat) (ns565 : List Int) (n566 : Int) (k : KR) (hx : memory_Memory_Storefn1 m564 ns565 n566 (fun y0 y1 => k (.tup []) [([0, 0], ⟨2, 1, (.data (.int .i64) y0)⟩), ([0, 1], ⟨2, 1, (.data (.int .i64) [y1])⟩)]) = some true) : callK Try.prog ht d 56 [(.ptr [0, 0] m564 0), (.ptr [0, 1] 0 0)] [([0, 0], ⟨2, 1, (.data (.int .i64) ns565)⟩), ([0, 1], ⟨2, 1, (.data (.int .i64) [n566])⟩)] k = some true := by
  obtain ⟨d, rfl⟩ : ∃ e, d = e + 1 := ⟨d - 1, by omega⟩
  exact fn_ok (c := codeOf Try.f56) Try.func56 (by kernel_rfl) (rec := memory_Memory_Storefn1.calls) (fun g a h k hx => by
    cases hx) (loopf := memory_Memory_Storefn1.loops) (by
    have e : loopsOf (memory_Memory_Storefn1.loops) 0 (codeOf Try.f56) = [] := by kernel_rfl
    rw [e]
    intro p hp
    cases hp) ((memory_Memory_Storefn1.eq m564 ns565 n566 k).trans hx)
theorem memory_Memory_Storefn1.look (d : Nat) (hd : 1 ≤ d) {e : Option Bool} {g : FuncId} {a : List AV} {h : Heap} {k : KR} (hx : memory_Memory_Storefn1.get memory_Memory_Storefn1 e g a h k = some true) : e = some true ∨ callK Try.prog ht d g a h k = some true := by
  unfold memory_Memory_Storefn1.get at hx
  split at hx
  · exact .inr (memory_Memory_Storefn1.ok d hd _ _ _ _ hx)
  · exact .inl hx
/-- function 46: (*sheerleg/memory.Memory).at -/
noncomputable def memory_Memory_atv1.body (memory_Memory_Size : Bool → (List Int) → (Int → Bool → (List Int) → Option Bool) → Option Bool) (memory_Memory_Storefn1 : Nat → (List Int) → Int → ((List Int) → Int → Option Bool) → Option Bool) (n557 : Int) (b558 : Bool) (ns559 : List Int) (n560 : Int) (k1 : Bool → Bool → (List Int) → Int → Option Bool) : Option Bool :=
  (cond_ (! (decide (n557 < (0 : Int)))) (memory_Memory_Size b558 ns559
  (fun n561 b562 ns563 => (cond_ (decide (n557 ≥ n561)) (k1 false b562 ns563 n560) (cond_ ((decide ((0 : Int) ≤ n557)) && (decide (n557 < (((List.length ns563) : Nat) : Int)))) (memory_Memory_Storefn1 (Int.toNat n557) ns563 n560
  (fun ns567 n568 => (k1 true b562 ns567 n568))) none)))) (k1 false b558 ns559 n560))
noncomputable def memory_Memory_atv1 (n557 : Int) (b558 : Bool) (ns559 : List Int) (n560 : Int) (k1 : Bool → Bool → (List Int) → Int → Option Bool) : Option Bool := memory_Memory_atv1.body memory_Memory_Size memory_Memory_Storefn1 n557 b558 ns559 n560 k1
noncomputable def memory_Memory_atv1.get (F : Int → Bool → (List Int) → Int → (Bool → Bool → (List Int) → Int → Option Bool) → Option Bool) (e : Option Bool) (g : FuncId) (a : List AV) (h : Heap) (k : KR) : Option Bool := match g, a, h with
  | 46, [(.ptr [0, 0] 0 0), (.d ⟨(.int .i64), n557⟩), (.fn (.func 56) [] [(.ptr [0, 2] 0 0)])], [([0, 0], ⟨61, 2, (.mix [(.agg [(.ref [0, 1]), (.d ⟨.bool, b558⟩)])])⟩), ([0, 1], ⟨2, 1, (.data (.int .i64) ns559)⟩), ([0, 2], ⟨2, 1, (.data (.int .i64) [n560])⟩)] => F n557 b558 ns559 n560 (fun y0 y1 y2 y3 => k (.d ⟨.bool, y0⟩) [([0, 0], ⟨61, 2, (.mix [(.agg [(.ref [0, 1]), (.d ⟨.bool, y1⟩)])])⟩), ([0, 1], ⟨2, 1, (.data (.int .i64) y2)⟩), ([0, 2], ⟨2, 1, (.data (.int .i64) [y3])⟩)])
  | _, _, _ => e
noncomputable def memory_Memory_atv1.calls (F0 : Bool → (List Int) → (Int → Bool → (List Int) → Option Bool) → Option Bool) (F1 : Nat → (List Int) → Int → ((List Int) → Int → Option Bool) → Option Bool) : RecF := fun g a h k => (memory_Memory_Size.get F0 (memory_Memory_Storefn1.get F1 none g a h k) g a h k)
noncomputable def memory_Memory_atv1.loops : LoopF := fun b => none
set_option maxRecDepth 100000 in
theorem memory_Memory_atv1.eq (F0 : Bool → (List Int) → (Int → Bool → (List Int) → Option Bool) → Option Bool) (F1 : Nat → (List Int) → Int → ((List Int) → Int → Option Bool) → Option Bool) (n557 : Int) (b558 : Bool) (ns559 : List Int) (n560 : Int) (k : KR) : execL Try.prog ht 46 (callfOf (memory_Memory_atv1.calls F0 F1)) (memory_Memory_atv1.loops) 0 (codeOf Try.f46) ⟨[(.ptr [0, 0] 0 0), (.d ⟨(.int .i64), n557⟩), (.fn (.func 56) [] [(.ptr [0, 2] 0 0)])] ++ List.replicate (Try.f46.ntmps - ([(.ptr [0, 0] 0 0), (.d ⟨(.int .i64), n557⟩), (.fn (.func 56) [] [(.ptr [0, 2] 0 0)])] : List AV).length) .undef, [([0, 0], ⟨61, 2, (.mix [(.agg [(.ref [0, 1]), (.d ⟨.bool, b558⟩)])])⟩), ([0, 1], ⟨2, 1, (.data (.int .i64) ns559)⟩), ([0, 2], ⟨2, 1, (.data (.int .i64) [n560])⟩)], 2⟩ (leave Try.prog Try.f46 k) = memory_Memory_atv1.body F0 F1 n557 b558 ns559 n560 (fun y0 y1 y2 y3 => k (.d ⟨.bool, y0⟩) [([0, 0], ⟨61, 2, (.mix [(.agg [(.ref [0, 1]), (.d ⟨.bool, y1⟩)])])⟩), ([0, 1], ⟨2, 1, (.data (.int .i64) y2)⟩), ([0, 2], ⟨2, 1, (.data (.int .i64) [y3])⟩)]) := by kernel_rfl
theorem memory_Memory_atv1.ok (d : Nat) (hd : 2 ≤ d) (n557 : Int) (b558 : Bool) (ns559 : List Int) (n560 : Int) (k : KR) (hx : memory_Memory_atv1 n557 b558 ns559 n560 (fun y0 y1 y2 y3 => k (.d ⟨.bool, y0⟩) [([0, 0], ⟨61, 2, (.mix [(.agg [(.ref [0, 1]), (.d ⟨.bool, y1⟩)])])⟩), ([0, 1], ⟨2, 1, (.data (.int .i64) y2)⟩), ([0, 2], ⟨2, 1, (.data (.int .i64) [y3])⟩)]) = some true) : callK Try.prog ht d 46 [(.ptr [0, 0] 0 0), (.d ⟨(.int .i64), n557⟩), (.fn (.func 56) [] [(.ptr [0, 2] 0 0)])] [([0, 0], ⟨61, 2, (.mix [(.agg [(.ref [0, 1]), (.d ⟨.bool, b558⟩)])])⟩), ([0, 1], ⟨2, 1, (.data (.int .i64) ns559)⟩), ([0, 2], ⟨2, 1, (.data (.int .i64) [n560])⟩)] k = some true := by
  obtain ⟨d, rfl⟩ : ∃ e, d = e + 1 := ⟨d - 1, by omega⟩
  exact fn_ok (c := codeOf Try.f46) Try.func46 (by kernel_rfl) (rec := memory_Memory_atv1.calls memory_Memory_Size memory_Memory_Storefn1) (fun g a h k hx => by
    rcases memory_Memory_Size.look d (by omega) hx with hx | hx
    rotate_left
    · exact hx
    rcases memory_Memory_Storefn1.look d (by omega) hx with hx | hx
    rotate_left
    · exact hx
    cases hx) (loopf := memory_Memory_atv1.loops) (by
    have e : loopsOf (memory_Memory_atv1.loops) 0 (codeOf Try.f46) = [] := by kernel_rfl
    rw [e]
    intro p hp
    cases hp) ((memory_Memory_atv1.eq memory_Memory_Size memory_Memory_Storefn1 n557 b558 ns559 n560 k).trans hx)
theorem memory_Memory_atv1.look (d : Nat) (hd : 2 ≤ d) {e : Option Bool} {g : FuncId} {a : List AV} {h : Heap} {k : KR} (hx : memory_Memory_atv1.get memory_Memory_atv1 e g a h k = some true) : e = some true ∨ callK Try.prog ht d g a h k = some true := by
  unfold memory_Memory_atv1.get at hx
  split at hx
  · exact .inr (memory_Memory_atv1.ok d hd _ _ _ _ _ hx)
  · exact .inl hx
/-- function 50: (*sheerleg/memory.Memory).Store -/
noncomputable def memory_Memory_Store.body (memory_Memory_atv1 : Int → Bool → (List Int) → Int → (Bool → Bool → (List Int) → Int → Option Bool) → Option Bool) (n553 : Int) (n554 : Int) (b555 : Bool) (ns556 : List Int) (k1 : Bool → Bool → (List Int) → Option Bool) : Option Bool :=
  (memory_Memory_atv1 n553 b555 ns556 n554
  (fun b569 b570 ns571 n572 => (k1 b569 b570 ns571)))
noncomputable def memory_Memory_Store (n553 : Int) (n554 : Int) (b555 : Bool) (ns556 : List Int) (k1 : Bool → Bool → (List Int) → Option Bool) : Option Bool := memory_Memory_Store.body memory_Memory_atv1 n553 n554 b555 ns556 k1
noncomputable def memory_Memory_Store.get (F : Int → Int → Bool → (List Int) → (Bool → Bool → (List Int) → Option Bool) → Option Bool) (e : Option Bool) (g : FuncId) (a : List AV) (h : Heap) (k : KR) : Option Bool := match g, a, h with
  | 50, [(.ptr [0, 0] 0 0), (.d ⟨(.int .i64), n553⟩), (.d ⟨(.int .i64), n554⟩)], [([0, 0], ⟨61, 2, (.mix [(.agg [(.ref [0, 1]), (.d ⟨.bool, b555⟩)])])⟩), ([0, 1], ⟨2, 1, (.data (.int .i64) ns556)⟩)] => F n553 n554 b555 ns556 (fun y0 y1 y2 => k (.d ⟨.bool, y0⟩) [([0, 0], ⟨61, 2, (.mix [(.agg [(.ref [0, 1]), (.d ⟨.bool, y1⟩)])])⟩), ([0, 1], ⟨2, 1, (.data (.int .i64) y2)⟩)])
  | _, _, _ => e
noncomputable def memory_Memory_Store.calls (F0 : Int → Bool → (List Int) → Int → (Bool → Bool → (List Int) → Int → Option Bool) → Option Bool) : RecF := fun g a h k => (memory_Memory_atv1.get F0 none g a h k)
noncomputable def memory_Memory_Store.loops : LoopF := fun b => none
set_option maxRecDepth 100000 in
theorem memory_Memory_Store.eq (F0 : Int → Bool → (List Int) → Int → (Bool → Bool → (List Int) → Int → Option Bool) → Option Bool) (n553 : Int) (n554 : Int) (b555 : Bool) (ns556 : List Int) (k : KR) : execL Try.prog ht 50 (callfOf (memory_Memory_Store.calls F0)) (memory_Memory_Store.loops) 0 (codeOf Try.f50) ⟨[(.ptr [0, 0] 0 0), (.d ⟨(.int .i64), n553⟩), (.d ⟨(.int .i64), n554⟩)] ++ List.replicate (Try.f50.ntmps - ([(.ptr [0, 0] 0 0), (.d ⟨(.int .i64), n553⟩), (.d ⟨(.int .i64), n554⟩)] : List AV).length) .undef, [([0, 0], ⟨61, 2, (.mix [(.agg [(.ref [0, 1]), (.d ⟨.bool, b555⟩)])])⟩), ([0, 1], ⟨2, 1, (.data (.int .i64) ns556)⟩)], 2⟩ (leave Try.prog Try.f50 k) = memory_Memory_Store.body F0 n553 n554 b555 ns556 (fun y0 y1 y2 => k (.d ⟨.bool, y0⟩) [([0, 0], ⟨61, 2, (.mix [(.agg [(.ref [0, 1]), (.d ⟨.bool, y1⟩)])])⟩), ([0, 1], ⟨2, 1, (.data (.int .i64) y2)⟩)]) := by kernel_rfl
theorem memory_Memory_Store.ok (d : Nat) (hd : 3 ≤ d) (n553 : Int) (n554 : Int) (b555 : Bool) (ns556 : List Int) (k : KR) (hx : memory_Memory_Store n553 n554 b555 ns556 (fun y0 y1 y2 => k (.d ⟨.bool, y0⟩) [([0, 0], ⟨61, 2, (.mix [(.agg [(.ref [0, 1]), (.d ⟨.bool, y1⟩)])])⟩), ([0, 1], ⟨2, 1, (.data (.int .i64) y2)⟩)]) = some true) : callK Try.prog ht d 50 [(.ptr [0, 0] 0 0), (.d ⟨(.int .i64), n553⟩), (.d ⟨(.int .i64), n554⟩)] [([0, 0], ⟨61, 2, (.mix [(.agg [(.ref [0, 1]), (.d ⟨.bool, b555⟩)])])⟩), ([0, 1], ⟨2, 1, (.data (.int .i64) ns556)⟩)] k = some true := by
  obtain ⟨d, rfl⟩ : ∃ e, d = e + 1 := ⟨d - 1, by omega⟩
  exact fn_ok (c := codeOf Try.f50) Try.func50 (by kernel_rfl) (rec := memory_Memory_Store.calls memory_Memory_atv1) (fun g a h k hx => by
    rcases memory_Memory_atv1.look d (by omega) hx with hx | hx
    rotate_left
    · exact hx
    cases hx) (loopf := memory_Memory_Store.loops) (by
    have e : loopsOf (memory_Memory_Store.loops) 0 (codeOf Try.f50) = [] := by kernel_rfl
    rw [e]
    intro p hp
    cases hp) ((memory_Memory_Store.eq memory_Memory_atv1 n553 n554 b555 ns556 k).trans hx)
theorem memory_Memory_Store.look (d : Nat) (hd : 3 ≤ d) {e : Option Bool} {g : FuncId} {a : List AV} {h : Heap} {k : KR} (hx : memory_Memory_Store.get memory_Memory_Store e g a h k = some true) : e = some true ∨ callK Try.prog ht d g a h k = some true := by
  unfold memory_Memory_Store.get at hx
  split at hx
  · exact .inr (memory_Memory_Store.ok d hd _ _ _ _ _ hx)
  · exact .inl hx
/-- function 33: (*sheerleg/stack.Stack).write -/
noncomputable def stack_Stack_writev1.body (stack_Stack_livev1 : Int → Int → Int → Int → Int → Int → Int → Bool → (List Int) → (Bool → Int → Int → Int → Int → Int → Int → Int → Bool → (List Int) → Option Bool) → Option Bool) (memory_Memory_Store : Int → Int → Bool → (List Int) → (Bool → Bool → (List Int) → Option Bool) → Option Bool) (n532 : Int) (n533 : Int) (n534 : Int) (n535 : Int) (n536 : Int) (n537 : Int) (n538 : Int) (n539 : Int) (n540 : Int) (b541 : Bool) (ns542 : List Int) (k1 : Bool → Int → Int → Int → Int → Int → Int → Int → Bool → (List Int) → Option Bool) : Option Bool :=
  (stack_Stack_livev1 n534 n535 n536 n537 n538 n539 n540 b541 ns542
  (fun b543 n544 n545 n546 n547 n548 n549 n550 b551 ns552 => (cond_ (! (! b543)) (cond_ (! (decide (n532 < n544))) (cond_ (! (decide (n532 ≥ n546))) (memory_Memory_Store n532 n533 b551 ns552
  (fun b573 b574 ns575 => (cond_ (! b573) (k1 false n544 n545 n546 n547 n548 n549 n550 b574 ns575) (k1 true n544 n545 n546 n547 n548 n549 (if ((IntKind.wrap .i64 (n532 - n544)) < n550) then (IntKind.wrap .i64 (n532 - n544)) else n550) b574 ns575)))) (k1 false n544 n545 n546 n547 n548 n549 n550 b551 ns552)) (k1 false n544 n545 n546 n547 n548 n549 n550 b551 ns552)) (k1 false n544 n545 n546 n547 n548 n549 n550 b551 ns552))))
noncomputable def stack_Stack_writev1 (n532 : Int) (n533 : Int) (n534 : Int) (n535 : Int) (n536 : Int) (n537 : Int) (n538 : Int) (n539 : Int) (n540 : Int) (b541 : Bool) (ns542 : List Int) (k1 : Bool → Int → Int → Int → Int → Int → Int → Int → Bool → (List Int) → Option Bool) : Option Bool := stack_Stack_writev1.body stack_Stack_livev1 memory_Memory_Store n532 n533 n534 n535 n536 n537 n538 n539 n540 b541 ns542 k1
noncomputable def stack_Stack_writev1.get (F : Int → Int → Int → Int → Int → Int → Int → Int → Int → Bool → (List Int) → (Bool → Int → Int → Int → Int → Int → Int → Int → Bool → (List Int) → Option Bool) → Option Bool) (e : Option Bool) (g : FuncId) (a : List AV) (h : Heap) (k : KR) : Option Bool := match g, a, h with
  | 33, [(.ptr [0, 0] 0 0), (.d ⟨(.int .i64), n532⟩), (.d ⟨(.int .i64), n533⟩)], [([0, 0], ⟨53, 8, (.mix [(.agg [(.ptr [0, 1] 0 0), (.d ⟨(.int .i64), n534⟩), (.d ⟨(.int .i64), n535⟩), (.d ⟨(.int .i64), n536⟩), (.d ⟨(.int .i64), n537⟩), (.d ⟨(.int .i64), n538⟩), (.d ⟨(.int .i64), n539⟩), (.d ⟨(.int .i64), n540⟩)])])⟩), ([0, 1], ⟨61, 2, (.mix [(.agg [(.ref [0, 2]), (.d ⟨.bool, b541⟩)])])⟩), ([0, 2], ⟨2, 1, (.data (.int .i64) ns542)⟩)] => F n532 n533 n534 n535 n536 n537 n538 n539 n540 b541 ns542 (fun y0 y1 y2 y3 y4 y5 y6 y7 y8 y9 => k (.d ⟨.bool, y0⟩) [([0, 0], ⟨53, 8, (.mix [(.agg [(.ptr [0, 1] 0 0), (.d ⟨(.int .i64), y1⟩), (.d ⟨(.int .i64), y2⟩), (.d ⟨(.int .i64), y3⟩), (.d ⟨(.int .i64), y4⟩), (.d ⟨(.int .i64), y5⟩), (.d ⟨(.int .i64), y6⟩), (.d ⟨(.int .i64), y7⟩)])])⟩), ([0, 1], ⟨61, 2, (.mix [(.agg [(.ref [0, 2]), (.d ⟨.bool, y8⟩)])])⟩), ([0, 2], ⟨2, 1, (.data (.int .i64) y9)⟩)])
  | _, _, _ => e
noncomputable def stack_Stack_writev1.calls (F0 : Int → Int → Int → Int → Int → Int → Int → Bool → (List Int) → (Bool → Int → Int → Int → Int → Int → Int → Int → Bool → (List Int) → Option Bool) → Option Bool) (F1 : Int → Int → Bool → (List Int) → (Bool → Bool → (List Int) → Option Bool) → Option Bool) : RecF := fun g a h k => (stack_Stack_livev1.get F0 (memory_Memory_Store.get F1 none g a h k) g a h k)
noncomputable def stack_Stack_writev1.loops : LoopF := fun b => none
set_option maxRecDepth 100000 in
theorem stack_Stack_writev1.eq (F0 : Int → Int → Int → Int → Int → Int → Int → Bool → (List Int) → (Bool → Int → Int → Int → Int → Int → Int → Int → Bool → (List Int) → Option Bool) → Option Bool) (F1 : Int → Int → Bool → (List Int) → (Bool → Bool → (List Int) → Option Bool) → Option Bool) (n532 : Int) (n533 : Int) (n534 : Int) (n535 : Int) (n536 : Int) (n537 : Int) (n538 : Int) (n539 : Int) (n540 : Int) (b541 : Bool) (ns542 : List Int) (k : KR) : execL Try.prog ht 33 (callfOf (stack_Stack_writev1.calls F0 F1)) (stack_Stack_writev1.loops) 0 (codeOf Try.f33) ⟨[(.ptr [0, 0] 0 0), (.d ⟨(.int .i64), n532⟩), (.d ⟨(.int .i64), n533⟩)] ++ List.replicate (Try.f33.ntmps - ([(.ptr [0, 0] 0 0), (.d ⟨(.int .i64), n532⟩), (.d ⟨(.int .i64), n533⟩)] : List AV).length) .undef, [([0, 0], ⟨53, 8, (.mix [(.agg [(.ptr [0, 1] 0 0), (.d ⟨(.int .i64), n534⟩), (.d ⟨(.int .i64), n535⟩), (.d ⟨(.int .i64), n536⟩), (.d ⟨(.int .i64), n537⟩), (.d ⟨(.int .i64), n538⟩), (.d ⟨(.int .i64), n539⟩), (.d ⟨(.int .i64), n540⟩)])])⟩), ([0, 1], ⟨61, 2, (.mix [(.agg [(.ref [0, 2]), (.d ⟨.bool, b541⟩)])])⟩), ([0, 2], ⟨2, 1, (.data (.int .i64) ns542)⟩)], 2⟩ (leave Try.prog Try.f33 k) = stack_Stack_writev1.body F0 F1 n532 n533 n534 n535 n536 n537 n538 n539 n540 b541 ns542 (fun y0 y1 y2 y3 y4 y5 y6 y7 y8 y9 => k (.d ⟨.bool, y0⟩) [([0, 0], ⟨53, 8, (.mix [(.agg [(.ptr [0, 1] 0 0), (.d ⟨(.int .i64), y1⟩), (.d ⟨(.int .i64), y2⟩), (.d ⟨(.int .i64), y3⟩), (.d ⟨(.int .i64), y4⟩), (.d ⟨(.int .i64), y5⟩), (.d ⟨(.int .i64), y6⟩), (.d ⟨(.int .i64), y7⟩)])])⟩), ([0, 1], ⟨61, 2, (.mix [(.agg [(.ref [0, 2]), (.d ⟨.bool, y8⟩)])])⟩), ([0, 2], ⟨2, 1, (.data (.int .i64) y9)⟩)]) := by kernel_rfl
theorem stack_Stack_writev1.ok (d : Nat) (hd : 4 ≤ d) (n532 : Int) (n533 : Int) (n534 : Int) (n535 : Int) (n536 : Int) (n537 : Int) (n538 : Int) (n539 : Int) (n540 : Int) (b541 : Bool) (ns542 : List Int) (k : KR) (hx : stack_Stack_writev1 n532 n533 n534 n535 n536 n537 n538 n539 n540 b541 ns542 (fun y0 y1 y2 y3 y4 y5 y6 y7 y8 y9 => k (.d ⟨.bool, y0⟩) [([0, 0], ⟨53, 8, (.mix [(.agg [(.ptr [0, 1] 0 0), (.d ⟨(.int .i64), y1⟩), (.d ⟨(.int .i64), y2⟩), (.d ⟨(.int .i64), y3⟩), (.d ⟨(.int .i64), y4⟩), (.d ⟨(.int .i64), y5⟩), (.d ⟨(.int .i64), y6⟩), (.d ⟨(.int .i64), y7⟩)])])⟩), ([0, 1], ⟨61, 2, (.mix [(.agg [(.ref [0, 2]), (.d ⟨.bool, y8⟩)])])⟩), ([0, 2], ⟨2, 1, (.data (.int .i64) y9)⟩)]) = some true) : callK Try.prog ht d 33 [(.ptr [0, 0] 0 0), (.d ⟨(.int .i64), n532⟩), (.d ⟨(.int .i64), n533⟩)] [([0, 0], ⟨53, 8, (.mix [(.agg [(.ptr [0, 1] 0 0), (.d ⟨(.int .i64), n534⟩), (.d ⟨(.int .i64), n535⟩), (.d ⟨(.int .i64), n536⟩), (.d ⟨(.int .i64), n537⟩), (.d ⟨(.int .i64), n538⟩), (.d ⟨(.int .i64), n539⟩), (.d ⟨(.int .i64), n540⟩)])])⟩), ([0, 1], ⟨61, 2, (.mix [(.agg [(.ref [0, 2]), (.d ⟨.bool, b541⟩)])])⟩), ([0, 2], ⟨2, 1, (.data (.int .i64) ns542)⟩)] k = some true := by
  obtain ⟨d, rfl⟩ : ∃ e, d = e + 1 := ⟨d - 1, by omega⟩
  exact fn_ok (c := codeOf Try.f33) Try.func33 (by kernel_rfl) (rec := stack_Stack_writev1.calls stack_Stack_livev1 memory_Memory_Store) (fun g a h k hx => by
    rcases stack_Stack_livev1.look d (by omega) hx with hx | hx
    rotate_left
    · exact hx
    rcases memory_Memory_Store.look d (by omega) hx with hx | hx
    rotate_left
    · exact hx
    cases hx) (loopf := stack_Stack_writev1.loops) (by
    have e : loopsOf (stack_Stack_writev1.loops) 0 (codeOf Try.f33) = [] := by kernel_rfl
    rw [e]
    intro p hp
    cases hp) ((stack_Stack_writev1.eq stack_Stack_livev1 memory_Memory_Store n532 n533 n534 n535 n536 n537 n538 n539 n540 b541 ns542 k).trans hx)
theorem stack_Stack_writev1.look (d : Nat) (hd : 4 ≤ d) {e : Option Bool} {g : FuncId} {a : List AV} {h : Heap} {k : KR} (hx : stack_Stack_writev1.get stack_Stack_writev1 e g a h k = some true) : e = some true ∨ callK Try.prog ht d g a h k = some true := by
  unfold stack_Stack_writev1.get at hx
  split at hx
  · exact .inr (stack_Stack_writev1.ok d hd _ _ _ _ _ _ _ _ _ _ _ _ hx)
  · exact .inl hx
end Go.Proofs.Ytefhednjdlblpaa.p
