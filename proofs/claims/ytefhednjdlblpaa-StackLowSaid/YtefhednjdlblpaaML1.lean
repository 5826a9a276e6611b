/- What the functions come to that L reaches, as plain functions; written by a program of this work, each told by Lean. -/
import Derived.Test.YtefhednjdlblpaaA3
import Derived.Test.YtefhednjdlblpaaChecked
namespace Go.Proofs.Ytefhednjdlblpaa.l
open Go.AX
set_option linter.unusedVariables false
set_option maxRecDepth 100000
set_option maxHeartbeats 4000000
def ht : Hints := hintsOf [(6, [(0, ⟨[1, 5, 6, 8, 9], []⟩), (2000000, ⟨[4], []⟩), (1000000, ⟨[], []⟩)]),
  (35, [(0, ⟨[0, 1, 2], []⟩), (2000000, ⟨[6, 7], []⟩), (1000000, ⟨[], []⟩)])]
abbrev Tc0 : Type := List (Int × Int × Int × Unit)
/-- function 7: sheerleg/sheerleglaw39.known, all of it at once -/
def law39_known (k1 : Bool → Option Bool) : Option Bool := k1 true
def law39_known.get (F : (Bool → Option Bool) → Option Bool) (e : Option Bool) (g : FuncId) (a : List AV) (h : Heap) (k : KR) : Option Bool := match g, a, h with
  | 7, [], [] => F (fun y => k (.d ⟨.bool, y⟩) [])
  | _, _, _ => e
set_option maxRecDepth 100000 in
theorem law39_known.all (k : KR) : callK Try.prog ht 60 7 [] [] k = k (.d ⟨.bool, true⟩) [] := by kernel_rfl
theorem law39_known.look (d : Nat) (hd : 60 ≤ d) {e : Option Bool} {g : FuncId} {a : List AV} {h : Heap} {k : KR} (hx : law39_known.get law39_known e g a h k = some true) : e = some true ∨ callK Try.prog ht d g a h k = some true := by
  unfold law39_known.get at hx
  split at hx
  · exact .inr (callK_le hd _ _ _ _ _ (fun _ _ h => h) ((law39_known.all _).trans hx))
  · exact .inl hx
/-- function 31: slices.Clone[[]int64,int64] -/
noncomputable def slices_Clone_int64_int64.body (k1 : (List Int) → Option Bool) : Option Bool :=
  (k1 [])
noncomputable def slices_Clone_int64_int64 (k1 : (List Int) → Option Bool) : Option Bool := slices_Clone_int64_int64.body k1
noncomputable def slices_Clone_int64_int64.get (F : ((List Int) → Option Bool) → Option Bool) (e : Option Bool) (g : FuncId) (a : List AV) (h : Heap) (k : KR) : Option Bool := match g, a, h with
  | 31, [.nils], [] => F (fun y0 => k (.ref [1, 0]) [([1, 0], ⟨2, 1, (.data (.int .i64) y0)⟩)])
  | _, _, _ => e
noncomputable def slices_Clone_int64_int64.calls : RecF := fun g a h k => none
noncomputable def slices_Clone_int64_int64.loops : LoopF := fun b => none
set_option maxRecDepth 100000 in
theorem slices_Clone_int64_int64.eq (k : KR) : execL Try.prog ht 31 (callfOf (slices_Clone_int64_int64.calls)) (slices_Clone_int64_int64.loops) 0 (codeOf Try.f31) ⟨[.nils] ++ List.replicate (Try.f31.ntmps - ([.nils] : List AV).length) .undef, [], 2⟩ (leave Try.prog Try.f31 k) = slices_Clone_int64_int64.body (fun y0 => k (.ref [1, 0]) [([1, 0], ⟨2, 1, (.data (.int .i64) y0)⟩)]) := by kernel_rfl
theorem slices_Clone_int64_int64.ok (d : Nat) (hd : 1 ≤ d) (k : KR) (hx : slices_Clone_int64_int64 (fun y0 => k (.ref [1, 0]) [([1, 0], ⟨2, 1, (.data (.int .i64) y0)⟩)]) = some true) : callK Try.prog ht d 31 [.nils] [] k = some true := by
  obtain ⟨d, rfl⟩ : ∃ e, d = e + 1 := ⟨d - 1, by omega⟩
  exact fn_ok (c := codeOf Try.f31) Try.func31 (by kernel_rfl) (rec := slices_Clone_int64_int64.calls) (fun g a h k hx => by
    cases hx) (loopf := slices_Clone_int64_int64.loops) (by
    have e : loopsOf (slices_Clone_int64_int64.loops) 0 (codeOf Try.f31) = [] := by kernel_rfl
    rw [e]
    intro p hp
    cases hp) ((slices_Clone_int64_int64.eq k).trans hx)
theorem slices_Clone_int64_int64.look (d : Nat) (hd : 1 ≤ d) {e : Option Bool} {g : FuncId} {a : List AV} {h : Heap} {k : KR} (hx : slices_Clone_int64_int64.get slices_Clone_int64_int64 e g a h k = some true) : e = some true ∨ callK Try.prog ht d g a h k = some true := by
  unfold slices_Clone_int64_int64.get at hx
  split at hx
  · exact .inr (slices_Clone_int64_int64.ok d hd _ hx)
  · exact .inl hx
/-- function 9: sheerleg/memory.New -/
noncomputable def memory_New.body (slices_Clone_int64_int64 : ((List Int) → Option Bool) → Option Bool) (k1 : Bool → (List Int) → Option Bool) : Option Bool :=
  (slices_Clone_int64_int64
  (fun ns3 => (k1 true ns3)))
noncomputable def memory_New (k1 : Bool → (List Int) → Option Bool) : Option Bool := memory_New.body slices_Clone_int64_int64 k1
noncomputable def memory_New.get (F : (Bool → (List Int) → Option Bool) → Option Bool) (e : Option Bool) (g : FuncId) (a : List AV) (h : Heap) (k : KR) : Option Bool := match g, a, h with
  | 9, [.nils], [] => F (fun y0 y1 => k (.ptr [1, 0] 0 0) [([1, 0], ⟨61, 2, (.mix [(.agg [(.ref [1, 1]), (.d ⟨.bool, y0⟩)])])⟩), ([1, 1], ⟨2, 1, (.data (.int .i64) y1)⟩)])
  | _, _, _ => e
noncomputable def memory_New.calls (F0 : ((List Int) → Option Bool) → Option Bool) : RecF := fun g a h k => (slices_Clone_int64_int64.get F0 none g a h k)
noncomputable def memory_New.loops : LoopF := fun b => none
set_option maxRecDepth 100000 in
theorem memory_New.eq (F0 : ((List Int) → Option Bool) → Option Bool) (k : KR) : execL Try.prog ht 9 (callfOf (memory_New.calls F0)) (memory_New.loops) 0 (codeOf Try.f9) ⟨[.nils] ++ List.replicate (Try.f9.ntmps - ([.nils] : List AV).length) .undef, [], 2⟩ (leave Try.prog Try.f9 k) = memory_New.body F0 (fun y0 y1 => k (.ptr [1, 0] 0 0) [([1, 0], ⟨61, 2, (.mix [(.agg [(.ref [1, 1]), (.d ⟨.bool, y0⟩)])])⟩), ([1, 1], ⟨2, 1, (.data (.int .i64) y1)⟩)]) := by kernel_rfl
theorem memory_New.ok (d : Nat) (hd : 2 ≤ d) (k : KR) (hx : memory_New (fun y0 y1 => k (.ptr [1, 0] 0 0) [([1, 0], ⟨61, 2, (.mix [(.agg [(.ref [1, 1]), (.d ⟨.bool, y0⟩)])])⟩), ([1, 1], ⟨2, 1, (.data (.int .i64) y1)⟩)]) = some true) : callK Try.prog ht d 9 [.nils] [] k = some true := by
  obtain ⟨d, rfl⟩ : ∃ e, d = e + 1 := ⟨d - 1, by omega⟩
  exact fn_ok (c := codeOf Try.f9) Try.func9 (by kernel_rfl) (rec := memory_New.calls slices_Clone_int64_int64) (fun g a h k hx => by
    rcases slices_Clone_int64_int64.look d (by omega) hx with hx | hx
    rotate_left
    · exact hx
    cases hx) (loopf := memory_New.loops) (by
    have e : loopsOf (memory_New.loops) 0 (codeOf Try.f9) = [] := by kernel_rfl
    rw [e]
    intro p hp
    cases hp) ((memory_New.eq slices_Clone_int64_int64 k).trans hx)
theorem memory_New.look (d : Nat) (hd : 2 ≤ d) {e : Option Bool} {g : FuncId} {a : List AV} {h : Heap} {k : KR} (hx : memory_New.get memory_New e g a h k = some true) : e = some true ∨ callK Try.prog ht d g a h k = some true := by
  unfold memory_New.get at hx
  split at hx
  · exact .inr (memory_New.ok d hd _ hx)
  · exact .inl hx
/-- function 29: (*sheerleg/memory.Memory).Grow -/
noncomputable def memory_Memory_Grow.body (n9 : Int) (b10 : Bool) (ns11 : List Int) (k1 : Int → Bool → Bool → (List Int) → Option Bool) (k2 : Int → Bool → Bool → (List Int) → Option Bool) : Option Bool :=
  (cond_ (! (! b10)) (cond_ (! (decide (n9 < (1 : Int)))) (cond_ (decide (n9 > (IntKind.wrap .i64 ((4194304 : Int) - (((List.length ns11) : Nat) : Int))))) (k1 (0 : Int) false b10 ns11) (cond_ ((decide ((0 : Int) ≤ n9)) && (Nat.ble (((List.length ns11) + (Int.toNat n9)) * (8 : Nat)) (140737488355328 : Nat))) (k2 (((List.length ns11) : Nat) : Int) true b10 (ns11 ++ (List.replicate (Int.toNat n9) (0 : Int)))) none)) (k1 (0 : Int) false b10 ns11)) (k1 (0 : Int) false b10 ns11))
noncomputable def memory_Memory_Grow (n9 : Int) (b10 : Bool) (ns11 : List Int) (k1 : Int → Bool → Bool → (List Int) → Option Bool) (k2 : Int → Bool → Bool → (List Int) → Option Bool) : Option Bool := memory_Memory_Grow.body n9 b10 ns11 k1 k2
noncomputable def memory_Memory_Grow.get (F : Int → Bool → (List Int) → (Int → Bool → Bool → (List Int) → Option Bool) → (Int → Bool → Bool → (List Int) → Option Bool) → Option Bool) (e : Option Bool) (g : FuncId) (a : List AV) (h : Heap) (k : KR) : Option Bool := match g, a, h with
  | 29, [(.ptr [0, 0] 0 0), (.d ⟨(.int .i64), n9⟩)], [([0, 0], ⟨61, 2, (.mix [(.agg [(.ref [0, 1]), (.d ⟨.bool, b10⟩)])])⟩), ([0, 1], ⟨2, 1, (.data (.int .i64) ns11)⟩)] => F n9 b10 ns11 (fun y0 y1 y2 y3 => k (.tup [(.d ⟨(.int .i64), y0⟩), (.d ⟨.bool, y1⟩)]) [([0, 0], ⟨61, 2, (.mix [(.agg [(.ref [0, 1]), (.d ⟨.bool, y2⟩)])])⟩), ([0, 1], ⟨2, 1, (.data (.int .i64) y3)⟩)]) (fun y0 y1 y2 y3 => k (.tup [(.d ⟨(.int .i64), y0⟩), (.d ⟨.bool, y1⟩)]) [([0, 0], ⟨61, 2, (.mix [(.agg [(.ref [1, 0]), (.d ⟨.bool, y2⟩)])])⟩), ([1, 0], ⟨2, 1, (.data (.int .i64) y3)⟩)])
  | _, _, _ => e
noncomputable def memory_Memory_Grow.calls : RecF := fun g a h k => none
noncomputable def memory_Memory_Grow.loops : LoopF := fun b => none
set_option maxRecDepth 100000 in
theorem memory_Memory_Grow.eq (n9 : Int) (b10 : Bool) (ns11 : List Int) (k : KR) : execL Try.prog ht 29 (callfOf (memory_Memory_Grow.calls)) (memory_Memory_Grow.loops) 0 (codeOf Try.f29) ⟨[(.ptr [0, 0] 0 0), (.d ⟨(.int .i64), n9⟩)] ++ List.replicate (Try.f29.ntmps - ([(.ptr [0, 0] 0 0), (.d ⟨(.int .i64), n9⟩)] : List AV).length) .undef, [([0, 0], ⟨61, 2, (.mix [(.agg [(.ref [0, 1]), (.d ⟨.bool, b10⟩)])])⟩), ([0, 1], ⟨2, 1, (.data (.int .i64) ns11)⟩)], 2⟩ (leave Try.prog Try.f29 k) = memory_Memory_Grow.body n9 b10 ns11 (fun y0 y1 y2 y3 => k (.tup [(.d ⟨(.int .i64), y0⟩), (.d ⟨.bool, y1⟩)]) [([0, 0], ⟨61, 2, (.mix [(.agg [(.ref [0, 1]), (.d ⟨.bool, y2⟩)])])⟩), ([0, 1], ⟨2, 1, (.data (.int .i64) y3)⟩)]) (fun y0 y1 y2 y3 => k (.tup [(.d ⟨(.int .i64), y0⟩), (.d ⟨.bool, y1⟩)]) [([0, 0], ⟨61, 2, (.mix [(.agg [(.ref [1, 0]), (.d ⟨.bool, y2⟩)])])⟩), ([1, 0], ⟨2, 1, (.data (.int .i64) y3)⟩)]) := by kernel_rfl
theorem memory_Memory_Grow.ok (d : Nat) (hd : 1 ≤ d) (n9 : Int) (b10 : Bool) (ns11 : List Int) (k : KR) (hx : memory_Memory_Grow n9 b10 ns11 (fun y0 y1 y2 y3 => k (.tup [(.d ⟨(.int .i64), y0⟩), (.d ⟨.bool, y1⟩)]) [([0, 0], ⟨61, 2, (.mix [(.agg [(.ref [0, 1]), (.d ⟨.bool, y2⟩)])])⟩), ([0, 1], ⟨2, 1, (.data (.int .i64) y3)⟩)]) (fun y0 y1 y2 y3 => k (.tup [(.d ⟨(.int .i64), y0⟩), (.d ⟨.bool, y1⟩)]) [([0, 0], ⟨61, 2, (.mix [(.agg [(.ref [1, 0]), (.d ⟨.bool, y2⟩)])])⟩), ([1, 0], ⟨2, 1, (.data (.int .i64) y3)⟩)]) = some true) : callK Try.prog ht d 29 [(.ptr [0, 0] 0 0), (.d ⟨(.int .i64), n9⟩)] [([0, 0], ⟨61, 2, (.mix [(.agg [(.ref [0, 1]), (.d ⟨.bool, b10⟩)])])⟩), ([0, 1], ⟨2, 1, (.data (.int .i64) ns11)⟩)] k = some true := by
  obtain ⟨d, rfl⟩ : ∃ e, d = e + 1 := ⟨d - 1, by omega⟩
  exact fn_ok (c := codeOf Try.f29) Try.func29 (by kernel_rfl) (rec := memory_Memory_Grow.calls) (fun g a h k hx => by
    cases hx) (loopf := memory_Memory_Grow.loops) (by
    have e : loopsOf (memory_Memory_Grow.loops) 0 (codeOf Try.f29) = [] := by kernel_rfl
    rw [e]
    intro p hp
    cases hp) ((memory_Memory_Grow.eq n9 b10 ns11 k).trans hx)
theorem memory_Memory_Grow.look (d : Nat) (hd : 1 ≤ d) {e : Option Bool} {g : FuncId} {a : List AV} {h : Heap} {k : KR} (hx : memory_Memory_Grow.get memory_Memory_Grow e g a h k = some true) : e = some true ∨ callK Try.prog ht d g a h k = some true := by
  unfold memory_Memory_Grow.get at hx
  split at hx
  · exact .inr (memory_Memory_Grow.ok d hd _ _ _ _ hx)
  · exact .inl hx
/-- function 30: sheerleg/stack.segment -/
noncomputable def stack_segment.body (n16 : Int) (n17 : Int) (k1 : (Int × Int × Int × Unit) → Option Bool) : Option Bool :=
  (k1 (n16, ((IntKind.wrap .i64 (n16 + (64 : Int))), ((IntKind.wrap .i64 (n16 + n17)), ()))))
noncomputable def stack_segment (n16 : Int) (n17 : Int) (k1 : (Int × Int × Int × Unit) → Option Bool) : Option Bool := stack_segment.body n16 n17 k1
noncomputable def stack_segment.get (F : Int → Int → ((Int × Int × Int × Unit) → Option Bool) → Option Bool) (e : Option Bool) (g : FuncId) (a : List AV) (h : Heap) (k : KR) : Option Bool := match g, a, h with
  | 30, [(.d ⟨(.int .i64), n16⟩), (.d ⟨(.int .i64), n17⟩)], [] => F n16 n17 (fun y0 => k (.d ⟨(.st [(.int .i64), (.int .i64), (.int .i64)]), y0⟩) [])
  | _, _, _ => e
noncomputable def stack_segment.calls : RecF := fun g a h k => none
noncomputable def stack_segment.loops : LoopF := fun b => none
set_option maxRecDepth 100000 in
theorem stack_segment.eq (n16 : Int) (n17 : Int) (k : KR) : execL Try.prog ht 30 (callfOf (stack_segment.calls)) (stack_segment.loops) 0 (codeOf Try.f30) ⟨[(.d ⟨(.int .i64), n16⟩), (.d ⟨(.int .i64), n17⟩)] ++ List.replicate (Try.f30.ntmps - ([(.d ⟨(.int .i64), n16⟩), (.d ⟨(.int .i64), n17⟩)] : List AV).length) .undef, [], 2⟩ (leave Try.prog Try.f30 k) = stack_segment.body n16 n17 (fun y0 => k (.d ⟨(.st [(.int .i64), (.int .i64), (.int .i64)]), y0⟩) []) := by kernel_rfl
theorem stack_segment.ok (d : Nat) (hd : 1 ≤ d) (n16 : Int) (n17 : Int) (k : KR) (hx : stack_segment n16 n17 (fun y0 => k (.d ⟨(.st [(.int .i64), (.int .i64), (.int .i64)]), y0⟩) []) = some true) : callK Try.prog ht d 30 [(.d ⟨(.int .i64), n16⟩), (.d ⟨(.int .i64), n17⟩)] [] k = some true := by
  obtain ⟨d, rfl⟩ : ∃ e, d = e + 1 := ⟨d - 1, by omega⟩
  exact fn_ok (c := codeOf Try.f30) Try.func30 (by kernel_rfl) (rec := stack_segment.calls) (fun g a h k hx => by
    cases hx) (loopf := stack_segment.loops) (by
    have e : loopsOf (stack_segment.loops) 0 (codeOf Try.f30) = [] := by kernel_rfl
    rw [e]
    intro p hp
    cases hp) ((stack_segment.eq n16 n17 k).trans hx)
theorem stack_segment.look (d : Nat) (hd : 1 ≤ d) {e : Option Bool} {g : FuncId} {a : List AV} {h : Heap} {k : KR} (hx : stack_segment.get stack_segment e g a h k = some true) : e = some true ∨ callK Try.prog ht d g a h k = some true := by
  unfold stack_segment.get at hx
  split at hx
  · exact .inr (stack_segment.ok d hd _ _ _ hx)
  · exact .inl hx
/-- function 8: sheerleg/stack.New -/
noncomputable def stack_New.body (memory_Memory_Grow : Int → Bool → (List Int) → (Int → Bool → Bool → (List Int) → Option Bool) → (Int → Bool → Bool → (List Int) → Option Bool) → Option Bool) (stack_segment : Int → Int → ((Int × Int × Int × Unit) → Option Bool) → Option Bool) (n6 : Int) (b7 : Bool) (ns8 : List Int) (k1 : Bool → Bool → (List Int) → Option Bool) (k2 : Bool → Bool → (List Int) → Int → Int → Int → Int → Int → Int → Int → Option Bool) (k3 : Bool → Bool → (List Int) → Option Bool) (k4 : Bool → Bool → (List Int) → Int → Int → Int → Int → Int → Int → Int → Option Bool) : Option Bool :=
  (cond_ (decide (n6 < (128 : Int))) (k1 false b7 ns8) (memory_Memory_Grow (128 : Int) b7 ns8
  (fun n12 b13 b14 ns15 => (cond_ (! b13) (k1 false b14 ns15) (stack_segment n12 (128 : Int)
  (fun t18 => (k2 true b14 ns15 t18.1 t18.2.1 t18.2.2.1 t18.2.2.1 (128 : Int) n6 (128 : Int))))))
  (fun n19 b20 b21 ns22 => (cond_ (! b20) (k3 false b21 ns22) (stack_segment n19 (128 : Int)
  (fun t23 => (k4 true b21 ns22 t23.1 t23.2.1 t23.2.2.1 t23.2.2.1 (128 : Int) n6 (128 : Int))))))))
noncomputable def stack_New (n6 : Int) (b7 : Bool) (ns8 : List Int) (k1 : Bool → Bool → (List Int) → Option Bool) (k2 : Bool → Bool → (List Int) → Int → Int → Int → Int → Int → Int → Int → Option Bool) (k3 : Bool → Bool → (List Int) → Option Bool) (k4 : Bool → Bool → (List Int) → Int → Int → Int → Int → Int → Int → Int → Option Bool) : Option Bool := stack_New.body memory_Memory_Grow stack_segment n6 b7 ns8 k1 k2 k3 k4
noncomputable def stack_New.get (F : Int → Bool → (List Int) → (Bool → Bool → (List Int) → Option Bool) → (Bool → Bool → (List Int) → Int → Int → Int → Int → Int → Int → Int → Option Bool) → (Bool → Bool → (List Int) → Option Bool) → (Bool → Bool → (List Int) → Int → Int → Int → Int → Int → Int → Int → Option Bool) → Option Bool) (e : Option Bool) (g : FuncId) (a : List AV) (h : Heap) (k : KR) : Option Bool := match g, a, h with
  | 8, [(.ptr [0, 0] 0 0), (.d ⟨(.int .i64), n6⟩)], [([0, 0], ⟨61, 2, (.mix [(.agg [(.ref [0, 1]), (.d ⟨.bool, b7⟩)])])⟩), ([0, 1], ⟨2, 1, (.data (.int .i64) ns8)⟩)] => F n6 b7 ns8 (fun y0 y1 y2 => k (.tup [.nilp, (.d ⟨.bool, y0⟩)]) [([0, 0], ⟨61, 2, (.mix [(.agg [(.ref [0, 1]), (.d ⟨.bool, y1⟩)])])⟩), ([0, 1], ⟨2, 1, (.data (.int .i64) y2)⟩)]) (fun y0 y1 y2 y3 y4 y5 y6 y7 y8 y9 => k (.tup [(.ptr [1, 0] 0 0), (.d ⟨.bool, y0⟩)]) [([0, 0], ⟨61, 2, (.mix [(.agg [(.ref [0, 1]), (.d ⟨.bool, y1⟩)])])⟩), ([0, 1], ⟨2, 1, (.data (.int .i64) y2)⟩), ([1, 0], ⟨53, 8, (.mix [(.agg [(.ptr [0, 0] 0 0), (.d ⟨(.int .i64), y3⟩), (.d ⟨(.int .i64), y4⟩), (.d ⟨(.int .i64), y5⟩), (.d ⟨(.int .i64), y6⟩), (.d ⟨(.int .i64), y7⟩), (.d ⟨(.int .i64), y8⟩), (.d ⟨(.int .i64), y9⟩)])])⟩)]) (fun y0 y1 y2 => k (.tup [.nilp, (.d ⟨.bool, y0⟩)]) [([0, 0], ⟨61, 2, (.mix [(.agg [(.ref [1, 0]), (.d ⟨.bool, y1⟩)])])⟩), ([1, 0], ⟨2, 1, (.data (.int .i64) y2)⟩)]) (fun y0 y1 y2 y3 y4 y5 y6 y7 y8 y9 => k (.tup [(.ptr [1, 1] 0 0), (.d ⟨.bool, y0⟩)]) [([0, 0], ⟨61, 2, (.mix [(.agg [(.ref [1, 0]), (.d ⟨.bool, y1⟩)])])⟩), ([1, 0], ⟨2, 1, (.data (.int .i64) y2)⟩), ([1, 1], ⟨53, 8, (.mix [(.agg [(.ptr [0, 0] 0 0), (.d ⟨(.int .i64), y3⟩), (.d ⟨(.int .i64), y4⟩), (.d ⟨(.int .i64), y5⟩), (.d ⟨(.int .i64), y6⟩), (.d ⟨(.int .i64), y7⟩), (.d ⟨(.int .i64), y8⟩), (.d ⟨(.int .i64), y9⟩)])])⟩)])
  | _, _, _ => e
noncomputable def stack_New.calls (F0 : Int → Bool → (List Int) → (Int → Bool → Bool → (List Int) → Option Bool) → (Int → Bool → Bool → (List Int) → Option Bool) → Option Bool) (F1 : Int → Int → ((Int × Int × Int × Unit) → Option Bool) → Option Bool) : RecF := fun g a h k => (memory_Memory_Grow.get F0 (stack_segment.get F1 none g a h k) g a h k)
noncomputable def stack_New.loops : LoopF := fun b => none
set_option maxRecDepth 100000 in
theorem stack_New.eq (F0 : Int → Bool → (List Int) → (Int → Bool → Bool → (List Int) → Option Bool) → (Int → Bool → Bool → (List Int) → Option Bool) → Option Bool) (F1 : Int → Int → ((Int × Int × Int × Unit) → Option Bool) → Option Bool) (n6 : Int) (b7 : Bool) (ns8 : List Int) (k : KR) : execL Try.prog ht 8 (callfOf (stack_New.calls F0 F1)) (stack_New.loops) 0 (codeOf Try.f8) ⟨[(.ptr [0, 0] 0 0), (.d ⟨(.int .i64), n6⟩)] ++ List.replicate (Try.f8.ntmps - ([(.ptr [0, 0] 0 0), (.d ⟨(.int .i64), n6⟩)] : List AV).length) .undef, [([0, 0], ⟨61, 2, (.mix [(.agg [(.ref [0, 1]), (.d ⟨.bool, b7⟩)])])⟩), ([0, 1], ⟨2, 1, (.data (.int .i64) ns8)⟩)], 2⟩ (leave Try.prog Try.f8 k) = stack_New.body F0 F1 n6 b7 ns8 (fun y0 y1 y2 => k (.tup [.nilp, (.d ⟨.bool, y0⟩)]) [([0, 0], ⟨61, 2, (.mix [(.agg [(.ref [0, 1]), (.d ⟨.bool, y1⟩)])])⟩), ([0, 1], ⟨2, 1, (.data (.int .i64) y2)⟩)]) (fun y0 y1 y2 y3 y4 y5 y6 y7 y8 y9 => k (.tup [(.ptr [1, 0] 0 0), (.d ⟨.bool, y0⟩)]) [([0, 0], ⟨61, 2, (.mix [(.agg [(.ref [0, 1]), (.d ⟨.bool, y1⟩)])])⟩), ([0, 1], ⟨2, 1, (.data (.int .i64) y2)⟩), ([1, 0], ⟨53, 8, (.mix [(.agg [(.ptr [0, 0] 0 0), (.d ⟨(.int .i64), y3⟩), (.d ⟨(.int .i64), y4⟩), (.d ⟨(.int .i64), y5⟩), (.d ⟨(.int .i64), y6⟩), (.d ⟨(.int .i64), y7⟩), (.d ⟨(.int .i64), y8⟩), (.d ⟨(.int .i64), y9⟩)])])⟩)]) (fun y0 y1 y2 => k (.tup [.nilp, (.d ⟨.bool, y0⟩)]) [([0, 0], ⟨61, 2, (.mix [(.agg [(.ref [1, 0]), (.d ⟨.bool, y1⟩)])])⟩), ([1, 0], ⟨2, 1, (.data (.int .i64) y2)⟩)]) (fun y0 y1 y2 y3 y4 y5 y6 y7 y8 y9 => k (.tup [(.ptr [1, 1] 0 0), (.d ⟨.bool, y0⟩)]) [([0, 0], ⟨61, 2, (.mix [(.agg [(.ref [1, 0]), (.d ⟨.bool, y1⟩)])])⟩), ([1, 0], ⟨2, 1, (.data (.int .i64) y2)⟩), ([1, 1], ⟨53, 8, (.mix [(.agg [(.ptr [0, 0] 0 0), (.d ⟨(.int .i64), y3⟩), (.d ⟨(.int .i64), y4⟩), (.d ⟨(.int .i64), y5⟩), (.d ⟨(.int .i64), y6⟩), (.d ⟨(.int .i64), y7⟩), (.d ⟨(.int .i64), y8⟩), (.d ⟨(.int .i64), y9⟩)])])⟩)]) := by kernel_rfl
theorem stack_New.ok (d : Nat) (hd : 2 ≤ d) (n6 : Int) (b7 : Bool) (ns8 : List Int) (k : KR) (hx : stack_New n6 b7 ns8 (fun y0 y1 y2 => k (.tup [.nilp, (.d ⟨.bool, y0⟩)]) [([0, 0], ⟨61, 2, (.mix [(.agg [(.ref [0, 1]), (.d ⟨.bool, y1⟩)])])⟩), ([0, 1], ⟨2, 1, (.data (.int .i64) y2)⟩)]) (fun y0 y1 y2 y3 y4 y5 y6 y7 y8 y9 => k (.tup [(.ptr [1, 0] 0 0), (.d ⟨.bool, y0⟩)]) [([0, 0], ⟨61, 2, (.mix [(.agg [(.ref [0, 1]), (.d ⟨.bool, y1⟩)])])⟩), ([0, 1], ⟨2, 1, (.data (.int .i64) y2)⟩), ([1, 0], ⟨53, 8, (.mix [(.agg [(.ptr [0, 0] 0 0), (.d ⟨(.int .i64), y3⟩), (.d ⟨(.int .i64), y4⟩), (.d ⟨(.int .i64), y5⟩), (.d ⟨(.int .i64), y6⟩), (.d ⟨(.int .i64), y7⟩), (.d ⟨(.int .i64), y8⟩), (.d ⟨(.int .i64), y9⟩)])])⟩)]) (fun y0 y1 y2 => k (.tup [.nilp, (.d ⟨.bool, y0⟩)]) [([0, 0], ⟨61, 2, (.mix [(.agg [(.ref [1, 0]), (.d ⟨.bool, y1⟩)])])⟩), ([1, 0], ⟨2, 1, (.data (.int .i64) y2)⟩)]) (fun y0 y1 y2 y3 y4 y5 y6 y7 y8 y9 => k (.tup [(.ptr [1, 1] 0 0), (.d ⟨.bool, y0⟩)]) [([0, 0], ⟨61, 2, (.mix [(.agg [(.ref [1, 0]), (.d ⟨.bool, y1⟩)])])⟩), ([1, 0], ⟨2, 1, (.data (.int .i64) y2)⟩), ([1, 1], ⟨53, 8, (.mix [(.agg [(.ptr [0, 0] 0 0), (.d ⟨(.int .i64), y3⟩), (.d ⟨(.int .i64), y4⟩), (.d ⟨(.int .i64), y5⟩), (.d ⟨(.int .i64), y6⟩), (.d ⟨(.int .i64), y7⟩), (.d ⟨(.int .i64), y8⟩), (.d ⟨(.int .i64), y9⟩)])])⟩)]) = some true) : callK Try.prog ht d 8 [(.ptr [0, 0] 0 0), (.d ⟨(.int .i64), n6⟩)] [([0, 0], ⟨61, 2, (.mix [(.agg [(.ref [0, 1]), (.d ⟨.bool, b7⟩)])])⟩), ([0, 1], ⟨2, 1, (.data (.int .i64) ns8)⟩)] k = some true := by
  obtain ⟨d, rfl⟩ : ∃ e, d = e + 1 := ⟨d - 1, by omega⟩
  exact fn_ok (c := codeOf Try.f8) Try.func8 (by kernel_rfl) (rec := stack_New.calls memory_Memory_Grow stack_segment) (fun g a h k hx => by
    rcases memory_Memory_Grow.look d (by omega) hx with hx | hx
    rotate_left
    · exact hx
    rcases stack_segment.look d (by omega) hx with hx | hx
    rotate_left
    · exact hx
    cases hx) (loopf := stack_New.loops) (by
    have e : loopsOf (stack_New.loops) 0 (codeOf Try.f8) = [] := by kernel_rfl
    rw [e]
    intro p hp
    cases hp) ((stack_New.eq memory_Memory_Grow stack_segment n6 b7 ns8 k).trans hx)
theorem stack_New.look (d : Nat) (hd : 2 ≤ d) {e : Option Bool} {g : FuncId} {a : List AV} {h : Heap} {k : KR} (hx : stack_New.get stack_New e g a h k = some true) : e = some true ∨ callK Try.prog ht d g a h k = some true := by
  unfold stack_New.get at hx
  split at hx
  · exact .inr (stack_New.ok d hd _ _ _ _ hx)
  · exact .inl hx
/-- function 34: (*sheerleg/stack.Stack).live -/
noncomputable def stack_Stack_live.body (k1 : Bool → Option Bool) : Option Bool :=
  (k1 false)
noncomputable def stack_Stack_live (k1 : Bool → Option Bool) : Option Bool := stack_Stack_live.body k1
noncomputable def stack_Stack_live.get (F : (Bool → Option Bool) → Option Bool) (e : Option Bool) (g : FuncId) (a : List AV) (h : Heap) (k : KR) : Option Bool := match g, a, h with
  | 34, [.nilp], [] => F (fun y0 => k (.d ⟨.bool, y0⟩) [])
  | _, _, _ => e
noncomputable def stack_Stack_live.calls : RecF := fun g a h k => none
noncomputable def stack_Stack_live.loops : LoopF := fun b => none
set_option maxRecDepth 100000 in
theorem stack_Stack_live.eq (k : KR) : execL Try.prog ht 34 (callfOf (stack_Stack_live.calls)) (stack_Stack_live.loops) 0 (codeOf Try.f34) ⟨[.nilp] ++ List.replicate (Try.f34.ntmps - ([.nilp] : List AV).length) .undef, [], 2⟩ (leave Try.prog Try.f34 k) = stack_Stack_live.body (fun y0 => k (.d ⟨.bool, y0⟩) []) := by kernel_rfl
theorem stack_Stack_live.ok (d : Nat) (hd : 1 ≤ d) (k : KR) (hx : stack_Stack_live (fun y0 => k (.d ⟨.bool, y0⟩) []) = some true) : callK Try.prog ht d 34 [.nilp] [] k = some true := by
  obtain ⟨d, rfl⟩ : ∃ e, d = e + 1 := ⟨d - 1, by omega⟩
  exact fn_ok (c := codeOf Try.f34) Try.func34 (by kernel_rfl) (rec := stack_Stack_live.calls) (fun g a h k hx => by
    cases hx) (loopf := stack_Stack_live.loops) (by
    have e : loopsOf (stack_Stack_live.loops) 0 (codeOf Try.f34) = [] := by kernel_rfl
    rw [e]
    intro p hp
    cases hp) ((stack_Stack_live.eq k).trans hx)
theorem stack_Stack_live.look (d : Nat) (hd : 1 ≤ d) {e : Option Bool} {g : FuncId} {a : List AV} {h : Heap} {k : KR} (hx : stack_Stack_live.get stack_Stack_live e g a h k = some true) : e = some true ∨ callK Try.prog ht d g a h k = some true := by
  unfold stack_Stack_live.get at hx
  split at hx
  · exact .inr (stack_Stack_live.ok d hd _ hx)
  · exact .inl hx
/-- function 28: (*sheerleg/stack.Stack).Low -/
noncomputable def stack_Stack_Low.body (stack_Stack_live : (Bool → Option Bool) → Option Bool) (k1 : Int → Option Bool) : Option Bool :=
  (stack_Stack_live
  (fun b28 => (cond_ (! b28) (k1 (0 : Int)) none)))
noncomputable def stack_Stack_Low (k1 : Int → Option Bool) : Option Bool := stack_Stack_Low.body stack_Stack_live k1
noncomputable def stack_Stack_Low.get (F : (Int → Option Bool) → Option Bool) (e : Option Bool) (g : FuncId) (a : List AV) (h : Heap) (k : KR) : Option Bool := match g, a, h with
  | 28, [.nilp], [] => F (fun y0 => k (.d ⟨(.int .i64), y0⟩) [])
  | _, _, _ => e
noncomputable def stack_Stack_Low.calls (F0 : (Bool → Option Bool) → Option Bool) : RecF := fun g a h k => (stack_Stack_live.get F0 none g a h k)
noncomputable def stack_Stack_Low.loops : LoopF := fun b => none
set_option maxRecDepth 100000 in
theorem stack_Stack_Low.eq (F0 : (Bool → Option Bool) → Option Bool) (k : KR) : execL Try.prog ht 28 (callfOf (stack_Stack_Low.calls F0)) (stack_Stack_Low.loops) 0 (codeOf Try.f28) ⟨[.nilp] ++ List.replicate (Try.f28.ntmps - ([.nilp] : List AV).length) .undef, [], 2⟩ (leave Try.prog Try.f28 k) = stack_Stack_Low.body F0 (fun y0 => k (.d ⟨(.int .i64), y0⟩) []) := by kernel_rfl
theorem stack_Stack_Low.ok (d : Nat) (hd : 2 ≤ d) (k : KR) (hx : stack_Stack_Low (fun y0 => k (.d ⟨(.int .i64), y0⟩) []) = some true) : callK Try.prog ht d 28 [.nilp] [] k = some true := by
  obtain ⟨d, rfl⟩ : ∃ e, d = e + 1 := ⟨d - 1, by omega⟩
  exact fn_ok (c := codeOf Try.f28) Try.func28 (by kernel_rfl) (rec := stack_Stack_Low.calls stack_Stack_live) (fun g a h k hx => by
    rcases stack_Stack_live.look d (by omega) hx with hx | hx
    rotate_left
    · exact hx
    cases hx) (loopf := stack_Stack_Low.loops) (by
    have e : loopsOf (stack_Stack_Low.loops) 0 (codeOf Try.f28) = [] := by kernel_rfl
    rw [e]
    intro p hp
    cases hp) ((stack_Stack_Low.eq stack_Stack_live k).trans hx)
theorem stack_Stack_Low.look (d : Nat) (hd : 2 ≤ d) {e : Option Bool} {g : FuncId} {a : List AV} {h : Heap} {k : KR} (hx : stack_Stack_Low.get stack_Stack_Low e g a h k = some true) : e = some true ∨ callK Try.prog ht d g a h k = some true := by
  unfold stack_Stack_Low.get at hx
  split at hx
  · exact .inr (stack_Stack_Low.ok d hd _ hx)
  · exact .inl hx
/-- function 13: (*sheerleg/stack.Stack).SP -/
noncomputable def stack_Stack_SP.body (stack_Stack_live : (Bool → Option Bool) → Option Bool) (k1 : Int → Option Bool) : Option Bool :=
  (stack_Stack_live
  (fun b35 => (cond_ (! b35) (k1 (0 : Int)) none)))
noncomputable def stack_Stack_SP (k1 : Int → Option Bool) : Option Bool := stack_Stack_SP.body stack_Stack_live k1
noncomputable def stack_Stack_SP.get (F : (Int → Option Bool) → Option Bool) (e : Option Bool) (g : FuncId) (a : List AV) (h : Heap) (k : KR) : Option Bool := match g, a, h with
  | 13, [.nilp], [] => F (fun y0 => k (.d ⟨(.int .i64), y0⟩) [])
  | _, _, _ => e
noncomputable def stack_Stack_SP.calls (F0 : (Bool → Option Bool) → Option Bool) : RecF := fun g a h k => (stack_Stack_live.get F0 none g a h k)
noncomputable def stack_Stack_SP.loops : LoopF := fun b => none
set_option maxRecDepth 100000 in
theorem stack_Stack_SP.eq (F0 : (Bool → Option Bool) → Option Bool) (k : KR) : execL Try.prog ht 13 (callfOf (stack_Stack_SP.calls F0)) (stack_Stack_SP.loops) 0 (codeOf Try.f13) ⟨[.nilp] ++ List.replicate (Try.f13.ntmps - ([.nilp] : List AV).length) .undef, [], 2⟩ (leave Try.prog Try.f13 k) = stack_Stack_SP.body F0 (fun y0 => k (.d ⟨(.int .i64), y0⟩) []) := by kernel_rfl
theorem stack_Stack_SP.ok (d : Nat) (hd : 2 ≤ d) (k : KR) (hx : stack_Stack_SP (fun y0 => k (.d ⟨(.int .i64), y0⟩) []) = some true) : callK Try.prog ht d 13 [.nilp] [] k = some true := by
  obtain ⟨d, rfl⟩ : ∃ e, d = e + 1 := ⟨d - 1, by omega⟩
  exact fn_ok (c := codeOf Try.f13) Try.func13 (by kernel_rfl) (rec := stack_Stack_SP.calls stack_Stack_live) (fun g a h k hx => by
    rcases stack_Stack_live.look d (by omega) hx with hx | hx
    rotate_left
    · exact hx
    cases hx) (loopf := stack_Stack_SP.loops) (by
    have e : loopsOf (stack_Stack_SP.loops) 0 (codeOf Try.f13) = [] := by kernel_rfl
    rw [e]
    intro p hp
    cases hp) ((stack_Stack_SP.eq stack_Stack_live k).trans hx)
theorem stack_Stack_SP.look (d : Nat) (hd : 2 ≤ d) {e : Option Bool} {g : FuncId} {a : List AV} {h : Heap} {k : KR} (hx : stack_Stack_SP.get stack_Stack_SP e g a h k = some true) : e = some true ∨ callK Try.prog ht d g a h k = some true := by
  unfold stack_Stack_SP.get at hx
  split at hx
  · exact .inr (stack_Stack_SP.ok d hd _ hx)
  · exact .inl hx
/-- function 14: (*sheerleg/stack.Stack).Seg -/
noncomputable def stack_Stack_Seg.body (stack_Stack_live : (Bool → Option Bool) → Option Bool) (k1 : (Int × Int × Int × Unit) → Option Bool) : Option Bool :=
  (stack_Stack_live
  (fun b37 => (cond_ (! b37) (k1 ((0 : Int), ((0 : Int), ((0 : Int), ())))) none)))
noncomputable def stack_Stack_Seg (k1 : (Int × Int × Int × Unit) → Option Bool) : Option Bool := stack_Stack_Seg.body stack_Stack_live k1
noncomputable def stack_Stack_Seg.get (F : ((Int × Int × Int × Unit) → Option Bool) → Option Bool) (e : Option Bool) (g : FuncId) (a : List AV) (h : Heap) (k : KR) : Option Bool := match g, a, h with
  | 14, [.nilp], [] => F (fun y0 => k (.d ⟨(.st [(.int .i64), (.int .i64), (.int .i64)]), y0⟩) [])
  | _, _, _ => e
noncomputable def stack_Stack_Seg.calls (F0 : (Bool → Option Bool) → Option Bool) : RecF := fun g a h k => (stack_Stack_live.get F0 none g a h k)
noncomputable def stack_Stack_Seg.loops : LoopF := fun b => none
set_option maxRecDepth 100000 in
theorem stack_Stack_Seg.eq (F0 : (Bool → Option Bool) → Option Bool) (k : KR) : execL Try.prog ht 14 (callfOf (stack_Stack_Seg.calls F0)) (stack_Stack_Seg.loops) 0 (codeOf Try.f14) ⟨[.nilp] ++ List.replicate (Try.f14.ntmps - ([.nilp] : List AV).length) .undef, [], 2⟩ (leave Try.prog Try.f14 k) = stack_Stack_Seg.body F0 (fun y0 => k (.d ⟨(.st [(.int .i64), (.int .i64), (.int .i64)]), y0⟩) []) := by kernel_rfl
theorem stack_Stack_Seg.ok (d : Nat) (hd : 2 ≤ d) (k : KR) (hx : stack_Stack_Seg (fun y0 => k (.d ⟨(.st [(.int .i64), (.int .i64), (.int .i64)]), y0⟩) []) = some true) : callK Try.prog ht d 14 [.nilp] [] k = some true := by
  obtain ⟨d, rfl⟩ : ∃ e, d = e + 1 := ⟨d - 1, by omega⟩
  exact fn_ok (c := codeOf Try.f14) Try.func14 (by kernel_rfl) (rec := stack_Stack_Seg.calls stack_Stack_live) (fun g a h k hx => by
    rcases stack_Stack_live.look d (by omega) hx with hx | hx
    rotate_left
    · exact hx
    cases hx) (loopf := stack_Stack_Seg.loops) (by
    have e : loopsOf (stack_Stack_Seg.loops) 0 (codeOf Try.f14) = [] := by kernel_rfl
    rw [e]
    intro p hp
    cases hp) ((stack_Stack_Seg.eq stack_Stack_live k).trans hx)
theorem stack_Stack_Seg.look (d : Nat) (hd : 2 ≤ d) {e : Option Bool} {g : FuncId} {a : List AV} {h : Heap} {k : KR} (hx : stack_Stack_Seg.get stack_Stack_Seg e g a h k = some true) : e = some true ∨ callK Try.prog ht d g a h k = some true := by
  unfold stack_Stack_Seg.get at hx
  split at hx
  · exact .inr (stack_Stack_Seg.ok d hd _ hx)
  · exact .inl hx
/-- function 33: (*sheerleg/stack.Stack).write -/
noncomputable def stack_Stack_write.body (stack_Stack_live : (Bool → Option Bool) → Option Bool) (n42 : Int) (n43 : Int) (k1 : Bool → Option Bool) : Option Bool :=
  (stack_Stack_live
  (fun b44 => (cond_ (! (! b44)) none (k1 false))))
noncomputable def stack_Stack_write (n42 : Int) (n43 : Int) (k1 : Bool → Option Bool) : Option Bool := stack_Stack_write.body stack_Stack_live n42 n43 k1
noncomputable def stack_Stack_write.get (F : Int → Int → (Bool → Option Bool) → Option Bool) (e : Option Bool) (g : FuncId) (a : List AV) (h : Heap) (k : KR) : Option Bool := match g, a, h with
  | 33, [.nilp, (.d ⟨(.int .i64), n42⟩), (.d ⟨(.int .i64), n43⟩)], [] => F n42 n43 (fun y0 => k (.d ⟨.bool, y0⟩) [])
  | _, _, _ => e
noncomputable def stack_Stack_write.calls (F0 : (Bool → Option Bool) → Option Bool) : RecF := fun g a h k => (stack_Stack_live.get F0 none g a h k)
noncomputable def stack_Stack_write.loops : LoopF := fun b => none
set_option maxRecDepth 100000 in
theorem stack_Stack_write.eq (F0 : (Bool → Option Bool) → Option Bool) (n42 : Int) (n43 : Int) (k : KR) : execL Try.prog ht 33 (callfOf (stack_Stack_write.calls F0)) (stack_Stack_write.loops) 0 (codeOf Try.f33) ⟨[.nilp, (.d ⟨(.int .i64), n42⟩), (.d ⟨(.int .i64), n43⟩)] ++ List.replicate (Try.f33.ntmps - ([.nilp, (.d ⟨(.int .i64), n42⟩), (.d ⟨(.int .i64), n43⟩)] : List AV).length) .undef, [], 2⟩ (leave Try.prog Try.f33 k) = stack_Stack_write.body F0 n42 n43 (fun y0 => k (.d ⟨.bool, y0⟩) []) := by kernel_rfl
theorem stack_Stack_write.ok (d : Nat) (hd : 2 ≤ d) (n42 : Int) (n43 : Int) (k : KR) (hx : stack_Stack_write n42 n43 (fun y0 => k (.d ⟨.bool, y0⟩) []) = some true) : callK Try.prog ht d 33 [.nilp, (.d ⟨(.int .i64), n42⟩), (.d ⟨(.int .i64), n43⟩)] [] k = some true := by
  obtain ⟨d, rfl⟩ : ∃ e, d = e + 1 := ⟨d - 1, by omega⟩
  exact fn_ok (c := codeOf Try.f33) Try.func33 (by kernel_rfl) (rec := stack_Stack_write.calls stack_Stack_live) (fun g a h k hx => by
    rcases stack_Stack_live.look d (by omega) hx with hx | hx
    rotate_left
    · exact hx
    cases hx) (loopf := stack_Stack_write.loops) (by
    have e : loopsOf (stack_Stack_write.loops) 0 (codeOf Try.f33) = [] := by kernel_rfl
    rw [e]
    intro p hp
    cases hp) ((stack_Stack_write.eq stack_Stack_live n42 n43 k).trans hx)
theorem stack_Stack_write.look (d : Nat) (hd : 2 ≤ d) {e : Option Bool} {g : FuncId} {a : List AV} {h : Heap} {k : KR} (hx : stack_Stack_write.get stack_Stack_write e g a h k = some true) : e = some true ∨ callK Try.prog ht d g a h k = some true := by
  unfold stack_Stack_write.get at hx
  split at hx
  · exact .inr (stack_Stack_write.ok d hd _ _ _ hx)
  · exact .inl hx
/-- function 32: (*sheerleg/stack.Stack).ahead -/
noncomputable def stack_Stack_ahead.body (stack_Stack_SP : (Int → Option Bool) → Option Bool) (stack_Stack_write : Int → Int → (Bool → Option Bool) → Option Bool) (n40 : Int) (k1 : Bool → Option Bool) : Option Bool :=
  (stack_Stack_SP
  (fun n41 => (stack_Stack_write (IntKind.wrap .i64 (n41 - (1 : Int))) n40
  (fun b45 => (k1 b45)))))
noncomputable def stack_Stack_ahead (n40 : Int) (k1 : Bool → Option Bool) : Option Bool := stack_Stack_ahead.body stack_Stack_SP stack_Stack_write n40 k1
noncomputable def stack_Stack_ahead.get (F : Int → (Bool → Option Bool) → Option Bool) (e : Option Bool) (g : FuncId) (a : List AV) (h : Heap) (k : KR) : Option Bool := match g, a, h with
  | 32, [.nilp, (.fn (.func 33) [.nilp] []), (.d ⟨(.int .i64), n40⟩)], [] => F n40 (fun y0 => k (.d ⟨.bool, y0⟩) [])
  | _, _, _ => e
noncomputable def stack_Stack_ahead.calls (F0 : (Int → Option Bool) → Option Bool) (F1 : Int → Int → (Bool → Option Bool) → Option Bool) : RecF := fun g a h k => (stack_Stack_SP.get F0 (stack_Stack_write.get F1 none g a h k) g a h k)
noncomputable def stack_Stack_ahead.loops : LoopF := fun b => none
set_option maxRecDepth 100000 in
theorem stack_Stack_ahead.eq (F0 : (Int → Option Bool) → Option Bool) (F1 : Int → Int → (Bool → Option Bool) → Option Bool) (n40 : Int) (k : KR) : execL Try.prog ht 32 (callfOf (stack_Stack_ahead.calls F0 F1)) (stack_Stack_ahead.loops) 0 (codeOf Try.f32) ⟨[.nilp, (.fn (.func 33) [.nilp] []), (.d ⟨(.int .i64), n40⟩)] ++ List.replicate (Try.f32.ntmps - ([.nilp, (.fn (.func 33) [.nilp] []), (.d ⟨(.int .i64), n40⟩)] : List AV).length) .undef, [], 2⟩ (leave Try.prog Try.f32 k) = stack_Stack_ahead.body F0 F1 n40 (fun y0 => k (.d ⟨.bool, y0⟩) []) := by kernel_rfl
theorem stack_Stack_ahead.ok (d : Nat) (hd : 3 ≤ d) (n40 : Int) (k : KR) (hx : stack_Stack_ahead n40 (fun y0 => k (.d ⟨.bool, y0⟩) []) = some true) : callK Try.prog ht d 32 [.nilp, (.fn (.func 33) [.nilp] []), (.d ⟨(.int .i64), n40⟩)] [] k = some true := by
  obtain ⟨d, rfl⟩ : ∃ e, d = e + 1 := ⟨d - 1, by omega⟩
  exact fn_ok (c := codeOf Try.f32) Try.func32 (by kernel_rfl) (rec := stack_Stack_ahead.calls stack_Stack_SP stack_Stack_write) (fun g a h k hx => by
    rcases stack_Stack_SP.look d (by omega) hx with hx | hx
    rotate_left
    · exact hx
    rcases stack_Stack_write.look d (by omega) hx with hx | hx
    rotate_left
    · exact hx
    cases hx) (loopf := stack_Stack_ahead.loops) (by
    have e : loopsOf (stack_Stack_ahead.loops) 0 (codeOf Try.f32) = [] := by kernel_rfl
    rw [e]
    intro p hp
    cases hp) ((stack_Stack_ahead.eq stack_Stack_SP stack_Stack_write n40 k).trans hx)
theorem stack_Stack_ahead.look (d : Nat) (hd : 3 ≤ d) {e : Option Bool} {g : FuncId} {a : List AV} {h : Heap} {k : KR} (hx : stack_Stack_ahead.get stack_Stack_ahead e g a h k = some true) : e = some true ∨ callK Try.prog ht d g a h k = some true := by
  unfold stack_Stack_ahead.get at hx
  split at hx
  · exact .inr (stack_Stack_ahead.ok d hd _ _ hx)
  · exact .inl hx
/-- function 10: (*sheerleg/stack.Stack).Push -/
noncomputable def stack_Stack_Push.body (stack_Stack_ahead : Int → (Bool → Option Bool) → Option Bool) (n39 : Int) (k1 : Bool → Option Bool) : Option Bool :=
  (stack_Stack_ahead n39
  (fun b46 => (cond_ (! b46) (k1 false) none)))
noncomputable def stack_Stack_Push (n39 : Int) (k1 : Bool → Option Bool) : Option Bool := stack_Stack_Push.body stack_Stack_ahead n39 k1
noncomputable def stack_Stack_Push.get (F : Int → (Bool → Option Bool) → Option Bool) (e : Option Bool) (g : FuncId) (a : List AV) (h : Heap) (k : KR) : Option Bool := match g, a, h with
  | 10, [.nilp, (.d ⟨(.int .i64), n39⟩)], [] => F n39 (fun y0 => k (.d ⟨.bool, y0⟩) [])
  | _, _, _ => e
noncomputable def stack_Stack_Push.calls (F0 : Int → (Bool → Option Bool) → Option Bool) : RecF := fun g a h k => (stack_Stack_ahead.get F0 none g a h k)
noncomputable def stack_Stack_Push.loops : LoopF := fun b => none
set_option maxRecDepth 100000 in
theorem stack_Stack_Push.eq (F0 : Int → (Bool → Option Bool) → Option Bool) (n39 : Int) (k : KR) : execL Try.prog ht 10 (callfOf (stack_Stack_Push.calls F0)) (stack_Stack_Push.loops) 0 (codeOf Try.f10) ⟨[.nilp, (.d ⟨(.int .i64), n39⟩)] ++ List.replicate (Try.f10.ntmps - ([.nilp, (.d ⟨(.int .i64), n39⟩)] : List AV).length) .undef, [], 2⟩ (leave Try.prog Try.f10 k) = stack_Stack_Push.body F0 n39 (fun y0 => k (.d ⟨.bool, y0⟩) []) := by kernel_rfl
theorem stack_Stack_Push.ok (d : Nat) (hd : 4 ≤ d) (n39 : Int) (k : KR) (hx : stack_Stack_Push n39 (fun y0 => k (.d ⟨.bool, y0⟩) []) = some true) : callK Try.prog ht d 10 [.nilp, (.d ⟨(.int .i64), n39⟩)] [] k = some true := by
  obtain ⟨d, rfl⟩ : ∃ e, d = e + 1 := ⟨d - 1, by omega⟩
  exact fn_ok (c := codeOf Try.f10) Try.func10 (by kernel_rfl) (rec := stack_Stack_Push.calls stack_Stack_ahead) (fun g a h k hx => by
    rcases stack_Stack_ahead.look d (by omega) hx with hx | hx
    rotate_left
    · exact hx
    cases hx) (loopf := stack_Stack_Push.loops) (by
    have e : loopsOf (stack_Stack_Push.loops) 0 (codeOf Try.f10) = [] := by kernel_rfl
    rw [e]
    intro p hp
    cases hp) ((stack_Stack_Push.eq stack_Stack_ahead n39 k).trans hx)
theorem stack_Stack_Push.look (d : Nat) (hd : 4 ≤ d) {e : Option Bool} {g : FuncId} {a : List AV} {h : Heap} {k : KR} (hx : stack_Stack_Push.get stack_Stack_Push e g a h k = some true) : e = some true ∨ callK Try.prog ht d g a h k = some true := by
  unfold stack_Stack_Push.get at hx
  split at hx
  · exact .inr (stack_Stack_Push.ok d hd _ _ hx)
  · exact .inl hx
/-- function 22: (*sheerleg/memory.Memory).Size -/
noncomputable def memory_Memory_Size.body (b57 : Bool) (ns58 : List Int) (k1 : Int → Bool → (List Int) → Option Bool) : Option Bool :=
  (cond_ (! b57) (k1 (0 : Int) b57 ns58) (k1 (((List.length ns58) : Nat) : Int) b57 ns58))
noncomputable def memory_Memory_Size (b57 : Bool) (ns58 : List Int) (k1 : Int → Bool → (List Int) → Option Bool) : Option Bool := memory_Memory_Size.body b57 ns58 k1
noncomputable def memory_Memory_Size.get (F : Bool → (List Int) → (Int → Bool → (List Int) → Option Bool) → Option Bool) (e : Option Bool) (g : FuncId) (a : List AV) (h : Heap) (k : KR) : Option Bool := match g, a, h with
  | 22, [(.ptr [0, 0] 0 0)], [([0, 0], ⟨61, 2, (.mix [(.agg [(.ref [0, 1]), (.d ⟨.bool, b57⟩)])])⟩), ([0, 1], ⟨2, 1, (.data (.int .i64) ns58)⟩)] => F b57 ns58 (fun y0 y1 y2 => k (.d ⟨(.int .i64), y0⟩) [([0, 0], ⟨61, 2, (.mix [(.agg [(.ref [0, 1]), (.d ⟨.bool, y1⟩)])])⟩), ([0, 1], ⟨2, 1, (.data (.int .i64) y2)⟩)])
  | _, _, _ => e
noncomputable def memory_Memory_Size.calls : RecF := fun g a h k => none
noncomputable def memory_Memory_Size.loops : LoopF := fun b => none
set_option maxRecDepth 100000 in
theorem memory_Memory_Size.eq (b57 : Bool) (ns58 : List Int) (k : KR) : execL Try.prog ht 22 (callfOf (memory_Memory_Size.calls)) (memory_Memory_Size.loops) 0 (codeOf Try.f22) ⟨[(.ptr [0, 0] 0 0)] ++ List.replicate (Try.f22.ntmps - ([(.ptr [0, 0] 0 0)] : List AV).length) .undef, [([0, 0], ⟨61, 2, (.mix [(.agg [(.ref [0, 1]), (.d ⟨.bool, b57⟩)])])⟩), ([0, 1], ⟨2, 1, (.data (.int .i64) ns58)⟩)], 2⟩ (leave Try.prog Try.f22 k) = memory_Memory_Size.body b57 ns58 (fun y0 y1 y2 => k (.d ⟨(.int .i64), y0⟩) [([0, 0], ⟨61, 2, (.mix [(.agg [(.ref [0, 1]), (.d ⟨.bool, y1⟩)])])⟩), ([0, 1], ⟨2, 1, (.data (.int .i64) y2)⟩)]) := by kernel_rfl
theorem memory_Memory_Size.ok (d : Nat) (hd : 1 ≤ d) (b57 : Bool) (ns58 : List Int) (k : KR) (hx : memory_Memory_Size b57 ns58 (fun y0 y1 y2 => k (.d ⟨(.int .i64), y0⟩) [([0, 0], ⟨61, 2, (.mix [(.agg [(.ref [0, 1]), (.d ⟨.bool, y1⟩)])])⟩), ([0, 1], ⟨2, 1, (.data (.int .i64) y2)⟩)]) = some true) : callK Try.prog ht d 22 [(.ptr [0, 0] 0 0)] [([0, 0], ⟨61, 2, (.mix [(.agg [(.ref [0, 1]), (.d ⟨.bool, b57⟩)])])⟩), ([0, 1], ⟨2, 1, (.data (.int .i64) ns58)⟩)] k = some true := by
  obtain ⟨d, rfl⟩ : ∃ e, d = e + 1 := ⟨d - 1, by omega⟩
  exact fn_ok (c := codeOf Try.f22) Try.func22 (by kernel_rfl) (rec := memory_Memory_Size.calls) (fun g a h k hx => by
    cases hx) (loopf := memory_Memory_Size.loops) (by
    have e : loopsOf (memory_Memory_Size.loops) 0 (codeOf Try.f22) = [] := by kernel_rfl
    rw [e]
    intro p hp
    cases hp) ((memory_Memory_Size.eq b57 ns58 k).trans hx)
theorem memory_Memory_Size.look (d : Nat) (hd : 1 ≤ d) {e : Option Bool} {g : FuncId} {a : List AV} {h : Heap} {k : KR} (hx : memory_Memory_Size.get memory_Memory_Size e g a h k = some true) : e = some true ∨ callK Try.prog ht d g a h k = some true := by
  unfold memory_Memory_Size.get at hx
  split at hx
  · exact .inr (memory_Memory_Size.ok d hd _ _ _ hx)
  · exact .inl hx
/-- function 16: (*sheerleg/stack.Stack).Id -/
noncomputable def stack_Stack_Id.body (stack_Stack_Seg : ((Int × Int × Int × Unit) → Option Bool) → Option Bool) (stack_Stack_SP : (Int → Option Bool) → Option Bool) (k1 : Int → Option Bool) : Option Bool :=
  (stack_Stack_Seg
  (fun t71 => (stack_Stack_SP
  (fun n72 => (k1 (IntKind.wrap .i64 (t71.2.2.1 - n72)))))))
noncomputable def stack_Stack_Id (k1 : Int → Option Bool) : Option Bool := stack_Stack_Id.body stack_Stack_Seg stack_Stack_SP k1
noncomputable def stack_Stack_Id.get (F : (Int → Option Bool) → Option Bool) (e : Option Bool) (g : FuncId) (a : List AV) (h : Heap) (k : KR) : Option Bool := match g, a, h with
  | 16, [.nilp], [] => F (fun y0 => k (.d ⟨(.int .i64), y0⟩) [])
  | _, _, _ => e
noncomputable def stack_Stack_Id.calls (F0 : ((Int × Int × Int × Unit) → Option Bool) → Option Bool) (F1 : (Int → Option Bool) → Option Bool) : RecF := fun g a h k => (stack_Stack_Seg.get F0 (stack_Stack_SP.get F1 none g a h k) g a h k)
noncomputable def stack_Stack_Id.loops : LoopF := fun b => none
set_option maxRecDepth 100000 in
theorem stack_Stack_Id.eq (F0 : ((Int × Int × Int × Unit) → Option Bool) → Option Bool) (F1 : (Int → Option Bool) → Option Bool) (k : KR) : execL Try.prog ht 16 (callfOf (stack_Stack_Id.calls F0 F1)) (stack_Stack_Id.loops) 0 (codeOf Try.f16) ⟨[.nilp] ++ List.replicate (Try.f16.ntmps - ([.nilp] : List AV).length) .undef, [], 2⟩ (leave Try.prog Try.f16 k) = stack_Stack_Id.body F0 F1 (fun y0 => k (.d ⟨(.int .i64), y0⟩) []) := by kernel_rfl
theorem stack_Stack_Id.ok (d : Nat) (hd : 3 ≤ d) (k : KR) (hx : stack_Stack_Id (fun y0 => k (.d ⟨(.int .i64), y0⟩) []) = some true) : callK Try.prog ht d 16 [.nilp] [] k = some true := by
  obtain ⟨d, rfl⟩ : ∃ e, d = e + 1 := ⟨d - 1, by omega⟩
  exact fn_ok (c := codeOf Try.f16) Try.func16 (by kernel_rfl) (rec := stack_Stack_Id.calls stack_Stack_Seg stack_Stack_SP) (fun g a h k hx => by
    rcases stack_Stack_Seg.look d (by omega) hx with hx | hx
    rotate_left
    · exact hx
    rcases stack_Stack_SP.look d (by omega) hx with hx | hx
    rotate_left
    · exact hx
    cases hx) (loopf := stack_Stack_Id.loops) (by
    have e : loopsOf (stack_Stack_Id.loops) 0 (codeOf Try.f16) = [] := by kernel_rfl
    rw [e]
    intro p hp
    cases hp) ((stack_Stack_Id.eq stack_Stack_Seg stack_Stack_SP k).trans hx)
theorem stack_Stack_Id.look (d : Nat) (hd : 3 ≤ d) {e : Option Bool} {g : FuncId} {a : List AV} {h : Heap} {k : KR} (hx : stack_Stack_Id.get stack_Stack_Id e g a h k = some true) : e = some true ∨ callK Try.prog ht d g a h k = some true := by
  unfold stack_Stack_Id.get at hx
  split at hx
  · exact .inr (stack_Stack_Id.ok d hd _ hx)
  · exact .inl hx
/-- function 48: (*sheerleg/stack.Stack).has -/
noncomputable def stack_Stack_has.body (stack_Stack_Id : (Int → Option Bool) → Option Bool) (n70 : Int) (k1 : Bool → Option Bool) : Option Bool :=
  (cond_ (decide (n70 ≥ (0 : Int))) (stack_Stack_Id
  (fun n73 => (k1 (decide (n70 < n73))))) (k1 false))
noncomputable def stack_Stack_has (n70 : Int) (k1 : Bool → Option Bool) : Option Bool := stack_Stack_has.body stack_Stack_Id n70 k1
noncomputable def stack_Stack_has.get (F : Int → (Bool → Option Bool) → Option Bool) (e : Option Bool) (g : FuncId) (a : List AV) (h : Heap) (k : KR) : Option Bool := match g, a, h with
  | 48, [.nilp, (.d ⟨(.int .i64), n70⟩)], [] => F n70 (fun y0 => k (.d ⟨.bool, y0⟩) [])
  | _, _, _ => e
noncomputable def stack_Stack_has.calls (F0 : (Int → Option Bool) → Option Bool) : RecF := fun g a h k => (stack_Stack_Id.get F0 none g a h k)
noncomputable def stack_Stack_has.loops : LoopF := fun b => none
set_option maxRecDepth 100000 in
theorem stack_Stack_has.eq (F0 : (Int → Option Bool) → Option Bool) (n70 : Int) (k : KR) : execL Try.prog ht 48 (callfOf (stack_Stack_has.calls F0)) (stack_Stack_has.loops) 0 (codeOf Try.f48) ⟨[.nilp, (.d ⟨(.int .i64), n70⟩)] ++ List.replicate (Try.f48.ntmps - ([.nilp, (.d ⟨(.int .i64), n70⟩)] : List AV).length) .undef, [], 2⟩ (leave Try.prog Try.f48 k) = stack_Stack_has.body F0 n70 (fun y0 => k (.d ⟨.bool, y0⟩) []) := by kernel_rfl
theorem stack_Stack_has.ok (d : Nat) (hd : 4 ≤ d) (n70 : Int) (k : KR) (hx : stack_Stack_has n70 (fun y0 => k (.d ⟨.bool, y0⟩) []) = some true) : callK Try.prog ht d 48 [.nilp, (.d ⟨(.int .i64), n70⟩)] [] k = some true := by
  obtain ⟨d, rfl⟩ : ∃ e, d = e + 1 := ⟨d - 1, by omega⟩
  exact fn_ok (c := codeOf Try.f48) Try.func48 (by kernel_rfl) (rec := stack_Stack_has.calls stack_Stack_Id) (fun g a h k hx => by
    rcases stack_Stack_Id.look d (by omega) hx with hx | hx
    rotate_left
    · exact hx
    cases hx) (loopf := stack_Stack_has.loops) (by
    have e : loopsOf (stack_Stack_has.loops) 0 (codeOf Try.f48) = [] := by kernel_rfl
    rw [e]
    intro p hp
    cases hp) ((stack_Stack_has.eq stack_Stack_Id n70 k).trans hx)
theorem stack_Stack_has.look (d : Nat) (hd : 4 ≤ d) {e : Option Bool} {g : FuncId} {a : List AV} {h : Heap} {k : KR} (hx : stack_Stack_has.get stack_Stack_has e g a h k = some true) : e = some true ∨ callK Try.prog ht d g a h k = some true := by
  unfold stack_Stack_has.get at hx
  split at hx
  · exact .inr (stack_Stack_has.ok d hd _ _ hx)
  · exact .inl hx
/-- function 23: (*sheerleg/stack.Stack).Get -/
noncomputable def stack_Stack_Get.body (stack_Stack_has : Int → (Bool → Option Bool) → Option Bool) (n69 : Int) (k1 : Int → Bool → Option Bool) : Option Bool :=
  (stack_Stack_has n69
  (fun b74 => (cond_ (! b74) (k1 (0 : Int) false) none)))
noncomputable def stack_Stack_Get (n69 : Int) (k1 : Int → Bool → Option Bool) : Option Bool := stack_Stack_Get.body stack_Stack_has n69 k1
noncomputable def stack_Stack_Get.get (F : Int → (Int → Bool → Option Bool) → Option Bool) (e : Option Bool) (g : FuncId) (a : List AV) (h : Heap) (k : KR) : Option Bool := match g, a, h with
  | 23, [.nilp, (.d ⟨(.int .i64), n69⟩)], [] => F n69 (fun y0 y1 => k (.tup [(.d ⟨(.int .i64), y0⟩), (.d ⟨.bool, y1⟩)]) [])
  | _, _, _ => e
noncomputable def stack_Stack_Get.calls (F0 : Int → (Bool → Option Bool) → Option Bool) : RecF := fun g a h k => (stack_Stack_has.get F0 none g a h k)
noncomputable def stack_Stack_Get.loops : LoopF := fun b => none
set_option maxRecDepth 100000 in
theorem stack_Stack_Get.eq (F0 : Int → (Bool → Option Bool) → Option Bool) (n69 : Int) (k : KR) : execL Try.prog ht 23 (callfOf (stack_Stack_Get.calls F0)) (stack_Stack_Get.loops) 0 (codeOf Try.f23) ⟨[.nilp, (.d ⟨(.int .i64), n69⟩)] ++ List.replicate (Try.f23.ntmps - ([.nilp, (.d ⟨(.int .i64), n69⟩)] : List AV).length) .undef, [], 2⟩ (leave Try.prog Try.f23 k) = stack_Stack_Get.body F0 n69 (fun y0 y1 => k (.tup [(.d ⟨(.int .i64), y0⟩), (.d ⟨.bool, y1⟩)]) []) := by kernel_rfl
theorem stack_Stack_Get.ok (d : Nat) (hd : 5 ≤ d) (n69 : Int) (k : KR) (hx : stack_Stack_Get n69 (fun y0 y1 => k (.tup [(.d ⟨(.int .i64), y0⟩), (.d ⟨.bool, y1⟩)]) []) = some true) : callK Try.prog ht d 23 [.nilp, (.d ⟨(.int .i64), n69⟩)] [] k = some true := by
  obtain ⟨d, rfl⟩ : ∃ e, d = e + 1 := ⟨d - 1, by omega⟩
  exact fn_ok (c := codeOf Try.f23) Try.func23 (by kernel_rfl) (rec := stack_Stack_Get.calls stack_Stack_has) (fun g a h k hx => by
    rcases stack_Stack_has.look d (by omega) hx with hx | hx
    rotate_left
    · exact hx
    cases hx) (loopf := stack_Stack_Get.loops) (by
    have e : loopsOf (stack_Stack_Get.loops) 0 (codeOf Try.f23) = [] := by kernel_rfl
    rw [e]
    intro p hp
    cases hp) ((stack_Stack_Get.eq stack_Stack_has n69 k).trans hx)
theorem stack_Stack_Get.look (d : Nat) (hd : 5 ≤ d) {e : Option Bool} {g : FuncId} {a : List AV} {h : Heap} {k : KR} (hx : stack_Stack_Get.get stack_Stack_Get e g a h k = some true) : e = some true ∨ callK Try.prog ht d g a h k = some true := by
  unfold stack_Stack_Get.get at hx
  split at hx
  · exact .inr (stack_Stack_Get.ok d hd _ _ hx)
  · exact .inl hx
/-- function 15: (*sheerleg/stack.Stack).Pop -/
noncomputable def stack_Stack_Pop.body (stack_Stack_Get : Int → (Int → Bool → Option Bool) → Option Bool) (k1 : Int → Bool → Option Bool) : Option Bool :=
  (stack_Stack_Get (0 : Int)
  (fun n75 b76 => (cond_ b76 none (k1 n75 b76))))
noncomputable def stack_Stack_Pop (k1 : Int → Bool → Option Bool) : Option Bool := stack_Stack_Pop.body stack_Stack_Get k1
noncomputable def stack_Stack_Pop.get (F : (Int → Bool → Option Bool) → Option Bool) (e : Option Bool) (g : FuncId) (a : List AV) (h : Heap) (k : KR) : Option Bool := match g, a, h with
  | 15, [.nilp], [] => F (fun y0 y1 => k (.tup [(.d ⟨(.int .i64), y0⟩), (.d ⟨.bool, y1⟩)]) [])
  | _, _, _ => e
noncomputable def stack_Stack_Pop.calls (F0 : Int → (Int → Bool → Option Bool) → Option Bool) : RecF := fun g a h k => (stack_Stack_Get.get F0 none g a h k)
noncomputable def stack_Stack_Pop.loops : LoopF := fun b => none
set_option maxRecDepth 100000 in
theorem stack_Stack_Pop.eq (F0 : Int → (Int → Bool → Option Bool) → Option Bool) (k : KR) : execL Try.prog ht 15 (callfOf (stack_Stack_Pop.calls F0)) (stack_Stack_Pop.loops) 0 (codeOf Try.f15) ⟨[.nilp] ++ List.replicate (Try.f15.ntmps - ([.nilp] : List AV).length) .undef, [], 2⟩ (leave Try.prog Try.f15 k) = stack_Stack_Pop.body F0 (fun y0 y1 => k (.tup [(.d ⟨(.int .i64), y0⟩), (.d ⟨.bool, y1⟩)]) []) := by kernel_rfl
theorem stack_Stack_Pop.ok (d : Nat) (hd : 6 ≤ d) (k : KR) (hx : stack_Stack_Pop (fun y0 y1 => k (.tup [(.d ⟨(.int .i64), y0⟩), (.d ⟨.bool, y1⟩)]) []) = some true) : callK Try.prog ht d 15 [.nilp] [] k = some true := by
  obtain ⟨d, rfl⟩ : ∃ e, d = e + 1 := ⟨d - 1, by omega⟩
  exact fn_ok (c := codeOf Try.f15) Try.func15 (by kernel_rfl) (rec := stack_Stack_Pop.calls stack_Stack_Get) (fun g a h k hx => by
    rcases stack_Stack_Get.look d (by omega) hx with hx | hx
    rotate_left
    · exact hx
    cases hx) (loopf := stack_Stack_Pop.loops) (by
    have e : loopsOf (stack_Stack_Pop.loops) 0 (codeOf Try.f15) = [] := by kernel_rfl
    rw [e]
    intro p hp
    cases hp) ((stack_Stack_Pop.eq stack_Stack_Get k).trans hx)
theorem stack_Stack_Pop.look (d : Nat) (hd : 6 ≤ d) {e : Option Bool} {g : FuncId} {a : List AV} {h : Heap} {k : KR} (hx : stack_Stack_Pop.get stack_Stack_Pop e g a h k = some true) : e = some true ∨ callK Try.prog ht d g a h k = some true := by
  unfold stack_Stack_Pop.get at hx
  split at hx
  · exact .inr (stack_Stack_Pop.ok d hd _ hx)
  · exact .inl hx
/-- function 49: (*sheerleg/stack.Stack).may -/
noncomputable def stack_Stack_may.body (stack_Stack_live : (Bool → Option Bool) → Option Bool) (n101 : Int) (n102 : Int) (k1 : Bool → Option Bool) : Option Bool :=
  (stack_Stack_live
  (fun b103 => (cond_ b103 (cond_ (decide (n101 ≥ (0 : Int))) (k1 (decide (n101 ≤ n102))) (k1 false)) (k1 false))))
noncomputable def stack_Stack_may (n101 : Int) (n102 : Int) (k1 : Bool → Option Bool) : Option Bool := stack_Stack_may.body stack_Stack_live n101 n102 k1
noncomputable def stack_Stack_may.get (F : Int → Int → (Bool → Option Bool) → Option Bool) (e : Option Bool) (g : FuncId) (a : List AV) (h : Heap) (k : KR) : Option Bool := match g, a, h with
  | 49, [.nilp, (.d ⟨(.int .i64), n101⟩), (.d ⟨(.int .i64), n102⟩)], [] => F n101 n102 (fun y0 => k (.d ⟨.bool, y0⟩) [])
  | _, _, _ => e
noncomputable def stack_Stack_may.calls (F0 : (Bool → Option Bool) → Option Bool) : RecF := fun g a h k => (stack_Stack_live.get F0 none g a h k)
noncomputable def stack_Stack_may.loops : LoopF := fun b => none
set_option maxRecDepth 100000 in
theorem stack_Stack_may.eq (F0 : (Bool → Option Bool) → Option Bool) (n101 : Int) (n102 : Int) (k : KR) : execL Try.prog ht 49 (callfOf (stack_Stack_may.calls F0)) (stack_Stack_may.loops) 0 (codeOf Try.f49) ⟨[.nilp, (.d ⟨(.int .i64), n101⟩), (.d ⟨(.int .i64), n102⟩)] ++ List.replicate (Try.f49.ntmps - ([.nilp, (.d ⟨(.int .i64), n101⟩), (.d ⟨(.int .i64), n102⟩)] : List AV).length) .undef, [], 2⟩ (leave Try.prog Try.f49 k) = stack_Stack_may.body F0 n101 n102 (fun y0 => k (.d ⟨.bool, y0⟩) []) := by kernel_rfl
theorem stack_Stack_may.ok (d : Nat) (hd : 2 ≤ d) (n101 : Int) (n102 : Int) (k : KR) (hx : stack_Stack_may n101 n102 (fun y0 => k (.d ⟨.bool, y0⟩) []) = some true) : callK Try.prog ht d 49 [.nilp, (.d ⟨(.int .i64), n101⟩), (.d ⟨(.int .i64), n102⟩)] [] k = some true := by
  obtain ⟨d, rfl⟩ : ∃ e, d = e + 1 := ⟨d - 1, by omega⟩
  exact fn_ok (c := codeOf Try.f49) Try.func49 (by kernel_rfl) (rec := stack_Stack_may.calls stack_Stack_live) (fun g a h k hx => by
    rcases stack_Stack_live.look d (by omega) hx with hx | hx
    rotate_left
    · exact hx
    cases hx) (loopf := stack_Stack_may.loops) (by
    have e : loopsOf (stack_Stack_may.loops) 0 (codeOf Try.f49) = [] := by kernel_rfl
    rw [e]
    intro p hp
    cases hp) ((stack_Stack_may.eq stack_Stack_live n101 n102 k).trans hx)
theorem stack_Stack_may.look (d : Nat) (hd : 2 ≤ d) {e : Option Bool} {g : FuncId} {a : List AV} {h : Heap} {k : KR} (hx : stack_Stack_may.get stack_Stack_may e g a h k = some true) : e = some true ∨ callK Try.prog ht d g a h k = some true := by
  unfold stack_Stack_may.get at hx
  split at hx
  · exact .inr (stack_Stack_may.ok d hd _ _ _ hx)
  · exact .inl hx
/-- function 25: (*sheerleg/stack.Stack).Down -/
noncomputable def stack_Stack_Down.body (stack_Stack_SP : (Int → Option Bool) → Option Bool) (stack_Stack_Seg : ((Int × Int × Int × Unit) → Option Bool) → Option Bool) (stack_Stack_may : Int → Int → (Bool → Option Bool) → Option Bool) (n98 : Int) (k1 : Bool → Option Bool) : Option Bool :=
  (stack_Stack_SP
  (fun n99 => (stack_Stack_Seg
  (fun t100 => (stack_Stack_may n98 (IntKind.wrap .i64 (n99 - t100.1))
  (fun b104 => (cond_ (! b104) (k1 false) none)))))))
noncomputable def stack_Stack_Down (n98 : Int) (k1 : Bool → Option Bool) : Option Bool := stack_Stack_Down.body stack_Stack_SP stack_Stack_Seg stack_Stack_may n98 k1
noncomputable def stack_Stack_Down.get (F : Int → (Bool → Option Bool) → Option Bool) (e : Option Bool) (g : FuncId) (a : List AV) (h : Heap) (k : KR) : Option Bool := match g, a, h with
  | 25, [.nilp, (.d ⟨(.int .i64), n98⟩)], [] => F n98 (fun y0 => k (.d ⟨.bool, y0⟩) [])
  | _, _, _ => e
noncomputable def stack_Stack_Down.calls (F0 : (Int → Option Bool) → Option Bool) (F1 : ((Int × Int × Int × Unit) → Option Bool) → Option Bool) (F2 : Int → Int → (Bool → Option Bool) → Option Bool) : RecF := fun g a h k => (stack_Stack_SP.get F0 (stack_Stack_Seg.get F1 (stack_Stack_may.get F2 none g a h k) g a h k) g a h k)
noncomputable def stack_Stack_Down.loops : LoopF := fun b => none
set_option maxRecDepth 100000 in
theorem stack_Stack_Down.eq (F0 : (Int → Option Bool) → Option Bool) (F1 : ((Int × Int × Int × Unit) → Option Bool) → Option Bool) (F2 : Int → Int → (Bool → Option Bool) → Option Bool) (n98 : Int) (k : KR) : execL Try.prog ht 25 (callfOf (stack_Stack_Down.calls F0 F1 F2)) (stack_Stack_Down.loops) 0 (codeOf Try.f25) ⟨[.nilp, (.d ⟨(.int .i64), n98⟩)] ++ List.replicate (Try.f25.ntmps - ([.nilp, (.d ⟨(.int .i64), n98⟩)] : List AV).length) .undef, [], 2⟩ (leave Try.prog Try.f25 k) = stack_Stack_Down.body F0 F1 F2 n98 (fun y0 => k (.d ⟨.bool, y0⟩) []) := by kernel_rfl
theorem stack_Stack_Down.ok (d : Nat) (hd : 3 ≤ d) (n98 : Int) (k : KR) (hx : stack_Stack_Down n98 (fun y0 => k (.d ⟨.bool, y0⟩) []) = some true) : callK Try.prog ht d 25 [.nilp, (.d ⟨(.int .i64), n98⟩)] [] k = some true := by
  obtain ⟨d, rfl⟩ : ∃ e, d = e + 1 := ⟨d - 1, by omega⟩
  exact fn_ok (c := codeOf Try.f25) Try.func25 (by kernel_rfl) (rec := stack_Stack_Down.calls stack_Stack_SP stack_Stack_Seg stack_Stack_may) (fun g a h k hx => by
    rcases stack_Stack_SP.look d (by omega) hx with hx | hx
    rotate_left
    · exact hx
    rcases stack_Stack_Seg.look d (by omega) hx with hx | hx
    rotate_left
    · exact hx
    rcases stack_Stack_may.look d (by omega) hx with hx | hx
    rotate_left
    · exact hx
    cases hx) (loopf := stack_Stack_Down.loops) (by
    have e : loopsOf (stack_Stack_Down.loops) 0 (codeOf Try.f25) = [] := by kernel_rfl
    rw [e]
    intro p hp
    cases hp) ((stack_Stack_Down.eq stack_Stack_SP stack_Stack_Seg stack_Stack_may n98 k).trans hx)
theorem stack_Stack_Down.look (d : Nat) (hd : 3 ≤ d) {e : Option Bool} {g : FuncId} {a : List AV} {h : Heap} {k : KR} (hx : stack_Stack_Down.get stack_Stack_Down e g a h k = some true) : e = some true ∨ callK Try.prog ht d g a h k = some true := by
  unfold stack_Stack_Down.get at hx
  split at hx
  · exact .inr (stack_Stack_Down.ok d hd _ _ hx)
  · exact .inl hx
/-- function 26: (*sheerleg/stack.Stack).Up -/
noncomputable def stack_Stack_Up.body (stack_Stack_Id : (Int → Option Bool) → Option Bool) (stack_Stack_may : Int → Int → (Bool → Option Bool) → Option Bool) (n125 : Int) (k1 : Bool → Option Bool) : Option Bool :=
  (stack_Stack_Id
  (fun n126 => (stack_Stack_may n125 n126
  (fun b127 => (cond_ (! b127) (k1 false) none)))))
noncomputable def stack_Stack_Up (n125 : Int) (k1 : Bool → Option Bool) : Option Bool := stack_Stack_Up.body stack_Stack_Id stack_Stack_may n125 k1
noncomputable def stack_Stack_Up.get (F : Int → (Bool → Option Bool) → Option Bool) (e : Option Bool) (g : FuncId) (a : List AV) (h : Heap) (k : KR) : Option Bool := match g, a, h with
  | 26, [.nilp, (.d ⟨(.int .i64), n125⟩)], [] => F n125 (fun y0 => k (.d ⟨.bool, y0⟩) [])
  | _, _, _ => e
noncomputable def stack_Stack_Up.calls (F0 : (Int → Option Bool) → Option Bool) (F1 : Int → Int → (Bool → Option Bool) → Option Bool) : RecF := fun g a h k => (stack_Stack_Id.get F0 (stack_Stack_may.get F1 none g a h k) g a h k)
noncomputable def stack_Stack_Up.loops : LoopF := fun b => none
set_option maxRecDepth 100000 in
theorem stack_Stack_Up.eq (F0 : (Int → Option Bool) → Option Bool) (F1 : Int → Int → (Bool → Option Bool) → Option Bool) (n125 : Int) (k : KR) : execL Try.prog ht 26 (callfOf (stack_Stack_Up.calls F0 F1)) (stack_Stack_Up.loops) 0 (codeOf Try.f26) ⟨[.nilp, (.d ⟨(.int .i64), n125⟩)] ++ List.replicate (Try.f26.ntmps - ([.nilp, (.d ⟨(.int .i64), n125⟩)] : List AV).length) .undef, [], 2⟩ (leave Try.prog Try.f26 k) = stack_Stack_Up.body F0 F1 n125 (fun y0 => k (.d ⟨.bool, y0⟩) []) := by kernel_rfl
theorem stack_Stack_Up.ok (d : Nat) (hd : 4 ≤ d) (n125 : Int) (k : KR) (hx : stack_Stack_Up n125 (fun y0 => k (.d ⟨.bool, y0⟩) []) = some true) : callK Try.prog ht d 26 [.nilp, (.d ⟨(.int .i64), n125⟩)] [] k = some true := by
  obtain ⟨d, rfl⟩ : ∃ e, d = e + 1 := ⟨d - 1, by omega⟩
  exact fn_ok (c := codeOf Try.f26) Try.func26 (by kernel_rfl) (rec := stack_Stack_Up.calls stack_Stack_Id stack_Stack_may) (fun g a h k hx => by
    rcases stack_Stack_Id.look d (by omega) hx with hx | hx
    rotate_left
    · exact hx
    rcases stack_Stack_may.look d (by omega) hx with hx | hx
    rotate_left
    · exact hx
    cases hx) (loopf := stack_Stack_Up.loops) (by
    have e : loopsOf (stack_Stack_Up.loops) 0 (codeOf Try.f26) = [] := by kernel_rfl
    rw [e]
    intro p hp
    cases hp) ((stack_Stack_Up.eq stack_Stack_Id stack_Stack_may n125 k).trans hx)
theorem stack_Stack_Up.look (d : Nat) (hd : 4 ≤ d) {e : Option Bool} {g : FuncId} {a : List AV} {h : Heap} {k : KR} (hx : stack_Stack_Up.get stack_Stack_Up e g a h k = some true) : e = some true ∨ callK Try.prog ht d g a h k = some true := by
  unfold stack_Stack_Up.get at hx
  split at hx
  · exact .inr (stack_Stack_Up.ok d hd _ _ hx)
  · exact .inl hx
/-- function 24: (*sheerleg/stack.Stack).Set -/
noncomputable def stack_Stack_Set.body (stack_Stack_has : Int → (Bool → Option Bool) → Option Bool) (n148 : Int) (n149 : Int) (k1 : Bool → Option Bool) : Option Bool :=
  (stack_Stack_has n148
  (fun b150 => (cond_ b150 none (k1 false))))
noncomputable def stack_Stack_Set (n148 : Int) (n149 : Int) (k1 : Bool → Option Bool) : Option Bool := stack_Stack_Set.body stack_Stack_has n148 n149 k1
noncomputable def stack_Stack_Set.get (F : Int → Int → (Bool → Option Bool) → Option Bool) (e : Option Bool) (g : FuncId) (a : List AV) (h : Heap) (k : KR) : Option Bool := match g, a, h with
  | 24, [.nilp, (.d ⟨(.int .i64), n148⟩), (.d ⟨(.int .i64), n149⟩)], [] => F n148 n149 (fun y0 => k (.d ⟨.bool, y0⟩) [])
  | _, _, _ => e
noncomputable def stack_Stack_Set.calls (F0 : Int → (Bool → Option Bool) → Option Bool) : RecF := fun g a h k => (stack_Stack_has.get F0 none g a h k)
noncomputable def stack_Stack_Set.loops : LoopF := fun b => none
set_option maxRecDepth 100000 in
theorem stack_Stack_Set.eq (F0 : Int → (Bool → Option Bool) → Option Bool) (n148 : Int) (n149 : Int) (k : KR) : execL Try.prog ht 24 (callfOf (stack_Stack_Set.calls F0)) (stack_Stack_Set.loops) 0 (codeOf Try.f24) ⟨[.nilp, (.d ⟨(.int .i64), n148⟩), (.d ⟨(.int .i64), n149⟩)] ++ List.replicate (Try.f24.ntmps - ([.nilp, (.d ⟨(.int .i64), n148⟩), (.d ⟨(.int .i64), n149⟩)] : List AV).length) .undef, [], 2⟩ (leave Try.prog Try.f24 k) = stack_Stack_Set.body F0 n148 n149 (fun y0 => k (.d ⟨.bool, y0⟩) []) := by kernel_rfl
theorem stack_Stack_Set.ok (d : Nat) (hd : 5 ≤ d) (n148 : Int) (n149 : Int) (k : KR) (hx : stack_Stack_Set n148 n149 (fun y0 => k (.d ⟨.bool, y0⟩) []) = some true) : callK Try.prog ht d 24 [.nilp, (.d ⟨(.int .i64), n148⟩), (.d ⟨(.int .i64), n149⟩)] [] k = some true := by
  obtain ⟨d, rfl⟩ : ∃ e, d = e + 1 := ⟨d - 1, by omega⟩
  exact fn_ok (c := codeOf Try.f24) Try.func24 (by kernel_rfl) (rec := stack_Stack_Set.calls stack_Stack_has) (fun g a h k hx => by
    rcases stack_Stack_has.look d (by omega) hx with hx | hx
    rotate_left
    · exact hx
    cases hx) (loopf := stack_Stack_Set.loops) (by
    have e : loopsOf (stack_Stack_Set.loops) 0 (codeOf Try.f24) = [] := by kernel_rfl
    rw [e]
    intro p hp
    cases hp) ((stack_Stack_Set.eq stack_Stack_has n148 n149 k).trans hx)
theorem stack_Stack_Set.look (d : Nat) (hd : 5 ≤ d) {e : Option Bool} {g : FuncId} {a : List AV} {h : Heap} {k : KR} (hx : stack_Stack_Set.get stack_Stack_Set e g a h k = some true) : e = some true ∨ callK Try.prog ht d g a h k = some true := by
  unfold stack_Stack_Set.get at hx
  split at hx
  · exact .inr (stack_Stack_Set.ok d hd _ _ _ hx)
  · exact .inl hx
/-- function 27: (*sheerleg/stack.Stack).Spill -/
noncomputable def stack_Stack_Spill.body (stack_Stack_ahead : Int → (Bool → Option Bool) → Option Bool) (k1 : Bool → Option Bool) : Option Bool :=
  (stack_Stack_ahead (0 : Int)
  (fun b171 => (k1 b171)))
noncomputable def stack_Stack_Spill (k1 : Bool → Option Bool) : Option Bool := stack_Stack_Spill.body stack_Stack_ahead k1
noncomputable def stack_Stack_Spill.get (F : (Bool → Option Bool) → Option Bool) (e : Option Bool) (g : FuncId) (a : List AV) (h : Heap) (k : KR) : Option Bool := match g, a, h with
  | 27, [.nilp], [] => F (fun y0 => k (.d ⟨.bool, y0⟩) [])
  | _, _, _ => e
noncomputable def stack_Stack_Spill.calls (F0 : Int → (Bool → Option Bool) → Option Bool) : RecF := fun g a h k => (stack_Stack_ahead.get F0 none g a h k)
noncomputable def stack_Stack_Spill.loops : LoopF := fun b => none
set_option maxRecDepth 100000 in
theorem stack_Stack_Spill.eq (F0 : Int → (Bool → Option Bool) → Option Bool) (k : KR) : execL Try.prog ht 27 (callfOf (stack_Stack_Spill.calls F0)) (stack_Stack_Spill.loops) 0 (codeOf Try.f27) ⟨[.nilp] ++ List.replicate (Try.f27.ntmps - ([.nilp] : List AV).length) .undef, [], 2⟩ (leave Try.prog Try.f27 k) = stack_Stack_Spill.body F0 (fun y0 => k (.d ⟨.bool, y0⟩) []) := by kernel_rfl
theorem stack_Stack_Spill.ok (d : Nat) (hd : 4 ≤ d) (k : KR) (hx : stack_Stack_Spill (fun y0 => k (.d ⟨.bool, y0⟩) []) = some true) : callK Try.prog ht d 27 [.nilp] [] k = some true := by
  obtain ⟨d, rfl⟩ : ∃ e, d = e + 1 := ⟨d - 1, by omega⟩
  exact fn_ok (c := codeOf Try.f27) Try.func27 (by kernel_rfl) (rec := stack_Stack_Spill.calls stack_Stack_ahead) (fun g a h k hx => by
    rcases stack_Stack_ahead.look d (by omega) hx with hx | hx
    rotate_left
    · exact hx
    cases hx) (loopf := stack_Stack_Spill.loops) (by
    have e : loopsOf (stack_Stack_Spill.loops) 0 (codeOf Try.f27) = [] := by kernel_rfl
    rw [e]
    intro p hp
    cases hp) ((stack_Stack_Spill.eq stack_Stack_ahead k).trans hx)
theorem stack_Stack_Spill.look (d : Nat) (hd : 4 ≤ d) {e : Option Bool} {g : FuncId} {a : List AV} {h : Heap} {k : KR} (hx : stack_Stack_Spill.get stack_Stack_Spill e g a h k = some true) : e = some true ∨ callK Try.prog ht d g a h k = some true := by
  unfold stack_Stack_Spill.get at hx
  split at hx
  · exact .inr (stack_Stack_Spill.ok d hd _ hx)
  · exact .inl hx
/-- function 11: (*sheerleg/stack.Stack).Grow -/
noncomputable def stack_Stack_Grow.body (stack_Stack_live : (Bool → Option Bool) → Option Bool) (stack_Stack_Id : (Int → Option Bool) → Option Bool) (n192 : Int) (k1 : Bool → Option Bool) : Option Bool :=
  (stack_Stack_live
  (fun b193 => (cond_ (! (! b193)) (cond_ (decide (n192 > (1048576 : Int))) (k1 false) (stack_Stack_Id
  (fun n194 => none))) (k1 false))))
noncomputable def stack_Stack_Grow (n192 : Int) (k1 : Bool → Option Bool) : Option Bool := stack_Stack_Grow.body stack_Stack_live stack_Stack_Id n192 k1
noncomputable def stack_Stack_Grow.get (F : Int → (Bool → Option Bool) → Option Bool) (e : Option Bool) (g : FuncId) (a : List AV) (h : Heap) (k : KR) : Option Bool := match g, a, h with
  | 11, [.nilp, (.d ⟨(.int .i64), n192⟩)], [] => F n192 (fun y0 => k (.d ⟨.bool, y0⟩) [])
  | _, _, _ => e
noncomputable def stack_Stack_Grow.calls (F0 : (Bool → Option Bool) → Option Bool) (F1 : (Int → Option Bool) → Option Bool) : RecF := fun g a h k => (stack_Stack_live.get F0 (stack_Stack_Id.get F1 none g a h k) g a h k)
noncomputable def stack_Stack_Grow.loops : LoopF := fun b => none
set_option maxRecDepth 100000 in
theorem stack_Stack_Grow.eq (F0 : (Bool → Option Bool) → Option Bool) (F1 : (Int → Option Bool) → Option Bool) (n192 : Int) (k : KR) : execL Try.prog ht 11 (callfOf (stack_Stack_Grow.calls F0 F1)) (stack_Stack_Grow.loops) 0 (codeOf Try.f11) ⟨[.nilp, (.d ⟨(.int .i64), n192⟩)] ++ List.replicate (Try.f11.ntmps - ([.nilp, (.d ⟨(.int .i64), n192⟩)] : List AV).length) .undef, [], 2⟩ (leave Try.prog Try.f11 k) = stack_Stack_Grow.body F0 F1 n192 (fun y0 => k (.d ⟨.bool, y0⟩) []) := by kernel_rfl
theorem stack_Stack_Grow.ok (d : Nat) (hd : 4 ≤ d) (n192 : Int) (k : KR) (hx : stack_Stack_Grow n192 (fun y0 => k (.d ⟨.bool, y0⟩) []) = some true) : callK Try.prog ht d 11 [.nilp, (.d ⟨(.int .i64), n192⟩)] [] k = some true := by
  obtain ⟨d, rfl⟩ : ∃ e, d = e + 1 := ⟨d - 1, by omega⟩
  exact fn_ok (c := codeOf Try.f11) Try.func11 (by kernel_rfl) (rec := stack_Stack_Grow.calls stack_Stack_live stack_Stack_Id) (fun g a h k hx => by
    rcases stack_Stack_live.look d (by omega) hx with hx | hx
    rotate_left
    · exact hx
    rcases stack_Stack_Id.look d (by omega) hx with hx | hx
    rotate_left
    · exact hx
    cases hx) (loopf := stack_Stack_Grow.loops) (by
    have e : loopsOf (stack_Stack_Grow.loops) 0 (codeOf Try.f11) = [] := by kernel_rfl
    rw [e]
    intro p hp
    cases hp) ((stack_Stack_Grow.eq stack_Stack_live stack_Stack_Id n192 k).trans hx)
theorem stack_Stack_Grow.look (d : Nat) (hd : 4 ≤ d) {e : Option Bool} {g : FuncId} {a : List AV} {h : Heap} {k : KR} (hx : stack_Stack_Grow.get stack_Stack_Grow e g a h k = some true) : e = some true ∨ callK Try.prog ht d g a h k = some true := by
  unfold stack_Stack_Grow.get at hx
  split at hx
  · exact .inr (stack_Stack_Grow.ok d hd _ _ hx)
  · exact .inl hx
/-- function 6: the loop in block 0 -/
noncomputable def law39_StackLow_L0.body (law39_StackLow_L0 : Tc0 → Int → Int → Bool → (List Int) → (Bool → Option Bool) → (Option Bool) → Option Bool) (stack_Stack_SP : (Int → Option Bool) → Option Bool) (stack_Stack_Seg : ((Int × Int × Int × Unit) → Option Bool) → Option Bool) (stack_Stack_Push : Int → (Bool → Option Bool) → Option Bool) (stack_Stack_Low : (Int → Option Bool) → Option Bool) (memory_Memory_Size : Bool → (List Int) → (Int → Bool → (List Int) → Option Bool) → Option Bool) (stack_Stack_Pop : (Int → Bool → Option Bool) → Option Bool) (stack_Stack_Down : Int → (Bool → Option Bool) → Option Bool) (stack_Stack_Up : Int → (Bool → Option Bool) → Option Bool) (stack_Stack_Set : Int → Int → (Bool → Option Bool) → Option Bool) (stack_Stack_Spill : (Bool → Option Bool) → Option Bool) (stack_Stack_Grow : Int → (Bool → Option Bool) → Option Bool) (ts30 : Tc0) (n31 : Int) (n32 : Int) (b33 : Bool) (ns34 : List Int) (k1 : Bool → Option Bool) (k2 : Option Bool) : Option Bool :=
  (cond_ (decide (n32 < (((List.length ts30) : Nat) : Int))) (cond_ ((decide ((0 : Int) ≤ n32)) && (decide (n32 < (((List.length ts30) : Nat) : Int)))) (stack_Stack_SP
  (fun n36 => (stack_Stack_Seg
  (fun t38 => (cond_ ((List.getD ts30 (Int.toNat n32) ((0 : Int), ((0 : Int), ((0 : Int), ())))).1 == (0 : Int)) (stack_Stack_Push (List.getD ts30 (Int.toNat n32) ((0 : Int), ((0 : Int), ((0 : Int), ())))).2.2.1
  (fun b47 => (stack_Stack_Low
  (fun n48 => (cond_ (! (decide (n48 > n31))) (stack_Stack_Low
  (fun n49 => (cond_ (! (decide (n49 < (0 : Int)))) (cond_ (! b47) (stack_Stack_SP
  (fun n50 => (cond_ (! (n50 != n36)) (stack_Stack_Seg
  (fun t51 => (cond_ (! (! ((t51.1 == t38.1) && ((t51.2.1 == t38.2.1) && ((t51.2.2.1 == t38.2.2.1) && true))))) (stack_Stack_Low
  (fun n52 => (cond_ (n52 != n31) (k1 false) (stack_Stack_Low
  (fun n53 => (stack_Stack_Seg
  (fun t54 => (stack_Stack_SP
  (fun n55 => (cond_ (! (decide (n55 < t54.1))) (stack_Stack_SP
  (fun n56 => (cond_ (! (decide (n56 > t54.2.2.1))) (cond_ (! (t54.2.1 != (IntKind.wrap .i64 (t54.1 + (64 : Int))))) (memory_Memory_Size b33 ns34
  (fun n59 b60 ns61 => (cond_ (decide (t54.2.2.1 > n59)) (k1 false) (law39_StackLow_L0 ts30 n53 (IntKind.wrap .i64 (n32 + (1 : Int))) b60 ns61 k1 k2)))) (k1 false)) (k1 false)))) (k1 false))))))))))) (k1 false)))) (k1 false)))) (stack_Stack_Low
  (fun n62 => (stack_Stack_Seg
  (fun t63 => (stack_Stack_SP
  (fun n64 => (cond_ (! (decide (n64 < t63.1))) (stack_Stack_SP
  (fun n65 => (cond_ (! (decide (n65 > t63.2.2.1))) (cond_ (! (t63.2.1 != (IntKind.wrap .i64 (t63.1 + (64 : Int))))) (memory_Memory_Size b33 ns34
  (fun n66 b67 ns68 => (cond_ (decide (t63.2.2.1 > n66)) (k1 false) (law39_StackLow_L0 ts30 n62 (IntKind.wrap .i64 (n32 + (1 : Int))) b67 ns68 k1 k2)))) (k1 false)) (k1 false)))) (k1 false))))))))) (k1 false)))) (k1 false)))))) (cond_ ((List.getD ts30 (Int.toNat n32) ((0 : Int), ((0 : Int), ((0 : Int), ())))).1 == (1 : Int)) (stack_Stack_Pop
  (fun n77 b78 => (stack_Stack_Low
  (fun n79 => (cond_ (! (decide (n79 > n31))) (stack_Stack_Low
  (fun n80 => (cond_ (! (decide (n80 < (0 : Int)))) (cond_ (! b78) (stack_Stack_SP
  (fun n81 => (cond_ (! (n81 != n36)) (stack_Stack_Seg
  (fun t82 => (cond_ (! (! ((t82.1 == t38.1) && ((t82.2.1 == t38.2.1) && ((t82.2.2.1 == t38.2.2.1) && true))))) (stack_Stack_Low
  (fun n83 => (cond_ (n83 != n31) (k1 false) (stack_Stack_Low
  (fun n84 => (stack_Stack_Seg
  (fun t85 => (stack_Stack_SP
  (fun n86 => (cond_ (! (decide (n86 < t85.1))) (stack_Stack_SP
  (fun n87 => (cond_ (! (decide (n87 > t85.2.2.1))) (cond_ (! (t85.2.1 != (IntKind.wrap .i64 (t85.1 + (64 : Int))))) (memory_Memory_Size b33 ns34
  (fun n88 b89 ns90 => (cond_ (decide (t85.2.2.1 > n88)) (k1 false) (law39_StackLow_L0 ts30 n84 (IntKind.wrap .i64 (n32 + (1 : Int))) b89 ns90 k1 k2)))) (k1 false)) (k1 false)))) (k1 false))))))))))) (k1 false)))) (k1 false)))) (stack_Stack_Low
  (fun n91 => (stack_Stack_Seg
  (fun t92 => (stack_Stack_SP
  (fun n93 => (cond_ (! (decide (n93 < t92.1))) (stack_Stack_SP
  (fun n94 => (cond_ (! (decide (n94 > t92.2.2.1))) (cond_ (! (t92.2.1 != (IntKind.wrap .i64 (t92.1 + (64 : Int))))) (memory_Memory_Size b33 ns34
  (fun n95 b96 ns97 => (cond_ (decide (t92.2.2.1 > n95)) (k1 false) (law39_StackLow_L0 ts30 n91 (IntKind.wrap .i64 (n32 + (1 : Int))) b96 ns97 k1 k2)))) (k1 false)) (k1 false)))) (k1 false))))))))) (k1 false)))) (k1 false)))))) (cond_ ((List.getD ts30 (Int.toNat n32) ((0 : Int), ((0 : Int), ((0 : Int), ())))).1 == (2 : Int)) (stack_Stack_Down (List.getD ts30 (Int.toNat n32) ((0 : Int), ((0 : Int), ((0 : Int), ())))).2.1
  (fun b105 => (stack_Stack_Low
  (fun n106 => (cond_ (! (decide (n106 > n31))) (stack_Stack_Low
  (fun n107 => (cond_ (! (decide (n107 < (0 : Int)))) (cond_ (! b105) (stack_Stack_SP
  (fun n108 => (cond_ (! (n108 != n36)) (stack_Stack_Seg
  (fun t109 => (cond_ (! (! ((t109.1 == t38.1) && ((t109.2.1 == t38.2.1) && ((t109.2.2.1 == t38.2.2.1) && true))))) (stack_Stack_Low
  (fun n110 => (cond_ (n110 != n31) (k1 false) (stack_Stack_Low
  (fun n111 => (stack_Stack_Seg
  (fun t112 => (stack_Stack_SP
  (fun n113 => (cond_ (! (decide (n113 < t112.1))) (stack_Stack_SP
  (fun n114 => (cond_ (! (decide (n114 > t112.2.2.1))) (cond_ (! (t112.2.1 != (IntKind.wrap .i64 (t112.1 + (64 : Int))))) (memory_Memory_Size b33 ns34
  (fun n115 b116 ns117 => (cond_ (decide (t112.2.2.1 > n115)) (k1 false) (law39_StackLow_L0 ts30 n111 (IntKind.wrap .i64 (n32 + (1 : Int))) b116 ns117 k1 k2)))) (k1 false)) (k1 false)))) (k1 false))))))))))) (k1 false)))) (k1 false)))) (stack_Stack_Low
  (fun n118 => (stack_Stack_Seg
  (fun t119 => (stack_Stack_SP
  (fun n120 => (cond_ (! (decide (n120 < t119.1))) (stack_Stack_SP
  (fun n121 => (cond_ (! (decide (n121 > t119.2.2.1))) (cond_ (! (t119.2.1 != (IntKind.wrap .i64 (t119.1 + (64 : Int))))) (memory_Memory_Size b33 ns34
  (fun n122 b123 ns124 => (cond_ (decide (t119.2.2.1 > n122)) (k1 false) (law39_StackLow_L0 ts30 n118 (IntKind.wrap .i64 (n32 + (1 : Int))) b123 ns124 k1 k2)))) (k1 false)) (k1 false)))) (k1 false))))))))) (k1 false)))) (k1 false)))))) (cond_ ((List.getD ts30 (Int.toNat n32) ((0 : Int), ((0 : Int), ((0 : Int), ())))).1 == (3 : Int)) (stack_Stack_Up (List.getD ts30 (Int.toNat n32) ((0 : Int), ((0 : Int), ((0 : Int), ())))).2.1
  (fun b128 => (stack_Stack_Low
  (fun n129 => (cond_ (! (decide (n129 > n31))) (stack_Stack_Low
  (fun n130 => (cond_ (! (decide (n130 < (0 : Int)))) (cond_ (! b128) (stack_Stack_SP
  (fun n131 => (cond_ (! (n131 != n36)) (stack_Stack_Seg
  (fun t132 => (cond_ (! (! ((t132.1 == t38.1) && ((t132.2.1 == t38.2.1) && ((t132.2.2.1 == t38.2.2.1) && true))))) (stack_Stack_Low
  (fun n133 => (cond_ (n133 != n31) (k1 false) (stack_Stack_Low
  (fun n134 => (stack_Stack_Seg
  (fun t135 => (stack_Stack_SP
  (fun n136 => (cond_ (! (decide (n136 < t135.1))) (stack_Stack_SP
  (fun n137 => (cond_ (! (decide (n137 > t135.2.2.1))) (cond_ (! (t135.2.1 != (IntKind.wrap .i64 (t135.1 + (64 : Int))))) (memory_Memory_Size b33 ns34
  (fun n138 b139 ns140 => (cond_ (decide (t135.2.2.1 > n138)) (k1 false) (law39_StackLow_L0 ts30 n134 (IntKind.wrap .i64 (n32 + (1 : Int))) b139 ns140 k1 k2)))) (k1 false)) (k1 false)))) (k1 false))))))))))) (k1 false)))) (k1 false)))) (stack_Stack_Low
  (fun n141 => (stack_Stack_Seg
  (fun t142 => (stack_Stack_SP
  (fun n143 => (cond_ (! (decide (n143 < t142.1))) (stack_Stack_SP
  (fun n144 => (cond_ (! (decide (n144 > t142.2.2.1))) (cond_ (! (t142.2.1 != (IntKind.wrap .i64 (t142.1 + (64 : Int))))) (memory_Memory_Size b33 ns34
  (fun n145 b146 ns147 => (cond_ (decide (t142.2.2.1 > n145)) (k1 false) (law39_StackLow_L0 ts30 n141 (IntKind.wrap .i64 (n32 + (1 : Int))) b146 ns147 k1 k2)))) (k1 false)) (k1 false)))) (k1 false))))))))) (k1 false)))) (k1 false)))))) (cond_ ((List.getD ts30 (Int.toNat n32) ((0 : Int), ((0 : Int), ((0 : Int), ())))).1 == (5 : Int)) (stack_Stack_Set (List.getD ts30 (Int.toNat n32) ((0 : Int), ((0 : Int), ((0 : Int), ())))).2.1 (List.getD ts30 (Int.toNat n32) ((0 : Int), ((0 : Int), ((0 : Int), ())))).2.2.1
  (fun b151 => (stack_Stack_Low
  (fun n152 => (cond_ (! (decide (n152 > n31))) (stack_Stack_Low
  (fun n153 => (cond_ (! (decide (n153 < (0 : Int)))) (cond_ (! b151) (stack_Stack_SP
  (fun n154 => (cond_ (! (n154 != n36)) (stack_Stack_Seg
  (fun t155 => (cond_ (! (! ((t155.1 == t38.1) && ((t155.2.1 == t38.2.1) && ((t155.2.2.1 == t38.2.2.1) && true))))) (stack_Stack_Low
  (fun n156 => (cond_ (n156 != n31) (k1 false) (stack_Stack_Low
  (fun n157 => (stack_Stack_Seg
  (fun t158 => (stack_Stack_SP
  (fun n159 => (cond_ (! (decide (n159 < t158.1))) (stack_Stack_SP
  (fun n160 => (cond_ (! (decide (n160 > t158.2.2.1))) (cond_ (! (t158.2.1 != (IntKind.wrap .i64 (t158.1 + (64 : Int))))) (memory_Memory_Size b33 ns34
  (fun n161 b162 ns163 => (cond_ (decide (t158.2.2.1 > n161)) (k1 false) (law39_StackLow_L0 ts30 n157 (IntKind.wrap .i64 (n32 + (1 : Int))) b162 ns163 k1 k2)))) (k1 false)) (k1 false)))) (k1 false))))))))))) (k1 false)))) (k1 false)))) (stack_Stack_Low
  (fun n164 => (stack_Stack_Seg
  (fun t165 => (stack_Stack_SP
  (fun n166 => (cond_ (! (decide (n166 < t165.1))) (stack_Stack_SP
  (fun n167 => (cond_ (! (decide (n167 > t165.2.2.1))) (cond_ (! (t165.2.1 != (IntKind.wrap .i64 (t165.1 + (64 : Int))))) (memory_Memory_Size b33 ns34
  (fun n168 b169 ns170 => (cond_ (decide (t165.2.2.1 > n168)) (k1 false) (law39_StackLow_L0 ts30 n164 (IntKind.wrap .i64 (n32 + (1 : Int))) b169 ns170 k1 k2)))) (k1 false)) (k1 false)))) (k1 false))))))))) (k1 false)))) (k1 false)))))) (cond_ ((List.getD ts30 (Int.toNat n32) ((0 : Int), ((0 : Int), ((0 : Int), ())))).1 == (6 : Int)) (stack_Stack_Spill
  (fun b172 => (stack_Stack_Low
  (fun n173 => (cond_ (! (decide (n173 > n31))) (stack_Stack_Low
  (fun n174 => (cond_ (! (decide (n174 < (0 : Int)))) (cond_ (! b172) (stack_Stack_SP
  (fun n175 => (cond_ (! (n175 != n36)) (stack_Stack_Seg
  (fun t176 => (cond_ (! (! ((t176.1 == t38.1) && ((t176.2.1 == t38.2.1) && ((t176.2.2.1 == t38.2.2.1) && true))))) (stack_Stack_Low
  (fun n177 => (cond_ (n177 != n31) (k1 false) (stack_Stack_Low
  (fun n178 => (stack_Stack_Seg
  (fun t179 => (stack_Stack_SP
  (fun n180 => (cond_ (! (decide (n180 < t179.1))) (stack_Stack_SP
  (fun n181 => (cond_ (! (decide (n181 > t179.2.2.1))) (cond_ (! (t179.2.1 != (IntKind.wrap .i64 (t179.1 + (64 : Int))))) (memory_Memory_Size b33 ns34
  (fun n182 b183 ns184 => (cond_ (decide (t179.2.2.1 > n182)) (k1 false) (law39_StackLow_L0 ts30 n178 (IntKind.wrap .i64 (n32 + (1 : Int))) b183 ns184 k1 k2)))) (k1 false)) (k1 false)))) (k1 false))))))))))) (k1 false)))) (k1 false)))) (stack_Stack_Low
  (fun n185 => (stack_Stack_Seg
  (fun t186 => (stack_Stack_SP
  (fun n187 => (cond_ (! (decide (n187 < t186.1))) (stack_Stack_SP
  (fun n188 => (cond_ (! (decide (n188 > t186.2.2.1))) (cond_ (! (t186.2.1 != (IntKind.wrap .i64 (t186.1 + (64 : Int))))) (memory_Memory_Size b33 ns34
  (fun n189 b190 ns191 => (cond_ (decide (t186.2.2.1 > n189)) (k1 false) (law39_StackLow_L0 ts30 n185 (IntKind.wrap .i64 (n32 + (1 : Int))) b190 ns191 k1 k2)))) (k1 false)) (k1 false)))) (k1 false))))))))) (k1 false)))) (k1 false)))))) (stack_Stack_Grow (List.getD ts30 (Int.toNat n32) ((0 : Int), ((0 : Int), ((0 : Int), ())))).2.1
  (fun b195 => (stack_Stack_Low
  (fun n196 => (cond_ (! (decide (n196 > n31))) (stack_Stack_Low
  (fun n197 => (cond_ (! (decide (n197 < (0 : Int)))) (cond_ (! b195) (stack_Stack_SP
  (fun n198 => (cond_ (! (n198 != n36)) (stack_Stack_Seg
  (fun t199 => (cond_ (! (! ((t199.1 == t38.1) && ((t199.2.1 == t38.2.1) && ((t199.2.2.1 == t38.2.2.1) && true))))) (stack_Stack_Low
  (fun n200 => (cond_ (n200 != n31) (k1 false) (stack_Stack_Low
  (fun n201 => (stack_Stack_Seg
  (fun t202 => (stack_Stack_SP
  (fun n203 => (cond_ (! (decide (n203 < t202.1))) (stack_Stack_SP
  (fun n204 => (cond_ (! (decide (n204 > t202.2.2.1))) (cond_ (! (t202.2.1 != (IntKind.wrap .i64 (t202.1 + (64 : Int))))) (memory_Memory_Size b33 ns34
  (fun n205 b206 ns207 => (cond_ (decide (t202.2.2.1 > n205)) (k1 false) (law39_StackLow_L0 ts30 n201 (IntKind.wrap .i64 (n32 + (1 : Int))) b206 ns207 k1 k2)))) (k1 false)) (k1 false)))) (k1 false))))))))))) (k1 false)))) (k1 false)))) (stack_Stack_Low
  (fun n208 => (stack_Stack_Seg
  (fun t209 => (stack_Stack_SP
  (fun n210 => (cond_ (! (decide (n210 < t209.1))) (stack_Stack_SP
  (fun n211 => (cond_ (! (decide (n211 > t209.2.2.1))) (cond_ (! (t209.2.1 != (IntKind.wrap .i64 (t209.1 + (64 : Int))))) (memory_Memory_Size b33 ns34
  (fun n212 b213 ns214 => (cond_ (decide (t209.2.2.1 > n212)) (k1 false) (law39_StackLow_L0 ts30 n208 (IntKind.wrap .i64 (n32 + (1 : Int))) b213 ns214 k1 k2)))) (k1 false)) (k1 false)))) (k1 false))))))))) (k1 false)))) (k1 false)))))))))))))))) none) (k2))
noncomputable def law39_StackLow_L0 : Nat → Tc0 → Int → Int → Bool → (List Int) → (Bool → Option Bool) → (Option Bool) → Option Bool
  | 0 => fun _ _ _ _ _ _ _ => none
  | n + 1 => law39_StackLow_L0.body (law39_StackLow_L0 n) stack_Stack_SP stack_Stack_Seg stack_Stack_Push stack_Stack_Low memory_Memory_Size stack_Stack_Pop stack_Stack_Down stack_Stack_Up stack_Stack_Set stack_Stack_Spill stack_Stack_Grow
noncomputable def law39_StackLow_L0.get (F : Tc0 → Int → Int → Bool → (List Int) → (Bool → Option Bool) → (Option Bool) → Option Bool) (e : Option Bool) (st : St) (k : KE) : Option Bool := match st with
  | ⟨sl, hp, m⟩ => match Nat.beq m 2, pickS 158 [1, 5, 6, 8, 9] sl, hp with
    | true, some [(.bv 0 47 (.st [(.int .i64), (.int .i64), (.int .i64)]) ts30), (.ptr [1, 0] 0 0), .nilp, (.d ⟨(.int .i64), n31⟩), (.d ⟨(.int .i64), n32⟩)], [([1, 0], ⟨61, 2, (.mix [(.agg [(.ref [1, 1]), (.d ⟨.bool, b33⟩)])])⟩), ([1, 1], ⟨2, 1, (.data (.int .i64) ns34)⟩)] => F ts30 n31 n32 b33 ns34 (fun y0 => k .ret ⟨fillS 158 [4] [(.d ⟨.bool, y0⟩)], [], 2⟩) (k (.exit 0) ⟨fillS 158 [] [], [], 2⟩)
    | _, _, _ => e
noncomputable def law39_StackLow_L0.calls (F0 : (Int → Option Bool) → Option Bool) (F1 : ((Int × Int × Int × Unit) → Option Bool) → Option Bool) (F2 : Int → (Bool → Option Bool) → Option Bool) (F3 : (Int → Option Bool) → Option Bool) (F4 : Bool → (List Int) → (Int → Bool → (List Int) → Option Bool) → Option Bool) (F5 : (Int → Bool → Option Bool) → Option Bool) (F6 : Int → (Bool → Option Bool) → Option Bool) (F7 : Int → (Bool → Option Bool) → Option Bool) (F8 : Int → Int → (Bool → Option Bool) → Option Bool) (F9 : (Bool → Option Bool) → Option Bool) (F10 : Int → (Bool → Option Bool) → Option Bool) : RecF := fun g a h k => (stack_Stack_SP.get F0 (stack_Stack_Seg.get F1 (stack_Stack_Push.get F2 (stack_Stack_Low.get F3 (memory_Memory_Size.get F4 (stack_Stack_Pop.get F5 (stack_Stack_Down.get F6 (stack_Stack_Up.get F7 (stack_Stack_Set.get F8 (stack_Stack_Spill.get F9 (stack_Stack_Grow.get F10 none g a h k) g a h k) g a h k) g a h k) g a h k) g a h k) g a h k) g a h k) g a h k) g a h k) g a h k)
noncomputable def law39_StackLow_L0.loops : LoopF := fun b => none
set_option maxRecDepth 100000 in
theorem law39_StackLow_L0.step (S : Tc0 → Int → Int → Bool → (List Int) → (Bool → Option Bool) → (Option Bool) → Option Bool) (F0 : (Int → Option Bool) → Option Bool) (F1 : ((Int × Int × Int × Unit) → Option Bool) → Option Bool) (F2 : Int → (Bool → Option Bool) → Option Bool) (F3 : (Int → Option Bool) → Option Bool) (F4 : Bool → (List Int) → (Int → Bool → (List Int) → Option Bool) → Option Bool) (F5 : (Int → Bool → Option Bool) → Option Bool) (F6 : Int → (Bool → Option Bool) → Option Bool) (F7 : Int → (Bool → Option Bool) → Option Bool) (F8 : Int → Int → (Bool → Option Bool) → Option Bool) (F9 : (Bool → Option Bool) → Option Bool) (F10 : Int → (Bool → Option Bool) → Option Bool) (ts30 : Tc0) (n31 : Int) (n32 : Int) (b33 : Bool) (ns34 : List Int) (k : KE) : execL Try.prog ht 6 (callfOf (law39_StackLow_L0.calls F0 F1 F2 F3 F4 F5 F6 F7 F8 F9 F10)) (law39_StackLow_L0.loops) 0 (loopAt 0 (codeOf Try.f6)) ⟨fillS 158 [1, 5, 6, 8, 9] [(.bv 0 47 (.st [(.int .i64), (.int .i64), (.int .i64)]) ts30), (.ptr [1, 0] 0 0), .nilp, (.d ⟨(.int .i64), n31⟩), (.d ⟨(.int .i64), n32⟩)], [([1, 0], ⟨61, 2, (.mix [(.agg [(.ref [1, 1]), (.d ⟨.bool, b33⟩)])])⟩), ([1, 1], ⟨2, 1, (.data (.int .i64) ns34)⟩)], 2⟩ (again (law39_StackLow_L0.get S none) (plan Try.prog (ht 6 0)) k) = law39_StackLow_L0.body S F0 F1 F2 F3 F4 F5 F6 F7 F8 F9 F10 ts30 n31 n32 b33 ns34 (fun y0 => k .ret ⟨fillS 158 [4] [(.d ⟨.bool, y0⟩)], [], 2⟩) (k (.exit 0) ⟨fillS 158 [] [], [], 2⟩) := by kernel_rfl
theorem law39_StackLow_L0.ok (d : Nat) (hd : 6 ≤ d) : ∀ n st k, law39_StackLow_L0.get (law39_StackLow_L0 n) none st k = some true → iter n (plan Try.prog (ht 6 0)) (fun st k => execK Try.prog ht 6 (callfOf (callK Try.prog ht d)) 0 (loopAt 0 (codeOf Try.f6)) st k) st k = some true :=
  loop_ok (lfn := fun n st k => law39_StackLow_L0.get (law39_StackLow_L0 n) none st k) (rec := law39_StackLow_L0.calls stack_Stack_SP stack_Stack_Seg stack_Stack_Push stack_Stack_Low memory_Memory_Size stack_Stack_Pop stack_Stack_Down stack_Stack_Up stack_Stack_Set stack_Stack_Spill stack_Stack_Grow) (fun g a h k hx => by
    rcases stack_Stack_SP.look d (by omega) hx with hx | hx
    rotate_left
    · exact hx
    rcases stack_Stack_Seg.look d (by omega) hx with hx | hx
    rotate_left
    · exact hx
    rcases stack_Stack_Push.look d (by omega) hx with hx | hx
    rotate_left
    · exact hx
    rcases stack_Stack_Low.look d (by omega) hx with hx | hx
    rotate_left
    · exact hx
    rcases memory_Memory_Size.look d (by omega) hx with hx | hx
    rotate_left
    · exact hx
    rcases stack_Stack_Pop.look d (by omega) hx with hx | hx
    rotate_left
    · exact hx
    rcases stack_Stack_Down.look d (by omega) hx with hx | hx
    rotate_left
    · exact hx
    rcases stack_Stack_Up.look d (by omega) hx with hx | hx
    rotate_left
    · exact hx
    rcases stack_Stack_Set.look d (by omega) hx with hx | hx
    rotate_left
    · exact hx
    rcases stack_Stack_Spill.look d (by omega) hx with hx | hx
    rotate_left
    · exact hx
    rcases stack_Stack_Grow.look d (by omega) hx with hx | hx
    rotate_left
    · exact hx
    cases hx) (loopf := law39_StackLow_L0.loops) (by
    have e : loopsOf (law39_StackLow_L0.loops) 0 (loopAt 0 (codeOf Try.f6)) = [] := by kernel_rfl
    rw [e]
    intro p hp
    cases hp) (fun st k h => by
    obtain ⟨sl, hp, m⟩ := st
    unfold law39_StackLow_L0.get at h
    dsimp only at h
    split at h
    · have h' : (none : Option Bool) = some true := h
      cases h'
    · cases h) (fun n st k h => by
    obtain ⟨sl, hp, m⟩ := st
    unfold law39_StackLow_L0.get at h
    dsimp only at h
    split at h
    · rename_i h1 h2
      obtain rfl := pickS_ok h2
      obtain rfl := Nat.eq_of_beq_eq_true h1
      exact (law39_StackLow_L0.step (law39_StackLow_L0 n) stack_Stack_SP stack_Stack_Seg stack_Stack_Push stack_Stack_Low memory_Memory_Size stack_Stack_Pop stack_Stack_Down stack_Stack_Up stack_Stack_Set stack_Stack_Spill stack_Stack_Grow _ _ _ _ _ k).trans h
    · cases h)
theorem law39_StackLow_L0.look {F : Tc0 → Int → Int → Bool → (List Int) → (Bool → Option Bool) → (Option Bool) → Option Bool} {e : Option Bool} {st : St} {k : KE} (hx : law39_StackLow_L0.get F e st k = some true) : e = some true ∨ law39_StackLow_L0.get F none st k = some true := by
  obtain ⟨sl, hp, m⟩ := st
  unfold law39_StackLow_L0.get at hx ⊢
  dsimp only at hx ⊢
  split at hx
  · exact .inr hx
  · exact .inl hx
/-- function 34: (*sheerleg/stack.Stack).live -/
noncomputable def stack_Stack_livev1.body (n236 : Int) (n237 : Int) (n238 : Int) (n239 : Int) (n240 : Int) (n241 : Int) (n242 : Int) (b243 : Bool) (ns244 : List Int) (k1 : Bool → Int → Int → Int → Int → Int → Int → Int → Bool → (List Int) → Option Bool) : Option Bool :=
  (k1 true n236 n237 n238 n239 n240 n241 n242 b243 ns244)
noncomputable def stack_Stack_livev1 (n236 : Int) (n237 : Int) (n238 : Int) (n239 : Int) (n240 : Int) (n241 : Int) (n242 : Int) (b243 : Bool) (ns244 : List Int) (k1 : Bool → Int → Int → Int → Int → Int → Int → Int → Bool → (List Int) → Option Bool) : Option Bool := stack_Stack_livev1.body n236 n237 n238 n239 n240 n241 n242 b243 ns244 k1
noncomputable def stack_Stack_livev1.get (F : Int → Int → Int → Int → Int → Int → Int → Bool → (List Int) → (Bool → Int → Int → Int → Int → Int → Int → Int → Bool → (List Int) → Option Bool) → Option Bool) (e : Option Bool) (g : FuncId) (a : List AV) (h : Heap) (k : KR) : Option Bool := match g, a, h with
  | 34, [(.ptr [0, 0] 0 0)], [([0, 0], ⟨53, 8, (.mix [(.agg [(.ptr [0, 1] 0 0), (.d ⟨(.int .i64), n236⟩), (.d ⟨(.int .i64), n237⟩), (.d ⟨(.int .i64), n238⟩), (.d ⟨(.int .i64), n239⟩), (.d ⟨(.int .i64), n240⟩), (.d ⟨(.int .i64), n241⟩), (.d ⟨(.int .i64), n242⟩)])])⟩), ([0, 1], ⟨61, 2, (.mix [(.agg [(.ref [0, 2]), (.d ⟨.bool, b243⟩)])])⟩), ([0, 2], ⟨2, 1, (.data (.int .i64) ns244)⟩)] => F n236 n237 n238 n239 n240 n241 n242 b243 ns244 (fun y0 y1 y2 y3 y4 y5 y6 y7 y8 y9 => k (.d ⟨.bool, y0⟩) [([0, 0], ⟨53, 8, (.mix [(.agg [(.ptr [0, 1] 0 0), (.d ⟨(.int .i64), y1⟩), (.d ⟨(.int .i64), y2⟩), (.d ⟨(.int .i64), y3⟩), (.d ⟨(.int .i64), y4⟩), (.d ⟨(.int .i64), y5⟩), (.d ⟨(.int .i64), y6⟩), (.d ⟨(.int .i64), y7⟩)])])⟩), ([0, 1], ⟨61, 2, (.mix [(.agg [(.ref [0, 2]), (.d ⟨.bool, y8⟩)])])⟩), ([0, 2], ⟨2, 1, (.data (.int .i64) y9)⟩)])
  | _, _, _ => e
noncomputable def stack_Stack_livev1.calls : RecF := fun g a h k => none
noncomputable def stack_Stack_livev1.loops : LoopF := fun b => none
set_option maxRecDepth 100000 in
theorem stack_Stack_livev1.eq (n236 : Int) (n237 : Int) (n238 : Int) (n239 : Int) (n240 : Int) (n241 : Int) (n242 : Int) (b243 : Bool) (ns244 : List Int) (k : KR) : execL Try.prog ht 34 (callfOf (stack_Stack_livev1.calls)) (stack_Stack_livev1.loops) 0 (codeOf Try.f34) ⟨[(.ptr [0, 0] 0 0)] ++ List.replicate (Try.f34.ntmps - ([(.ptr [0, 0] 0 0)] : List AV).length) .undef, [([0, 0], ⟨53, 8, (.mix [(.agg [(.ptr [0, 1] 0 0), (.d ⟨(.int .i64), n236⟩), (.d ⟨(.int .i64), n237⟩), (.d ⟨(.int .i64), n238⟩), (.d ⟨(.int .i64), n239⟩), (.d ⟨(.int .i64), n240⟩), (.d ⟨(.int .i64), n241⟩), (.d ⟨(.int .i64), n242⟩)])])⟩), ([0, 1], ⟨61, 2, (.mix [(.agg [(.ref [0, 2]), (.d ⟨.bool, b243⟩)])])⟩), ([0, 2], ⟨2, 1, (.data (.int .i64) ns244)⟩)], 2⟩ (leave Try.prog Try.f34 k) = stack_Stack_livev1.body n236 n237 n238 n239 n240 n241 n242 b243 ns244 (fun y0 y1 y2 y3 y4 y5 y6 y7 y8 y9 => k (.d ⟨.bool, y0⟩) [([0, 0], ⟨53, 8, (.mix [(.agg [(.ptr [0, 1] 0 0), (.d ⟨(.int .i64), y1⟩), (.d ⟨(.int .i64), y2⟩), (.d ⟨(.int .i64), y3⟩), (.d ⟨(.int .i64), y4⟩), (.d ⟨(.int .i64), y5⟩), (.d ⟨(.int .i64), y6⟩), (.d ⟨(.int .i64), y7⟩)])])⟩), ([0, 1], ⟨61, 2, (.mix [(.agg [(.ref [0, 2]), (.d ⟨.bool, y8⟩)])])⟩), ([0, 2], ⟨2, 1, (.data (.int .i64) y9)⟩)]) := by kernel_rfl
theorem stack_Stack_livev1.ok (d : Nat) (hd : 1 ≤ d) (n236 : Int) (n237 : Int) (n238 : Int) (n239 : Int) (n240 : Int) (n241 : Int) (n242 : Int) (b243 : Bool) (ns244 : List Int) (k : KR) (hx : stack_Stack_livev1 n236 n237 n238 n239 n240 n241 n242 b243 ns244 (fun y0 y1 y2 y3 y4 y5 y6 y7 y8 y9 => k (.d ⟨.bool, y0⟩) [([0, 0], ⟨53, 8, (.mix [(.agg [(.ptr [0, 1] 0 0), (.d ⟨(.int .i64), y1⟩), (.d ⟨(.int .i64), y2⟩), (.d ⟨(.int .i64), y3⟩), (.d ⟨(.int .i64), y4⟩), (.d ⟨(.int .i64), y5⟩), (.d ⟨(.int .i64), y6⟩), (.d ⟨(.int .i64), y7⟩)])])⟩), ([0, 1], ⟨61, 2, (.mix [(.agg [(.ref [0, 2]), (.d ⟨.bool, y8⟩)])])⟩), ([0, 2], ⟨2, 1, (.data (.int .i64) y9)⟩)]) = some true) : callK Try.prog ht d 34 [(.ptr [0, 0] 0 0)] [([0, 0], ⟨53, 8, (.mix [(.agg [(.ptr [0, 1] 0 0), (.d ⟨(.int .i64), n236⟩), (.d ⟨(.int .i64), n237⟩), (.d ⟨(.int .i64), n238⟩), (.d ⟨(.int .i64), n239⟩), (.d ⟨(.int .i64), n240⟩), (.d ⟨(.int .i64), n241⟩), (.d ⟨(.int .i64), n242⟩)])])⟩), ([0, 1], ⟨61, 2, (.mix [(.agg [(.ref [0, 2]), (.d ⟨.bool, b243⟩)])])⟩), ([0, 2], ⟨2, 1, (.data (.int .i64) ns244)⟩)] k = some true := by
  obtain ⟨d, rfl⟩ : ∃ e, d = e + 1 := ⟨d - 1, by omega⟩
  exact fn_ok (c := codeOf Try.f34) Try.func34 (by kernel_rfl) (rec := stack_Stack_livev1.calls) (fun g a h k hx => by
    cases hx) (loopf := stack_Stack_livev1.loops) (by
    have e : loopsOf (stack_Stack_livev1.loops) 0 (codeOf Try.f34) = [] := by kernel_rfl
    rw [e]
    intro p hp
    cases hp) ((stack_Stack_livev1.eq n236 n237 n238 n239 n240 n241 n242 b243 ns244 k).trans hx)
theorem stack_Stack_livev1.look (d : Nat) (hd : 1 ≤ d) {e : Option Bool} {g : FuncId} {a : List AV} {h : Heap} {k : KR} (hx : stack_Stack_livev1.get stack_Stack_livev1 e g a h k = some true) : e = some true ∨ callK Try.prog ht d g a h k = some true := by
  unfold stack_Stack_livev1.get at hx
  split at hx
  · exact .inr (stack_Stack_livev1.ok d hd _ _ _ _ _ _ _ _ _ _ hx)
  · exact .inl hx
/-- function 28: (*sheerleg/stack.Stack).Low -/
noncomputable def stack_Stack_Lowv1.body (stack_Stack_livev1 : Int → Int → Int → Int → Int → Int → Int → Bool → (List Int) → (Bool → Int → Int → Int → Int → Int → Int → Int → Bool → (List Int) → Option Bool) → Option Bool) (n227 : Int) (n228 : Int) (n229 : Int) (n230 : Int) (n231 : Int) (n232 : Int) (n233 : Int) (b234 : Bool) (ns235 : List Int) (k1 : Int → Int → Int → Int → Int → Int → Int → Int → Bool → (List Int) → Option Bool) : Option Bool :=
  (stack_Stack_livev1 n227 n228 n229 n230 n231 n232 n233 b234 ns235
  (fun b245 n246 n247 n248 n249 n250 n251 n252 b253 ns254 => (cond_ (! b245) (k1 (0 : Int) n246 n247 n248 n249 n250 n251 n252 b253 ns254) (k1 n252 n246 n247 n248 n249 n250 n251 n252 b253 ns254))))
noncomputable def stack_Stack_Lowv1 (n227 : Int) (n228 : Int) (n229 : Int) (n230 : Int) (n231 : Int) (n232 : Int) (n233 : Int) (b234 : Bool) (ns235 : List Int) (k1 : Int → Int → Int → Int → Int → Int → Int → Int → Bool → (List Int) → Option Bool) : Option Bool := stack_Stack_Lowv1.body stack_Stack_livev1 n227 n228 n229 n230 n231 n232 n233 b234 ns235 k1
noncomputable def stack_Stack_Lowv1.get (F : Int → Int → Int → Int → Int → Int → Int → Bool → (List Int) → (Int → Int → Int → Int → Int → Int → Int → Int → Bool → (List Int) → Option Bool) → Option Bool) (e : Option Bool) (g : FuncId) (a : List AV) (h : Heap) (k : KR) : Option Bool := match g, a, h with
  | 28, [(.ptr [0, 0] 0 0)], [([0, 0], ⟨53, 8, (.mix [(.agg [(.ptr [0, 1] 0 0), (.d ⟨(.int .i64), n227⟩), (.d ⟨(.int .i64), n228⟩), (.d ⟨(.int .i64), n229⟩), (.d ⟨(.int .i64), n230⟩), (.d ⟨(.int .i64), n231⟩), (.d ⟨(.int .i64), n232⟩), (.d ⟨(.int .i64), n233⟩)])])⟩), ([0, 1], ⟨61, 2, (.mix [(.agg [(.ref [0, 2]), (.d ⟨.bool, b234⟩)])])⟩), ([0, 2], ⟨2, 1, (.data (.int .i64) ns235)⟩)] => F n227 n228 n229 n230 n231 n232 n233 b234 ns235 (fun y0 y1 y2 y3 y4 y5 y6 y7 y8 y9 => k (.d ⟨(.int .i64), y0⟩) [([0, 0], ⟨53, 8, (.mix [(.agg [(.ptr [0, 1] 0 0), (.d ⟨(.int .i64), y1⟩), (.d ⟨(.int .i64), y2⟩), (.d ⟨(.int .i64), y3⟩), (.d ⟨(.int .i64), y4⟩), (.d ⟨(.int .i64), y5⟩), (.d ⟨(.int .i64), y6⟩), (.d ⟨(.int .i64), y7⟩)])])⟩), ([0, 1], ⟨61, 2, (.mix [(.agg [(.ref [0, 2]), (.d ⟨.bool, y8⟩)])])⟩), ([0, 2], ⟨2, 1, (.data (.int .i64) y9)⟩)])
  | _, _, _ => e
noncomputable def stack_Stack_Lowv1.calls (F0 : Int → Int → Int → Int → Int → Int → Int → Bool → (List Int) → (Bool → Int → Int → Int → Int → Int → Int → Int → Bool → (List Int) → Option Bool) → Option Bool) : RecF := fun g a h k => (stack_Stack_livev1.get F0 none g a h k)
noncomputable def stack_Stack_Lowv1.loops : LoopF := fun b => none
set_option maxRecDepth 100000 in
theorem stack_Stack_Lowv1.eq (F0 : Int → Int → Int → Int → Int → Int → Int → Bool → (List Int) → (Bool → Int → Int → Int → Int → Int → Int → Int → Bool → (List Int) → Option Bool) → Option Bool) (n227 : Int) (n228 : Int) (n229 : Int) (n230 : Int) (n231 : Int) (n232 : Int) (n233 : Int) (b234 : Bool) (ns235 : List Int) (k : KR) : execL Try.prog ht 28 (callfOf (stack_Stack_Lowv1.calls F0)) (stack_Stack_Lowv1.loops) 0 (codeOf Try.f28) ⟨[(.ptr [0, 0] 0 0)] ++ List.replicate (Try.f28.ntmps - ([(.ptr [0, 0] 0 0)] : List AV).length) .undef, [([0, 0], ⟨53, 8, (.mix [(.agg [(.ptr [0, 1] 0 0), (.d ⟨(.int .i64), n227⟩), (.d ⟨(.int .i64), n228⟩), (.d ⟨(.int .i64), n229⟩), (.d ⟨(.int .i64), n230⟩), (.d ⟨(.int .i64), n231⟩), (.d ⟨(.int .i64), n232⟩), (.d ⟨(.int .i64), n233⟩)])])⟩), ([0, 1], ⟨61, 2, (.mix [(.agg [(.ref [0, 2]), (.d ⟨.bool, b234⟩)])])⟩), ([0, 2], ⟨2, 1, (.data (.int .i64) ns235)⟩)], 2⟩ (leave Try.prog Try.f28 k) = stack_Stack_Lowv1.body F0 n227 n228 n229 n230 n231 n232 n233 b234 ns235 (fun y0 y1 y2 y3 y4 y5 y6 y7 y8 y9 => k (.d ⟨(.int .i64), y0⟩) [([0, 0], ⟨53, 8, (.mix [(.agg [(.ptr [0, 1] 0 0), (.d ⟨(.int .i64), y1⟩), (.d ⟨(.int .i64), y2⟩), (.d ⟨(.int .i64), y3⟩), (.d ⟨(.int .i64), y4⟩), (.d ⟨(.int .i64), y5⟩), (.d ⟨(.int .i64), y6⟩), (.d ⟨(.int .i64), y7⟩)])])⟩), ([0, 1], ⟨61, 2, (.mix [(.agg [(.ref [0, 2]), (.d ⟨.bool, y8⟩)])])⟩), ([0, 2], ⟨2, 1, (.data (.int .i64) y9)⟩)]) := by kernel_rfl
theorem stack_Stack_Lowv1.ok (d : Nat) (hd : 2 ≤ d) (n227 : Int) (n228 : Int) (n229 : Int) (n230 : Int) (n231 : Int) (n232 : Int) (n233 : Int) (b234 : Bool) (ns235 : List Int) (k : KR) (hx : stack_Stack_Lowv1 n227 n228 n229 n230 n231 n232 n233 b234 ns235 (fun y0 y1 y2 y3 y4 y5 y6 y7 y8 y9 => k (.d ⟨(.int .i64), y0⟩) [([0, 0], ⟨53, 8, (.mix [(.agg [(.ptr [0, 1] 0 0), (.d ⟨(.int .i64), y1⟩), (.d ⟨(.int .i64), y2⟩), (.d ⟨(.int .i64), y3⟩), (.d ⟨(.int .i64), y4⟩), (.d ⟨(.int .i64), y5⟩), (.d ⟨(.int .i64), y6⟩), (.d ⟨(.int .i64), y7⟩)])])⟩), ([0, 1], ⟨61, 2, (.mix [(.agg [(.ref [0, 2]), (.d ⟨.bool, y8⟩)])])⟩), ([0, 2], ⟨2, 1, (.data (.int .i64) y9)⟩)]) = some true) : callK Try.prog ht d 28 [(.ptr [0, 0] 0 0)] [([0, 0], ⟨53, 8, (.mix [(.agg [(.ptr [0, 1] 0 0), (.d ⟨(.int .i64), n227⟩), (.d ⟨(.int .i64), n228⟩), (.d ⟨(.int .i64), n229⟩), (.d ⟨(.int .i64), n230⟩), (.d ⟨(.int .i64), n231⟩), (.d ⟨(.int .i64), n232⟩), (.d ⟨(.int .i64), n233⟩)])])⟩), ([0, 1], ⟨61, 2, (.mix [(.agg [(.ref [0, 2]), (.d ⟨.bool, b234⟩)])])⟩), ([0, 2], ⟨2, 1, (.data (.int .i64) ns235)⟩)] k = some true := by
  obtain ⟨d, rfl⟩ : ∃ e, d = e + 1 := ⟨d - 1, by omega⟩
  exact fn_ok (c := codeOf Try.f28) Try.func28 (by kernel_rfl) (rec := stack_Stack_Lowv1.calls stack_Stack_livev1) (fun g a h k hx => by
    rcases stack_Stack_livev1.look d (by omega) hx with hx | hx
    rotate_left
    · exact hx
    cases hx) (loopf := stack_Stack_Lowv1.loops) (by
    have e : loopsOf (stack_Stack_Lowv1.loops) 0 (codeOf Try.f28) = [] := by kernel_rfl
    rw [e]
    intro p hp
    cases hp) ((stack_Stack_Lowv1.eq stack_Stack_livev1 n227 n228 n229 n230 n231 n232 n233 b234 ns235 k).trans hx)
theorem stack_Stack_Lowv1.look (d : Nat) (hd : 2 ≤ d) {e : Option Bool} {g : FuncId} {a : List AV} {h : Heap} {k : KR} (hx : stack_Stack_Lowv1.get stack_Stack_Lowv1 e g a h k = some true) : e = some true ∨ callK Try.prog ht d g a h k = some true := by
  unfold stack_Stack_Lowv1.get at hx
  split at hx
  · exact .inr (stack_Stack_Lowv1.ok d hd _ _ _ _ _ _ _ _ _ _ hx)
  · exact .inl hx
/-- function 13: (*sheerleg/stack.Stack).SP -/
noncomputable def stack_Stack_SPv1.body (stack_Stack_livev1 : Int → Int → Int → Int → Int → Int → Int → Bool → (List Int) → (Bool → Int → Int → Int → Int → Int → Int → Int → Bool → (List Int) → Option Bool) → Option Bool) (n277 : Int) (n278 : Int) (n279 : Int) (n280 : Int) (n281 : Int) (n282 : Int) (n283 : Int) (b284 : Bool) (ns285 : List Int) (k1 : Int → Int → Int → Int → Int → Int → Int → Int → Bool → (List Int) → Option Bool) : Option Bool :=
  (stack_Stack_livev1 n277 n278 n279 n280 n281 n282 n283 b284 ns285
  (fun b286 n287 n288 n289 n290 n291 n292 n293 b294 ns295 => (cond_ (! b286) (k1 (0 : Int) n287 n288 n289 n290 n291 n292 n293 b294 ns295) (k1 n290 n287 n288 n289 n290 n291 n292 n293 b294 ns295))))
noncomputable def stack_Stack_SPv1 (n277 : Int) (n278 : Int) (n279 : Int) (n280 : Int) (n281 : Int) (n282 : Int) (n283 : Int) (b284 : Bool) (ns285 : List Int) (k1 : Int → Int → Int → Int → Int → Int → Int → Int → Bool → (List Int) → Option Bool) : Option Bool := stack_Stack_SPv1.body stack_Stack_livev1 n277 n278 n279 n280 n281 n282 n283 b284 ns285 k1
noncomputable def stack_Stack_SPv1.get (F : Int → Int → Int → Int → Int → Int → Int → Bool → (List Int) → (Int → Int → Int → Int → Int → Int → Int → Int → Bool → (List Int) → Option Bool) → Option Bool) (e : Option Bool) (g : FuncId) (a : List AV) (h : Heap) (k : KR) : Option Bool := match g, a, h with
  | 13, [(.ptr [0, 0] 0 0)], [([0, 0], ⟨53, 8, (.mix [(.agg [(.ptr [0, 1] 0 0), (.d ⟨(.int .i64), n277⟩), (.d ⟨(.int .i64), n278⟩), (.d ⟨(.int .i64), n279⟩), (.d ⟨(.int .i64), n280⟩), (.d ⟨(.int .i64), n281⟩), (.d ⟨(.int .i64), n282⟩), (.d ⟨(.int .i64), n283⟩)])])⟩), ([0, 1], ⟨61, 2, (.mix [(.agg [(.ref [0, 2]), (.d ⟨.bool, b284⟩)])])⟩), ([0, 2], ⟨2, 1, (.data (.int .i64) ns285)⟩)] => F n277 n278 n279 n280 n281 n282 n283 b284 ns285 (fun y0 y1 y2 y3 y4 y5 y6 y7 y8 y9 => k (.d ⟨(.int .i64), y0⟩) [([0, 0], ⟨53, 8, (.mix [(.agg [(.ptr [0, 1] 0 0), (.d ⟨(.int .i64), y1⟩), (.d ⟨(.int .i64), y2⟩), (.d ⟨(.int .i64), y3⟩), (.d ⟨(.int .i64), y4⟩), (.d ⟨(.int .i64), y5⟩), (.d ⟨(.int .i64), y6⟩), (.d ⟨(.int .i64), y7⟩)])])⟩), ([0, 1], ⟨61, 2, (.mix [(.agg [(.ref [0, 2]), (.d ⟨.bool, y8⟩)])])⟩), ([0, 2], ⟨2, 1, (.data (.int .i64) y9)⟩)])
  | _, _, _ => e
noncomputable def stack_Stack_SPv1.calls (F0 : Int → Int → Int → Int → Int → Int → Int → Bool → (List Int) → (Bool → Int → Int → Int → Int → Int → Int → Int → Bool → (List Int) → Option Bool) → Option Bool) : RecF := fun g a h k => (stack_Stack_livev1.get F0 none g a h k)
noncomputable def stack_Stack_SPv1.loops : LoopF := fun b => none
set_option maxRecDepth 100000 in
theorem stack_Stack_SPv1.eq (F0 : Int → Int → Int → Int → Int → Int → Int → Bool → (List Int) → (Bool → Int → Int → Int → Int → Int → Int → Int → Bool → (List Int) → Option Bool) → Option Bool) (n277 : Int) (n278 : Int) (n279 : Int) (n280 : Int) (n281 : Int) (n282 : Int) (n283 : Int) (b284 : Bool) (ns285 : List Int) (k : KR) : execL Try.prog ht 13 (callfOf (stack_Stack_SPv1.calls F0)) (stack_Stack_SPv1.loops) 0 (codeOf Try.f13) ⟨[(.ptr [0, 0] 0 0)] ++ List.replicate (Try.f13.ntmps - ([(.ptr [0, 0] 0 0)] : List AV).length) .undef, [([0, 0], ⟨53, 8, (.mix [(.agg [(.ptr [0, 1] 0 0), (.d ⟨(.int .i64), n277⟩), (.d ⟨(.int .i64), n278⟩), (.d ⟨(.int .i64), n279⟩), (.d ⟨(.int .i64), n280⟩), (.d ⟨(.int .i64), n281⟩), (.d ⟨(.int .i64), n282⟩), (.d ⟨(.int .i64), n283⟩)])])⟩), ([0, 1], ⟨61, 2, (.mix [(.agg [(.ref [0, 2]), (.d ⟨.bool, b284⟩)])])⟩), ([0, 2], ⟨2, 1, (.data (.int .i64) ns285)⟩)], 2⟩ (leave Try.prog Try.f13 k) = stack_Stack_SPv1.body F0 n277 n278 n279 n280 n281 n282 n283 b284 ns285 (fun y0 y1 y2 y3 y4 y5 y6 y7 y8 y9 => k (.d ⟨(.int .i64), y0⟩) [([0, 0], ⟨53, 8, (.mix [(.agg [(.ptr [0, 1] 0 0), (.d ⟨(.int .i64), y1⟩), (.d ⟨(.int .i64), y2⟩), (.d ⟨(.int .i64), y3⟩), (.d ⟨(.int .i64), y4⟩), (.d ⟨(.int .i64), y5⟩), (.d ⟨(.int .i64), y6⟩), (.d ⟨(.int .i64), y7⟩)])])⟩), ([0, 1], ⟨61, 2, (.mix [(.agg [(.ref [0, 2]), (.d ⟨.bool, y8⟩)])])⟩), ([0, 2], ⟨2, 1, (.data (.int .i64) y9)⟩)]) := by kernel_rfl
theorem stack_Stack_SPv1.ok (d : Nat) (hd : 2 ≤ d) (n277 : Int) (n278 : Int) (n279 : Int) (n280 : Int) (n281 : Int) (n282 : Int) (n283 : Int) (b284 : Bool) (ns285 : List Int) (k : KR) (hx : stack_Stack_SPv1 n277 n278 n279 n280 n281 n282 n283 b284 ns285 (fun y0 y1 y2 y3 y4 y5 y6 y7 y8 y9 => k (.d ⟨(.int .i64), y0⟩) [([0, 0], ⟨53, 8, (.mix [(.agg [(.ptr [0, 1] 0 0), (.d ⟨(.int .i64), y1⟩), (.d ⟨(.int .i64), y2⟩), (.d ⟨(.int .i64), y3⟩), (.d ⟨(.int .i64), y4⟩), (.d ⟨(.int .i64), y5⟩), (.d ⟨(.int .i64), y6⟩), (.d ⟨(.int .i64), y7⟩)])])⟩), ([0, 1], ⟨61, 2, (.mix [(.agg [(.ref [0, 2]), (.d ⟨.bool, y8⟩)])])⟩), ([0, 2], ⟨2, 1, (.data (.int .i64) y9)⟩)]) = some true) : callK Try.prog ht d 13 [(.ptr [0, 0] 0 0)] [([0, 0], ⟨53, 8, (.mix [(.agg [(.ptr [0, 1] 0 0), (.d ⟨(.int .i64), n277⟩), (.d ⟨(.int .i64), n278⟩), (.d ⟨(.int .i64), n279⟩), (.d ⟨(.int .i64), n280⟩), (.d ⟨(.int .i64), n281⟩), (.d ⟨(.int .i64), n282⟩), (.d ⟨(.int .i64), n283⟩)])])⟩), ([0, 1], ⟨61, 2, (.mix [(.agg [(.ref [0, 2]), (.d ⟨.bool, b284⟩)])])⟩), ([0, 2], ⟨2, 1, (.data (.int .i64) ns285)⟩)] k = some true := by
  obtain ⟨d, rfl⟩ : ∃ e, d = e + 1 := ⟨d - 1, by omega⟩
  exact fn_ok (c := codeOf Try.f13) Try.func13 (by kernel_rfl) (rec := stack_Stack_SPv1.calls stack_Stack_livev1) (fun g a h k hx => by
    rcases stack_Stack_livev1.look d (by omega) hx with hx | hx
    rotate_left
    · exact hx
    cases hx) (loopf := stack_Stack_SPv1.loops) (by
    have e : loopsOf (stack_Stack_SPv1.loops) 0 (codeOf Try.f13) = [] := by kernel_rfl
    rw [e]
    intro p hp
    cases hp) ((stack_Stack_SPv1.eq stack_Stack_livev1 n277 n278 n279 n280 n281 n282 n283 b284 ns285 k).trans hx)
theorem stack_Stack_SPv1.look (d : Nat) (hd : 2 ≤ d) {e : Option Bool} {g : FuncId} {a : List AV} {h : Heap} {k : KR} (hx : stack_Stack_SPv1.get stack_Stack_SPv1 e g a h k = some true) : e = some true ∨ callK Try.prog ht d g a h k = some true := by
  unfold stack_Stack_SPv1.get at hx
  split at hx
  · exact .inr (stack_Stack_SPv1.ok d hd _ _ _ _ _ _ _ _ _ _ hx)
  · exact .inl hx
/-- function 14: (*sheerleg/stack.Stack).Seg -/
noncomputable def stack_Stack_Segv1.body (stack_Stack_livev1 : Int → Int → Int → Int → Int → Int → Int → Bool → (List Int) → (Bool → Int → Int → Int → Int → Int → Int → Int → Bool → (List Int) → Option Bool) → Option Bool) (n306 : Int) (n307 : Int) (n308 : Int) (n309 : Int) (n310 : Int) (n311 : Int) (n312 : Int) (b313 : Bool) (ns314 : List Int) (k1 : (Int × Int × Int × Unit) → Int → Int → Int → Int → Int → Int → Int → Bool → (List Int) → Option Bool) : Option Bool :=
  (stack_Stack_livev1 n306 n307 n308 n309 n310 n311 n312 b313 ns314
  (fun b315 n316 n317 n318 n319 n320 n321 n322 b323 ns324 => (cond_ (! b315) (k1 ((0 : Int), ((0 : Int), ((0 : Int), ()))) n316 n317 n318 n319 n320 n321 n322 b323 ns324) (k1 (n316, (n317, (n318, ()))) n316 n317 n318 n319 n320 n321 n322 b323 ns324))))
noncomputable def stack_Stack_Segv1 (n306 : Int) (n307 : Int) (n308 : Int) (n309 : Int) (n310 : Int) (n311 : Int) (n312 : Int) (b313 : Bool) (ns314 : List Int) (k1 : (Int × Int × Int × Unit) → Int → Int → Int → Int → Int → Int → Int → Bool → (List Int) → Option Bool) : Option Bool := stack_Stack_Segv1.body stack_Stack_livev1 n306 n307 n308 n309 n310 n311 n312 b313 ns314 k1
noncomputable def stack_Stack_Segv1.get (F : Int → Int → Int → Int → Int → Int → Int → Bool → (List Int) → ((Int × Int × Int × Unit) → Int → Int → Int → Int → Int → Int → Int → Bool → (List Int) → Option Bool) → Option Bool) (e : Option Bool) (g : FuncId) (a : List AV) (h : Heap) (k : KR) : Option Bool := match g, a, h with
  | 14, [(.ptr [0, 0] 0 0)], [([0, 0], ⟨53, 8, (.mix [(.agg [(.ptr [0, 1] 0 0), (.d ⟨(.int .i64), n306⟩), (.d ⟨(.int .i64), n307⟩), (.d ⟨(.int .i64), n308⟩), (.d ⟨(.int .i64), n309⟩), (.d ⟨(.int .i64), n310⟩), (.d ⟨(.int .i64), n311⟩), (.d ⟨(.int .i64), n312⟩)])])⟩), ([0, 1], ⟨61, 2, (.mix [(.agg [(.ref [0, 2]), (.d ⟨.bool, b313⟩)])])⟩), ([0, 2], ⟨2, 1, (.data (.int .i64) ns314)⟩)] => F n306 n307 n308 n309 n310 n311 n312 b313 ns314 (fun y0 y1 y2 y3 y4 y5 y6 y7 y8 y9 => k (.d ⟨(.st [(.int .i64), (.int .i64), (.int .i64)]), y0⟩) [([0, 0], ⟨53, 8, (.mix [(.agg [(.ptr [0, 1] 0 0), (.d ⟨(.int .i64), y1⟩), (.d ⟨(.int .i64), y2⟩), (.d ⟨(.int .i64), y3⟩), (.d ⟨(.int .i64), y4⟩), (.d ⟨(.int .i64), y5⟩), (.d ⟨(.int .i64), y6⟩), (.d ⟨(.int .i64), y7⟩)])])⟩), ([0, 1], ⟨61, 2, (.mix [(.agg [(.ref [0, 2]), (.d ⟨.bool, y8⟩)])])⟩), ([0, 2], ⟨2, 1, (.data (.int .i64) y9)⟩)])
  | _, _, _ => e
noncomputable def stack_Stack_Segv1.calls (F0 : Int → Int → Int → Int → Int → Int → Int → Bool → (List Int) → (Bool → Int → Int → Int → Int → Int → Int → Int → Bool → (List Int) → Option Bool) → Option Bool) : RecF := fun g a h k => (stack_Stack_livev1.get F0 none g a h k)
noncomputable def stack_Stack_Segv1.loops : LoopF := fun b => none
set_option maxRecDepth 100000 in
theorem stack_Stack_Segv1.eq (F0 : Int → Int → Int → Int → Int → Int → Int → Bool → (List Int) → (Bool → Int → Int → Int → Int → Int → Int → Int → Bool → (List Int) → Option Bool) → Option Bool) (n306 : Int) (n307 : Int) (n308 : Int) (n309 : Int) (n310 : Int) (n311 : Int) (n312 : Int) (b313 : Bool) (ns314 : List Int) (k : KR) : execL Try.prog ht 14 (callfOf (stack_Stack_Segv1.calls F0)) (stack_Stack_Segv1.loops) 0 (codeOf Try.f14) ⟨[(.ptr [0, 0] 0 0)] ++ List.replicate (Try.f14.ntmps - ([(.ptr [0, 0] 0 0)] : List AV).length) .undef, [([0, 0], ⟨53, 8, (.mix [(.agg [(.ptr [0, 1] 0 0), (.d ⟨(.int .i64), n306⟩), (.d ⟨(.int .i64), n307⟩), (.d ⟨(.int .i64), n308⟩), (.d ⟨(.int .i64), n309⟩), (.d ⟨(.int .i64), n310⟩), (.d ⟨(.int .i64), n311⟩), (.d ⟨(.int .i64), n312⟩)])])⟩), ([0, 1], ⟨61, 2, (.mix [(.agg [(.ref [0, 2]), (.d ⟨.bool, b313⟩)])])⟩), ([0, 2], ⟨2, 1, (.data (.int .i64) ns314)⟩)], 2⟩ (leave Try.prog Try.f14 k) = stack_Stack_Segv1.body F0 n306 n307 n308 n309 n310 n311 n312 b313 ns314 (fun y0 y1 y2 y3 y4 y5 y6 y7 y8 y9 => k (.d ⟨(.st [(.int .i64), (.int .i64), (.int .i64)]), y0⟩) [([0, 0], ⟨53, 8, (.mix [(.agg [(.ptr [0, 1] 0 0), (.d ⟨(.int .i64), y1⟩), (.d ⟨(.int .i64), y2⟩), (.d ⟨(.int .i64), y3⟩), (.d ⟨(.int .i64), y4⟩), (.d ⟨(.int .i64), y5⟩), (.d ⟨(.int .i64), y6⟩), (.d ⟨(.int .i64), y7⟩)])])⟩), ([0, 1], ⟨61, 2, (.mix [(.agg [(.ref [0, 2]), (.d ⟨.bool, y8⟩)])])⟩), ([0, 2], ⟨2, 1, (.data (.int .i64) y9)⟩)]) := by kernel_rfl
theorem stack_Stack_Segv1.ok (d : Nat) (hd : 2 ≤ d) (n306 : Int) (n307 : Int) (n308 : Int) (n309 : Int) (n310 : Int) (n311 : Int) (n312 : Int) (b313 : Bool) (ns314 : List Int) (k : KR) (hx : stack_Stack_Segv1 n306 n307 n308 n309 n310 n311 n312 b313 ns314 (fun y0 y1 y2 y3 y4 y5 y6 y7 y8 y9 => k (.d ⟨(.st [(.int .i64), (.int .i64), (.int .i64)]), y0⟩) [([0, 0], ⟨53, 8, (.mix [(.agg [(.ptr [0, 1] 0 0), (.d ⟨(.int .i64), y1⟩), (.d ⟨(.int .i64), y2⟩), (.d ⟨(.int .i64), y3⟩), (.d ⟨(.int .i64), y4⟩), (.d ⟨(.int .i64), y5⟩), (.d ⟨(.int .i64), y6⟩), (.d ⟨(.int .i64), y7⟩)])])⟩), ([0, 1], ⟨61, 2, (.mix [(.agg [(.ref [0, 2]), (.d ⟨.bool, y8⟩)])])⟩), ([0, 2], ⟨2, 1, (.data (.int .i64) y9)⟩)]) = some true) : callK Try.prog ht d 14 [(.ptr [0, 0] 0 0)] [([0, 0], ⟨53, 8, (.mix [(.agg [(.ptr [0, 1] 0 0), (.d ⟨(.int .i64), n306⟩), (.d ⟨(.int .i64), n307⟩), (.d ⟨(.int .i64), n308⟩), (.d ⟨(.int .i64), n309⟩), (.d ⟨(.int .i64), n310⟩), (.d ⟨(.int .i64), n311⟩), (.d ⟨(.int .i64), n312⟩)])])⟩), ([0, 1], ⟨61, 2, (.mix [(.agg [(.ref [0, 2]), (.d ⟨.bool, b313⟩)])])⟩), ([0, 2], ⟨2, 1, (.data (.int .i64) ns314)⟩)] k = some true := by
  obtain ⟨d, rfl⟩ : ∃ e, d = e + 1 := ⟨d - 1, by omega⟩
  exact fn_ok (c := codeOf Try.f14) Try.func14 (by kernel_rfl) (rec := stack_Stack_Segv1.calls stack_Stack_livev1) (fun g a h k hx => by
    rcases stack_Stack_livev1.look d (by omega) hx with hx | hx
    rotate_left
    · exact hx
    cases hx) (loopf := stack_Stack_Segv1.loops) (by
    have e : loopsOf (stack_Stack_Segv1.loops) 0 (codeOf Try.f14) = [] := by kernel_rfl
    rw [e]
    intro p hp
    cases hp) ((stack_Stack_Segv1.eq stack_Stack_livev1 n306 n307 n308 n309 n310 n311 n312 b313 ns314 k).trans hx)
theorem stack_Stack_Segv1.look (d : Nat) (hd : 2 ≤ d) {e : Option Bool} {g : FuncId} {a : List AV} {h : Heap} {k : KR} (hx : stack_Stack_Segv1.get stack_Stack_Segv1 e g a h k = some true) : e = some true ∨ callK Try.prog ht d g a h k = some true := by
  unfold stack_Stack_Segv1.get at hx
  split at hx
  · exact .inr (stack_Stack_Segv1.ok d hd _ _ _ _ _ _ _ _ _ _ hx)
  · exact .inl hx
/-- function 56: (*sheerleg/memory.Memory).Store$1 -/
noncomputable def memory_Memory_Storefn1.body (m397 : Nat) (ns398 : List Int) (n399 : Int) (k1 : (List Int) → Int → Option Bool) : Option Bool :=
  (k1 (List.set ns398 m397 n399) n399)
noncomputable def memory_Memory_Storefn1 (m397 : Nat) (ns398 : List Int) (n399 : Int) (k1 : (List Int) → Int → Option Bool) : Option Bool := memory_Memory_Storefn1.body m397 ns398 n399 k1
noncomputable def memory_Memory_Storefn1.get (F : Nat → (List Int) → Int → ((List Int) → Int → Option Bool) → Option Bool) (e : Option Bool) (g : FuncId) (a : List AV) (h : Heap) (k : KR) : Option Bool := match g, a, h with
  | 56, [(.ptr [0, 0] m397 0), (.ptr [0, 1] 0 0)], [([0, 0], ⟨2, 1, (.data (.int .i64) ns398)⟩), ([0, 1], ⟨2, 1, (.data (.int .i64) [n399])⟩)] => F m397 ns398 n399 (fun y0 y1 => k (.tup []) [([0, 0], ⟨2, 1, (.data (.int .i64) y0)⟩), ([0, 1], ⟨2, 1, (.data (.int .i64) [y1])⟩)])
  | _, _, _ => e
noncomputable def memory_Memory_Storefn1.calls : RecF := fun g a h k => none
noncomputable def memory_Memory_Storefn1.loops : LoopF := fun b => none
set_option maxRecDepth 100000 in
theorem memory_Memory_Storefn1.eq (m397 : Nat) (ns398 : List Int) (n399 : Int) (k : KR) : execL Try.prog ht 56 (callfOf (memory_Memory_Storefn1.calls)) (memory_Memory_Storefn1.loops) 0 (codeOf Try.f56) ⟨[(.ptr [0, 0] m397 0), (.ptr [0, 1] 0 0)] ++ List.replicate (Try.f56.ntmps - ([(.ptr [0, 0] m397 0), (.ptr [0, 1] 0 0)] : List AV).length) .undef, [([0, 0], ⟨2, 1, (.data (.int .i64) ns398)⟩), ([0, 1], ⟨2, 1, (.data (.int .i64) [n399])⟩)], 2⟩ (leave Try.prog Try.f56 k) = memory_Memory_Storefn1.body m397 ns398 n399 (fun y0 y1 => k (.tup []) [([0, 0], ⟨2, 1, (.data (.int .i64) y0)⟩), ([0, 1], ⟨2, 1, (.data (.int .i64) [y1])⟩)]) := by kernel_rfl
theorem memory_Memory_Storefn1.ok (d : Nat) (hd : 1 ≤ d) (m397 : Nat) (ns398 : List Int) (n399 : Int) (k : KR) (hx : memory_Memory_Storefn1 m397 ns398 n399 (fun y0 y1 => k (.tup []) [([0, 0], ⟨2, 1, (.data (.int .i64) y0)⟩), ([0, 1], ⟨2, 1, (.data (.int .i64) [y1])⟩)]) = some true) : callK Try.prog ht d 56 [(.ptr [0, 0] m397 0), (.ptr [0, 1] 0 0)] [([0, 0], ⟨2, 1, (.data (.int .i64) ns398)⟩), ([0, 1], ⟨2, 1, (.data (.int .i64) [n399])⟩)] k = some true := by
  obtain ⟨d, rfl⟩ : ∃ e, d = e + 1 := ⟨d - 1, by omega⟩
  exact fn_ok (c := codeOf Try.f56) Try.func56 (by kernel_rfl) (rec := memory_Memory_Storefn1.calls) (fun g a h k hx => by
    cases hx) (loopf := memory_Memory_Storefn1.loops) (by
    have e : loopsOf (memory_Memory_Storefn1.loops) 0 (codeOf Try.f56) = [] := by kernel_rfl
    rw [e]
    intro p hp
    cases hp) ((memory_Memory_Storefn1.eq m397 ns398 n399 k).trans hx)
theorem memory_Memory_Storefn1.look (d : Nat) (hd : 1 ≤ d) {e : Option Bool} {g : FuncId} {a : List AV} {h : Heap} {k : KR} (hx : memory_Memory_Storefn1.get memory_Memory_Storefn1 e g a h k = some true) : e = some true ∨ callK Try.prog ht d g a h k = some true := by
  unfold memory_Memory_Storefn1.get at hx
  split at hx
  · exact .inr (memory_Memory_Storefn1.ok d hd _ _ _ _ hx)
  · exact .inl hx
/-- function 46: (*sheerleg/memory.Memory).at -/
noncomputable def memory_Memory_at.body (memory_Memory_Size : Bool → (List Int) → (Int → Bool → (List Int) → Option Bool) → Option Bool) (memory_Memory_Storefn1 : Nat → (List Int) → Int → ((List Int) → Int → Option Bool) → Option Bool) (n390 : Int) (b391 : Bool) (ns392 : List Int) (n393 : Int) (k1 : Bool → Bool → (List Int) → Int → Option Bool) : Option Bool :=
  (cond_ (! (decide (n390 < (0 : Int)))) (memory_Memory_Size b391 ns392
  (fun n394 b395 ns396 => (cond_ (decide (n390 ≥ n394)) (k1 false b395 ns396 n393) (cond_ ((decide ((0 : Int) ≤ n390)) && (decide (n390 < (((List.length ns396) : Nat) : Int)))) (memory_Memory_Storefn1 (Int.toNat n390) ns396 n393
  (fun ns400 n401 => (k1 true b395 ns400 n401))) none)))) (k1 false b391 ns392 n393))
noncomputable def memory_Memory_at (n390 : Int) (b391 : Bool) (ns392 : List Int) (n393 : Int) (k1 : Bool → Bool → (List Int) → Int → Option Bool) : Option Bool := memory_Memory_at.body memory_Memory_Size memory_Memory_Storefn1 n390 b391 ns392 n393 k1
noncomputable def memory_Memory_at.get (F : Int → Bool → (List Int) → Int → (Bool → Bool → (List Int) → Int → Option Bool) → Option Bool) (e : Option Bool) (g : FuncId) (a : List AV) (h : Heap) (k : KR) : Option Bool := match g, a, h with
  | 46, [(.ptr [0, 0] 0 0), (.d ⟨(.int .i64), n390⟩), (.fn (.func 56) [] [(.ptr [0, 2] 0 0)])], [([0, 0], ⟨61, 2, (.mix [(.agg [(.ref [0, 1]), (.d ⟨.bool, b391⟩)])])⟩), ([0, 1], ⟨2, 1, (.data (.int .i64) ns392)⟩), ([0, 2], ⟨2, 1, (.data (.int .i64) [n393])⟩)] => F n390 b391 ns392 n393 (fun y0 y1 y2 y3 => k (.d ⟨.bool, y0⟩) [([0, 0], ⟨61, 2, (.mix [(.agg [(.ref [0, 1]), (.d ⟨.bool, y1⟩)])])⟩), ([0, 1], ⟨2, 1, (.data (.int .i64) y2)⟩), ([0, 2], ⟨2, 1, (.data (.int .i64) [y3])⟩)])
  | _, _, _ => e
noncomputable def memory_Memory_at.calls (F0 : Bool → (List Int) → (Int → Bool → (List Int) → Option Bool) → Option Bool) (F1 : Nat → (List Int) → Int → ((List Int) → Int → Option Bool) → Option Bool) : RecF := fun g a h k => (memory_Memory_Size.get F0 (memory_Memory_Storefn1.get F1 none g a h k) g a h k)
noncomputable def memory_Memory_at.loops : LoopF := fun b => none
set_option maxRecDepth 100000 in
theorem memory_Memory_at.eq (F0 : Bool → (List Int) → (Int → Bool → (List Int) → Option Bool) → Option Bool) (F1 : Nat → (List Int) → Int → ((List Int) → Int → Option Bool) → Option Bool) (n390 : Int) (b391 : Bool) (ns392 : List Int) (n393 : Int) (k : KR) : execL Try.prog ht 46 (callfOf (memory_Memory_at.calls F0 F1)) (memory_Memory_at.loops) 0 (codeOf Try.f46) ⟨[(.ptr [0, 0] 0 0), (.d ⟨(.int .i64), n390⟩), (.fn (.func 56) [] [(.ptr [0, 2] 0 0)])] ++ List.replicate (Try.f46.ntmps - ([(.ptr [0, 0] 0 0), (.d ⟨(.int .i64), n390⟩), (.fn (.func 56) [] [(.ptr [0, 2] 0 0)])] : List AV).length) .undef, [([0, 0], ⟨61, 2, (.mix [(.agg [(.ref [0, 1]), (.d ⟨.bool, b391⟩)])])⟩), ([0, 1], ⟨2, 1, (.data (.int .i64) ns392)⟩), ([0, 2], ⟨2, 1, (.data (.int .i64) [n393])⟩)], 2⟩ (leave Try.prog Try.f46 k) = memory_Memory_at.body F0 F1 n390 b391 ns392 n393 (fun y0 y1 y2 y3 => k (.d ⟨.bool, y0⟩) [([0, 0], ⟨61, 2, (.mix [(.agg [(.ref [0, 1]), (.d ⟨.bool, y1⟩)])])⟩), ([0, 1], ⟨2, 1, (.data (.int .i64) y2)⟩), ([0, 2], ⟨2, 1, (.data (.int .i64) [y3])⟩)]) := by kernel_rfl
theorem memory_Memory_at.ok (d : Nat) (hd : 2 ≤ d) (n390 : Int) (b391 : Bool) (ns392 : List Int) (n393 : Int) (k : KR) (hx : memory_Memory_at n390 b391 ns392 n393 (fun y0 y1 y2 y3 => k (.d ⟨.bool, y0⟩) [([0, 0], ⟨61, 2, (.mix [(.agg [(.ref [0, 1]), (.d ⟨.bool, y1⟩)])])⟩), ([0, 1], ⟨2, 1, (.data (.int .i64) y2)⟩), ([0, 2], ⟨2, 1, (.data (.int .i64) [y3])⟩)]) = some true) : callK Try.prog ht d 46 [(.ptr [0, 0] 0 0), (.d ⟨(.int .i64), n390⟩), (.fn (.func 56) [] [(.ptr [0, 2] 0 0)])] [([0, 0], ⟨61, 2, (.mix [(.agg [(.ref [0, 1]), (.d ⟨.bool, b391⟩)])])⟩), ([0, 1], ⟨2, 1, (.data (.int .i64) ns392)⟩), ([0, 2], ⟨2, 1, (.data (.int .i64) [n393])⟩)] k = some true := by
  obtain ⟨d, rfl⟩ : ∃ e, d = e + 1 := ⟨d - 1, by omega⟩
  exact fn_ok (c := codeOf Try.f46) Try.func46 (by kernel_rfl) (rec := memory_Memory_at.calls memory_Memory_Size memory_Memory_Storefn1) (fun g a h k hx => by
    rcases memory_Memory_Size.look d (by omega) hx with hx | hx
    rotate_left
    · exact hx
    rcases memory_Memory_Storefn1.look d (by omega) hx with hx | hx
    rotate_left
    · exact hx
    cases hx) (loopf := memory_Memory_at.loops) (by
    have e : loopsOf (memory_Memory_at.loops) 0 (codeOf Try.f46) = [] := by kernel_rfl
    rw [e]
    intro p hp
    cases hp) ((memory_Memory_at.eq memory_Memory_Size memory_Memory_Storefn1 n390 b391 ns392 n393 k).trans hx)
theorem memory_Memory_at.look (d : Nat) (hd : 2 ≤ d) {e : Option Bool} {g : FuncId} {a : List AV} {h : Heap} {k : KR} (hx : memory_Memory_at.get memory_Memory_at e g a h k = some true) : e = some true ∨ callK Try.prog ht d g a h k = some true := by
  unfold memory_Memory_at.get at hx
  split at hx
  · exact .inr (memory_Memory_at.ok d hd _ _ _ _ _ hx)
  · exact .inl hx
/-- function 50: (*sheerleg/memory.Memory).Store -/
noncomputable def memory_Memory_Store.body (memory_Memory_at : Int → Bool → (List Int) → Int → (Bool → Bool → (List Int) → Int → Option Bool) → Option Bool) (n386 : Int) (n387 : Int) (b388 : Bool) (ns389 : List Int) (k1 : Bool → Bool → (List Int) → Option Bool) : Option Bool :=
  (memory_Memory_at n386 b388 ns389 n387
  (fun b402 b403 ns404 n405 => (k1 b402 b403 ns404)))
noncomputable def memory_Memory_Store (n386 : Int) (n387 : Int) (b388 : Bool) (ns389 : List Int) (k1 : Bool → Bool → (List Int) → Option Bool) : Option Bool := memory_Memory_Store.body memory_Memory_at n386 n387 b388 ns389 k1
noncomputable def memory_Memory_Store.get (F : Int → Int → Bool → (List Int) → (Bool → Bool → (List Int) → Option Bool) → Option Bool) (e : Option Bool) (g : FuncId) (a : List AV) (h : Heap) (k : KR) : Option Bool := match g, a, h with
  | 50, [(.ptr [0, 0] 0 0), (.d ⟨(.int .i64), n386⟩), (.d ⟨(.int .i64), n387⟩)], [([0, 0], ⟨61, 2, (.mix [(.agg [(.ref [0, 1]), (.d ⟨.bool, b388⟩)])])⟩), ([0, 1], ⟨2, 1, (.data (.int .i64) ns389)⟩)] => F n386 n387 b388 ns389 (fun y0 y1 y2 => k (.d ⟨.bool, y0⟩) [([0, 0], ⟨61, 2, (.mix [(.agg [(.ref [0, 1]), (.d ⟨.bool, y1⟩)])])⟩), ([0, 1], ⟨2, 1, (.data (.int .i64) y2)⟩)])
  | _, _, _ => e
noncomputable def memory_Memory_Store.calls (F0 : Int → Bool → (List Int) → Int → (Bool → Bool → (List Int) → Int → Option Bool) → Option Bool) : RecF := fun g a h k => (memory_Memory_at.get F0 none g a h k)
noncomputable def memory_Memory_Store.loops : LoopF := fun b => none
set_option maxRecDepth 100000 in
theorem memory_Memory_Store.eq (F0 : Int → Bool → (List Int) → Int → (Bool → Bool → (List Int) → Int → Option Bool) → Option Bool) (n386 : Int) (n387 : Int) (b388 : Bool) (ns389 : List Int) (k : KR) : execL Try.prog ht 50 (callfOf (memory_Memory_Store.calls F0)) (memory_Memory_Store.loops) 0 (codeOf Try.f50) ⟨[(.ptr [0, 0] 0 0), (.d ⟨(.int .i64), n386⟩), (.d ⟨(.int .i64), n387⟩)] ++ List.replicate (Try.f50.ntmps - ([(.ptr [0, 0] 0 0), (.d ⟨(.int .i64), n386⟩), (.d ⟨(.int .i64), n387⟩)] : List AV).length) .undef, [([0, 0], ⟨61, 2, (.mix [(.agg [(.ref [0, 1]), (.d ⟨.bool, b388⟩)])])⟩), ([0, 1], ⟨2, 1, (.data (.int .i64) ns389)⟩)], 2⟩ (leave Try.prog Try.f50 k) = memory_Memory_Store.body F0 n386 n387 b388 ns389 (fun y0 y1 y2 => k (.d ⟨.bool, y0⟩) [([0, 0], ⟨61, 2, (.mix [(.agg [(.ref [0, 1]), (.d ⟨.bool, y1⟩)])])⟩), ([0, 1], ⟨2, 1, (.data (.int .i64) y2)⟩)]) := by kernel_rfl
theorem memory_Memory_Store.ok (d : Nat) (hd : 3 ≤ d) (n386 : Int) (n387 : Int) (b388 : Bool) (ns389 : List Int) (k : KR) (hx : memory_Memory_Store n386 n387 b388 ns389 (fun y0 y1 y2 => k (.d ⟨.bool, y0⟩) [([0, 0], ⟨61, 2, (.mix [(.agg [(.ref [0, 1]), (.d ⟨.bool, y1⟩)])])⟩), ([0, 1], ⟨2, 1, (.data (.int .i64) y2)⟩)]) = some true) : callK Try.prog ht d 50 [(.ptr [0, 0] 0 0), (.d ⟨(.int .i64), n386⟩), (.d ⟨(.int .i64), n387⟩)] [([0, 0], ⟨61, 2, (.mix [(.agg [(.ref [0, 1]), (.d ⟨.bool, b388⟩)])])⟩), ([0, 1], ⟨2, 1, (.data (.int .i64) ns389)⟩)] k = some true := by
  obtain ⟨d, rfl⟩ : ∃ e, d = e + 1 := ⟨d - 1, by omega⟩
  exact fn_ok (c := codeOf Try.f50) Try.func50 (by kernel_rfl) (rec := memory_Memory_Store.calls memory_Memory_at) (fun g a h k hx => by
    rcases memory_Memory_at.look d (by omega) hx with hx | hx
    rotate_left
    · exact hx
    cases hx) (loopf := memory_Memory_Store.loops) (by
    have e : loopsOf (memory_Memory_Store.loops) 0 (codeOf Try.f50) = [] := by kernel_rfl
    rw [e]
    intro p hp
    cases hp) ((memory_Memory_Store.eq memory_Memory_at n386 n387 b388 ns389 k).trans hx)
theorem memory_Memory_Store.look (d : Nat) (hd : 3 ≤ d) {e : Option Bool} {g : FuncId} {a : List AV} {h : Heap} {k : KR} (hx : memory_Memory_Store.get memory_Memory_Store e g a h k = some true) : e = some true ∨ callK Try.prog ht d g a h k = some true := by
  unfold memory_Memory_Store.get at hx
  split at hx
  · exact .inr (memory_Memory_Store.ok d hd _ _ _ _ _ hx)
  · exact .inl hx
/-- function 33: (*sheerleg/stack.Stack).write -/
noncomputable def stack_Stack_writev1.body (stack_Stack_livev1 : Int → Int → Int → Int → Int → Int → Int → Bool → (List Int) → (Bool → Int → Int → Int → Int → Int → Int → Int → Bool → (List Int) → Option Bool) → Option Bool) (memory_Memory_Store : Int → Int → Bool → (List Int) → (Bool → Bool → (List Int) → Option Bool) → Option Bool) (n365 : Int) (n366 : Int) (n367 : Int) (n368 : Int) (n369 : Int) (n370 : Int) (n371 : Int) (n372 : Int) (n373 : Int) (b374 : Bool) (ns375 : List Int) (k1 : Bool → Int → Int → Int → Int → Int → Int → Int → Bool → (List Int) → Option Bool) : Option Bool :=
  (stack_Stack_livev1 n367 n368 n369 n370 n371 n372 n373 b374 ns375
  (fun b376 n377 n378 n379 n380 n381 n382 n383 b384 ns385 => (cond_ (! (! b376)) (cond_ (! (decide (n365 < n377))) (cond_ (! (decide (n365 ≥ n379))) (memory_Memory_Store n365 n366 b384 ns385
  (fun b406 b407 ns408 => (cond_ (! b406) (k1 false n377 n378 n379 n380 n381 n382 n383 b407 ns408) (k1 true n377 n378 n379 n380 n381 n382 (if ((IntKind.wrap .i64 (n365 - n377)) < n383) then (IntKind.wrap .i64 (n365 - n377)) else n383) b407 ns408)))) (k1 false n377 n378 n379 n380 n381 n382 n383 b384 ns385)) (k1 false n377 n378 n379 n380 n381 n382 n383 b384 ns385)) (k1 false n377 n378 n379 n380 n381 n382 n383 b384 ns385))))
noncomputable def stack_Stack_writev1 (n365 : Int) (n366 : Int) (n367 : Int) (n368 : Int) (n369 : Int) (n370 : Int) (n371 : Int) (n372 : Int) (n373 : Int) (b374 : Bool) (ns375 : List Int) (k1 : Bool → Int → Int → Int → Int → Int → Int → Int → Bool → (List Int) → Option Bool) : Option Bool := stack_Stack_writev1.body stack_Stack_livev1 memory_Memory_Store n365 n366 n367 n368 n369 n370 n371 n372 n373 b374 ns375 k1
noncomputable def stack_Stack_writev1.get (F : Int → Int → Int → Int → Int → Int → Int → Int → Int → Bool → (List Int) → (Bool → Int → Int → Int → Int → Int → Int → Int → Bool → (List Int) → Option Bool) → Option Bool) (e : Option Bool) (g : FuncId) (a : List AV) (h : Heap) (k : KR) : Option Bool := match g, a, h with
  | 33, [(.ptr [0, 0] 0 0), (.d ⟨(.int .i64), n365⟩), (.d ⟨(.int .i64), n366⟩)], [([0, 0], ⟨53, 8, (.mix [(.agg [(.ptr [0, 1] 0 0), (.d ⟨(.int .i64), n367⟩), (.d ⟨(.int .i64), n368⟩), (.d ⟨(.int .i64), n369⟩), (.d ⟨(.int .i64), n370⟩), (.d ⟨(.int .i64), n371⟩), (.d ⟨(.int .i64), n372⟩), (.d ⟨(.int .i64), n373⟩)])])⟩), ([0, 1], ⟨61, 2, (.mix [(.agg [(.ref [0, 2]), (.d ⟨.bool, b374⟩)])])⟩), ([0, 2], ⟨2, 1, (.data (.int .i64) ns375)⟩)] => F n365 n366 n367 n368 n369 n370 n371 n372 n373 b374 ns375 (fun y0 y1 y2 y3 y4 y5 y6 y7 y8 y9 => k (.d ⟨.bool, y0⟩) [([0, 0], ⟨53, 8, (.mix [(.agg [(.ptr [0, 1] 0 0), (.d ⟨(.int .i64), y1⟩), (.d ⟨(.int .i64), y2⟩), (.d ⟨(.int .i64), y3⟩), (.d ⟨(.int .i64), y4⟩), (.d ⟨(.int .i64), y5⟩), (.d ⟨(.int .i64), y6⟩), (.d ⟨(.int .i64), y7⟩)])])⟩), ([0, 1], ⟨61, 2, (.mix [(.agg [(.ref [0, 2]), (.d ⟨.bool, y8⟩)])])⟩), ([0, 2], ⟨2, 1, (.data (.int .i64) y9)⟩)])
  | _, _, _ => e
noncomputable def stack_Stack_writev1.calls (F0 : Int → Int → Int → Int → Int → Int → Int → Bool → (List Int) → (Bool → Int → Int → Int → Int → Int → Int → Int → Bool → (List Int) → Option Bool) → Option Bool) (F1 : Int → Int → Bool → (List Int) → (Bool → Bool → (List Int) → Option Bool) → Option Bool) : RecF := fun g a h k => (stack_Stack_livev1.get F0 (memory_Memory_Store.get F1 none g a h k) g a h k)
noncomputable def stack_Stack_writev1.loops : LoopF := fun b => none
set_option maxRecDepth 100000 in
theorem stack_Stack_writev1.eq (F0 : Int → Int → Int → Int → Int → Int → Int → Bool → (List Int) → (Bool → Int → Int → Int → Int → Int → Int → Int → Bool → (List Int) → Option Bool) → Option Bool) (F1 : Int → Int → Bool → (List Int) → (Bool → Bool → (List Int) → Option Bool) → Option Bool) (n365 : Int) (n366 : Int) (n367 : Int) (n368 : Int) (n369 : Int) (n370 : Int) (n371 : Int) (n372 : Int) (n373 : Int) (b374 : Bool) (ns375 : List Int) (k : KR) : execL Try.prog ht 33 (callfOf (stack_Stack_writev1.calls F0 F1)) (stack_Stack_writev1.loops) 0 (codeOf Try.f33) ⟨[(.ptr [0, 0] 0 0), (.d ⟨(.int .i64), n365⟩), (.d ⟨(.int .i64), n366⟩)] ++ List.replicate (Try.f33.ntmps - ([(.ptr [0, 0] 0 0), (.d ⟨(.int .i64), n365⟩), (.d ⟨(.int .i64), n366⟩)] : List AV).length) .undef, [([0, 0], ⟨53, 8, (.mix [(.agg [(.ptr [0, 1] 0 0), (.d ⟨(.int .i64), n367⟩), (.d ⟨(.int .i64), n368⟩), (.d ⟨(.int .i64), n369⟩), (.d ⟨(.int .i64), n370⟩), (.d ⟨(.int .i64), n371⟩), (.d ⟨(.int .i64), n372⟩), (.d ⟨(.int .i64), n373⟩)])])⟩), ([0, 1], ⟨61, 2, (.mix [(.agg [(.ref [0, 2]), (.d ⟨.bool, b374⟩)])])⟩), ([0, 2], ⟨2, 1, (.data (.int .i64) ns375)⟩)], 2⟩ (leave Try.prog Try.f33 k) = stack_Stack_writev1.body F0 F1 n365 n366 n367 n368 n369 n370 n371 n372 n373 b374 ns375 (fun y0 y1 y2 y3 y4 y5 y6 y7 y8 y9 => k (.d ⟨.bool, y0⟩) [([0, 0], ⟨53, 8, (.mix [(.agg [(.ptr [0, 1] 0 0), (.d ⟨(.int .i64), y1⟩), (.d ⟨(.int .i64), y2⟩), (.d ⟨(.int .i64), y3⟩), (.d ⟨(.int .i64), y4⟩), (.d ⟨(.int .i64), y5⟩), (.d ⟨(.int .i64), y6⟩), (.d ⟨(.int .i64), y7⟩)])])⟩), ([0, 1], ⟨61, 2, (.mix [(.agg [(.ref [0, 2]), (.d ⟨.bool, y8⟩)])])⟩), ([0, 2], ⟨2, 1, (.data (.int .i64) y9)⟩)]) := by kernel_rfl
theorem stack_Stack_writev1.ok (d : Nat) (hd : 4 ≤ d) (n365 : Int) (n366 : Int) (n367 : Int) (n368 : Int) (n369 : Int) (n370 : Int) (n371 : Int) (n372 : Int) (n373 : Int) (b374 : Bool) (ns375 : List Int) (k : KR) (hx : stack_Stack_writev1 n365 n366 n367 n368 n369 n370 n371 n372 n373 b374 ns375 (fun y0 y1 y2 y3 y4 y5 y6 y7 y8 y9 => k (.d ⟨.bool, y0⟩) [([0, 0], ⟨53, 8, (.mix [(.agg [(.ptr [0, 1] 0 0), (.d ⟨(.int .i64), y1⟩), (.d ⟨(.int .i64), y2⟩), (.d ⟨(.int .i64), y3⟩), (.d ⟨(.int .i64), y4⟩), (.d ⟨(.int .i64), y5⟩), (.d ⟨(.int .i64), y6⟩), (.d ⟨(.int .i64), y7⟩)])])⟩), ([0, 1], ⟨61, 2, (.mix [(.agg [(.ref [0, 2]), (.d ⟨.bool, y8⟩)])])⟩), ([0, 2], ⟨2, 1, (.data (.int .i64) y9)⟩)]) = some true) : callK Try.prog ht d 33 [(.ptr [0, 0] 0 0), (.d ⟨(.int .i64), n365⟩), (.d ⟨(.int .i64), n366⟩)] [([0, 0], ⟨53, 8, (.mix [(.agg [(.ptr [0, 1] 0 0), (.d ⟨(.int .i64), n367⟩), (.d ⟨(.int .i64), n368⟩), (.d ⟨(.int .i64), n369⟩), (.d ⟨(.int .i64), n370⟩), (.d ⟨(.int .i64), n371⟩), (.d ⟨(.int .i64), n372⟩), (.d ⟨(.int .i64), n373⟩)])])⟩), ([0, 1], ⟨61, 2, (.mix [(.agg [(.ref [0, 2]), (.d ⟨.bool, b374⟩)])])⟩), ([0, 2], ⟨2, 1, (.data (.int .i64) ns375)⟩)] k = some true := by
  obtain ⟨d, rfl⟩ : ∃ e, d = e + 1 := ⟨d - 1, by omega⟩
  exact fn_ok (c := codeOf Try.f33) Try.func33 (by kernel_rfl) (rec := stack_Stack_writev1.calls stack_Stack_livev1 memory_Memory_Store) (fun g a h k hx => by
    rcases stack_Stack_livev1.look d (by omega) hx with hx | hx
    rotate_left
    · exact hx
    rcases memory_Memory_Store.look d (by omega) hx with hx | hx
    rotate_left
    · exact hx
    cases hx) (loopf := stack_Stack_writev1.loops) (by
    have e : loopsOf (stack_Stack_writev1.loops) 0 (codeOf Try.f33) = [] := by kernel_rfl
    rw [e]
    intro p hp
    cases hp) ((stack_Stack_writev1.eq stack_Stack_livev1 memory_Memory_Store n365 n366 n367 n368 n369 n370 n371 n372 n373 b374 ns375 k).trans hx)
theorem stack_Stack_writev1.look (d : Nat) (hd : 4 ≤ d) {e : Option Bool} {g : FuncId} {a : List AV} {h : Heap} {k : KR} (hx : stack_Stack_writev1.get stack_Stack_writev1 e g a h k = some true) : e = some true ∨ callK Try.prog ht d g a h k = some true := by
  unfold stack_Stack_writev1.get at hx
  split at hx
  · exact .inr (stack_Stack_writev1.ok d hd _ _ _ _ _ _ _ _ _ _ _ _ hx)
  · exact .inl hx
/-- function 32: (*sheerleg/stack.Stack).ahead -/
noncomputable def stack_Stack_aheadv1.body (stack_Stack_SPv1 : Int → Int → Int → Int → Int → Int → Int → Bool → (List Int) → (Int → Int → Int → Int → Int → Int → Int → Int → Bool → (List Int) → Option Bool) → Option Bool) (stack_Stack_writev1 : Int → Int → Int → Int → Int → Int → Int → Int → Int → Bool → (List Int) → (Bool → Int → Int → Int → Int → Int → Int → Int → Bool → (List Int) → Option Bool) → Option Bool) (n345 : Int) (n346 : Int) (n347 : Int) (n348 : Int) (n349 : Int) (n350 : Int) (n351 : Int) (n352 : Int) (b353 : Bool) (ns354 : List Int) (k1 : Bool → Int → Int → Int → Int → Int → Int → Int → Bool → (List Int) → Option Bool) : Option Bool :=
  (stack_Stack_SPv1 n346 n347 n348 n349 n350 n351 n352 b353 ns354
  (fun n355 n356 n357 n358 n359 n360 n361 n362 b363 ns364 => (stack_Stack_writev1 (IntKind.wrap .i64 (n355 - (1 : Int))) n345 n356 n357 n358 n359 n360 n361 n362 b363 ns364
  (fun b409 n410 n411 n412 n413 n414 n415 n416 b417 ns418 => (k1 b409 n410 n411 n412 n413 n414 n415 n416 b417 ns418)))))
noncomputable def stack_Stack_aheadv1 (n345 : Int) (n346 : Int) (n347 : Int) (n348 : Int) (n349 : Int) (n350 : Int) (n351 : Int) (n352 : Int) (b353 : Bool) (ns354 : List Int) (k1 : Bool → Int → Int → Int → Int → Int → Int → Int → Bool → (List Int) → Option Bool) : Option Bool := stack_Stack_aheadv1.body stack_Stack_SPv1 stack_Stack_writev1 n345 n346 n347 n348 n349 n350 n351 n352 b353 ns354 k1
noncomputable def stack_Stack_aheadv1.get (F : Int → Int → Int → Int → Int → Int → Int → Int → Bool → (List Int) → (Bool → Int → Int → Int → Int → Int → Int → Int → Bool → (List Int) → Option Bool) → Option Bool) (e : Option Bool) (g : FuncId) (a : List AV) (h : Heap) (k : KR) : Option Bool := match g, a, h with
  | 32, [(.ptr [0, 0] 0 0), (.fn (.func 33) [(.ptr [0, 0] 0 0)] []), (.d ⟨(.int .i64), n345⟩)], [([0, 0], ⟨53, 8, (.mix [(.agg [(.ptr [0, 1] 0 0), (.d ⟨(.int .i64), n346⟩), (.d ⟨(.int .i64), n347⟩), (.d ⟨(.int .i64), n348⟩), (.d ⟨(.int .i64), n349⟩), (.d ⟨(.int .i64), n350⟩), (.d ⟨(.int .i64), n351⟩), (.d ⟨(.int .i64), n352⟩)])])⟩), ([0, 1], ⟨61, 2, (.mix [(.agg [(.ref [0, 2]), (.d ⟨.bool, b353⟩)])])⟩), ([0, 2], ⟨2, 1, (.data (.int .i64) ns354)⟩)] => F n345 n346 n347 n348 n349 n350 n351 n352 b353 ns354 (fun y0 y1 y2 y3 y4 y5 y6 y7 y8 y9 => k (.d ⟨.bool, y0⟩) [([0, 0], ⟨53, 8, (.mix [(.agg [(.ptr [0, 1] 0 0), (.d ⟨(.int .i64), y1⟩), (.d ⟨(.int .i64), y2⟩), (.d ⟨(.int .i64), y3⟩), (.d ⟨(.int .i64), y4⟩), (.d ⟨(.int .i64), y5⟩), (.d ⟨(.int .i64), y6⟩), (.d ⟨(.int .i64), y7⟩)])])⟩), ([0, 1], ⟨61, 2, (.mix [(.agg [(.ref [0, 2]), (.d ⟨.bool, y8⟩)])])⟩), ([0, 2], ⟨2, 1, (.data (.int .i64) y9)⟩)])
  | _, _, _ => e
noncomputable def stack_Stack_aheadv1.calls (F0 : Int → Int → Int → Int → Int → Int → Int → Bool → (List Int) → (Int → Int → Int → Int → Int → Int → Int → Int → Bool → (List Int) → Option Bool) → Option Bool) (F1 : Int → Int → Int → Int → Int → Int → Int → Int → Int → Bool → (List Int) → (Bool → Int → Int → Int → Int → Int → Int → Int → Bool → (List Int) → Option Bool) → Option Bool) : RecF := fun g a h k => (stack_Stack_SPv1.get F0 (stack_Stack_writev1.get F1 none g a h k) g a h k)
noncomputable def stack_Stack_aheadv1.loops : LoopF := fun b => none
set_option maxRecDepth 100000 in
theorem stack_Stack_aheadv1.eq (F0 : Int → Int → Int → Int → Int → Int → Int → Bool → (List Int) → (Int → Int → Int → Int → Int → Int → Int → Int → Bool → (List Int) → Option Bool) → Option Bool) (F1 : Int → Int → Int → Int → Int → Int → Int → Int → Int → Bool → (List Int) → (Bool → Int → Int → Int → Int → Int → Int → Int → Bool → (List Int) → Option Bool) → Option Bool) (n345 : Int) (n346 : Int) (n347 : Int) (n348 : Int) (n349 : Int) (n350 : Int) (n351 : Int) (n352 : Int) (b353 : Bool) (ns354 : List Int) (k : KR) : execL Try.prog ht 32 (callfOf (stack_Stack_aheadv1.calls F0 F1)) (stack_Stack_aheadv1.loops) 0 (codeOf Try.f32) ⟨[(.ptr [0, 0] 0 0), (.fn (.func 33) [(.ptr [0, 0] 0 0)] []), (.d ⟨(.int .i64), n345⟩)] ++ List.replicate (Try.f32.ntmps - ([(.ptr [0, 0] 0 0), (.fn (.func 33) [(.ptr [0, 0] 0 0)] []), (.d ⟨(.int .i64), n345⟩)] : List AV).length) .undef, [([0, 0], ⟨53, 8, (.mix [(.agg [(.ptr [0, 1] 0 0), (.d ⟨(.int .i64), n346⟩), (.d ⟨(.int .i64), n347⟩), (.d ⟨(.int .i64), n348⟩), (.d ⟨(.int .i64), n349⟩), (.d ⟨(.int .i64), n350⟩), (.d ⟨(.int .i64), n351⟩), (.d ⟨(.int .i64), n352⟩)])])⟩), ([0, 1], ⟨61, 2, (.mix [(.agg [(.ref [0, 2]), (.d ⟨.bool, b353⟩)])])⟩), ([0, 2], ⟨2, 1, (.data (.int .i64) ns354)⟩)], 2⟩ (leave Try.prog Try.f32 k) = stack_Stack_aheadv1.body F0 F1 n345 n346 n347 n348 n349 n350 n351 n352 b353 ns354 (fun y0 y1 y2 y3 y4 y5 y6 y7 y8 y9 => k (.d ⟨.bool, y0⟩) [([0, 0], ⟨53, 8, (.mix [(.agg [(.ptr [0, 1] 0 0), (.d ⟨(.int .i64), y1⟩), (.d ⟨(.int .i64), y2⟩), (.d ⟨(.int .i64), y3⟩), (.d ⟨(.int .i64), y4⟩), (.d ⟨(.int .i64), y5⟩), (.d ⟨(.int .i64), y6⟩), (.d ⟨(.int .i64), y7⟩)])])⟩), ([0, 1], ⟨61, 2, (.mix [(.agg [(.ref [0, 2]), (.d ⟨.bool, y8⟩)])])⟩), ([0, 2], ⟨2, 1, (.data (.int .i64) y9)⟩)]) := by kernel_rfl
theorem stack_Stack_aheadv1.ok (d : Nat) (hd : 5 ≤ d) (n345 : Int) (n346 : Int) (n347 : Int) (n348 : Int) (n349 : Int) (n350 : Int) (n351 : Int) (n352 : Int) (b353 : Bool) (ns354 : List Int) (k : KR) (hx : stack_Stack_aheadv1 n345 n346 n347 n348 n349 n350 n351 n352 b353 ns354 (fun y0 y1 y2 y3 y4 y5 y6 y7 y8 y9 => k (.d ⟨.bool, y0⟩) [([0, 0], ⟨53, 8, (.mix [(.agg [(.ptr [0, 1] 0 0), (.d ⟨(.int .i64), y1⟩), (.d ⟨(.int .i64), y2⟩), (.d ⟨(.int .i64), y3⟩), (.d ⟨(.int .i64), y4⟩), (.d ⟨(.int .i64), y5⟩), (.d ⟨(.int .i64), y6⟩), (.d ⟨(.int .i64), y7⟩)])])⟩), ([0, 1], ⟨61, 2, (.mix [(.agg [(.ref [0, 2]), (.d ⟨.bool, y8⟩)])])⟩), ([0, 2], ⟨2, 1, (.data (.int .i64) y9)⟩)]) = some true) : callK Try.prog ht d 32 [(.ptr [0, 0] 0 0), (.fn (.func 33) [(.ptr [0, 0] 0 0)] []), (.d ⟨(.int .i64), n345⟩)] [([0, 0], ⟨53, 8, (.mix [(.agg [(.ptr [0, 1] 0 0), (.d ⟨(.int .i64), n346⟩), (.d ⟨(.int .i64), n347⟩), (.d ⟨(.int .i64), n348⟩), (.d ⟨(.int .i64), n349⟩), (.d ⟨(.int .i64), n350⟩), (.d ⟨(.int .i64), n351⟩), (.d ⟨(.int .i64), n352⟩)])])⟩), ([0, 1], ⟨61, 2, (.mix [(.agg [(.ref [0, 2]), (.d ⟨.bool, b353⟩)])])⟩), ([0, 2], ⟨2, 1, (.data (.int .i64) ns354)⟩)] k = some true := by
  obtain ⟨d, rfl⟩ : ∃ e, d = e + 1 := ⟨d - 1, by omega⟩
  exact fn_ok (c := codeOf Try.f32) Try.func32 (by kernel_rfl) (rec := stack_Stack_aheadv1.calls stack_Stack_SPv1 stack_Stack_writev1) (fun g a h k hx => by
    rcases stack_Stack_SPv1.look d (by omega) hx with hx | hx
    rotate_left
    · exact hx
    rcases stack_Stack_writev1.look d (by omega) hx with hx | hx
    rotate_left
    · exact hx
    cases hx) (loopf := stack_Stack_aheadv1.loops) (by
    have e : loopsOf (stack_Stack_aheadv1.loops) 0 (codeOf Try.f32) = [] := by kernel_rfl
    rw [e]
    intro p hp
    cases hp) ((stack_Stack_aheadv1.eq stack_Stack_SPv1 stack_Stack_writev1 n345 n346 n347 n348 n349 n350 n351 n352 b353 ns354 k).trans hx)
theorem stack_Stack_aheadv1.look (d : Nat) (hd : 5 ≤ d) {e : Option Bool} {g : FuncId} {a : List AV} {h : Heap} {k : KR} (hx : stack_Stack_aheadv1.get stack_Stack_aheadv1 e g a h k = some true) : e = some true ∨ callK Try.prog ht d g a h k = some true := by
  unfold stack_Stack_aheadv1.get at hx
  split at hx
  · exact .inr (stack_Stack_aheadv1.ok d hd _ _ _ _ _ _ _ _ _ _ _ hx)
  · exact .inl hx
/-- function 10: (*sheerleg/stack.Stack).Push -/
noncomputable def stack_Stack_Pushv1.body (stack_Stack_aheadv1 : Int → Int → Int → Int → Int → Int → Int → Int → Bool → (List Int) → (Bool → Int → Int → Int → Int → Int → Int → Int → Bool → (List Int) → Option Bool) → Option Bool) (n335 : Int) (n336 : Int) (n337 : Int) (n338 : Int) (n339 : Int) (n340 : Int) (n341 : Int) (n342 : Int) (b343 : Bool) (ns344 : List Int) (k1 : Bool → Int → Int → Int → Int → Int → Int → Int → Bool → (List Int) → Option Bool) : Option Bool :=
  (stack_Stack_aheadv1 n335 n336 n337 n338 n339 n340 n341 n342 b343 ns344
  (fun b419 n420 n421 n422 n423 n424 n425 n426 b427 ns428 => (cond_ (! b419) (k1 false n420 n421 n422 n423 n424 n425 n426 b427 ns428) (k1 true n420 n421 n422 (IntKind.wrap .i64 (n423 - (1 : Int))) n424 n425 n426 b427 ns428))))
noncomputable def stack_Stack_Pushv1 (n335 : Int) (n336 : Int) (n337 : Int) (n338 : Int) (n339 : Int) (n340 : Int) (n341 : Int) (n342 : Int) (b343 : Bool) (ns344 : List Int) (k1 : Bool → Int → Int → Int → Int → Int → Int → Int → Bool → (List Int) → Option Bool) : Option Bool := stack_Stack_Pushv1.body stack_Stack_aheadv1 n335 n336 n337 n338 n339 n340 n341 n342 b343 ns344 k1
noncomputable def stack_Stack_Pushv1.get (F : Int → Int → Int → Int → Int → Int → Int → Int → Bool → (List Int) → (Bool → Int → Int → Int → Int → Int → Int → Int → Bool → (List Int) → Option Bool) → Option Bool) (e : Option Bool) (g : FuncId) (a : List AV) (h : Heap) (k : KR) : Option Bool := match g, a, h with
  | 10, [(.ptr [0, 0] 0 0), (.d ⟨(.int .i64), n335⟩)], [([0, 0], ⟨53, 8, (.mix [(.agg [(.ptr [0, 1] 0 0), (.d ⟨(.int .i64), n336⟩), (.d ⟨(.int .i64), n337⟩), (.d ⟨(.int .i64), n338⟩), (.d ⟨(.int .i64), n339⟩), (.d ⟨(.int .i64), n340⟩), (.d ⟨(.int .i64), n341⟩), (.d ⟨(.int .i64), n342⟩)])])⟩), ([0, 1], ⟨61, 2, (.mix [(.agg [(.ref [0, 2]), (.d ⟨.bool, b343⟩)])])⟩), ([0, 2], ⟨2, 1, (.data (.int .i64) ns344)⟩)] => F n335 n336 n337 n338 n339 n340 n341 n342 b343 ns344 (fun y0 y1 y2 y3 y4 y5 y6 y7 y8 y9 => k (.d ⟨.bool, y0⟩) [([0, 0], ⟨53, 8, (.mix [(.agg [(.ptr [0, 1] 0 0), (.d ⟨(.int .i64), y1⟩), (.d ⟨(.int .i64), y2⟩), (.d ⟨(.int .i64), y3⟩), (.d ⟨(.int .i64), y4⟩), (.d ⟨(.int .i64), y5⟩), (.d ⟨(.int .i64), y6⟩), (.d ⟨(.int .i64), y7⟩)])])⟩), ([0, 1], ⟨61, 2, (.mix [(.agg [(.ref [0, 2]), (.d ⟨.bool, y8⟩)])])⟩), ([0, 2], ⟨2, 1, (.data (.int .i64) y9)⟩)])
  | _, _, _ => e
noncomputable def stack_Stack_Pushv1.calls (F0 : Int → Int → Int → Int → Int → Int → Int → Int → Bool → (List Int) → (Bool → Int → Int → Int → Int → Int → Int → Int → Bool → (List Int) → Option Bool) → Option Bool) : RecF := fun g a h k => (stack_Stack_aheadv1.get F0 none g a h k)
noncomputable def stack_Stack_Pushv1.loops : LoopF := fun b => none
set_option maxRecDepth 100000 in
theorem stack_Stack_Pushv1.eq (F0 : Int → Int → Int → Int → Int → Int → Int → Int → Bool → (List Int) → (Bool → Int → Int → Int → Int → Int → Int → Int → Bool → (List Int) → Option Bool) → Option Bool) (n335 : Int) (n336 : Int) (n337 : Int) (n338 : Int) (n339 : Int) (n340 : Int) (n341 : Int) (n342 : Int) (b343 : Bool) (ns344 : List Int) (k : KR) : execL Try.prog ht 10 (callfOf (stack_Stack_Pushv1.calls F0)) (stack_Stack_Pushv1.loops) 0 (codeOf Try.f10) ⟨[(.ptr [0, 0] 0 0), (.d ⟨(.int .i64), n335⟩)] ++ List.replicate (Try.f10.ntmps - ([(.ptr [0, 0] 0 0), (.d ⟨(.int .i64), n335⟩)] : List AV).length) .undef, [([0, 0], ⟨53, 8, (.mix [(.agg [(.ptr [0, 1] 0 0), (.d ⟨(.int .i64), n336⟩), (.d ⟨(.int .i64), n337⟩), (.d ⟨(.int .i64), n338⟩), (.d ⟨(.int .i64), n339⟩), (.d ⟨(.int .i64), n340⟩), (.d ⟨(.int .i64), n341⟩), (.d ⟨(.int .i64), n342⟩)])])⟩), ([0, 1], ⟨61, 2, (.mix [(.agg [(.ref [0, 2]), (.d ⟨.bool, b343⟩)])])⟩), ([0, 2], ⟨2, 1, (.data (.int .i64) ns344)⟩)], 2⟩ (leave Try.prog Try.f10 k) = stack_Stack_Pushv1.body F0 n335 n336 n337 n338 n339 n340 n341 n342 b343 ns344 (fun y0 y1 y2 y3 y4 y5 y6 y7 y8 y9 => k (.d ⟨.bool, y0⟩) [([0, 0], ⟨53, 8, (.mix [(.agg [(.ptr [0, 1] 0 0), (.d ⟨(.int .i64), y1⟩), (.d ⟨(.int .i64), y2⟩), (.d ⟨(.int .i64), y3⟩), (.d ⟨(.int .i64), y4⟩), (.d ⟨(.int .i64), y5⟩), (.d ⟨(.int .i64), y6⟩), (.d ⟨(.int .i64), y7⟩)])])⟩), ([0, 1], ⟨61, 2, (.mix [(.agg [(.ref [0, 2]), (.d ⟨.bool, y8⟩)])])⟩), ([0, 2], ⟨2, 1, (.data (.int .i64) y9)⟩)]) := by kernel_rfl
theorem stack_Stack_Pushv1.ok (d : Nat) (hd : 6 ≤ d) (n335 : Int) (n336 : Int) (n337 : Int) (n338 : Int) (n339 : Int) (n340 : Int) (n341 : Int) (n342 : Int) (b343 : Bool) (ns344 : List Int) (k : KR) (hx : stack_Stack_Pushv1 n335 n336 n337 n338 n339 n340 n341 n342 b343 ns344 (fun y0 y1 y2 y3 y4 y5 y6 y7 y8 y9 => k (.d ⟨.bool, y0⟩) [([0, 0], ⟨53, 8, (.mix [(.agg [(.ptr [0, 1] 0 0), (.d ⟨(.int .i64), y1⟩), (.d ⟨(.int .i64), y2⟩), (.d ⟨(.int .i64), y3⟩), (.d ⟨(.int .i64), y4⟩), (.d ⟨(.int .i64), y5⟩), (.d ⟨(.int .i64), y6⟩), (.d ⟨(.int .i64), y7⟩)])])⟩), ([0, 1], ⟨61, 2, (.mix [(.agg [(.ref [0, 2]), (.d ⟨.bool, y8⟩)])])⟩), ([0, 2], ⟨2, 1, (.data (.int .i64) y9)⟩)]) = some true) : callK Try.prog ht d 10 [(.ptr [0, 0] 0 0), (.d ⟨(.int .i64), n335⟩)] [([0, 0], ⟨53, 8, (.mix [(.agg [(.ptr [0, 1] 0 0), (.d ⟨(.int .i64), n336⟩), (.d ⟨(.int .i64), n337⟩), (.d ⟨(.int .i64), n338⟩), (.d ⟨(.int .i64), n339⟩), (.d ⟨(.int .i64), n340⟩), (.d ⟨(.int .i64), n341⟩), (.d ⟨(.int .i64), n342⟩)])])⟩), ([0, 1], ⟨61, 2, (.mix [(.agg [(.ref [0, 2]), (.d ⟨.bool, b343⟩)])])⟩), ([0, 2], ⟨2, 1, (.data (.int .i64) ns344)⟩)] k = some true := by
  obtain ⟨d, rfl⟩ : ∃ e, d = e + 1 := ⟨d - 1, by omega⟩
  exact fn_ok (c := codeOf Try.f10) Try.func10 (by kernel_rfl) (rec := stack_Stack_Pushv1.calls stack_Stack_aheadv1) (fun g a h k hx => by
    rcases stack_Stack_aheadv1.look d (by omega) hx with hx | hx
    rotate_left
    · exact hx
    cases hx) (loopf := stack_Stack_Pushv1.loops) (by
    have e : loopsOf (stack_Stack_Pushv1.loops) 0 (codeOf Try.f10) = [] := by kernel_rfl
    rw [e]
    intro p hp
    cases hp) ((stack_Stack_Pushv1.eq stack_Stack_aheadv1 n335 n336 n337 n338 n339 n340 n341 n342 b343 ns344 k).trans hx)
theorem stack_Stack_Pushv1.look (d : Nat) (hd : 6 ≤ d) {e : Option Bool} {g : FuncId} {a : List AV} {h : Heap} {k : KR} (hx : stack_Stack_Pushv1.get stack_Stack_Pushv1 e g a h k = some true) : e = some true ∨ callK Try.prog ht d g a h k = some true := by
  unfold stack_Stack_Pushv1.get at hx
  split at hx
  · exact .inr (stack_Stack_Pushv1.ok d hd _ _ _ _ _ _ _ _ _ _ _ hx)
  · exact .inl hx
/-- function 16: (*sheerleg/stack.Stack).Id -/
noncomputable def stack_Stack_Idv1.body (stack_Stack_Segv1 : Int → Int → Int → Int → Int → Int → Int → Bool → (List Int) → ((Int × Int × Int × Unit) → Int → Int → Int → Int → Int → Int → Int → Bool → (List Int) → Option Bool) → Option Bool) (stack_Stack_SPv1 : Int → Int → Int → Int → Int → Int → Int → Bool → (List Int) → (Int → Int → Int → Int → Int → Int → Int → Int → Bool → (List Int) → Option Bool) → Option Bool) (n604 : Int) (n605 : Int) (n606 : Int) (n607 : Int) (n608 : Int) (n609 : Int) (n610 : Int) (b611 : Bool) (ns612 : List Int) (k1 : Int → Int → Int → Int → Int → Int → Int → Int → Bool → (List Int) → Option Bool) : Option Bool :=
  (stack_Stack_Segv1 n604 n605 n606 n607 n608 n609 n610 b611 ns612
  (fun t613 n614 n615 n616 n617 n618 n619 n620 b621 ns622 => (stack_Stack_SPv1 n614 n615 n616 n617 n618 n619 n620 b621 ns622
  (fun n623 n624 n625 n626 n627 n628 n629 n630 b631 ns632 => (k1 (IntKind.wrap .i64 (t613.2.2.1 - n623)) n624 n625 n626 n627 n628 n629 n630 b631 ns632)))))
noncomputable def stack_Stack_Idv1 (n604 : Int) (n605 : Int) (n606 : Int) (n607 : Int) (n608 : Int) (n609 : Int) (n610 : Int) (b611 : Bool) (ns612 : List Int) (k1 : Int → Int → Int → Int → Int → Int → Int → Int → Bool → (List Int) → Option Bool) : Option Bool := stack_Stack_Idv1.body stack_Stack_Segv1 stack_Stack_SPv1 n604 n605 n606 n607 n608 n609 n610 b611 ns612 k1
noncomputable def stack_Stack_Idv1.get (F : Int → Int → Int → Int → Int → Int → Int → Bool → (List Int) → (Int → Int → Int → Int → Int → Int → Int → Int → Bool → (List Int) → Option Bool) → Option Bool) (e : Option Bool) (g : FuncId) (a : List AV) (h : Heap) (k : KR) : Option Bool := match g, a, h with
  | 16, [(.ptr [0, 0] 0 0)], [([0, 0], ⟨53, 8, (.mix [(.agg [(.ptr [0, 1] 0 0), (.d ⟨(.int .i64), n604⟩), (.d ⟨(.int .i64), n605⟩), (.d ⟨(.int .i64), n606⟩), (.d ⟨(.int .i64), n607⟩), (.d ⟨(.int .i64), n608⟩), (.d ⟨(.int .i64), n609⟩), (.d ⟨(.int .i64), n610⟩)])])⟩), ([0, 1], ⟨61, 2, (.mix [(.agg [(.ref [0, 2]), (.d ⟨.bool, b611⟩)])])⟩), ([0, 2], ⟨2, 1, (.data (.int .i64) ns612)⟩)] => F n604 n605 n606 n607 n608 n609 n610 b611 ns612 (fun y0 y1 y2 y3 y4 y5 y6 y7 y8 y9 => k (.d ⟨(.int .i64), y0⟩) [([0, 0], ⟨53, 8, (.mix [(.agg [(.ptr [0, 1] 0 0), (.d ⟨(.int .i64), y1⟩), (.d ⟨(.int .i64), y2⟩), (.d ⟨(.int .i64), y3⟩), (.d ⟨(.int .i64), y4⟩), (.d ⟨(.int .i64), y5⟩), (.d ⟨(.int .i64), y6⟩), (.d ⟨(.int .i64), y7⟩)])])⟩), ([0, 1], ⟨61, 2, (.mix [(.agg [(.ref [0, 2]), (.d ⟨.bool, y8⟩)])])⟩), ([0, 2], ⟨2, 1, (.data (.int .i64) y9)⟩)])
  | _, _, _ => e
noncomputable def stack_Stack_Idv1.calls (F0 : Int → Int → Int → Int → Int → Int → Int → Bool → (List Int) → ((Int × Int × Int × Unit) → Int → Int → Int → Int → Int → Int → Int → Bool → (List Int) → Option Bool) → Option Bool) (F1 : Int → Int → Int → Int → Int → Int → Int → Bool → (List Int) → (Int → Int → Int → Int → Int → Int → Int → Int → Bool → (List Int) → Option Bool) → Option Bool) : RecF := fun g a h k => (stack_Stack_Segv1.get F0 (stack_Stack_SPv1.get F1 none g a h k) g a h k)
noncomputable def stack_Stack_Idv1.loops : LoopF := fun b => none
set_option maxRecDepth 100000 in
theorem stack_Stack_Idv1.eq (F0 : Int → Int → Int → Int → Int → Int → Int → Bool → (List Int) → ((Int × Int × Int × Unit) → Int → Int → Int → Int → Int → Int → Int → Bool → (List Int) → Option Bool) → Option Bool) (F1 : Int → Int → Int → Int → Int → Int → Int → Bool → (List Int) → (Int → Int → Int → Int → Int → Int → Int → Int → Bool → (List Int) → Option Bool) → Option Bool) (n604 : Int) (n605 : Int) (n606 : Int) (n607 : Int) (n608 : Int) (n609 : Int) (n610 : Int) (b611 : Bool) (ns612 : List Int) (k : KR) : execL Try.prog ht 16 (callfOf (stack_Stack_Idv1.calls F0 F1)) (stack_Stack_Idv1.loops) 0 (codeOf Try.f16) ⟨[(.ptr [0, 0] 0 0)] ++ List.replicate (Try.f16.ntmps - ([(.ptr [0, 0] 0 0)] : List AV).length) .undef, [([0, 0], ⟨53, 8, (.mix [(.agg [(.ptr [0, 1] 0 0), (.d ⟨(.int .i64), n604⟩), (.d ⟨(.int .i64), n605⟩), (.d ⟨(.int .i64), n606⟩), (.d ⟨(.int .i64), n607⟩), (.d ⟨(.int .i64), n608⟩), (.d ⟨(.int .i64), n609⟩), (.d ⟨(.int .i64), n610⟩)])])⟩), ([0, 1], ⟨61, 2, (.mix [(.agg [(.ref [0, 2]), (.d ⟨.bool, b611⟩)])])⟩), ([0, 2], ⟨2, 1, (.data (.int .i64) ns612)⟩)], 2⟩ (leave Try.prog Try.f16 k) = stack_Stack_Idv1.body F0 F1 n604 n605 n606 n607 n608 n609 n610 b611 ns612 (fun y0 y1 y2 y3 y4 y5 y6 y7 y8 y9 => k (.d ⟨(.int .i64), y0⟩) [([0, 0], ⟨53, 8, (.mix [(.agg [(.ptr [0, 1] 0 0), (.d ⟨(.int .i64), y1⟩), (.d ⟨(.int .i64), y2⟩), (.d ⟨(.int .i64), y3⟩), (.d ⟨(.int .i64), y4⟩), (.d ⟨(.int .i64), y5⟩), (.d ⟨(.int .i64), y6⟩), (.d ⟨(.int .i64), y7⟩)])])⟩), ([0, 1], ⟨61, 2, (.mix [(.agg [(.ref [0, 2]), (.d ⟨.bool, y8⟩)])])⟩), ([0, 2], ⟨2, 1, (.data (.int .i64) y9)⟩)]) := by kernel_rfl
theorem stack_Stack_Idv1.ok (d : Nat) (hd : 3 ≤ d) (n604 : Int) (n605 : Int) (n606 : Int) (n607 : Int) (n608 : Int) (n609 : Int) (n610 : Int) (b611 : Bool) (ns612 : List Int) (k : KR) (hx : stack_Stack_Idv1 n604 n605 n606 n607 n608 n609 n610 b611 ns612 (fun y0 y1 y2 y3 y4 y5 y6 y7 y8 y9 => k (.d ⟨(.int .i64), y0⟩) [([0, 0], ⟨53, 8, (.mix [(.agg [(.ptr [0, 1] 0 0), (.d ⟨(.int .i64), y1⟩), (.d ⟨(.int .i64), y2⟩), (.d ⟨(.int .i64), y3⟩), (.d ⟨(.int .i64), y4⟩), (.d ⟨(.int .i64), y5⟩), (.d ⟨(.int .i64), y6⟩), (.d ⟨(.int .i64), y7⟩)])])⟩), ([0, 1], ⟨61, 2, (.mix [(.agg [(.ref [0, 2]), (.d ⟨.bool, y8⟩)])])⟩), ([0, 2], ⟨2, 1, (.data (.int .i64) y9)⟩)]) = some true) : callK Try.prog ht d 16 [(.ptr [0, 0] 0 0)] [([0, 0], ⟨53, 8, (.mix [(.agg [(.ptr [0, 1] 0 0), (.d ⟨(.int .i64), n604⟩), (.d ⟨(.int .i64), n605⟩), (.d ⟨(.int .i64), n606⟩), (.d ⟨(.int .i64), n607⟩), (.d ⟨(.int .i64), n608⟩), (.d ⟨(.int .i64), n609⟩), (.d ⟨(.int .i64), n610⟩)])])⟩), ([0, 1], ⟨61, 2, (.mix [(.agg [(.ref [0, 2]), (.d ⟨.bool, b611⟩)])])⟩), ([0, 2], ⟨2, 1, (.data (.int .i64) ns612)⟩)] k = some true := by
  obtain ⟨d, rfl⟩ : ∃ e, d = e + 1 := ⟨d - 1, by omega⟩
  exact fn_ok (c := codeOf Try.f16) Try.func16 (by kernel_rfl) (rec := stack_Stack_Idv1.calls stack_Stack_Segv1 stack_Stack_SPv1) (fun g a h k hx => by
    rcases stack_Stack_Segv1.look d (by omega) hx with hx | hx
    rotate_left
    · exact hx
    rcases stack_Stack_SPv1.look d (by omega) hx with hx | hx
    rotate_left
    · exact hx
    cases hx) (loopf := stack_Stack_Idv1.loops) (by
    have e : loopsOf (stack_Stack_Idv1.loops) 0 (codeOf Try.f16) = [] := by kernel_rfl
    rw [e]
    intro p hp
    cases hp) ((stack_Stack_Idv1.eq stack_Stack_Segv1 stack_Stack_SPv1 n604 n605 n606 n607 n608 n609 n610 b611 ns612 k).trans hx)
theorem stack_Stack_Idv1.look (d : Nat) (hd : 3 ≤ d) {e : Option Bool} {g : FuncId} {a : List AV} {h : Heap} {k : KR} (hx : stack_Stack_Idv1.get stack_Stack_Idv1 e g a h k = some true) : e = some true ∨ callK Try.prog ht d g a h k = some true := by
  unfold stack_Stack_Idv1.get at hx
  split at hx
  · exact .inr (stack_Stack_Idv1.ok d hd _ _ _ _ _ _ _ _ _ _ hx)
  · exact .inl hx
/-- function 48: (*sheerleg/stack.Stack).has -/
noncomputable def stack_Stack_hasv1.body (stack_Stack_Idv1 : Int → Int → Int → Int → Int → Int → Int → Bool → (List Int) → (Int → Int → Int → Int → Int → Int → Int → Int → Bool → (List Int) → Option Bool) → Option Bool) (n594 : Int) (n595 : Int) (n596 : Int) (n597 : Int) (n598 : Int) (n599 : Int) (n600 : Int) (n601 : Int) (b602 : Bool) (ns603 : List Int) (k1 : Bool → Int → Int → Int → Int → Int → Int → Int → Bool → (List Int) → Option Bool) : Option Bool :=
  (cond_ (decide (n594 ≥ (0 : Int))) (stack_Stack_Idv1 n595 n596 n597 n598 n599 n600 n601 b602 ns603
  (fun n633 n634 n635 n636 n637 n638 n639 n640 b641 ns642 => (k1 (decide (n594 < n633)) n634 n635 n636 n637 n638 n639 n640 b641 ns642))) (k1 false n595 n596 n597 n598 n599 n600 n601 b602 ns603))
noncomputable def stack_Stack_hasv1 (n594 : Int) (n595 : Int) (n596 : Int) (n597 : Int) (n598 : Int) (n599 : Int) (n600 : Int) (n601 : Int) (b602 : Bool) (ns603 : List Int) (k1 : Bool → Int → Int → Int → Int → Int → Int → Int → Bool → (List Int) → Option Bool) : Option Bool := stack_Stack_hasv1.body stack_Stack_Idv1 n594 n595 n596 n597 n598 n599 n600 n601 b602 ns603 k1
noncomputable def stack_Stack_hasv1.get (F : Int → Int → Int → Int → Int → Int → Int → Int → Bool → (List Int) → (Bool → Int → Int → Int → Int → Int → Int → Int → Bool → (List Int) → Option Bool) → Option Bool) (e : Option Bool) (g : FuncId) (a : List AV) (h : Heap) (k : KR) : Option Bool := match g, a, h with
  | 48, [(.ptr [0, 0] 0 0), (.d ⟨(.int .i64), n594⟩)], [([0, 0], ⟨53, 8, (.mix [(.agg [(.ptr [0, 1] 0 0), (.d ⟨(.int .i64), n595⟩), (.d ⟨(.int .i64), n596⟩), (.d ⟨(.int .i64), n597⟩), (.d ⟨(.int .i64), n598⟩), (.d ⟨(.int .i64), n599⟩), (.d ⟨(.int .i64), n600⟩), (.d ⟨(.int .i64), n601⟩)])])⟩), ([0, 1], ⟨61, 2, (.mix [(.agg [(.ref [0, 2]), (.d ⟨.bool, b602⟩)])])⟩), ([0, 2], ⟨2, 1, (.data (.int .i64) ns603)⟩)] => F n594 n595 n596 n597 n598 n599 n600 n601 b602 ns603 (fun y0 y1 y2 y3 y4 y5 y6 y7 y8 y9 => k (.d ⟨.bool, y0⟩) [([0, 0], ⟨53, 8, (.mix [(.agg [(.ptr [0, 1] 0 0), (.d ⟨(.int .i64), y1⟩), (.d ⟨(.int .i64), y2⟩), (.d ⟨(.int .i64), y3⟩), (.d ⟨(.int .i64), y4⟩), (.d ⟨(.int .i64), y5⟩), (.d ⟨(.int .i64), y6⟩), (.d ⟨(.int .i64), y7⟩)])])⟩), ([0, 1], ⟨61, 2, (.mix [(.agg [(.ref [0, 2]), (.d ⟨.bool, y8⟩)])])⟩), ([0, 2], ⟨2, 1, (.data (.int .i64) y9)⟩)])
  | _, _, _ => e
noncomputable def stack_Stack_hasv1.calls (F0 : Int → Int → Int → Int → Int → Int → Int → Bool → (List Int) → (Int → Int → Int → Int → Int → Int → Int → Int → Bool → (List Int) → Option Bool) → Option Bool) : RecF := fun g a h k => (stack_Stack_Idv1.get F0 none g a h k)
noncomputable def stack_Stack_hasv1.loops : LoopF := fun b => none
set_option maxRecDepth 100000 in
theorem stack_Stack_hasv1.eq (F0 : Int → Int → Int → Int → Int → Int → Int → Bool → (List Int) → (Int → Int → Int → Int → Int → Int → Int → Int → Bool → (List Int) → Option Bool) → Option Bool) (n594 : Int) (n595 : Int) (n596 : Int) (n597 : Int) (n598 : Int) (n599 : Int) (n600 : Int) (n601 : Int) (b602 : Bool) (ns603 : List Int) (k : KR) : execL Try.prog ht 48 (callfOf (stack_Stack_hasv1.calls F0)) (stack_Stack_hasv1.loops) 0 (codeOf Try.f48) ⟨[(.ptr [0, 0] 0 0), (.d ⟨(.int .i64), n594⟩)] ++ List.replicate (Try.f48.ntmps - ([(.ptr [0, 0] 0 0), (.d ⟨(.int .i64), n594⟩)] : List AV).length) .undef, [([0, 0], ⟨53, 8, (.mix [(.agg [(.ptr [0, 1] 0 0), (.d ⟨(.int .i64), n595⟩), (.d ⟨(.int .i64), n596⟩), (.d ⟨(.int .i64), n597⟩), (.d ⟨(.int .i64), n598⟩), (.d ⟨(.int .i64), n599⟩), (.d ⟨(.int .i64), n600⟩), (.d ⟨(.int .i64), n601⟩)])])⟩), ([0, 1], ⟨61, 2, (.mix [(.agg [(.ref [0, 2]), (.d ⟨.bool, b602⟩)])])⟩), ([0, 2], ⟨2, 1, (.data (.int .i64) ns603)⟩)], 2⟩ (leave Try.prog Try.f48 k) = stack_Stack_hasv1.body F0 n594 n595 n596 n597 n598 n599 n600 n601 b602 ns603 (fun y0 y1 y2 y3 y4 y5 y6 y7 y8 y9 => k (.d ⟨.bool, y0⟩) [([0, 0], ⟨53, 8, (.mix [(.agg [(.ptr [0, 1] 0 0), (.d ⟨(.int .i64), y1⟩), (.d ⟨(.int .i64), y2⟩), (.d ⟨(.int .i64), y3⟩), (.d ⟨(.int .i64), y4⟩), (.d ⟨(.int .i64), y5⟩), (.d ⟨(.int .i64), y6⟩), (.d ⟨(.int .i64), y7⟩)])])⟩), ([0, 1], ⟨61, 2, (.mix [(.agg [(.ref [0, 2]), (.d ⟨.bool, y8⟩)])])⟩), ([0, 2], ⟨2, 1, (.data (.int .i64) y9)⟩)]) := by kernel_rfl
theorem stack_Stack_hasv1.ok (d : Nat) (hd : 4 ≤ d) (n594 : Int) (n595 : Int) (n596 : Int) (n597 : Int) (n598 : Int) (n599 : Int) (n600 : Int) (n601 : Int) (b602 : Bool) (ns603 : List Int) (k : KR) (hx : stack_Stack_hasv1 n594 n595 n596 n597 n598 n599 n600 n601 b602 ns603 (fun y0 y1 y2 y3 y4 y5 y6 y7 y8 y9 => k (.d ⟨.bool, y0⟩) [([0, 0], ⟨53, 8, (.mix [(.agg [(.ptr [0, 1] 0 0), (.d ⟨(.int .i64), y1⟩), (.d ⟨(.int .i64), y2⟩), (.d ⟨(.int .i64), y3⟩), (.d ⟨(.int .i64), y4⟩), (.d ⟨(.int .i64), y5⟩), (.d ⟨(.int .i64), y6⟩), (.d ⟨(.int .i64), y7⟩)])])⟩), ([0, 1], ⟨61, 2, (.mix [(.agg [(.ref [0, 2]), (.d ⟨.bool, y8⟩)])])⟩), ([0, 2], ⟨2, 1, (.data (.int .i64) y9)⟩)]) = some true) : callK Try.prog ht d 48 [(.ptr [0, 0] 0 0), (.d ⟨(.int .i64), n594⟩)] [([0, 0], ⟨53, 8, (.mix [(.agg [(.ptr [0, 1] 0 0), (.d ⟨(.int .i64), n595⟩), (.d ⟨(.int .i64), n596⟩), (.d ⟨(.int .i64), n597⟩), (.d ⟨(.int .i64), n598⟩), (.d ⟨(.int .i64), n599⟩), (.d ⟨(.int .i64), n600⟩), (.d ⟨(.int .i64), n601⟩)])])⟩), ([0, 1], ⟨61, 2, (.mix [(.agg [(.ref [0, 2]), (.d ⟨.bool, b602⟩)])])⟩), ([0, 2], ⟨2, 1, (.data (.int .i64) ns603)⟩)] k = some true := by
  obtain ⟨d, rfl⟩ : ∃ e, d = e + 1 := ⟨d - 1, by omega⟩
  exact fn_ok (c := codeOf Try.f48) Try.func48 (by kernel_rfl) (rec := stack_Stack_hasv1.calls stack_Stack_Idv1) (fun g a h k hx => by
    rcases stack_Stack_Idv1.look d (by omega) hx with hx | hx
    rotate_left
    · exact hx
    cases hx) (loopf := stack_Stack_hasv1.loops) (by
    have e : loopsOf (stack_Stack_hasv1.loops) 0 (codeOf Try.f48) = [] := by kernel_rfl
    rw [e]
    intro p hp
    cases hp) ((stack_Stack_hasv1.eq stack_Stack_Idv1 n594 n595 n596 n597 n598 n599 n600 n601 b602 ns603 k).trans hx)
theorem stack_Stack_hasv1.look (d : Nat) (hd : 4 ≤ d) {e : Option Bool} {g : FuncId} {a : List AV} {h : Heap} {k : KR} (hx : stack_Stack_hasv1.get stack_Stack_hasv1 e g a h k = some true) : e = some true ∨ callK Try.prog ht d g a h k = some true := by
  unfold stack_Stack_hasv1.get at hx
  split at hx
  · exact .inr (stack_Stack_hasv1.ok d hd _ _ _ _ _ _ _ _ _ _ _ hx)
  · exact .inl hx
/-- function 47: (*sheerleg/memory.Memory).Load$1 -/
noncomputable def memory_Memory_Loadfn1.body (m663 : Nat) (ns664 : List Int) (n665 : Int) (k1 : (List Int) → Int → Option Bool) : Option Bool :=
  (k1 ns664 (List.getD ns664 m663 (0 : Int)))
noncomputable def memory_Memory_Loadfn1 (m663 : Nat) (ns664 : List Int) (n665 : Int) (k1 : (List Int) → Int → Option Bool) : Option Bool := memory_Memory_Loadfn1.body m663 ns664 n665 k1
noncomputable def memory_Memory_Loadfn1.get (F : Nat → (List Int) → Int → ((List Int) → Int → Option Bool) → Option Bool) (e : Option Bool) (g : FuncId) (a : List AV) (h : Heap) (k : KR) : Option Bool := match g, a, h with
  | 47, [(.ptr [0, 0] m663 0), (.ptr [0, 1] 0 0)], [([0, 0], ⟨2, 1, (.data (.int .i64) ns664)⟩), ([0, 1], ⟨2, 1, (.data (.int .i64) [n665])⟩)] => F m663 ns664 n665 (fun y0 y1 => k (.tup []) [([0, 0], ⟨2, 1, (.data (.int .i64) y0)⟩), ([0, 1], ⟨2, 1, (.data (.int .i64) [y1])⟩)])
  | _, _, _ => e
noncomputable def memory_Memory_Loadfn1.calls : RecF := fun g a h k => none
noncomputable def memory_Memory_Loadfn1.loops : LoopF := fun b => none
set_option maxRecDepth 100000 in
theorem memory_Memory_Loadfn1.eq (m663 : Nat) (ns664 : List Int) (n665 : Int) (k : KR) : execL Try.prog ht 47 (callfOf (memory_Memory_Loadfn1.calls)) (memory_Memory_Loadfn1.loops) 0 (codeOf Try.f47) ⟨[(.ptr [0, 0] m663 0), (.ptr [0, 1] 0 0)] ++ List.replicate (Try.f47.ntmps - ([(.ptr [0, 0] m663 0), (.ptr [0, 1] 0 0)] : List AV).length) .undef, [([0, 0], ⟨2, 1, (.data (.int .i64) ns664)⟩), ([0, 1], ⟨2, 1, (.data (.int .i64) [n665])⟩)], 2⟩ (leave Try.prog Try.f47 k) = memory_Memory_Loadfn1.body m663 ns664 n665 (fun y0 y1 => k (.tup []) [([0, 0], ⟨2, 1, (.data (.int .i64) y0)⟩), ([0, 1], ⟨2, 1, (.data (.int .i64) [y1])⟩)]) := by kernel_rfl
theorem memory_Memory_Loadfn1.ok (d : Nat) (hd : 1 ≤ d) (m663 : Nat) (ns664 : List Int) (n665 : Int) (k : KR) (hx : memory_Memory_Loadfn1 m663 ns664 n665 (fun y0 y1 => k (.tup []) [([0, 0], ⟨2, 1, (.data (.int .i64) y0)⟩), ([0, 1], ⟨2, 1, (.data (.int .i64) [y1])⟩)]) = some true) : callK Try.prog ht d 47 [(.ptr [0, 0] m663 0), (.ptr [0, 1] 0 0)] [([0, 0], ⟨2, 1, (.data (.int .i64) ns664)⟩), ([0, 1], ⟨2, 1, (.data (.int .i64) [n665])⟩)] k = some true := by
  obtain ⟨d, rfl⟩ : ∃ e, d = e + 1 := ⟨d - 1, by omega⟩
  exact fn_ok (c := codeOf Try.f47) Try.func47 (by kernel_rfl) (rec := memory_Memory_Loadfn1.calls) (fun g a h k hx => by
    cases hx) (loopf := memory_Memory_Loadfn1.loops) (by
    have e : loopsOf (memory_Memory_Loadfn1.loops) 0 (codeOf Try.f47) = [] := by kernel_rfl
    rw [e]
    intro p hp
    cases hp) ((memory_Memory_Loadfn1.eq m663 ns664 n665 k).trans hx)
theorem memory_Memory_Loadfn1.look (d : Nat) (hd : 1 ≤ d) {e : Option Bool} {g : FuncId} {a : List AV} {h : Heap} {k : KR} (hx : memory_Memory_Loadfn1.get memory_Memory_Loadfn1 e g a h k = some true) : e = some true ∨ callK Try.prog ht d g a h k = some true := by
  unfold memory_Memory_Loadfn1.get at hx
  split at hx
  · exact .inr (memory_Memory_Loadfn1.ok d hd _ _ _ _ hx)
  · exact .inl hx
/-- function 46: (*sheerleg/memory.Memory).at -/
noncomputable def memory_Memory_atv1.body (memory_Memory_Size : Bool → (List Int) → (Int → Bool → (List Int) → Option Bool) → Option Bool) (memory_Memory_Loadfn1 : Nat → (List Int) → Int → ((List Int) → Int → Option Bool) → Option Bool) (n656 : Int) (b657 : Bool) (ns658 : List Int) (n659 : Int) (k1 : Bool → Bool → (List Int) → Int → Option Bool) : Option Bool :=
  (cond_ (! (decide (n656 < (0 : Int)))) (memory_Memory_Size b657 ns658
  (fun n660 b661 ns662 => (cond_ (decide (n656 ≥ n660)) (k1 false b661 ns662 n659) (cond_ ((decide ((0 : Int) ≤ n656)) && (decide (n656 < (((List.length ns662) : Nat) : Int)))) (memory_Memory_Loadfn1 (Int.toNat n656) ns662 n659
  (fun ns666 n667 => (k1 true b661 ns666 n667))) none)))) (k1 false b657 ns658 n659))
noncomputable def memory_Memory_atv1 (n656 : Int) (b657 : Bool) (ns658 : List Int) (n659 : Int) (k1 : Bool → Bool → (List Int) → Int → Option Bool) : Option Bool := memory_Memory_atv1.body memory_Memory_Size memory_Memory_Loadfn1 n656 b657 ns658 n659 k1
noncomputable def memory_Memory_atv1.get (F : Int → Bool → (List Int) → Int → (Bool → Bool → (List Int) → Int → Option Bool) → Option Bool) (e : Option Bool) (g : FuncId) (a : List AV) (h : Heap) (k : KR) : Option Bool := match g, a, h with
  | 46, [(.ptr [0, 0] 0 0), (.d ⟨(.int .i64), n656⟩), (.fn (.func 47) [] [(.ptr [0, 2] 0 0)])], [([0, 0], ⟨61, 2, (.mix [(.agg [(.ref [0, 1]), (.d ⟨.bool, b657⟩)])])⟩), ([0, 1], ⟨2, 1, (.data (.int .i64) ns658)⟩), ([0, 2], ⟨2, 1, (.data (.int .i64) [n659])⟩)] => F n656 b657 ns658 n659 (fun y0 y1 y2 y3 => k (.d ⟨.bool, y0⟩) [([0, 0], ⟨61, 2, (.mix [(.agg [(.ref [0, 1]), (.d ⟨.bool, y1⟩)])])⟩), ([0, 1], ⟨2, 1, (.data (.int .i64) y2)⟩), ([0, 2], ⟨2, 1, (.data (.int .i64) [y3])⟩)])
  | _, _, _ => e
noncomputable def memory_Memory_atv1.calls (F0 : Bool → (List Int) → (Int → Bool → (List Int) → Option Bool) → Option Bool) (F1 : Nat → (List Int) → Int → ((List Int) → Int → Option Bool) → Option Bool) : RecF := fun g a h k => (memory_Memory_Size.get F0 (memory_Memory_Loadfn1.get F1 none g a h k) g a h k)
noncomputable def memory_Memory_atv1.loops : LoopF := fun b => none
set_option maxRecDepth 100000 in
theorem memory_Memory_atv1.eq (F0 : Bool → (List Int) → (Int → Bool → (List Int) → Option Bool) → Option Bool) (F1 : Nat → (List Int) → Int → ((List Int) → Int → Option Bool) → Option Bool) (n656 : Int) (b657 : Bool) (ns658 : List Int) (n659 : Int) (k : KR) : execL Try.prog ht 46 (callfOf (memory_Memory_atv1.calls F0 F1)) (memory_Memory_atv1.loops) 0 (codeOf Try.f46) ⟨[(.ptr [0, 0] 0 0), (.d ⟨(.int .i64), n656⟩), (.fn (.func 47) [] [(.ptr [0, 2] 0 0)])] ++ List.replicate (Try.f46.ntmps - ([(.ptr [0, 0] 0 0), (.d ⟨(.int .i64), n656⟩), (.fn (.func 47) [] [(.ptr [0, 2] 0 0)])] : List AV).length) .undef, [([0, 0], ⟨61, 2, (.mix [(.agg [(.ref [0, 1]), (.d ⟨.bool, b657⟩)])])⟩), ([0, 1], ⟨2, 1, (.data (.int .i64) ns658)⟩), ([0, 2], ⟨2, 1, (.data (.int .i64) [n659])⟩)], 2⟩ (leave Try.prog Try.f46 k) = memory_Memory_atv1.body F0 F1 n656 b657 ns658 n659 (fun y0 y1 y2 y3 => k (.d ⟨.bool, y0⟩) [([0, 0], ⟨61, 2, (.mix [(.agg [(.ref [0, 1]), (.d ⟨.bool, y1⟩)])])⟩), ([0, 1], ⟨2, 1, (.data (.int .i64) y2)⟩), ([0, 2], ⟨2, 1, (.data (.int .i64) [y3])⟩)]) := by kernel_rfl
theorem memory_Memory_atv1.ok (d : Nat) (hd : 2 ≤ d) (n656 : Int) (b657 : Bool) (ns658 : List Int) (n659 : Int) (k : KR) (hx : memory_Memory_atv1 n656 b657 ns658 n659 (fun y0 y1 y2 y3 => k (.d ⟨.bool, y0⟩) [([0, 0], ⟨61, 2, (.mix [(.agg [(.ref [0, 1]), (.d ⟨.bool, y1⟩)])])⟩), ([0, 1], ⟨2, 1, (.data (.int .i64) y2)⟩), ([0, 2], ⟨2, 1, (.data (.int .i64) [y3])⟩)]) = some true) : callK Try.prog ht d 46 [(.ptr [0, 0] 0 0), (.d ⟨(.int .i64), n656⟩), (.fn (.func 47) [] [(.ptr [0, 2] 0 0)])] [([0, 0], ⟨61, 2, (.mix [(.agg [(.ref [0, 1]), (.d ⟨.bool, b657⟩)])])⟩), ([0, 1], ⟨2, 1, (.data (.int .i64) ns658)⟩), ([0, 2], ⟨2, 1, (.data (.int .i64) [n659])⟩)] k = some true := by
  obtain ⟨d, rfl⟩ : ∃ e, d = e + 1 := ⟨d - 1, by omega⟩
  exact fn_ok (c := codeOf Try.f46) Try.func46 (by kernel_rfl) (rec := memory_Memory_atv1.calls memory_Memory_Size memory_Memory_Loadfn1) (fun g a h k hx => by
    rcases memory_Memory_Size.look d (by omega) hx with hx | hx
    rotate_left
    · exact hx
    rcases memory_Memory_Loadfn1.look d (by omega) hx with hx | hx
    rotate_left
    · exact hx
    cases hx) (loopf := memory_Memory_atv1.loops) (by
    have e : loopsOf (memory_Memory_atv1.loops) 0 (codeOf Try.f46) = [] := by kernel_rfl
    rw [e]
    intro p hp
    cases hp) ((memory_Memory_atv1.eq memory_Memory_Size memory_Memory_Loadfn1 n656 b657 ns658 n659 k).trans hx)
theorem memory_Memory_atv1.look (d : Nat) (hd : 2 ≤ d) {e : Option Bool} {g : FuncId} {a : List AV} {h : Heap} {k : KR} (hx : memory_Memory_atv1.get memory_Memory_atv1 e g a h k = some true) : e = some true ∨ callK Try.prog ht d g a h k = some true := by
  unfold memory_Memory_atv1.get at hx
  split at hx
  · exact .inr (memory_Memory_atv1.ok d hd _ _ _ _ _ hx)
  · exact .inl hx
/-- function 20: (*sheerleg/memory.Memory).Load -/
noncomputable def memory_Memory_Load.body (memory_Memory_atv1 : Int → Bool → (List Int) → Int → (Bool → Bool → (List Int) → Int → Option Bool) → Option Bool) (n653 : Int) (b654 : Bool) (ns655 : List Int) (k1 : Int → Bool → Bool → (List Int) → Option Bool) : Option Bool :=
  (memory_Memory_atv1 n653 b654 ns655 (0 : Int)
  (fun b668 b669 ns670 n671 => (k1 n671 b668 b669 ns670)))
noncomputable def memory_Memory_Load (n653 : Int) (b654 : Bool) (ns655 : List Int) (k1 : Int → Bool → Bool → (List Int) → Option Bool) : Option Bool := memory_Memory_Load.body memory_Memory_atv1 n653 b654 ns655 k1
noncomputable def memory_Memory_Load.get (F : Int → Bool → (List Int) → (Int → Bool → Bool → (List Int) → Option Bool) → Option Bool) (e : Option Bool) (g : FuncId) (a : List AV) (h : Heap) (k : KR) : Option Bool := match g, a, h with
  | 20, [(.ptr [0, 0] 0 0), (.d ⟨(.int .i64), n653⟩)], [([0, 0], ⟨61, 2, (.mix [(.agg [(.ref [0, 1]), (.d ⟨.bool, b654⟩)])])⟩), ([0, 1], ⟨2, 1, (.data (.int .i64) ns655)⟩)] => F n653 b654 ns655 (fun y0 y1 y2 y3 => k (.tup [(.d ⟨(.int .i64), y0⟩), (.d ⟨.bool, y1⟩)]) [([0, 0], ⟨61, 2, (.mix [(.agg [(.ref [0, 1]), (.d ⟨.bool, y2⟩)])])⟩), ([0, 1], ⟨2, 1, (.data (.int .i64) y3)⟩)])
  | _, _, _ => e
noncomputable def memory_Memory_Load.calls (F0 : Int → Bool → (List Int) → Int → (Bool → Bool → (List Int) → Int → Option Bool) → Option Bool) : RecF := fun g a h k => (memory_Memory_atv1.get F0 none g a h k)
noncomputable def memory_Memory_Load.loops : LoopF := fun b => none
set_option maxRecDepth 100000 in
theorem memory_Memory_Load.eq (F0 : Int → Bool → (List Int) → Int → (Bool → Bool → (List Int) → Int → Option Bool) → Option Bool) (n653 : Int) (b654 : Bool) (ns655 : List Int) (k : KR) : execL Try.prog ht 20 (callfOf (memory_Memory_Load.calls F0)) (memory_Memory_Load.loops) 0 (codeOf Try.f20) ⟨[(.ptr [0, 0] 0 0), (.d ⟨(.int .i64), n653⟩)] ++ List.replicate (Try.f20.ntmps - ([(.ptr [0, 0] 0 0), (.d ⟨(.int .i64), n653⟩)] : List AV).length) .undef, [([0, 0], ⟨61, 2, (.mix [(.agg [(.ref [0, 1]), (.d ⟨.bool, b654⟩)])])⟩), ([0, 1], ⟨2, 1, (.data (.int .i64) ns655)⟩)], 2⟩ (leave Try.prog Try.f20 k) = memory_Memory_Load.body F0 n653 b654 ns655 (fun y0 y1 y2 y3 => k (.tup [(.d ⟨(.int .i64), y0⟩), (.d ⟨.bool, y1⟩)]) [([0, 0], ⟨61, 2, (.mix [(.agg [(.ref [0, 1]), (.d ⟨.bool, y2⟩)])])⟩), ([0, 1], ⟨2, 1, (.data (.int .i64) y3)⟩)]) := by kernel_rfl
theorem memory_Memory_Load.ok (d : Nat) (hd : 3 ≤ d) (n653 : Int) (b654 : Bool) (ns655 : List Int) (k : KR) (hx : memory_Memory_Load n653 b654 ns655 (fun y0 y1 y2 y3 => k (.tup [(.d ⟨(.int .i64), y0⟩), (.d ⟨.bool, y1⟩)]) [([0, 0], ⟨61, 2, (.mix [(.agg [(.ref [0, 1]), (.d ⟨.bool, y2⟩)])])⟩), ([0, 1], ⟨2, 1, (.data (.int .i64) y3)⟩)]) = some true) : callK Try.prog ht d 20 [(.ptr [0, 0] 0 0), (.d ⟨(.int .i64), n653⟩)] [([0, 0], ⟨61, 2, (.mix [(.agg [(.ref [0, 1]), (.d ⟨.bool, b654⟩)])])⟩), ([0, 1], ⟨2, 1, (.data (.int .i64) ns655)⟩)] k = some true := by
  obtain ⟨d, rfl⟩ : ∃ e, d = e + 1 := ⟨d - 1, by omega⟩
  exact fn_ok (c := codeOf Try.f20) Try.func20 (by kernel_rfl) (rec := memory_Memory_Load.calls memory_Memory_atv1) (fun g a h k hx => by
    rcases memory_Memory_atv1.look d (by omega) hx with hx | hx
    rotate_left
    · exact hx
    cases hx) (loopf := memory_Memory_Load.loops) (by
    have e : loopsOf (memory_Memory_Load.loops) 0 (codeOf Try.f20) = [] := by kernel_rfl
    rw [e]
    intro p hp
    cases hp) ((memory_Memory_Load.eq memory_Memory_atv1 n653 b654 ns655 k).trans hx)
theorem memory_Memory_Load.look (d : Nat) (hd : 3 ≤ d) {e : Option Bool} {g : FuncId} {a : List AV} {h : Heap} {k : KR} (hx : memory_Memory_Load.get memory_Memory_Load e g a h k = some true) : e = some true ∨ callK Try.prog ht d g a h k = some true := by
  unfold memory_Memory_Load.get at hx
  split at hx
  · exact .inr (memory_Memory_Load.ok d hd _ _ _ _ hx)
  · exact .inl hx
/-- function 23: (*sheerleg/stack.Stack).Get -/
noncomputable def stack_Stack_Getv1.body (stack_Stack_hasv1 : Int → Int → Int → Int → Int → Int → Int → Int → Bool → (List Int) → (Bool → Int → Int → Int → Int → Int → Int → Int → Bool → (List Int) → Option Bool) → Option Bool) (memory_Memory_Load : Int → Bool → (List Int) → (Int → Bool → Bool → (List Int) → Option Bool) → Option Bool) (n584 : Int) (n585 : Int) (n586 : Int) (n587 : Int) (n588 : Int) (n589 : Int) (n590 : Int) (n591 : Int) (b592 : Bool) (ns593 : List Int) (k1 : Int → Bool → Int → Int → Int → Int → Int → Int → Int → Bool → (List Int) → Option Bool) : Option Bool :=
  (stack_Stack_hasv1 n584 n585 n586 n587 n588 n589 n590 n591 b592 ns593
  (fun b643 n644 n645 n646 n647 n648 n649 n650 b651 ns652 => (cond_ (! b643) (k1 (0 : Int) false n644 n645 n646 n647 n648 n649 n650 b651 ns652) (memory_Memory_Load (IntKind.wrap .i64 (n647 + n584)) b651 ns652
  (fun n672 b673 b674 ns675 => (k1 n672 b673 n644 n645 n646 n647 n648 n649 n650 b674 ns675))))))
noncomputable def stack_Stack_Getv1 (n584 : Int) (n585 : Int) (n586 : Int) (n587 : Int) (n588 : Int) (n589 : Int) (n590 : Int) (n591 : Int) (b592 : Bool) (ns593 : List Int) (k1 : Int → Bool → Int → Int → Int → Int → Int → Int → Int → Bool → (List Int) → Option Bool) : Option Bool := stack_Stack_Getv1.body stack_Stack_hasv1 memory_Memory_Load n584 n585 n586 n587 n588 n589 n590 n591 b592 ns593 k1
noncomputable def stack_Stack_Getv1.get (F : Int → Int → Int → Int → Int → Int → Int → Int → Bool → (List Int) → (Int → Bool → Int → Int → Int → Int → Int → Int → Int → Bool → (List Int) → Option Bool) → Option Bool) (e : Option Bool) (g : FuncId) (a : List AV) (h : Heap) (k : KR) : Option Bool := match g, a, h with
  | 23, [(.ptr [0, 0] 0 0), (.d ⟨(.int .i64), n584⟩)], [([0, 0], ⟨53, 8, (.mix [(.agg [(.ptr [0, 1] 0 0), (.d ⟨(.int .i64), n585⟩), (.d ⟨(.int .i64), n586⟩), (.d ⟨(.int .i64), n587⟩), (.d ⟨(.int .i64), n588⟩), (.d ⟨(.int .i64), n589⟩), (.d ⟨(.int .i64), n590⟩), (.d ⟨(.int .i64), n591⟩)])])⟩), ([0, 1], ⟨61, 2, (.mix [(.agg [(.ref [0, 2]), (.d ⟨.bool, b592⟩)])])⟩), ([0, 2], ⟨2, 1, (.data (.int .i64) ns593)⟩)] => F n584 n585 n586 n587 n588 n589 n590 n591 b592 ns593 (fun y0 y1 y2 y3 y4 y5 y6 y7 y8 y9 y10 => k (.tup [(.d ⟨(.int .i64), y0⟩), (.d ⟨.bool, y1⟩)]) [([0, 0], ⟨53, 8, (.mix [(.agg [(.ptr [0, 1] 0 0), (.d ⟨(.int .i64), y2⟩), (.d ⟨(.int .i64), y3⟩), (.d ⟨(.int .i64), y4⟩), (.d ⟨(.int .i64), y5⟩), (.d ⟨(.int .i64), y6⟩), (.d ⟨(.int .i64), y7⟩), (.d ⟨(.int .i64), y8⟩)])])⟩), ([0, 1], ⟨61, 2, (.mix [(.agg [(.ref [0, 2]), (.d ⟨.bool, y9⟩)])])⟩), ([0, 2], ⟨2, 1, (.data (.int .i64) y10)⟩)])
  | _, _, _ => e
noncomputable def stack_Stack_Getv1.calls (F0 : Int → Int → Int → Int → Int → Int → Int → Int → Bool → (List Int) → (Bool → Int → Int → Int → Int → Int → Int → Int → Bool → (List Int) → Option Bool) → Option Bool) (F1 : Int → Bool → (List Int) → (Int → Bool → Bool → (List Int) → Option Bool) → Option Bool) : RecF := fun g a h k => (stack_Stack_hasv1.get F0 (memory_Memory_Load.get F1 none g a h k) g a h k)
noncomputable def stack_Stack_Getv1.loops : LoopF := fun b => none
set_option maxRecDepth 100000 in
theorem stack_Stack_Getv1.eq (F0 : Int → Int → Int → Int → Int → Int → Int → Int → Bool → (List Int) → (Bool → Int → Int → Int → Int → Int → Int → Int → Bool → (List Int) → Option Bool) → Option Bool) (F1 : Int → Bool → (List Int) → (Int → Bool → Bool → (List Int) → Option Bool) → Option Bool) (n584 : Int) (n585 : Int) (n586 : Int) (n587 : Int) (n588 : Int) (n589 : Int) (n590 : Int) (n591 : Int) (b592 : Bool) (ns593 : List Int) (k : KR) : execL Try.prog ht 23 (callfOf (stack_Stack_Getv1.calls F0 F1)) (stack_Stack_Getv1.loops) 0 (codeOf Try.f23) ⟨[(.ptr [0, 0] 0 0), (.d ⟨(.int .i64), n584⟩)] ++ List.replicate (Try.f23.ntmps - ([(.ptr [0, 0] 0 0), (.d ⟨(.int .i64), n584⟩)] : List AV).length) .undef, [([0, 0], ⟨53, 8, (.mix [(.agg [(.ptr [0, 1] 0 0), (.d ⟨(.int .i64), n585⟩), (.d ⟨(.int .i64), n586⟩), (.d ⟨(.int .i64), n587⟩), (.d ⟨(.int .i64), n588⟩), (.d ⟨(.int .i64), n589⟩), (.d ⟨(.int .i64), n590⟩), (.d ⟨(.int .i64), n591⟩)])])⟩), ([0, 1], ⟨61, 2, (.mix [(.agg [(.ref [0, 2]), (.d ⟨.bool, b592⟩)])])⟩), ([0, 2], ⟨2, 1, (.data (.int .i64) ns593)⟩)], 2⟩ (leave Try.prog Try.f23 k) = stack_Stack_Getv1.body F0 F1 n584 n585 n586 n587 n588 n589 n590 n591 b592 ns593 (fun y0 y1 y2 y3 y4 y5 y6 y7 y8 y9 y10 => k (.tup [(.d ⟨(.int .i64), y0⟩), (.d ⟨.bool, y1⟩)]) [([0, 0], ⟨53, 8, (.mix [(.agg [(.ptr [0, 1] 0 0), (.d ⟨(.int .i64), y2⟩), (.d ⟨(.int .i64), y3⟩), (.d ⟨(.int .i64), y4⟩), (.d ⟨(.int .i64), y5⟩), (.d ⟨(.int .i64), y6⟩), (.d ⟨(.int .i64), y7⟩), (.d ⟨(.int .i64), y8⟩)])])⟩), ([0, 1], ⟨61, 2, (.mix [(.agg [(.ref [0, 2]), (.d ⟨.bool, y9⟩)])])⟩), ([0, 2], ⟨2, 1, (.data (.int .i64) y10)⟩)]) := by kernel_rfl
theorem stack_Stack_Getv1.ok (d : Nat) (hd : 5 ≤ d) (n584 : Int) (n585 : Int) (n586 : Int) (n587 : Int) (n588 : Int) (n589 : Int) (n590 : Int) (n591 : Int) (b592 : Bool) (ns593 : List Int) (k : KR) (hx : stack_Stack_Getv1 n584 n585 n586 n587 n588 n589 n590 n591 b592 ns593 (fun y0 y1 y2 y3 y4 y5 y6 y7 y8 y9 y10 => k (.tup [(.d ⟨(.int .i64), y0⟩), (.d ⟨.bool, y1⟩)]) [([0, 0], ⟨53, 8, (.mix [(.agg [(.ptr [0, 1] 0 0), (.d ⟨(.int .i64), y2⟩), (.d ⟨(.int .i64), y3⟩), (.d ⟨(.int .i64), y4⟩), (.d ⟨(.int .i64), y5⟩), (.d ⟨(.int .i64), y6⟩), (.d ⟨(.int .i64), y7⟩), (.d ⟨(.int .i64), y8⟩)])])⟩), ([0, 1], ⟨61, 2, (.mix [(.agg [(.ref [0, 2]), (.d ⟨.bool, y9⟩)])])⟩), ([0, 2], ⟨2, 1, (.data (.int .i64) y10)⟩)]) = some true) : callK Try.prog ht d 23 [(.ptr [0, 0] 0 0), (.d ⟨(.int .i64), n584⟩)] [([0, 0], ⟨53, 8, (.mix [(.agg [(.ptr [0, 1] 0 0), (.d ⟨(.int .i64), n585⟩), (.d ⟨(.int .i64), n586⟩), (.d ⟨(.int .i64), n587⟩), (.d ⟨(.int .i64), n588⟩), (.d ⟨(.int .i64), n589⟩), (.d ⟨(.int .i64), n590⟩), (.d ⟨(.int .i64), n591⟩)])])⟩), ([0, 1], ⟨61, 2, (.mix [(.agg [(.ref [0, 2]), (.d ⟨.bool, b592⟩)])])⟩), ([0, 2], ⟨2, 1, (.data (.int .i64) ns593)⟩)] k = some true := by
  obtain ⟨d, rfl⟩ : ∃ e, d = e + 1 := ⟨d - 1, by omega⟩
  exact fn_ok (c := codeOf Try.f23) Try.func23 (by kernel_rfl) (rec := stack_Stack_Getv1.calls stack_Stack_hasv1 memory_Memory_Load) (fun g a h k hx => by
    rcases stack_Stack_hasv1.look d (by omega) hx with hx | hx
    rotate_left
    · exact hx
    rcases memory_Memory_Load.look d (by omega) hx with hx | hx
    rotate_left
    · exact hx
    cases hx) (loopf := stack_Stack_Getv1.loops) (by
    have e : loopsOf (stack_Stack_Getv1.loops) 0 (codeOf Try.f23) = [] := by kernel_rfl
    rw [e]
    intro p hp
    cases hp) ((stack_Stack_Getv1.eq stack_Stack_hasv1 memory_Memory_Load n584 n585 n586 n587 n588 n589 n590 n591 b592 ns593 k).trans hx)
theorem stack_Stack_Getv1.look (d : Nat) (hd : 5 ≤ d) {e : Option Bool} {g : FuncId} {a : List AV} {h : Heap} {k : KR} (hx : stack_Stack_Getv1.get stack_Stack_Getv1 e g a h k = some true) : e = some true ∨ callK Try.prog ht d g a h k = some true := by
  unfold stack_Stack_Getv1.get at hx
  split at hx
  · exact .inr (stack_Stack_Getv1.ok d hd _ _ _ _ _ _ _ _ _ _ _ hx)
  · exact .inl hx
/-- function 15: (*sheerleg/stack.Stack).Pop -/
noncomputable def stack_Stack_Popv1.body (stack_Stack_Getv1 : Int → Int → Int → Int → Int → Int → Int → Int → Bool → (List Int) → (Int → Bool → Int → Int → Int → Int → Int → Int → Int → Bool → (List Int) → Option Bool) → Option Bool) (n575 : Int) (n576 : Int) (n577 : Int) (n578 : Int) (n579 : Int) (n580 : Int) (n581 : Int) (b582 : Bool) (ns583 : List Int) (k1 : Int → Bool → Int → Int → Int → Int → Int → Int → Int → Bool → (List Int) → Option Bool) : Option Bool :=
  (stack_Stack_Getv1 (0 : Int) n575 n576 n577 n578 n579 n580 n581 b582 ns583
  (fun n676 b677 n678 n679 n680 n681 n682 n683 n684 b685 ns686 => (cond_ b677 (k1 n676 b677 n678 n679 n680 (IntKind.wrap .i64 (n681 + (1 : Int))) n682 n683 n684 b685 ns686) (k1 n676 b677 n678 n679 n680 n681 n682 n683 n684 b685 ns686))))
noncomputable def stack_Stack_Popv1 (n575 : Int) (n576 : Int) (n577 : Int) (n578 : Int) (n579 : Int) (n580 : Int) (n581 : Int) (b582 : Bool) (ns583 : List Int) (k1 : Int → Bool → Int → Int → Int → Int → Int → Int → Int → Bool → (List Int) → Option Bool) : Option Bool := stack_Stack_Popv1.body stack_Stack_Getv1 n575 n576 n577 n578 n579 n580 n581 b582 ns583 k1
noncomputable def stack_Stack_Popv1.get (F : Int → Int → Int → Int → Int → Int → Int → Bool → (List Int) → (Int → Bool → Int → Int → Int → Int → Int → Int → Int → Bool → (List Int) → Option Bool) → Option Bool) (e : Option Bool) (g : FuncId) (a : List AV) (h : Heap) (k : KR) : Option Bool := match g, a, h with
  | 15, [(.ptr [0, 0] 0 0)], [([0, 0], ⟨53, 8, (.mix [(.agg [(.ptr [0, 1] 0 0), (.d ⟨(.int .i64), n575⟩), (.d ⟨(.int .i64), n576⟩), (.d ⟨(.int .i64), n577⟩), (.d ⟨(.int .i64), n578⟩), (.d ⟨(.int .i64), n579⟩), (.d ⟨(.int .i64), n580⟩), (.d ⟨(.int .i64), n581⟩)])])⟩), ([0, 1], ⟨61, 2, (.mix [(.agg [(.ref [0, 2]), (.d ⟨.bool, b582⟩)])])⟩), ([0, 2], ⟨2, 1, (.data (.int .i64) ns583)⟩)] => F n575 n576 n577 n578 n579 n580 n581 b582 ns583 (fun y0 y1 y2 y3 y4 y5 y6 y7 y8 y9 y10 => k (.tup [(.d ⟨(.int .i64), y0⟩), (.d ⟨.bool, y1⟩)]) [([0, 0], ⟨53, 8, (.mix [(.agg [(.ptr [0, 1] 0 0), (.d ⟨(.int .i64), y2⟩), (.d ⟨(.int .i64), y3⟩), (.d ⟨(.int .i64), y4⟩), (.d ⟨(.int .i64), y5⟩), (.d ⟨(.int .i64), y6⟩), (.d ⟨(.int .i64), y7⟩), (.d ⟨(.int .i64), y8⟩)])])⟩), ([0, 1], ⟨61, 2, (.mix [(.agg [(.ref [0, 2]), (.d ⟨.bool, y9⟩)])])⟩), ([0, 2], ⟨2, 1, (.data (.int .i64) y10)⟩)])
  | _, _, _ => e
noncomputable def stack_Stack_Popv1.calls (F0 : Int → Int → Int → Int → Int → Int → Int → Int → Bool → (List Int) → (Int → Bool → Int → Int → Int → Int → Int → Int → Int → Bool → (List Int) → Option Bool) → Option Bool) : RecF := fun g a h k => (stack_Stack_Getv1.get F0 none g a h k)
noncomputable def stack_Stack_Popv1.loops : LoopF := fun b => none
set_option maxRecDepth 100000 in
theorem stack_Stack_Popv1.eq (F0 : Int → Int → Int → Int → Int → Int → Int → Int → Bool → (List Int) → (Int → Bool → Int → Int → Int → Int → Int → Int → Int → Bool → (List Int) → Option Bool) → Option Bool) (n575 : Int) (n576 : Int) (n577 : Int) (n578 : Int) (n579 : Int) (n580 : Int) (n581 : Int) (b582 : Bool) (ns583 : List Int) (k : KR) : execL Try.prog ht 15 (callfOf (stack_Stack_Popv1.calls F0)) (stack_Stack_Popv1.loops) 0 (codeOf Try.f15) ⟨[(.ptr [0, 0] 0 0)] ++ List.replicate (Try.f15.ntmps - ([(.ptr [0, 0] 0 0)] : List AV).length) .undef, [([0, 0], ⟨53, 8, (.mix [(.agg [(.ptr [0, 1] 0 0), (.d ⟨(.int .i64), n575⟩), (.d ⟨(.int .i64), n576⟩), (.d ⟨(.int .i64), n577⟩), (.d ⟨(.int .i64), n578⟩), (.d ⟨(.int .i64), n579⟩), (.d ⟨(.int .i64), n580⟩), (.d ⟨(.int .i64), n581⟩)])])⟩), ([0, 1], ⟨61, 2, (.mix [(.agg [(.ref [0, 2]), (.d ⟨.bool, b582⟩)])])⟩), ([0, 2], ⟨2, 1, (.data (.int .i64) ns583)⟩)], 2⟩ (leave Try.prog Try.f15 k) = stack_Stack_Popv1.body F0 n575 n576 n577 n578 n579 n580 n581 b582 ns583 (fun y0 y1 y2 y3 y4 y5 y6 y7 y8 y9 y10 => k (.tup [(.d ⟨(.int .i64), y0⟩), (.d ⟨.bool, y1⟩)]) [([0, 0], ⟨53, 8, (.mix [(.agg [(.ptr [0, 1] 0 0), (.d ⟨(.int .i64), y2⟩), (.d ⟨(.int .i64), y3⟩), (.d ⟨(.int .i64), y4⟩), (.d ⟨(.int .i64), y5⟩), (.d ⟨(.int .i64), y6⟩), (.d ⟨(.int .i64), y7⟩), (.d ⟨(.int .i64), y8⟩)])])⟩), ([0, 1], ⟨61, 2, (.mix [(.agg [(.ref [0, 2]), (.d ⟨.bool, y9⟩)])])⟩), ([0, 2], ⟨2, 1, (.data (.int .i64) y10)⟩)]) := by kernel_rfl
theorem stack_Stack_Popv1.ok (d : Nat) (hd : 6 ≤ d) (n575 : Int) (n576 : Int) (n577 : Int) (n578 : Int) (n579 : Int) (n580 : Int) (n581 : Int) (b582 : Bool) (ns583 : List Int) (k : KR) (hx : stack_Stack_Popv1 n575 n576 n577 n578 n579 n580 n581 b582 ns583 (fun y0 y1 y2 y3 y4 y5 y6 y7 y8 y9 y10 => k (.tup [(.d ⟨(.int .i64), y0⟩), (.d ⟨.bool, y1⟩)]) [([0, 0], ⟨53, 8, (.mix [(.agg [(.ptr [0, 1] 0 0), (.d ⟨(.int .i64), y2⟩), (.d ⟨(.int .i64), y3⟩), (.d ⟨(.int .i64), y4⟩), (.d ⟨(.int .i64), y5⟩), (.d ⟨(.int .i64), y6⟩), (.d ⟨(.int .i64), y7⟩), (.d ⟨(.int .i64), y8⟩)])])⟩), ([0, 1], ⟨61, 2, (.mix [(.agg [(.ref [0, 2]), (.d ⟨.bool, y9⟩)])])⟩), ([0, 2], ⟨2, 1, (.data (.int .i64) y10)⟩)]) = some true) : callK Try.prog ht d 15 [(.ptr [0, 0] 0 0)] [([0, 0], ⟨53, 8, (.mix [(.agg [(.ptr [0, 1] 0 0), (.d ⟨(.int .i64), n575⟩), (.d ⟨(.int .i64), n576⟩), (.d ⟨(.int .i64), n577⟩), (.d ⟨(.int .i64), n578⟩), (.d ⟨(.int .i64), n579⟩), (.d ⟨(.int .i64), n580⟩), (.d ⟨(.int .i64), n581⟩)])])⟩), ([0, 1], ⟨61, 2, (.mix [(.agg [(.ref [0, 2]), (.d ⟨.bool, b582⟩)])])⟩), ([0, 2], ⟨2, 1, (.data (.int .i64) ns583)⟩)] k = some true := by
  obtain ⟨d, rfl⟩ : ∃ e, d = e + 1 := ⟨d - 1, by omega⟩
  exact fn_ok (c := codeOf Try.f15) Try.func15 (by kernel_rfl) (rec := stack_Stack_Popv1.calls stack_Stack_Getv1) (fun g a h k hx => by
    rcases stack_Stack_Getv1.look d (by omega) hx with hx | hx
    rotate_left
    · exact hx
    cases hx) (loopf := stack_Stack_Popv1.loops) (by
    have e : loopsOf (stack_Stack_Popv1.loops) 0 (codeOf Try.f15) = [] := by kernel_rfl
    rw [e]
    intro p hp
    cases hp) ((stack_Stack_Popv1.eq stack_Stack_Getv1 n575 n576 n577 n578 n579 n580 n581 b582 ns583 k).trans hx)
theorem stack_Stack_Popv1.look (d : Nat) (hd : 6 ≤ d) {e : Option Bool} {g : FuncId} {a : List AV} {h : Heap} {k : KR} (hx : stack_Stack_Popv1.get stack_Stack_Popv1 e g a h k = some true) : e = some true ∨ callK Try.prog ht d g a h k = some true := by
  unfold stack_Stack_Popv1.get at hx
  split at hx
  · exact .inr (stack_Stack_Popv1.ok d hd _ _ _ _ _ _ _ _ _ _ hx)
  · exact .inl hx
/-- function 49: (*sheerleg/stack.Stack).may -/
noncomputable def stack_Stack_mayv1.body (stack_Stack_livev1 : Int → Int → Int → Int → Int → Int → Int → Bool → (List Int) → (Bool → Int → Int → Int → Int → Int → Int → Int → Bool → (List Int) → Option Bool) → Option Bool) (n864 : Int) (n865 : Int) (n866 : Int) (n867 : Int) (n868 : Int) (n869 : Int) (n870 : Int) (n871 : Int) (n872 : Int) (b873 : Bool) (ns874 : List Int) (k1 : Bool → Int → Int → Int → Int → Int → Int → Int → Bool → (List Int) → Option Bool) : Option Bool :=
  (stack_Stack_livev1 n866 n867 n868 n869 n870 n871 n872 b873 ns874
  (fun b875 n876 n877 n878 n879 n880 n881 n882 b883 ns884 => (cond_ b875 (cond_ (decide (n864 ≥ (0 : Int))) (k1 (decide (n864 ≤ n865)) n876 n877 n878 n879 n880 n881 n882 b883 ns884) (k1 false n876 n877 n878 n879 n880 n881 n882 b883 ns884)) (k1 false n876 n877 n878 n879 n880 n881 n882 b883 ns884))))
noncomputable def stack_Stack_mayv1 (n864 : Int) (n865 : Int) (n866 : Int) (n867 : Int) (n868 : Int) (n869 : Int) (n870 : Int) (n871 : Int) (n872 : Int) (b873 : Bool) (ns874 : List Int) (k1 : Bool → Int → Int → Int → Int → Int → Int → Int → Bool → (List Int) → Option Bool) : Option Bool := stack_Stack_mayv1.body stack_Stack_livev1 n864 n865 n866 n867 n868 n869 n870 n871 n872 b873 ns874 k1
noncomputable def stack_Stack_mayv1.get (F : Int → Int → Int → Int → Int → Int → Int → Int → Int → Bool → (List Int) → (Bool → Int → Int → Int → Int → Int → Int → Int → Bool → (List Int) → Option Bool) → Option Bool) (e : Option Bool) (g : FuncId) (a : List AV) (h : Heap) (k : KR) : Option Bool := match g, a, h with
  | 49, [(.ptr [0, 0] 0 0), (.d ⟨(.int .i64), n864⟩), (.d ⟨(.int .i64), n865⟩)], [([0, 0], ⟨53, 8, (.mix [(.agg [(.ptr [0, 1] 0 0), (.d ⟨(.int .i64), n866⟩), (.d ⟨(.int .i64), n867⟩), (.d ⟨(.int .i64), n868⟩), (.d ⟨(.int .i64), n869⟩), (.d ⟨(.int .i64), n870⟩), (.d ⟨(.int .i64), n871⟩), (.d ⟨(.int .i64), n872⟩)])])⟩), ([0, 1], ⟨61, 2, (.mix [(.agg [(.ref [0, 2]), (.d ⟨.bool, b873⟩)])])⟩), ([0, 2], ⟨2, 1, (.data (.int .i64) ns874)⟩)] => F n864 n865 n866 n867 n868 n869 n870 n871 n872 b873 ns874 (fun y0 y1 y2 y3 y4 y5 y6 y7 y8 y9 => k (.d ⟨.bool, y0⟩) [([0, 0], ⟨53, 8, (.mix [(.agg [(.ptr [0, 1] 0 0), (.d ⟨(.int .i64), y1⟩), (.d ⟨(.int .i64), y2⟩), (.d ⟨(.int .i64), y3⟩), (.d ⟨(.int .i64), y4⟩), (.d ⟨(.int .i64), y5⟩), (.d ⟨(.int .i64), y6⟩), (.d ⟨(.int .i64), y7⟩)])])⟩), ([0, 1], ⟨61, 2, (.mix [(.agg [(.ref [0, 2]), (.d ⟨.bool, y8⟩)])])⟩), ([0, 2], ⟨2, 1, (.data (.int .i64) y9)⟩)])
  | _, _, _ => e
noncomputable def stack_Stack_mayv1.calls (F0 : Int → Int → Int → Int → Int → Int → Int → Bool → (List Int) → (Bool → Int → Int → Int → Int → Int → Int → Int → Bool → (List Int) → Option Bool) → Option Bool) : RecF := fun g a h k => (stack_Stack_livev1.get F0 none g a h k)
noncomputable def stack_Stack_mayv1.loops : LoopF := fun b => none
set_option maxRecDepth 100000 in
theorem stack_Stack_mayv1.eq (F0 : Int → Int → Int → Int → Int → Int → Int → Bool → (List Int) → (Bool → Int → Int → Int → Int → Int → Int → Int → Bool → (List Int) → Option Bool) → Option Bool) (n864 : Int) (n865 : Int) (n866 : Int) (n867 : Int) (n868 : Int) (n869 : Int) (n870 : Int) (n871 : Int) (n872 : Int) (b873 : Bool) (ns874 : List Int) (k : KR) : execL Try.prog ht 49 (callfOf (stack_Stack_mayv1.calls F0)) (stack_Stack_mayv1.loops) 0 (codeOf Try.f49) ⟨[(.ptr [0, 0] 0 0), (.d ⟨(.int .i64), n864⟩), (.d ⟨(.int .i64), n865⟩)] ++ List.replicate (Try.f49.ntmps - ([(.ptr [0, 0] 0 0), (.d ⟨(.int .i64), n864⟩), (.d ⟨(.int .i64), n865⟩)] : List AV).length) .undef, [([0, 0], ⟨53, 8, (.mix [(.agg [(.ptr [0, 1] 0 0), (.d ⟨(.int .i64), n866⟩), (.d ⟨(.int .i64), n867⟩), (.d ⟨(.int .i64), n868⟩), (.d ⟨(.int .i64), n869⟩), (.d ⟨(.int .i64), n870⟩), (.d ⟨(.int .i64), n871⟩), (.d ⟨(.int .i64), n872⟩)])])⟩), ([0, 1], ⟨61, 2, (.mix [(.agg [(.ref [0, 2]), (.d ⟨.bool, b873⟩)])])⟩), ([0, 2], ⟨2, 1, (.data (.int .i64) ns874)⟩)], 2⟩ (leave Try.prog Try.f49 k) = stack_Stack_mayv1.body F0 n864 n865 n866 n867 n868 n869 n870 n871 n872 b873 ns874 (fun y0 y1 y2 y3 y4 y5 y6 y7 y8 y9 => k (.d ⟨.bool, y0⟩) [([0, 0], ⟨53, 8, (.mix [(.agg [(.ptr [0, 1] 0 0), (.d ⟨(.int .i64), y1⟩), (.d ⟨(.int .i64), y2⟩), (.d ⟨(.int .i64), y3⟩), (.d ⟨(.int .i64), y4⟩), (.d ⟨(.int .i64), y5⟩), (.d ⟨(.int .i64), y6⟩), (.d ⟨(.int .i64), y7⟩)])])⟩), ([0, 1], ⟨61, 2, (.mix [(.agg [(.ref [0, 2]), (.d ⟨.bool, y8⟩)])])⟩), ([0, 2], ⟨2, 1, (.data (.int .i64) y9)⟩)]) := by kernel_rfl
theorem stack_Stack_mayv1.ok (d : Nat) (hd : 2 ≤ d) (n864 : Int) (n865 : Int) (n866 : Int) (n867 : Int) (n868 : Int) (n869 : Int) (n870 : Int) (n871 : Int) (n872 : Int) (b873 : Bool) (ns874 : List Int) (k : KR) (hx : stack_Stack_mayv1 n864 n865 n866 n867 n868 n869 n870 n871 n872 b873 ns874 (fun y0 y1 y2 y3 y4 y5 y6 y7 y8 y9 => k (.d ⟨.bool, y0⟩) [([0, 0], ⟨53, 8, (.mix [(.agg [(.ptr [0, 1] 0 0), (.d ⟨(.int .i64), y1⟩), (.d ⟨(.int .i64), y2⟩), (.d ⟨(.int .i64), y3⟩), (.d ⟨(.int .i64), y4⟩), (.d ⟨(.int .i64), y5⟩), (.d ⟨(.int .i64), y6⟩), (.d ⟨(.int .i64), y7⟩)])])⟩), ([0, 1], ⟨61, 2, (.mix [(.agg [(.ref [0, 2]), (.d ⟨.bool, y8⟩)])])⟩), ([0, 2], ⟨2, 1, (.data (.int .i64) y9)⟩)]) = some true) : callK Try.prog ht d 49 [(.ptr [0, 0] 0 0), (.d ⟨(.int .i64), n864⟩), (.d ⟨(.int .i64), n865⟩)] [([0, 0], ⟨53, 8, (.mix [(.agg [(.ptr [0, 1] 0 0), (.d ⟨(.int .i64), n866⟩), (.d ⟨(.int .i64), n867⟩), (.d ⟨(.int .i64), n868⟩), (.d ⟨(.int .i64), n869⟩), (.d ⟨(.int .i64), n870⟩), (.d ⟨(.int .i64), n871⟩), (.d ⟨(.int .i64), n872⟩)])])⟩), ([0, 1], ⟨61, 2, (.mix [(.agg [(.ref [0, 2]), (.d ⟨.bool, b873⟩)])])⟩), ([0, 2], ⟨2, 1, (.data (.int .i64) ns874)⟩)] k = some true := by
  obtain ⟨d, rfl⟩ : ∃ e, d = e + 1 := ⟨d - 1, by omega⟩
  exact fn_ok (c := codeOf Try.f49) Try.func49 (by kernel_rfl) (rec := stack_Stack_mayv1.calls stack_Stack_livev1) (fun g a h k hx => by
    rcases stack_Stack_livev1.look d (by omega) hx with hx | hx
    rotate_left
    · exact hx
    cases hx) (loopf := stack_Stack_mayv1.loops) (by
    have e : loopsOf (stack_Stack_mayv1.loops) 0 (codeOf Try.f49) = [] := by kernel_rfl
    rw [e]
    intro p hp
    cases hp) ((stack_Stack_mayv1.eq stack_Stack_livev1 n864 n865 n866 n867 n868 n869 n870 n871 n872 b873 ns874 k).trans hx)
theorem stack_Stack_mayv1.look (d : Nat) (hd : 2 ≤ d) {e : Option Bool} {g : FuncId} {a : List AV} {h : Heap} {k : KR} (hx : stack_Stack_mayv1.get stack_Stack_mayv1 e g a h k = some true) : e = some true ∨ callK Try.prog ht d g a h k = some true := by
  unfold stack_Stack_mayv1.get at hx
  split at hx
  · exact .inr (stack_Stack_mayv1.ok d hd _ _ _ _ _ _ _ _ _ _ _ _ hx)
  · exact .inl hx
/-- function 25: (*sheerleg/stack.Stack).Down -/
noncomputable def stack_Stack_Downv1.body (stack_Stack_SPv1 : Int → Int → Int → Int → Int → Int → Int → Bool → (List Int) → (Int → Int → Int → Int → Int → Int → Int → Int → Bool → (List Int) → Option Bool) → Option Bool) (stack_Stack_Segv1 : Int → Int → Int → Int → Int → Int → Int → Bool → (List Int) → ((Int × Int × Int × Unit) → Int → Int → Int → Int → Int → Int → Int → Bool → (List Int) → Option Bool) → Option Bool) (stack_Stack_mayv1 : Int → Int → Int → Int → Int → Int → Int → Int → Int → Bool → (List Int) → (Bool → Int → Int → Int → Int → Int → Int → Int → Bool → (List Int) → Option Bool) → Option Bool) (n834 : Int) (n835 : Int) (n836 : Int) (n837 : Int) (n838 : Int) (n839 : Int) (n840 : Int) (n841 : Int) (b842 : Bool) (ns843 : List Int) (k1 : Bool → Int → Int → Int → Int → Int → Int → Int → Bool → (List Int) → Option Bool) : Option Bool :=
  (stack_Stack_SPv1 n835 n836 n837 n838 n839 n840 n841 b842 ns843
  (fun n844 n845 n846 n847 n848 n849 n850 n851 b852 ns853 => (stack_Stack_Segv1 n845 n846 n847 n848 n849 n850 n851 b852 ns853
  (fun t854 n855 n856 n857 n858 n859 n860 n861 b862 ns863 => (stack_Stack_mayv1 n834 (IntKind.wrap .i64 (n844 - t854.1)) n855 n856 n857 n858 n859 n860 n861 b862 ns863
  (fun b885 n886 n887 n888 n889 n890 n891 n892 b893 ns894 => (cond_ (! b885) (k1 false n886 n887 n888 n889 n890 n891 n892 b893 ns894) (k1 true n886 n887 n888 (IntKind.wrap .i64 (n889 - n834)) n890 n891 n892 b893 ns894))))))))
noncomputable def stack_Stack_Downv1 (n834 : Int) (n835 : Int) (n836 : Int) (n837 : Int) (n838 : Int) (n839 : Int) (n840 : Int) (n841 : Int) (b842 : Bool) (ns843 : List Int) (k1 : Bool → Int → Int → Int → Int → Int → Int → Int → Bool → (List Int) → Option Bool) : Option Bool := stack_Stack_Downv1.body stack_Stack_SPv1 stack_Stack_Segv1 stack_Stack_mayv1 n834 n835 n836 n837 n838 n839 n840 n841 b842 ns843 k1
noncomputable def stack_Stack_Downv1.get (F : Int → Int → Int → Int → Int → Int → Int → Int → Bool → (List Int) → (Bool → Int → Int → Int → Int → Int → Int → Int → Bool → (List Int) → Option Bool) → Option Bool) (e : Option Bool) (g : FuncId) (a : List AV) (h : Heap) (k : KR) : Option Bool := match g, a, h with
  | 25, [(.ptr [0, 0] 0 0), (.d ⟨(.int .i64), n834⟩)], [([0, 0], ⟨53, 8, (.mix [(.agg [(.ptr [0, 1] 0 0), (.d ⟨(.int .i64), n835⟩), (.d ⟨(.int .i64), n836⟩), (.d ⟨(.int .i64), n837⟩), (.d ⟨(.int .i64), n838⟩), (.d ⟨(.int .i64), n839⟩), (.d ⟨(.int .i64), n840⟩), (.d ⟨(.int .i64), n841⟩)])])⟩), ([0, 1], ⟨61, 2, (.mix [(.agg [(.ref [0, 2]), (.d ⟨.bool, b842⟩)])])⟩), ([0, 2], ⟨2, 1, (.data (.int .i64) ns843)⟩)] => F n834 n835 n836 n837 n838 n839 n840 n841 b842 ns843 (fun y0 y1 y2 y3 y4 y5 y6 y7 y8 y9 => k (.d ⟨.bool, y0⟩) [([0, 0], ⟨53, 8, (.mix [(.agg [(.ptr [0, 1] 0 0), (.d ⟨(.int .i64), y1⟩), (.d ⟨(.int .i64), y2⟩), (.d ⟨(.int .i64), y3⟩), (.d ⟨(.int .i64), y4⟩), (.d ⟨(.int .i64), y5⟩), (.d ⟨(.int .i64), y6⟩), (.d ⟨(.int .i64), y7⟩)])])⟩), ([0, 1], ⟨61, 2, (.mix [(.agg [(.ref [0, 2]), (.d ⟨.bool, y8⟩)])])⟩), ([0, 2], ⟨2, 1, (.data (.int .i64) y9)⟩)])
  | _, _, _ => e
noncomputable def stack_Stack_Downv1.calls (F0 : Int → Int → Int → Int → Int → Int → Int → Bool → (List Int) → (Int → Int → Int → Int → Int → Int → Int → Int → Bool → (List Int) → Option Bool) → Option Bool) (F1 : Int → Int → Int → Int → Int → Int → Int → Bool → (List Int) → ((Int × Int × Int × Unit) → Int → Int → Int → Int → Int → Int → Int → Bool → (List Int) → Option Bool) → Option Bool) (F2 : Int → Int → Int → Int → Int → Int → Int → Int → Int → Bool → (List Int) → (Bool → Int → Int → Int → Int → Int → Int → Int → Bool → (List Int) → Option Bool) → Option Bool) : RecF := fun g a h k => (stack_Stack_SPv1.get F0 (stack_Stack_Segv1.get F1 (stack_Stack_mayv1.get F2 none g a h k) g a h k) g a h k)
noncomputable def stack_Stack_Downv1.loops : LoopF := fun b => none
set_option maxRecDepth 100000 in
theorem stack_Stack_Downv1.eq (F0 : Int → Int → Int → Int → Int → Int → Int → Bool → (List Int) → (Int → Int → Int → Int → Int → Int → Int → Int → Bool → (List Int) → Option Bool) → Option Bool) (F1 : Int → Int → Int → Int → Int → Int → Int → Bool → (List Int) → ((Int × Int × Int × Unit) → Int → Int → Int → Int → Int → Int → Int → Bool → (List Int) → Option Bool) → Option Bool) (F2 : Int → Int → Int → Int → Int → Int → Int → Int → Int → Bool → (List Int) → (Bool → Int → Int → Int → Int → Int → Int → Int → Bool → (List Int) → Option Bool) → Option Bool) (n834 : Int) (n835 : Int) (n836 : Int) (n837 : Int) (n838 : Int) (n839 : Int) (n840 : Int) (n841 : Int) (b842 : Bool) (ns843 : List Int) (k : KR) : execL Try.prog ht 25 (callfOf (stack_Stack_Downv1.calls F0 F1 F2)) (stack_Stack_Downv1.loops) 0 (codeOf Try.f25) ⟨[(.ptr [0, 0] 0 0), (.d ⟨(.int .i64), n834⟩)] ++ List.replicate (Try.f25.ntmps - ([(.ptr [0, 0] 0 0), (.d ⟨(.int .i64), n834⟩)] : List AV).length) .undef, [([0, 0], ⟨53, 8, (.mix [(.agg [(.ptr [0, 1] 0 0), (.d ⟨(.int .i64), n835⟩), (.d ⟨(.int .i64), n836⟩), (.d ⟨(.int .i64), n837⟩), (.d ⟨(.int .i64), n838⟩), (.d ⟨(.int .i64), n839⟩), (.d ⟨(.int .i64), n840⟩), (.d ⟨(.int .i64), n841⟩)])])⟩), ([0, 1], ⟨61, 2, (.mix [(.agg [(.ref [0, 2]), (.d ⟨.bool, b842⟩)])])⟩), ([0, 2], ⟨2, 1, (.data (.int .i64) ns843)⟩)], 2⟩ (leave Try.prog Try.f25 k) = stack_Stack_Downv1.body F0 F1 F2 n834 n835 n836 n837 n838 n839 n840 n841 b842 ns843 (fun y0 y1 y2 y3 y4 y5 y6 y7 y8 y9 => k (.d ⟨.bool, y0⟩) [([0, 0], ⟨53, 8, (.mix [(.agg [(.ptr [0, 1] 0 0), (.d ⟨(.int .i64), y1⟩), (.d ⟨(.int .i64), y2⟩), (.d ⟨(.int .i64), y3⟩), (.d ⟨(.int .i64), y4⟩), (.d ⟨(.int .i64), y5⟩), (.d ⟨(.int .i64), y6⟩), (.d ⟨(.int .i64), y7⟩)])])⟩), ([0, 1], ⟨61, 2, (.mix [(.agg [(.ref [0, 2]), (.d ⟨.bool, y8⟩)])])⟩), ([0, 2], ⟨2, 1, (.data (.int .i64) y9)⟩)]) := by kernel_rfl
theorem stack_Stack_Downv1.ok (d : Nat) (hd : 3 ≤ d) (n834 : Int) (n835 : Int) (n836 : Int) (n837 : Int) (n838 : Int) (n839 : Int) (n840 : Int) (n841 : Int) (b842 : Bool) (ns843 : List Int) (k : KR) (hx : stack_Stack_Downv1 n834 n835 n836 n837 n838 n839 n840 n841 b842 ns843 (fun y0 y1 y2 y3 y4 y5 y6 y7 y8 y9 => k (.d ⟨.bool, y0⟩) [([0, 0], ⟨53, 8, (.mix [(.agg [(.ptr [0, 1] 0 0), (.d ⟨(.int .i64), y1⟩), (.d ⟨(.int .i64), y2⟩), (.d ⟨(.int .i64), y3⟩), (.d ⟨(.int .i64), y4⟩), (.d ⟨(.int .i64), y5⟩), (.d ⟨(.int .i64), y6⟩), (.d ⟨(.int .i64), y7⟩)])])⟩), ([0, 1], ⟨61, 2, (.mix [(.agg [(.ref [0, 2]), (.d ⟨.bool, y8⟩)])])⟩), ([0, 2], ⟨2, 1, (.data (.int .i64) y9)⟩)]) = some true) : callK Try.prog ht d 25 [(.ptr [0, 0] 0 0), (.d ⟨(.int .i64), n834⟩)] [([0, 0], ⟨53, 8, (.mix [(.agg [(.ptr [0, 1] 0 0), (.d ⟨(.int .i64), n835⟩), (.d ⟨(.int .i64), n836⟩), (.d ⟨(.int .i64), n837⟩), (.d ⟨(.int .i64), n838⟩), (.d ⟨(.int .i64), n839⟩), (.d ⟨(.int .i64), n840⟩), (.d ⟨(.int .i64), n841⟩)])])⟩), ([0, 1], ⟨61, 2, (.mix [(.agg [(.ref [0, 2]), (.d ⟨.bool, b842⟩)])])⟩), ([0, 2], ⟨2, 1, (.data (.int .i64) ns843)⟩)] k = some true := by
  obtain ⟨d, rfl⟩ : ∃ e, d = e + 1 := ⟨d - 1, by omega⟩
  exact fn_ok (c := codeOf Try.f25) Try.func25 (by kernel_rfl) (rec := stack_Stack_Downv1.calls stack_Stack_SPv1 stack_Stack_Segv1 stack_Stack_mayv1) (fun g a h k hx => by
    rcases stack_Stack_SPv1.look d (by omega) hx with hx | hx
    rotate_left
    · exact hx
    rcases stack_Stack_Segv1.look d (by omega) hx with hx | hx
    rotate_left
    · exact hx
    rcases stack_Stack_mayv1.look d (by omega) hx with hx | hx
    rotate_left
    · exact hx
    cases hx) (loopf := stack_Stack_Downv1.loops) (by
    have e : loopsOf (stack_Stack_Downv1.loops) 0 (codeOf Try.f25) = [] := by kernel_rfl
    rw [e]
    intro p hp
    cases hp) ((stack_Stack_Downv1.eq stack_Stack_SPv1 stack_Stack_Segv1 stack_Stack_mayv1 n834 n835 n836 n837 n838 n839 n840 n841 b842 ns843 k).trans hx)
theorem stack_Stack_Downv1.look (d : Nat) (hd : 3 ≤ d) {e : Option Bool} {g : FuncId} {a : List AV} {h : Heap} {k : KR} (hx : stack_Stack_Downv1.get stack_Stack_Downv1 e g a h k = some true) : e = some true ∨ callK Try.prog ht d g a h k = some true := by
  unfold stack_Stack_Downv1.get at hx
  split at hx
  · exact .inr (stack_Stack_Downv1.ok d hd _ _ _ _ _ _ _ _ _ _ _ hx)
  · exact .inl hx
/-- function 26: (*sheerleg/stack.Stack).Up -/
noncomputable def stack_Stack_Upv1.body (stack_Stack_Idv1 : Int → Int → Int → Int → Int → Int → Int → Bool → (List Int) → (Int → Int → Int → Int → Int → Int → Int → Int → Bool → (List Int) → Option Bool) → Option Bool) (stack_Stack_mayv1 : Int → Int → Int → Int → Int → Int → Int → Int → Int → Bool → (List Int) → (Bool → Int → Int → Int → Int → Int → Int → Int → Bool → (List Int) → Option Bool) → Option Bool) (n1041 : Int) (n1042 : Int) (n1043 : Int) (n1044 : Int) (n1045 : Int) (n1046 : Int) (n1047 : Int) (n1048 : Int) (b1049 : Bool) (ns1050 : List Int) (k1 : Bool → Int → Int → Int → Int → Int → Int → Int → Bool → (List Int) → Option Bool) : Option Bool :=
  (stack_Stack_Idv1 n1042 n1043 n1044 n1045 n1046 n1047 n1048 b1049 ns1050
  (fun n1051 n1052 n1053 n1054 n1055 n1056 n1057 n1058 b1059 ns1060 => (stack_Stack_mayv1 n1041 n1051 n1052 n1053 n1054 n1055 n1056 n1057 n1058 b1059 ns1060
  (fun b1061 n1062 n1063 n1064 n1065 n1066 n1067 n1068 b1069 ns1070 => (cond_ (! b1061) (k1 false n1062 n1063 n1064 n1065 n1066 n1067 n1068 b1069 ns1070) (k1 true n1062 n1063 n1064 (IntKind.wrap .i64 (n1065 + n1041)) n1066 n1067 n1068 b1069 ns1070))))))
noncomputable def stack_Stack_Upv1 (n1041 : Int) (n1042 : Int) (n1043 : Int) (n1044 : Int) (n1045 : Int) (n1046 : Int) (n1047 : Int) (n1048 : Int) (b1049 : Bool) (ns1050 : List Int) (k1 : Bool → Int → Int → Int → Int → Int → Int → Int → Bool → (List Int) → Option Bool) : Option Bool := stack_Stack_Upv1.body stack_Stack_Idv1 stack_Stack_mayv1 n1041 n1042 n1043 n1044 n1045 n1046 n1047 n1048 b1049 ns1050 k1
noncomputable def stack_Stack_Upv1.get (F : Int → Int → Int → Int → Int → Int → Int → Int → Bool → (List Int) → (Bool → Int → Int → Int → Int → Int → Int → Int → Bool → (List Int) → Option Bool) → Option Bool) (e : Option Bool) (g : FuncId) (a : List AV) (h : Heap) (k : KR) : Option Bool := match g, a, h with
  | 26, [(.ptr [0, 0] 0 0), (.d ⟨(.int .i64), n1041⟩)], [([0, 0], ⟨53, 8, (.mix [(.agg [(.ptr [0, 1] 0 0), (.d ⟨(.int .i64), n1042⟩), (.d ⟨(.int .i64), n1043⟩), (.d ⟨(.int .i64), n1044⟩), (.d ⟨(.int .i64), n1045⟩), (.d ⟨(.int .i64), n1046⟩), (.d ⟨(.int .i64), n1047⟩), (.d ⟨(.int .i64), n1048⟩)])])⟩), ([0, 1], ⟨61, 2, (.mix [(.agg [(.ref [0, 2]), (.d ⟨.bool, b1049⟩)])])⟩), ([0, 2], ⟨2, 1, (.data (.int .i64) ns1050)⟩)] => F n1041 n1042 n1043 n1044 n1045 n1046 n1047 n1048 b1049 ns1050 (fun y0 y1 y2 y3 y4 y5 y6 y7 y8 y9 => k (.d ⟨.bool, y0⟩) [([0, 0], ⟨53, 8, (.mix [(.agg [(.ptr [0, 1] 0 0), (.d ⟨(.int .i64), y1⟩), (.d ⟨(.int .i64), y2⟩), (.d ⟨(.int .i64), y3⟩), (.d ⟨(.int .i64), y4⟩), (.d ⟨(.int .i64), y5⟩), (.d ⟨(.int .i64), y6⟩), (.d ⟨(.int .i64), y7⟩)])])⟩), ([0, 1], ⟨61, 2, (.mix [(.agg [(.ref [0, 2]), (.d ⟨.bool, y8⟩)])])⟩), ([0, 2], ⟨2, 1, (.data (.int .i64) y9)⟩)])
  | _, _, _ => e
noncomputable def stack_Stack_Upv1.calls (F0 : Int → Int → Int → Int → Int → Int → Int → Bool → (List Int) → (Int → Int → Int → Int → Int → Int → Int → Int → Bool → (List Int) → Option Bool) → Option Bool) (F1 : Int → Int → Int → Int → Int → Int → Int → Int → Int → Bool → (List Int) → (Bool → Int → Int → Int → Int → Int → Int → Int → Bool → (List Int) → Option Bool) → Option Bool) : RecF := fun g a h k => (stack_Stack_Idv1.get F0 (stack_Stack_mayv1.get F1 none g a h k) g a h k)
noncomputable def stack_Stack_Upv1.loops : LoopF := fun b => none
set_option maxRecDepth 100000 in
theorem stack_Stack_Upv1.eq (F0 : Int → Int → Int → Int → Int → Int → Int → Bool → (List Int) → (Int → Int → Int → Int → Int → Int → Int → Int → Bool → (List Int) → Option Bool) → Option Bool) (F1 : Int → Int → Int → Int → Int → Int → Int → Int → Int → Bool → (List Int) → (Bool → Int → Int → Int → Int → Int → Int → Int → Bool → (List Int) → Option Bool) → Option Bool) (n1041 : Int) (n1042 : Int) (n1043 : Int) (n1044 : Int) (n1045 : Int) (n1046 : Int) (n1047 : Int) (n1048 : Int) (b1049 : Bool) (ns1050 : List Int) (k : KR) : execL Try.prog ht 26 (callfOf (stack_Stack_Upv1.calls F0 F1)) (stack_Stack_Upv1.loops) 0 (codeOf Try.f26) ⟨[(.ptr [0, 0] 0 0), (.d ⟨(.int .i64), n1041⟩)] ++ List.replicate (Try.f26.ntmps - ([(.ptr [0, 0] 0 0), (.d ⟨(.int .i64), n1041⟩)] : List AV).length) .undef, [([0, 0], ⟨53, 8, (.mix [(.agg [(.ptr [0, 1] 0 0), (.d ⟨(.int .i64), n1042⟩), (.d ⟨(.int .i64), n1043⟩), (.d ⟨(.int .i64), n1044⟩), (.d ⟨(.int .i64), n1045⟩), (.d ⟨(.int .i64), n1046⟩), (.d ⟨(.int .i64), n1047⟩), (.d ⟨(.int .i64), n1048⟩)])])⟩), ([0, 1], ⟨61, 2, (.mix [(.agg [(.ref [0, 2]), (.d ⟨.bool, b1049⟩)])])⟩), ([0, 2], ⟨2, 1, (.data (.int .i64) ns1050)⟩)], 2⟩ (leave Try.prog Try.f26 k) = stack_Stack_Upv1.body F0 F1 n1041 n1042 n1043 n1044 n1045 n1046 n1047 n1048 b1049 ns1050 (fun y0 y1 y2 y3 y4 y5 y6 y7 y8 y9 => k (.d ⟨.bool, y0⟩) [([0, 0], ⟨53, 8, (.mix [(.agg [(.ptr [0, 1] 0 0), (.d ⟨(.int .i64), y1⟩), (.d ⟨(.int .i64), y2⟩), (.d ⟨(.int .i64), y3⟩), (.d ⟨(.int .i64), y4⟩), (.d ⟨(.int .i64), y5⟩), (.d ⟨(.int .i64), y6⟩), (.d ⟨(.int .i64), y7⟩)])])⟩), ([0, 1], ⟨61, 2, (.mix [(.agg [(.ref [0, 2]), (.d ⟨.bool, y8⟩)])])⟩), ([0, 2], ⟨2, 1, (.data (.int .i64) y9)⟩)]) := by kernel_rfl
theorem stack_Stack_Upv1.ok (d : Nat) (hd : 4 ≤ d) (n1041 : Int) (n1042 : Int) (n1043 : Int) (n1044 : Int) (n1045 : Int) (n1046 : Int) (n1047 : Int) (n1048 : Int) (b1049 : Bool) (ns1050 : List Int) (k : KR) (hx : stack_Stack_Upv1 n1041 n1042 n1043 n1044 n1045 n1046 n1047 n1048 b1049 ns1050 (fun y0 y1 y2 y3 y4 y5 y6 y7 y8 y9 => k (.d ⟨.bool, y0⟩) [([0, 0], ⟨53, 8, (.mix [(.agg [(.ptr [0, 1] 0 0), (.d ⟨(.int .i64), y1⟩), (.d ⟨(.int .i64), y2⟩), (.d ⟨(.int .i64), y3⟩), (.d ⟨(.int .i64), y4⟩), (.d ⟨(.int .i64), y5⟩), (.d ⟨(.int .i64), y6⟩), (.d ⟨(.int .i64), y7⟩)])])⟩), ([0, 1], ⟨61, 2, (.mix [(.agg [(.ref [0, 2]), (.d ⟨.bool, y8⟩)])])⟩), ([0, 2], ⟨2, 1, (.data (.int .i64) y9)⟩)]) = some true) : callK Try.prog ht d 26 [(.ptr [0, 0] 0 0), (.d ⟨(.int .i64), n1041⟩)] [([0, 0], ⟨53, 8, (.mix [(.agg [(.ptr [0, 1] 0 0), (.d ⟨(.int .i64), n1042⟩), (.d ⟨(.int .i64), n1043⟩), (.d ⟨(.int .i64), n1044⟩), (.d ⟨(.int .i64), n1045⟩), (.d ⟨(.int .i64), n1046⟩), (.d ⟨(.int .i64), n1047⟩), (.d ⟨(.int .i64), n1048⟩)])])⟩), ([0, 1], ⟨61, 2, (.mix [(.agg [(.ref [0, 2]), (.d ⟨.bool, b1049⟩)])])⟩), ([0, 2], ⟨2, 1, (.data (.int .i64) ns1050)⟩)] k = some true := by
  obtain ⟨d, rfl⟩ : ∃ e, d = e + 1 := ⟨d - 1, by omega⟩
  exact fn_ok (c := codeOf Try.f26) Try.func26 (by kernel_rfl) (rec := stack_Stack_Upv1.calls stack_Stack_Idv1 stack_Stack_mayv1) (fun g a h k hx => by
    rcases stack_Stack_Idv1.look d (by omega) hx with hx | hx
    rotate_left
    · exact hx
    rcases stack_Stack_mayv1.look d (by omega) hx with hx | hx
    rotate_left
    · exact hx
    cases hx) (loopf := stack_Stack_Upv1.loops) (by
    have e : loopsOf (stack_Stack_Upv1.loops) 0 (codeOf Try.f26) = [] := by kernel_rfl
    rw [e]
    intro p hp
    cases hp) ((stack_Stack_Upv1.eq stack_Stack_Idv1 stack_Stack_mayv1 n1041 n1042 n1043 n1044 n1045 n1046 n1047 n1048 b1049 ns1050 k).trans hx)
theorem stack_Stack_Upv1.look (d : Nat) (hd : 4 ≤ d) {e : Option Bool} {g : FuncId} {a : List AV} {h : Heap} {k : KR} (hx : stack_Stack_Upv1.get stack_Stack_Upv1 e g a h k = some true) : e = some true ∨ callK Try.prog ht d g a h k = some true := by
  unfold stack_Stack_Upv1.get at hx
  split at hx
  · exact .inr (stack_Stack_Upv1.ok d hd _ _ _ _ _ _ _ _ _ _ _ hx)
  · exact .inl hx
/-- function 24: (*sheerleg/stack.Stack).Set -/
noncomputable def stack_Stack_Setv1.body (stack_Stack_hasv1 : Int → Int → Int → Int → Int → Int → Int → Int → Bool → (List Int) → (Bool → Int → Int → Int → Int → Int → Int → Int → Bool → (List Int) → Option Bool) → Option Bool) (stack_Stack_writev1 : Int → Int → Int → Int → Int → Int → Int → Int → Int → Bool → (List Int) → (Bool → Int → Int → Int → Int → Int → Int → Int → Bool → (List Int) → Option Bool) → Option Bool) (n1217 : Int) (n1218 : Int) (n1219 : Int) (n1220 : Int) (n1221 : Int) (n1222 : Int) (n1223 : Int) (n1224 : Int) (n1225 : Int) (b1226 : Bool) (ns1227 : List Int) (k1 : Bool → Int → Int → Int → Int → Int → Int → Int → Bool → (List Int) → Option Bool) : Option Bool :=
  (stack_Stack_hasv1 n1217 n1219 n1220 n1221 n1222 n1223 n1224 n1225 b1226 ns1227
  (fun b1228 n1229 n1230 n1231 n1232 n1233 n1234 n1235 b1236 ns1237 => (cond_ b1228 (stack_Stack_writev1 (IntKind.wrap .i64 (n1232 + n1217)) n1218 n1229 n1230 n1231 n1232 n1233 n1234 n1235 b1236 ns1237
  (fun b1238 n1239 n1240 n1241 n1242 n1243 n1244 n1245 b1246 ns1247 => (k1 b1238 n1239 n1240 n1241 n1242 n1243 n1244 n1245 b1246 ns1247))) (k1 false n1229 n1230 n1231 n1232 n1233 n1234 n1235 b1236 ns1237))))
noncomputable def stack_Stack_Setv1 (n1217 : Int) (n1218 : Int) (n1219 : Int) (n1220 : Int) (n1221 : Int) (n1222 : Int) (n1223 : Int) (n1224 : Int) (n1225 : Int) (b1226 : Bool) (ns1227 : List Int) (k1 : Bool → Int → Int → Int → Int → Int → Int → Int → Bool → (List Int) → Option Bool) : Option Bool := stack_Stack_Setv1.body stack_Stack_hasv1 stack_Stack_writev1 n1217 n1218 n1219 n1220 n1221 n1222 n1223 n1224 n1225 b1226 ns1227 k1
noncomputable def stack_Stack_Setv1.get (F : Int → Int → Int → Int → Int → Int → Int → Int → Int → Bool → (List Int) → (Bool → Int → Int → Int → Int → Int → Int → Int → Bool → (List Int) → Option Bool) → Option Bool) (e : Option Bool) (g : FuncId) (a : List AV) (h : Heap) (k : KR) : Option Bool := match g, a, h with
  | 24, [(.ptr [0, 0] 0 0), (.d ⟨(.int .i64), n1217⟩), (.d ⟨(.int .i64), n1218⟩)], [([0, 0], ⟨53, 8, (.mix [(.agg [(.ptr [0, 1] 0 0), (.d ⟨(.int .i64), n1219⟩), (.d ⟨(.int .i64), n1220⟩), (.d ⟨(.int .i64), n1221⟩), (.d ⟨(.int .i64), n1222⟩), (.d ⟨(.int .i64), n1223⟩), (.d ⟨(.int .i64), n1224⟩), (.d ⟨(.int .i64), n1225⟩)])])⟩), ([0, 1], ⟨61, 2, (.mix [(.agg [(.ref [0, 2]), (.d ⟨.bool, b1226⟩)])])⟩), ([0, 2], ⟨2, 1, (.data (.int .i64) ns1227)⟩)] => F n1217 n1218 n1219 n1220 n1221 n1222 n1223 n1224 n1225 b1226 ns1227 (fun y0 y1 y2 y3 y4 y5 y6 y7 y8 y9 => k (.d ⟨.bool, y0⟩) [([0, 0], ⟨53, 8, (.mix [(.agg [(.ptr [0, 1] 0 0), (.d ⟨(.int .i64), y1⟩), (.d ⟨(.int .i64), y2⟩), (.d ⟨(.int .i64), y3⟩), (.d ⟨(.int .i64), y4⟩), (.d ⟨(.int .i64), y5⟩), (.d ⟨(.int .i64), y6⟩), (.d ⟨(.int .i64), y7⟩)])])⟩), ([0, 1], ⟨61, 2, (.mix [(.agg [(.ref [0, 2]), (.d ⟨.bool, y8⟩)])])⟩), ([0, 2], ⟨2, 1, (.data (.int .i64) y9)⟩)])
  | _, _, _ => e
noncomputable def stack_Stack_Setv1.calls (F0 : Int → Int → Int → Int → Int → Int → Int → Int → Bool → (List Int) → (Bool → Int → Int → Int → Int → Int → Int → Int → Bool → (List Int) → Option Bool) → Option Bool) (F1 : Int → Int → Int → Int → Int → Int → Int → Int → Int → Bool → (List Int) → (Bool → Int → Int → Int → Int → Int → Int → Int → Bool → (List Int) → Option Bool) → Option Bool) : RecF := fun g a h k => (stack_Stack_hasv1.get F0 (stack_Stack_writev1.get F1 none g a h k) g a h k)
noncomputable def stack_Stack_Setv1.loops : LoopF := fun b => none
set_option maxRecDepth 100000 in
theorem stack_Stack_Setv1.eq (F0 : Int → Int → Int → Int → Int → Int → Int → Int → Bool → (List Int) → (Bool → Int → Int → Int → Int → Int → Int → Int → Bool → (List Int) → Option Bool) → Option Bool) (F1 : Int → Int → Int → Int → Int → Int → Int → Int → Int → Bool → (List Int) → (Bool → Int → Int → Int → Int → Int → Int → Int → Bool → (List Int) → Option Bool) → Option Bool) (n1217 : Int) (n1218 : Int) (n1219 : Int) (n1220 : Int) (n1221 : Int) (n1222 : Int) (n1223 : Int) (n1224 : Int) (n1225 : Int) (b1226 : Bool) (ns1227 : List Int) (k : KR) : execL Try.prog ht 24 (callfOf (stack_Stack_Setv1.calls F0 F1)) (stack_Stack_Setv1.loops) 0 (codeOf Try.f24) ⟨[(.ptr [0, 0] 0 0), (.d ⟨(.int .i64), n1217⟩), (.d ⟨(.int .i64), n1218⟩)] ++ List.replicate (Try.f24.ntmps - ([(.ptr [0, 0] 0 0), (.d ⟨(.int .i64), n1217⟩), (.d ⟨(.int .i64), n1218⟩)] : List AV).length) .undef, [([0, 0], ⟨53, 8, (.mix [(.agg [(.ptr [0, 1] 0 0), (.d ⟨(.int .i64), n1219⟩), (.d ⟨(.int .i64), n1220⟩), (.d ⟨(.int .i64), n1221⟩), (.d ⟨(.int .i64), n1222⟩), (.d ⟨(.int .i64), n1223⟩), (.d ⟨(.int .i64), n1224⟩), (.d ⟨(.int .i64), n1225⟩)])])⟩), ([0, 1], ⟨61, 2, (.mix [(.agg [(.ref [0, 2]), (.d ⟨.bool, b1226⟩)])])⟩), ([0, 2], ⟨2, 1, (.data (.int .i64) ns1227)⟩)], 2⟩ (leave Try.prog Try.f24 k) = stack_Stack_Setv1.body F0 F1 n1217 n1218 n1219 n1220 n1221 n1222 n1223 n1224 n1225 b1226 ns1227 (fun y0 y1 y2 y3 y4 y5 y6 y7 y8 y9 => k (.d ⟨.bool, y0⟩) [([0, 0], ⟨53, 8, (.mix [(.agg [(.ptr [0, 1] 0 0), (.d ⟨(.int .i64), y1⟩), (.d ⟨(.int .i64), y2⟩), (.d ⟨(.int .i64), y3⟩), (.d ⟨(.int .i64), y4⟩), (.d ⟨(.int .i64), y5⟩), (.d ⟨(.int .i64), y6⟩), (.d ⟨(.int .i64), y7⟩)])])⟩), ([0, 1], ⟨61, 2, (.mix [(.agg [(.ref [0, 2]), (.d ⟨.bool, y8⟩)])])⟩), ([0, 2], ⟨2, 1, (.data (.int .i64) y9)⟩)]) := by kernel_rfl
theorem stack_Stack_Setv1.ok (d : Nat) (hd : 5 ≤ d) (n1217 : Int) (n1218 : Int) (n1219 : Int) (n1220 : Int) (n1221 : Int) (n1222 : Int) (n1223 : Int) (n1224 : Int) (n1225 : Int) (b1226 : Bool) (ns1227 : List Int) (k : KR) (hx : stack_Stack_Setv1 n1217 n1218 n1219 n1220 n1221 n1222 n1223 n1224 n1225 b1226 ns1227 (fun y0 y1 y2 y3 y4 y5 y6 y7 y8 y9 => k (.d ⟨.bool, y0⟩) [([0, 0], ⟨53, 8, (.mix [(.agg [(.ptr [0, 1] 0 0), (.d ⟨(.int .i64), y1⟩), (.d ⟨(.int .i64), y2⟩), (.d ⟨(.int .i64), y3⟩), (.d ⟨(.int .i64), y4⟩), (.d ⟨(.int .i64), y5⟩), (.d ⟨(.int .i64), y6⟩), (.d ⟨(.int .i64), y7⟩)])])⟩), ([0, 1], ⟨61, 2, (.mix [(.agg [(.ref [0, 2]), (.d ⟨.bool, y8⟩)])])⟩), ([0, 2], ⟨2, 1, (.data (.int .i64) y9)⟩)]) = some true) : callK Try.prog ht d 24 [(.ptr [0, 0] 0 0), (.d ⟨(.int .i64), n1217⟩), (.d ⟨(.int .i64), n1218⟩)] [([0, 0], ⟨53, 8, (.mix [(.agg [(.ptr [0, 1] 0 0), (.d ⟨(.int .i64), n1219⟩), (.d ⟨(.int .i64), n1220⟩), (.d ⟨(.int .i64), n1221⟩), (.d ⟨(.int .i64), n1222⟩), (.d ⟨(.int .i64), n1223⟩), (.d ⟨(.int .i64), n1224⟩), (.d ⟨(.int .i64), n1225⟩)])])⟩), ([0, 1], ⟨61, 2, (.mix [(.agg [(.ref [0, 2]), (.d ⟨.bool, b1226⟩)])])⟩), ([0, 2], ⟨2, 1, (.data (.int .i64) ns1227)⟩)] k = some true := by
  obtain ⟨d, rfl⟩ : ∃ e, d = e + 1 := ⟨d - 1, by omega⟩
  exact fn_ok (c := codeOf Try.f24) Try.func24 (by kernel_rfl) (rec := stack_Stack_Setv1.calls stack_Stack_hasv1 stack_Stack_writev1) (fun g a h k hx => by
    rcases stack_Stack_hasv1.look d (by omega) hx with hx | hx
    rotate_left
    · exact hx
    rcases stack_Stack_writev1.look d (by omega) hx with hx | hx
    rotate_left
    · exact hx
    cases hx) (loopf := stack_Stack_Setv1.loops) (by
    have e : loopsOf (stack_Stack_Setv1.loops) 0 (codeOf Try.f24) = [] := by kernel_rfl
    rw [e]
    intro p hp
    cases hp) ((stack_Stack_Setv1.eq stack_Stack_hasv1 stack_Stack_writev1 n1217 n1218 n1219 n1220 n1221 n1222 n1223 n1224 n1225 b1226 ns1227 k).trans hx)
theorem stack_Stack_Setv1.look (d : Nat) (hd : 5 ≤ d) {e : Option Bool} {g : FuncId} {a : List AV} {h : Heap} {k : KR} (hx : stack_Stack_Setv1.get stack_Stack_Setv1 e g a h k = some true) : e = some true ∨ callK Try.prog ht d g a h k = some true := by
  unfold stack_Stack_Setv1.get at hx
  split at hx
  · exact .inr (stack_Stack_Setv1.ok d hd _ _ _ _ _ _ _ _ _ _ _ _ hx)
  · exact .inl hx
/-- function 27: (*sheerleg/stack.Stack).Spill -/
noncomputable def stack_Stack_Spillv1.body (stack_Stack_aheadv1 : Int → Int → Int → Int → Int → Int → Int → Int → Bool → (List Int) → (Bool → Int → Int → Int → Int → Int → Int → Int → Bool → (List Int) → Option Bool) → Option Bool) (n1394 : Int) (n1395 : Int) (n1396 : Int) (n1397 : Int) (n1398 : Int) (n1399 : Int) (n1400 : Int) (b1401 : Bool) (ns1402 : List Int) (k1 : Bool → Int → Int → Int → Int → Int → Int → Int → Bool → (List Int) → Option Bool) : Option Bool :=
  (stack_Stack_aheadv1 (0 : Int) n1394 n1395 n1396 n1397 n1398 n1399 n1400 b1401 ns1402
  (fun b1403 n1404 n1405 n1406 n1407 n1408 n1409 n1410 b1411 ns1412 => (k1 b1403 n1404 n1405 n1406 n1407 n1408 n1409 n1410 b1411 ns1412)))
noncomputable def stack_Stack_Spillv1 (n1394 : Int) (n1395 : Int) (n1396 : Int) (n1397 : Int) (n1398 : Int) (n1399 : Int) (n1400 : Int) (b1401 : Bool) (ns1402 : List Int) (k1 : Bool → Int → Int → Int → Int → Int → Int → Int → Bool → (List Int) → Option Bool) : Option Bool := stack_Stack_Spillv1.body stack_Stack_aheadv1 n1394 n1395 n1396 n1397 n1398 n1399 n1400 b1401 ns1402 k1
noncomputable def stack_Stack_Spillv1.get (F : Int → Int → Int → Int → Int → Int → Int → Bool → (List Int) → (Bool → Int → Int → Int → Int → Int → Int → Int → Bool → (List Int) → Option Bool) → Option Bool) (e : Option Bool) (g : FuncId) (a : List AV) (h : Heap) (k : KR) : Option Bool := match g, a, h with
  | 27, [(.ptr [0, 0] 0 0)], [([0, 0], ⟨53, 8, (.mix [(.agg [(.ptr [0, 1] 0 0), (.d ⟨(.int .i64), n1394⟩), (.d ⟨(.int .i64), n1395⟩), (.d ⟨(.int .i64), n1396⟩), (.d ⟨(.int .i64), n1397⟩), (.d ⟨(.int .i64), n1398⟩), (.d ⟨(.int .i64), n1399⟩), (.d ⟨(.int .i64), n1400⟩)])])⟩), ([0, 1], ⟨61, 2, (.mix [(.agg [(.ref [0, 2]), (.d ⟨.bool, b1401⟩)])])⟩), ([0, 2], ⟨2, 1, (.data (.int .i64) ns1402)⟩)] => F n1394 n1395 n1396 n1397 n1398 n1399 n1400 b1401 ns1402 (fun y0 y1 y2 y3 y4 y5 y6 y7 y8 y9 => k (.d ⟨.bool, y0⟩) [([0, 0], ⟨53, 8, (.mix [(.agg [(.ptr [0, 1] 0 0), (.d ⟨(.int .i64), y1⟩), (.d ⟨(.int .i64), y2⟩), (.d ⟨(.int .i64), y3⟩), (.d ⟨(.int .i64), y4⟩), (.d ⟨(.int .i64), y5⟩), (.d ⟨(.int .i64), y6⟩), (.d ⟨(.int .i64), y7⟩)])])⟩), ([0, 1], ⟨61, 2, (.mix [(.agg [(.ref [0, 2]), (.d ⟨.bool, y8⟩)])])⟩), ([0, 2], ⟨2, 1, (.data (.int .i64) y9)⟩)])
  | _, _, _ => e
noncomputable def stack_Stack_Spillv1.calls (F0 : Int → Int → Int → Int → Int → Int → Int → Int → Bool → (List Int) → (Bool → Int → Int → Int → Int → Int → Int → Int → Bool → (List Int) → Option Bool) → Option Bool) : RecF := fun g a h k => (stack_Stack_aheadv1.get F0 none g a h k)
noncomputable def stack_Stack_Spillv1.loops : LoopF := fun b => none
set_option maxRecDepth 100000 in
theorem stack_Stack_Spillv1.eq (F0 : Int → Int → Int → Int → Int → Int → Int → Int → Bool → (List Int) → (Bool → Int → Int → Int → Int → Int → Int → Int → Bool → (List Int) → Option Bool) → Option Bool) (n1394 : Int) (n1395 : Int) (n1396 : Int) (n1397 : Int) (n1398 : Int) (n1399 : Int) (n1400 : Int) (b1401 : Bool) (ns1402 : List Int) (k : KR) : execL Try.prog ht 27 (callfOf (stack_Stack_Spillv1.calls F0)) (stack_Stack_Spillv1.loops) 0 (codeOf Try.f27) ⟨[(.ptr [0, 0] 0 0)] ++ List.replicate (Try.f27.ntmps - ([(.ptr [0, 0] 0 0)] : List AV).length) .undef, [([0, 0], ⟨53, 8, (.mix [(.agg [(.ptr [0, 1] 0 0), (.d ⟨(.int .i64), n1394⟩), (.d ⟨(.int .i64), n1395⟩), (.d ⟨(.int .i64), n1396⟩), (.d ⟨(.int .i64), n1397⟩), (.d ⟨(.int .i64), n1398⟩), (.d ⟨(.int .i64), n1399⟩), (.d ⟨(.int .i64), n1400⟩)])])⟩), ([0, 1], ⟨61, 2, (.mix [(.agg [(.ref [0, 2]), (.d ⟨.bool, b1401⟩)])])⟩), ([0, 2], ⟨2, 1, (.data (.int .i64) ns1402)⟩)], 2⟩ (leave Try.prog Try.f27 k) = stack_Stack_Spillv1.body F0 n1394 n1395 n1396 n1397 n1398 n1399 n1400 b1401 ns1402 (fun y0 y1 y2 y3 y4 y5 y6 y7 y8 y9 => k (.d ⟨.bool, y0⟩) [([0, 0], ⟨53, 8, (.mix [(.agg [(.ptr [0, 1] 0 0), (.d ⟨(.int .i64), y1⟩), (.d ⟨(.int .i64), y2⟩), (.d ⟨(.int .i64), y3⟩), (.d ⟨(.int .i64), y4⟩), (.d ⟨(.int .i64), y5⟩), (.d ⟨(.int .i64), y6⟩), (.d ⟨(.int .i64), y7⟩)])])⟩), ([0, 1], ⟨61, 2, (.mix [(.agg [(.ref [0, 2]), (.d ⟨.bool, y8⟩)])])⟩), ([0, 2], ⟨2, 1, (.data (.int .i64) y9)⟩)]) := by kernel_rfl
theorem stack_Stack_Spillv1.ok (d : Nat) (hd : 6 ≤ d) (n1394 : Int) (n1395 : Int) (n1396 : Int) (n1397 : Int) (n1398 : Int) (n1399 : Int) (n1400 : Int) (b1401 : Bool) (ns1402 : List Int) (k : KR) (hx : stack_Stack_Spillv1 n1394 n1395 n1396 n1397 n1398 n1399 n1400 b1401 ns1402 (fun y0 y1 y2 y3 y4 y5 y6 y7 y8 y9 => k (.d ⟨.bool, y0⟩) [([0, 0], ⟨53, 8, (.mix [(.agg [(.ptr [0, 1] 0 0), (.d ⟨(.int .i64), y1⟩), (.d ⟨(.int .i64), y2⟩), (.d ⟨(.int .i64), y3⟩), (.d ⟨(.int .i64), y4⟩), (.d ⟨(.int .i64), y5⟩), (.d ⟨(.int .i64), y6⟩), (.d ⟨(.int .i64), y7⟩)])])⟩), ([0, 1], ⟨61, 2, (.mix [(.agg [(.ref [0, 2]), (.d ⟨.bool, y8⟩)])])⟩), ([0, 2], ⟨2, 1, (.data (.int .i64) y9)⟩)]) = some true) : callK Try.prog ht d 27 [(.ptr [0, 0] 0 0)] [([0, 0], ⟨53, 8, (.mix [(.agg [(.ptr [0, 1] 0 0), (.d ⟨(.int .i64), n1394⟩), (.d ⟨(.int .i64), n1395⟩), (.d ⟨(.int .i64), n1396⟩), (.d ⟨(.int .i64), n1397⟩), (.d ⟨(.int .i64), n1398⟩), (.d ⟨(.int .i64), n1399⟩), (.d ⟨(.int .i64), n1400⟩)])])⟩), ([0, 1], ⟨61, 2, (.mix [(.agg [(.ref [0, 2]), (.d ⟨.bool, b1401⟩)])])⟩), ([0, 2], ⟨2, 1, (.data (.int .i64) ns1402)⟩)] k = some true := by
  obtain ⟨d, rfl⟩ : ∃ e, d = e + 1 := ⟨d - 1, by omega⟩
  exact fn_ok (c := codeOf Try.f27) Try.func27 (by kernel_rfl) (rec := stack_Stack_Spillv1.calls stack_Stack_aheadv1) (fun g a h k hx => by
    rcases stack_Stack_aheadv1.look d (by omega) hx with hx | hx
    rotate_left
    · exact hx
    cases hx) (loopf := stack_Stack_Spillv1.loops) (by
    have e : loopsOf (stack_Stack_Spillv1.loops) 0 (codeOf Try.f27) = [] := by kernel_rfl
    rw [e]
    intro p hp
    cases hp) ((stack_Stack_Spillv1.eq stack_Stack_aheadv1 n1394 n1395 n1396 n1397 n1398 n1399 n1400 b1401 ns1402 k).trans hx)
theorem stack_Stack_Spillv1.look (d : Nat) (hd : 6 ≤ d) {e : Option Bool} {g : FuncId} {a : List AV} {h : Heap} {k : KR} (hx : stack_Stack_Spillv1.get stack_Stack_Spillv1 e g a h k = some true) : e = some true ∨ callK Try.prog ht d g a h k = some true := by
  unfold stack_Stack_Spillv1.get at hx
  split at hx
  · exact .inr (stack_Stack_Spillv1.ok d hd _ _ _ _ _ _ _ _ _ _ hx)
  · exact .inl hx
/-- function 35: the loop in block 0 -/
noncomputable def num_Double_L0.body (num_Double_L0 : Int → Int → Int → (Int → Bool → Option Bool) → (Option Bool) → Option Bool) (n1592 : Int) (n1593 : Int) (n1594 : Int) (k1 : Int → Bool → Option Bool) (k2 : Option Bool) : Option Bool :=
  (cond_ (decide (n1592 ≤ n1594)) (cond_ (decide (n1592 ≥ n1593)) (k1 n1592 true) (cond_ (decide (n1592 > (IntKind.wrap .i64 (n1594 - n1592)))) (k2) (num_Double_L0 (IntKind.wrap .i64 (n1592 + n1592)) n1593 n1594 k1 k2))) (k2))
noncomputable def num_Double_L0 : Nat → Int → Int → Int → (Int → Bool → Option Bool) → (Option Bool) → Option Bool
  | 0 => fun _ _ _ _ _ => none
  | n + 1 => num_Double_L0.body (num_Double_L0 n)
noncomputable def num_Double_L0.get (F : Int → Int → Int → (Int → Bool → Option Bool) → (Option Bool) → Option Bool) (e : Option Bool) (st : St) (k : KE) : Option Bool := match st with
  | ⟨sl, hp, m⟩ => match Nat.beq m 2, pickS 25 [0, 1, 2] sl, hp with
    | true, some [(.d ⟨(.int .i64), n1592⟩), (.d ⟨(.int .i64), n1593⟩), (.d ⟨(.int .i64), n1594⟩)], [] => F n1592 n1593 n1594 (fun y0 y1 => k .ret ⟨fillS 25 [6, 7] [(.d ⟨(.int .i64), y0⟩), (.d ⟨.bool, y1⟩)], [], 2⟩) (k (.exit 0) ⟨fillS 25 [] [], [], 2⟩)
    | _, _, _ => e
noncomputable def num_Double_L0.calls : RecF := fun g a h k => none
noncomputable def num_Double_L0.loops : LoopF := fun b => none
set_option maxRecDepth 100000 in
theorem num_Double_L0.step (S : Int → Int → Int → (Int → Bool → Option Bool) → (Option Bool) → Option Bool) (n1592 : Int) (n1593 : Int) (n1594 : Int) (k : KE) : execL Try.prog ht 35 (callfOf (num_Double_L0.calls)) (num_Double_L0.loops) 0 (loopAt 0 (codeOf Try.f35)) ⟨fillS 25 [0, 1, 2] [(.d ⟨(.int .i64), n1592⟩), (.d ⟨(.int .i64), n1593⟩), (.d ⟨(.int .i64), n1594⟩)], [], 2⟩ (again (num_Double_L0.get S none) (plan Try.prog (ht 35 0)) k) = num_Double_L0.body S n1592 n1593 n1594 (fun y0 y1 => k .ret ⟨fillS 25 [6, 7] [(.d ⟨(.int .i64), y0⟩), (.d ⟨.bool, y1⟩)], [], 2⟩) (k (.exit 0) ⟨fillS 25 [] [], [], 2⟩) := by kernel_rfl
theorem num_Double_L0.ok (d : Nat) (hd : 0 ≤ d) : ∀ n st k, num_Double_L0.get (num_Double_L0 n) none st k = some true → iter n (plan Try.prog (ht 35 0)) (fun st k => execK Try.prog ht 35 (callfOf (callK Try.prog ht d)) 0 (loopAt 0 (codeOf Try.f35)) st k) st k = some true :=
  loop_ok (lfn := fun n st k => num_Double_L0.get (num_Double_L0 n) none st k) (rec := num_Double_L0.calls) (fun g a h k hx => by
    cases hx) (loopf := num_Double_L0.loops) (by
    have e : loopsOf (num_Double_L0.loops) 0 (loopAt 0 (codeOf Try.f35)) = [] := by kernel_rfl
    rw [e]
    intro p hp
    cases hp) (fun st k h => by
    obtain ⟨sl, hp, m⟩ := st
    unfold num_Double_L0.get at h
    dsimp only at h
    split at h
    · have h' : (none : Option Bool) = some true := h
      cases h'
    · cases h) (fun n st k h => by
    obtain ⟨sl, hp, m⟩ := st
    unfold num_Double_L0.get at h
    dsimp only at h
    split at h
    · rename_i h1 h2
      obtain rfl := pickS_ok h2
      obtain rfl := Nat.eq_of_beq_eq_true h1
      exact (num_Double_L0.step (num_Double_L0 n) _ _ _ k).trans h
    · cases h)
theorem num_Double_L0.look {F : Int → Int → Int → (Int → Bool → Option Bool) → (Option Bool) → Option Bool} {e : Option Bool} {st : St} {k : KE} (hx : num_Double_L0.get F e st k = some true) : e = some true ∨ num_Double_L0.get F none st k = some true := by
  obtain ⟨sl, hp, m⟩ := st
  unfold num_Double_L0.get at hx ⊢
  dsimp only at hx ⊢
  split at hx
  · exact .inr hx
  · exact .inl hx
/-- function 35: sheerleg/num.Double -/
noncomputable def num_Double.body (num_Double_L0 : Int → Int → Int → (Int → Bool → Option Bool) → (Option Bool) → Option Bool) (n1589 : Int) (n1590 : Int) (n1591 : Int) (k1 : Int → Bool → Option Bool) : Option Bool :=
  (cond_ (decide (n1589 < (1 : Int))) (k1 (0 : Int) false) (num_Double_L0 n1589 n1590 n1591
  (fun n1595 b1596 => (k1 n1595 b1596))
  (k1 (0 : Int) false)))
noncomputable def num_Double (n1589 : Int) (n1590 : Int) (n1591 : Int) (k1 : Int → Bool → Option Bool) : Option Bool := num_Double.body (num_Double_L0 ROUNDS) n1589 n1590 n1591 k1
noncomputable def num_Double.get (F : Int → Int → Int → (Int → Bool → Option Bool) → Option Bool) (e : Option Bool) (g : FuncId) (a : List AV) (h : Heap) (k : KR) : Option Bool := match g, a, h with
  | 35, [(.d ⟨(.int .i64), n1589⟩), (.d ⟨(.int .i64), n1590⟩), (.d ⟨(.int .i64), n1591⟩)], [] => F n1589 n1590 n1591 (fun y0 y1 => k (.tup [(.d ⟨(.int .i64), y0⟩), (.d ⟨.bool, y1⟩)]) [])
  | _, _, _ => e
noncomputable def num_Double.calls : RecF := fun g a h k => none
noncomputable def num_Double.loops (L0 : Int → Int → Int → (Int → Bool → Option Bool) → (Option Bool) → Option Bool) : LoopF := fun b => match Nat.beq b 0 with | true => some (fun st k => (num_Double_L0.get L0 none st k)) | false => none
set_option maxRecDepth 100000 in
theorem num_Double.eq (L0 : Int → Int → Int → (Int → Bool → Option Bool) → (Option Bool) → Option Bool) (n1589 : Int) (n1590 : Int) (n1591 : Int) (k : KR) : execL Try.prog ht 35 (callfOf (num_Double.calls)) (num_Double.loops L0) 0 (codeOf Try.f35) ⟨[(.d ⟨(.int .i64), n1589⟩), (.d ⟨(.int .i64), n1590⟩), (.d ⟨(.int .i64), n1591⟩)] ++ List.replicate (Try.f35.ntmps - ([(.d ⟨(.int .i64), n1589⟩), (.d ⟨(.int .i64), n1590⟩), (.d ⟨(.int .i64), n1591⟩)] : List AV).length) .undef, [], 2⟩ (leave Try.prog Try.f35 k) = num_Double.body L0 n1589 n1590 n1591 (fun y0 y1 => k (.tup [(.d ⟨(.int .i64), y0⟩), (.d ⟨.bool, y1⟩)]) []) := by kernel_rfl
theorem num_Double.ok (d : Nat) (hd : 1 ≤ d) (n1589 : Int) (n1590 : Int) (n1591 : Int) (k : KR) (hx : num_Double n1589 n1590 n1591 (fun y0 y1 => k (.tup [(.d ⟨(.int .i64), y0⟩), (.d ⟨.bool, y1⟩)]) []) = some true) : callK Try.prog ht d 35 [(.d ⟨(.int .i64), n1589⟩), (.d ⟨(.int .i64), n1590⟩), (.d ⟨(.int .i64), n1591⟩)] [] k = some true := by
  obtain ⟨d, rfl⟩ : ∃ e, d = e + 1 := ⟨d - 1, by omega⟩
  exact fn_ok (c := codeOf Try.f35) Try.func35 (by kernel_rfl) (rec := num_Double.calls) (fun g a h k hx => by
    cases hx) (loopf := num_Double.loops (num_Double_L0 ROUNDS)) (by
    have e : loopsOf (num_Double.loops (num_Double_L0 ROUNDS)) 0 (codeOf Try.f35) = [(0, loopAt 0 (codeOf Try.f35))] := by kernel_rfl
    rw [e]
    intro p hp
    simp only [List.mem_cons, List.not_mem_nil, or_false] at hp
    rcases hp with rfl
    · refine loopRef_of (callf := callfOf (callK Try.prog ht d)) (callfOf_ref (callK_mono d)) fun lf st k hb hx => ?_
      cases hb
      rcases num_Double_L0.look hx with hx | hx
      rotate_left
      · exact num_Double_L0.ok d (by omega) _ _ _ hx
      cases hx) ((num_Double.eq (num_Double_L0 ROUNDS) n1589 n1590 n1591 k).trans hx)
theorem num_Double.look (d : Nat) (hd : 1 ≤ d) {e : Option Bool} {g : FuncId} {a : List AV} {h : Heap} {k : KR} (hx : num_Double.get num_Double e g a h k = some true) : e = some true ∨ callK Try.prog ht d g a h k = some true := by
  unfold num_Double.get at hx
  split at hx
  · exact .inr (num_Double.ok d hd _ _ _ _ hx)
  · exact .inl hx
/-- function 51: (*sheerleg/memory.Memory).Copy$1 -/
noncomputable def memory_Memory_Copyfn1.body (n1609 : Int) (b1610 : Bool) (ns1611 : List Int) (n1612 : Int) (k1 : Bool → Bool → (List Int) → Int → Option Bool) : Option Bool :=
  (cond_ (decide (n1609 ≥ (0 : Int))) (cond_ (decide (n1609 ≤ (((List.length ns1611) : Nat) : Int))) (k1 (decide (n1612 ≤ (IntKind.wrap .i64 ((((List.length ns1611) : Nat) : Int) - n1609)))) b1610 ns1611 n1612) (k1 false b1610 ns1611 n1612)) (k1 false b1610 ns1611 n1612))
noncomputable def memory_Memory_Copyfn1 (n1609 : Int) (b1610 : Bool) (ns1611 : List Int) (n1612 : Int) (k1 : Bool → Bool → (List Int) → Int → Option Bool) : Option Bool := memory_Memory_Copyfn1.body n1609 b1610 ns1611 n1612 k1
noncomputable def memory_Memory_Copyfn1.get (F : Int → Bool → (List Int) → Int → (Bool → Bool → (List Int) → Int → Option Bool) → Option Bool) (e : Option Bool) (g : FuncId) (a : List AV) (h : Heap) (k : KR) : Option Bool := match g, a, h with
  | 51, [(.d ⟨(.int .i64), n1609⟩), (.ptr [0, 0] 0 0), (.ptr [0, 3] 0 0)], [([0, 0], ⟨28, 1, (.mix [(.ptr [0, 1] 0 0)])⟩), ([0, 1], ⟨61, 2, (.mix [(.agg [(.ref [0, 2]), (.d ⟨.bool, b1610⟩)])])⟩), ([0, 2], ⟨2, 1, (.data (.int .i64) ns1611)⟩), ([0, 3], ⟨3, 1, (.data (.int .i64) [n1612])⟩)] => F n1609 b1610 ns1611 n1612 (fun y0 y1 y2 y3 => k (.d ⟨.bool, y0⟩) [([0, 0], ⟨28, 1, (.mix [(.ptr [0, 1] 0 0)])⟩), ([0, 1], ⟨61, 2, (.mix [(.agg [(.ref [0, 2]), (.d ⟨.bool, y1⟩)])])⟩), ([0, 2], ⟨2, 1, (.data (.int .i64) y2)⟩), ([0, 3], ⟨3, 1, (.data (.int .i64) [y3])⟩)])
  | _, _, _ => e
noncomputable def memory_Memory_Copyfn1.calls : RecF := fun g a h k => none
noncomputable def memory_Memory_Copyfn1.loops : LoopF := fun b => none
set_option maxRecDepth 100000 in
theorem memory_Memory_Copyfn1.eq (n1609 : Int) (b1610 : Bool) (ns1611 : List Int) (n1612 : Int) (k : KR) : execL Try.prog ht 51 (callfOf (memory_Memory_Copyfn1.calls)) (memory_Memory_Copyfn1.loops) 0 (codeOf Try.f51) ⟨[(.d ⟨(.int .i64), n1609⟩), (.ptr [0, 0] 0 0), (.ptr [0, 3] 0 0)] ++ List.replicate (Try.f51.ntmps - ([(.d ⟨(.int .i64), n1609⟩), (.ptr [0, 0] 0 0), (.ptr [0, 3] 0 0)] : List AV).length) .undef, [([0, 0], ⟨28, 1, (.mix [(.ptr [0, 1] 0 0)])⟩), ([0, 1], ⟨61, 2, (.mix [(.agg [(.ref [0, 2]), (.d ⟨.bool, b1610⟩)])])⟩), ([0, 2], ⟨2, 1, (.data (.int .i64) ns1611)⟩), ([0, 3], ⟨3, 1, (.data (.int .i64) [n1612])⟩)], 2⟩ (leave Try.prog Try.f51 k) = memory_Memory_Copyfn1.body n1609 b1610 ns1611 n1612 (fun y0 y1 y2 y3 => k (.d ⟨.bool, y0⟩) [([0, 0], ⟨28, 1, (.mix [(.ptr [0, 1] 0 0)])⟩), ([0, 1], ⟨61, 2, (.mix [(.agg [(.ref [0, 2]), (.d ⟨.bool, y1⟩)])])⟩), ([0, 2], ⟨2, 1, (.data (.int .i64) y2)⟩), ([0, 3], ⟨3, 1, (.data (.int .i64) [y3])⟩)]) := by kernel_rfl
theorem memory_Memory_Copyfn1.ok (d : Nat) (hd : 1 ≤ d) (n1609 : Int) (b1610 : Bool) (ns1611 : List Int) (n1612 : Int) (k : KR) (hx : memory_Memory_Copyfn1 n1609 b1610 ns1611 n1612 (fun y0 y1 y2 y3 => k (.d ⟨.bool, y0⟩) [([0, 0], ⟨28, 1, (.mix [(.ptr [0, 1] 0 0)])⟩), ([0, 1], ⟨61, 2, (.mix [(.agg [(.ref [0, 2]), (.d ⟨.bool, y1⟩)])])⟩), ([0, 2], ⟨2, 1, (.data (.int .i64) y2)⟩), ([0, 3], ⟨3, 1, (.data (.int .i64) [y3])⟩)]) = some true) : callK Try.prog ht d 51 [(.d ⟨(.int .i64), n1609⟩), (.ptr [0, 0] 0 0), (.ptr [0, 3] 0 0)] [([0, 0], ⟨28, 1, (.mix [(.ptr [0, 1] 0 0)])⟩), ([0, 1], ⟨61, 2, (.mix [(.agg [(.ref [0, 2]), (.d ⟨.bool, b1610⟩)])])⟩), ([0, 2], ⟨2, 1, (.data (.int .i64) ns1611)⟩), ([0, 3], ⟨3, 1, (.data (.int .i64) [n1612])⟩)] k = some true := by
  obtain ⟨d, rfl⟩ : ∃ e, d = e + 1 := ⟨d - 1, by omega⟩
  exact fn_ok (c := codeOf Try.f51) Try.func51 (by kernel_rfl) (rec := memory_Memory_Copyfn1.calls) (fun g a h k hx => by
    cases hx) (loopf := memory_Memory_Copyfn1.loops) (by
    have e : loopsOf (memory_Memory_Copyfn1.loops) 0 (codeOf Try.f51) = [] := by kernel_rfl
    rw [e]
    intro p hp
    cases hp) ((memory_Memory_Copyfn1.eq n1609 b1610 ns1611 n1612 k).trans hx)
theorem memory_Memory_Copyfn1.look (d : Nat) (hd : 1 ≤ d) {e : Option Bool} {g : FuncId} {a : List AV} {h : Heap} {k : KR} (hx : memory_Memory_Copyfn1.get memory_Memory_Copyfn1 e g a h k = some true) : e = some true ∨ callK Try.prog ht d g a h k = some true := by
  unfold memory_Memory_Copyfn1.get at hx
  split at hx
  · exact .inr (memory_Memory_Copyfn1.ok d hd _ _ _ _ _ hx)
  · exact .inl hx
/-- function 36: (*sheerleg/memory.Memory).Copy -/
noncomputable def memory_Memory_Copy.body (memory_Memory_Copyfn1 : Int → Bool → (List Int) → Int → (Bool → Bool → (List Int) → Int → Option Bool) → Option Bool) (n1604 : Int) (n1605 : Int) (n1606 : Int) (b1607 : Bool) (ns1608 : List Int) (k1 : Bool → Bool → (List Int) → Option Bool) : Option Bool :=
  (cond_ (! (! b1607)) (cond_ (! (decide (n1606 < (0 : Int)))) (memory_Memory_Copyfn1 n1604 b1607 ns1608 n1606
  (fun b1613 b1614 ns1615 n1616 => (cond_ (! (! b1613)) (memory_Memory_Copyfn1 n1605 b1614 ns1615 n1616
  (fun b1617 b1618 ns1619 n1620 => (cond_ (! b1617) (k1 false b1618 ns1619) (cond_ ((decide ((0 : Int) ≤ n1604)) && (decide (n1604 ≤ (((List.length ns1619) : Nat) : Int)))) (cond_ (((decide ((0 : Int) ≤ n1605)) && (decide (n1605 ≤ (IntKind.wrap .i64 (n1605 + n1620))))) && (decide ((IntKind.wrap .i64 (n1605 + n1620)) ≤ (((List.length ns1619) : Nat) : Int)))) (k1 true b1618 (setCells ns1619 (Int.toNat n1604) (List.take ((List.length ns1619) - (Int.toNat n1604)) (List.take (Int.toNat ((IntKind.wrap .i64 (n1605 + n1620)) - n1605)) (List.drop (Int.toNat n1605) ns1619))))) none) none)))) (k1 false b1614 ns1615)))) (k1 false b1607 ns1608)) (k1 false b1607 ns1608))
noncomputable def memory_Memory_Copy (n1604 : Int) (n1605 : Int) (n1606 : Int) (b1607 : Bool) (ns1608 : List Int) (k1 : Bool → Bool → (List Int) → Option Bool) : Option Bool := memory_Memory_Copy.body memory_Memory_Copyfn1 n1604 n1605 n1606 b1607 ns1608 k1
noncomputable def memory_Memory_Copy.get (F : Int → Int → Int → Bool → (List Int) → (Bool → Bool → (List Int) → Option Bool) → Option Bool) (e : Option Bool) (g : FuncId) (a : List AV) (h : Heap) (k : KR) : Option Bool := match g, a, h with
  | 36, [(.ptr [0, 0] 0 0), (.d ⟨(.int .i64), n1604⟩), (.d ⟨(.int .i64), n1605⟩), (.d ⟨(.int .i64), n1606⟩)], [([0, 0], ⟨61, 2, (.mix [(.agg [(.ref [0, 1]), (.d ⟨.bool, b1607⟩)])])⟩), ([0, 1], ⟨2, 1, (.data (.int .i64) ns1608)⟩)] => F n1604 n1605 n1606 b1607 ns1608 (fun y0 y1 y2 => k (.d ⟨.bool, y0⟩) [([0, 0], ⟨61, 2, (.mix [(.agg [(.ref [0, 1]), (.d ⟨.bool, y1⟩)])])⟩), ([0, 1], ⟨2, 1, (.data (.int .i64) y2)⟩)])
  | _, _, _ => e
noncomputable def memory_Memory_Copy.calls (F0 : Int → Bool → (List Int) → Int → (Bool → Bool → (List Int) → Int → Option Bool) → Option Bool) : RecF := fun g a h k => (memory_Memory_Copyfn1.get F0 none g a h k)
noncomputable def memory_Memory_Copy.loops : LoopF := fun b => none
set_option maxRecDepth 100000 in
theorem memory_Memory_Copy.eq (F0 : Int → Bool → (List Int) → Int → (Bool → Bool → (List Int) → Int → Option Bool) → Option Bool) (n1604 : Int) (n1605 : Int) (n1606 : Int) (b1607 : Bool) (ns1608 : List Int) (k : KR) : execL Try.prog ht 36 (callfOf (memory_Memory_Copy.calls F0)) (memory_Memory_Copy.loops) 0 (codeOf Try.f36) ⟨[(.ptr [0, 0] 0 0), (.d ⟨(.int .i64), n1604⟩), (.d ⟨(.int .i64), n1605⟩), (.d ⟨(.int .i64), n1606⟩)] ++ List.replicate (Try.f36.ntmps - ([(.ptr [0, 0] 0 0), (.d ⟨(.int .i64), n1604⟩), (.d ⟨(.int .i64), n1605⟩), (.d ⟨(.int .i64), n1606⟩)] : List AV).length) .undef, [([0, 0], ⟨61, 2, (.mix [(.agg [(.ref [0, 1]), (.d ⟨.bool, b1607⟩)])])⟩), ([0, 1], ⟨2, 1, (.data (.int .i64) ns1608)⟩)], 2⟩ (leave Try.prog Try.f36 k) = memory_Memory_Copy.body F0 n1604 n1605 n1606 b1607 ns1608 (fun y0 y1 y2 => k (.d ⟨.bool, y0⟩) [([0, 0], ⟨61, 2, (.mix [(.agg [(.ref [0, 1]), (.d ⟨.bool, y1⟩)])])⟩), ([0, 1], ⟨2, 1, (.data (.int .i64) y2)⟩)]) := by kernel_rfl
theorem memory_Memory_Copy.ok (d : Nat) (hd : 2 ≤ d) (n1604 : Int) (n1605 : Int) (n1606 : Int) (b1607 : Bool) (ns1608 : List Int) (k : KR) (hx : memory_Memory_Copy n1604 n1605 n1606 b1607 ns1608 (fun y0 y1 y2 => k (.d ⟨.bool, y0⟩) [([0, 0], ⟨61, 2, (.mix [(.agg [(.ref [0, 1]), (.d ⟨.bool, y1⟩)])])⟩), ([0, 1], ⟨2, 1, (.data (.int .i64) y2)⟩)]) = some true) : callK Try.prog ht d 36 [(.ptr [0, 0] 0 0), (.d ⟨(.int .i64), n1604⟩), (.d ⟨(.int .i64), n1605⟩), (.d ⟨(.int .i64), n1606⟩)] [([0, 0], ⟨61, 2, (.mix [(.agg [(.ref [0, 1]), (.d ⟨.bool, b1607⟩)])])⟩), ([0, 1], ⟨2, 1, (.data (.int .i64) ns1608)⟩)] k = some true := by
  obtain ⟨d, rfl⟩ : ∃ e, d = e + 1 := ⟨d - 1, by omega⟩
  exact fn_ok (c := codeOf Try.f36) Try.func36 (by kernel_rfl) (rec := memory_Memory_Copy.calls memory_Memory_Copyfn1) (fun g a h k hx => by
    rcases memory_Memory_Copyfn1.look d (by omega) hx with hx | hx
    rotate_left
    · exact hx
    cases hx) (loopf := memory_Memory_Copy.loops) (by
    have e : loopsOf (memory_Memory_Copy.loops) 0 (codeOf Try.f36) = [] := by kernel_rfl
    rw [e]
    intro p hp
    cases hp) ((memory_Memory_Copy.eq memory_Memory_Copyfn1 n1604 n1605 n1606 b1607 ns1608 k).trans hx)
theorem memory_Memory_Copy.look (d : Nat) (hd : 2 ≤ d) {e : Option Bool} {g : FuncId} {a : List AV} {h : Heap} {k : KR} (hx : memory_Memory_Copy.get memory_Memory_Copy e g a h k = some true) : e = some true ∨ callK Try.prog ht d g a h k = some true := by
  unfold memory_Memory_Copy.get at hx
  split at hx
  · exact .inr (memory_Memory_Copy.ok d hd _ _ _ _ _ _ hx)
  · exact .inl hx
/-- function 11: (*sheerleg/stack.Stack).Grow -/
noncomputable def stack_Stack_Growv1.body (stack_Stack_livev1 : Int → Int → Int → Int → Int → Int → Int → Bool → (List Int) → (Bool → Int → Int → Int → Int → Int → Int → Int → Bool → (List Int) → Option Bool) → Option Bool) (stack_Stack_Idv1 : Int → Int → Int → Int → Int → Int → Int → Bool → (List Int) → (Int → Int → Int → Int → Int → Int → Int → Int → Bool → (List Int) → Option Bool) → Option Bool) (num_Double : Int → Int → Int → (Int → Bool → Option Bool) → Option Bool) (memory_Memory_Grow : Int → Bool → (List Int) → (Int → Bool → Bool → (List Int) → Option Bool) → (Int → Bool → Bool → (List Int) → Option Bool) → Option Bool) (stack_segment : Int → Int → ((Int × Int × Int × Unit) → Option Bool) → Option Bool) (memory_Memory_Copy : Int → Int → Int → Bool → (List Int) → (Bool → Bool → (List Int) → Option Bool) → Option Bool) (n1559 : Int) (n1560 : Int) (n1561 : Int) (n1562 : Int) (n1563 : Int) (n1564 : Int) (n1565 : Int) (n1566 : Int) (b1567 : Bool) (ns1568 : List Int) (k1 : Bool → Int → Int → Int → Int → Int → Int → Int → Bool → (List Int) → Option Bool) (k2 : Bool → Int → Int → Int → Int → Int → Int → Int → Bool → (List Int) → Option Bool) : Option Bool :=
  (stack_Stack_livev1 n1560 n1561 n1562 n1563 n1564 n1565 n1566 b1567 ns1568
  (fun b1569 n1570 n1571 n1572 n1573 n1574 n1575 n1576 b1577 ns1578 => (cond_ (! (! b1569)) (cond_ (decide (n1559 > (1048576 : Int))) (k1 false n1570 n1571 n1572 n1573 n1574 n1575 n1576 b1577 ns1578) (stack_Stack_Idv1 n1570 n1571 n1572 n1573 n1574 n1575 n1576 b1577 ns1578
  (fun n1579 n1580 n1581 n1582 n1583 n1584 n1585 n1586 b1587 ns1588 => (num_Double (IntKind.wrap .i64 ((2 : Int) * (IntKind.wrap .i64 (n1582 - n1580)))) (IntKind.wrap .i64 ((IntKind.wrap .i64 (n1579 + (if (n1559 < (0 : Int)) then (0 : Int) else n1559))) + (64 : Int))) (4194304 : Int)
  (fun n1597 b1598 => (cond_ (! (! b1598)) (cond_ (decide (n1597 > (IntKind.wrap .i64 (n1585 - n1584)))) (k1 false n1580 n1581 n1582 n1583 n1584 n1585 n1586 b1587 ns1588) (memory_Memory_Grow n1597 b1587 ns1588
  (fun n1599 b1600 b1601 ns1602 => (cond_ (! b1600) (k1 false n1580 n1581 n1582 n1583 n1584 n1585 n1586 b1601 ns1602) (stack_segment n1599 n1597
  (fun t1603 => (memory_Memory_Copy (IntKind.wrap .i64 (t1603.2.2.1 - n1579)) n1583 n1579 b1601 ns1602
  (fun b1621 b1622 ns1623 => (k1 true t1603.1 t1603.2.1 t1603.2.2.1 (IntKind.wrap .i64 (t1603.2.2.1 - n1579)) (IntKind.wrap .i64 (n1584 + n1597)) n1585 n1586 b1622 ns1623)))))))
  (fun n1624 b1625 b1626 ns1627 => (cond_ (! b1625) (k2 false n1580 n1581 n1582 n1583 n1584 n1585 n1586 b1626 ns1627) (stack_segment n1624 n1597
  (fun t1628 => (memory_Memory_Copy (IntKind.wrap .i64 (t1628.2.2.1 - n1579)) n1583 n1579 b1626 ns1627
  (fun b1629 b1630 ns1631 => (k2 true t1628.1 t1628.2.1 t1628.2.2.1 (IntKind.wrap .i64 (t1628.2.2.1 - n1579)) (IntKind.wrap .i64 (n1584 + n1597)) n1585 n1586 b1630 ns1631))))))))) (k1 false n1580 n1581 n1582 n1583 n1584 n1585 n1586 b1587 ns1588))))))) (k1 false n1570 n1571 n1572 n1573 n1574 n1575 n1576 b1577 ns1578))))
noncomputable def stack_Stack_Growv1 (n1559 : Int) (n1560 : Int) (n1561 : Int) (n1562 : Int) (n1563 : Int) (n1564 : Int) (n1565 : Int) (n1566 : Int) (b1567 : Bool) (ns1568 : List Int) (k1 : Bool → Int → Int → Int → Int → Int → Int → Int → Bool → (List Int) → Option Bool) (k2 : Bool → Int → Int → Int → Int → Int → Int → Int → Bool → (List Int) → Option Bool) : Option Bool := stack_Stack_Growv1.body stack_Stack_livev1 stack_Stack_Idv1 num_Double memory_Memory_Grow stack_segment memory_Memory_Copy n1559 n1560 n1561 n1562 n1563 n1564 n1565 n1566 b1567 ns1568 k1 k2
noncomputable def stack_Stack_Growv1.get (F : Int → Int → Int → Int → Int → Int → Int → Int → Bool → (List Int) → (Bool → Int → Int → Int → Int → Int → Int → Int → Bool → (List Int) → Option Bool) → (Bool → Int → Int → Int → Int → Int → Int → Int → Bool → (List Int) → Option Bool) → Option Bool) (e : Option Bool) (g : FuncId) (a : List AV) (h : Heap) (k : KR) : Option Bool := match g, a, h with
  | 11, [(.ptr [0, 0] 0 0), (.d ⟨(.int .i64), n1559⟩)], [([0, 0], ⟨53, 8, (.mix [(.agg [(.ptr [0, 1] 0 0), (.d ⟨(.int .i64), n1560⟩), (.d ⟨(.int .i64), n1561⟩), (.d ⟨(.int .i64), n1562⟩), (.d ⟨(.int .i64), n1563⟩), (.d ⟨(.int .i64), n1564⟩), (.d ⟨(.int .i64), n1565⟩), (.d ⟨(.int .i64), n1566⟩)])])⟩), ([0, 1], ⟨61, 2, (.mix [(.agg [(.ref [0, 2]), (.d ⟨.bool, b1567⟩)])])⟩), ([0, 2], ⟨2, 1, (.data (.int .i64) ns1568)⟩)] => F n1559 n1560 n1561 n1562 n1563 n1564 n1565 n1566 b1567 ns1568 (fun y0 y1 y2 y3 y4 y5 y6 y7 y8 y9 => k (.d ⟨.bool, y0⟩) [([0, 0], ⟨53, 8, (.mix [(.agg [(.ptr [0, 1] 0 0), (.d ⟨(.int .i64), y1⟩), (.d ⟨(.int .i64), y2⟩), (.d ⟨(.int .i64), y3⟩), (.d ⟨(.int .i64), y4⟩), (.d ⟨(.int .i64), y5⟩), (.d ⟨(.int .i64), y6⟩), (.d ⟨(.int .i64), y7⟩)])])⟩), ([0, 1], ⟨61, 2, (.mix [(.agg [(.ref [0, 2]), (.d ⟨.bool, y8⟩)])])⟩), ([0, 2], ⟨2, 1, (.data (.int .i64) y9)⟩)]) (fun y0 y1 y2 y3 y4 y5 y6 y7 y8 y9 => k (.d ⟨.bool, y0⟩) [([0, 0], ⟨53, 8, (.mix [(.agg [(.ptr [0, 1] 0 0), (.d ⟨(.int .i64), y1⟩), (.d ⟨(.int .i64), y2⟩), (.d ⟨(.int .i64), y3⟩), (.d ⟨(.int .i64), y4⟩), (.d ⟨(.int .i64), y5⟩), (.d ⟨(.int .i64), y6⟩), (.d ⟨(.int .i64), y7⟩)])])⟩), ([0, 1], ⟨61, 2, (.mix [(.agg [(.ref [1, 0]), (.d ⟨.bool, y8⟩)])])⟩), ([1, 0], ⟨2, 1, (.data (.int .i64) y9)⟩)])
  | _, _, _ => e
noncomputable def stack_Stack_Growv1.calls (F0 : Int → Int → Int → Int → Int → Int → Int → Bool → (List Int) → (Bool → Int → Int → Int → Int → Int → Int → Int → Bool → (List Int) → Option Bool) → Option Bool) (F1 : Int → Int → Int → Int → Int → Int → Int → Bool → (List Int) → (Int → Int → Int → Int → Int → Int → Int → Int → Bool → (List Int) → Option Bool) → Option Bool) (F2 : Int → Int → Int → (Int → Bool → Option Bool) → Option Bool) (F3 : Int → Bool → (List Int) → (Int → Bool → Bool → (List Int) → Option Bool) → (Int → Bool → Bool → (List Int) → Option Bool) → Option Bool) (F4 : Int → Int → ((Int × Int × Int × Unit) → Option Bool) → Option Bool) (F5 : Int → Int → Int → Bool → (List Int) → (Bool → Bool → (List Int) → Option Bool) → Option Bool) : RecF := fun g a h k => (stack_Stack_livev1.get F0 (stack_Stack_Idv1.get F1 (num_Double.get F2 (memory_Memory_Grow.get F3 (stack_segment.get F4 (memory_Memory_Copy.get F5 none g a h k) g a h k) g a h k) g a h k) g a h k) g a h k)
noncomputable def stack_Stack_Growv1.loops : LoopF := fun b => none
set_option maxRecDepth 100000 in
theorem stack_Stack_Growv1.eq (F0 : Int → Int → Int → Int → Int → Int → Int → Bool → (List Int) → (Bool → Int → Int → Int → Int → Int → Int → Int → Bool → (List Int) → Option Bool) → Option Bool) (F1 : Int → Int → Int → Int → Int → Int → Int → Bool → (List Int) → (Int → Int → Int → Int → Int → Int → Int → Int → Bool → (List Int) → Option Bool) → Option Bool) (F2 : Int → Int → Int → (Int → Bool → Option Bool) → Option Bool) (F3 : Int → Bool → (List Int) → (Int → Bool → Bool → (List Int) → Option Bool) → (Int → Bool → Bool → (List Int) → Option Bool) → Option Bool) (F4 : Int → Int → ((Int × Int × Int × Unit) → Option Bool) → Option Bool) (F5 : Int → Int → Int → Bool → (List Int) → (Bool → Bool → (List Int) → Option Bool) → Option Bool) (n1559 : Int) (n1560 : Int) (n1561 : Int) (n1562 : Int) (n1563 : Int) (n1564 : Int) (n1565 : Int) (n1566 : Int) (b1567 : Bool) (ns1568 : List Int) (k : KR) : execL Try.prog ht 11 (callfOf (stack_Stack_Growv1.calls F0 F1 F2 F3 F4 F5)) (stack_Stack_Growv1.loops) 0 (codeOf Try.f11) ⟨[(.ptr [0, 0] 0 0), (.d ⟨(.int .i64), n1559⟩)] ++ List.replicate (Try.f11.ntmps - ([(.ptr [0, 0] 0 0), (.d ⟨(.int .i64), n1559⟩)] : List AV).length) .undef, [([0, 0], ⟨53, 8, (.mix [(.agg [(.ptr [0, 1] 0 0), (.d ⟨(.int .i64), n1560⟩), (.d ⟨(.int .i64), n1561⟩), (.d ⟨(.int .i64), n1562⟩), (.d ⟨(.int .i64), n1563⟩), (.d ⟨(.int .i64), n1564⟩), (.d ⟨(.int .i64), n1565⟩), (.d ⟨(.int .i64), n1566⟩)])])⟩), ([0, 1], ⟨61, 2, (.mix [(.agg [(.ref [0, 2]), (.d ⟨.bool, b1567⟩)])])⟩), ([0, 2], ⟨2, 1, (.data (.int .i64) ns1568)⟩)], 2⟩ (leave Try.prog Try.f11 k) = stack_Stack_Growv1.body F0 F1 F2 F3 F4 F5 n1559 n1560 n1561 n1562 n1563 n1564 n1565 n1566 b1567 ns1568 (fun y0 y1 y2 y3 y4 y5 y6 y7 y8 y9 => k (.d ⟨.bool, y0⟩) [([0, 0], ⟨53, 8, (.mix [(.agg [(.ptr [0, 1] 0 0), (.d ⟨(.int .i64), y1⟩), (.d ⟨(.int .i64), y2⟩), (.d ⟨(.int .i64), y3⟩), (.d ⟨(.int .i64), y4⟩), (.d ⟨(.int .i64), y5⟩), (.d ⟨(.int .i64), y6⟩), (.d ⟨(.int .i64), y7⟩)])])⟩), ([0, 1], ⟨61, 2, (.mix [(.agg [(.ref [0, 2]), (.d ⟨.bool, y8⟩)])])⟩), ([0, 2], ⟨2, 1, (.data (.int .i64) y9)⟩)]) (fun y0 y1 y2 y3 y4 y5 y6 y7 y8 y9 => k (.d ⟨.bool, y0⟩) [([0, 0], ⟨53, 8, (.mix [(.agg [(.ptr [0, 1] 0 0), (.d ⟨(.int .i64), y1⟩), (.d ⟨(.int .i64), y2⟩), (.d ⟨(.int .i64), y3⟩), (.d ⟨(.int .i64), y4⟩), (.d ⟨(.int .i64), y5⟩), (.d ⟨(.int .i64), y6⟩), (.d ⟨(.int .i64), y7⟩)])])⟩), ([0, 1], ⟨61, 2, (.mix [(.agg [(.ref [1, 0]), (.d ⟨.bool, y8⟩)])])⟩), ([1, 0], ⟨2, 1, (.data (.int .i64) y9)⟩)]) := by kernel_rfl
theorem stack_Stack_Growv1.ok (d : Nat) (hd : 4 ≤ d) (n1559 : Int) (n1560 : Int) (n1561 : Int) (n1562 : Int) (n1563 : Int) (n1564 : Int) (n1565 : Int) (n1566 : Int) (b1567 : Bool) (ns1568 : List Int) (k : KR) (hx : stack_Stack_Growv1 n1559 n1560 n1561 n1562 n1563 n1564 n1565 n1566 b1567 ns1568 (fun y0 y1 y2 y3 y4 y5 y6 y7 y8 y9 => k (.d ⟨.bool, y0⟩) [([0, 0], ⟨53, 8, (.mix [(.agg [(.ptr [0, 1] 0 0), (.d ⟨(.int .i64), y1⟩), (.d ⟨(.int .i64), y2⟩), (.d ⟨(.int .i64), y3⟩), (.d ⟨(.int .i64), y4⟩), (.d ⟨(.int .i64), y5⟩), (.d ⟨(.int .i64), y6⟩), (.d ⟨(.int .i64), y7⟩)])])⟩), ([0, 1], ⟨61, 2, (.mix [(.agg [(.ref [0, 2]), (.d ⟨.bool, y8⟩)])])⟩), ([0, 2], ⟨2, 1, (.data (.int .i64) y9)⟩)]) (fun y0 y1 y2 y3 y4 y5 y6 y7 y8 y9 => k (.d ⟨.bool, y0⟩) [([0, 0], ⟨53, 8, (.mix [(.agg [(.ptr [0, 1] 0 0), (.d ⟨(.int .i64), y1⟩), (.d ⟨(.int .i64), y2⟩), (.d ⟨(.int .i64), y3⟩), (.d ⟨(.int .i64), y4⟩), (.d ⟨(.int .i64), y5⟩), (.d ⟨(.int .i64), y6⟩), (.d ⟨(.int .i64), y7⟩)])])⟩), ([0, 1], ⟨61, 2, (.mix [(.agg [(.ref [1, 0]), (.d ⟨.bool, y8⟩)])])⟩), ([1, 0], ⟨2, 1, (.data (.int .i64) y9)⟩)]) = some true) : callK Try.prog ht d 11 [(.ptr [0, 0] 0 0), (.d ⟨(.int .i64), n1559⟩)] [([0, 0], ⟨53, 8, (.mix [(.agg [(.ptr [0, 1] 0 0), (.d ⟨(.int .i64), n1560⟩), (.d ⟨(.int .i64), n1561⟩), (.d ⟨(.int .i64), n1562⟩), (.d ⟨(.int .i64), n1563⟩), (.d ⟨(.int .i64), n1564⟩), (.d ⟨(.int .i64), n1565⟩), (.d ⟨(.int .i64), n1566⟩)])])⟩), ([0, 1], ⟨61, 2, (.mix [(.agg [(.ref [0, 2]), (.d ⟨.bool, b1567⟩)])])⟩), ([0, 2], ⟨2, 1, (.data (.int .i64) ns1568)⟩)] k = some true := by
  obtain ⟨d, rfl⟩ : ∃ e, d = e + 1 := ⟨d - 1, by omega⟩
  exact fn_ok (c := codeOf Try.f11) Try.func11 (by kernel_rfl) (rec := stack_Stack_Growv1.calls stack_Stack_livev1 stack_Stack_Idv1 num_Double memory_Memory_Grow stack_segment memory_Memory_Copy) (fun g a h k hx => by
    rcases stack_Stack_livev1.look d (by omega) hx with hx | hx
    rotate_left
    · exact hx
    rcases stack_Stack_Idv1.look d (by omega) hx with hx | hx
    rotate_left
    · exact hx
    rcases num_Double.look d (by omega) hx with hx | hx
    rotate_left
    · exact hx
    rcases memory_Memory_Grow.look d (by omega) hx with hx | hx
    rotate_left
    · exact hx
    rcases stack_segment.look d (by omega) hx with hx | hx
    rotate_left
    · exact hx
    rcases memory_Memory_Copy.look d (by omega) hx with hx | hx
    rotate_left
    · exact hx
    cases hx) (loopf := stack_Stack_Growv1.loops) (by
    have e : loopsOf (stack_Stack_Growv1.loops) 0 (codeOf Try.f11) = [] := by kernel_rfl
    rw [e]
    intro p hp
    cases hp) ((stack_Stack_Growv1.eq stack_Stack_livev1 stack_Stack_Idv1 num_Double memory_Memory_Grow stack_segment memory_Memory_Copy n1559 n1560 n1561 n1562 n1563 n1564 n1565 n1566 b1567 ns1568 k).trans hx)
theorem stack_Stack_Growv1.look (d : Nat) (hd : 4 ≤ d) {e : Option Bool} {g : FuncId} {a : List AV} {h : Heap} {k : KR} (hx : stack_Stack_Growv1.get stack_Stack_Growv1 e g a h k = some true) : e = some true ∨ callK Try.prog ht d g a h k = some true := by
  unfold stack_Stack_Growv1.get at hx
  split at hx
  · exact .inr (stack_Stack_Growv1.ok d hd _ _ _ _ _ _ _ _ _ _ _ hx)
  · exact .inl hx
end Go.Proofs.Ytefhednjdlblpaa.l
