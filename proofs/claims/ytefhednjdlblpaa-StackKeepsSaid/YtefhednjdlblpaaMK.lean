/- What the functions come to that K reaches, as plain functions; written by a program of this work, each told by Lean. -/
import Derived.Test.YtefhednjdlblpaaA3
import Derived.Test.YtefhednjdlblpaaChecked
namespace Go.Proofs.Ytefhednjdlblpaa.k
open Go.AX
set_option linter.unusedVariables false
set_option maxRecDepth 100000
set_option maxHeartbeats 4000000
def ht : Hints := hintsOf [(3, [(0, ⟨[0, 1, 5, 7], []⟩), (2, ⟨[0, 5, 8], []⟩), (2000000, ⟨[4], []⟩), (1000000, ⟨[0, 5], []⟩), (1000002, ⟨[5], []⟩)]),
  (35, [(0, ⟨[0, 1, 2], []⟩), (2000000, ⟨[6, 7], []⟩), (1000000, ⟨[], []⟩)])]
/-- function 7: sheerleg/sheerleglaw39.known, all of it at once -/
def law39_known (k1 : Bool → Option Bool) : Option Bool := k1 true
def law39_known.get (F : (Bool → Option Bool) → Option Bool) (e : Option Bool) (g : FuncId) (a : List AV) (h : Heap) (k : KR) : Option Bool := match g, a, h with
  | 7, [], [] => F (fun y => k (.d ⟨.bool, y⟩) [])
  | _, _, _ => e
set_option maxRecDepth 100000 in
theorem law39_known.all (k : KR) : callK Try.prog ht 60 7 [] [] k = k (.d ⟨.bool, true⟩) [] := by kernel_rfl
theorem law39_known.look (d : Nat) (hd : 60 ≤ d) {e : Option Bool} {g : FuncId} {a : List AV} {h : Heap} {k : KR} (hx : law39_known.get law39_known e g a h k = some true) : e = some true ∨ callK Try.prog ht d g a h k = some true := by
  unfold law39_known.get at hx
  split at hx
  · exact .inr (callK_le hd _ _ _ _ _ (fun _ _ h => h) ((law39_known.all _).trans hx))
  · exact .inl hx
/-- function 31: slices.Clone[[]int64,int64] -/
noncomputable def slices_Clone_int64_int64.body (k1 : (List Int) → Option Bool) : Option Bool :=
  (k1 [])
noncomputable def slices_Clone_int64_int64 (k1 : (List Int) → Option Bool) : Option Bool := slices_Clone_int64_int64.body k1
noncomputable def slices_Clone_int64_int64.get (F : ((List Int) → Option Bool) → Option Bool) (e : Option Bool) (g : FuncId) (a : List AV) (h : Heap) (k : KR) : Option Bool := match g, a, h with
  | 31, [.nils], [] => F (fun y0 => k (.ref [1, 0]) [([1, 0], ⟨2, 1, (.data (.int .i64) y0)⟩)])
  | _, _, _ => e
noncomputable def slices_Clone_int64_int64.calls : RecF := fun g a h k => none
noncomputable def slices_Clone_int64_int64.loops : LoopF := fun b => none
set_option maxRecDepth 100000 in
theorem slices_Clone_int64_int64.eq (k : KR) : execL Try.prog ht 31 (callfOf (slices_Clone_int64_int64.calls)) (slices_Clone_int64_int64.loops) 0 (codeOf Try.f31) ⟨[.nils] ++ List.replicate (Try.f31.ntmps - ([.nils] : List AV).length) .undef, [], 2⟩ (leave Try.prog Try.f31 k) = slices_Clone_int64_int64.body (fun y0 => k (.ref [1, 0]) [([1, 0], ⟨2, 1, (.data (.int .i64) y0)⟩)]) := by kernel_rfl
theorem slices_Clone_int64_int64.ok (d : Nat) (hd : 1 ≤ d) (k : KR) (hx : slices_Clone_int64_int64 (fun y0 => k (.ref [1, 0]) [([1, 0], ⟨2, 1, (.data (.int .i64) y0)⟩)]) = some true) : callK Try.prog ht d 31 [.nils] [] k = some true := by
  obtain ⟨d, rfl⟩ : ∃ e, d = e + 1 := ⟨d - 1, by omega⟩
  exact fn_ok (c := codeOf Try.f31) Try.func31 (by kernel_rfl) (rec := slices_Clone_int64_int64.calls) (fun g a h k hx => by
    cases hx) (loopf := slices_Clone_int64_int64.loops) (by
    have e : loopsOf (slices_Clone_int64_int64.loops) 0 (codeOf Try.f31) = [] := by kernel_rfl
    rw [e]
    intro p hp
    cases hp) ((slices_Clone_int64_int64.eq k).trans hx)
theorem slices_Clone_int64_int64.look (d : Nat) (hd : 1 ≤ d) {e : Option Bool} {g : FuncId} {a : List AV} {h : Heap} {k : KR} (hx : slices_Clone_int64_int64.get slices_Clone_int64_int64 e g a h k = some true) : e = some true ∨ callK Try.prog ht d g a h k = some true := by
  unfold slices_Clone_int64_int64.get at hx
  split at hx
  · exact .inr (slices_Clone_int64_int64.ok d hd _ hx)
  · exact .inl hx
/-- function 9: sheerleg/memory.New -/
noncomputable def memory_New.body (slices_Clone_int64_int64 : ((List Int) → Option Bool) → Option Bool) (k1 : Bool → (List Int) → Option Bool) : Option Bool :=
  (slices_Clone_int64_int64
  (fun ns3 => (k1 true ns3)))
noncomputable def memory_New (k1 : Bool → (List Int) → Option Bool) : Option Bool := memory_New.body slices_Clone_int64_int64 k1
noncomputable def memory_New.get (F : (Bool → (List Int) → Option Bool) → Option Bool) (e : Option Bool) (g : FuncId) (a : List AV) (h : Heap) (k : KR) : Option Bool := match g, a, h with
  | 9, [.nils], [] => F (fun y0 y1 => k (.ptr [1, 0] 0 0) [([1, 0], ⟨61, 2, (.mix [(.agg [(.ref [1, 1]), (.d ⟨.bool, y0⟩)])])⟩), ([1, 1], ⟨2, 1, (.data (.int .i64) y1)⟩)])
  | _, _, _ => e
noncomputable def memory_New.calls (F0 : ((List Int) → Option Bool) → Option Bool) : RecF := fun g a h k => (slices_Clone_int64_int64.get F0 none g a h k)
noncomputable def memory_New.loops : LoopF := fun b => none
set_option maxRecDepth 100000 in
theorem memory_New.eq (F0 : ((List Int) → Option Bool) → Option Bool) (k : KR) : execL Try.prog ht 9 (callfOf (memory_New.calls F0)) (memory_New.loops) 0 (codeOf Try.f9) ⟨[.nils] ++ List.replicate (Try.f9.ntmps - ([.nils] : List AV).length) .undef, [], 2⟩ (leave Try.prog Try.f9 k) = memory_New.body F0 (fun y0 y1 => k (.ptr [1, 0] 0 0) [([1, 0], ⟨61, 2, (.mix [(.agg [(.ref [1, 1]), (.d ⟨.bool, y0⟩)])])⟩), ([1, 1], ⟨2, 1, (.data (.int .i64) y1)⟩)]) := by kernel_rfl
theorem memory_New.ok (d : Nat) (hd : 2 ≤ d) (k : KR) (hx : memory_New (fun y0 y1 => k (.ptr [1, 0] 0 0) [([1, 0], ⟨61, 2, (.mix [(.agg [(.ref [1, 1]), (.d ⟨.bool, y0⟩)])])⟩), ([1, 1], ⟨2, 1, (.data (.int .i64) y1)⟩)]) = some true) : callK Try.prog ht d 9 [.nils] [] k = some true := by
  obtain ⟨d, rfl⟩ : ∃ e, d = e + 1 := ⟨d - 1, by omega⟩
  exact fn_ok (c := codeOf Try.f9) Try.func9 (by kernel_rfl) (rec := memory_New.calls slices_Clone_int64_int64) (fun g a h k hx => by
    rcases slices_Clone_int64_int64.look d (by omega) hx with hx | hx
    rotate_left
    · exact hx
    cases hx) (loopf := memory_New.loops) (by
    have e : loopsOf (memory_New.loops) 0 (codeOf Try.f9) = [] := by kernel_rfl
    rw [e]
    intro p hp
    cases hp) ((memory_New.eq slices_Clone_int64_int64 k).trans hx)
theorem memory_New.look (d : Nat) (hd : 2 ≤ d) {e : Option Bool} {g : FuncId} {a : List AV} {h : Heap} {k : KR} (hx : memory_New.get memory_New e g a h k = some true) : e = some true ∨ callK Try.prog ht d g a h k = some true := by
  unfold memory_New.get at hx
  split at hx
  · exact .inr (memory_New.ok d hd _ hx)
  · exact .inl hx
/-- function 29: (*sheerleg/memory.Memory).Grow -/
noncomputable def memory_Memory_Grow.body (n9 : Int) (b10 : Bool) (ns11 : List Int) (k1 : Int → Bool → Bool → (List Int) → Option Bool) (k2 : Int → Bool → Bool → (List Int) → Option Bool) : Option Bool :=
  (cond_ (! (! b10)) (cond_ (! (decide (n9 < (1 : Int)))) (cond_ (decide (n9 > (IntKind.wrap .i64 ((4194304 : Int) - (((List.length ns11) : Nat) : Int))))) (k1 (0 : Int) false b10 ns11) (cond_ ((decide ((0 : Int) ≤ n9)) && (Nat.ble (((List.length ns11) + (Int.toNat n9)) * (8 : Nat)) (140737488355328 : Nat))) (k2 (((List.length ns11) : Nat) : Int) true b10 (ns11 ++ (List.replicate (Int.toNat n9) (0 : Int)))) none)) (k1 (0 : Int) false b10 ns11)) (k1 (0 : Int) false b10 ns11))
noncomputable def memory_Memory_Grow (n9 : Int) (b10 : Bool) (ns11 : List Int) (k1 : Int → Bool → Bool → (List Int) → Option Bool) (k2 : Int → Bool → Bool → (List Int) → Option Bool) : Option Bool := memory_Memory_Grow.body n9 b10 ns11 k1 k2
noncomputable def memory_Memory_Grow.get (F : Int → Bool → (List Int) → (Int → Bool → Bool → (List Int) → Option Bool) → (Int → Bool → Bool → (List Int) → Option Bool) → Option Bool) (e : Option Bool) (g : FuncId) (a : List AV) (h : Heap) (k : KR) : Option Bool := match g, a, h with
  | 29, [(.ptr [0, 0] 0 0), (.d ⟨(.int .i64), n9⟩)], [([0, 0], ⟨61, 2, (.mix [(.agg [(.ref [0, 1]), (.d ⟨.bool, b10⟩)])])⟩), ([0, 1], ⟨2, 1, (.data (.int .i64) ns11)⟩)] => F n9 b10 ns11 (fun y0 y1 y2 y3 => k (.tup [(.d ⟨(.int .i64), y0⟩), (.d ⟨.bool, y1⟩)]) [([0, 0], ⟨61, 2, (.mix [(.agg [(.ref [0, 1]), (.d ⟨.bool, y2⟩)])])⟩), ([0, 1], ⟨2, 1, (.data (.int .i64) y3)⟩)]) (fun y0 y1 y2 y3 => k (.tup [(.d ⟨(.int .i64), y0⟩), (.d ⟨.bool, y1⟩)]) [([0, 0], ⟨61, 2, (.mix [(.agg [(.ref [1, 0]), (.d ⟨.bool, y2⟩)])])⟩), ([1, 0], ⟨2, 1, (.data (.int .i64) y3)⟩)])
  | _, _, _ => e
noncomputable def memory_Memory_Grow.calls : RecF := fun g a h k => none
noncomputable def memory_Memory_Grow.loops : LoopF := fun b => none
set_option maxRecDepth 100000 in
theorem memory_Memory_Grow.eq (n9 : Int) (b10 : Bool) (ns11 : List Int) (k : KR) : execL Try.prog ht 29 (callfOf (memory_Memory_Grow.calls)) (memory_Memory_Grow.loops) 0 (codeOf Try.f29) ⟨[(.ptr [0, 0] 0 0), (.d ⟨(.int .i64), n9⟩)] ++ List.replicate (Try.f29.ntmps - ([(.ptr [0, 0] 0 0), (.d ⟨(.int .i64), n9⟩)] : List AV).length) .undef, [([0, 0], ⟨61, 2, (.mix [(.agg [(.ref [0, 1]), (.d ⟨.bool, b10⟩)])])⟩), ([0, 1], ⟨2, 1, (.data (.int .i64) ns11)⟩)], 2⟩ (leave Try.prog Try.f29 k) = memory_Memory_Grow.body n9 b10 ns11 (fun y0 y1 y2 y3 => k (.tup [(.d ⟨(.int .i64), y0⟩), (.d ⟨.bool, y1⟩)]) [([0, 0], ⟨61, 2, (.mix [(.agg [(.ref [0, 1]), (.d ⟨.bool, y2⟩)])])⟩), ([0, 1], ⟨2, 1, (.data (.int .i64) y3)⟩)]) (fun y0 y1 y2 y3 => k (.tup [(.d ⟨(.int .i64), y0⟩), (.d ⟨.bool, y1⟩)]) [([0, 0], ⟨61, 2, (.mix [(.agg [(.ref [1, 0]), (.d ⟨.bool, y2⟩)])])⟩), ([1, 0], ⟨2, 1, (.data (.int .i64) y3)⟩)]) := by kernel_rfl
theorem memory_Memory_Grow.ok (d : Nat) (hd : 1 ≤ d) (n9 : Int) (b10 : Bool) (ns11 : List Int) (k : KR) (hx : memory_Memory_Grow n9 b10 ns11 (fun y0 y1 y2 y3 => k (.tup [(.d ⟨(.int .i64), y0⟩), (.d ⟨.bool, y1⟩)]) [([0, 0], ⟨61, 2, (.mix [(.agg [(.ref [0, 1]), (.d ⟨.bool, y2⟩)])])⟩), ([0, 1], ⟨2, 1, (.data (.int .i64) y3)⟩)]) (fun y0 y1 y2 y3 => k (.tup [(.d ⟨(.int .i64), y0⟩), (.d ⟨.bool, y1⟩)]) [([0, 0], ⟨61, 2, (.mix [(.agg [(.ref [1, 0]), (.d ⟨.bool, y2⟩)])])⟩), ([1, 0], ⟨2, 1, (.data (.int .i64) y3)⟩)]) = some true) : callK Try.prog ht d 29 [(.ptr [0, 0] 0 0), (.d ⟨(.int .i64), n9⟩)] [([0, 0], ⟨61, 2, (.mix [(.agg [(.ref [0, 1]), (.d ⟨.bool, b10⟩)])])⟩), ([0, 1], ⟨2, 1, (.data (.int .i64) ns11)⟩)] k = some true := by
  obtain ⟨d, rfl⟩ : ∃ e, d = e + 1 := ⟨d - 1, by omega⟩
  exact fn_ok (c := codeOf Try.f29) Try.func29 (by kernel_rfl) (rec := memory_Memory_Grow.calls) (fun g a h k hx => by
    cases hx) (loopf := memory_Memory_Grow.loops) (by
    have e : loopsOf (memory_Memory_Grow.loops) 0 (codeOf Try.f29) = [] := by kernel_rfl
    rw [e]
    intro p hp
    cases hp) ((memory_Memory_Grow.eq n9 b10 ns11 k).trans hx)
theorem memory_Memory_Grow.look (d : Nat) (hd : 1 ≤ d) {e : Option Bool} {g : FuncId} {a : List AV} {h : Heap} {k : KR} (hx : memory_Memory_Grow.get memory_Memory_Grow e g a h k = some true) : e = some true ∨ callK Try.prog ht d g a h k = some true := by
  unfold memory_Memory_Grow.get at hx
  split at hx
  · exact .inr (memory_Memory_Grow.ok d hd _ _ _ _ hx)
  · exact .inl hx
/-- function 30: sheerleg/stack.segment -/
noncomputable def stack_segment.body (n16 : Int) (n17 : Int) (k1 : (Int × Int × Int × Unit) → Option Bool) : Option Bool :=
  (k1 (n16, ((IntKind.wrap .i64 (n16 + (64 : Int))), ((IntKind.wrap .i64 (n16 + n17)), ()))))
noncomputable def stack_segment (n16 : Int) (n17 : Int) (k1 : (Int × Int × Int × Unit) → Option Bool) : Option Bool := stack_segment.body n16 n17 k1
noncomputable def stack_segment.get (F : Int → Int → ((Int × Int × Int × Unit) → Option Bool) → Option Bool) (e : Option Bool) (g : FuncId) (a : List AV) (h : Heap) (k : KR) : Option Bool := match g, a, h with
  | 30, [(.d ⟨(.int .i64), n16⟩), (.d ⟨(.int .i64), n17⟩)], [] => F n16 n17 (fun y0 => k (.d ⟨(.st [(.int .i64), (.int .i64), (.int .i64)]), y0⟩) [])
  | _, _, _ => e
noncomputable def stack_segment.calls : RecF := fun g a h k => none
noncomputable def stack_segment.loops : LoopF := fun b => none
set_option maxRecDepth 100000 in
theorem stack_segment.eq (n16 : Int) (n17 : Int) (k : KR) : execL Try.prog ht 30 (callfOf (stack_segment.calls)) (stack_segment.loops) 0 (codeOf Try.f30) ⟨[(.d ⟨(.int .i64), n16⟩), (.d ⟨(.int .i64), n17⟩)] ++ List.replicate (Try.f30.ntmps - ([(.d ⟨(.int .i64), n16⟩), (.d ⟨(.int .i64), n17⟩)] : List AV).length) .undef, [], 2⟩ (leave Try.prog Try.f30 k) = stack_segment.body n16 n17 (fun y0 => k (.d ⟨(.st [(.int .i64), (.int .i64), (.int .i64)]), y0⟩) []) := by kernel_rfl
theorem stack_segment.ok (d : Nat) (hd : 1 ≤ d) (n16 : Int) (n17 : Int) (k : KR) (hx : stack_segment n16 n17 (fun y0 => k (.d ⟨(.st [(.int .i64), (.int .i64), (.int .i64)]), y0⟩) []) = some true) : callK Try.prog ht d 30 [(.d ⟨(.int .i64), n16⟩), (.d ⟨(.int .i64), n17⟩)] [] k = some true := by
  obtain ⟨d, rfl⟩ : ∃ e, d = e + 1 := ⟨d - 1, by omega⟩
  exact fn_ok (c := codeOf Try.f30) Try.func30 (by kernel_rfl) (rec := stack_segment.calls) (fun g a h k hx => by
    cases hx) (loopf := stack_segment.loops) (by
    have e : loopsOf (stack_segment.loops) 0 (codeOf Try.f30) = [] := by kernel_rfl
    rw [e]
    intro p hp
    cases hp) ((stack_segment.eq n16 n17 k).trans hx)
theorem stack_segment.look (d : Nat) (hd : 1 ≤ d) {e : Option Bool} {g : FuncId} {a : List AV} {h : Heap} {k : KR} (hx : stack_segment.get stack_segment e g a h k = some true) : e = some true ∨ callK Try.prog ht d g a h k = some true := by
  unfold stack_segment.get at hx
  split at hx
  · exact .inr (stack_segment.ok d hd _ _ _ hx)
  · exact .inl hx
/-- function 8: sheerleg/stack.New -/
noncomputable def stack_New.body (memory_Memory_Grow : Int → Bool → (List Int) → (Int → Bool → Bool → (List Int) → Option Bool) → (Int → Bool → Bool → (List Int) → Option Bool) → Option Bool) (stack_segment : Int → Int → ((Int × Int × Int × Unit) → Option Bool) → Option Bool) (n6 : Int) (b7 : Bool) (ns8 : List Int) (k1 : Bool → Bool → (List Int) → Option Bool) (k2 : Bool → Bool → (List Int) → Int → Int → Int → Int → Int → Int → Int → Option Bool) (k3 : Bool → Bool → (List Int) → Option Bool) (k4 : Bool → Bool → (List Int) → Int → Int → Int → Int → Int → Int → Int → Option Bool) : Option Bool :=
  (cond_ (decide (n6 < (128 : Int))) (k1 false b7 ns8) (memory_Memory_Grow (128 : Int) b7 ns8
  (fun n12 b13 b14 ns15 => (cond_ (! b13) (k1 false b14 ns15) (stack_segment n12 (128 : Int)
  (fun t18 => (k2 true b14 ns15 t18.1 t18.2.1 t18.2.2.1 t18.2.2.1 (128 : Int) n6 (128 : Int))))))
  (fun n19 b20 b21 ns22 => (cond_ (! b20) (k3 false b21 ns22) (stack_segment n19 (128 : Int)
  (fun t23 => (k4 true b21 ns22 t23.1 t23.2.1 t23.2.2.1 t23.2.2.1 (128 : Int) n6 (128 : Int))))))))
noncomputable def stack_New (n6 : Int) (b7 : Bool) (ns8 : List Int) (k1 : Bool → Bool → (List Int) → Option Bool) (k2 : Bool → Bool → (List Int) → Int → Int → Int → Int → Int → Int → Int → Option Bool) (k3 : Bool → Bool → (List Int) → Option Bool) (k4 : Bool → Bool → (List Int) → Int → Int → Int → Int → Int → Int → Int → Option Bool) : Option Bool := stack_New.body memory_Memory_Grow stack_segment n6 b7 ns8 k1 k2 k3 k4
noncomputable def stack_New.get (F : Int → Bool → (List Int) → (Bool → Bool → (List Int) → Option Bool) → (Bool → Bool → (List Int) → Int → Int → Int → Int → Int → Int → Int → Option Bool) → (Bool → Bool → (List Int) → Option Bool) → (Bool → Bool → (List Int) → Int → Int → Int → Int → Int → Int → Int → Option Bool) → Option Bool) (e : Option Bool) (g : FuncId) (a : List AV) (h : Heap) (k : KR) : Option Bool := match g, a, h with
  | 8, [(.ptr [0, 0] 0 0), (.d ⟨(.int .i64), n6⟩)], [([0, 0], ⟨61, 2, (.mix [(.agg [(.ref [0, 1]), (.d ⟨.bool, b7⟩)])])⟩), ([0, 1], ⟨2, 1, (.data (.int .i64) ns8)⟩)] => F n6 b7 ns8 (fun y0 y1 y2 => k (.tup [.nilp, (.d ⟨.bool, y0⟩)]) [([0, 0], ⟨61, 2, (.mix [(.agg [(.ref [0, 1]), (.d ⟨.bool, y1⟩)])])⟩), ([0, 1], ⟨2, 1, (.data (.int .i64) y2)⟩)]) (fun y0 y1 y2 y3 y4 y5 y6 y7 y8 y9 => k (.tup [(.ptr [1, 0] 0 0), (.d ⟨.bool, y0⟩)]) [([0, 0], ⟨61, 2, (.mix [(.agg [(.ref [0, 1]), (.d ⟨.bool, y1⟩)])])⟩), ([0, 1], ⟨2, 1, (.data (.int .i64) y2)⟩), ([1, 0], ⟨53, 8, (.mix [(.agg [(.ptr [0, 0] 0 0), (.d ⟨(.int .i64), y3⟩), (.d ⟨(.int .i64), y4⟩), (.d ⟨(.int .i64), y5⟩), (.d ⟨(.int .i64), y6⟩), (.d ⟨(.int .i64), y7⟩), (.d ⟨(.int .i64), y8⟩), (.d ⟨(.int .i64), y9⟩)])])⟩)]) (fun y0 y1 y2 => k (.tup [.nilp, (.d ⟨.bool, y0⟩)]) [([0, 0], ⟨61, 2, (.mix [(.agg [(.ref [1, 0]), (.d ⟨.bool, y1⟩)])])⟩), ([1, 0], ⟨2, 1, (.data (.int .i64) y2)⟩)]) (fun y0 y1 y2 y3 y4 y5 y6 y7 y8 y9 => k (.tup [(.ptr [1, 1] 0 0), (.d ⟨.bool, y0⟩)]) [([0, 0], ⟨61, 2, (.mix [(.agg [(.ref [1, 0]), (.d ⟨.bool, y1⟩)])])⟩), ([1, 0], ⟨2, 1, (.data (.int .i64) y2)⟩), ([1, 1], ⟨53, 8, (.mix [(.agg [(.ptr [0, 0] 0 0), (.d ⟨(.int .i64), y3⟩), (.d ⟨(.int .i64), y4⟩), (.d ⟨(.int .i64), y5⟩), (.d ⟨(.int .i64), y6⟩), (.d ⟨(.int .i64), y7⟩), (.d ⟨(.int .i64), y8⟩), (.d ⟨(.int .i64), y9⟩)])])⟩)])
  | _, _, _ => e
noncomputable def stack_New.calls (F0 : Int → Bool → (List Int) → (Int → Bool → Bool → (List Int) → Option Bool) → (Int → Bool → Bool → (List Int) → Option Bool) → Option Bool) (F1 : Int → Int → ((Int × Int × Int × Unit) → Option Bool) → Option Bool) : RecF := fun g a h k => (memory_Memory_Grow.get F0 (stack_segment.get F1 none g a h k) g a h k)
noncomputable def stack_New.loops : LoopF := fun b => none
set_option maxRecDepth 100000 in
theorem stack_New.eq (F0 : Int → Bool → (List Int) → (Int → Bool → Bool → (List Int) → Option Bool) → (Int → Bool → Bool → (List Int) → Option Bool) → Option Bool) (F1 : Int → Int → ((Int × Int × Int × Unit) → Option Bool) → Option Bool) (n6 : Int) (b7 : Bool) (ns8 : List Int) (k : KR) : execL Try.prog ht 8 (callfOf (stack_New.calls F0 F1)) (stack_New.loops) 0 (codeOf Try.f8) ⟨[(.ptr [0, 0] 0 0), (.d ⟨(.int .i64), n6⟩)] ++ List.replicate (Try.f8.ntmps - ([(.ptr [0, 0] 0 0), (.d ⟨(.int .i64), n6⟩)] : List AV).length) .undef, [([0, 0], ⟨61, 2, (.mix [(.agg [(.ref [0, 1]), (.d ⟨.bool, b7⟩)])])⟩), ([0, 1], ⟨2, 1, (.data (.int .i64) ns8)⟩)], 2⟩ (leave Try.prog Try.f8 k) = stack_New.body F0 F1 n6 b7 ns8 (fun y0 y1 y2 => k (.tup [.nilp, (.d ⟨.bool, y0⟩)]) [([0, 0], ⟨61, 2, (.mix [(.agg [(.ref [0, 1]), (.d ⟨.bool, y1⟩)])])⟩), ([0, 1], ⟨2, 1, (.data (.int .i64) y2)⟩)]) (fun y0 y1 y2 y3 y4 y5 y6 y7 y8 y9 => k (.tup [(.ptr [1, 0] 0 0), (.d ⟨.bool, y0⟩)]) [([0, 0], ⟨61, 2, (.mix [(.agg [(.ref [0, 1]), (.d ⟨.bool, y1⟩)])])⟩), ([0, 1], ⟨2, 1, (.data (.int .i64) y2)⟩), ([1, 0], ⟨53, 8, (.mix [(.agg [(.ptr [0, 0] 0 0), (.d ⟨(.int .i64), y3⟩), (.d ⟨(.int .i64), y4⟩), (.d ⟨(.int .i64), y5⟩), (.d ⟨(.int .i64), y6⟩), (.d ⟨(.int .i64), y7⟩), (.d ⟨(.int .i64), y8⟩), (.d ⟨(.int .i64), y9⟩)])])⟩)]) (fun y0 y1 y2 => k (.tup [.nilp, (.d ⟨.bool, y0⟩)]) [([0, 0], ⟨61, 2, (.mix [(.agg [(.ref [1, 0]), (.d ⟨.bool, y1⟩)])])⟩), ([1, 0], ⟨2, 1, (.data (.int .i64) y2)⟩)]) (fun y0 y1 y2 y3 y4 y5 y6 y7 y8 y9 => k (.tup [(.ptr [1, 1] 0 0), (.d ⟨.bool, y0⟩)]) [([0, 0], ⟨61, 2, (.mix [(.agg [(.ref [1, 0]), (.d ⟨.bool, y1⟩)])])⟩), ([1, 0], ⟨2, 1, (.data (.int .i64) y2)⟩), ([1, 1], ⟨53, 8, (.mix [(.agg [(.ptr [0, 0] 0 0), (.d ⟨(.int .i64), y3⟩), (.d ⟨(.int .i64), y4⟩), (.d ⟨(.int .i64), y5⟩), (.d ⟨(.int .i64), y6⟩), (.d ⟨(.int .i64), y7⟩), (.d ⟨(.int .i64), y8⟩), (.d ⟨(.int .i64), y9⟩)])])⟩)]) := by kernel_rfl
theorem stack_New.ok (d : Nat) (hd : 2 ≤ d) (n6 : Int) (b7 : Bool) (ns8 : List Int) (k : KR) (hx : stack_New n6 b7 ns8 (fun y0 y1 y2 => k (.tup [.nilp, (.d ⟨.bool, y0⟩)]) [([0, 0], ⟨61, 2, (.mix [(.agg [(.ref [0, 1]), (.d ⟨.bool, y1⟩)])])⟩), ([0, 1], ⟨2, 1, (.data (.int .i64) y2)⟩)]) (fun y0 y1 y2 y3 y4 y5 y6 y7 y8 y9 => k (.tup [(.ptr [1, 0] 0 0), (.d ⟨.bool, y0⟩)]) [([0, 0], ⟨61, 2, (.mix [(.agg [(.ref [0, 1]), (.d ⟨.bool, y1⟩)])])⟩), ([0, 1], ⟨2, 1, (.data (.int .i64) y2)⟩), ([1, 0], ⟨53, 8, (.mix [(.agg [(.ptr [0, 0] 0 0), (.d ⟨(.int .i64), y3⟩), (.d ⟨(.int .i64), y4⟩), (.d ⟨(.int .i64), y5⟩), (.d ⟨(.int .i64), y6⟩), (.d ⟨(.int .i64), y7⟩), (.d ⟨(.int .i64), y8⟩), (.d ⟨(.int .i64), y9⟩)])])⟩)]) (fun y0 y1 y2 => k (.tup [.nilp, (.d ⟨.bool, y0⟩)]) [([0, 0], ⟨61, 2, (.mix [(.agg [(.ref [1, 0]), (.d ⟨.bool, y1⟩)])])⟩), ([1, 0], ⟨2, 1, (.data (.int .i64) y2)⟩)]) (fun y0 y1 y2 y3 y4 y5 y6 y7 y8 y9 => k (.tup [(.ptr [1, 1] 0 0), (.d ⟨.bool, y0⟩)]) [([0, 0], ⟨61, 2, (.mix [(.agg [(.ref [1, 0]), (.d ⟨.bool, y1⟩)])])⟩), ([1, 0], ⟨2, 1, (.data (.int .i64) y2)⟩), ([1, 1], ⟨53, 8, (.mix [(.agg [(.ptr [0, 0] 0 0), (.d ⟨(.int .i64), y3⟩), (.d ⟨(.int .i64), y4⟩), (.d ⟨(.int .i64), y5⟩), (.d ⟨(.int .i64), y6⟩), (.d ⟨(.int .i64), y7⟩), (.d ⟨(.int .i64), y8⟩), (.d ⟨(.int .i64), y9⟩)])])⟩)]) = some true) : callK Try.prog ht d 8 [(.ptr [0, 0] 0 0), (.d ⟨(.int .i64), n6⟩)] [([0, 0], ⟨61, 2, (.mix [(.agg [(.ref [0, 1]), (.d ⟨.bool, b7⟩)])])⟩), ([0, 1], ⟨2, 1, (.data (.int .i64) ns8)⟩)] k = some true := by
  obtain ⟨d, rfl⟩ : ∃ e, d = e + 1 := ⟨d - 1, by omega⟩
  exact fn_ok (c := codeOf Try.f8) Try.func8 (by kernel_rfl) (rec := stack_New.calls memory_Memory_Grow stack_segment) (fun g a h k hx => by
    rcases memory_Memory_Grow.look d (by omega) hx with hx | hx
    rotate_left
    · exact hx
    rcases stack_segment.look d (by omega) hx with hx | hx
    rotate_left
    · exact hx
    cases hx) (loopf := stack_New.loops) (by
    have e : loopsOf (stack_New.loops) 0 (codeOf Try.f8) = [] := by kernel_rfl
    rw [e]
    intro p hp
    cases hp) ((stack_New.eq memory_Memory_Grow stack_segment n6 b7 ns8 k).trans hx)
theorem stack_New.look (d : Nat) (hd : 2 ≤ d) {e : Option Bool} {g : FuncId} {a : List AV} {h : Heap} {k : KR} (hx : stack_New.get stack_New e g a h k = some true) : e = some true ∨ callK Try.prog ht d g a h k = some true := by
  unfold stack_New.get at hx
  split at hx
  · exact .inr (stack_New.ok d hd _ _ _ _ hx)
  · exact .inl hx
/-- function 34: (*sheerleg/stack.Stack).live -/
noncomputable def stack_Stack_live.body (n78 : Int) (n79 : Int) (n80 : Int) (n81 : Int) (n82 : Int) (n83 : Int) (n84 : Int) (b85 : Bool) (ns86 : List Int) (k1 : Bool → Int → Int → Int → Int → Int → Int → Int → Bool → (List Int) → Option Bool) : Option Bool :=
  (k1 true n78 n79 n80 n81 n82 n83 n84 b85 ns86)
noncomputable def stack_Stack_live (n78 : Int) (n79 : Int) (n80 : Int) (n81 : Int) (n82 : Int) (n83 : Int) (n84 : Int) (b85 : Bool) (ns86 : List Int) (k1 : Bool → Int → Int → Int → Int → Int → Int → Int → Bool → (List Int) → Option Bool) : Option Bool := stack_Stack_live.body n78 n79 n80 n81 n82 n83 n84 b85 ns86 k1
noncomputable def stack_Stack_live.get (F : Int → Int → Int → Int → Int → Int → Int → Bool → (List Int) → (Bool → Int → Int → Int → Int → Int → Int → Int → Bool → (List Int) → Option Bool) → Option Bool) (e : Option Bool) (g : FuncId) (a : List AV) (h : Heap) (k : KR) : Option Bool := match g, a, h with
  | 34, [(.ptr [0, 0] 0 0)], [([0, 0], ⟨53, 8, (.mix [(.agg [(.ptr [0, 1] 0 0), (.d ⟨(.int .i64), n78⟩), (.d ⟨(.int .i64), n79⟩), (.d ⟨(.int .i64), n80⟩), (.d ⟨(.int .i64), n81⟩), (.d ⟨(.int .i64), n82⟩), (.d ⟨(.int .i64), n83⟩), (.d ⟨(.int .i64), n84⟩)])])⟩), ([0, 1], ⟨61, 2, (.mix [(.agg [(.ref [0, 2]), (.d ⟨.bool, b85⟩)])])⟩), ([0, 2], ⟨2, 1, (.data (.int .i64) ns86)⟩)] => F n78 n79 n80 n81 n82 n83 n84 b85 ns86 (fun y0 y1 y2 y3 y4 y5 y6 y7 y8 y9 => k (.d ⟨.bool, y0⟩) [([0, 0], ⟨53, 8, (.mix [(.agg [(.ptr [0, 1] 0 0), (.d ⟨(.int .i64), y1⟩), (.d ⟨(.int .i64), y2⟩), (.d ⟨(.int .i64), y3⟩), (.d ⟨(.int .i64), y4⟩), (.d ⟨(.int .i64), y5⟩), (.d ⟨(.int .i64), y6⟩), (.d ⟨(.int .i64), y7⟩)])])⟩), ([0, 1], ⟨61, 2, (.mix [(.agg [(.ref [0, 2]), (.d ⟨.bool, y8⟩)])])⟩), ([0, 2], ⟨2, 1, (.data (.int .i64) y9)⟩)])
  | _, _, _ => e
noncomputable def stack_Stack_live.calls : RecF := fun g a h k => none
noncomputable def stack_Stack_live.loops : LoopF := fun b => none
set_option maxRecDepth 100000 in
theorem stack_Stack_live.eq (n78 : Int) (n79 : Int) (n80 : Int) (n81 : Int) (n82 : Int) (n83 : Int) (n84 : Int) (b85 : Bool) (ns86 : List Int) (k : KR) : execL Try.prog ht 34 (callfOf (stack_Stack_live.calls)) (stack_Stack_live.loops) 0 (codeOf Try.f34) ⟨[(.ptr [0, 0] 0 0)] ++ List.replicate (Try.f34.ntmps - ([(.ptr [0, 0] 0 0)] : List AV).length) .undef, [([0, 0], ⟨53, 8, (.mix [(.agg [(.ptr [0, 1] 0 0), (.d ⟨(.int .i64), n78⟩), (.d ⟨(.int .i64), n79⟩), (.d ⟨(.int .i64), n80⟩), (.d ⟨(.int .i64), n81⟩), (.d ⟨(.int .i64), n82⟩), (.d ⟨(.int .i64), n83⟩), (.d ⟨(.int .i64), n84⟩)])])⟩), ([0, 1], ⟨61, 2, (.mix [(.agg [(.ref [0, 2]), (.d ⟨.bool, b85⟩)])])⟩), ([0, 2], ⟨2, 1, (.data (.int .i64) ns86)⟩)], 2⟩ (leave Try.prog Try.f34 k) = stack_Stack_live.body n78 n79 n80 n81 n82 n83 n84 b85 ns86 (fun y0 y1 y2 y3 y4 y5 y6 y7 y8 y9 => k (.d ⟨.bool, y0⟩) [([0, 0], ⟨53, 8, (.mix [(.agg [(.ptr [0, 1] 0 0), (.d ⟨(.int .i64), y1⟩), (.d ⟨(.int .i64), y2⟩), (.d ⟨(.int .i64), y3⟩), (.d ⟨(.int .i64), y4⟩), (.d ⟨(.int .i64), y5⟩), (.d ⟨(.int .i64), y6⟩), (.d ⟨(.int .i64), y7⟩)])])⟩), ([0, 1], ⟨61, 2, (.mix [(.agg [(.ref [0, 2]), (.d ⟨.bool, y8⟩)])])⟩), ([0, 2], ⟨2, 1, (.data (.int .i64) y9)⟩)]) := by kernel_rfl
theorem stack_Stack_live.ok (d : Nat) (hd : 1 ≤ d) (n78 : Int) (n79 : Int) (n80 : Int) (n81 : Int) (n82 : Int) (n83 : Int) (n84 : Int) (b85 : Bool) (ns86 : List Int) (k : KR) (hx : stack_Stack_live n78 n79 n80 n81 n82 n83 n84 b85 ns86 (fun y0 y1 y2 y3 y4 y5 y6 y7 y8 y9 => k (.d ⟨.bool, y0⟩) [([0, 0], ⟨53, 8, (.mix [(.agg [(.ptr [0, 1] 0 0), (.d ⟨(.int .i64), y1⟩), (.d ⟨(.int .i64), y2⟩), (.d ⟨(.int .i64), y3⟩), (.d ⟨(.int .i64), y4⟩), (.d ⟨(.int .i64), y5⟩), (.d ⟨(.int .i64), y6⟩), (.d ⟨(.int .i64), y7⟩)])])⟩), ([0, 1], ⟨61, 2, (.mix [(.agg [(.ref [0, 2]), (.d ⟨.bool, y8⟩)])])⟩), ([0, 2], ⟨2, 1, (.data (.int .i64) y9)⟩)]) = some true) : callK Try.prog ht d 34 [(.ptr [0, 0] 0 0)] [([0, 0], ⟨53, 8, (.mix [(.agg [(.ptr [0, 1] 0 0), (.d ⟨(.int .i64), n78⟩), (.d ⟨(.int .i64), n79⟩), (.d ⟨(.int .i64), n80⟩), (.d ⟨(.int .i64), n81⟩), (.d ⟨(.int .i64), n82⟩), (.d ⟨(.int .i64), n83⟩), (.d ⟨(.int .i64), n84⟩)])])⟩), ([0, 1], ⟨61, 2, (.mix [(.agg [(.ref [0, 2]), (.d ⟨.bool, b85⟩)])])⟩), ([0, 2], ⟨2, 1, (.data (.int .i64) ns86)⟩)] k = some true := by
  obtain ⟨d, rfl⟩ : ∃ e, d = e + 1 := ⟨d - 1, by omega⟩
  exact fn_ok (c := codeOf Try.f34) Try.func34 (by kernel_rfl) (rec := stack_Stack_live.calls) (fun g a h k hx => by
    cases hx) (loopf := stack_Stack_live.loops) (by
    have e : loopsOf (stack_Stack_live.loops) 0 (codeOf Try.f34) = [] := by kernel_rfl
    rw [e]
    intro p hp
    cases hp) ((stack_Stack_live.eq n78 n79 n80 n81 n82 n83 n84 b85 ns86 k).trans hx)
theorem stack_Stack_live.look (d : Nat) (hd : 1 ≤ d) {e : Option Bool} {g : FuncId} {a : List AV} {h : Heap} {k : KR} (hx : stack_Stack_live.get stack_Stack_live e g a h k = some true) : e = some true ∨ callK Try.prog ht d g a h k = some true := by
  unfold stack_Stack_live.get at hx
  split at hx
  · exact .inr (stack_Stack_live.ok d hd _ _ _ _ _ _ _ _ _ _ hx)
  · exact .inl hx
/-- function 13: (*sheerleg/stack.Stack).SP -/
noncomputable def stack_Stack_SP.body (stack_Stack_live : Int → Int → Int → Int → Int → Int → Int → Bool → (List Int) → (Bool → Int → Int → Int → Int → Int → Int → Int → Bool → (List Int) → Option Bool) → Option Bool) (n69 : Int) (n70 : Int) (n71 : Int) (n72 : Int) (n73 : Int) (n74 : Int) (n75 : Int) (b76 : Bool) (ns77 : List Int) (k1 : Int → Int → Int → Int → Int → Int → Int → Int → Bool → (List Int) → Option Bool) : Option Bool :=
  (stack_Stack_live n69 n70 n71 n72 n73 n74 n75 b76 ns77
  (fun b87 n88 n89 n90 n91 n92 n93 n94 b95 ns96 => (cond_ (! b87) (k1 (0 : Int) n88 n89 n90 n91 n92 n93 n94 b95 ns96) (k1 n91 n88 n89 n90 n91 n92 n93 n94 b95 ns96))))
noncomputable def stack_Stack_SP (n69 : Int) (n70 : Int) (n71 : Int) (n72 : Int) (n73 : Int) (n74 : Int) (n75 : Int) (b76 : Bool) (ns77 : List Int) (k1 : Int → Int → Int → Int → Int → Int → Int → Int → Bool → (List Int) → Option Bool) : Option Bool := stack_Stack_SP.body stack_Stack_live n69 n70 n71 n72 n73 n74 n75 b76 ns77 k1
noncomputable def stack_Stack_SP.get (F : Int → Int → Int → Int → Int → Int → Int → Bool → (List Int) → (Int → Int → Int → Int → Int → Int → Int → Int → Bool → (List Int) → Option Bool) → Option Bool) (e : Option Bool) (g : FuncId) (a : List AV) (h : Heap) (k : KR) : Option Bool := match g, a, h with
  | 13, [(.ptr [0, 0] 0 0)], [([0, 0], ⟨53, 8, (.mix [(.agg [(.ptr [0, 1] 0 0), (.d ⟨(.int .i64), n69⟩), (.d ⟨(.int .i64), n70⟩), (.d ⟨(.int .i64), n71⟩), (.d ⟨(.int .i64), n72⟩), (.d ⟨(.int .i64), n73⟩), (.d ⟨(.int .i64), n74⟩), (.d ⟨(.int .i64), n75⟩)])])⟩), ([0, 1], ⟨61, 2, (.mix [(.agg [(.ref [0, 2]), (.d ⟨.bool, b76⟩)])])⟩), ([0, 2], ⟨2, 1, (.data (.int .i64) ns77)⟩)] => F n69 n70 n71 n72 n73 n74 n75 b76 ns77 (fun y0 y1 y2 y3 y4 y5 y6 y7 y8 y9 => k (.d ⟨(.int .i64), y0⟩) [([0, 0], ⟨53, 8, (.mix [(.agg [(.ptr [0, 1] 0 0), (.d ⟨(.int .i64), y1⟩), (.d ⟨(.int .i64), y2⟩), (.d ⟨(.int .i64), y3⟩), (.d ⟨(.int .i64), y4⟩), (.d ⟨(.int .i64), y5⟩), (.d ⟨(.int .i64), y6⟩), (.d ⟨(.int .i64), y7⟩)])])⟩), ([0, 1], ⟨61, 2, (.mix [(.agg [(.ref [0, 2]), (.d ⟨.bool, y8⟩)])])⟩), ([0, 2], ⟨2, 1, (.data (.int .i64) y9)⟩)])
  | _, _, _ => e
noncomputable def stack_Stack_SP.calls (F0 : Int → Int → Int → Int → Int → Int → Int → Bool → (List Int) → (Bool → Int → Int → Int → Int → Int → Int → Int → Bool → (List Int) → Option Bool) → Option Bool) : RecF := fun g a h k => (stack_Stack_live.get F0 none g a h k)
noncomputable def stack_Stack_SP.loops : LoopF := fun b => none
set_option maxRecDepth 100000 in
theorem stack_Stack_SP.eq (F0 : Int → Int → Int → Int → Int → Int → Int → Bool → (List Int) → (Bool → Int → Int → Int → Int → Int → Int → Int → Bool → (List Int) → Option Bool) → Option Bool) (n69 : Int) (n70 : Int) (n71 : Int) (n72 : Int) (n73 : Int) (n74 : Int) (n75 : Int) (b76 : Bool) (ns77 : List Int) (k : KR) : execL Try.prog ht 13 (callfOf (stack_Stack_SP.calls F0)) (stack_Stack_SP.loops) 0 (codeOf Try.f13) ⟨[(.ptr [0, 0] 0 0)] ++ List.replicate (Try.f13.ntmps - ([(.ptr [0, 0] 0 0)] : List AV).length) .undef, [([0, 0], ⟨53, 8, (.mix [(.agg [(.ptr [0, 1] 0 0), (.d ⟨(.int .i64), n69⟩), (.d ⟨(.int .i64), n70⟩), (.d ⟨(.int .i64), n71⟩), (.d ⟨(.int .i64), n72⟩), (.d ⟨(.int .i64), n73⟩), (.d ⟨(.int .i64), n74⟩), (.d ⟨(.int .i64), n75⟩)])])⟩), ([0, 1], ⟨61, 2, (.mix [(.agg [(.ref [0, 2]), (.d ⟨.bool, b76⟩)])])⟩), ([0, 2], ⟨2, 1, (.data (.int .i64) ns77)⟩)], 2⟩ (leave Try.prog Try.f13 k) = stack_Stack_SP.body F0 n69 n70 n71 n72 n73 n74 n75 b76 ns77 (fun y0 y1 y2 y3 y4 y5 y6 y7 y8 y9 => k (.d ⟨(.int .i64), y0⟩) [([0, 0], ⟨53, 8, (.mix [(.agg [(.ptr [0, 1] 0 0), (.d ⟨(.int .i64), y1⟩), (.d ⟨(.int .i64), y2⟩), (.d ⟨(.int .i64), y3⟩), (.d ⟨(.int .i64), y4⟩), (.d ⟨(.int .i64), y5⟩), (.d ⟨(.int .i64), y6⟩), (.d ⟨(.int .i64), y7⟩)])])⟩), ([0, 1], ⟨61, 2, (.mix [(.agg [(.ref [0, 2]), (.d ⟨.bool, y8⟩)])])⟩), ([0, 2], ⟨2, 1, (.data (.int .i64) y9)⟩)]) := by kernel_rfl
theorem stack_Stack_SP.ok (d : Nat) (hd : 2 ≤ d) (n69 : Int) (n70 : Int) (n71 : Int) (n72 : Int) (n73 : Int) (n74 : Int) (n75 : Int) (b76 : Bool) (ns77 : List Int) (k : KR) (hx : stack_Stack_SP n69 n70 n71 n72 n73 n74 n75 b76 ns77 (fun y0 y1 y2 y3 y4 y5 y6 y7 y8 y9 => k (.d ⟨(.int .i64), y0⟩) [([0, 0], ⟨53, 8, (.mix [(.agg [(.ptr [0, 1] 0 0), (.d ⟨(.int .i64), y1⟩), (.d ⟨(.int .i64), y2⟩), (.d ⟨(.int .i64), y3⟩), (.d ⟨(.int .i64), y4⟩), (.d ⟨(.int .i64), y5⟩), (.d ⟨(.int .i64), y6⟩), (.d ⟨(.int .i64), y7⟩)])])⟩), ([0, 1], ⟨61, 2, (.mix [(.agg [(.ref [0, 2]), (.d ⟨.bool, y8⟩)])])⟩), ([0, 2], ⟨2, 1, (.data (.int .i64) y9)⟩)]) = some true) : callK Try.prog ht d 13 [(.ptr [0, 0] 0 0)] [([0, 0], ⟨53, 8, (.mix [(.agg [(.ptr [0, 1] 0 0), (.d ⟨(.int .i64), n69⟩), (.d ⟨(.int .i64), n70⟩), (.d ⟨(.int .i64), n71⟩), (.d ⟨(.int .i64), n72⟩), (.d ⟨(.int .i64), n73⟩), (.d ⟨(.int .i64), n74⟩), (.d ⟨(.int .i64), n75⟩)])])⟩), ([0, 1], ⟨61, 2, (.mix [(.agg [(.ref [0, 2]), (.d ⟨.bool, b76⟩)])])⟩), ([0, 2], ⟨2, 1, (.data (.int .i64) ns77)⟩)] k = some true := by
  obtain ⟨d, rfl⟩ : ∃ e, d = e + 1 := ⟨d - 1, by omega⟩
  exact fn_ok (c := codeOf Try.f13) Try.func13 (by kernel_rfl) (rec := stack_Stack_SP.calls stack_Stack_live) (fun g a h k hx => by
    rcases stack_Stack_live.look d (by omega) hx with hx | hx
    rotate_left
    · exact hx
    cases hx) (loopf := stack_Stack_SP.loops) (by
    have e : loopsOf (stack_Stack_SP.loops) 0 (codeOf Try.f13) = [] := by kernel_rfl
    rw [e]
    intro p hp
    cases hp) ((stack_Stack_SP.eq stack_Stack_live n69 n70 n71 n72 n73 n74 n75 b76 ns77 k).trans hx)
theorem stack_Stack_SP.look (d : Nat) (hd : 2 ≤ d) {e : Option Bool} {g : FuncId} {a : List AV} {h : Heap} {k : KR} (hx : stack_Stack_SP.get stack_Stack_SP e g a h k = some true) : e = some true ∨ callK Try.prog ht d g a h k = some true := by
  unfold stack_Stack_SP.get at hx
  split at hx
  · exact .inr (stack_Stack_SP.ok d hd _ _ _ _ _ _ _ _ _ _ hx)
  · exact .inl hx
/-- function 22: (*sheerleg/memory.Memory).Size -/
noncomputable def memory_Memory_Size.body (b136 : Bool) (ns137 : List Int) (k1 : Int → Bool → (List Int) → Option Bool) : Option Bool :=
  (cond_ (! b136) (k1 (0 : Int) b136 ns137) (k1 (((List.length ns137) : Nat) : Int) b136 ns137))
noncomputable def memory_Memory_Size (b136 : Bool) (ns137 : List Int) (k1 : Int → Bool → (List Int) → Option Bool) : Option Bool := memory_Memory_Size.body b136 ns137 k1
noncomputable def memory_Memory_Size.get (F : Bool → (List Int) → (Int → Bool → (List Int) → Option Bool) → Option Bool) (e : Option Bool) (g : FuncId) (a : List AV) (h : Heap) (k : KR) : Option Bool := match g, a, h with
  | 22, [(.ptr [0, 0] 0 0)], [([0, 0], ⟨61, 2, (.mix [(.agg [(.ref [0, 1]), (.d ⟨.bool, b136⟩)])])⟩), ([0, 1], ⟨2, 1, (.data (.int .i64) ns137)⟩)] => F b136 ns137 (fun y0 y1 y2 => k (.d ⟨(.int .i64), y0⟩) [([0, 0], ⟨61, 2, (.mix [(.agg [(.ref [0, 1]), (.d ⟨.bool, y1⟩)])])⟩), ([0, 1], ⟨2, 1, (.data (.int .i64) y2)⟩)])
  | _, _, _ => e
noncomputable def memory_Memory_Size.calls : RecF := fun g a h k => none
noncomputable def memory_Memory_Size.loops : LoopF := fun b => none
set_option maxRecDepth 100000 in
theorem memory_Memory_Size.eq (b136 : Bool) (ns137 : List Int) (k : KR) : execL Try.prog ht 22 (callfOf (memory_Memory_Size.calls)) (memory_Memory_Size.loops) 0 (codeOf Try.f22) ⟨[(.ptr [0, 0] 0 0)] ++ List.replicate (Try.f22.ntmps - ([(.ptr [0, 0] 0 0)] : List AV).length) .undef, [([0, 0], ⟨61, 2, (.mix [(.agg [(.ref [0, 1]), (.d ⟨.bool, b136⟩)])])⟩), ([0, 1], ⟨2, 1, (.data (.int .i64) ns137)⟩)], 2⟩ (leave Try.prog Try.f22 k) = memory_Memory_Size.body b136 ns137 (fun y0 y1 y2 => k (.d ⟨(.int .i64), y0⟩) [([0, 0], ⟨61, 2, (.mix [(.agg [(.ref [0, 1]), (.d ⟨.bool, y1⟩)])])⟩), ([0, 1], ⟨2, 1, (.data (.int .i64) y2)⟩)]) := by kernel_rfl
theorem memory_Memory_Size.ok (d : Nat) (hd : 1 ≤ d) (b136 : Bool) (ns137 : List Int) (k : KR) (hx : memory_Memory_Size b136 ns137 (fun y0 y1 y2 => k (.d ⟨(.int .i64), y0⟩) [([0, 0], ⟨61, 2, (.mix [(.agg [(.ref [0, 1]), (.d ⟨.bool, y1⟩)])])⟩), ([0, 1], ⟨2, 1, (.data (.int .i64) y2)⟩)]) = some true) : callK Try.prog ht d 22 [(.ptr [0, 0] 0 0)] [([0, 0], ⟨61, 2, (.mix [(.agg [(.ref [0, 1]), (.d ⟨.bool, b136⟩)])])⟩), ([0, 1], ⟨2, 1, (.data (.int .i64) ns137)⟩)] k = some true := by
  obtain ⟨d, rfl⟩ : ∃ e, d = e + 1 := ⟨d - 1, by omega⟩
  exact fn_ok (c := codeOf Try.f22) Try.func22 (by kernel_rfl) (rec := memory_Memory_Size.calls) (fun g a h k hx => by
    cases hx) (loopf := memory_Memory_Size.loops) (by
    have e : loopsOf (memory_Memory_Size.loops) 0 (codeOf Try.f22) = [] := by kernel_rfl
    rw [e]
    intro p hp
    cases hp) ((memory_Memory_Size.eq b136 ns137 k).trans hx)
theorem memory_Memory_Size.look (d : Nat) (hd : 1 ≤ d) {e : Option Bool} {g : FuncId} {a : List AV} {h : Heap} {k : KR} (hx : memory_Memory_Size.get memory_Memory_Size e g a h k = some true) : e = some true ∨ callK Try.prog ht d g a h k = some true := by
  unfold memory_Memory_Size.get at hx
  split at hx
  · exact .inr (memory_Memory_Size.ok d hd _ _ _ hx)
  · exact .inl hx
/-- function 56: (*sheerleg/memory.Memory).Store$1 -/
noncomputable def memory_Memory_Storefn1.body (m141 : Nat) (ns142 : List Int) (n143 : Int) (k1 : (List Int) → Int → Option Bool) : Option Bool :=
  (k1 (List.set ns142 m141 n143) n143)
noncomputable def memory_Memory_Storefn1 (m141 : Nat) (ns142 : List Int) (n143 : Int) (k1 : (List Int) → Int → Option Bool) : Option Bool := memory_Memory_Storefn1.body m141 ns142 n143 k1
noncomputable def memory_Memory_Storefn1.get (F : Nat → (List Int) → Int → ((List Int) → Int → Option Bool) → Option Bool) (e : Option Bool) (g : FuncId) (a : List AV) (h : Heap) (k : KR) : Option Bool := match g, a, h with
  | 56, [(.ptr [0, 0] m141 0), (.ptr [0, 1] 0 0)], [([0, 0], ⟨2, 1, (.data (.int .i64) ns142)⟩), ([0, 1], ⟨2, 1, (.data (.int .i64) [n143])⟩)] => F m141 ns142 n143 (fun y0 y1 => k (.tup []) [([0, 0], ⟨2, 1, (.data (.int .i64) y0)⟩), ([0, 1], ⟨2, 1, (.data (.int .i64) [y1])⟩)])
  | _, _, _ => e
noncomputable def memory_Memory_Storefn1.calls : RecF := fun g a h k => none
noncomputable def memory_Memory_Storefn1.loops : LoopF := fun b => none
set_option maxRecDepth 100000 in
theorem memory_Memory_Storefn1.eq (m141 : Nat) (ns142 : List Int) (n143 : Int) (k : KR) : execL Try.prog ht 56 (callfOf (memory_Memory_Storefn1.calls)) (memory_Memory_Storefn1.loops) 0 (codeOf Try.f56) ⟨[(.ptr [0, 0] m141 0), (.ptr [0, 1] 0 0)] ++ List.replicate (Try.f56.ntmps - ([(.ptr [0, 0] m141 0), (.ptr [0, 1] 0 0)] : List AV).length) .undef, [([0, 0], ⟨2, 1, (.data (.int .i64) ns142)⟩), ([0, 1], ⟨2, 1, (.data (.int .i64) [n143])⟩)], 2⟩ (leave Try.prog Try.f56 k) = memory_Memory_Storefn1.body m141 ns142 n143 (fun y0 y1 => k (.tup []) [([0, 0], ⟨2, 1, (.data (.int .i64) y0)⟩), ([0, 1], ⟨2, 1, (.data (.int .i64) [y1])⟩)]) := by kernel_rfl
theorem memory_Memory_Storefn1.ok (d : Nat) (hd : 1 ≤ d) (m141 : Nat) (ns142 : List Int) (n143 : Int) (k : KR) (hx : memory_Memory_Storefn1 m141 ns142 n143 (fun y0 y1 => k (.tup []) [([0, 0], ⟨2, 1, (.data (.int .i64) y0)⟩), ([0, 1], ⟨2, 1, (.data (.int .i64) [y1])⟩)]) = some true) : callK Try.prog ht d 56 [(.ptr [0, 0] m141 0), (.ptr [0, 1] 0 0)] [([0, 0], ⟨2, 1, (.data (.int .i64) ns142)⟩), ([0, 1], ⟨2, 1, (.data (.int .i64) [n143])⟩)] k = some true := by
  obtain ⟨d, rfl⟩ : ∃ e, d = e + 1 := ⟨d - 1, by omega⟩
  exact fn_ok (c := codeOf Try.f56) Try.func56 (by kernel_rfl) (rec := memory_Memory_Storefn1.calls) (fun g a h k hx => by
    cases hx) (loopf := memory_Memory_Storefn1.loops) (by
    have e : loopsOf (memory_Memory_Storefn1.loops) 0 (codeOf Try.f56) = [] := by kernel_rfl
    rw [e]
    intro p hp
    cases hp) ((memory_Memory_Storefn1.eq m141 ns142 n143 k).trans hx)
theorem memory_Memory_Storefn1.look (d : Nat) (hd : 1 ≤ d) {e : Option Bool} {g : FuncId} {a : List AV} {h : Heap} {k : KR} (hx : memory_Memory_Storefn1.get memory_Memory_Storefn1 e g a h k = some true) : e = some true ∨ callK Try.prog ht d g a h k = some true := by
  unfold memory_Memory_Storefn1.get at hx
  split at hx
  · exact .inr (memory_Memory_Storefn1.ok d hd _ _ _ _ hx)
  · exact .inl hx
/-- function 46: (*sheerleg/memory.Memory).at -/
noncomputable def memory_Memory_at.body (memory_Memory_Size : Bool → (List Int) → (Int → Bool → (List Int) → Option Bool) → Option Bool) (memory_Memory_Storefn1 : Nat → (List Int) → Int → ((List Int) → Int → Option Bool) → Option Bool) (n132 : Int) (b133 : Bool) (ns134 : List Int) (n135 : Int) (k1 : Bool → Bool → (List Int) → Int → Option Bool) : Option Bool :=
  (cond_ (! (decide (n132 < (0 : Int)))) (memory_Memory_Size b133 ns134
  (fun n138 b139 ns140 => (cond_ (decide (n132 ≥ n138)) (k1 false b139 ns140 n135) (cond_ ((decide ((0 : Int) ≤ n132)) && (decide (n132 < (((List.length ns140) : Nat) : Int)))) (memory_Memory_Storefn1 (Int.toNat n132) ns140 n135
  (fun ns144 n145 => (k1 true b139 ns144 n145))) none)))) (k1 false b133 ns134 n135))
noncomputable def memory_Memory_at (n132 : Int) (b133 : Bool) (ns134 : List Int) (n135 : Int) (k1 : Bool → Bool → (List Int) → Int → Option Bool) : Option Bool := memory_Memory_at.body memory_Memory_Size memory_Memory_Storefn1 n132 b133 ns134 n135 k1
noncomputable def memory_Memory_at.get (F : Int → Bool → (List Int) → Int → (Bool → Bool → (List Int) → Int → Option Bool) → Option Bool) (e : Option Bool) (g : FuncId) (a : List AV) (h : Heap) (k : KR) : Option Bool := match g, a, h with
  | 46, [(.ptr [0, 0] 0 0), (.d ⟨(.int .i64), n132⟩), (.fn (.func 56) [] [(.ptr [0, 2] 0 0)])], [([0, 0], ⟨61, 2, (.mix [(.agg [(.ref [0, 1]), (.d ⟨.bool, b133⟩)])])⟩), ([0, 1], ⟨2, 1, (.data (.int .i64) ns134)⟩), ([0, 2], ⟨2, 1, (.data (.int .i64) [n135])⟩)] => F n132 b133 ns134 n135 (fun y0 y1 y2 y3 => k (.d ⟨.bool, y0⟩) [([0, 0], ⟨61, 2, (.mix [(.agg [(.ref [0, 1]), (.d ⟨.bool, y1⟩)])])⟩), ([0, 1], ⟨2, 1, (.data (.int .i64) y2)⟩), ([0, 2], ⟨2, 1, (.data (.int .i64) [y3])⟩)])
  | _, _, _ => e
noncomputable def memory_Memory_at.calls (F0 : Bool → (List Int) → (Int → Bool → (List Int) → Option Bool) → Option Bool) (F1 : Nat → (List Int) → Int → ((List Int) → Int → Option Bool) → Option Bool) : RecF := fun g a h k => (memory_Memory_Size.get F0 (memory_Memory_Storefn1.get F1 none g a h k) g a h k)
noncomputable def memory_Memory_at.loops : LoopF := fun b => none
set_option maxRecDepth 100000 in
theorem memory_Memory_at.eq (F0 : Bool → (List Int) → (Int → Bool → (List Int) → Option Bool) → Option Bool) (F1 : Nat → (List Int) → Int → ((List Int) → Int → Option Bool) → Option Bool) (n132 : Int) (b133 : Bool) (ns134 : List Int) (n135 : Int) (k : KR) : execL Try.prog ht 46 (callfOf (memory_Memory_at.calls F0 F1)) (memory_Memory_at.loops) 0 (codeOf Try.f46) ⟨[(.ptr [0, 0] 0 0), (.d ⟨(.int .i64), n132⟩), (.fn (.func 56) [] [(.ptr [0, 2] 0 0)])] ++ List.replicate (Try.f46.ntmps - ([(.ptr [0, 0] 0 0), (.d ⟨(.int .i64), n132⟩), (.fn (.func 56) [] [(.ptr [0, 2] 0 0)])] : List AV).length) .undef, [([0, 0], ⟨61, 2, (.mix [(.agg [(.ref [0, 1]), (.d ⟨.bool, b133⟩)])])⟩), ([0, 1], ⟨2, 1, (.data (.int .i64) ns134)⟩), ([0, 2], ⟨2, 1, (.data (.int .i64) [n135])⟩)], 2⟩ (leave Try.prog Try.f46 k) = memory_Memory_at.body F0 F1 n132 b133 ns134 n135 (fun y0 y1 y2 y3 => k (.d ⟨.bool, y0⟩) [([0, 0], ⟨61, 2, (.mix [(.agg [(.ref [0, 1]), (.d ⟨.bool, y1⟩)])])⟩), ([0, 1], ⟨2, 1, (.data (.int .i64) y2)⟩), ([0, 2], ⟨2, 1, (.data (.int .i64) [y3])⟩)]) := by kernel_rfl
theorem memory_Memory_at.ok (d : Nat) (hd : 2 ≤ d) (n132 : Int) (b133 : Bool) (ns134 : List Int) (n135 : Int) (k : KR) (hx : memory_Memory_at n132 b133 ns134 n135 (fun y0 y1 y2 y3 => k (.d ⟨.bool, y0⟩) [([0, 0], ⟨61, 2, (.mix [(.agg [(.ref [0, 1]), (.d ⟨.bool, y1⟩)])])⟩), ([0, 1], ⟨2, 1, (.data (.int .i64) y2)⟩), ([0, 2], ⟨2, 1, (.data (.int .i64) [y3])⟩)]) = some true) : callK Try.prog ht d 46 [(.ptr [0, 0] 0 0), (.d ⟨(.int .i64), n132⟩), (.fn (.func 56) [] [(.ptr [0, 2] 0 0)])] [([0, 0], ⟨61, 2, (.mix [(.agg [(.ref [0, 1]), (.d ⟨.bool, b133⟩)])])⟩), ([0, 1], ⟨2, 1, (.data (.int .i64) ns134)⟩), ([0, 2], ⟨2, 1, (.data (.int .i64) [n135])⟩)] k = some true := by
  obtain ⟨d, rfl⟩ : ∃ e, d = e + 1 := ⟨d - 1, by omega⟩
  exact fn_ok (c := codeOf Try.f46) Try.func46 (by kernel_rfl) (rec := memory_Memory_at.calls memory_Memory_Size memory_Memory_Storefn1) (fun g a h k hx => by
    rcases memory_Memory_Size.look d (by omega) hx with hx | hx
    rotate_left
    · exact hx
    rcases memory_Memory_Storefn1.look d (by omega) hx with hx | hx
    rotate_left
    · exact hx
    cases hx) (loopf := memory_Memory_at.loops) (by
    have e : loopsOf (memory_Memory_at.loops) 0 (codeOf Try.f46) = [] := by kernel_rfl
    rw [e]
    intro p hp
    cases hp) ((memory_Memory_at.eq memory_Memory_Size memory_Memory_Storefn1 n132 b133 ns134 n135 k).trans hx)
theorem memory_Memory_at.look (d : Nat) (hd : 2 ≤ d) {e : Option Bool} {g : FuncId} {a : List AV} {h : Heap} {k : KR} (hx : memory_Memory_at.get memory_Memory_at e g a h k = some true) : e = some true ∨ callK Try.prog ht d g a h k = some true := by
  unfold memory_Memory_at.get at hx
  split at hx
  · exact .inr (memory_Memory_at.ok d hd _ _ _ _ _ hx)
  · exact .inl hx
/-- function 50: (*sheerleg/memory.Memory).Store -/
noncomputable def memory_Memory_Store.body (memory_Memory_at : Int → Bool → (List Int) → Int → (Bool → Bool → (List Int) → Int → Option Bool) → Option Bool) (n128 : Int) (n129 : Int) (b130 : Bool) (ns131 : List Int) (k1 : Bool → Bool → (List Int) → Option Bool) : Option Bool :=
  (memory_Memory_at n128 b130 ns131 n129
  (fun b146 b147 ns148 n149 => (k1 b146 b147 ns148)))
noncomputable def memory_Memory_Store (n128 : Int) (n129 : Int) (b130 : Bool) (ns131 : List Int) (k1 : Bool → Bool → (List Int) → Option Bool) : Option Bool := memory_Memory_Store.body memory_Memory_at n128 n129 b130 ns131 k1
noncomputable def memory_Memory_Store.get (F : Int → Int → Bool → (List Int) → (Bool → Bool → (List Int) → Option Bool) → Option Bool) (e : Option Bool) (g : FuncId) (a : List AV) (h : Heap) (k : KR) : Option Bool := match g, a, h with
  | 50, [(.ptr [0, 0] 0 0), (.d ⟨(.int .i64), n128⟩), (.d ⟨(.int .i64), n129⟩)], [([0, 0], ⟨61, 2, (.mix [(.agg [(.ref [0, 1]), (.d ⟨.bool, b130⟩)])])⟩), ([0, 1], ⟨2, 1, (.data (.int .i64) ns131)⟩)] => F n128 n129 b130 ns131 (fun y0 y1 y2 => k (.d ⟨.bool, y0⟩) [([0, 0], ⟨61, 2, (.mix [(.agg [(.ref [0, 1]), (.d ⟨.bool, y1⟩)])])⟩), ([0, 1], ⟨2, 1, (.data (.int .i64) y2)⟩)])
  | _, _, _ => e
noncomputable def memory_Memory_Store.calls (F0 : Int → Bool → (List Int) → Int → (Bool → Bool → (List Int) → Int → Option Bool) → Option Bool) : RecF := fun g a h k => (memory_Memory_at.get F0 none g a h k)
noncomputable def memory_Memory_Store.loops : LoopF := fun b => none
set_option maxRecDepth 100000 in
theorem memory_Memory_Store.eq (F0 : Int → Bool → (List Int) → Int → (Bool → Bool → (List Int) → Int → Option Bool) → Option Bool) (n128 : Int) (n129 : Int) (b130 : Bool) (ns131 : List Int) (k : KR) : execL Try.prog ht 50 (callfOf (memory_Memory_Store.calls F0)) (memory_Memory_Store.loops) 0 (codeOf Try.f50) ⟨[(.ptr [0, 0] 0 0), (.d ⟨(.int .i64), n128⟩), (.d ⟨(.int .i64), n129⟩)] ++ List.replicate (Try.f50.ntmps - ([(.ptr [0, 0] 0 0), (.d ⟨(.int .i64), n128⟩), (.d ⟨(.int .i64), n129⟩)] : List AV).length) .undef, [([0, 0], ⟨61, 2, (.mix [(.agg [(.ref [0, 1]), (.d ⟨.bool, b130⟩)])])⟩), ([0, 1], ⟨2, 1, (.data (.int .i64) ns131)⟩)], 2⟩ (leave Try.prog Try.f50 k) = memory_Memory_Store.body F0 n128 n129 b130 ns131 (fun y0 y1 y2 => k (.d ⟨.bool, y0⟩) [([0, 0], ⟨61, 2, (.mix [(.agg [(.ref [0, 1]), (.d ⟨.bool, y1⟩)])])⟩), ([0, 1], ⟨2, 1, (.data (.int .i64) y2)⟩)]) := by kernel_rfl
theorem memory_Memory_Store.ok (d : Nat) (hd : 3 ≤ d) (n128 : Int) (n129 : Int) (b130 : Bool) (ns131 : List Int) (k : KR) (hx : memory_Memory_Store n128 n129 b130 ns131 (fun y0 y1 y2 => k (.d ⟨.bool, y0⟩) [([0, 0], ⟨61, 2, (.mix [(.agg [(.ref [0, 1]), (.d ⟨.bool, y1⟩)])])⟩), ([0, 1], ⟨2, 1, (.data (.int .i64) y2)⟩)]) = some true) : callK Try.prog ht d 50 [(.ptr [0, 0] 0 0), (.d ⟨(.int .i64), n128⟩), (.d ⟨(.int .i64), n129⟩)] [([0, 0], ⟨61, 2, (.mix [(.agg [(.ref [0, 1]), (.d ⟨.bool, b130⟩)])])⟩), ([0, 1], ⟨2, 1, (.data (.int .i64) ns131)⟩)] k = some true := by
  obtain ⟨d, rfl⟩ : ∃ e, d = e + 1 := ⟨d - 1, by omega⟩
  exact fn_ok (c := codeOf Try.f50) Try.func50 (by kernel_rfl) (rec := memory_Memory_Store.calls memory_Memory_at) (fun g a h k hx => by
    rcases memory_Memory_at.look d (by omega) hx with hx | hx
    rotate_left
    · exact hx
    cases hx) (loopf := memory_Memory_Store.loops) (by
    have e : loopsOf (memory_Memory_Store.loops) 0 (codeOf Try.f50) = [] := by kernel_rfl
    rw [e]
    intro p hp
    cases hp) ((memory_Memory_Store.eq memory_Memory_at n128 n129 b130 ns131 k).trans hx)
theorem memory_Memory_Store.look (d : Nat) (hd : 3 ≤ d) {e : Option Bool} {g : FuncId} {a : List AV} {h : Heap} {k : KR} (hx : memory_Memory_Store.get memory_Memory_Store e g a h k = some true) : e = some true ∨ callK Try.prog ht d g a h k = some true := by
  unfold memory_Memory_Store.get at hx
  split at hx
  · exact .inr (memory_Memory_Store.ok d hd _ _ _ _ _ hx)
  · exact .inl hx
/-- function 33: (*sheerleg/stack.Stack).write -/
noncomputable def stack_Stack_write.body (stack_Stack_live : Int → Int → Int → Int → Int → Int → Int → Bool → (List Int) → (Bool → Int → Int → Int → Int → Int → Int → Int → Bool → (List Int) → Option Bool) → Option Bool) (memory_Memory_Store : Int → Int → Bool → (List Int) → (Bool → Bool → (List Int) → Option Bool) → Option Bool) (n107 : Int) (n108 : Int) (n109 : Int) (n110 : Int) (n111 : Int) (n112 : Int) (n113 : Int) (n114 : Int) (n115 : Int) (b116 : Bool) (ns117 : List Int) (k1 : Bool → Int → Int → Int → Int → Int → Int → Int → Bool → (List Int) → Option Bool) : Option Bool :=
  (stack_Stack_live n109 n110 n111 n112 n113 n114 n115 b116 ns117
  (fun b118 n119 n120 n121 n122 n123 n124 n125 b126 ns127 => (cond_ (! (! b118)) (cond_ (! (decide (n107 < n119))) (cond_ (! (decide (n107 ≥ n121))) (memory_Memory_Store n107 n108 b126 ns127
  (fun b150 b151 ns152 => (cond_ (! b150) (k1 false n119 n120 n121 n122 n123 n124 n125 b151 ns152) (k1 true n119 n120 n121 n122 n123 n124 (if ((IntKind.wrap .i64 (n107 - n119)) < n125) then (IntKind.wrap .i64 (n107 - n119)) else n125) b151 ns152)))) (k1 false n119 n120 n121 n122 n123 n124 n125 b126 ns127)) (k1 false n119 n120 n121 n122 n123 n124 n125 b126 ns127)) (k1 false n119 n120 n121 n122 n123 n124 n125 b126 ns127))))
noncomputable def stack_Stack_write (n107 : Int) (n108 : Int) (n109 : Int) (n110 : Int) (n111 : Int) (n112 : Int) (n113 : Int) (n114 : Int) (n115 : Int) (b116 : Bool) (ns117 : List Int) (k1 : Bool → Int → Int → Int → Int → Int → Int → Int → Bool → (List Int) → Option Bool) : Option Bool := stack_Stack_write.body stack_Stack_live memory_Memory_Store n107 n108 n109 n110 n111 n112 n113 n114 n115 b116 ns117 k1
noncomputable def stack_Stack_write.get (F : Int → Int → Int → Int → Int → Int → Int → Int → Int → Bool → (List Int) → (Bool → Int → Int → Int → Int → Int → Int → Int → Bool → (List Int) → Option Bool) → Option Bool) (e : Option Bool) (g : FuncId) (a : List AV) (h : Heap) (k : KR) : Option Bool := match g, a, h with
  | 33, [(.ptr [0, 0] 0 0), (.d ⟨(.int .i64), n107⟩), (.d ⟨(.int .i64), n108⟩)], [([0, 0], ⟨53, 8, (.mix [(.agg [(.ptr [0, 1] 0 0), (.d ⟨(.int .i64), n109⟩), (.d ⟨(.int .i64), n110⟩), (.d ⟨(.int .i64), n111⟩), (.d ⟨(.int .i64), n112⟩), (.d ⟨(.int .i64), n113⟩), (.d ⟨(.int .i64), n114⟩), (.d ⟨(.int .i64), n115⟩)])])⟩), ([0, 1], ⟨61, 2, (.mix [(.agg [(.ref [0, 2]), (.d ⟨.bool, b116⟩)])])⟩), ([0, 2], ⟨2, 1, (.data (.int .i64) ns117)⟩)] => F n107 n108 n109 n110 n111 n112 n113 n114 n115 b116 ns117 (fun y0 y1 y2 y3 y4 y5 y6 y7 y8 y9 => k (.d ⟨.bool, y0⟩) [([0, 0], ⟨53, 8, (.mix [(.agg [(.ptr [0, 1] 0 0), (.d ⟨(.int .i64), y1⟩), (.d ⟨(.int .i64), y2⟩), (.d ⟨(.int .i64), y3⟩), (.d ⟨(.int .i64), y4⟩), (.d ⟨(.int .i64), y5⟩), (.d ⟨(.int .i64), y6⟩), (.d ⟨(.int .i64), y7⟩)])])⟩), ([0, 1], ⟨61, 2, (.mix [(.agg [(.ref [0, 2]), (.d ⟨.bool, y8⟩)])])⟩), ([0, 2], ⟨2, 1, (.data (.int .i64) y9)⟩)])
  | _, _, _ => e
noncomputable def stack_Stack_write.calls (F0 : Int → Int → Int → Int → Int → Int → Int → Bool → (List Int) → (Bool → Int → Int → Int → Int → Int → Int → Int → Bool → (List Int) → Option Bool) → Option Bool) (F1 : Int → Int → Bool → (List Int) → (Bool → Bool → (List Int) → Option Bool) → Option Bool) : RecF := fun g a h k => (stack_Stack_live.get F0 (memory_Memory_Store.get F1 none g a h k) g a h k)
noncomputable def stack_Stack_write.loops : LoopF := fun b => none
set_option maxRecDepth 100000 in
theorem stack_Stack_write.eq (F0 : Int → Int → Int → Int → Int → Int → Int → Bool → (List Int) → (Bool → Int → Int → Int → Int → Int → Int → Int → Bool → (List Int) → Option Bool) → Option Bool) (F1 : Int → Int → Bool → (List Int) → (Bool → Bool → (List Int) → Option Bool) → Option Bool) (n107 : Int) (n108 : Int) (n109 : Int) (n110 : Int) (n111 : Int) (n112 : Int) (n113 : Int) (n114 : Int) (n115 : Int) (b116 : Bool) (ns117 : List Int) (k : KR) : execL Try.prog ht 33 (callfOf (stack_Stack_write.calls F0 F1)) (stack_Stack_write.loops) 0 (codeOf Try.f33) ⟨[(.ptr [0, 0] 0 0), (.d ⟨(.int .i64), n107⟩), (.d ⟨(.int .i64), n108⟩)] ++ List.replicate (Try.f33.ntmps - ([(.ptr [0, 0] 0 0), (.d ⟨(.int .i64), n107⟩), (.d ⟨(.int .i64), n108⟩)] : List AV).length) .undef, [([0, 0], ⟨53, 8, (.mix [(.agg [(.ptr [0, 1] 0 0), (.d ⟨(.int .i64), n109⟩), (.d ⟨(.int .i64), n110⟩), (.d ⟨(.int .i64), n111⟩), (.d ⟨(.int .i64), n112⟩), (.d ⟨(.int .i64), n113⟩), (.d ⟨(.int .i64), n114⟩), (.d ⟨(.int .i64), n115⟩)])])⟩), ([0, 1], ⟨61, 2, (.mix [(.agg [(.ref [0, 2]), (.d ⟨.bool, b116⟩)])])⟩), ([0, 2], ⟨2, 1, (.data (.int .i64) ns117)⟩)], 2⟩ (leave Try.prog Try.f33 k) = stack_Stack_write.body F0 F1 n107 n108 n109 n110 n111 n112 n113 n114 n115 b116 ns117 (fun y0 y1 y2 y3 y4 y5 y6 y7 y8 y9 => k (.d ⟨.bool, y0⟩) [([0, 0], ⟨53, 8, (.mix [(.agg [(.ptr [0, 1] 0 0), (.d ⟨(.int .i64), y1⟩), (.d ⟨(.int .i64), y2⟩), (.d ⟨(.int .i64), y3⟩), (.d ⟨(.int .i64), y4⟩), (.d ⟨(.int .i64), y5⟩), (.d ⟨(.int .i64), y6⟩), (.d ⟨(.int .i64), y7⟩)])])⟩), ([0, 1], ⟨61, 2, (.mix [(.agg [(.ref [0, 2]), (.d ⟨.bool, y8⟩)])])⟩), ([0, 2], ⟨2, 1, (.data (.int .i64) y9)⟩)]) := by kernel_rfl
theorem stack_Stack_write.ok (d : Nat) (hd : 4 ≤ d) (n107 : Int) (n108 : Int) (n109 : Int) (n110 : Int) (n111 : Int) (n112 : Int) (n113 : Int) (n114 : Int) (n115 : Int) (b116 : Bool) (ns117 : List Int) (k : KR) (hx : stack_Stack_write n107 n108 n109 n110 n111 n112 n113 n114 n115 b116 ns117 (fun y0 y1 y2 y3 y4 y5 y6 y7 y8 y9 => k (.d ⟨.bool, y0⟩) [([0, 0], ⟨53, 8, (.mix [(.agg [(.ptr [0, 1] 0 0), (.d ⟨(.int .i64), y1⟩), (.d ⟨(.int .i64), y2⟩), (.d ⟨(.int .i64), y3⟩), (.d ⟨(.int .i64), y4⟩), (.d ⟨(.int .i64), y5⟩), (.d ⟨(.int .i64), y6⟩), (.d ⟨(.int .i64), y7⟩)])])⟩), ([0, 1], ⟨61, 2, (.mix [(.agg [(.ref [0, 2]), (.d ⟨.bool, y8⟩)])])⟩), ([0, 2], ⟨2, 1, (.data (.int .i64) y9)⟩)]) = some true) : callK Try.prog ht d 33 [(.ptr [0, 0] 0 0), (.d ⟨(.int .i64), n107⟩), (.d ⟨(.int .i64), n108⟩)] [([0, 0], ⟨53, 8, (.mix [(.agg [(.ptr [0, 1] 0 0), (.d ⟨(.int .i64), n109⟩), (.d ⟨(.int .i64), n110⟩), (.d ⟨(.int .i64), n111⟩), (.d ⟨(.int .i64), n112⟩), (.d ⟨(.int .i64), n113⟩), (.d ⟨(.int .i64), n114⟩), (.d ⟨(.int .i64), n115⟩)])])⟩), ([0, 1], ⟨61, 2, (.mix [(.agg [(.ref [0, 2]), (.d ⟨.bool, b116⟩)])])⟩), ([0, 2], ⟨2, 1, (.data (.int .i64) ns117)⟩)] k = some true := by
  obtain ⟨d, rfl⟩ : ∃ e, d = e + 1 := ⟨d - 1, by omega⟩
  exact fn_ok (c := codeOf Try.f33) Try.func33 (by kernel_rfl) (rec := stack_Stack_write.calls stack_Stack_live memory_Memory_Store) (fun g a h k hx => by
    rcases stack_Stack_live.look d (by omega) hx with hx | hx
    rotate_left
    · exact hx
    rcases memory_Memory_Store.look d (by omega) hx with hx | hx
    rotate_left
    · exact hx
    cases hx) (loopf := stack_Stack_write.loops) (by
    have e : loopsOf (stack_Stack_write.loops) 0 (codeOf Try.f33) = [] := by kernel_rfl
    rw [e]
    intro p hp
    cases hp) ((stack_Stack_write.eq stack_Stack_live memory_Memory_Store n107 n108 n109 n110 n111 n112 n113 n114 n115 b116 ns117 k).trans hx)
theorem stack_Stack_write.look (d : Nat) (hd : 4 ≤ d) {e : Option Bool} {g : FuncId} {a : List AV} {h : Heap} {k : KR} (hx : stack_Stack_write.get stack_Stack_write e g a h k = some true) : e = some true ∨ callK Try.prog ht d g a h k = some true := by
  unfold stack_Stack_write.get at hx
  split at hx
  · exact .inr (stack_Stack_write.ok d hd _ _ _ _ _ _ _ _ _ _ _ _ hx)
  · exact .inl hx
/-- function 32: (*sheerleg/stack.Stack).ahead -/
noncomputable def stack_Stack_ahead.body (stack_Stack_SP : Int → Int → Int → Int → Int → Int → Int → Bool → (List Int) → (Int → Int → Int → Int → Int → Int → Int → Int → Bool → (List Int) → Option Bool) → Option Bool) (stack_Stack_write : Int → Int → Int → Int → Int → Int → Int → Int → Int → Bool → (List Int) → (Bool → Int → Int → Int → Int → Int → Int → Int → Bool → (List Int) → Option Bool) → Option Bool) (n59 : Int) (n60 : Int) (n61 : Int) (n62 : Int) (n63 : Int) (n64 : Int) (n65 : Int) (n66 : Int) (b67 : Bool) (ns68 : List Int) (k1 : Bool → Int → Int → Int → Int → Int → Int → Int → Bool → (List Int) → Option Bool) : Option Bool :=
  (stack_Stack_SP n60 n61 n62 n63 n64 n65 n66 b67 ns68
  (fun n97 n98 n99 n100 n101 n102 n103 n104 b105 ns106 => (stack_Stack_write (IntKind.wrap .i64 (n97 - (1 : Int))) n59 n98 n99 n100 n101 n102 n103 n104 b105 ns106
  (fun b153 n154 n155 n156 n157 n158 n159 n160 b161 ns162 => (k1 b153 n154 n155 n156 n157 n158 n159 n160 b161 ns162)))))
noncomputable def stack_Stack_ahead (n59 : Int) (n60 : Int) (n61 : Int) (n62 : Int) (n63 : Int) (n64 : Int) (n65 : Int) (n66 : Int) (b67 : Bool) (ns68 : List Int) (k1 : Bool → Int → Int → Int → Int → Int → Int → Int → Bool → (List Int) → Option Bool) : Option Bool := stack_Stack_ahead.body stack_Stack_SP stack_Stack_write n59 n60 n61 n62 n63 n64 n65 n66 b67 ns68 k1
noncomputable def stack_Stack_ahead.get (F : Int → Int → Int → Int → Int → Int → Int → Int → Bool → (List Int) → (Bool → Int → Int → Int → Int → Int → Int → Int → Bool → (List Int) → Option Bool) → Option Bool) (e : Option Bool) (g : FuncId) (a : List AV) (h : Heap) (k : KR) : Option Bool := match g, a, h with
  | 32, [(.ptr [0, 0] 0 0), (.fn (.func 33) [(.ptr [0, 0] 0 0)] []), (.d ⟨(.int .i64), n59⟩)], [([0, 0], ⟨53, 8, (.mix [(.agg [(.ptr [0, 1] 0 0), (.d ⟨(.int .i64), n60⟩), (.d ⟨(.int .i64), n61⟩), (.d ⟨(.int .i64), n62⟩), (.d ⟨(.int .i64), n63⟩), (.d ⟨(.int .i64), n64⟩), (.d ⟨(.int .i64), n65⟩), (.d ⟨(.int .i64), n66⟩)])])⟩), ([0, 1], ⟨61, 2, (.mix [(.agg [(.ref [0, 2]), (.d ⟨.bool, b67⟩)])])⟩), ([0, 2], ⟨2, 1, (.data (.int .i64) ns68)⟩)] => F n59 n60 n61 n62 n63 n64 n65 n66 b67 ns68 (fun y0 y1 y2 y3 y4 y5 y6 y7 y8 y9 => k (.d ⟨.bool, y0⟩) [([0, 0], ⟨53, 8, (.mix [(.agg [(.ptr [0, 1] 0 0), (.d ⟨(.int .i64), y1⟩), (.d ⟨(.int .i64), y2⟩), (.d ⟨(.int .i64), y3⟩), (.d ⟨(.int .i64), y4⟩), (.d ⟨(.int .i64), y5⟩), (.d ⟨(.int .i64), y6⟩), (.d ⟨(.int .i64), y7⟩)])])⟩), ([0, 1], ⟨61, 2, (.mix [(.agg [(.ref [0, 2]), (.d ⟨.bool, y8⟩)])])⟩), ([0, 2], ⟨2, 1, (.data (.int .i64) y9)⟩)])
  | _, _, _ => e
noncomputable def stack_Stack_ahead.calls (F0 : Int → Int → Int → Int → Int → Int → Int → Bool → (List Int) → (Int → Int → Int → Int → Int → Int → Int → Int → Bool → (List Int) → Option Bool) → Option Bool) (F1 : Int → Int → Int → Int → Int → Int → Int → Int → Int → Bool → (List Int) → (Bool → Int → Int → Int → Int → Int → Int → Int → Bool → (List Int) → Option Bool) → Option Bool) : RecF := fun g a h k => (stack_Stack_SP.get F0 (stack_Stack_write.get F1 none g a h k) g a h k)
noncomputable def stack_Stack_ahead.loops : LoopF := fun b => none
set_option maxRecDepth 100000 in
theorem stack_Stack_ahead.eq (F0 : Int → Int → Int → Int → Int → Int → Int → Bool → (List Int) → (Int → Int → Int → Int → Int → Int → Int → Int → Bool → (List Int) → Option Bool) → Option Bool) (F1 : Int → Int → Int → Int → Int → Int → Int → Int → Int → Bool → (List Int) → (Bool → Int → Int → Int → Int → Int → Int → Int → Bool → (List Int) → Option Bool) → Option Bool) (n59 : Int) (n60 : Int) (n61 : Int) (n62 : Int) (n63 : Int) (n64 : Int) (n65 : Int) (n66 : Int) (b67 : Bool) (ns68 : List Int) (k : KR) : execL Try.prog ht 32 (callfOf (stack_Stack_ahead.calls F0 F1)) (stack_Stack_ahead.loops) 0 (codeOf Try.f32) ⟨[(.ptr [0, 0] 0 0), (.fn (.func 33) [(.ptr [0, 0] 0 0)] []), (.d ⟨(.int .i64), n59⟩)] ++ List.replicate (Try.f32.ntmps - ([(.ptr [0, 0] 0 0), (.fn (.func 33) [(.ptr [0, 0] 0 0)] []), (.d ⟨(.int .i64), n59⟩)] : List AV).length) .undef, [([0, 0], ⟨53, 8, (.mix [(.agg [(.ptr [0, 1] 0 0), (.d ⟨(.int .i64), n60⟩), (.d ⟨(.int .i64), n61⟩), (.d ⟨(.int .i64), n62⟩), (.d ⟨(.int .i64), n63⟩), (.d ⟨(.int .i64), n64⟩), (.d ⟨(.int .i64), n65⟩), (.d ⟨(.int .i64), n66⟩)])])⟩), ([0, 1], ⟨61, 2, (.mix [(.agg [(.ref [0, 2]), (.d ⟨.bool, b67⟩)])])⟩), ([0, 2], ⟨2, 1, (.data (.int .i64) ns68)⟩)], 2⟩ (leave Try.prog Try.f32 k) = stack_Stack_ahead.body F0 F1 n59 n60 n61 n62 n63 n64 n65 n66 b67 ns68 (fun y0 y1 y2 y3 y4 y5 y6 y7 y8 y9 => k (.d ⟨.bool, y0⟩) [([0, 0], ⟨53, 8, (.mix [(.agg [(.ptr [0, 1] 0 0), (.d ⟨(.int .i64), y1⟩), (.d ⟨(.int .i64), y2⟩), (.d ⟨(.int .i64), y3⟩), (.d ⟨(.int .i64), y4⟩), (.d ⟨(.int .i64), y5⟩), (.d ⟨(.int .i64), y6⟩), (.d ⟨(.int .i64), y7⟩)])])⟩), ([0, 1], ⟨61, 2, (.mix [(.agg [(.ref [0, 2]), (.d ⟨.bool, y8⟩)])])⟩), ([0, 2], ⟨2, 1, (.data (.int .i64) y9)⟩)]) := by kernel_rfl
theorem stack_Stack_ahead.ok (d : Nat) (hd : 5 ≤ d) (n59 : Int) (n60 : Int) (n61 : Int) (n62 : Int) (n63 : Int) (n64 : Int) (n65 : Int) (n66 : Int) (b67 : Bool) (ns68 : List Int) (k : KR) (hx : stack_Stack_ahead n59 n60 n61 n62 n63 n64 n65 n66 b67 ns68 (fun y0 y1 y2 y3 y4 y5 y6 y7 y8 y9 => k (.d ⟨.bool, y0⟩) [([0, 0], ⟨53, 8, (.mix [(.agg [(.ptr [0, 1] 0 0), (.d ⟨(.int .i64), y1⟩), (.d ⟨(.int .i64), y2⟩), (.d ⟨(.int .i64), y3⟩), (.d ⟨(.int .i64), y4⟩), (.d ⟨(.int .i64), y5⟩), (.d ⟨(.int .i64), y6⟩), (.d ⟨(.int .i64), y7⟩)])])⟩), ([0, 1], ⟨61, 2, (.mix [(.agg [(.ref [0, 2]), (.d ⟨.bool, y8⟩)])])⟩), ([0, 2], ⟨2, 1, (.data (.int .i64) y9)⟩)]) = some true) : callK Try.prog ht d 32 [(.ptr [0, 0] 0 0), (.fn (.func 33) [(.ptr [0, 0] 0 0)] []), (.d ⟨(.int .i64), n59⟩)] [([0, 0], ⟨53, 8, (.mix [(.agg [(.ptr [0, 1] 0 0), (.d ⟨(.int .i64), n60⟩), (.d ⟨(.int .i64), n61⟩), (.d ⟨(.int .i64), n62⟩), (.d ⟨(.int .i64), n63⟩), (.d ⟨(.int .i64), n64⟩), (.d ⟨(.int .i64), n65⟩), (.d ⟨(.int .i64), n66⟩)])])⟩), ([0, 1], ⟨61, 2, (.mix [(.agg [(.ref [0, 2]), (.d ⟨.bool, b67⟩)])])⟩), ([0, 2], ⟨2, 1, (.data (.int .i64) ns68)⟩)] k = some true := by
  obtain ⟨d, rfl⟩ : ∃ e, d = e + 1 := ⟨d - 1, by omega⟩
  exact fn_ok (c := codeOf Try.f32) Try.func32 (by kernel_rfl) (rec := stack_Stack_ahead.calls stack_Stack_SP stack_Stack_write) (fun g a h k hx => by
    rcases stack_Stack_SP.look d (by omega) hx with hx | hx
    rotate_left
    · exact hx
    rcases stack_Stack_write.look d (by omega) hx with hx | hx
    rotate_left
    · exact hx
    cases hx) (loopf := stack_Stack_ahead.loops) (by
    have e : loopsOf (stack_Stack_ahead.loops) 0 (codeOf Try.f32) = [] := by kernel_rfl
    rw [e]
    intro p hp
    cases hp) ((stack_Stack_ahead.eq stack_Stack_SP stack_Stack_write n59 n60 n61 n62 n63 n64 n65 n66 b67 ns68 k).trans hx)
theorem stack_Stack_ahead.look (d : Nat) (hd : 5 ≤ d) {e : Option Bool} {g : FuncId} {a : List AV} {h : Heap} {k : KR} (hx : stack_Stack_ahead.get stack_Stack_ahead e g a h k = some true) : e = some true ∨ callK Try.prog ht d g a h k = some true := by
  unfold stack_Stack_ahead.get at hx
  split at hx
  · exact .inr (stack_Stack_ahead.ok d hd _ _ _ _ _ _ _ _ _ _ _ hx)
  · exact .inl hx
/-- function 10: (*sheerleg/stack.Stack).Push -/
noncomputable def stack_Stack_Push.body (stack_Stack_ahead : Int → Int → Int → Int → Int → Int → Int → Int → Bool → (List Int) → (Bool → Int → Int → Int → Int → Int → Int → Int → Bool → (List Int) → Option Bool) → Option Bool) (n49 : Int) (n50 : Int) (n51 : Int) (n52 : Int) (n53 : Int) (n54 : Int) (n55 : Int) (n56 : Int) (b57 : Bool) (ns58 : List Int) (k1 : Bool → Int → Int → Int → Int → Int → Int → Int → Bool → (List Int) → Option Bool) : Option Bool :=
  (stack_Stack_ahead n49 n50 n51 n52 n53 n54 n55 n56 b57 ns58
  (fun b163 n164 n165 n166 n167 n168 n169 n170 b171 ns172 => (cond_ (! b163) (k1 false n164 n165 n166 n167 n168 n169 n170 b171 ns172) (k1 true n164 n165 n166 (IntKind.wrap .i64 (n167 - (1 : Int))) n168 n169 n170 b171 ns172))))
noncomputable def stack_Stack_Push (n49 : Int) (n50 : Int) (n51 : Int) (n52 : Int) (n53 : Int) (n54 : Int) (n55 : Int) (n56 : Int) (b57 : Bool) (ns58 : List Int) (k1 : Bool → Int → Int → Int → Int → Int → Int → Int → Bool → (List Int) → Option Bool) : Option Bool := stack_Stack_Push.body stack_Stack_ahead n49 n50 n51 n52 n53 n54 n55 n56 b57 ns58 k1
noncomputable def stack_Stack_Push.get (F : Int → Int → Int → Int → Int → Int → Int → Int → Bool → (List Int) → (Bool → Int → Int → Int → Int → Int → Int → Int → Bool → (List Int) → Option Bool) → Option Bool) (e : Option Bool) (g : FuncId) (a : List AV) (h : Heap) (k : KR) : Option Bool := match g, a, h with
  | 10, [(.ptr [0, 0] 0 0), (.d ⟨(.int .i64), n49⟩)], [([0, 0], ⟨53, 8, (.mix [(.agg [(.ptr [0, 1] 0 0), (.d ⟨(.int .i64), n50⟩), (.d ⟨(.int .i64), n51⟩), (.d ⟨(.int .i64), n52⟩), (.d ⟨(.int .i64), n53⟩), (.d ⟨(.int .i64), n54⟩), (.d ⟨(.int .i64), n55⟩), (.d ⟨(.int .i64), n56⟩)])])⟩), ([0, 1], ⟨61, 2, (.mix [(.agg [(.ref [0, 2]), (.d ⟨.bool, b57⟩)])])⟩), ([0, 2], ⟨2, 1, (.data (.int .i64) ns58)⟩)] => F n49 n50 n51 n52 n53 n54 n55 n56 b57 ns58 (fun y0 y1 y2 y3 y4 y5 y6 y7 y8 y9 => k (.d ⟨.bool, y0⟩) [([0, 0], ⟨53, 8, (.mix [(.agg [(.ptr [0, 1] 0 0), (.d ⟨(.int .i64), y1⟩), (.d ⟨(.int .i64), y2⟩), (.d ⟨(.int .i64), y3⟩), (.d ⟨(.int .i64), y4⟩), (.d ⟨(.int .i64), y5⟩), (.d ⟨(.int .i64), y6⟩), (.d ⟨(.int .i64), y7⟩)])])⟩), ([0, 1], ⟨61, 2, (.mix [(.agg [(.ref [0, 2]), (.d ⟨.bool, y8⟩)])])⟩), ([0, 2], ⟨2, 1, (.data (.int .i64) y9)⟩)])
  | _, _, _ => e
noncomputable def stack_Stack_Push.calls (F0 : Int → Int → Int → Int → Int → Int → Int → Int → Bool → (List Int) → (Bool → Int → Int → Int → Int → Int → Int → Int → Bool → (List Int) → Option Bool) → Option Bool) : RecF := fun g a h k => (stack_Stack_ahead.get F0 none g a h k)
noncomputable def stack_Stack_Push.loops : LoopF := fun b => none
set_option maxRecDepth 100000 in
theorem stack_Stack_Push.eq (F0 : Int → Int → Int → Int → Int → Int → Int → Int → Bool → (List Int) → (Bool → Int → Int → Int → Int → Int → Int → Int → Bool → (List Int) → Option Bool) → Option Bool) (n49 : Int) (n50 : Int) (n51 : Int) (n52 : Int) (n53 : Int) (n54 : Int) (n55 : Int) (n56 : Int) (b57 : Bool) (ns58 : List Int) (k : KR) : execL Try.prog ht 10 (callfOf (stack_Stack_Push.calls F0)) (stack_Stack_Push.loops) 0 (codeOf Try.f10) ⟨[(.ptr [0, 0] 0 0), (.d ⟨(.int .i64), n49⟩)] ++ List.replicate (Try.f10.ntmps - ([(.ptr [0, 0] 0 0), (.d ⟨(.int .i64), n49⟩)] : List AV).length) .undef, [([0, 0], ⟨53, 8, (.mix [(.agg [(.ptr [0, 1] 0 0), (.d ⟨(.int .i64), n50⟩), (.d ⟨(.int .i64), n51⟩), (.d ⟨(.int .i64), n52⟩), (.d ⟨(.int .i64), n53⟩), (.d ⟨(.int .i64), n54⟩), (.d ⟨(.int .i64), n55⟩), (.d ⟨(.int .i64), n56⟩)])])⟩), ([0, 1], ⟨61, 2, (.mix [(.agg [(.ref [0, 2]), (.d ⟨.bool, b57⟩)])])⟩), ([0, 2], ⟨2, 1, (.data (.int .i64) ns58)⟩)], 2⟩ (leave Try.prog Try.f10 k) = stack_Stack_Push.body F0 n49 n50 n51 n52 n53 n54 n55 n56 b57 ns58 (fun y0 y1 y2 y3 y4 y5 y6 y7 y8 y9 => k (.d ⟨.bool, y0⟩) [([0, 0], ⟨53, 8, (.mix [(.agg [(.ptr [0, 1] 0 0), (.d ⟨(.int .i64), y1⟩), (.d ⟨(.int .i64), y2⟩), (.d ⟨(.int .i64), y3⟩), (.d ⟨(.int .i64), y4⟩), (.d ⟨(.int .i64), y5⟩), (.d ⟨(.int .i64), y6⟩), (.d ⟨(.int .i64), y7⟩)])])⟩), ([0, 1], ⟨61, 2, (.mix [(.agg [(.ref [0, 2]), (.d ⟨.bool, y8⟩)])])⟩), ([0, 2], ⟨2, 1, (.data (.int .i64) y9)⟩)]) := by kernel_rfl
theorem stack_Stack_Push.ok (d : Nat) (hd : 6 ≤ d) (n49 : Int) (n50 : Int) (n51 : Int) (n52 : Int) (n53 : Int) (n54 : Int) (n55 : Int) (n56 : Int) (b57 : Bool) (ns58 : List Int) (k : KR) (hx : stack_Stack_Push n49 n50 n51 n52 n53 n54 n55 n56 b57 ns58 (fun y0 y1 y2 y3 y4 y5 y6 y7 y8 y9 => k (.d ⟨.bool, y0⟩) [([0, 0], ⟨53, 8, (.mix [(.agg [(.ptr [0, 1] 0 0), (.d ⟨(.int .i64), y1⟩), (.d ⟨(.int .i64), y2⟩), (.d ⟨(.int .i64), y3⟩), (.d ⟨(.int .i64), y4⟩), (.d ⟨(.int .i64), y5⟩), (.d ⟨(.int .i64), y6⟩), (.d ⟨(.int .i64), y7⟩)])])⟩), ([0, 1], ⟨61, 2, (.mix [(.agg [(.ref [0, 2]), (.d ⟨.bool, y8⟩)])])⟩), ([0, 2], ⟨2, 1, (.data (.int .i64) y9)⟩)]) = some true) : callK Try.prog ht d 10 [(.ptr [0, 0] 0 0), (.d ⟨(.int .i64), n49⟩)] [([0, 0], ⟨53, 8, (.mix [(.agg [(.ptr [0, 1] 0 0), (.d ⟨(.int .i64), n50⟩), (.d ⟨(.int .i64), n51⟩), (.d ⟨(.int .i64), n52⟩), (.d ⟨(.int .i64), n53⟩), (.d ⟨(.int .i64), n54⟩), (.d ⟨(.int .i64), n55⟩), (.d ⟨(.int .i64), n56⟩)])])⟩), ([0, 1], ⟨61, 2, (.mix [(.agg [(.ref [0, 2]), (.d ⟨.bool, b57⟩)])])⟩), ([0, 2], ⟨2, 1, (.data (.int .i64) ns58)⟩)] k = some true := by
  obtain ⟨d, rfl⟩ : ∃ e, d = e + 1 := ⟨d - 1, by omega⟩
  exact fn_ok (c := codeOf Try.f10) Try.func10 (by kernel_rfl) (rec := stack_Stack_Push.calls stack_Stack_ahead) (fun g a h k hx => by
    rcases stack_Stack_ahead.look d (by omega) hx with hx | hx
    rotate_left
    · exact hx
    cases hx) (loopf := stack_Stack_Push.loops) (by
    have e : loopsOf (stack_Stack_Push.loops) 0 (codeOf Try.f10) = [] := by kernel_rfl
    rw [e]
    intro p hp
    cases hp) ((stack_Stack_Push.eq stack_Stack_ahead n49 n50 n51 n52 n53 n54 n55 n56 b57 ns58 k).trans hx)
theorem stack_Stack_Push.look (d : Nat) (hd : 6 ≤ d) {e : Option Bool} {g : FuncId} {a : List AV} {h : Heap} {k : KR} (hx : stack_Stack_Push.get stack_Stack_Push e g a h k = some true) : e = some true ∨ callK Try.prog ht d g a h k = some true := by
  unfold stack_Stack_Push.get at hx
  split at hx
  · exact .inr (stack_Stack_Push.ok d hd _ _ _ _ _ _ _ _ _ _ _ hx)
  · exact .inl hx
/-- function 14: (*sheerleg/stack.Stack).Seg -/
noncomputable def stack_Stack_Seg.body (stack_Stack_live : Int → Int → Int → Int → Int → Int → Int → Bool → (List Int) → (Bool → Int → Int → Int → Int → Int → Int → Int → Bool → (List Int) → Option Bool) → Option Bool) (n212 : Int) (n213 : Int) (n214 : Int) (n215 : Int) (n216 : Int) (n217 : Int) (n218 : Int) (b219 : Bool) (ns220 : List Int) (k1 : (Int × Int × Int × Unit) → Int → Int → Int → Int → Int → Int → Int → Bool → (List Int) → Option Bool) : Option Bool :=
  (stack_Stack_live n212 n213 n214 n215 n216 n217 n218 b219 ns220
  (fun b221 n222 n223 n224 n225 n226 n227 n228 b229 ns230 => (cond_ (! b221) (k1 ((0 : Int), ((0 : Int), ((0 : Int), ()))) n222 n223 n224 n225 n226 n227 n228 b229 ns230) (k1 (n222, (n223, (n224, ()))) n222 n223 n224 n225 n226 n227 n228 b229 ns230))))
noncomputable def stack_Stack_Seg (n212 : Int) (n213 : Int) (n214 : Int) (n215 : Int) (n216 : Int) (n217 : Int) (n218 : Int) (b219 : Bool) (ns220 : List Int) (k1 : (Int × Int × Int × Unit) → Int → Int → Int → Int → Int → Int → Int → Bool → (List Int) → Option Bool) : Option Bool := stack_Stack_Seg.body stack_Stack_live n212 n213 n214 n215 n216 n217 n218 b219 ns220 k1
noncomputable def stack_Stack_Seg.get (F : Int → Int → Int → Int → Int → Int → Int → Bool → (List Int) → ((Int × Int × Int × Unit) → Int → Int → Int → Int → Int → Int → Int → Bool → (List Int) → Option Bool) → Option Bool) (e : Option Bool) (g : FuncId) (a : List AV) (h : Heap) (k : KR) : Option Bool := match g, a, h with
  | 14, [(.ptr [0, 0] 0 0)], [([0, 0], ⟨53, 8, (.mix [(.agg [(.ptr [0, 1] 0 0), (.d ⟨(.int .i64), n212⟩), (.d ⟨(.int .i64), n213⟩), (.d ⟨(.int .i64), n214⟩), (.d ⟨(.int .i64), n215⟩), (.d ⟨(.int .i64), n216⟩), (.d ⟨(.int .i64), n217⟩), (.d ⟨(.int .i64), n218⟩)])])⟩), ([0, 1], ⟨61, 2, (.mix [(.agg [(.ref [0, 2]), (.d ⟨.bool, b219⟩)])])⟩), ([0, 2], ⟨2, 1, (.data (.int .i64) ns220)⟩)] => F n212 n213 n214 n215 n216 n217 n218 b219 ns220 (fun y0 y1 y2 y3 y4 y5 y6 y7 y8 y9 => k (.d ⟨(.st [(.int .i64), (.int .i64), (.int .i64)]), y0⟩) [([0, 0], ⟨53, 8, (.mix [(.agg [(.ptr [0, 1] 0 0), (.d ⟨(.int .i64), y1⟩), (.d ⟨(.int .i64), y2⟩), (.d ⟨(.int .i64), y3⟩), (.d ⟨(.int .i64), y4⟩), (.d ⟨(.int .i64), y5⟩), (.d ⟨(.int .i64), y6⟩), (.d ⟨(.int .i64), y7⟩)])])⟩), ([0, 1], ⟨61, 2, (.mix [(.agg [(.ref [0, 2]), (.d ⟨.bool, y8⟩)])])⟩), ([0, 2], ⟨2, 1, (.data (.int .i64) y9)⟩)])
  | _, _, _ => e
noncomputable def stack_Stack_Seg.calls (F0 : Int → Int → Int → Int → Int → Int → Int → Bool → (List Int) → (Bool → Int → Int → Int → Int → Int → Int → Int → Bool → (List Int) → Option Bool) → Option Bool) : RecF := fun g a h k => (stack_Stack_live.get F0 none g a h k)
noncomputable def stack_Stack_Seg.loops : LoopF := fun b => none
set_option maxRecDepth 100000 in
theorem stack_Stack_Seg.eq (F0 : Int → Int → Int → Int → Int → Int → Int → Bool → (List Int) → (Bool → Int → Int → Int → Int → Int → Int → Int → Bool → (List Int) → Option Bool) → Option Bool) (n212 : Int) (n213 : Int) (n214 : Int) (n215 : Int) (n216 : Int) (n217 : Int) (n218 : Int) (b219 : Bool) (ns220 : List Int) (k : KR) : execL Try.prog ht 14 (callfOf (stack_Stack_Seg.calls F0)) (stack_Stack_Seg.loops) 0 (codeOf Try.f14) ⟨[(.ptr [0, 0] 0 0)] ++ List.replicate (Try.f14.ntmps - ([(.ptr [0, 0] 0 0)] : List AV).length) .undef, [([0, 0], ⟨53, 8, (.mix [(.agg [(.ptr [0, 1] 0 0), (.d ⟨(.int .i64), n212⟩), (.d ⟨(.int .i64), n213⟩), (.d ⟨(.int .i64), n214⟩), (.d ⟨(.int .i64), n215⟩), (.d ⟨(.int .i64), n216⟩), (.d ⟨(.int .i64), n217⟩), (.d ⟨(.int .i64), n218⟩)])])⟩), ([0, 1], ⟨61, 2, (.mix [(.agg [(.ref [0, 2]), (.d ⟨.bool, b219⟩)])])⟩), ([0, 2], ⟨2, 1, (.data (.int .i64) ns220)⟩)], 2⟩ (leave Try.prog Try.f14 k) = stack_Stack_Seg.body F0 n212 n213 n214 n215 n216 n217 n218 b219 ns220 (fun y0 y1 y2 y3 y4 y5 y6 y7 y8 y9 => k (.d ⟨(.st [(.int .i64), (.int .i64), (.int .i64)]), y0⟩) [([0, 0], ⟨53, 8, (.mix [(.agg [(.ptr [0, 1] 0 0), (.d ⟨(.int .i64), y1⟩), (.d ⟨(.int .i64), y2⟩), (.d ⟨(.int .i64), y3⟩), (.d ⟨(.int .i64), y4⟩), (.d ⟨(.int .i64), y5⟩), (.d ⟨(.int .i64), y6⟩), (.d ⟨(.int .i64), y7⟩)])])⟩), ([0, 1], ⟨61, 2, (.mix [(.agg [(.ref [0, 2]), (.d ⟨.bool, y8⟩)])])⟩), ([0, 2], ⟨2, 1, (.data (.int .i64) y9)⟩)]) := by kernel_rfl
theorem stack_Stack_Seg.ok (d : Nat) (hd : 2 ≤ d) (n212 : Int) (n213 : Int) (n214 : Int) (n215 : Int) (n216 : Int) (n217 : Int) (n218 : Int) (b219 : Bool) (ns220 : List Int) (k : KR) (hx : stack_Stack_Seg n212 n213 n214 n215 n216 n217 n218 b219 ns220 (fun y0 y1 y2 y3 y4 y5 y6 y7 y8 y9 => k (.d ⟨(.st [(.int .i64), (.int .i64), (.int .i64)]), y0⟩) [([0, 0], ⟨53, 8, (.mix [(.agg [(.ptr [0, 1] 0 0), (.d ⟨(.int .i64), y1⟩), (.d ⟨(.int .i64), y2⟩), (.d ⟨(.int .i64), y3⟩), (.d ⟨(.int .i64), y4⟩), (.d ⟨(.int .i64), y5⟩), (.d ⟨(.int .i64), y6⟩), (.d ⟨(.int .i64), y7⟩)])])⟩), ([0, 1], ⟨61, 2, (.mix [(.agg [(.ref [0, 2]), (.d ⟨.bool, y8⟩)])])⟩), ([0, 2], ⟨2, 1, (.data (.int .i64) y9)⟩)]) = some true) : callK Try.prog ht d 14 [(.ptr [0, 0] 0 0)] [([0, 0], ⟨53, 8, (.mix [(.agg [(.ptr [0, 1] 0 0), (.d ⟨(.int .i64), n212⟩), (.d ⟨(.int .i64), n213⟩), (.d ⟨(.int .i64), n214⟩), (.d ⟨(.int .i64), n215⟩), (.d ⟨(.int .i64), n216⟩), (.d ⟨(.int .i64), n217⟩), (.d ⟨(.int .i64), n218⟩)])])⟩), ([0, 1], ⟨61, 2, (.mix [(.agg [(.ref [0, 2]), (.d ⟨.bool, b219⟩)])])⟩), ([0, 2], ⟨2, 1, (.data (.int .i64) ns220)⟩)] k = some true := by
  obtain ⟨d, rfl⟩ : ∃ e, d = e + 1 := ⟨d - 1, by omega⟩
  exact fn_ok (c := codeOf Try.f14) Try.func14 (by kernel_rfl) (rec := stack_Stack_Seg.calls stack_Stack_live) (fun g a h k hx => by
    rcases stack_Stack_live.look d (by omega) hx with hx | hx
    rotate_left
    · exact hx
    cases hx) (loopf := stack_Stack_Seg.loops) (by
    have e : loopsOf (stack_Stack_Seg.loops) 0 (codeOf Try.f14) = [] := by kernel_rfl
    rw [e]
    intro p hp
    cases hp) ((stack_Stack_Seg.eq stack_Stack_live n212 n213 n214 n215 n216 n217 n218 b219 ns220 k).trans hx)
theorem stack_Stack_Seg.look (d : Nat) (hd : 2 ≤ d) {e : Option Bool} {g : FuncId} {a : List AV} {h : Heap} {k : KR} (hx : stack_Stack_Seg.get stack_Stack_Seg e g a h k = some true) : e = some true ∨ callK Try.prog ht d g a h k = some true := by
  unfold stack_Stack_Seg.get at hx
  split at hx
  · exact .inr (stack_Stack_Seg.ok d hd _ _ _ _ _ _ _ _ _ _ hx)
  · exact .inl hx
/-- function 16: (*sheerleg/stack.Stack).Id -/
noncomputable def stack_Stack_Id.body (stack_Stack_Seg : Int → Int → Int → Int → Int → Int → Int → Bool → (List Int) → ((Int × Int × Int × Unit) → Int → Int → Int → Int → Int → Int → Int → Bool → (List Int) → Option Bool) → Option Bool) (stack_Stack_SP : Int → Int → Int → Int → Int → Int → Int → Bool → (List Int) → (Int → Int → Int → Int → Int → Int → Int → Int → Bool → (List Int) → Option Bool) → Option Bool) (n203 : Int) (n204 : Int) (n205 : Int) (n206 : Int) (n207 : Int) (n208 : Int) (n209 : Int) (b210 : Bool) (ns211 : List Int) (k1 : Int → Int → Int → Int → Int → Int → Int → Int → Bool → (List Int) → Option Bool) : Option Bool :=
  (stack_Stack_Seg n203 n204 n205 n206 n207 n208 n209 b210 ns211
  (fun t231 n232 n233 n234 n235 n236 n237 n238 b239 ns240 => (stack_Stack_SP n232 n233 n234 n235 n236 n237 n238 b239 ns240
  (fun n241 n242 n243 n244 n245 n246 n247 n248 b249 ns250 => (k1 (IntKind.wrap .i64 (t231.2.2.1 - n241)) n242 n243 n244 n245 n246 n247 n248 b249 ns250)))))
noncomputable def stack_Stack_Id (n203 : Int) (n204 : Int) (n205 : Int) (n206 : Int) (n207 : Int) (n208 : Int) (n209 : Int) (b210 : Bool) (ns211 : List Int) (k1 : Int → Int → Int → Int → Int → Int → Int → Int → Bool → (List Int) → Option Bool) : Option Bool := stack_Stack_Id.body stack_Stack_Seg stack_Stack_SP n203 n204 n205 n206 n207 n208 n209 b210 ns211 k1
noncomputable def stack_Stack_Id.get (F : Int → Int → Int → Int → Int → Int → Int → Bool → (List Int) → (Int → Int → Int → Int → Int → Int → Int → Int → Bool → (List Int) → Option Bool) → Option Bool) (e : Option Bool) (g : FuncId) (a : List AV) (h : Heap) (k : KR) : Option Bool := match g, a, h with
  | 16, [(.ptr [0, 0] 0 0)], [([0, 0], ⟨53, 8, (.mix [(.agg [(.ptr [0, 1] 0 0), (.d ⟨(.int .i64), n203⟩), (.d ⟨(.int .i64), n204⟩), (.d ⟨(.int .i64), n205⟩), (.d ⟨(.int .i64), n206⟩), (.d ⟨(.int .i64), n207⟩), (.d ⟨(.int .i64), n208⟩), (.d ⟨(.int .i64), n209⟩)])])⟩), ([0, 1], ⟨61, 2, (.mix [(.agg [(.ref [0, 2]), (.d ⟨.bool, b210⟩)])])⟩), ([0, 2], ⟨2, 1, (.data (.int .i64) ns211)⟩)] => F n203 n204 n205 n206 n207 n208 n209 b210 ns211 (fun y0 y1 y2 y3 y4 y5 y6 y7 y8 y9 => k (.d ⟨(.int .i64), y0⟩) [([0, 0], ⟨53, 8, (.mix [(.agg [(.ptr [0, 1] 0 0), (.d ⟨(.int .i64), y1⟩), (.d ⟨(.int .i64), y2⟩), (.d ⟨(.int .i64), y3⟩), (.d ⟨(.int .i64), y4⟩), (.d ⟨(.int .i64), y5⟩), (.d ⟨(.int .i64), y6⟩), (.d ⟨(.int .i64), y7⟩)])])⟩), ([0, 1], ⟨61, 2, (.mix [(.agg [(.ref [0, 2]), (.d ⟨.bool, y8⟩)])])⟩), ([0, 2], ⟨2, 1, (.data (.int .i64) y9)⟩)])
  | _, _, _ => e
noncomputable def stack_Stack_Id.calls (F0 : Int → Int → Int → Int → Int → Int → Int → Bool → (List Int) → ((Int × Int × Int × Unit) → Int → Int → Int → Int → Int → Int → Int → Bool → (List Int) → Option Bool) → Option Bool) (F1 : Int → Int → Int → Int → Int → Int → Int → Bool → (List Int) → (Int → Int → Int → Int → Int → Int → Int → Int → Bool → (List Int) → Option Bool) → Option Bool) : RecF := fun g a h k => (stack_Stack_Seg.get F0 (stack_Stack_SP.get F1 none g a h k) g a h k)
noncomputable def stack_Stack_Id.loops : LoopF := fun b => none
set_option maxRecDepth 100000 in
theorem stack_Stack_Id.eq (F0 : Int → Int → Int → Int → Int → Int → Int → Bool → (List Int) → ((Int × Int × Int × Unit) → Int → Int → Int → Int → Int → Int → Int → Bool → (List Int) → Option Bool) → Option Bool) (F1 : Int → Int → Int → Int → Int → Int → Int → Bool → (List Int) → (Int → Int → Int → Int → Int → Int → Int → Int → Bool → (List Int) → Option Bool) → Option Bool) (n203 : Int) (n204 : Int) (n205 : Int) (n206 : Int) (n207 : Int) (n208 : Int) (n209 : Int) (b210 : Bool) (ns211 : List Int) (k : KR) : execL Try.prog ht 16 (callfOf (stack_Stack_Id.calls F0 F1)) (stack_Stack_Id.loops) 0 (codeOf Try.f16) ⟨[(.ptr [0, 0] 0 0)] ++ List.replicate (Try.f16.ntmps - ([(.ptr [0, 0] 0 0)] : List AV).length) .undef, [([0, 0], ⟨53, 8, (.mix [(.agg [(.ptr [0, 1] 0 0), (.d ⟨(.int .i64), n203⟩), (.d ⟨(.int .i64), n204⟩), (.d ⟨(.int .i64), n205⟩), (.d ⟨(.int .i64), n206⟩), (.d ⟨(.int .i64), n207⟩), (.d ⟨(.int .i64), n208⟩), (.d ⟨(.int .i64), n209⟩)])])⟩), ([0, 1], ⟨61, 2, (.mix [(.agg [(.ref [0, 2]), (.d ⟨.bool, b210⟩)])])⟩), ([0, 2], ⟨2, 1, (.data (.int .i64) ns211)⟩)], 2⟩ (leave Try.prog Try.f16 k) = stack_Stack_Id.body F0 F1 n203 n204 n205 n206 n207 n208 n209 b210 ns211 (fun y0 y1 y2 y3 y4 y5 y6 y7 y8 y9 => k (.d ⟨(.int .i64), y0⟩) [([0, 0], ⟨53, 8, (.mix [(.agg [(.ptr [0, 1] 0 0), (.d ⟨(.int .i64), y1⟩), (.d ⟨(.int .i64), y2⟩), (.d ⟨(.int .i64), y3⟩), (.d ⟨(.int .i64), y4⟩), (.d ⟨(.int .i64), y5⟩), (.d ⟨(.int .i64), y6⟩), (.d ⟨(.int .i64), y7⟩)])])⟩), ([0, 1], ⟨61, 2, (.mix [(.agg [(.ref [0, 2]), (.d ⟨.bool, y8⟩)])])⟩), ([0, 2], ⟨2, 1, (.data (.int .i64) y9)⟩)]) := by kernel_rfl
theorem stack_Stack_Id.ok (d : Nat) (hd : 3 ≤ d) (n203 : Int) (n204 : Int) (n205 : Int) (n206 : Int) (n207 : Int) (n208 : Int) (n209 : Int) (b210 : Bool) (ns211 : List Int) (k : KR) (hx : stack_Stack_Id n203 n204 n205 n206 n207 n208 n209 b210 ns211 (fun y0 y1 y2 y3 y4 y5 y6 y7 y8 y9 => k (.d ⟨(.int .i64), y0⟩) [([0, 0], ⟨53, 8, (.mix [(.agg [(.ptr [0, 1] 0 0), (.d ⟨(.int .i64), y1⟩), (.d ⟨(.int .i64), y2⟩), (.d ⟨(.int .i64), y3⟩), (.d ⟨(.int .i64), y4⟩), (.d ⟨(.int .i64), y5⟩), (.d ⟨(.int .i64), y6⟩), (.d ⟨(.int .i64), y7⟩)])])⟩), ([0, 1], ⟨61, 2, (.mix [(.agg [(.ref [0, 2]), (.d ⟨.bool, y8⟩)])])⟩), ([0, 2], ⟨2, 1, (.data (.int .i64) y9)⟩)]) = some true) : callK Try.prog ht d 16 [(.ptr [0, 0] 0 0)] [([0, 0], ⟨53, 8, (.mix [(.agg [(.ptr [0, 1] 0 0), (.d ⟨(.int .i64), n203⟩), (.d ⟨(.int .i64), n204⟩), (.d ⟨(.int .i64), n205⟩), (.d ⟨(.int .i64), n206⟩), (.d ⟨(.int .i64), n207⟩), (.d ⟨(.int .i64), n208⟩), (.d ⟨(.int .i64), n209⟩)])])⟩), ([0, 1], ⟨61, 2, (.mix [(.agg [(.ref [0, 2]), (.d ⟨.bool, b210⟩)])])⟩), ([0, 2], ⟨2, 1, (.data (.int .i64) ns211)⟩)] k = some true := by
  obtain ⟨d, rfl⟩ : ∃ e, d = e + 1 := ⟨d - 1, by omega⟩
  exact fn_ok (c := codeOf Try.f16) Try.func16 (by kernel_rfl) (rec := stack_Stack_Id.calls stack_Stack_Seg stack_Stack_SP) (fun g a h k hx => by
    rcases stack_Stack_Seg.look d (by omega) hx with hx | hx
    rotate_left
    · exact hx
    rcases stack_Stack_SP.look d (by omega) hx with hx | hx
    rotate_left
    · exact hx
    cases hx) (loopf := stack_Stack_Id.loops) (by
    have e : loopsOf (stack_Stack_Id.loops) 0 (codeOf Try.f16) = [] := by kernel_rfl
    rw [e]
    intro p hp
    cases hp) ((stack_Stack_Id.eq stack_Stack_Seg stack_Stack_SP n203 n204 n205 n206 n207 n208 n209 b210 ns211 k).trans hx)
theorem stack_Stack_Id.look (d : Nat) (hd : 3 ≤ d) {e : Option Bool} {g : FuncId} {a : List AV} {h : Heap} {k : KR} (hx : stack_Stack_Id.get stack_Stack_Id e g a h k = some true) : e = some true ∨ callK Try.prog ht d g a h k = some true := by
  unfold stack_Stack_Id.get at hx
  split at hx
  · exact .inr (stack_Stack_Id.ok d hd _ _ _ _ _ _ _ _ _ _ hx)
  · exact .inl hx
/-- function 35: the loop in block 0 -/
noncomputable def num_Double_L0.body (num_Double_L0 : Int → Int → Int → (Int → Bool → Option Bool) → (Option Bool) → Option Bool) (n264 : Int) (n265 : Int) (n266 : Int) (k1 : Int → Bool → Option Bool) (k2 : Option Bool) : Option Bool :=
  (cond_ (decide (n264 ≤ n266)) (cond_ (decide (n264 ≥ n265)) (k1 n264 true) (cond_ (decide (n264 > (IntKind.wrap .i64 (n266 - n264)))) (k2) (num_Double_L0 (IntKind.wrap .i64 (n264 + n264)) n265 n266 k1 k2))) (k2))
noncomputable def num_Double_L0 : Nat → Int → Int → Int → (Int → Bool → Option Bool) → (Option Bool) → Option Bool
  | 0 => fun _ _ _ _ _ => none
  | n + 1 => num_Double_L0.body (num_Double_L0 n)
noncomputable def num_Double_L0.get (F : Int → Int → Int → (Int → Bool → Option Bool) → (Option Bool) → Option Bool) (e : Option Bool) (st : St) (k : KE) : Option Bool := match st with
  | ⟨sl, hp, m⟩ => match Nat.beq m 2, pickS 25 [0, 1, 2] sl, hp with
    | true, some [(.d ⟨(.int .i64), n264⟩), (.d ⟨(.int .i64), n265⟩), (.d ⟨(.int .i64), n266⟩)], [] => F n264 n265 n266 (fun y0 y1 => k .ret ⟨fillS 25 [6, 7] [(.d ⟨(.int .i64), y0⟩), (.d ⟨.bool, y1⟩)], [], 2⟩) (k (.exit 0) ⟨fillS 25 [] [], [], 2⟩)
    | _, _, _ => e
noncomputable def num_Double_L0.calls : RecF := fun g a h k => none
noncomputable def num_Double_L0.loops : LoopF := fun b => none
set_option maxRecDepth 100000 in
theorem num_Double_L0.step (S : Int → Int → Int → (Int → Bool → Option Bool) → (Option Bool) → Option Bool) (n264 : Int) (n265 : Int) (n266 : Int) (k : KE) : execL Try.prog ht 35 (callfOf (num_Double_L0.calls)) (num_Double_L0.loops) 0 (loopAt 0 (codeOf Try.f35)) ⟨fillS 25 [0, 1, 2] [(.d ⟨(.int .i64), n264⟩), (.d ⟨(.int .i64), n265⟩), (.d ⟨(.int .i64), n266⟩)], [], 2⟩ (again (num_Double_L0.get S none) (plan Try.prog (ht 35 0)) k) = num_Double_L0.body S n264 n265 n266 (fun y0 y1 => k .ret ⟨fillS 25 [6, 7] [(.d ⟨(.int .i64), y0⟩), (.d ⟨.bool, y1⟩)], [], 2⟩) (k (.exit 0) ⟨fillS 25 [] [], [], 2⟩) := by kernel_rfl
theorem num_Double_L0.ok (d : Nat) (hd : 0 ≤ d) : ∀ n st k, num_Double_L0.get (num_Double_L0 n) none st k = some true → iter n (plan Try.prog (ht 35 0)) (fun st k => execK Try.prog ht 35 (callfOf (callK Try.prog ht d)) 0 (loopAt 0 (codeOf Try.f35)) st k) st k = some true :=
  loop_ok (lfn := fun n st k => num_Double_L0.get (num_Double_L0 n) none st k) (rec := num_Double_L0.calls) (fun g a h k hx => by
    cases hx) (loopf := num_Double_L0.loops) (by
    have e : loopsOf (num_Double_L0.loops) 0 (loopAt 0 (codeOf Try.f35)) = [] := by kernel_rfl
    rw [e]
    intro p hp
    cases hp) (fun st k h => by
    obtain ⟨sl, hp, m⟩ := st
    unfold num_Double_L0.get at h
    dsimp only at h
    split at h
    · have h' : (none : Option Bool) = some true := h
      cases h'
    · cases h) (fun n st k h => by
    obtain ⟨sl, hp, m⟩ := st
    unfold num_Double_L0.get at h
    dsimp only at h
    split at h
    · rename_i h1 h2
      obtain rfl := pickS_ok h2
      obtain rfl := Nat.eq_of_beq_eq_true h1
      exact (num_Double_L0.step (num_Double_L0 n) _ _ _ k).trans h
    · cases h)
theorem num_Double_L0.look {F : Int → Int → Int → (Int → Bool → Option Bool) → (Option Bool) → Option Bool} {e : Option Bool} {st : St} {k : KE} (hx : num_Double_L0.get F e st k = some true) : e = some true ∨ num_Double_L0.get F none st k = some true := by
  obtain ⟨sl, hp, m⟩ := st
  unfold num_Double_L0.get at hx ⊢
  dsimp only at hx ⊢
  split at hx
  · exact .inr hx
  · exact .inl hx
/-- function 35: sheerleg/num.Double -/
noncomputable def num_Double.body (num_Double_L0 : Int → Int → Int → (Int → Bool → Option Bool) → (Option Bool) → Option Bool) (n261 : Int) (n262 : Int) (n263 : Int) (k1 : Int → Bool → Option Bool) : Option Bool :=
  (cond_ (decide (n261 < (1 : Int))) (k1 (0 : Int) false) (num_Double_L0 n261 n262 n263
  (fun n267 b268 => (k1 n267 b268))
  (k1 (0 : Int) false)))
noncomputable def num_Double (n261 : Int) (n262 : Int) (n263 : Int) (k1 : Int → Bool → Option Bool) : Option Bool := num_Double.body (num_Double_L0 ROUNDS) n261 n262 n263 k1
noncomputable def num_Double.get (F : Int → Int → Int → (Int → Bool → Option Bool) → Option Bool) (e : Option Bool) (g : FuncId) (a : List AV) (h : Heap) (k : KR) : Option Bool := match g, a, h with
  | 35, [(.d ⟨(.int .i64), n261⟩), (.d ⟨(.int .i64), n262⟩), (.d ⟨(.int .i64), n263⟩)], [] => F n261 n262 n263 (fun y0 y1 => k (.tup [(.d ⟨(.int .i64), y0⟩), (.d ⟨.bool, y1⟩)]) [])
  | _, _, _ => e
noncomputable def num_Double.calls : RecF := fun g a h k => none
noncomputable def num_Double.loops (L0 : Int → Int → Int → (Int → Bool → Option Bool) → (Option Bool) → Option Bool) : LoopF := fun b => match Nat.beq b 0 with | true => some (fun st k => (num_Double_L0.get L0 none st k)) | false => none
set_option maxRecDepth 100000 in
theorem num_Double.eq (L0 : Int → Int → Int → (Int → Bool → Option Bool) → (Option Bool) → Option Bool) (n261 : Int) (n262 : Int) (n263 : Int) (k : KR) : execL Try.prog ht 35 (callfOf (num_Double.calls)) (num_Double.loops L0) 0 (codeOf Try.f35) ⟨[(.d ⟨(.int .i64), n261⟩), (.d ⟨(.int .i64), n262⟩), (.d ⟨(.int .i64), n263⟩)] ++ List.replicate (Try.f35.ntmps - ([(.d ⟨(.int .i64), n261⟩), (.d ⟨(.int .i64), n262⟩), (.d ⟨(.int .i64), n263⟩)] : List AV).length) .undef, [], 2⟩ (leave Try.prog Try.f35 k) = num_Double.body L0 n261 n262 n263 (fun y0 y1 => k (.tup [(.d ⟨(.int .i64), y0⟩), (.d ⟨.bool, y1⟩)]) []) := by kernel_rfl
theorem num_Double.ok (d : Nat) (hd : 1 ≤ d) (n261 : Int) (n262 : Int) (n263 : Int) (k : KR) (hx : num_Double n261 n262 n263 (fun y0 y1 => k (.tup [(.d ⟨(.int .i64), y0⟩), (.d ⟨.bool, y1⟩)]) []) = some true) : callK Try.prog ht d 35 [(.d ⟨(.int .i64), n261⟩), (.d ⟨(.int .i64), n262⟩), (.d ⟨(.int .i64), n263⟩)] [] k = some true := by
  obtain ⟨d, rfl⟩ : ∃ e, d = e + 1 := ⟨d - 1, by omega⟩
  exact fn_ok (c := codeOf Try.f35) Try.func35 (by kernel_rfl) (rec := num_Double.calls) (fun g a h k hx => by
    cases hx) (loopf := num_Double.loops (num_Double_L0 ROUNDS)) (by
    have e : loopsOf (num_Double.loops (num_Double_L0 ROUNDS)) 0 (codeOf Try.f35) = [(0, loopAt 0 (codeOf Try.f35))] := by kernel_rfl
    rw [e]
    intro p hp
    simp only [List.mem_cons, List.not_mem_nil, or_false] at hp
    rcases hp with rfl
    · refine loopRef_of (callf := callfOf (callK Try.prog ht d)) (callfOf_ref (callK_mono d)) fun lf st k hb hx => ?_
      cases hb
      rcases num_Double_L0.look hx with hx | hx
      rotate_left
      · exact num_Double_L0.ok d (by omega) _ _ _ hx
      cases hx) ((num_Double.eq (num_Double_L0 ROUNDS) n261 n262 n263 k).trans hx)
theorem num_Double.look (d : Nat) (hd : 1 ≤ d) {e : Option Bool} {g : FuncId} {a : List AV} {h : Heap} {k : KR} (hx : num_Double.get num_Double e g a h k = some true) : e = some true ∨ callK Try.prog ht d g a h k = some true := by
  unfold num_Double.get at hx
  split at hx
  · exact .inr (num_Double.ok d hd _ _ _ _ hx)
  · exact .inl hx
/-- function 51: (*sheerleg/memory.Memory).Copy$1 -/
noncomputable def memory_Memory_Copyfn1.body (n281 : Int) (b282 : Bool) (ns283 : List Int) (n284 : Int) (k1 : Bool → Bool → (List Int) → Int → Option Bool) : Option Bool :=
  (cond_ (decide (n281 ≥ (0 : Int))) (cond_ (decide (n281 ≤ (((List.length ns283) : Nat) : Int))) (k1 (decide (n284 ≤ (IntKind.wrap .i64 ((((List.length ns283) : Nat) : Int) - n281)))) b282 ns283 n284) (k1 false b282 ns283 n284)) (k1 false b282 ns283 n284))
noncomputable def memory_Memory_Copyfn1 (n281 : Int) (b282 : Bool) (ns283 : List Int) (n284 : Int) (k1 : Bool → Bool → (List Int) → Int → Option Bool) : Option Bool := memory_Memory_Copyfn1.body n281 b282 ns283 n284 k1
noncomputable def memory_Memory_Copyfn1.get (F : Int → Bool → (List Int) → Int → (Bool → Bool → (List Int) → Int → Option Bool) → Option Bool) (e : Option Bool) (g : FuncId) (a : List AV) (h : Heap) (k : KR) : Option Bool := match g, a, h with
  | 51, [(.d ⟨(.int .i64), n281⟩), (.ptr [0, 0] 0 0), (.ptr [0, 3] 0 0)], [([0, 0], ⟨28, 1, (.mix [(.ptr [0, 1] 0 0)])⟩), ([0, 1], ⟨61, 2, (.mix [(.agg [(.ref [0, 2]), (.d ⟨.bool, b282⟩)])])⟩), ([0, 2], ⟨2, 1, (.data (.int .i64) ns283)⟩), ([0, 3], ⟨3, 1, (.data (.int .i64) [n284])⟩)] => F n281 b282 ns283 n284 (fun y0 y1 y2 y3 => k (.d ⟨.bool, y0⟩) [([0, 0], ⟨28, 1, (.mix [(.ptr [0, 1] 0 0)])⟩), ([0, 1], ⟨61, 2, (.mix [(.agg [(.ref [0, 2]), (.d ⟨.bool, y1⟩)])])⟩), ([0, 2], ⟨2, 1, (.data (.int .i64) y2)⟩), ([0, 3], ⟨3, 1, (.data (.int .i64) [y3])⟩)])
  | _, _, _ => e
noncomputable def memory_Memory_Copyfn1.calls : RecF := fun g a h k => none
noncomputable def memory_Memory_Copyfn1.loops : LoopF := fun b => none
set_option maxRecDepth 100000 in
theorem memory_Memory_Copyfn1.eq (n281 : Int) (b282 : Bool) (ns283 : List Int) (n284 : Int) (k : KR) : execL Try.prog ht 51 (callfOf (memory_Memory_Copyfn1.calls)) (memory_Memory_Copyfn1.loops) 0 (codeOf Try.f51) ⟨[(.d ⟨(.int .i64), n281⟩), (.ptr [0, 0] 0 0), (.ptr [0, 3] 0 0)] ++ List.replicate (Try.f51.ntmps - ([(.d ⟨(.int .i64), n281⟩), (.ptr [0, 0] 0 0), (.ptr [0, 3] 0 0)] : List AV).length) .undef, [([0, 0], ⟨28, 1, (.mix [(.ptr [0, 1] 0 0)])⟩), ([0, 1], ⟨61, 2, (.mix [(.agg [(.ref [0, 2]), (.d ⟨.bool, b282⟩)])])⟩), ([0, 2], ⟨2, 1, (.data (.int .i64) ns283)⟩), ([0, 3], ⟨3, 1, (.data (.int .i64) [n284])⟩)], 2⟩ (leave Try.prog Try.f51 k) = memory_Memory_Copyfn1.body n281 b282 ns283 n284 (fun y0 y1 y2 y3 => k (.d ⟨.bool, y0⟩) [([0, 0], ⟨28, 1, (.mix [(.ptr [0, 1] 0 0)])⟩), ([0, 1], ⟨61, 2, (.mix [(.agg [(.ref [0, 2]), (.d ⟨.bool, y1⟩)])])⟩), ([0, 2], ⟨2, 1, (.data (.int .i64) y2)⟩), ([0, 3], ⟨3, 1, (.data (.int .i64) [y3])⟩)]) := by kernel_rfl
theorem memory_Memory_Copyfn1.ok (d : Nat) (hd : 1 ≤ d) (n281 : Int) (b282 : Bool) (ns283 : List Int) (n284 : Int) (k : KR) (hx : memory_Memory_Copyfn1 n281 b282 ns283 n284 (fun y0 y1 y2 y3 => k (.d ⟨.bool, y0⟩) [([0, 0], ⟨28, 1, (.mix [(.ptr [0, 1] 0 0)])⟩), ([0, 1], ⟨61, 2, (.mix [(.agg [(.ref [0, 2]), (.d ⟨.bool, y1⟩)])])⟩), ([0, 2], ⟨2, 1, (.data (.int .i64) y2)⟩), ([0, 3], ⟨3, 1, (.data (.int .i64) [y3])⟩)]) = some true) : callK Try.prog ht d 51 [(.d ⟨(.int .i64), n281⟩), (.ptr [0, 0] 0 0), (.ptr [0, 3] 0 0)] [([0, 0], ⟨28, 1, (.mix [(.ptr [0, 1] 0 0)])⟩), ([0, 1], ⟨61, 2, (.mix [(.agg [(.ref [0, 2]), (.d ⟨.bool, b282⟩)])])⟩), ([0, 2], ⟨2, 1, (.data (.int .i64) ns283)⟩), ([0, 3], ⟨3, 1, (.data (.int .i64) [n284])⟩)] k = some true := by
  obtain ⟨d, rfl⟩ : ∃ e, d = e + 1 := ⟨d - 1, by omega⟩
  exact fn_ok (c := codeOf Try.f51) Try.func51 (by kernel_rfl) (rec := memory_Memory_Copyfn1.calls) (fun g a h k hx => by
    cases hx) (loopf := memory_Memory_Copyfn1.loops) (by
    have e : loopsOf (memory_Memory_Copyfn1.loops) 0 (codeOf Try.f51) = [] := by kernel_rfl
    rw [e]
    intro p hp
    cases hp) ((memory_Memory_Copyfn1.eq n281 b282 ns283 n284 k).trans hx)
theorem memory_Memory_Copyfn1.look (d : Nat) (hd : 1 ≤ d) {e : Option Bool} {g : FuncId} {a : List AV} {h : Heap} {k : KR} (hx : memory_Memory_Copyfn1.get memory_Memory_Copyfn1 e g a h k = some true) : e = some true ∨ callK Try.prog ht d g a h k = some true := by
  unfold memory_Memory_Copyfn1.get at hx
  split at hx
  · exact .inr (memory_Memory_Copyfn1.ok d hd _ _ _ _ _ hx)
  · exact .inl hx
/-- function 36: (*sheerleg/memory.Memory).Copy -/
noncomputable def memory_Memory_Copy.body (memory_Memory_Copyfn1 : Int → Bool → (List Int) → Int → (Bool → Bool → (List Int) → Int → Option Bool) → Option Bool) (n276 : Int) (n277 : Int) (n278 : Int) (b279 : Bool) (ns280 : List Int) (k1 : Bool → Bool → (List Int) → Option Bool) : Option Bool :=
  (cond_ (! (! b279)) (cond_ (! (decide (n278 < (0 : Int)))) (memory_Memory_Copyfn1 n276 b279 ns280 n278
  (fun b285 b286 ns287 n288 => (cond_ (! (! b285)) (memory_Memory_Copyfn1 n277 b286 ns287 n288
  (fun b289 b290 ns291 n292 => (cond_ (! b289) (k1 false b290 ns291) (cond_ ((decide ((0 : Int) ≤ n276)) && (decide (n276 ≤ (((List.length ns291) : Nat) : Int)))) (cond_ (((decide ((0 : Int) ≤ n277)) && (decide (n277 ≤ (IntKind.wrap .i64 (n277 + n292))))) && (decide ((IntKind.wrap .i64 (n277 + n292)) ≤ (((List.length ns291) : Nat) : Int)))) (k1 true b290 (setCells ns291 (Int.toNat n276) (List.take ((List.length ns291) - (Int.toNat n276)) (List.take (Int.toNat ((IntKind.wrap .i64 (n277 + n292)) - n277)) (List.drop (Int.toNat n277) ns291))))) none) none)))) (k1 false b286 ns287)))) (k1 false b279 ns280)) (k1 false b279 ns280))
noncomputable def memory_Memory_Copy (n276 : Int) (n277 : Int) (n278 : Int) (b279 : Bool) (ns280 : List Int) (k1 : Bool → Bool → (List Int) → Option Bool) : Option Bool := memory_Memory_Copy.body memory_Memory_Copyfn1 n276 n277 n278 b279 ns280 k1
noncomputable def memory_Memory_Copy.get (F : Int → Int → Int → Bool → (List Int) → (Bool → Bool → (List Int) → Option Bool) → Option Bool) (e : Option Bool) (g : FuncId) (a : List AV) (h : Heap) (k : KR) : Option Bool := match g, a, h with
  | 36, [(.ptr [0, 0] 0 0), (.d ⟨(.int .i64), n276⟩), (.d ⟨(.int .i64), n277⟩), (.d ⟨(.int .i64), n278⟩)], [([0, 0], ⟨61, 2, (.mix [(.agg [(.ref [0, 1]), (.d ⟨.bool, b279⟩)])])⟩), ([0, 1], ⟨2, 1, (.data (.int .i64) ns280)⟩)] => F n276 n277 n278 b279 ns280 (fun y0 y1 y2 => k (.d ⟨.bool, y0⟩) [([0, 0], ⟨61, 2, (.mix [(.agg [(.ref [0, 1]), (.d ⟨.bool, y1⟩)])])⟩), ([0, 1], ⟨2, 1, (.data (.int .i64) y2)⟩)])
  | _, _, _ => e
noncomputable def memory_Memory_Copy.calls (F0 : Int → Bool → (List Int) → Int → (Bool → Bool → (List Int) → Int → Option Bool) → Option Bool) : RecF := fun g a h k => (memory_Memory_Copyfn1.get F0 none g a h k)
noncomputable def memory_Memory_Copy.loops : LoopF := fun b => none
set_option maxRecDepth 100000 in
theorem memory_Memory_Copy.eq (F0 : Int → Bool → (List Int) → Int → (Bool → Bool → (List Int) → Int → Option Bool) → Option Bool) (n276 : Int) (n277 : Int) (n278 : Int) (b279 : Bool) (ns280 : List Int) (k : KR) : execL Try.prog ht 36 (callfOf (memory_Memory_Copy.calls F0)) (memory_Memory_Copy.loops) 0 (codeOf Try.f36) ⟨[(.ptr [0, 0] 0 0), (.d ⟨(.int .i64), n276⟩), (.d ⟨(.int .i64), n277⟩), (.d ⟨(.int .i64), n278⟩)] ++ List.replicate (Try.f36.ntmps - ([(.ptr [0, 0] 0 0), (.d ⟨(.int .i64), n276⟩), (.d ⟨(.int .i64), n277⟩), (.d ⟨(.int .i64), n278⟩)] : List AV).length) .undef, [([0, 0], ⟨61, 2, (.mix [(.agg [(.ref [0, 1]), (.d ⟨.bool, b279⟩)])])⟩), ([0, 1], ⟨2, 1, (.data (.int .i64) ns280)⟩)], 2⟩ (leave Try.prog Try.f36 k) = memory_Memory_Copy.body F0 n276 n277 n278 b279 ns280 (fun y0 y1 y2 => k (.d ⟨.bool, y0⟩) [([0, 0], ⟨61, 2, (.mix [(.agg [(.ref [0, 1]), (.d ⟨.bool, y1⟩)])])⟩), ([0, 1], ⟨2, 1, (.data (.int .i64) y2)⟩)]) := by kernel_rfl
theorem memory_Memory_Copy.ok (d : Nat) (hd : 2 ≤ d) (n276 : Int) (n277 : Int) (n278 : Int) (b279 : Bool) (ns280 : List Int) (k : KR) (hx : memory_Memory_Copy n276 n277 n278 b279 ns280 (fun y0 y1 y2 => k (.d ⟨.bool, y0⟩) [([0, 0], ⟨61, 2, (.mix [(.agg [(.ref [0, 1]), (.d ⟨.bool, y1⟩)])])⟩), ([0, 1], ⟨2, 1, (.data (.int .i64) y2)⟩)]) = some true) : callK Try.prog ht d 36 [(.ptr [0, 0] 0 0), (.d ⟨(.int .i64), n276⟩), (.d ⟨(.int .i64), n277⟩), (.d ⟨(.int .i64), n278⟩)] [([0, 0], ⟨61, 2, (.mix [(.agg [(.ref [0, 1]), (.d ⟨.bool, b279⟩)])])⟩), ([0, 1], ⟨2, 1, (.data (.int .i64) ns280)⟩)] k = some true := by
  obtain ⟨d, rfl⟩ : ∃ e, d = e + 1 := ⟨d - 1, by omega⟩
  exact fn_ok (c := codeOf Try.f36) Try.func36 (by kernel_rfl) (rec := memory_Memory_Copy.calls memory_Memory_Copyfn1) (fun g a h k hx => by
    rcases memory_Memory_Copyfn1.look d (by omega) hx with hx | hx
    rotate_left
    · exact hx
    cases hx) (loopf := memory_Memory_Copy.loops) (by
    have e : loopsOf (memory_Memory_Copy.loops) 0 (codeOf Try.f36) = [] := by kernel_rfl
    rw [e]
    intro p hp
    cases hp) ((memory_Memory_Copy.eq memory_Memory_Copyfn1 n276 n277 n278 b279 ns280 k).trans hx)
theorem memory_Memory_Copy.look (d : Nat) (hd : 2 ≤ d) {e : Option Bool} {g : FuncId} {a : List AV} {h : Heap} {k : KR} (hx : memory_Memory_Copy.get memory_Memory_Copy e g a h k = some true) : e = some true ∨ callK Try.prog ht d g a h k = some true := by
  unfold memory_Memory_Copy.get at hx
  split at hx
  · exact .inr (memory_Memory_Copy.ok d hd _ _ _ _ _ _ hx)
  · exact .inl hx
/-- function 11: (*sheerleg/stack.Stack).Grow -/
noncomputable def stack_Stack_Grow.body (stack_Stack_live : Int → Int → Int → Int → Int → Int → Int → Bool → (List Int) → (Bool → Int → Int → Int → Int → Int → Int → Int → Bool → (List Int) → Option Bool) → Option Bool) (stack_Stack_Id : Int → Int → Int → Int → Int → Int → Int → Bool → (List Int) → (Int → Int → Int → Int → Int → Int → Int → Int → Bool → (List Int) → Option Bool) → Option Bool) (num_Double : Int → Int → Int → (Int → Bool → Option Bool) → Option Bool) (memory_Memory_Grow : Int → Bool → (List Int) → (Int → Bool → Bool → (List Int) → Option Bool) → (Int → Bool → Bool → (List Int) → Option Bool) → Option Bool) (stack_segment : Int → Int → ((Int × Int × Int × Unit) → Option Bool) → Option Bool) (memory_Memory_Copy : Int → Int → Int → Bool → (List Int) → (Bool → Bool → (List Int) → Option Bool) → Option Bool) (n183 : Int) (n184 : Int) (n185 : Int) (n186 : Int) (n187 : Int) (n188 : Int) (n189 : Int) (n190 : Int) (b191 : Bool) (ns192 : List Int) (k1 : Bool → Int → Int → Int → Int → Int → Int → Int → Bool → (List Int) → Option Bool) (k2 : Bool → Int → Int → Int → Int → Int → Int → Int → Bool → (List Int) → Option Bool) : Option Bool :=
  (stack_Stack_live n184 n185 n186 n187 n188 n189 n190 b191 ns192
  (fun b193 n194 n195 n196 n197 n198 n199 n200 b201 ns202 => (cond_ (! (! b193)) (cond_ (decide (n183 > (1048576 : Int))) (k1 false n194 n195 n196 n197 n198 n199 n200 b201 ns202) (stack_Stack_Id n194 n195 n196 n197 n198 n199 n200 b201 ns202
  (fun n251 n252 n253 n254 n255 n256 n257 n258 b259 ns260 => (num_Double (IntKind.wrap .i64 ((2 : Int) * (IntKind.wrap .i64 (n254 - n252)))) (IntKind.wrap .i64 ((IntKind.wrap .i64 (n251 + (if (n183 < (0 : Int)) then (0 : Int) else n183))) + (64 : Int))) (4194304 : Int)
  (fun n269 b270 => (cond_ (! (! b270)) (cond_ (decide (n269 > (IntKind.wrap .i64 (n257 - n256)))) (k1 false n252 n253 n254 n255 n256 n257 n258 b259 ns260) (memory_Memory_Grow n269 b259 ns260
  (fun n271 b272 b273 ns274 => (cond_ (! b272) (k1 false n252 n253 n254 n255 n256 n257 n258 b273 ns274) (stack_segment n271 n269
  (fun t275 => (memory_Memory_Copy (IntKind.wrap .i64 (t275.2.2.1 - n251)) n255 n251 b273 ns274
  (fun b293 b294 ns295 => (k1 true t275.1 t275.2.1 t275.2.2.1 (IntKind.wrap .i64 (t275.2.2.1 - n251)) (IntKind.wrap .i64 (n256 + n269)) n257 n258 b294 ns295)))))))
  (fun n296 b297 b298 ns299 => (cond_ (! b297) (k2 false n252 n253 n254 n255 n256 n257 n258 b298 ns299) (stack_segment n296 n269
  (fun t300 => (memory_Memory_Copy (IntKind.wrap .i64 (t300.2.2.1 - n251)) n255 n251 b298 ns299
  (fun b301 b302 ns303 => (k2 true t300.1 t300.2.1 t300.2.2.1 (IntKind.wrap .i64 (t300.2.2.1 - n251)) (IntKind.wrap .i64 (n256 + n269)) n257 n258 b302 ns303))))))))) (k1 false n252 n253 n254 n255 n256 n257 n258 b259 ns260))))))) (k1 false n194 n195 n196 n197 n198 n199 n200 b201 ns202))))
noncomputable def stack_Stack_Grow (n183 : Int) (n184 : Int) (n185 : Int) (n186 : Int) (n187 : Int) (n188 : Int) (n189 : Int) (n190 : Int) (b191 : Bool) (ns192 : List Int) (k1 : Bool → Int → Int → Int → Int → Int → Int → Int → Bool → (List Int) → Option Bool) (k2 : Bool → Int → Int → Int → Int → Int → Int → Int → Bool → (List Int) → Option Bool) : Option Bool := stack_Stack_Grow.body stack_Stack_live stack_Stack_Id num_Double memory_Memory_Grow stack_segment memory_Memory_Copy n183 n184 n185 n186 n187 n188 n189 n190 b191 ns192 k1 k2
noncomputable def stack_Stack_Grow.get (F : Int → Int → Int → Int → Int → Int → Int → Int → Bool → (List Int) → (Bool → Int → Int → Int → Int → Int → Int → Int → Bool → (List Int) → Option Bool) → (Bool → Int → Int → Int → Int → Int → Int → Int → Bool → (List Int) → Option Bool) → Option Bool) (e : Option Bool) (g : FuncId) (a : List AV) (h : Heap) (k : KR) : Option Bool := match g, a, h with
  | 11, [(.ptr [0, 0] 0 0), (.d ⟨(.int .i64), n183⟩)], [([0, 0], ⟨53, 8, (.mix [(.agg [(.ptr [0, 1] 0 0), (.d ⟨(.int .i64), n184⟩), (.d ⟨(.int .i64), n185⟩), (.d ⟨(.int .i64), n186⟩), (.d ⟨(.int .i64), n187⟩), (.d ⟨(.int .i64), n188⟩), (.d ⟨(.int .i64), n189⟩), (.d ⟨(.int .i64), n190⟩)])])⟩), ([0, 1], ⟨61, 2, (.mix [(.agg [(.ref [0, 2]), (.d ⟨.bool, b191⟩)])])⟩), ([0, 2], ⟨2, 1, (.data (.int .i64) ns192)⟩)] => F n183 n184 n185 n186 n187 n188 n189 n190 b191 ns192 (fun y0 y1 y2 y3 y4 y5 y6 y7 y8 y9 => k (.d ⟨.bool, y0⟩) [([0, 0], ⟨53, 8, (.mix [(.agg [(.ptr [0, 1] 0 0), (.d ⟨(.int .i64), y1⟩), (.d ⟨(.int .i64), y2⟩), (.d ⟨(.int .i64), y3⟩), (.d ⟨(.int .i64), y4⟩), (.d ⟨(.int .i64), y5⟩), (.d ⟨(.int .i64), y6⟩), (.d ⟨(.int .i64), y7⟩)])])⟩), ([0, 1], ⟨61, 2, (.mix [(.agg [(.ref [0, 2]), (.d ⟨.bool, y8⟩)])])⟩), ([0, 2], ⟨2, 1, (.data (.int .i64) y9)⟩)]) (fun y0 y1 y2 y3 y4 y5 y6 y7 y8 y9 => k (.d ⟨.bool, y0⟩) [([0, 0], ⟨53, 8, (.mix [(.agg [(.ptr [0, 1] 0 0), (.d ⟨(.int .i64), y1⟩), (.d ⟨(.int .i64), y2⟩), (.d ⟨(.int .i64), y3⟩), (.d ⟨(.int .i64), y4⟩), (.d ⟨(.int .i64), y5⟩), (.d ⟨(.int .i64), y6⟩), (.d ⟨(.int .i64), y7⟩)])])⟩), ([0, 1], ⟨61, 2, (.mix [(.agg [(.ref [1, 0]), (.d ⟨.bool, y8⟩)])])⟩), ([1, 0], ⟨2, 1, (.data (.int .i64) y9)⟩)])
  | _, _, _ => e
noncomputable def stack_Stack_Grow.calls (F0 : Int → Int → Int → Int → Int → Int → Int → Bool → (List Int) → (Bool → Int → Int → Int → Int → Int → Int → Int → Bool → (List Int) → Option Bool) → Option Bool) (F1 : Int → Int → Int → Int → Int → Int → Int → Bool → (List Int) → (Int → Int → Int → Int → Int → Int → Int → Int → Bool → (List Int) → Option Bool) → Option Bool) (F2 : Int → Int → Int → (Int → Bool → Option Bool) → Option Bool) (F3 : Int → Bool → (List Int) → (Int → Bool → Bool → (List Int) → Option Bool) → (Int → Bool → Bool → (List Int) → Option Bool) → Option Bool) (F4 : Int → Int → ((Int × Int × Int × Unit) → Option Bool) → Option Bool) (F5 : Int → Int → Int → Bool → (List Int) → (Bool → Bool → (List Int) → Option Bool) → Option Bool) : RecF := fun g a h k => (stack_Stack_live.get F0 (stack_Stack_Id.get F1 (num_Double.get F2 (memory_Memory_Grow.get F3 (stack_segment.get F4 (memory_Memory_Copy.get F5 none g a h k) g a h k) g a h k) g a h k) g a h k) g a h k)
noncomputable def stack_Stack_Grow.loops : LoopF := fun b => none
set_option maxRecDepth 100000 in
theorem stack_Stack_Grow.eq (F0 : Int → Int → Int → Int → Int → Int → Int → Bool → (List Int) → (Bool → Int → Int → Int → Int → Int → Int → Int → Bool → (List Int) → Option Bool) → Option Bool) (F1 : Int → Int → Int → Int → Int → Int → Int → Bool → (List Int) → (Int → Int → Int → Int → Int → Int → Int → Int → Bool → (List Int) → Option Bool) → Option Bool) (F2 : Int → Int → Int → (Int → Bool → Option Bool) → Option Bool) (F3 : Int → Bool → (List Int) → (Int → Bool → Bool → (List Int) → Option Bool) → (Int → Bool → Bool → (List Int) → Option Bool) → Option Bool) (F4 : Int → Int → ((Int × Int × Int × Unit) → Option Bool) → Option Bool) (F5 : Int → Int → Int → Bool → (List Int) → (Bool → Bool → (List Int) → Option Bool) → Option Bool) (n183 : Int) (n184 : Int) (n185 : Int) (n186 : Int) (n187 : Int) (n188 : Int) (n189 : Int) (n190 : Int) (b191 : Bool) (ns192 : List Int) (k : KR) : execL Try.prog ht 11 (callfOf (stack_Stack_Grow.calls F0 F1 F2 F3 F4 F5)) (stack_Stack_Grow.loops) 0 (codeOf Try.f11) ⟨[(.ptr [0, 0] 0 0), (.d ⟨(.int .i64), n183⟩)] ++ List.replicate (Try.f11.ntmps - ([(.ptr [0, 0] 0 0), (.d ⟨(.int .i64), n183⟩)] : List AV).length) .undef, [([0, 0], ⟨53, 8, (.mix [(.agg [(.ptr [0, 1] 0 0), (.d ⟨(.int .i64), n184⟩), (.d ⟨(.int .i64), n185⟩), (.d ⟨(.int .i64), n186⟩), (.d ⟨(.int .i64), n187⟩), (.d ⟨(.int .i64), n188⟩), (.d ⟨(.int .i64), n189⟩), (.d ⟨(.int .i64), n190⟩)])])⟩), ([0, 1], ⟨61, 2, (.mix [(.agg [(.ref [0, 2]), (.d ⟨.bool, b191⟩)])])⟩), ([0, 2], ⟨2, 1, (.data (.int .i64) ns192)⟩)], 2⟩ (leave Try.prog Try.f11 k) = stack_Stack_Grow.body F0 F1 F2 F3 F4 F5 n183 n184 n185 n186 n187 n188 n189 n190 b191 ns192 (fun y0 y1 y2 y3 y4 y5 y6 y7 y8 y9 => k (.d ⟨.bool, y0⟩) [([0, 0], ⟨53, 8, (.mix [(.agg [(.ptr [0, 1] 0 0), (.d ⟨(.int .i64), y1⟩), (.d ⟨(.int .i64), y2⟩), (.d ⟨(.int .i64), y3⟩), (.d ⟨(.int .i64), y4⟩), (.d ⟨(.int .i64), y5⟩), (.d ⟨(.int .i64), y6⟩), (.d ⟨(.int .i64), y7⟩)])])⟩), ([0, 1], ⟨61, 2, (.mix [(.agg [(.ref [0, 2]), (.d ⟨.bool, y8⟩)])])⟩), ([0, 2], ⟨2, 1, (.data (.int .i64) y9)⟩)]) (fun y0 y1 y2 y3 y4 y5 y6 y7 y8 y9 => k (.d ⟨.bool, y0⟩) [([0, 0], ⟨53, 8, (.mix [(.agg [(.ptr [0, 1] 0 0), (.d ⟨(.int .i64), y1⟩), (.d ⟨(.int .i64), y2⟩), (.d ⟨(.int .i64), y3⟩), (.d ⟨(.int .i64), y4⟩), (.d ⟨(.int .i64), y5⟩), (.d ⟨(.int .i64), y6⟩), (.d ⟨(.int .i64), y7⟩)])])⟩), ([0, 1], ⟨61, 2, (.mix [(.agg [(.ref [1, 0]), (.d ⟨.bool, y8⟩)])])⟩), ([1, 0], ⟨2, 1, (.data (.int .i64) y9)⟩)]) := by kernel_rfl
theorem stack_Stack_Grow.ok (d : Nat) (hd : 4 ≤ d) (n183 : Int) (n184 : Int) (n185 : Int) (n186 : Int) (n187 : Int) (n188 : Int) (n189 : Int) (n190 : Int) (b191 : Bool) (ns192 : List Int) (k : KR) (hx : stack_Stack_Grow n183 n184 n185 n186 n187 n188 n189 n190 b191 ns192 (fun y0 y1 y2 y3 y4 y5 y6 y7 y8 y9 => k (.d ⟨.bool, y0⟩) [([0, 0], ⟨53, 8, (.mix [(.agg [(.ptr [0, 1] 0 0), (.d ⟨(.int .i64), y1⟩), (.d ⟨(.int .i64), y2⟩), (.d ⟨(.int .i64), y3⟩), (.d ⟨(.int .i64), y4⟩), (.d ⟨(.int .i64), y5⟩), (.d ⟨(.int .i64), y6⟩), (.d ⟨(.int .i64), y7⟩)])])⟩), ([0, 1], ⟨61, 2, (.mix [(.agg [(.ref [0, 2]), (.d ⟨.bool, y8⟩)])])⟩), ([0, 2], ⟨2, 1, (.data (.int .i64) y9)⟩)]) (fun y0 y1 y2 y3 y4 y5 y6 y7 y8 y9 => k (.d ⟨.bool, y0⟩) [([0, 0], ⟨53, 8, (.mix [(.agg [(.ptr [0, 1] 0 0), (.d ⟨(.int .i64), y1⟩), (.d ⟨(.int .i64), y2⟩), (.d ⟨(.int .i64), y3⟩), (.d ⟨(.int .i64), y4⟩), (.d ⟨(.int .i64), y5⟩), (.d ⟨(.int .i64), y6⟩), (.d ⟨(.int .i64), y7⟩)])])⟩), ([0, 1], ⟨61, 2, (.mix [(.agg [(.ref [1, 0]), (.d ⟨.bool, y8⟩)])])⟩), ([1, 0], ⟨2, 1, (.data (.int .i64) y9)⟩)]) = some true) : callK Try.prog ht d 11 [(.ptr [0, 0] 0 0), (.d ⟨(.int .i64), n183⟩)] [([0, 0], ⟨53, 8, (.mix [(.agg [(.ptr [0, 1] 0 0), (.d ⟨(.int .i64), n184⟩), (.d ⟨(.int .i64), n185⟩), (.d ⟨(.int .i64), n186⟩), (.d ⟨(.int .i64), n187⟩), (.d ⟨(.int .i64), n188⟩), (.d ⟨(.int .i64), n189⟩), (.d ⟨(.int .i64), n190⟩)])])⟩), ([0, 1], ⟨61, 2, (.mix [(.agg [(.ref [0, 2]), (.d ⟨.bool, b191⟩)])])⟩), ([0, 2], ⟨2, 1, (.data (.int .i64) ns192)⟩)] k = some true := by
  obtain ⟨d, rfl⟩ : ∃ e, d = e + 1 := ⟨d - 1, by omega⟩
  exact fn_ok (c := codeOf Try.f11) Try.func11 (by kernel_rfl) (rec := stack_Stack_Grow.calls stack_Stack_live stack_Stack_Id num_Double memory_Memory_Grow stack_segment memory_Memory_Copy) (fun g a h k hx => by
    rcases stack_Stack_live.look d (by omega) hx with hx | hx
    rotate_left
    · exact hx
    rcases stack_Stack_Id.look d (by omega) hx with hx | hx
    rotate_left
    · exact hx
    rcases num_Double.look d (by omega) hx with hx | hx
    rotate_left
    · exact hx
    rcases memory_Memory_Grow.look d (by omega) hx with hx | hx
    rotate_left
    · exact hx
    rcases stack_segment.look d (by omega) hx with hx | hx
    rotate_left
    · exact hx
    rcases memory_Memory_Copy.look d (by omega) hx with hx | hx
    rotate_left
    · exact hx
    cases hx) (loopf := stack_Stack_Grow.loops) (by
    have e : loopsOf (stack_Stack_Grow.loops) 0 (codeOf Try.f11) = [] := by kernel_rfl
    rw [e]
    intro p hp
    cases hp) ((stack_Stack_Grow.eq stack_Stack_live stack_Stack_Id num_Double memory_Memory_Grow stack_segment memory_Memory_Copy n183 n184 n185 n186 n187 n188 n189 n190 b191 ns192 k).trans hx)
theorem stack_Stack_Grow.look (d : Nat) (hd : 4 ≤ d) {e : Option Bool} {g : FuncId} {a : List AV} {h : Heap} {k : KR} (hx : stack_Stack_Grow.get stack_Stack_Grow e g a h k = some true) : e = some true ∨ callK Try.prog ht d g a h k = some true := by
  unfold stack_Stack_Grow.get at hx
  split at hx
  · exact .inr (stack_Stack_Grow.ok d hd _ _ _ _ _ _ _ _ _ _ _ hx)
  · exact .inl hx
/-- function 12: sheerleg/sheerlegref28.Passes -/
noncomputable def ref28_Passes.body (n334 : Int) (n335 : Int) (n336 : Int) (n337 : Int) (k1 : Bool → Option Bool) : Option Bool :=
  (cond_ (n334 == (0 : Int)) (k1 true) (cond_ (! (decide (n334 < (0 : Int)))) (cond_ (! (decide (n334 > (3 : Int)))) (cond_ (decide (n335 < n336)) (k1 false) (cond_ (! (n334 == (1 : Int))) (cond_ (decide (n337 ≤ (8 : Int))) (k1 true) (k1 (decide ((IntKind.wrap .u64 ((IntKind.wrap .u64 n335) - (IntKind.wrap .u64 n336))) ≥ (IntKind.wrap .u64 (IntKind.wrap .i64 (n337 - (8 : Int)))))))) (k1 true))) (k1 false)) (k1 false)))
noncomputable def ref28_Passes (n334 : Int) (n335 : Int) (n336 : Int) (n337 : Int) (k1 : Bool → Option Bool) : Option Bool := ref28_Passes.body n334 n335 n336 n337 k1
noncomputable def ref28_Passes.get (F : Int → Int → Int → Int → (Bool → Option Bool) → Option Bool) (e : Option Bool) (g : FuncId) (a : List AV) (h : Heap) (k : KR) : Option Bool := match g, a, h with
  | 12, [(.d ⟨(.int .i64), n334⟩), (.d ⟨(.int .i64), n335⟩), (.d ⟨(.int .i64), n336⟩), (.d ⟨(.int .i64), n337⟩)], [] => F n334 n335 n336 n337 (fun y0 => k (.d ⟨.bool, y0⟩) [])
  | _, _, _ => e
noncomputable def ref28_Passes.calls : RecF := fun g a h k => none
noncomputable def ref28_Passes.loops : LoopF := fun b => none
set_option maxRecDepth 100000 in
theorem ref28_Passes.eq (n334 : Int) (n335 : Int) (n336 : Int) (n337 : Int) (k : KR) : execL Try.prog ht 12 (callfOf (ref28_Passes.calls)) (ref28_Passes.loops) 0 (codeOf Try.f12) ⟨[(.d ⟨(.int .i64), n334⟩), (.d ⟨(.int .i64), n335⟩), (.d ⟨(.int .i64), n336⟩), (.d ⟨(.int .i64), n337⟩)] ++ List.replicate (Try.f12.ntmps - ([(.d ⟨(.int .i64), n334⟩), (.d ⟨(.int .i64), n335⟩), (.d ⟨(.int .i64), n336⟩), (.d ⟨(.int .i64), n337⟩)] : List AV).length) .undef, [], 2⟩ (leave Try.prog Try.f12 k) = ref28_Passes.body n334 n335 n336 n337 (fun y0 => k (.d ⟨.bool, y0⟩) []) := by kernel_rfl
theorem ref28_Passes.ok (d : Nat) (hd : 1 ≤ d) (n334 : Int) (n335 : Int) (n336 : Int) (n337 : Int) (k : KR) (hx : ref28_Passes n334 n335 n336 n337 (fun y0 => k (.d ⟨.bool, y0⟩) []) = some true) : callK Try.prog ht d 12 [(.d ⟨(.int .i64), n334⟩), (.d ⟨(.int .i64), n335⟩), (.d ⟨(.int .i64), n336⟩), (.d ⟨(.int .i64), n337⟩)] [] k = some true := by
  obtain ⟨d, rfl⟩ : ∃ e, d = e + 1 := ⟨d - 1, by omega⟩
  exact fn_ok (c := codeOf Try.f12) Try.func12 (by kernel_rfl) (rec := ref28_Passes.calls) (fun g a h k hx => by
    cases hx) (loopf := ref28_Passes.loops) (by
    have e : loopsOf (ref28_Passes.loops) 0 (codeOf Try.f12) = [] := by kernel_rfl
    rw [e]
    intro p hp
    cases hp) ((ref28_Passes.eq n334 n335 n336 n337 k).trans hx)
theorem ref28_Passes.look (d : Nat) (hd : 1 ≤ d) {e : Option Bool} {g : FuncId} {a : List AV} {h : Heap} {k : KR} (hx : ref28_Passes.get ref28_Passes e g a h k = some true) : e = some true ∨ callK Try.prog ht d g a h k = some true := by
  unfold ref28_Passes.get at hx
  split at hx
  · exact .inr (ref28_Passes.ok d hd _ _ _ _ _ hx)
  · exact .inl hx
/-- function 3: the loop in block 0 -/
noncomputable def law39_StackKeeps_L0.body (law39_StackKeeps_L0 : (List Int) → (List Int) → Int → Int → Int → Int → Int → Int → Int → Int → Bool → (List Int) → (Bool → Option Bool) → ((List Int) → Int → Int → Int → Int → Int → Int → Int → Bool → (List Int) → Option Bool) → Option Bool) (stack_Stack_Push : Int → Int → Int → Int → Int → Int → Int → Int → Bool → (List Int) → (Bool → Int → Int → Int → Int → Int → Int → Int → Bool → (List Int) → Option Bool) → Option Bool) (stack_Stack_Grow : Int → Int → Int → Int → Int → Int → Int → Int → Bool → (List Int) → (Bool → Int → Int → Int → Int → Int → Int → Int → Bool → (List Int) → Option Bool) → (Bool → Int → Int → Int → Int → Int → Int → Int → Bool → (List Int) → Option Bool) → Option Bool) (stack_Stack_SP : Int → Int → Int → Int → Int → Int → Int → Bool → (List Int) → (Int → Int → Int → Int → Int → Int → Int → Int → Bool → (List Int) → Option Bool) → Option Bool) (stack_Stack_Seg : Int → Int → Int → Int → Int → Int → Int → Bool → (List Int) → ((Int × Int × Int × Unit) → Int → Int → Int → Int → Int → Int → Int → Bool → (List Int) → Option Bool) → Option Bool) (ref28_Passes : Int → Int → Int → Int → (Bool → Option Bool) → Option Bool) (ns37 : List Int) (ns38 : List Int) (n39 : Int) (n40 : Int) (n41 : Int) (n42 : Int) (n43 : Int) (n44 : Int) (n45 : Int) (n46 : Int) (b47 : Bool) (ns48 : List Int) (k1 : Bool → Option Bool) (k2 : (List Int) → Int → Int → Int → Int → Int → Int → Int → Bool → (List Int) → Option Bool) : Option Bool :=
  (cond_ (decide (n39 < (((List.length ns37) : Nat) : Int))) (cond_ ((decide ((0 : Int) ≤ n39)) && (decide (n39 < (((List.length ns37) : Nat) : Int)))) (stack_Stack_Push (List.getD ns37 (Int.toNat n39) (0 : Int)) n40 n41 n42 n43 n44 n45 n46 b47 ns48
  (fun b173 n174 n175 n176 n177 n178 n179 n180 b181 ns182 => (cond_ (! b173) (k1 false) (cond_ (decide (n39 < (((List.length ns38) : Nat) : Int))) (cond_ ((decide ((0 : Int) ≤ n39)) && (decide (n39 < (((List.length ns38) : Nat) : Int)))) (cond_ (decide ((List.getD ns38 (Int.toNat n39) (0 : Int)) > (200 : Int))) (cond_ ((decide ((0 : Int) ≤ n39)) && (decide (n39 < (((List.length ns38) : Nat) : Int)))) (stack_Stack_Grow (IntKind.wrap .i64 (List.getD ns38 (Int.toNat n39) (0 : Int))) n174 n175 n176 n177 n178 n179 n180 b181 ns182
  (fun b304 n305 n306 n307 n308 n309 n310 n311 b312 ns313 => (cond_ b304 (stack_Stack_SP n305 n306 n307 n308 n309 n310 n311 b312 ns313
  (fun n314 n315 n316 n317 n318 n319 n320 n321 b322 ns323 => (stack_Stack_Seg n315 n316 n317 n318 n319 n320 n321 b322 ns323
  (fun t324 n325 n326 n327 n328 n329 n330 n331 b332 ns333 => (cond_ ((decide ((0 : Int) ≤ n39)) && (decide (n39 < (((List.length ns38) : Nat) : Int)))) (ref28_Passes (3 : Int) n314 t324.2.1 (IntKind.wrap .i64 (List.getD ns38 (Int.toNat n39) (0 : Int)))
  (fun b338 => (cond_ (! b338) (k1 false) (law39_StackKeeps_L0 ns37 ns38 (IntKind.wrap .i64 (n39 + (1 : Int))) n325 n326 n327 n328 n329 n330 n331 b332 ns333 k1 k2)))) none))))) (law39_StackKeeps_L0 ns37 ns38 (IntKind.wrap .i64 (n39 + (1 : Int))) n305 n306 n307 n308 n309 n310 n311 b312 ns313 k1 k2)))
  (fun b339 n340 n341 n342 n343 n344 n345 n346 b347 ns348 => (cond_ b339 (stack_Stack_SP n340 n341 n342 n343 n344 n345 n346 b347 ns348
  (fun n349 n350 n351 n352 n353 n354 n355 n356 b357 ns358 => (stack_Stack_Seg n350 n351 n352 n353 n354 n355 n356 b357 ns358
  (fun t359 n360 n361 n362 n363 n364 n365 n366 b367 ns368 => (cond_ ((decide ((0 : Int) ≤ n39)) && (decide (n39 < (((List.length ns38) : Nat) : Int)))) (ref28_Passes (3 : Int) n349 t359.2.1 (IntKind.wrap .i64 (List.getD ns38 (Int.toNat n39) (0 : Int)))
  (fun b369 => (cond_ (! b369) (k1 false) (law39_StackKeeps_L0 ns37 ns38 (IntKind.wrap .i64 (n39 + (1 : Int))) n360 n361 n362 n363 n364 n365 n366 b367 ns368 k1 k2)))) none))))) (law39_StackKeeps_L0 ns37 ns38 (IntKind.wrap .i64 (n39 + (1 : Int))) n340 n341 n342 n343 n344 n345 n346 b347 ns348 k1 k2)))) none) (law39_StackKeeps_L0 ns37 ns38 (IntKind.wrap .i64 (n39 + (1 : Int))) n174 n175 n176 n177 n178 n179 n180 b181 ns182 k1 k2)) none) (law39_StackKeeps_L0 ns37 ns38 (IntKind.wrap .i64 (n39 + (1 : Int))) n174 n175 n176 n177 n178 n179 n180 b181 ns182 k1 k2))))) none) (k2 ns37 n40 n41 n42 n43 n44 n45 n46 b47 ns48))
noncomputable def law39_StackKeeps_L0 : Nat → (List Int) → (List Int) → Int → Int → Int → Int → Int → Int → Int → Int → Bool → (List Int) → (Bool → Option Bool) → ((List Int) → Int → Int → Int → Int → Int → Int → Int → Bool → (List Int) → Option Bool) → Option Bool
  | 0 => fun _ _ _ _ _ _ _ _ _ _ _ _ _ _ => none
  | n + 1 => law39_StackKeeps_L0.body (law39_StackKeeps_L0 n) stack_Stack_Push stack_Stack_Grow stack_Stack_SP stack_Stack_Seg ref28_Passes
noncomputable def law39_StackKeeps_L0.get (F : (List Int) → (List Int) → Int → Int → Int → Int → Int → Int → Int → Int → Bool → (List Int) → (Bool → Option Bool) → ((List Int) → Int → Int → Int → Int → Int → Int → Int → Bool → (List Int) → Option Bool) → Option Bool) (e : Option Bool) (st : St) (k : KE) : Option Bool := match st with
  | ⟨sl, hp, m⟩ => match Nat.beq m 2, pickS 115 [0, 1, 5, 7] sl, hp with
    | true, some [(.bv 0 2 (.int .i64) ns37), (.bv 0 5 (.int .u8) ns38), (.ptr [1, 0] 0 0), (.d ⟨(.int .i64), n39⟩)], [([1, 0], ⟨53, 8, (.mix [(.agg [(.ptr [1, 1] 0 0), (.d ⟨(.int .i64), n40⟩), (.d ⟨(.int .i64), n41⟩), (.d ⟨(.int .i64), n42⟩), (.d ⟨(.int .i64), n43⟩), (.d ⟨(.int .i64), n44⟩), (.d ⟨(.int .i64), n45⟩), (.d ⟨(.int .i64), n46⟩)])])⟩), ([1, 1], ⟨61, 2, (.mix [(.agg [(.ref [1, 2]), (.d ⟨.bool, b47⟩)])])⟩), ([1, 2], ⟨2, 1, (.data (.int .i64) ns48)⟩)] => F ns37 ns38 n39 n40 n41 n42 n43 n44 n45 n46 b47 ns48 (fun y0 => k .ret ⟨fillS 115 [4] [(.d ⟨.bool, y0⟩)], [], 2⟩) (fun y0 y1 y2 y3 y4 y5 y6 y7 y8 y9 => k (.exit 0) ⟨fillS 115 [0, 5] [(.bv 0 2 (.int .i64) y0), (.ptr [1, 0] 0 0)], [([1, 0], ⟨53, 8, (.mix [(.agg [(.ptr [1, 1] 0 0), (.d ⟨(.int .i64), y1⟩), (.d ⟨(.int .i64), y2⟩), (.d ⟨(.int .i64), y3⟩), (.d ⟨(.int .i64), y4⟩), (.d ⟨(.int .i64), y5⟩), (.d ⟨(.int .i64), y6⟩), (.d ⟨(.int .i64), y7⟩)])])⟩), ([1, 1], ⟨61, 2, (.mix [(.agg [(.ref [1, 2]), (.d ⟨.bool, y8⟩)])])⟩), ([1, 2], ⟨2, 1, (.data (.int .i64) y9)⟩)], 2⟩)
    | _, _, _ => e
noncomputable def law39_StackKeeps_L0.calls (F0 : Int → Int → Int → Int → Int → Int → Int → Int → Bool → (List Int) → (Bool → Int → Int → Int → Int → Int → Int → Int → Bool → (List Int) → Option Bool) → Option Bool) (F1 : Int → Int → Int → Int → Int → Int → Int → Int → Bool → (List Int) → (Bool → Int → Int → Int → Int → Int → Int → Int → Bool → (List Int) → Option Bool) → (Bool → Int → Int → Int → Int → Int → Int → Int → Bool → (List Int) → Option Bool) → Option Bool) (F2 : Int → Int → Int → Int → Int → Int → Int → Bool → (List Int) → (Int → Int → Int → Int → Int → Int → Int → Int → Bool → (List Int) → Option Bool) → Option Bool) (F3 : Int → Int → Int → Int → Int → Int → Int → Bool → (List Int) → ((Int × Int × Int × Unit) → Int → Int → Int → Int → Int → Int → Int → Bool → (List Int) → Option Bool) → Option Bool) (F4 : Int → Int → Int → Int → (Bool → Option Bool) → Option Bool) : RecF := fun g a h k => (stack_Stack_Push.get F0 (stack_Stack_Grow.get F1 (stack_Stack_SP.get F2 (stack_Stack_Seg.get F3 (ref28_Passes.get F4 none g a h k) g a h k) g a h k) g a h k) g a h k)
noncomputable def law39_StackKeeps_L0.loops : LoopF := fun b => none
set_option maxRecDepth 100000 in
theorem law39_StackKeeps_L0.step (S : (List Int) → (List Int) → Int → Int → Int → Int → Int → Int → Int → Int → Bool → (List Int) → (Bool → Option Bool) → ((List Int) → Int → Int → Int → Int → Int → Int → Int → Bool → (List Int) → Option Bool) → Option Bool) (F0 : Int → Int → Int → Int → Int → Int → Int → Int → Bool → (List Int) → (Bool → Int → Int → Int → Int → Int → Int → Int → Bool → (List Int) → Option Bool) → Option Bool) (F1 : Int → Int → Int → Int → Int → Int → Int → Int → Bool → (List Int) → (Bool → Int → Int → Int → Int → Int → Int → Int → Bool → (List Int) → Option Bool) → (Bool → Int → Int → Int → Int → Int → Int → Int → Bool → (List Int) → Option Bool) → Option Bool) (F2 : Int → Int → Int → Int → Int → Int → Int → Bool → (List Int) → (Int → Int → Int → Int → Int → Int → Int → Int → Bool → (List Int) → Option Bool) → Option Bool) (F3 : Int → Int → Int → Int → Int → Int → Int → Bool → (List Int) → ((Int × Int × Int × Unit) → Int → Int → Int → Int → Int → Int → Int → Bool → (List Int) → Option Bool) → Option Bool) (F4 : Int → Int → Int → Int → (Bool → Option Bool) → Option Bool) (ns37 : List Int) (ns38 : List Int) (n39 : Int) (n40 : Int) (n41 : Int) (n42 : Int) (n43 : Int) (n44 : Int) (n45 : Int) (n46 : Int) (b47 : Bool) (ns48 : List Int) (k : KE) : execL Try.prog ht 3 (callfOf (law39_StackKeeps_L0.calls F0 F1 F2 F3 F4)) (law39_StackKeeps_L0.loops) 0 (loopAt 0 (codeOf Try.f3)) ⟨fillS 115 [0, 1, 5, 7] [(.bv 0 2 (.int .i64) ns37), (.bv 0 5 (.int .u8) ns38), (.ptr [1, 0] 0 0), (.d ⟨(.int .i64), n39⟩)], [([1, 0], ⟨53, 8, (.mix [(.agg [(.ptr [1, 1] 0 0), (.d ⟨(.int .i64), n40⟩), (.d ⟨(.int .i64), n41⟩), (.d ⟨(.int .i64), n42⟩), (.d ⟨(.int .i64), n43⟩), (.d ⟨(.int .i64), n44⟩), (.d ⟨(.int .i64), n45⟩), (.d ⟨(.int .i64), n46⟩)])])⟩), ([1, 1], ⟨61, 2, (.mix [(.agg [(.ref [1, 2]), (.d ⟨.bool, b47⟩)])])⟩), ([1, 2], ⟨2, 1, (.data (.int .i64) ns48)⟩)], 2⟩ (again (law39_StackKeeps_L0.get S none) (plan Try.prog (ht 3 0)) k) = law39_StackKeeps_L0.body S F0 F1 F2 F3 F4 ns37 ns38 n39 n40 n41 n42 n43 n44 n45 n46 b47 ns48 (fun y0 => k .ret ⟨fillS 115 [4] [(.d ⟨.bool, y0⟩)], [], 2⟩) (fun y0 y1 y2 y3 y4 y5 y6 y7 y8 y9 => k (.exit 0) ⟨fillS 115 [0, 5] [(.bv 0 2 (.int .i64) y0), (.ptr [1, 0] 0 0)], [([1, 0], ⟨53, 8, (.mix [(.agg [(.ptr [1, 1] 0 0), (.d ⟨(.int .i64), y1⟩), (.d ⟨(.int .i64), y2⟩), (.d ⟨(.int .i64), y3⟩), (.d ⟨(.int .i64), y4⟩), (.d ⟨(.int .i64), y5⟩), (.d ⟨(.int .i64), y6⟩), (.d ⟨(.int .i64), y7⟩)])])⟩), ([1, 1], ⟨61, 2, (.mix [(.agg [(.ref [1, 2]), (.d ⟨.bool, y8⟩)])])⟩), ([1, 2], ⟨2, 1, (.data (.int .i64) y9)⟩)], 2⟩) := by kernel_rfl
theorem law39_StackKeeps_L0.ok (d : Nat) (hd : 6 ≤ d) : ∀ n st k, law39_StackKeeps_L0.get (law39_StackKeeps_L0 n) none st k = some true → iter n (plan Try.prog (ht 3 0)) (fun st k => execK Try.prog ht 3 (callfOf (callK Try.prog ht d)) 0 (loopAt 0 (codeOf Try.f3)) st k) st k = some true :=
  loop_ok (lfn := fun n st k => law39_StackKeeps_L0.get (law39_StackKeeps_L0 n) none st k) (rec := law39_StackKeeps_L0.calls stack_Stack_Push stack_Stack_Grow stack_Stack_SP stack_Stack_Seg ref28_Passes) (fun g a h k hx => by
    rcases stack_Stack_Push.look d (by omega) hx with hx | hx
    rotate_left
    · exact hx
    rcases stack_Stack_Grow.look d (by omega) hx with hx | hx
    rotate_left
    · exact hx
    rcases stack_Stack_SP.look d (by omega) hx with hx | hx
    rotate_left
    · exact hx
    rcases stack_Stack_Seg.look d (by omega) hx with hx | hx
    rotate_left
    · exact hx
    rcases ref28_Passes.look d (by omega) hx with hx | hx
    rotate_left
    · exact hx
    cases hx) (loopf := law39_StackKeeps_L0.loops) (by
    have e : loopsOf (law39_StackKeeps_L0.loops) 0 (loopAt 0 (codeOf Try.f3)) = [] := by kernel_rfl
    rw [e]
    intro p hp
    cases hp) (fun st k h => by
    obtain ⟨sl, hp, m⟩ := st
    unfold law39_StackKeeps_L0.get at h
    dsimp only at h
    split at h
    · have h' : (none : Option Bool) = some true := h
      cases h'
    · cases h) (fun n st k h => by
    obtain ⟨sl, hp, m⟩ := st
    unfold law39_StackKeeps_L0.get at h
    dsimp only at h
    split at h
    · rename_i h1 h2
      obtain rfl := pickS_ok h2
      obtain rfl := Nat.eq_of_beq_eq_true h1
      exact (law39_StackKeeps_L0.step (law39_StackKeeps_L0 n) stack_Stack_Push stack_Stack_Grow stack_Stack_SP stack_Stack_Seg ref28_Passes _ _ _ _ _ _ _ _ _ _ _ _ k).trans h
    · cases h)
theorem law39_StackKeeps_L0.look {F : (List Int) → (List Int) → Int → Int → Int → Int → Int → Int → Int → Int → Bool → (List Int) → (Bool → Option Bool) → ((List Int) → Int → Int → Int → Int → Int → Int → Int → Bool → (List Int) → Option Bool) → Option Bool} {e : Option Bool} {st : St} {k : KE} (hx : law39_StackKeeps_L0.get F e st k = some true) : e = some true ∨ law39_StackKeeps_L0.get F none st k = some true := by
  obtain ⟨sl, hp, m⟩ := st
  unfold law39_StackKeeps_L0.get at hx ⊢
  dsimp only at hx ⊢
  split at hx
  · exact .inr hx
  · exact .inl hx
/-- function 48: (*sheerleg/stack.Stack).has -/
noncomputable def stack_Stack_has.body (stack_Stack_Id : Int → Int → Int → Int → Int → Int → Int → Bool → (List Int) → (Int → Int → Int → Int → Int → Int → Int → Int → Bool → (List Int) → Option Bool) → Option Bool) (n411 : Int) (n412 : Int) (n413 : Int) (n414 : Int) (n415 : Int) (n416 : Int) (n417 : Int) (n418 : Int) (b419 : Bool) (ns420 : List Int) (k1 : Bool → Int → Int → Int → Int → Int → Int → Int → Bool → (List Int) → Option Bool) : Option Bool :=
  (cond_ (decide (n411 ≥ (0 : Int))) (stack_Stack_Id n412 n413 n414 n415 n416 n417 n418 b419 ns420
  (fun n421 n422 n423 n424 n425 n426 n427 n428 b429 ns430 => (k1 (decide (n411 < n421)) n422 n423 n424 n425 n426 n427 n428 b429 ns430))) (k1 false n412 n413 n414 n415 n416 n417 n418 b419 ns420))
noncomputable def stack_Stack_has (n411 : Int) (n412 : Int) (n413 : Int) (n414 : Int) (n415 : Int) (n416 : Int) (n417 : Int) (n418 : Int) (b419 : Bool) (ns420 : List Int) (k1 : Bool → Int → Int → Int → Int → Int → Int → Int → Bool → (List Int) → Option Bool) : Option Bool := stack_Stack_has.body stack_Stack_Id n411 n412 n413 n414 n415 n416 n417 n418 b419 ns420 k1
noncomputable def stack_Stack_has.get (F : Int → Int → Int → Int → Int → Int → Int → Int → Bool → (List Int) → (Bool → Int → Int → Int → Int → Int → Int → Int → Bool → (List Int) → Option Bool) → Option Bool) (e : Option Bool) (g : FuncId) (a : List AV) (h : Heap) (k : KR) : Option Bool := match g, a, h with
  | 48, [(.ptr [0, 0] 0 0), (.d ⟨(.int .i64), n411⟩)], [([0, 0], ⟨53, 8, (.mix [(.agg [(.ptr [0, 1] 0 0), (.d ⟨(.int .i64), n412⟩), (.d ⟨(.int .i64), n413⟩), (.d ⟨(.int .i64), n414⟩), (.d ⟨(.int .i64), n415⟩), (.d ⟨(.int .i64), n416⟩), (.d ⟨(.int .i64), n417⟩), (.d ⟨(.int .i64), n418⟩)])])⟩), ([0, 1], ⟨61, 2, (.mix [(.agg [(.ref [0, 2]), (.d ⟨.bool, b419⟩)])])⟩), ([0, 2], ⟨2, 1, (.data (.int .i64) ns420)⟩)] => F n411 n412 n413 n414 n415 n416 n417 n418 b419 ns420 (fun y0 y1 y2 y3 y4 y5 y6 y7 y8 y9 => k (.d ⟨.bool, y0⟩) [([0, 0], ⟨53, 8, (.mix [(.agg [(.ptr [0, 1] 0 0), (.d ⟨(.int .i64), y1⟩), (.d ⟨(.int .i64), y2⟩), (.d ⟨(.int .i64), y3⟩), (.d ⟨(.int .i64), y4⟩), (.d ⟨(.int .i64), y5⟩), (.d ⟨(.int .i64), y6⟩), (.d ⟨(.int .i64), y7⟩)])])⟩), ([0, 1], ⟨61, 2, (.mix [(.agg [(.ref [0, 2]), (.d ⟨.bool, y8⟩)])])⟩), ([0, 2], ⟨2, 1, (.data (.int .i64) y9)⟩)])
  | _, _, _ => e
noncomputable def stack_Stack_has.calls (F0 : Int → Int → Int → Int → Int → Int → Int → Bool → (List Int) → (Int → Int → Int → Int → Int → Int → Int → Int → Bool → (List Int) → Option Bool) → Option Bool) : RecF := fun g a h k => (stack_Stack_Id.get F0 none g a h k)
noncomputable def stack_Stack_has.loops : LoopF := fun b => none
set_option maxRecDepth 100000 in
theorem stack_Stack_has.eq (F0 : Int → Int → Int → Int → Int → Int → Int → Bool → (List Int) → (Int → Int → Int → Int → Int → Int → Int → Int → Bool → (List Int) → Option Bool) → Option Bool) (n411 : Int) (n412 : Int) (n413 : Int) (n414 : Int) (n415 : Int) (n416 : Int) (n417 : Int) (n418 : Int) (b419 : Bool) (ns420 : List Int) (k : KR) : execL Try.prog ht 48 (callfOf (stack_Stack_has.calls F0)) (stack_Stack_has.loops) 0 (codeOf Try.f48) ⟨[(.ptr [0, 0] 0 0), (.d ⟨(.int .i64), n411⟩)] ++ List.replicate (Try.f48.ntmps - ([(.ptr [0, 0] 0 0), (.d ⟨(.int .i64), n411⟩)] : List AV).length) .undef, [([0, 0], ⟨53, 8, (.mix [(.agg [(.ptr [0, 1] 0 0), (.d ⟨(.int .i64), n412⟩), (.d ⟨(.int .i64), n413⟩), (.d ⟨(.int .i64), n414⟩), (.d ⟨(.int .i64), n415⟩), (.d ⟨(.int .i64), n416⟩), (.d ⟨(.int .i64), n417⟩), (.d ⟨(.int .i64), n418⟩)])])⟩), ([0, 1], ⟨61, 2, (.mix [(.agg [(.ref [0, 2]), (.d ⟨.bool, b419⟩)])])⟩), ([0, 2], ⟨2, 1, (.data (.int .i64) ns420)⟩)], 2⟩ (leave Try.prog Try.f48 k) = stack_Stack_has.body F0 n411 n412 n413 n414 n415 n416 n417 n418 b419 ns420 (fun y0 y1 y2 y3 y4 y5 y6 y7 y8 y9 => k (.d ⟨.bool, y0⟩) [([0, 0], ⟨53, 8, (.mix [(.agg [(.ptr [0, 1] 0 0), (.d ⟨(.int .i64), y1⟩), (.d ⟨(.int .i64), y2⟩), (.d ⟨(.int .i64), y3⟩), (.d ⟨(.int .i64), y4⟩), (.d ⟨(.int .i64), y5⟩), (.d ⟨(.int .i64), y6⟩), (.d ⟨(.int .i64), y7⟩)])])⟩), ([0, 1], ⟨61, 2, (.mix [(.agg [(.ref [0, 2]), (.d ⟨.bool, y8⟩)])])⟩), ([0, 2], ⟨2, 1, (.data (.int .i64) y9)⟩)]) := by kernel_rfl
theorem stack_Stack_has.ok (d : Nat) (hd : 4 ≤ d) (n411 : Int) (n412 : Int) (n413 : Int) (n414 : Int) (n415 : Int) (n416 : Int) (n417 : Int) (n418 : Int) (b419 : Bool) (ns420 : List Int) (k : KR) (hx : stack_Stack_has n411 n412 n413 n414 n415 n416 n417 n418 b419 ns420 (fun y0 y1 y2 y3 y4 y5 y6 y7 y8 y9 => k (.d ⟨.bool, y0⟩) [([0, 0], ⟨53, 8, (.mix [(.agg [(.ptr [0, 1] 0 0), (.d ⟨(.int .i64), y1⟩), (.d ⟨(.int .i64), y2⟩), (.d ⟨(.int .i64), y3⟩), (.d ⟨(.int .i64), y4⟩), (.d ⟨(.int .i64), y5⟩), (.d ⟨(.int .i64), y6⟩), (.d ⟨(.int .i64), y7⟩)])])⟩), ([0, 1], ⟨61, 2, (.mix [(.agg [(.ref [0, 2]), (.d ⟨.bool, y8⟩)])])⟩), ([0, 2], ⟨2, 1, (.data (.int .i64) y9)⟩)]) = some true) : callK Try.prog ht d 48 [(.ptr [0, 0] 0 0), (.d ⟨(.int .i64), n411⟩)] [([0, 0], ⟨53, 8, (.mix [(.agg [(.ptr [0, 1] 0 0), (.d ⟨(.int .i64), n412⟩), (.d ⟨(.int .i64), n413⟩), (.d ⟨(.int .i64), n414⟩), (.d ⟨(.int .i64), n415⟩), (.d ⟨(.int .i64), n416⟩), (.d ⟨(.int .i64), n417⟩), (.d ⟨(.int .i64), n418⟩)])])⟩), ([0, 1], ⟨61, 2, (.mix [(.agg [(.ref [0, 2]), (.d ⟨.bool, b419⟩)])])⟩), ([0, 2], ⟨2, 1, (.data (.int .i64) ns420)⟩)] k = some true := by
  obtain ⟨d, rfl⟩ : ∃ e, d = e + 1 := ⟨d - 1, by omega⟩
  exact fn_ok (c := codeOf Try.f48) Try.func48 (by kernel_rfl) (rec := stack_Stack_has.calls stack_Stack_Id) (fun g a h k hx => by
    rcases stack_Stack_Id.look d (by omega) hx with hx | hx
    rotate_left
    · exact hx
    cases hx) (loopf := stack_Stack_has.loops) (by
    have e : loopsOf (stack_Stack_has.loops) 0 (codeOf Try.f48) = [] := by kernel_rfl
    rw [e]
    intro p hp
    cases hp) ((stack_Stack_has.eq stack_Stack_Id n411 n412 n413 n414 n415 n416 n417 n418 b419 ns420 k).trans hx)
theorem stack_Stack_has.look (d : Nat) (hd : 4 ≤ d) {e : Option Bool} {g : FuncId} {a : List AV} {h : Heap} {k : KR} (hx : stack_Stack_has.get stack_Stack_has e g a h k = some true) : e = some true ∨ callK Try.prog ht d g a h k = some true := by
  unfold stack_Stack_has.get at hx
  split at hx
  · exact .inr (stack_Stack_has.ok d hd _ _ _ _ _ _ _ _ _ _ _ hx)
  · exact .inl hx
/-- function 47: (*sheerleg/memory.Memory).Load$1 -/
noncomputable def memory_Memory_Loadfn1.body (m451 : Nat) (ns452 : List Int) (n453 : Int) (k1 : (List Int) → Int → Option Bool) : Option Bool :=
  (k1 ns452 (List.getD ns452 m451 (0 : Int)))
noncomputable def memory_Memory_Loadfn1 (m451 : Nat) (ns452 : List Int) (n453 : Int) (k1 : (List Int) → Int → Option Bool) : Option Bool := memory_Memory_Loadfn1.body m451 ns452 n453 k1
noncomputable def memory_Memory_Loadfn1.get (F : Nat → (List Int) → Int → ((List Int) → Int → Option Bool) → Option Bool) (e : Option Bool) (g : FuncId) (a : List AV) (h : Heap) (k : KR) : Option Bool := match g, a, h with
  | 47, [(.ptr [0, 0] m451 0), (.ptr [0, 1] 0 0)], [([0, 0], ⟨2, 1, (.data (.int .i64) ns452)⟩), ([0, 1], ⟨2, 1, (.data (.int .i64) [n453])⟩)] => F m451 ns452 n453 (fun y0 y1 => k (.tup []) [([0, 0], ⟨2, 1, (.data (.int .i64) y0)⟩), ([0, 1], ⟨2, 1, (.data (.int .i64) [y1])⟩)])
  | _, _, _ => e
noncomputable def memory_Memory_Loadfn1.calls : RecF := fun g a h k => none
noncomputable def memory_Memory_Loadfn1.loops : LoopF := fun b => none
set_option maxRecDepth 100000 in
theorem memory_Memory_Loadfn1.eq (m451 : Nat) (ns452 : List Int) (n453 : Int) (k : KR) : execL Try.prog ht 47 (callfOf (memory_Memory_Loadfn1.calls)) (memory_Memory_Loadfn1.loops) 0 (codeOf Try.f47) ⟨[(.ptr [0, 0] m451 0), (.ptr [0, 1] 0 0)] ++ List.replicate (Try.f47.ntmps - ([(.ptr [0, 0] m451 0), (.ptr [0, 1] 0 0)] : List AV).length) .undef, [([0, 0], ⟨2, 1, (.data (.int .i64) ns452)⟩), ([0, 1], ⟨2, 1, (.data (.int .i64) [n453])⟩)], 2⟩ (leave Try.prog Try.f47 k) = memory_Memory_Loadfn1.body m451 ns452 n453 (fun y0 y1 => k (.tup []) [([0, 0], ⟨2, 1, (.data (.int .i64) y0)⟩), ([0, 1], ⟨2, 1, (.data (.int .i64) [y1])⟩)]) := by kernel_rfl
theorem memory_Memory_Loadfn1.ok (d : Nat) (hd : 1 ≤ d) (m451 : Nat) (ns452 : List Int) (n453 : Int) (k : KR) (hx : memory_Memory_Loadfn1 m451 ns452 n453 (fun y0 y1 => k (.tup []) [([0, 0], ⟨2, 1, (.data (.int .i64) y0)⟩), ([0, 1], ⟨2, 1, (.data (.int .i64) [y1])⟩)]) = some true) : callK Try.prog ht d 47 [(.ptr [0, 0] m451 0), (.ptr [0, 1] 0 0)] [([0, 0], ⟨2, 1, (.data (.int .i64) ns452)⟩), ([0, 1], ⟨2, 1, (.data (.int .i64) [n453])⟩)] k = some true := by
  obtain ⟨d, rfl⟩ : ∃ e, d = e + 1 := ⟨d - 1, by omega⟩
  exact fn_ok (c := codeOf Try.f47) Try.func47 (by kernel_rfl) (rec := memory_Memory_Loadfn1.calls) (fun g a h k hx => by
    cases hx) (loopf := memory_Memory_Loadfn1.loops) (by
    have e : loopsOf (memory_Memory_Loadfn1.loops) 0 (codeOf Try.f47) = [] := by kernel_rfl
    rw [e]
    intro p hp
    cases hp) ((memory_Memory_Loadfn1.eq m451 ns452 n453 k).trans hx)
theorem memory_Memory_Loadfn1.look (d : Nat) (hd : 1 ≤ d) {e : Option Bool} {g : FuncId} {a : List AV} {h : Heap} {k : KR} (hx : memory_Memory_Loadfn1.get memory_Memory_Loadfn1 e g a h k = some true) : e = some true ∨ callK Try.prog ht d g a h k = some true := by
  unfold memory_Memory_Loadfn1.get at hx
  split at hx
  · exact .inr (memory_Memory_Loadfn1.ok d hd _ _ _ _ hx)
  · exact .inl hx
/-- function 46: (*sheerleg/memory.Memory).at -/
noncomputable def memory_Memory_atv1.body (memory_Memory_Size : Bool → (List Int) → (Int → Bool → (List Int) → Option Bool) → Option Bool) (memory_Memory_Loadfn1 : Nat → (List Int) → Int → ((List Int) → Int → Option Bool) → Option Bool) (n444 : Int) (b445 : Bool) (ns446 : List Int) (n447 : Int) (k1 : Bool → Bool → (List Int) → Int → Option Bool) : Option Bool :=
  (cond_ (! (decide (n444 < (0 : Int)))) (memory_Memory_Size b445 ns446
  (fun n448 b449 ns450 => (cond_ (decide (n444 ≥ n448)) (k1 false b449 ns450 n447) (cond_ ((decide ((0 : Int) ≤ n444)) && (decide (n444 < (((List.length ns450) : Nat) : Int)))) (memory_Memory_Loadfn1 (Int.toNat n444) ns450 n447
  (fun ns454 n455 => (k1 true b449 ns454 n455))) none)))) (k1 false b445 ns446 n447))
noncomputable def memory_Memory_atv1 (n444 : Int) (b445 : Bool) (ns446 : List Int) (n447 : Int) (k1 : Bool → Bool → (List Int) → Int → Option Bool) : Option Bool := memory_Memory_atv1.body memory_Memory_Size memory_Memory_Loadfn1 n444 b445 ns446 n447 k1
noncomputable def memory_Memory_atv1.get (F : Int → Bool → (List Int) → Int → (Bool → Bool → (List Int) → Int → Option Bool) → Option Bool) (e : Option Bool) (g : FuncId) (a : List AV) (h : Heap) (k : KR) : Option Bool := match g, a, h with
  | 46, [(.ptr [0, 0] 0 0), (.d ⟨(.int .i64), n444⟩), (.fn (.func 47) [] [(.ptr [0, 2] 0 0)])], [([0, 0], ⟨61, 2, (.mix [(.agg [(.ref [0, 1]), (.d ⟨.bool, b445⟩)])])⟩), ([0, 1], ⟨2, 1, (.data (.int .i64) ns446)⟩), ([0, 2], ⟨2, 1, (.data (.int .i64) [n447])⟩)] => F n444 b445 ns446 n447 (fun y0 y1 y2 y3 => k (.d ⟨.bool, y0⟩) [([0, 0], ⟨61, 2, (.mix [(.agg [(.ref [0, 1]), (.d ⟨.bool, y1⟩)])])⟩), ([0, 1], ⟨2, 1, (.data (.int .i64) y2)⟩), ([0, 2], ⟨2, 1, (.data (.int .i64) [y3])⟩)])
  | _, _, _ => e
noncomputable def memory_Memory_atv1.calls (F0 : Bool → (List Int) → (Int → Bool → (List Int) → Option Bool) → Option Bool) (F1 : Nat → (List Int) → Int → ((List Int) → Int → Option Bool) → Option Bool) : RecF := fun g a h k => (memory_Memory_Size.get F0 (memory_Memory_Loadfn1.get F1 none g a h k) g a h k)
noncomputable def memory_Memory_atv1.loops : LoopF := fun b => none
set_option maxRecDepth 100000 in
theorem memory_Memory_atv1.eq (F0 : Bool → (List Int) → (Int → Bool → (List Int) → Option Bool) → Option Bool) (F1 : Nat → (List Int) → Int → ((List Int) → Int → Option Bool) → Option Bool) (n444 : Int) (b445 : Bool) (ns446 : List Int) (n447 : Int) (k : KR) : execL Try.prog ht 46 (callfOf (memory_Memory_atv1.calls F0 F1)) (memory_Memory_atv1.loops) 0 (codeOf Try.f46) ⟨[(.ptr [0, 0] 0 0), (.d ⟨(.int .i64), n444⟩), (.fn (.func 47) [] [(.ptr [0, 2] 0 0)])] ++ List.replicate (Try.f46.ntmps - ([(.ptr [0, 0] 0 0), (.d ⟨(.int .i64), n444⟩), (.fn (.func 47) [] [(.ptr [0, 2] 0 0)])] : List AV).length) .undef, [([0, 0], ⟨61, 2, (.mix [(.agg [(.ref [0, 1]), (.d ⟨.bool, b445⟩)])])⟩), ([0, 1], ⟨2, 1, (.data (.int .i64) ns446)⟩), ([0, 2], ⟨2, 1, (.data (.int .i64) [n447])⟩)], 2⟩ (leave Try.prog Try.f46 k) = memory_Memory_atv1.body F0 F1 n444 b445 ns446 n447 (fun y0 y1 y2 y3 => k (.d ⟨.bool, y0⟩) [([0, 0], ⟨61, 2, (.mix [(.agg [(.ref [0, 1]), (.d ⟨.bool, y1⟩)])])⟩), ([0, 1], ⟨2, 1, (.data (.int .i64) y2)⟩), ([0, 2], ⟨2, 1, (.data (.int .i64) [y3])⟩)]) := by kernel_rfl
theorem memory_Memory_atv1.ok (d : Nat) (hd : 2 ≤ d) (n444 : Int) (b445 : Bool) (ns446 : List Int) (n447 : Int) (k : KR) (hx : memory_Memory_atv1 n444 b445 ns446 n447 (fun y0 y1 y2 y3 => k (.d ⟨.bool, y0⟩) [([0, 0], ⟨61, 2, (.mix [(.agg [(.ref [0, 1]), (.d ⟨.bool, y1⟩)])])⟩), ([0, 1], ⟨2, 1, (.data (.int .i64) y2)⟩), ([0, 2], ⟨2, 1, (.data (.int .i64) [y3])⟩)]) = some true) : callK Try.prog ht d 46 [(.ptr [0, 0] 0 0), (.d ⟨(.int .i64), n444⟩), (.fn (.func 47) [] [(.ptr [0, 2] 0 0)])] [([0, 0], ⟨61, 2, (.mix [(.agg [(.ref [0, 1]), (.d ⟨.bool, b445⟩)])])⟩), ([0, 1], ⟨2, 1, (.data (.int .i64) ns446)⟩), ([0, 2], ⟨2, 1, (.data (.int .i64) [n447])⟩)] k = some true := by
  obtain ⟨d, rfl⟩ : ∃ e, d = e + 1 := ⟨d - 1, by omega⟩
  exact fn_ok (c := codeOf Try.f46) Try.func46 (by kernel_rfl) (rec := memory_Memory_atv1.calls memory_Memory_Size memory_Memory_Loadfn1) (fun g a h k hx => by
    rcases memory_Memory_Size.look d (by omega) hx with hx | hx
    rotate_left
    · exact hx
    rcases memory_Memory_Loadfn1.look d (by omega) hx with hx | hx
    rotate_left
    · exact hx
    cases hx) (loopf := memory_Memory_atv1.loops) (by
    have e : loopsOf (memory_Memory_atv1.loops) 0 (codeOf Try.f46) = [] := by kernel_rfl
    rw [e]
    intro p hp
    cases hp) ((memory_Memory_atv1.eq memory_Memory_Size memory_Memory_Loadfn1 n444 b445 ns446 n447 k).trans hx)
theorem memory_Memory_atv1.look (d : Nat) (hd : 2 ≤ d) {e : Option Bool} {g : FuncId} {a : List AV} {h : Heap} {k : KR} (hx : memory_Memory_atv1.get memory_Memory_atv1 e g a h k = some true) : e = some true ∨ callK Try.prog ht d g a h k = some true := by
  unfold memory_Memory_atv1.get at hx
  split at hx
  · exact .inr (memory_Memory_atv1.ok d hd _ _ _ _ _ hx)
  · exact .inl hx
/-- function 20: (*sheerleg/memory.Memory).Load -/
noncomputable def memory_Memory_Load.body (memory_Memory_atv1 : Int → Bool → (List Int) → Int → (Bool → Bool → (List Int) → Int → Option Bool) → Option Bool) (n441 : Int) (b442 : Bool) (ns443 : List Int) (k1 : Int → Bool → Bool → (List Int) → Option Bool) : Option Bool :=
  (memory_Memory_atv1 n441 b442 ns443 (0 : Int)
  (fun b456 b457 ns458 n459 => (k1 n459 b456 b457 ns458)))
noncomputable def memory_Memory_Load (n441 : Int) (b442 : Bool) (ns443 : List Int) (k1 : Int → Bool → Bool → (List Int) → Option Bool) : Option Bool := memory_Memory_Load.body memory_Memory_atv1 n441 b442 ns443 k1
noncomputable def memory_Memory_Load.get (F : Int → Bool → (List Int) → (Int → Bool → Bool → (List Int) → Option Bool) → Option Bool) (e : Option Bool) (g : FuncId) (a : List AV) (h : Heap) (k : KR) : Option Bool := match g, a, h with
  | 20, [(.ptr [0, 0] 0 0), (.d ⟨(.int .i64), n441⟩)], [([0, 0], ⟨61, 2, (.mix [(.agg [(.ref [0, 1]), (.d ⟨.bool, b442⟩)])])⟩), ([0, 1], ⟨2, 1, (.data (.int .i64) ns443)⟩)] => F n441 b442 ns443 (fun y0 y1 y2 y3 => k (.tup [(.d ⟨(.int .i64), y0⟩), (.d ⟨.bool, y1⟩)]) [([0, 0], ⟨61, 2, (.mix [(.agg [(.ref [0, 1]), (.d ⟨.bool, y2⟩)])])⟩), ([0, 1], ⟨2, 1, (.data (.int .i64) y3)⟩)])
  | _, _, _ => e
noncomputable def memory_Memory_Load.calls (F0 : Int → Bool → (List Int) → Int → (Bool → Bool → (List Int) → Int → Option Bool) → Option Bool) : RecF := fun g a h k => (memory_Memory_atv1.get F0 none g a h k)
noncomputable def memory_Memory_Load.loops : LoopF := fun b => none
set_option maxRecDepth 100000 in
theorem memory_Memory_Load.eq (F0 : Int → Bool → (List Int) → Int → (Bool → Bool → (List Int) → Int → Option Bool) → Option Bool) (n441 : Int) (b442 : Bool) (ns443 : List Int) (k : KR) : execL Try.prog ht 20 (callfOf (memory_Memory_Load.calls F0)) (memory_Memory_Load.loops) 0 (codeOf Try.f20) ⟨[(.ptr [0, 0] 0 0), (.d ⟨(.int .i64), n441⟩)] ++ List.replicate (Try.f20.ntmps - ([(.ptr [0, 0] 0 0), (.d ⟨(.int .i64), n441⟩)] : List AV).length) .undef, [([0, 0], ⟨61, 2, (.mix [(.agg [(.ref [0, 1]), (.d ⟨.bool, b442⟩)])])⟩), ([0, 1], ⟨2, 1, (.data (.int .i64) ns443)⟩)], 2⟩ (leave Try.prog Try.f20 k) = memory_Memory_Load.body F0 n441 b442 ns443 (fun y0 y1 y2 y3 => k (.tup [(.d ⟨(.int .i64), y0⟩), (.d ⟨.bool, y1⟩)]) [([0, 0], ⟨61, 2, (.mix [(.agg [(.ref [0, 1]), (.d ⟨.bool, y2⟩)])])⟩), ([0, 1], ⟨2, 1, (.data (.int .i64) y3)⟩)]) := by kernel_rfl
theorem memory_Memory_Load.ok (d : Nat) (hd : 3 ≤ d) (n441 : Int) (b442 : Bool) (ns443 : List Int) (k : KR) (hx : memory_Memory_Load n441 b442 ns443 (fun y0 y1 y2 y3 => k (.tup [(.d ⟨(.int .i64), y0⟩), (.d ⟨.bool, y1⟩)]) [([0, 0], ⟨61, 2, (.mix [(.agg [(.ref [0, 1]), (.d ⟨.bool, y2⟩)])])⟩), ([0, 1], ⟨2, 1, (.data (.int .i64) y3)⟩)]) = some true) : callK Try.prog ht d 20 [(.ptr [0, 0] 0 0), (.d ⟨(.int .i64), n441⟩)] [([0, 0], ⟨61, 2, (.mix [(.agg [(.ref [0, 1]), (.d ⟨.bool, b442⟩)])])⟩), ([0, 1], ⟨2, 1, (.data (.int .i64) ns443)⟩)] k = some true := by
  obtain ⟨d, rfl⟩ : ∃ e, d = e + 1 := ⟨d - 1, by omega⟩
  exact fn_ok (c := codeOf Try.f20) Try.func20 (by kernel_rfl) (rec := memory_Memory_Load.calls memory_Memory_atv1) (fun g a h k hx => by
    rcases memory_Memory_atv1.look d (by omega) hx with hx | hx
    rotate_left
    · exact hx
    cases hx) (loopf := memory_Memory_Load.loops) (by
    have e : loopsOf (memory_Memory_Load.loops) 0 (codeOf Try.f20) = [] := by kernel_rfl
    rw [e]
    intro p hp
    cases hp) ((memory_Memory_Load.eq memory_Memory_atv1 n441 b442 ns443 k).trans hx)
theorem memory_Memory_Load.look (d : Nat) (hd : 3 ≤ d) {e : Option Bool} {g : FuncId} {a : List AV} {h : Heap} {k : KR} (hx : memory_Memory_Load.get memory_Memory_Load e g a h k = some true) : e = some true ∨ callK Try.prog ht d g a h k = some true := by
  unfold memory_Memory_Load.get at hx
  split at hx
  · exact .inr (memory_Memory_Load.ok d hd _ _ _ _ hx)
  · exact .inl hx
/-- function 23: (*sheerleg/stack.Stack).Get -/
noncomputable def stack_Stack_Get.body (stack_Stack_has : Int → Int → Int → Int → Int → Int → Int → Int → Bool → (List Int) → (Bool → Int → Int → Int → Int → Int → Int → Int → Bool → (List Int) → Option Bool) → Option Bool) (memory_Memory_Load : Int → Bool → (List Int) → (Int → Bool → Bool → (List Int) → Option Bool) → Option Bool) (n401 : Int) (n402 : Int) (n403 : Int) (n404 : Int) (n405 : Int) (n406 : Int) (n407 : Int) (n408 : Int) (b409 : Bool) (ns410 : List Int) (k1 : Int → Bool → Int → Int → Int → Int → Int → Int → Int → Bool → (List Int) → Option Bool) : Option Bool :=
  (stack_Stack_has n401 n402 n403 n404 n405 n406 n407 n408 b409 ns410
  (fun b431 n432 n433 n434 n435 n436 n437 n438 b439 ns440 => (cond_ (! b431) (k1 (0 : Int) false n432 n433 n434 n435 n436 n437 n438 b439 ns440) (memory_Memory_Load (IntKind.wrap .i64 (n435 + n401)) b439 ns440
  (fun n460 b461 b462 ns463 => (k1 n460 b461 n432 n433 n434 n435 n436 n437 n438 b462 ns463))))))
noncomputable def stack_Stack_Get (n401 : Int) (n402 : Int) (n403 : Int) (n404 : Int) (n405 : Int) (n406 : Int) (n407 : Int) (n408 : Int) (b409 : Bool) (ns410 : List Int) (k1 : Int → Bool → Int → Int → Int → Int → Int → Int → Int → Bool → (List Int) → Option Bool) : Option Bool := stack_Stack_Get.body stack_Stack_has memory_Memory_Load n401 n402 n403 n404 n405 n406 n407 n408 b409 ns410 k1
noncomputable def stack_Stack_Get.get (F : Int → Int → Int → Int → Int → Int → Int → Int → Bool → (List Int) → (Int → Bool → Int → Int → Int → Int → Int → Int → Int → Bool → (List Int) → Option Bool) → Option Bool) (e : Option Bool) (g : FuncId) (a : List AV) (h : Heap) (k : KR) : Option Bool := match g, a, h with
  | 23, [(.ptr [0, 0] 0 0), (.d ⟨(.int .i64), n401⟩)], [([0, 0], ⟨53, 8, (.mix [(.agg [(.ptr [0, 1] 0 0), (.d ⟨(.int .i64), n402⟩), (.d ⟨(.int .i64), n403⟩), (.d ⟨(.int .i64), n404⟩), (.d ⟨(.int .i64), n405⟩), (.d ⟨(.int .i64), n406⟩), (.d ⟨(.int .i64), n407⟩), (.d ⟨(.int .i64), n408⟩)])])⟩), ([0, 1], ⟨61, 2, (.mix [(.agg [(.ref [0, 2]), (.d ⟨.bool, b409⟩)])])⟩), ([0, 2], ⟨2, 1, (.data (.int .i64) ns410)⟩)] => F n401 n402 n403 n404 n405 n406 n407 n408 b409 ns410 (fun y0 y1 y2 y3 y4 y5 y6 y7 y8 y9 y10 => k (.tup [(.d ⟨(.int .i64), y0⟩), (.d ⟨.bool, y1⟩)]) [([0, 0], ⟨53, 8, (.mix [(.agg [(.ptr [0, 1] 0 0), (.d ⟨(.int .i64), y2⟩), (.d ⟨(.int .i64), y3⟩), (.d ⟨(.int .i64), y4⟩), (.d ⟨(.int .i64), y5⟩), (.d ⟨(.int .i64), y6⟩), (.d ⟨(.int .i64), y7⟩), (.d ⟨(.int .i64), y8⟩)])])⟩), ([0, 1], ⟨61, 2, (.mix [(.agg [(.ref [0, 2]), (.d ⟨.bool, y9⟩)])])⟩), ([0, 2], ⟨2, 1, (.data (.int .i64) y10)⟩)])
  | _, _, _ => e
noncomputable def stack_Stack_Get.calls (F0 : Int → Int → Int → Int → Int → Int → Int → Int → Bool → (List Int) → (Bool → Int → Int → Int → Int → Int → Int → Int → Bool → (List Int) → Option Bool) → Option Bool) (F1 : Int → Bool → (List Int) → (Int → Bool → Bool → (List Int) → Option Bool) → Option Bool) : RecF := fun g a h k => (stack_Stack_has.get F0 (memory_Memory_Load.get F1 none g a h k) g a h k)
noncomputable def stack_Stack_Get.loops : LoopF := fun b => none
set_option maxRecDepth 100000 in
theorem stack_Stack_Get.eq (F0 : Int → Int → Int → Int → Int → Int → Int → Int → Bool → (List Int) → (Bool → Int → Int → Int → Int → Int → Int → Int → Bool → (List Int) → Option Bool) → Option Bool) (F1 : Int → Bool → (List Int) → (Int → Bool → Bool → (List Int) → Option Bool) → Option Bool) (n401 : Int) (n402 : Int) (n403 : Int) (n404 : Int) (n405 : Int) (n406 : Int) (n407 : Int) (n408 : Int) (b409 : Bool) (ns410 : List Int) (k : KR) : execL Try.prog ht 23 (callfOf (stack_Stack_Get.calls F0 F1)) (stack_Stack_Get.loops) 0 (codeOf Try.f23) ⟨[(.ptr [0, 0] 0 0), (.d ⟨(.int .i64), n401⟩)] ++ List.replicate (Try.f23.ntmps - ([(.ptr [0, 0] 0 0), (.d ⟨(.int .i64), n401⟩)] : List AV).length) .undef, [([0, 0], ⟨53, 8, (.mix [(.agg [(.ptr [0, 1] 0 0), (.d ⟨(.int .i64), n402⟩), (.d ⟨(.int .i64), n403⟩), (.d ⟨(.int .i64), n404⟩), (.d ⟨(.int .i64), n405⟩), (.d ⟨(.int .i64), n406⟩), (.d ⟨(.int .i64), n407⟩), (.d ⟨(.int .i64), n408⟩)])])⟩), ([0, 1], ⟨61, 2, (.mix [(.agg [(.ref [0, 2]), (.d ⟨.bool, b409⟩)])])⟩), ([0, 2], ⟨2, 1, (.data (.int .i64) ns410)⟩)], 2⟩ (leave Try.prog Try.f23 k) = stack_Stack_Get.body F0 F1 n401 n402 n403 n404 n405 n406 n407 n408 b409 ns410 (fun y0 y1 y2 y3 y4 y5 y6 y7 y8 y9 y10 => k (.tup [(.d ⟨(.int .i64), y0⟩), (.d ⟨.bool, y1⟩)]) [([0, 0], ⟨53, 8, (.mix [(.agg [(.ptr [0, 1] 0 0), (.d ⟨(.int .i64), y2⟩), (.d ⟨(.int .i64), y3⟩), (.d ⟨(.int .i64), y4⟩), (.d ⟨(.int .i64), y5⟩), (.d ⟨(.int .i64), y6⟩), (.d ⟨(.int .i64), y7⟩), (.d ⟨(.int .i64), y8⟩)])])⟩), ([0, 1], ⟨61, 2, (.mix [(.agg [(.ref [0, 2]), (.d ⟨.bool, y9⟩)])])⟩), ([0, 2], ⟨2, 1, (.data (.int .i64) y10)⟩)]) := by kernel_rfl
theorem stack_Stack_Get.ok (d : Nat) (hd : 5 ≤ d) (n401 : Int) (n402 : Int) (n403 : Int) (n404 : Int) (n405 : Int) (n406 : Int) (n407 : Int) (n408 : Int) (b409 : Bool) (ns410 : List Int) (k : KR) (hx : stack_Stack_Get n401 n402 n403 n404 n405 n406 n407 n408 b409 ns410 (fun y0 y1 y2 y3 y4 y5 y6 y7 y8 y9 y10 => k (.tup [(.d ⟨(.int .i64), y0⟩), (.d ⟨.bool, y1⟩)]) [([0, 0], ⟨53, 8, (.mix [(.agg [(.ptr [0, 1] 0 0), (.d ⟨(.int .i64), y2⟩), (.d ⟨(.int .i64), y3⟩), (.d ⟨(.int .i64), y4⟩), (.d ⟨(.int .i64), y5⟩), (.d ⟨(.int .i64), y6⟩), (.d ⟨(.int .i64), y7⟩), (.d ⟨(.int .i64), y8⟩)])])⟩), ([0, 1], ⟨61, 2, (.mix [(.agg [(.ref [0, 2]), (.d ⟨.bool, y9⟩)])])⟩), ([0, 2], ⟨2, 1, (.data (.int .i64) y10)⟩)]) = some true) : callK Try.prog ht d 23 [(.ptr [0, 0] 0 0), (.d ⟨(.int .i64), n401⟩)] [([0, 0], ⟨53, 8, (.mix [(.agg [(.ptr [0, 1] 0 0), (.d ⟨(.int .i64), n402⟩), (.d ⟨(.int .i64), n403⟩), (.d ⟨(.int .i64), n404⟩), (.d ⟨(.int .i64), n405⟩), (.d ⟨(.int .i64), n406⟩), (.d ⟨(.int .i64), n407⟩), (.d ⟨(.int .i64), n408⟩)])])⟩), ([0, 1], ⟨61, 2, (.mix [(.agg [(.ref [0, 2]), (.d ⟨.bool, b409⟩)])])⟩), ([0, 2], ⟨2, 1, (.data (.int .i64) ns410)⟩)] k = some true := by
  obtain ⟨d, rfl⟩ : ∃ e, d = e + 1 := ⟨d - 1, by omega⟩
  exact fn_ok (c := codeOf Try.f23) Try.func23 (by kernel_rfl) (rec := stack_Stack_Get.calls stack_Stack_has memory_Memory_Load) (fun g a h k hx => by
    rcases stack_Stack_has.look d (by omega) hx with hx | hx
    rotate_left
    · exact hx
    rcases memory_Memory_Load.look d (by omega) hx with hx | hx
    rotate_left
    · exact hx
    cases hx) (loopf := stack_Stack_Get.loops) (by
    have e : loopsOf (stack_Stack_Get.loops) 0 (codeOf Try.f23) = [] := by kernel_rfl
    rw [e]
    intro p hp
    cases hp) ((stack_Stack_Get.eq stack_Stack_has memory_Memory_Load n401 n402 n403 n404 n405 n406 n407 n408 b409 ns410 k).trans hx)
theorem stack_Stack_Get.look (d : Nat) (hd : 5 ≤ d) {e : Option Bool} {g : FuncId} {a : List AV} {h : Heap} {k : KR} (hx : stack_Stack_Get.get stack_Stack_Get e g a h k = some true) : e = some true ∨ callK Try.prog ht d g a h k = some true := by
  unfold stack_Stack_Get.get at hx
  split at hx
  · exact .inr (stack_Stack_Get.ok d hd _ _ _ _ _ _ _ _ _ _ _ hx)
  · exact .inl hx
/-- function 15: (*sheerleg/stack.Stack).Pop -/
noncomputable def stack_Stack_Pop.body (stack_Stack_Get : Int → Int → Int → Int → Int → Int → Int → Int → Bool → (List Int) → (Int → Bool → Int → Int → Int → Int → Int → Int → Int → Bool → (List Int) → Option Bool) → Option Bool) (n392 : Int) (n393 : Int) (n394 : Int) (n395 : Int) (n396 : Int) (n397 : Int) (n398 : Int) (b399 : Bool) (ns400 : List Int) (k1 : Int → Bool → Int → Int → Int → Int → Int → Int → Int → Bool → (List Int) → Option Bool) : Option Bool :=
  (stack_Stack_Get (0 : Int) n392 n393 n394 n395 n396 n397 n398 b399 ns400
  (fun n464 b465 n466 n467 n468 n469 n470 n471 n472 b473 ns474 => (cond_ b465 (k1 n464 b465 n466 n467 n468 (IntKind.wrap .i64 (n469 + (1 : Int))) n470 n471 n472 b473 ns474) (k1 n464 b465 n466 n467 n468 n469 n470 n471 n472 b473 ns474))))
noncomputable def stack_Stack_Pop (n392 : Int) (n393 : Int) (n394 : Int) (n395 : Int) (n396 : Int) (n397 : Int) (n398 : Int) (b399 : Bool) (ns400 : List Int) (k1 : Int → Bool → Int → Int → Int → Int → Int → Int → Int → Bool → (List Int) → Option Bool) : Option Bool := stack_Stack_Pop.body stack_Stack_Get n392 n393 n394 n395 n396 n397 n398 b399 ns400 k1
noncomputable def stack_Stack_Pop.get (F : Int → Int → Int → Int → Int → Int → Int → Bool → (List Int) → (Int → Bool → Int → Int → Int → Int → Int → Int → Int → Bool → (List Int) → Option Bool) → Option Bool) (e : Option Bool) (g : FuncId) (a : List AV) (h : Heap) (k : KR) : Option Bool := match g, a, h with
  | 15, [(.ptr [0, 0] 0 0)], [([0, 0], ⟨53, 8, (.mix [(.agg [(.ptr [0, 1] 0 0), (.d ⟨(.int .i64), n392⟩), (.d ⟨(.int .i64), n393⟩), (.d ⟨(.int .i64), n394⟩), (.d ⟨(.int .i64), n395⟩), (.d ⟨(.int .i64), n396⟩), (.d ⟨(.int .i64), n397⟩), (.d ⟨(.int .i64), n398⟩)])])⟩), ([0, 1], ⟨61, 2, (.mix [(.agg [(.ref [0, 2]), (.d ⟨.bool, b399⟩)])])⟩), ([0, 2], ⟨2, 1, (.data (.int .i64) ns400)⟩)] => F n392 n393 n394 n395 n396 n397 n398 b399 ns400 (fun y0 y1 y2 y3 y4 y5 y6 y7 y8 y9 y10 => k (.tup [(.d ⟨(.int .i64), y0⟩), (.d ⟨.bool, y1⟩)]) [([0, 0], ⟨53, 8, (.mix [(.agg [(.ptr [0, 1] 0 0), (.d ⟨(.int .i64), y2⟩), (.d ⟨(.int .i64), y3⟩), (.d ⟨(.int .i64), y4⟩), (.d ⟨(.int .i64), y5⟩), (.d ⟨(.int .i64), y6⟩), (.d ⟨(.int .i64), y7⟩), (.d ⟨(.int .i64), y8⟩)])])⟩), ([0, 1], ⟨61, 2, (.mix [(.agg [(.ref [0, 2]), (.d ⟨.bool, y9⟩)])])⟩), ([0, 2], ⟨2, 1, (.data (.int .i64) y10)⟩)])
  | _, _, _ => e
noncomputable def stack_Stack_Pop.calls (F0 : Int → Int → Int → Int → Int → Int → Int → Int → Bool → (List Int) → (Int → Bool → Int → Int → Int → Int → Int → Int → Int → Bool → (List Int) → Option Bool) → Option Bool) : RecF := fun g a h k => (stack_Stack_Get.get F0 none g a h k)
noncomputable def stack_Stack_Pop.loops : LoopF := fun b => none
set_option maxRecDepth 100000 in
theorem stack_Stack_Pop.eq (F0 : Int → Int → Int → Int → Int → Int → Int → Int → Bool → (List Int) → (Int → Bool → Int → Int → Int → Int → Int → Int → Int → Bool → (List Int) → Option Bool) → Option Bool) (n392 : Int) (n393 : Int) (n394 : Int) (n395 : Int) (n396 : Int) (n397 : Int) (n398 : Int) (b399 : Bool) (ns400 : List Int) (k : KR) : execL Try.prog ht 15 (callfOf (stack_Stack_Pop.calls F0)) (stack_Stack_Pop.loops) 0 (codeOf Try.f15) ⟨[(.ptr [0, 0] 0 0)] ++ List.replicate (Try.f15.ntmps - ([(.ptr [0, 0] 0 0)] : List AV).length) .undef, [([0, 0], ⟨53, 8, (.mix [(.agg [(.ptr [0, 1] 0 0), (.d ⟨(.int .i64), n392⟩), (.d ⟨(.int .i64), n393⟩), (.d ⟨(.int .i64), n394⟩), (.d ⟨(.int .i64), n395⟩), (.d ⟨(.int .i64), n396⟩), (.d ⟨(.int .i64), n397⟩), (.d ⟨(.int .i64), n398⟩)])])⟩), ([0, 1], ⟨61, 2, (.mix [(.agg [(.ref [0, 2]), (.d ⟨.bool, b399⟩)])])⟩), ([0, 2], ⟨2, 1, (.data (.int .i64) ns400)⟩)], 2⟩ (leave Try.prog Try.f15 k) = stack_Stack_Pop.body F0 n392 n393 n394 n395 n396 n397 n398 b399 ns400 (fun y0 y1 y2 y3 y4 y5 y6 y7 y8 y9 y10 => k (.tup [(.d ⟨(.int .i64), y0⟩), (.d ⟨.bool, y1⟩)]) [([0, 0], ⟨53, 8, (.mix [(.agg [(.ptr [0, 1] 0 0), (.d ⟨(.int .i64), y2⟩), (.d ⟨(.int .i64), y3⟩), (.d ⟨(.int .i64), y4⟩), (.d ⟨(.int .i64), y5⟩), (.d ⟨(.int .i64), y6⟩), (.d ⟨(.int .i64), y7⟩), (.d ⟨(.int .i64), y8⟩)])])⟩), ([0, 1], ⟨61, 2, (.mix [(.agg [(.ref [0, 2]), (.d ⟨.bool, y9⟩)])])⟩), ([0, 2], ⟨2, 1, (.data (.int .i64) y10)⟩)]) := by kernel_rfl
theorem stack_Stack_Pop.ok (d : Nat) (hd : 6 ≤ d) (n392 : Int) (n393 : Int) (n394 : Int) (n395 : Int) (n396 : Int) (n397 : Int) (n398 : Int) (b399 : Bool) (ns400 : List Int) (k : KR) (hx : stack_Stack_Pop n392 n393 n394 n395 n396 n397 n398 b399 ns400 (fun y0 y1 y2 y3 y4 y5 y6 y7 y8 y9 y10 => k (.tup [(.d ⟨(.int .i64), y0⟩), (.d ⟨.bool, y1⟩)]) [([0, 0], ⟨53, 8, (.mix [(.agg [(.ptr [0, 1] 0 0), (.d ⟨(.int .i64), y2⟩), (.d ⟨(.int .i64), y3⟩), (.d ⟨(.int .i64), y4⟩), (.d ⟨(.int .i64), y5⟩), (.d ⟨(.int .i64), y6⟩), (.d ⟨(.int .i64), y7⟩), (.d ⟨(.int .i64), y8⟩)])])⟩), ([0, 1], ⟨61, 2, (.mix [(.agg [(.ref [0, 2]), (.d ⟨.bool, y9⟩)])])⟩), ([0, 2], ⟨2, 1, (.data (.int .i64) y10)⟩)]) = some true) : callK Try.prog ht d 15 [(.ptr [0, 0] 0 0)] [([0, 0], ⟨53, 8, (.mix [(.agg [(.ptr [0, 1] 0 0), (.d ⟨(.int .i64), n392⟩), (.d ⟨(.int .i64), n393⟩), (.d ⟨(.int .i64), n394⟩), (.d ⟨(.int .i64), n395⟩), (.d ⟨(.int .i64), n396⟩), (.d ⟨(.int .i64), n397⟩), (.d ⟨(.int .i64), n398⟩)])])⟩), ([0, 1], ⟨61, 2, (.mix [(.agg [(.ref [0, 2]), (.d ⟨.bool, b399⟩)])])⟩), ([0, 2], ⟨2, 1, (.data (.int .i64) ns400)⟩)] k = some true := by
  obtain ⟨d, rfl⟩ : ∃ e, d = e + 1 := ⟨d - 1, by omega⟩
  exact fn_ok (c := codeOf Try.f15) Try.func15 (by kernel_rfl) (rec := stack_Stack_Pop.calls stack_Stack_Get) (fun g a h k hx => by
    rcases stack_Stack_Get.look d (by omega) hx with hx | hx
    rotate_left
    · exact hx
    cases hx) (loopf := stack_Stack_Pop.loops) (by
    have e : loopsOf (stack_Stack_Pop.loops) 0 (codeOf Try.f15) = [] := by kernel_rfl
    rw [e]
    intro p hp
    cases hp) ((stack_Stack_Pop.eq stack_Stack_Get n392 n393 n394 n395 n396 n397 n398 b399 ns400 k).trans hx)
theorem stack_Stack_Pop.look (d : Nat) (hd : 6 ≤ d) {e : Option Bool} {g : FuncId} {a : List AV} {h : Heap} {k : KR} (hx : stack_Stack_Pop.get stack_Stack_Pop e g a h k = some true) : e = some true ∨ callK Try.prog ht d g a h k = some true := by
  unfold stack_Stack_Pop.get at hx
  split at hx
  · exact .inr (stack_Stack_Pop.ok d hd _ _ _ _ _ _ _ _ _ _ hx)
  · exact .inl hx
/-- function 3: the loop in block 2 -/
noncomputable def law39_StackKeeps_L2.body (law39_StackKeeps_L2 : (List Int) → Int → Int → Int → Int → Int → Int → Int → Int → Bool → (List Int) → (Bool → Option Bool) → (Int → Int → Int → Int → Int → Int → Int → Bool → (List Int) → Option Bool) → Option Bool) (stack_Stack_Pop : Int → Int → Int → Int → Int → Int → Int → Bool → (List Int) → (Int → Bool → Int → Int → Int → Int → Int → Int → Int → Bool → (List Int) → Option Bool) → Option Bool) (ns381 : List Int) (n382 : Int) (n383 : Int) (n384 : Int) (n385 : Int) (n386 : Int) (n387 : Int) (n388 : Int) (n389 : Int) (b390 : Bool) (ns391 : List Int) (k1 : Bool → Option Bool) (k2 : Int → Int → Int → Int → Int → Int → Int → Bool → (List Int) → Option Bool) : Option Bool :=
  (cond_ (decide (n382 ≥ (0 : Int))) (stack_Stack_Pop n383 n384 n385 n386 n387 n388 n389 b390 ns391
  (fun n475 b476 n477 n478 n479 n480 n481 n482 n483 b484 ns485 => (cond_ ((decide ((0 : Int) ≤ n382)) && (decide (n382 < (((List.length ns381) : Nat) : Int)))) (cond_ (! (n475 != (List.getD ns381 (Int.toNat n382) (0 : Int)))) (cond_ (! b476) (k1 false) (law39_StackKeeps_L2 ns381 (IntKind.wrap .i64 (n382 - (1 : Int))) n477 n478 n479 n480 n481 n482 n483 b484 ns485 k1 k2)) (k1 false)) none))) (k2 n383 n384 n385 n386 n387 n388 n389 b390 ns391))
noncomputable def law39_StackKeeps_L2 : Nat → (List Int) → Int → Int → Int → Int → Int → Int → Int → Int → Bool → (List Int) → (Bool → Option Bool) → (Int → Int → Int → Int → Int → Int → Int → Bool → (List Int) → Option Bool) → Option Bool
  | 0 => fun _ _ _ _ _ _ _ _ _ _ _ _ _ => none
  | n + 1 => law39_StackKeeps_L2.body (law39_StackKeeps_L2 n) stack_Stack_Pop
noncomputable def law39_StackKeeps_L2.get (F : (List Int) → Int → Int → Int → Int → Int → Int → Int → Int → Bool → (List Int) → (Bool → Option Bool) → (Int → Int → Int → Int → Int → Int → Int → Bool → (List Int) → Option Bool) → Option Bool) (e : Option Bool) (st : St) (k : KE) : Option Bool := match st with
  | ⟨sl, hp, m⟩ => match Nat.beq m 2, pickS 115 [0, 5, 8] sl, hp with
    | true, some [(.bv 0 2 (.int .i64) ns381), (.ptr [1, 0] 0 0), (.d ⟨(.int .i64), n382⟩)], [([1, 0], ⟨53, 8, (.mix [(.agg [(.ptr [1, 1] 0 0), (.d ⟨(.int .i64), n383⟩), (.d ⟨(.int .i64), n384⟩), (.d ⟨(.int .i64), n385⟩), (.d ⟨(.int .i64), n386⟩), (.d ⟨(.int .i64), n387⟩), (.d ⟨(.int .i64), n388⟩), (.d ⟨(.int .i64), n389⟩)])])⟩), ([1, 1], ⟨61, 2, (.mix [(.agg [(.ref [1, 2]), (.d ⟨.bool, b390⟩)])])⟩), ([1, 2], ⟨2, 1, (.data (.int .i64) ns391)⟩)] => F ns381 n382 n383 n384 n385 n386 n387 n388 n389 b390 ns391 (fun y0 => k .ret ⟨fillS 115 [4] [(.d ⟨.bool, y0⟩)], [], 2⟩) (fun y0 y1 y2 y3 y4 y5 y6 y7 y8 => k (.exit 2) ⟨fillS 115 [5] [(.ptr [1, 0] 0 0)], [([1, 0], ⟨53, 8, (.mix [(.agg [(.ptr [1, 1] 0 0), (.d ⟨(.int .i64), y0⟩), (.d ⟨(.int .i64), y1⟩), (.d ⟨(.int .i64), y2⟩), (.d ⟨(.int .i64), y3⟩), (.d ⟨(.int .i64), y4⟩), (.d ⟨(.int .i64), y5⟩), (.d ⟨(.int .i64), y6⟩)])])⟩), ([1, 1], ⟨61, 2, (.mix [(.agg [(.ref [1, 2]), (.d ⟨.bool, y7⟩)])])⟩), ([1, 2], ⟨2, 1, (.data (.int .i64) y8)⟩)], 2⟩)
    | _, _, _ => e
noncomputable def law39_StackKeeps_L2.calls (F0 : Int → Int → Int → Int → Int → Int → Int → Bool → (List Int) → (Int → Bool → Int → Int → Int → Int → Int → Int → Int → Bool → (List Int) → Option Bool) → Option Bool) : RecF := fun g a h k => (stack_Stack_Pop.get F0 none g a h k)
noncomputable def law39_StackKeeps_L2.loops : LoopF := fun b => none
set_option maxRecDepth 100000 in
theorem law39_StackKeeps_L2.step (S : (List Int) → Int → Int → Int → Int → Int → Int → Int → Int → Bool → (List Int) → (Bool → Option Bool) → (Int → Int → Int → Int → Int → Int → Int → Bool → (List Int) → Option Bool) → Option Bool) (F0 : Int → Int → Int → Int → Int → Int → Int → Bool → (List Int) → (Int → Bool → Int → Int → Int → Int → Int → Int → Int → Bool → (List Int) → Option Bool) → Option Bool) (ns381 : List Int) (n382 : Int) (n383 : Int) (n384 : Int) (n385 : Int) (n386 : Int) (n387 : Int) (n388 : Int) (n389 : Int) (b390 : Bool) (ns391 : List Int) (k : KE) : execL Try.prog ht 3 (callfOf (law39_StackKeeps_L2.calls F0)) (law39_StackKeeps_L2.loops) 2 (loopAt 2 (codeOf Try.f3)) ⟨fillS 115 [0, 5, 8] [(.bv 0 2 (.int .i64) ns381), (.ptr [1, 0] 0 0), (.d ⟨(.int .i64), n382⟩)], [([1, 0], ⟨53, 8, (.mix [(.agg [(.ptr [1, 1] 0 0), (.d ⟨(.int .i64), n383⟩), (.d ⟨(.int .i64), n384⟩), (.d ⟨(.int .i64), n385⟩), (.d ⟨(.int .i64), n386⟩), (.d ⟨(.int .i64), n387⟩), (.d ⟨(.int .i64), n388⟩), (.d ⟨(.int .i64), n389⟩)])])⟩), ([1, 1], ⟨61, 2, (.mix [(.agg [(.ref [1, 2]), (.d ⟨.bool, b390⟩)])])⟩), ([1, 2], ⟨2, 1, (.data (.int .i64) ns391)⟩)], 2⟩ (again (law39_StackKeeps_L2.get S none) (plan Try.prog (ht 3 2)) k) = law39_StackKeeps_L2.body S F0 ns381 n382 n383 n384 n385 n386 n387 n388 n389 b390 ns391 (fun y0 => k .ret ⟨fillS 115 [4] [(.d ⟨.bool, y0⟩)], [], 2⟩) (fun y0 y1 y2 y3 y4 y5 y6 y7 y8 => k (.exit 2) ⟨fillS 115 [5] [(.ptr [1, 0] 0 0)], [([1, 0], ⟨53, 8, (.mix [(.agg [(.ptr [1, 1] 0 0), (.d ⟨(.int .i64), y0⟩), (.d ⟨(.int .i64), y1⟩), (.d ⟨(.int .i64), y2⟩), (.d ⟨(.int .i64), y3⟩), (.d ⟨(.int .i64), y4⟩), (.d ⟨(.int .i64), y5⟩), (.d ⟨(.int .i64), y6⟩)])])⟩), ([1, 1], ⟨61, 2, (.mix [(.agg [(.ref [1, 2]), (.d ⟨.bool, y7⟩)])])⟩), ([1, 2], ⟨2, 1, (.data (.int .i64) y8)⟩)], 2⟩) := by kernel_rfl
theorem law39_StackKeeps_L2.ok (d : Nat) (hd : 6 ≤ d) : ∀ n st k, law39_StackKeeps_L2.get (law39_StackKeeps_L2 n) none st k = some true → iter n (plan Try.prog (ht 3 2)) (fun st k => execK Try.prog ht 3 (callfOf (callK Try.prog ht d)) 2 (loopAt 2 (codeOf Try.f3)) st k) st k = some true :=
  loop_ok (lfn := fun n st k => law39_StackKeeps_L2.get (law39_StackKeeps_L2 n) none st k) (rec := law39_StackKeeps_L2.calls stack_Stack_Pop) (fun g a h k hx => by
    rcases stack_Stack_Pop.look d (by omega) hx with hx | hx
    rotate_left
    · exact hx
    cases hx) (loopf := law39_StackKeeps_L2.loops) (by
    have e : loopsOf (law39_StackKeeps_L2.loops) 2 (loopAt 2 (codeOf Try.f3)) = [] := by kernel_rfl
    rw [e]
    intro p hp
    cases hp) (fun st k h => by
    obtain ⟨sl, hp, m⟩ := st
    unfold law39_StackKeeps_L2.get at h
    dsimp only at h
    split at h
    · have h' : (none : Option Bool) = some true := h
      cases h'
    · cases h) (fun n st k h => by
    obtain ⟨sl, hp, m⟩ := st
    unfold law39_StackKeeps_L2.get at h
    dsimp only at h
    split at h
    · rename_i h1 h2
      obtain rfl := pickS_ok h2
      obtain rfl := Nat.eq_of_beq_eq_true h1
      exact (law39_StackKeeps_L2.step (law39_StackKeeps_L2 n) stack_Stack_Pop _ _ _ _ _ _ _ _ _ _ _ k).trans h
    · cases h)
theorem law39_StackKeeps_L2.look {F : (List Int) → Int → Int → Int → Int → Int → Int → Int → Int → Bool → (List Int) → (Bool → Option Bool) → (Int → Int → Int → Int → Int → Int → Int → Bool → (List Int) → Option Bool) → Option Bool} {e : Option Bool} {st : St} {k : KE} (hx : law39_StackKeeps_L2.get F e st k = some true) : e = some true ∨ law39_StackKeeps_L2.get F none st k = some true := by
  obtain ⟨sl, hp, m⟩ := st
  unfold law39_StackKeeps_L2.get at hx ⊢
  dsimp only at hx ⊢
  split at hx
  · exact .inr hx
  · exact .inl hx
/-- function 3: sheerleg/sheerleglaw39.StackKeeps -/
noncomputable def law39_StackKeeps.body (law39_known : (Bool → Option Bool) → Option Bool) (memory_New : (Bool → (List Int) → Option Bool) → Option Bool) (stack_New : Int → Bool → (List Int) → (Bool → Bool → (List Int) → Option Bool) → (Bool → Bool → (List Int) → Int → Int → Int → Int → Int → Int → Int → Option Bool) → (Bool → Bool → (List Int) → Option Bool) → (Bool → Bool → (List Int) → Int → Int → Int → Int → Int → Int → Int → Option Bool) → Option Bool) (stack_Stack_Pop : Int → Int → Int → Int → Int → Int → Int → Bool → (List Int) → (Int → Bool → Int → Int → Int → Int → Int → Int → Int → Bool → (List Int) → Option Bool) → Option Bool) (stack_Stack_Id : Int → Int → Int → Int → Int → Int → Int → Bool → (List Int) → (Int → Int → Int → Int → Int → Int → Int → Int → Bool → (List Int) → Option Bool) → Option Bool) (law39_StackKeeps_L0 : (List Int) → (List Int) → Int → Int → Int → Int → Int → Int → Int → Int → Bool → (List Int) → (Bool → Option Bool) → ((List Int) → Int → Int → Int → Int → Int → Int → Int → Bool → (List Int) → Option Bool) → Option Bool) (law39_StackKeeps_L2 : (List Int) → Int → Int → Int → Int → Int → Int → Int → Int → Bool → (List Int) → (Bool → Option Bool) → (Int → Int → Int → Int → Int → Int → Int → Bool → (List Int) → Option Bool) → Option Bool) (ns0 : List Int) (ns1 : List Int) (k1 : Bool → Option Bool) : Option Bool :=
  (cond_ (! (decide ((((List.length ns0) : Nat) : Int) > (60 : Int)))) (cond_ (decide ((((List.length ns1) : Nat) : Int) > (60 : Int))) (law39_known
  (fun b2 => (k1 b2))) (memory_New
  (fun b4 ns5 => (stack_New (65536 : Int) b4 ns5
  (fun b24 b25 ns26 => (cond_ (! (! b24)) (k1 false) (k1 false)))
  (fun b27 b28 ns29 n30 n31 n32 n33 n34 n35 n36 => (cond_ (! (! b27)) (law39_StackKeeps_L0 ns0 ns1 (0 : Int) n30 n31 n32 n33 n34 n35 n36 b28 ns29
  (fun b370 => (k1 b370))
  (fun ns371 n372 n373 n374 n375 n376 n377 n378 b379 ns380 => (law39_StackKeeps_L2 ns371 (IntKind.wrap .i64 ((((List.length ns371) : Nat) : Int) - (1 : Int))) n372 n373 n374 n375 n376 n377 n378 b379 ns380
  (fun b486 => (k1 b486))
  (fun n487 n488 n489 n490 n491 n492 n493 b494 ns495 => (stack_Stack_Pop n487 n488 n489 n490 n491 n492 n493 b494 ns495
  (fun n496 b497 n498 n499 n500 n501 n502 n503 n504 b505 ns506 => (cond_ (! b497) (stack_Stack_Id n498 n499 n500 n501 n502 n503 n504 b505 ns506
  (fun n507 n508 n509 n510 n511 n512 n513 n514 b515 ns516 => (cond_ (n507 == (0 : Int)) (law39_known
  (fun b517 => (k1 b517))) (k1 false)))) (k1 false)))))))) (k1 false)))
  (fun b518 b519 ns520 => (cond_ (! (! b518)) (k1 false) (k1 false)))
  (fun b521 b522 ns523 n524 n525 n526 n527 n528 n529 n530 => (cond_ (! (! b521)) (law39_StackKeeps_L0 ns0 ns1 (0 : Int) n524 n525 n526 n527 n528 n529 n530 b522 ns523
  (fun b531 => (k1 b531))
  (fun ns532 n533 n534 n535 n536 n537 n538 n539 b540 ns541 => (law39_StackKeeps_L2 ns532 (IntKind.wrap .i64 ((((List.length ns532) : Nat) : Int) - (1 : Int))) n533 n534 n535 n536 n537 n538 n539 b540 ns541
  (fun b542 => (k1 b542))
  (fun n543 n544 n545 n546 n547 n548 n549 b550 ns551 => (stack_Stack_Pop n543 n544 n545 n546 n547 n548 n549 b550 ns551
  (fun n552 b553 n554 n555 n556 n557 n558 n559 n560 b561 ns562 => (cond_ (! b553) (stack_Stack_Id n554 n555 n556 n557 n558 n559 n560 b561 ns562
  (fun n563 n564 n565 n566 n567 n568 n569 n570 b571 ns572 => (cond_ (n563 == (0 : Int)) (law39_known
  (fun b573 => (k1 b573))) (k1 false)))) (k1 false)))))))) (k1 false))))))) (law39_known
  (fun b574 => (k1 b574))))
noncomputable def law39_StackKeeps (ns0 : List Int) (ns1 : List Int) (k1 : Bool → Option Bool) : Option Bool := law39_StackKeeps.body law39_known memory_New stack_New stack_Stack_Pop stack_Stack_Id (law39_StackKeeps_L0 ROUNDS) (law39_StackKeeps_L2 ROUNDS) ns0 ns1 k1
noncomputable def law39_StackKeeps.get (F : (List Int) → (List Int) → (Bool → Option Bool) → Option Bool) (e : Option Bool) (g : FuncId) (a : List AV) (h : Heap) (k : KR) : Option Bool := match g, a, h with
  | 3, [(.bv 0 2 (.int .i64) ns0), (.bv 0 5 (.int .u8) ns1)], [] => F ns0 ns1 (fun y0 => k (.d ⟨.bool, y0⟩) [])
  | _, _, _ => e
noncomputable def law39_StackKeeps.calls (F0 : (Bool → Option Bool) → Option Bool) (F1 : (Bool → (List Int) → Option Bool) → Option Bool) (F2 : Int → Bool → (List Int) → (Bool → Bool → (List Int) → Option Bool) → (Bool → Bool → (List Int) → Int → Int → Int → Int → Int → Int → Int → Option Bool) → (Bool → Bool → (List Int) → Option Bool) → (Bool → Bool → (List Int) → Int → Int → Int → Int → Int → Int → Int → Option Bool) → Option Bool) (F3 : Int → Int → Int → Int → Int → Int → Int → Bool → (List Int) → (Int → Bool → Int → Int → Int → Int → Int → Int → Int → Bool → (List Int) → Option Bool) → Option Bool) (F4 : Int → Int → Int → Int → Int → Int → Int → Bool → (List Int) → (Int → Int → Int → Int → Int → Int → Int → Int → Bool → (List Int) → Option Bool) → Option Bool) : RecF := fun g a h k => (law39_known.get F0 (memory_New.get F1 (stack_New.get F2 (stack_Stack_Pop.get F3 (stack_Stack_Id.get F4 none g a h k) g a h k) g a h k) g a h k) g a h k)
noncomputable def law39_StackKeeps.loops (L0 : (List Int) → (List Int) → Int → Int → Int → Int → Int → Int → Int → Int → Bool → (List Int) → (Bool → Option Bool) → ((List Int) → Int → Int → Int → Int → Int → Int → Int → Bool → (List Int) → Option Bool) → Option Bool) (L1 : (List Int) → Int → Int → Int → Int → Int → Int → Int → Int → Bool → (List Int) → (Bool → Option Bool) → (Int → Int → Int → Int → Int → Int → Int → Bool → (List Int) → Option Bool) → Option Bool) : LoopF := fun b => match Nat.beq b 0 with | true => some (fun st k => (law39_StackKeeps_L0.get L0 none st k)) | false => match Nat.beq b 2 with | true => some (fun st k => (law39_StackKeeps_L2.get L1 none st k)) | false => none
set_option maxRecDepth 100000 in
theorem law39_StackKeeps.eq (F0 : (Bool → Option Bool) → Option Bool) (F1 : (Bool → (List Int) → Option Bool) → Option Bool) (F2 : Int → Bool → (List Int) → (Bool → Bool → (List Int) → Option Bool) → (Bool → Bool → (List Int) → Int → Int → Int → Int → Int → Int → Int → Option Bool) → (Bool → Bool → (List Int) → Option Bool) → (Bool → Bool → (List Int) → Int → Int → Int → Int → Int → Int → Int → Option Bool) → Option Bool) (F3 : Int → Int → Int → Int → Int → Int → Int → Bool → (List Int) → (Int → Bool → Int → Int → Int → Int → Int → Int → Int → Bool → (List Int) → Option Bool) → Option Bool) (F4 : Int → Int → Int → Int → Int → Int → Int → Bool → (List Int) → (Int → Int → Int → Int → Int → Int → Int → Int → Bool → (List Int) → Option Bool) → Option Bool) (L0 : (List Int) → (List Int) → Int → Int → Int → Int → Int → Int → Int → Int → Bool → (List Int) → (Bool → Option Bool) → ((List Int) → Int → Int → Int → Int → Int → Int → Int → Bool → (List Int) → Option Bool) → Option Bool) (L1 : (List Int) → Int → Int → Int → Int → Int → Int → Int → Int → Bool → (List Int) → (Bool → Option Bool) → (Int → Int → Int → Int → Int → Int → Int → Bool → (List Int) → Option Bool) → Option Bool) (ns0 : List Int) (ns1 : List Int) (k : KR) : execL Try.prog ht 3 (callfOf (law39_StackKeeps.calls F0 F1 F2 F3 F4)) (law39_StackKeeps.loops L0 L1) 0 (codeOf Try.f3) ⟨[(.bv 0 2 (.int .i64) ns0), (.bv 0 5 (.int .u8) ns1)] ++ List.replicate (Try.f3.ntmps - ([(.bv 0 2 (.int .i64) ns0), (.bv 0 5 (.int .u8) ns1)] : List AV).length) .undef, [], 2⟩ (leave Try.prog Try.f3 k) = law39_StackKeeps.body F0 F1 F2 F3 F4 L0 L1 ns0 ns1 (fun y0 => k (.d ⟨.bool, y0⟩) []) := by kernel_rfl
theorem law39_StackKeeps.ok (d : Nat) (hd : 61 ≤ d) (ns0 : List Int) (ns1 : List Int) (k : KR) (hx : law39_StackKeeps ns0 ns1 (fun y0 => k (.d ⟨.bool, y0⟩) []) = some true) : callK Try.prog ht d 3 [(.bv 0 2 (.int .i64) ns0), (.bv 0 5 (.int .u8) ns1)] [] k = some true := by
  obtain ⟨d, rfl⟩ : ∃ e, d = e + 1 := ⟨d - 1, by omega⟩
  exact fn_ok (c := codeOf Try.f3) Try.func3 (by kernel_rfl) (rec := law39_StackKeeps.calls law39_known memory_New stack_New stack_Stack_Pop stack_Stack_Id) (fun g a h k hx => by
    rcases law39_known.look d (by omega) hx with hx | hx
    rotate_left
    · exact hx
    rcases memory_New.look d (by omega) hx with hx | hx
    rotate_left
    · exact hx
    rcases stack_New.look d (by omega) hx with hx | hx
    rotate_left
    · exact hx
    rcases stack_Stack_Pop.look d (by omega) hx with hx | hx
    rotate_left
    · exact hx
    rcases stack_Stack_Id.look d (by omega) hx with hx | hx
    rotate_left
    · exact hx
    cases hx) (loopf := law39_StackKeeps.loops (law39_StackKeeps_L0 ROUNDS) (law39_StackKeeps_L2 ROUNDS)) (by
    have e : loopsOf (law39_StackKeeps.loops (law39_StackKeeps_L0 ROUNDS) (law39_StackKeeps_L2 ROUNDS)) 0 (codeOf Try.f3) = [(0, loopAt 0 (codeOf Try.f3)), (2, loopAt 2 (codeOf Try.f3))] := by kernel_rfl
    rw [e]
    intro p hp
    simp only [List.mem_cons, List.not_mem_nil, or_false] at hp
    rcases hp with rfl | rfl
    · refine loopRef_of (callf := callfOf (callK Try.prog ht d)) (callfOf_ref (callK_mono d)) fun lf st k hb hx => ?_
      cases hb
      rcases law39_StackKeeps_L0.look hx with hx | hx
      rotate_left
      · exact law39_StackKeeps_L0.ok d (by omega) _ _ _ hx
      cases hx
    · refine loopRef_of (callf := callfOf (callK Try.prog ht d)) (callfOf_ref (callK_mono d)) fun lf st k hb hx => ?_
      cases hb
      rcases law39_StackKeeps_L2.look hx with hx | hx
      rotate_left
      · exact law39_StackKeeps_L2.ok d (by omega) _ _ _ hx
      cases hx) ((law39_StackKeeps.eq law39_known memory_New stack_New stack_Stack_Pop stack_Stack_Id (law39_StackKeeps_L0 ROUNDS) (law39_StackKeeps_L2 ROUNDS) ns0 ns1 k).trans hx)
theorem law39_StackKeeps.look (d : Nat) (hd : 61 ≤ d) {e : Option Bool} {g : FuncId} {a : List AV} {h : Heap} {k : KR} (hx : law39_StackKeeps.get law39_StackKeeps e g a h k = some true) : e = some true ∨ callK Try.prog ht d g a h k = some true := by
  unfold law39_StackKeeps.get at hx
  split at hx
  · exact .inr (law39_StackKeeps.ok d hd _ _ _ hx)
  · exact .inl hx
end Go.Proofs.Ytefhednjdlblpaa.k
