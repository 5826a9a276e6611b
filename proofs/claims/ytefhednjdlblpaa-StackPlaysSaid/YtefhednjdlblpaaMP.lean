/- What the functions come to that P reaches, as plain functions; written by a program of this work, each told by Lean. -/
import Derived.Test.YtefhednjdlblpaaMP1
namespace Go.Proofs.Ytefhednjdlblpaa.p
open Go.AX
set_option linter.unusedVariables false
set_option maxRecDepth 100000
set_option maxHeartbeats 4000000
/-- function 32: (*sheerleg/stack.Stack).ahead -/
noncomputable def stack_Stack_aheadv1.body (stack_Stack_SPv1 : Int → Int → Int → Int → Int → Int → Int → Bool → (List Int) → (Int → Int → Int → Int → Int → Int → Int → Int → Bool → (List Int) → Option Bool) → Option Bool) (stack_Stack_writev1 : Int → Int → Int → Int → Int → Int → Int → Int → Int → Bool → (List Int) → (Bool → Int → Int → Int → Int → Int → Int → Int → Bool → (List Int) → Option Bool) → Option Bool) (n484 : Int) (n485 : Int) (n486 : Int) (n487 : Int) (n488 : Int) (n489 : Int) (n490 : Int) (n491 : Int) (b492 : Bool) (ns493 : List Int) (k1 : Bool → Int → Int → Int → Int → Int → Int → Int → Bool → (List Int) → Option Bool) : Option Bool :=
  (stack_Stack_SPv1 n485 n486 n487 n488 n489 n490 n491 b492 ns493
  (fun n522 n523 n524 n525 n526 n527 n528 n529 b530 ns531 => (stack_Stack_writev1 (IntKind.wrap .i64 (n522 - (1 : Int))) n484 n523 n524 n525 n526 n527 n528 n529 b530 ns531
  (fun b576 n577 n578 n579 n580 n581 n582 n583 b584 ns585 => (k1 b576 n577 n578 n579 n580 n581 n582 n583 b584 ns585)))))
noncomputable def stack_Stack_aheadv1 (n484 : Int) (n485 : Int) (n486 : Int) (n487 : Int) (n488 : Int) (n489 : Int) (n490 : Int) (n491 : Int) (b492 : Bool) (ns493 : List Int) (k1 : Bool → Int → Int → Int → Int → Int → Int → Int → Bool → (List Int) → Option Bool) : Option Bool := stack_Stack_aheadv1.body stack_Stack_SPv1 stack_Stack_writev1 n484 n485 n486 n487 n488 n489 n490 n491 b492 ns493 k1
noncomputable def stack_Stack_aheadv1.get (F : Int → Int → Int → Int → Int → Int → Int → Int → Bool → (List Int) → (Bool → Int → Int → Int → Int → Int → Int → Int → Bool → (List Int) → Option Bool) → Option Bool) (e : Option Bool) (g : FuncId) (a : List AV) (h : Heap) (k : KR) : Option Bool := match g, a, h with
  | 32, [(.ptr [0, 0] 0 0), (.fn (.func 33) [(.ptr [0, 0] 0 0)] []), (.d ⟨(.int .i64), n484⟩)], [([0, 0], ⟨53, 8, (.mix [(.agg [(.ptr [0, 1] 0 0), (.d ⟨(.int .i64), n485⟩), (.d ⟨(.int .i64), n486⟩), (.d ⟨(.int .i64), n487⟩), (.d ⟨(.int .i64), n488⟩), (.d ⟨(.int .i64), n489⟩), (.d ⟨(.int .i64), n490⟩), (.d ⟨(.int .i64), n491⟩)])])⟩), ([0, 1], ⟨61, 2, (.mix [(.agg [(.ref [0, 2]), (.d ⟨.bool, b492⟩)])])⟩), ([0, 2], ⟨2, 1, (.data (.int .i64) ns493)⟩)] => F n484 n485 n486 n487 n488 n489 n490 n491 b492 ns493 (fun y0 y1 y2 y3 y4 y5 y6 y7 y8 y9 => k (.d ⟨.bool, y0⟩) [([0, 0], ⟨53, 8, (.mix [(.agg [(.ptr [0, 1] 0 0), (.d ⟨(.int .i64), y1⟩), (.d ⟨(.int .i64), y2⟩), (.d ⟨(.int .i64), y3⟩), (.d ⟨(.int .i64), y4⟩), (.d ⟨(.int .i64), y5⟩), (.d ⟨(.int .i64), y6⟩), (.d ⟨(.int .i64), y7⟩)])])⟩), ([0, 1], ⟨61, 2, (.mix [(.agg [(.ref [0, 2]), (.d ⟨.bool, y8⟩)])])⟩), ([0, 2], ⟨2, 1, (.data (.int .i64) y9)⟩)])
  | _, _, _ => e
noncomputable def stack_Stack_aheadv1.calls (F0 : Int → Int → Int → Int → Int → Int → Int → Bool → (List Int) → (Int → Int → Int → Int → Int → Int → Int → Int → Bool → (List Int) → Option Bool) → Option Bool) (F1 : Int → Int → Int → Int → Int → Int → Int → Int → Int → Bool → (List Int) → (Bool → Int → Int → Int → Int → Int → Int → Int → Bool → (List Int) → Option Bool) → Option Bool) : RecF := fun g a h k => (stack_Stack_SPv1.get F0 (stack_Stack_writev1.get F1 none g a h k) g a h k)
noncomputable def stack_Stack_aheadv1.loops : LoopF := fun b => none
set_option maxRecDepth 100000 in
theorem stack_Stack_aheadv1.eq (F0 : Int → Int → Int → Int → Int → Int → Int → Bool → (List Int) → (Int → Int → Int → Int → Int → Int → Int → Int → Bool → (List Int) → Option Bool) → Option Bool) (F1 : Int → Int → Int → Int → Int → Int → Int → Int → Int → Bool → (List Int) → (Bool → Int → Int → Int → Int → Int → Int → Int → Bool → (List Int) → Option Bool) → Option Bool) (n484 : Int) (n485 : Int) (n486 : Int) (n487 : Int) (n488 : Int) (n489 : Int) (n490 : Int) (n491 : Int) (b492 : Bool) (ns493 : List Int) (k : KR) : execL Try.prog ht 32 (callfOf (stack_Stack_aheadv1.calls F0 F1)) (stack_Stack_aheadv1.loops) 0 (codeOf Try.f32) ⟨[(.ptr [0, 0] 0 0), (.fn (.func 33) [(.ptr [0, 0] 0 0)] []), (.d ⟨(.int .i64), n484⟩)] ++ List.replicate (Try.f32.ntmps - ([(.ptr [0, 0] 0 0), (.fn (.func 33) [(.ptr [0, 0] 0 0)] []), (.d ⟨(.int .i64), n484⟩)] : List AV).length) .undef, [([0, 0], ⟨53, 8, (.mix [(.agg [(.ptr [0, 1] 0 0), (.d ⟨(.int .i64), n485⟩), (.d ⟨(.int .i64), n486⟩), (.d ⟨(.int .i64), n487⟩), (.d ⟨(.int .i64), n488⟩), (.d ⟨(.int .i64), n489⟩), (.d ⟨(.int .i64), n490⟩), (.d ⟨(.int .i64), n491⟩)])])⟩), ([0, 1], ⟨61, 2, (.mix [(.agg [(.ref [0, 2]), (.d ⟨.bool, b492⟩)])])⟩), ([0, 2], ⟨2, 1, (.data (.int .i64) ns493)⟩)], 2⟩ (leave Try.prog Try.f32 k) = stack_Stack_aheadv1.body F0 F1 n484 n485 n486 n487 n488 n489 n490 n491 b492 ns493 (fun y0 y1 y2 y3 y4 y5 y6 y7 y8 y9 => k (.d ⟨.bool, y0⟩) [([0, 0], ⟨53, 8, (.mix [(.agg [(.ptr [0, 1] 0 0), (.d ⟨(.int .i64), y1⟩), (.d ⟨(.int .i64), y2⟩), (.d ⟨(.int .i64), y3⟩), (.d ⟨(.int .i64), y4⟩), (.d ⟨(.int .i64), y5⟩), (.d ⟨(.int .i64), y6⟩), (.d ⟨(.int .i64), y7⟩)])])⟩), ([0, 1], ⟨61, 2, (.mix [(.agg [(.ref [0, 2]), (.d ⟨.bool, y8⟩)])])⟩), ([0, 2], ⟨2, 1, (.data (.int .i64) y9)⟩)]) := by kernel_rfl
theorem stack_Stack_aheadv1.ok (d : Nat) (hd : 5 ≤ d) (n484 : Int) (n485 : Int) (n486 : Int) (n487 : Int) (n488 : Int) (n489 : Int) (n490 : Int) (n491 : Int) (b492 : Bool) (ns493 : List Int) (k : KR) (hx : stack_Stack_aheadv1 n484 n485 n486 n487 n488 n489 n490 n491 b492 ns493 (fun y0 y1 y2 y3 y4 y5 y6 y7 y8 y9 => k (.d ⟨.bool, y0⟩) [([0, 0], ⟨53, 8, (.mix [(.agg [(.ptr [0, 1] 0 0), (.d ⟨(.int .i64), y1⟩), (.d ⟨(.int .i64), y2⟩), (.d ⟨(.int .i64), y3⟩), (.d ⟨(.int .i64), y4⟩), (.d ⟨(.int .i64), y5⟩), (.d ⟨(.int .i64), y6⟩), (.d ⟨(.int .i64), y7⟩)])])⟩), ([0, 1], ⟨61, 2, (.mix [(.agg [(.ref [0, 2]), (.d ⟨.bool, y8⟩)])])⟩), ([0, 2], ⟨2, 1, (.data (.int .i64) y9)⟩)]) = some true) : callK Try.prog ht d 32 [(.ptr [0, 0] 0 0), (.fn (.func 33) [(.ptr [0, 0] 0 0)] []), (.d ⟨(.int .i64), n484⟩)] [([0, 0], ⟨53, 8, (.mix [(.agg [(.ptr [0, 1] 0 0), (.d ⟨(.int .i64), n485⟩), (.d ⟨(.int .i64), n486⟩), (.d ⟨(.int .i64), n487⟩), (.d ⟨(.int .i64), n488⟩), (.d ⟨(.int .i64), n489⟩), (.d ⟨(.int .i64), n490⟩), (.d ⟨(.int .i64), n491⟩)])])⟩), ([0, 1], ⟨61, 2, (.mix [(.agg [(.ref [0, 2]), (.d ⟨.bool, b492⟩)])])⟩), ([0, 2], ⟨2, 1, (.data (.int .i64) ns493)⟩)] k = some true := by
  obtain ⟨d, rfl⟩ : ∃ e, d = e + 1 := ⟨d - 1, by omega⟩
  exact fn_ok (c := codeOf Try.f32) Try.func32 (by kernel_rfl) (rec := stack_Stack_aheadv1.calls stack_Stack_SPv1 stack_Stack_writev1) (fun g a h k hx => by
    rcases stack_Stack_SPv1.look d (by omega) hx with hx | hx
    rotate_left
    · exact hx
    rcases stack_Stack_writev1.look d (by omega) hx with hx | hx
    rotate_left
    · exact hx
    cases hx) (loopf := stack_Stack_aheadv1.loops) (by
    have e : loopsOf (stack_Stack_aheadv1.loops) 0 (codeOf Try.f32) = [] := by kernel_rfl
    rw [e]
    intro p hp
    cases hp) ((stack_Stack_aheadv1.eq stack_Stack_SPv1 stack_Stack_writev1 n484 n485 n486 n487 n488 n489 n490 n491 b492 ns493 k).trans hx)
theorem stack_Stack_aheadv1.look (d : Nat) (hd : 5 ≤ d) {e : Option Bool} {g : FuncId} {a : List AV} {h : Heap} {k : KR} (hx : stack_Stack_aheadv1.get stack_Stack_aheadv1 e g a h k = some true) : e = some true ∨ callK Try.prog ht d g a h k = some true := by
  unfold stack_Stack_aheadv1.get at hx
  split at hx
  · exact .inr (stack_Stack_aheadv1.ok d hd _ _ _ _ _ _ _ _ _ _ _ hx)
  · exact .inl hx
/-- function 10: (*sheerleg/stack.Stack).Push -/
noncomputable def stack_Stack_Pushv1.body (stack_Stack_aheadv1 : Int → Int → Int → Int → Int → Int → Int → Int → Bool → (List Int) → (Bool → Int → Int → Int → Int → Int → Int → Int → Bool → (List Int) → Option Bool) → Option Bool) (n474 : Int) (n475 : Int) (n476 : Int) (n477 : Int) (n478 : Int) (n479 : Int) (n480 : Int) (n481 : Int) (b482 : Bool) (ns483 : List Int) (k1 : Bool → Int → Int → Int → Int → Int → Int → Int → Bool → (List Int) → Option Bool) : Option Bool :=
  (stack_Stack_aheadv1 n474 n475 n476 n477 n478 n479 n480 n481 b482 ns483
  (fun b586 n587 n588 n589 n590 n591 n592 n593 b594 ns595 => (cond_ (! b586) (k1 false n587 n588 n589 n590 n591 n592 n593 b594 ns595) (k1 true n587 n588 n589 (IntKind.wrap .i64 (n590 - (1 : Int))) n591 n592 n593 b594 ns595))))
noncomputable def stack_Stack_Pushv1 (n474 : Int) (n475 : Int) (n476 : Int) (n477 : Int) (n478 : Int) (n479 : Int) (n480 : Int) (n481 : Int) (b482 : Bool) (ns483 : List Int) (k1 : Bool → Int → Int → Int → Int → Int → Int → Int → Bool → (List Int) → Option Bool) : Option Bool := stack_Stack_Pushv1.body stack_Stack_aheadv1 n474 n475 n476 n477 n478 n479 n480 n481 b482 ns483 k1
noncomputable def stack_Stack_Pushv1.get (F : Int → Int → Int → Int → Int → Int → Int → Int → Bool → (List Int) → (Bool → Int → Int → Int → Int → Int → Int → Int → Bool → (List Int) → Option Bool) → Option Bool) (e : Option Bool) (g : FuncId) (a : List AV) (h : Heap) (k : KR) : Option Bool := match g, a, h with
  | 10, [(.ptr [0, 0] 0 0), (.d ⟨(.int .i64), n474⟩)], [([0, 0], ⟨53, 8, (.mix [(.agg [(.ptr [0, 1] 0 0), (.d ⟨(.int .i64), n475⟩), (.d ⟨(.int .i64), n476⟩), (.d ⟨(.int .i64), n477⟩), (.d ⟨(.int .i64), n478⟩), (.d ⟨(.int .i64), n479⟩), (.d ⟨(.int .i64), n480⟩), (.d ⟨(.int .i64), n481⟩)])])⟩), ([0, 1], ⟨61, 2, (.mix [(.agg [(.ref [0, 2]), (.d ⟨.bool, b482⟩)])])⟩), ([0, 2], ⟨2, 1, (.data (.int .i64) ns483)⟩)] => F n474 n475 n476 n477 n478 n479 n480 n481 b482 ns483 (fun y0 y1 y2 y3 y4 y5 y6 y7 y8 y9 => k (.d ⟨.bool, y0⟩) [([0, 0], ⟨53, 8, (.mix [(.agg [(.ptr [0, 1] 0 0), (.d ⟨(.int .i64), y1⟩), (.d ⟨(.int .i64), y2⟩), (.d ⟨(.int .i64), y3⟩), (.d ⟨(.int .i64), y4⟩), (.d ⟨(.int .i64), y5⟩), (.d ⟨(.int .i64), y6⟩), (.d ⟨(.int .i64), y7⟩)])])⟩), ([0, 1], ⟨61, 2, (.mix [(.agg [(.ref [0, 2]), (.d ⟨.bool, y8⟩)])])⟩), ([0, 2], ⟨2, 1, (.data (.int .i64) y9)⟩)])
  | _, _, _ => e
noncomputable def stack_Stack_Pushv1.calls (F0 : Int → Int → Int → Int → Int → Int → Int → Int → Bool → (List Int) → (Bool → Int → Int → Int → Int → Int → Int → Int → Bool → (List Int) → Option Bool) → Option Bool) : RecF := fun g a h k => (stack_Stack_aheadv1.get F0 none g a h k)
noncomputable def stack_Stack_Pushv1.loops : LoopF := fun b => none
set_option maxRecDepth 100000 in
theorem stack_Stack_Pushv1.eq (F0 : Int → Int → Int → Int → Int → Int → Int → Int → Bool → (List Int) → (Bool → Int → Int → Int → Int → Int → Int → Int → Bool → (List Int) → Option Bool) → Option Bool) (n474 : Int) (n475 : Int) (n476 : Int) (n477 : Int) (n478 : Int) (n479 : Int) (n480 : Int) (n481 : Int) (b482 : Bool) (ns483 : List Int) (k : KR) : execL Try.prog ht 10 (callfOf (stack_Stack_Pushv1.calls F0)) (stack_Stack_Pushv1.loops) 0 (codeOf Try.f10) ⟨[(.ptr [0, 0] 0 0), (.d ⟨(.int .i64), n474⟩)] ++ List.replicate (Try.f10.ntmps - ([(.ptr [0, 0] 0 0), (.d ⟨(.int .i64), n474⟩)] : List AV).length) .undef, [([0, 0], ⟨53, 8, (.mix [(.agg [(.ptr [0, 1] 0 0), (.d ⟨(.int .i64), n475⟩), (.d ⟨(.int .i64), n476⟩), (.d ⟨(.int .i64), n477⟩), (.d ⟨(.int .i64), n478⟩), (.d ⟨(.int .i64), n479⟩), (.d ⟨(.int .i64), n480⟩), (.d ⟨(.int .i64), n481⟩)])])⟩), ([0, 1], ⟨61, 2, (.mix [(.agg [(.ref [0, 2]), (.d ⟨.bool, b482⟩)])])⟩), ([0, 2], ⟨2, 1, (.data (.int .i64) ns483)⟩)], 2⟩ (leave Try.prog Try.f10 k) = stack_Stack_Pushv1.body F0 n474 n475 n476 n477 n478 n479 n480 n481 b482 ns483 (fun y0 y1 y2 y3 y4 y5 y6 y7 y8 y9 => k (.d ⟨.bool, y0⟩) [([0, 0], ⟨53, 8, (.mix [(.agg [(.ptr [0, 1] 0 0), (.d ⟨(.int .i64), y1⟩), (.d ⟨(.int .i64), y2⟩), (.d ⟨(.int .i64), y3⟩), (.d ⟨(.int .i64), y4⟩), (.d ⟨(.int .i64), y5⟩), (.d ⟨(.int .i64), y6⟩), (.d ⟨(.int .i64), y7⟩)])])⟩), ([0, 1], ⟨61, 2, (.mix [(.agg [(.ref [0, 2]), (.d ⟨.bool, y8⟩)])])⟩), ([0, 2], ⟨2, 1, (.data (.int .i64) y9)⟩)]) := by kernel_rfl
theorem stack_Stack_Pushv1.ok (d : Nat) (hd : 6 ≤ d) (n474 : Int) (n475 : Int) (n476 : Int) (n477 : Int) (n478 : Int) (n479 : Int) (n480 : Int) (n481 : Int) (b482 : Bool) (ns483 : List Int) (k : KR) (hx : stack_Stack_Pushv1 n474 n475 n476 n477 n478 n479 n480 n481 b482 ns483 (fun y0 y1 y2 y3 y4 y5 y6 y7 y8 y9 => k (.d ⟨.bool, y0⟩) [([0, 0], ⟨53, 8, (.mix [(.agg [(.ptr [0, 1] 0 0), (.d ⟨(.int .i64), y1⟩), (.d ⟨(.int .i64), y2⟩), (.d ⟨(.int .i64), y3⟩), (.d ⟨(.int .i64), y4⟩), (.d ⟨(.int .i64), y5⟩), (.d ⟨(.int .i64), y6⟩), (.d ⟨(.int .i64), y7⟩)])])⟩), ([0, 1], ⟨61, 2, (.mix [(.agg [(.ref [0, 2]), (.d ⟨.bool, y8⟩)])])⟩), ([0, 2], ⟨2, 1, (.data (.int .i64) y9)⟩)]) = some true) : callK Try.prog ht d 10 [(.ptr [0, 0] 0 0), (.d ⟨(.int .i64), n474⟩)] [([0, 0], ⟨53, 8, (.mix [(.agg [(.ptr [0, 1] 0 0), (.d ⟨(.int .i64), n475⟩), (.d ⟨(.int .i64), n476⟩), (.d ⟨(.int .i64), n477⟩), (.d ⟨(.int .i64), n478⟩), (.d ⟨(.int .i64), n479⟩), (.d ⟨(.int .i64), n480⟩), (.d ⟨(.int .i64), n481⟩)])])⟩), ([0, 1], ⟨61, 2, (.mix [(.agg [(.ref [0, 2]), (.d ⟨.bool, b482⟩)])])⟩), ([0, 2], ⟨2, 1, (.data (.int .i64) ns483)⟩)] k = some true := by
  obtain ⟨d, rfl⟩ : ∃ e, d = e + 1 := ⟨d - 1, by omega⟩
  exact fn_ok (c := codeOf Try.f10) Try.func10 (by kernel_rfl) (rec := stack_Stack_Pushv1.calls stack_Stack_aheadv1) (fun g a h k hx => by
    rcases stack_Stack_aheadv1.look d (by omega) hx with hx | hx
    rotate_left
    · exact hx
    cases hx) (loopf := stack_Stack_Pushv1.loops) (by
    have e : loopsOf (stack_Stack_Pushv1.loops) 0 (codeOf Try.f10) = [] := by kernel_rfl
    rw [e]
    intro p hp
    cases hp) ((stack_Stack_Pushv1.eq stack_Stack_aheadv1 n474 n475 n476 n477 n478 n479 n480 n481 b482 ns483 k).trans hx)
theorem stack_Stack_Pushv1.look (d : Nat) (hd : 6 ≤ d) {e : Option Bool} {g : FuncId} {a : List AV} {h : Heap} {k : KR} (hx : stack_Stack_Pushv1.get stack_Stack_Pushv1 e g a h k = some true) : e = some true ∨ callK Try.prog ht d g a h k = some true := by
  unfold stack_Stack_Pushv1.get at hx
  split at hx
  · exact .inr (stack_Stack_Pushv1.ok d hd _ _ _ _ _ _ _ _ _ _ _ hx)
  · exact .inl hx
/-- function 14: (*sheerleg/stack.Stack).Seg -/
noncomputable def stack_Stack_Segv1.body (stack_Stack_livev1 : Int → Int → Int → Int → Int → Int → Int → Bool → (List Int) → (Bool → Int → Int → Int → Int → Int → Int → Int → Bool → (List Int) → Option Bool) → Option Bool) (n644 : Int) (n645 : Int) (n646 : Int) (n647 : Int) (n648 : Int) (n649 : Int) (n650 : Int) (b651 : Bool) (ns652 : List Int) (k1 : (Int × Int × Int × Unit) → Int → Int → Int → Int → Int → Int → Int → Bool → (List Int) → Option Bool) : Option Bool :=
  (stack_Stack_livev1 n644 n645 n646 n647 n648 n649 n650 b651 ns652
  (fun b653 n654 n655 n656 n657 n658 n659 n660 b661 ns662 => (cond_ (! b653) (k1 ((0 : Int), ((0 : Int), ((0 : Int), ()))) n654 n655 n656 n657 n658 n659 n660 b661 ns662) (k1 (n654, (n655, (n656, ()))) n654 n655 n656 n657 n658 n659 n660 b661 ns662))))
noncomputable def stack_Stack_Segv1 (n644 : Int) (n645 : Int) (n646 : Int) (n647 : Int) (n648 : Int) (n649 : Int) (n650 : Int) (b651 : Bool) (ns652 : List Int) (k1 : (Int × Int × Int × Unit) → Int → Int → Int → Int → Int → Int → Int → Bool → (List Int) → Option Bool) : Option Bool := stack_Stack_Segv1.body stack_Stack_livev1 n644 n645 n646 n647 n648 n649 n650 b651 ns652 k1
noncomputable def stack_Stack_Segv1.get (F : Int → Int → Int → Int → Int → Int → Int → Bool → (List Int) → ((Int × Int × Int × Unit) → Int → Int → Int → Int → Int → Int → Int → Bool → (List Int) → Option Bool) → Option Bool) (e : Option Bool) (g : FuncId) (a : List AV) (h : Heap) (k : KR) : Option Bool := match g, a, h with
  | 14, [(.ptr [0, 0] 0 0)], [([0, 0], ⟨53, 8, (.mix [(.agg [(.ptr [0, 1] 0 0), (.d ⟨(.int .i64), n644⟩), (.d ⟨(.int .i64), n645⟩), (.d ⟨(.int .i64), n646⟩), (.d ⟨(.int .i64), n647⟩), (.d ⟨(.int .i64), n648⟩), (.d ⟨(.int .i64), n649⟩), (.d ⟨(.int .i64), n650⟩)])])⟩), ([0, 1], ⟨61, 2, (.mix [(.agg [(.ref [0, 2]), (.d ⟨.bool, b651⟩)])])⟩), ([0, 2], ⟨2, 1, (.data (.int .i64) ns652)⟩)] => F n644 n645 n646 n647 n648 n649 n650 b651 ns652 (fun y0 y1 y2 y3 y4 y5 y6 y7 y8 y9 => k (.d ⟨(.st [(.int .i64), (.int .i64), (.int .i64)]), y0⟩) [([0, 0], ⟨53, 8, (.mix [(.agg [(.ptr [0, 1] 0 0), (.d ⟨(.int .i64), y1⟩), (.d ⟨(.int .i64), y2⟩), (.d ⟨(.int .i64), y3⟩), (.d ⟨(.int .i64), y4⟩), (.d ⟨(.int .i64), y5⟩), (.d ⟨(.int .i64), y6⟩), (.d ⟨(.int .i64), y7⟩)])])⟩), ([0, 1], ⟨61, 2, (.mix [(.agg [(.ref [0, 2]), (.d ⟨.bool, y8⟩)])])⟩), ([0, 2], ⟨2, 1, (.data (.int .i64) y9)⟩)])
  | _, _, _ => e
noncomputable def stack_Stack_Segv1.calls (F0 : Int → Int → Int → Int → Int → Int → Int → Bool → (List Int) → (Bool → Int → Int → Int → Int → Int → Int → Int → Bool → (List Int) → Option Bool) → Option Bool) : RecF := fun g a h k => (stack_Stack_livev1.get F0 none g a h k)
noncomputable def stack_Stack_Segv1.loops : LoopF := fun b => none
set_option maxRecDepth 100000 in
theorem stack_Stack_Segv1.eq (F0 : Int → Int → Int → Int → Int → Int → Int → Bool → (List Int) → (Bool → Int → Int → Int → Int → Int → Int → Int → Bool → (List Int) → Option Bool) → Option Bool) (n644 : Int) (n645 : Int) (n646 : Int) (n647 : Int) (n648 : Int) (n649 : Int) (n650 : Int) (b651 : Bool) (ns652 : List Int) (k : KR) : execL Try.prog ht 14 (callfOf (stack_Stack_Segv1.calls F0)) (stack_Stack_Segv1.loops) 0 (codeOf Try.f14) ⟨[(.ptr [0, 0] 0 0)] ++ List.replicate (Try.f14.ntmps - ([(.ptr [0, 0] 0 0)] : List AV).length) .undef, [([0, 0], ⟨53, 8, (.mix [(.agg [(.ptr [0, 1] 0 0), (.d ⟨(.int .i64), n644⟩), (.d ⟨(.int .i64), n645⟩), (.d ⟨(.int .i64), n646⟩), (.d ⟨(.int .i64), n647⟩), (.d ⟨(.int .i64), n648⟩), (.d ⟨(.int .i64), n649⟩), (.d ⟨(.int .i64), n650⟩)])])⟩), ([0, 1], ⟨61, 2, (.mix [(.agg [(.ref [0, 2]), (.d ⟨.bool, b651⟩)])])⟩), ([0, 2], ⟨2, 1, (.data (.int .i64) ns652)⟩)], 2⟩ (leave Try.prog Try.f14 k) = stack_Stack_Segv1.body F0 n644 n645 n646 n647 n648 n649 n650 b651 ns652 (fun y0 y1 y2 y3 y4 y5 y6 y7 y8 y9 => k (.d ⟨(.st [(.int .i64), (.int .i64), (.int .i64)]), y0⟩) [([0, 0], ⟨53, 8, (.mix [(.agg [(.ptr [0, 1] 0 0), (.d ⟨(.int .i64), y1⟩), (.d ⟨(.int .i64), y2⟩), (.d ⟨(.int .i64), y3⟩), (.d ⟨(.int .i64), y4⟩), (.d ⟨(.int .i64), y5⟩), (.d ⟨(.int .i64), y6⟩), (.d ⟨(.int .i64), y7⟩)])])⟩), ([0, 1], ⟨61, 2, (.mix [(.agg [(.ref [0, 2]), (.d ⟨.bool, y8⟩)])])⟩), ([0, 2], ⟨2, 1, (.data (.int .i64) y9)⟩)]) := by kernel_rfl
theorem stack_Stack_Segv1.ok (d : Nat) (hd : 2 ≤ d) (n644 : Int) (n645 : Int) (n646 : Int) (n647 : Int) (n648 : Int) (n649 : Int) (n650 : Int) (b651 : Bool) (ns652 : List Int) (k : KR) (hx : stack_Stack_Segv1 n644 n645 n646 n647 n648 n649 n650 b651 ns652 (fun y0 y1 y2 y3 y4 y5 y6 y7 y8 y9 => k (.d ⟨(.st [(.int .i64), (.int .i64), (.int .i64)]), y0⟩) [([0, 0], ⟨53, 8, (.mix [(.agg [(.ptr [0, 1] 0 0), (.d ⟨(.int .i64), y1⟩), (.d ⟨(.int .i64), y2⟩), (.d ⟨(.int .i64), y3⟩), (.d ⟨(.int .i64), y4⟩), (.d ⟨(.int .i64), y5⟩), (.d ⟨(.int .i64), y6⟩), (.d ⟨(.int .i64), y7⟩)])])⟩), ([0, 1], ⟨61, 2, (.mix [(.agg [(.ref [0, 2]), (.d ⟨.bool, y8⟩)])])⟩), ([0, 2], ⟨2, 1, (.data (.int .i64) y9)⟩)]) = some true) : callK Try.prog ht d 14 [(.ptr [0, 0] 0 0)] [([0, 0], ⟨53, 8, (.mix [(.agg [(.ptr [0, 1] 0 0), (.d ⟨(.int .i64), n644⟩), (.d ⟨(.int .i64), n645⟩), (.d ⟨(.int .i64), n646⟩), (.d ⟨(.int .i64), n647⟩), (.d ⟨(.int .i64), n648⟩), (.d ⟨(.int .i64), n649⟩), (.d ⟨(.int .i64), n650⟩)])])⟩), ([0, 1], ⟨61, 2, (.mix [(.agg [(.ref [0, 2]), (.d ⟨.bool, b651⟩)])])⟩), ([0, 2], ⟨2, 1, (.data (.int .i64) ns652)⟩)] k = some true := by
  obtain ⟨d, rfl⟩ : ∃ e, d = e + 1 := ⟨d - 1, by omega⟩
  exact fn_ok (c := codeOf Try.f14) Try.func14 (by kernel_rfl) (rec := stack_Stack_Segv1.calls stack_Stack_livev1) (fun g a h k hx => by
    rcases stack_Stack_livev1.look d (by omega) hx with hx | hx
    rotate_left
    · exact hx
    cases hx) (loopf := stack_Stack_Segv1.loops) (by
    have e : loopsOf (stack_Stack_Segv1.loops) 0 (codeOf Try.f14) = [] := by kernel_rfl
    rw [e]
    intro p hp
    cases hp) ((stack_Stack_Segv1.eq stack_Stack_livev1 n644 n645 n646 n647 n648 n649 n650 b651 ns652 k).trans hx)
theorem stack_Stack_Segv1.look (d : Nat) (hd : 2 ≤ d) {e : Option Bool} {g : FuncId} {a : List AV} {h : Heap} {k : KR} (hx : stack_Stack_Segv1.get stack_Stack_Segv1 e g a h k = some true) : e = some true ∨ callK Try.prog ht d g a h k = some true := by
  unfold stack_Stack_Segv1.get at hx
  split at hx
  · exact .inr (stack_Stack_Segv1.ok d hd _ _ _ _ _ _ _ _ _ _ hx)
  · exact .inl hx
/-- function 16: (*sheerleg/stack.Stack).Id -/
noncomputable def stack_Stack_Idv1.body (stack_Stack_Segv1 : Int → Int → Int → Int → Int → Int → Int → Bool → (List Int) → ((Int × Int × Int × Unit) → Int → Int → Int → Int → Int → Int → Int → Bool → (List Int) → Option Bool) → Option Bool) (stack_Stack_SPv1 : Int → Int → Int → Int → Int → Int → Int → Bool → (List Int) → (Int → Int → Int → Int → Int → Int → Int → Int → Bool → (List Int) → Option Bool) → Option Bool) (n635 : Int) (n636 : Int) (n637 : Int) (n638 : Int) (n639 : Int) (n640 : Int) (n641 : Int) (b642 : Bool) (ns643 : List Int) (k1 : Int → Int → Int → Int → Int → Int → Int → Int → Bool → (List Int) → Option Bool) : Option Bool :=
  (stack_Stack_Segv1 n635 n636 n637 n638 n639 n640 n641 b642 ns643
  (fun t663 n664 n665 n666 n667 n668 n669 n670 b671 ns672 => (stack_Stack_SPv1 n664 n665 n666 n667 n668 n669 n670 b671 ns672
  (fun n673 n674 n675 n676 n677 n678 n679 n680 b681 ns682 => (k1 (IntKind.wrap .i64 (t663.2.2.1 - n673)) n674 n675 n676 n677 n678 n679 n680 b681 ns682)))))
noncomputable def stack_Stack_Idv1 (n635 : Int) (n636 : Int) (n637 : Int) (n638 : Int) (n639 : Int) (n640 : Int) (n641 : Int) (b642 : Bool) (ns643 : List Int) (k1 : Int → Int → Int → Int → Int → Int → Int → Int → Bool → (List Int) → Option Bool) : Option Bool := stack_Stack_Idv1.body stack_Stack_Segv1 stack_Stack_SPv1 n635 n636 n637 n638 n639 n640 n641 b642 ns643 k1
noncomputable def stack_Stack_Idv1.get (F : Int → Int → Int → Int → Int → Int → Int → Bool → (List Int) → (Int → Int → Int → Int → Int → Int → Int → Int → Bool → (List Int) → Option Bool) → Option Bool) (e : Option Bool) (g : FuncId) (a : List AV) (h : Heap) (k : KR) : Option Bool := match g, a, h with
  | 16, [(.ptr [0, 0] 0 0)], [([0, 0], ⟨53, 8, (.mix [(.agg [(.ptr [0, 1] 0 0), (.d ⟨(.int .i64), n635⟩), (.d ⟨(.int .i64), n636⟩), (.d ⟨(.int .i64), n637⟩), (.d ⟨(.int .i64), n638⟩), (.d ⟨(.int .i64), n639⟩), (.d ⟨(.int .i64), n640⟩), (.d ⟨(.int .i64), n641⟩)])])⟩), ([0, 1], ⟨61, 2, (.mix [(.agg [(.ref [0, 2]), (.d ⟨.bool, b642⟩)])])⟩), ([0, 2], ⟨2, 1, (.data (.int .i64) ns643)⟩)] => F n635 n636 n637 n638 n639 n640 n641 b642 ns643 (fun y0 y1 y2 y3 y4 y5 y6 y7 y8 y9 => k (.d ⟨(.int .i64), y0⟩) [([0, 0], ⟨53, 8, (.mix [(.agg [(.ptr [0, 1] 0 0), (.d ⟨(.int .i64), y1⟩), (.d ⟨(.int .i64), y2⟩), (.d ⟨(.int .i64), y3⟩), (.d ⟨(.int .i64), y4⟩), (.d ⟨(.int .i64), y5⟩), (.d ⟨(.int .i64), y6⟩), (.d ⟨(.int .i64), y7⟩)])])⟩), ([0, 1], ⟨61, 2, (.mix [(.agg [(.ref [0, 2]), (.d ⟨.bool, y8⟩)])])⟩), ([0, 2], ⟨2, 1, (.data (.int .i64) y9)⟩)])
  | _, _, _ => e
noncomputable def stack_Stack_Idv1.calls (F0 : Int → Int → Int → Int → Int → Int → Int → Bool → (List Int) → ((Int × Int × Int × Unit) → Int → Int → Int → Int → Int → Int → Int → Bool → (List Int) → Option Bool) → Option Bool) (F1 : Int → Int → Int → Int → Int → Int → Int → Bool → (List Int) → (Int → Int → Int → Int → Int → Int → Int → Int → Bool → (List Int) → Option Bool) → Option Bool) : RecF := fun g a h k => (stack_Stack_Segv1.get F0 (stack_Stack_SPv1.get F1 none g a h k) g a h k)
noncomputable def stack_Stack_Idv1.loops : LoopF := fun b => none
set_option maxRecDepth 100000 in
theorem stack_Stack_Idv1.eq (F0 : Int → Int → Int → Int → Int → Int → Int → Bool → (List Int) → ((Int × Int × Int × Unit) → Int → Int → Int → Int → Int → Int → Int → Bool → (List Int) → Option Bool) → Option Bool) (F1 : Int → Int → Int → Int → Int → Int → Int → Bool → (List Int) → (Int → Int → Int → Int → Int → Int → Int → Int → Bool → (List Int) → Option Bool) → Option Bool) (n635 : Int) (n636 : Int) (n637 : Int) (n638 : Int) (n639 : Int) (n640 : Int) (n641 : Int) (b642 : Bool) (ns643 : List Int) (k : KR) : execL Try.prog ht 16 (callfOf (stack_Stack_Idv1.calls F0 F1)) (stack_Stack_Idv1.loops) 0 (codeOf Try.f16) ⟨[(.ptr [0, 0] 0 0)] ++ List.replicate (Try.f16.ntmps - ([(.ptr [0, 0] 0 0)] : List AV).length) .undef, [([0, 0], ⟨53, 8, (.mix [(.agg [(.ptr [0, 1] 0 0), (.d ⟨(.int .i64), n635⟩), (.d ⟨(.int .i64), n636⟩), (.d ⟨(.int .i64), n637⟩), (.d ⟨(.int .i64), n638⟩), (.d ⟨(.int .i64), n639⟩), (.d ⟨(.int .i64), n640⟩), (.d ⟨(.int .i64), n641⟩)])])⟩), ([0, 1], ⟨61, 2, (.mix [(.agg [(.ref [0, 2]), (.d ⟨.bool, b642⟩)])])⟩), ([0, 2], ⟨2, 1, (.data (.int .i64) ns643)⟩)], 2⟩ (leave Try.prog Try.f16 k) = stack_Stack_Idv1.body F0 F1 n635 n636 n637 n638 n639 n640 n641 b642 ns643 (fun y0 y1 y2 y3 y4 y5 y6 y7 y8 y9 => k (.d ⟨(.int .i64), y0⟩) [([0, 0], ⟨53, 8, (.mix [(.agg [(.ptr [0, 1] 0 0), (.d ⟨(.int .i64), y1⟩), (.d ⟨(.int .i64), y2⟩), (.d ⟨(.int .i64), y3⟩), (.d ⟨(.int .i64), y4⟩), (.d ⟨(.int .i64), y5⟩), (.d ⟨(.int .i64), y6⟩), (.d ⟨(.int .i64), y7⟩)])])⟩), ([0, 1], ⟨61, 2, (.mix [(.agg [(.ref [0, 2]), (.d ⟨.bool, y8⟩)])])⟩), ([0, 2], ⟨2, 1, (.data (.int .i64) y9)⟩)]) := by kernel_rfl
theorem stack_Stack_Idv1.ok (d : Nat) (hd : 3 ≤ d) (n635 : Int) (n636 : Int) (n637 : Int) (n638 : Int) (n639 : Int) (n640 : Int) (n641 : Int) (b642 : Bool) (ns643 : List Int) (k : KR) (hx : stack_Stack_Idv1 n635 n636 n637 n638 n639 n640 n641 b642 ns643 (fun y0 y1 y2 y3 y4 y5 y6 y7 y8 y9 => k (.d ⟨(.int .i64), y0⟩) [([0, 0], ⟨53, 8, (.mix [(.agg [(.ptr [0, 1] 0 0), (.d ⟨(.int .i64), y1⟩), (.d ⟨(.int .i64), y2⟩), (.d ⟨(.int .i64), y3⟩), (.d ⟨(.int .i64), y4⟩), (.d ⟨(.int .i64), y5⟩), (.d ⟨(.int .i64), y6⟩), (.d ⟨(.int .i64), y7⟩)])])⟩), ([0, 1], ⟨61, 2, (.mix [(.agg [(.ref [0, 2]), (.d ⟨.bool, y8⟩)])])⟩), ([0, 2], ⟨2, 1, (.data (.int .i64) y9)⟩)]) = some true) : callK Try.prog ht d 16 [(.ptr [0, 0] 0 0)] [([0, 0], ⟨53, 8, (.mix [(.agg [(.ptr [0, 1] 0 0), (.d ⟨(.int .i64), n635⟩), (.d ⟨(.int .i64), n636⟩), (.d ⟨(.int .i64), n637⟩), (.d ⟨(.int .i64), n638⟩), (.d ⟨(.int .i64), n639⟩), (.d ⟨(.int .i64), n640⟩), (.d ⟨(.int .i64), n641⟩)])])⟩), ([0, 1], ⟨61, 2, (.mix [(.agg [(.ref [0, 2]), (.d ⟨.bool, b642⟩)])])⟩), ([0, 2], ⟨2, 1, (.data (.int .i64) ns643)⟩)] k = some true := by
  obtain ⟨d, rfl⟩ : ∃ e, d = e + 1 := ⟨d - 1, by omega⟩
  exact fn_ok (c := codeOf Try.f16) Try.func16 (by kernel_rfl) (rec := stack_Stack_Idv1.calls stack_Stack_Segv1 stack_Stack_SPv1) (fun g a h k hx => by
    rcases stack_Stack_Segv1.look d (by omega) hx with hx | hx
    rotate_left
    · exact hx
    rcases stack_Stack_SPv1.look d (by omega) hx with hx | hx
    rotate_left
    · exact hx
    cases hx) (loopf := stack_Stack_Idv1.loops) (by
    have e : loopsOf (stack_Stack_Idv1.loops) 0 (codeOf Try.f16) = [] := by kernel_rfl
    rw [e]
    intro p hp
    cases hp) ((stack_Stack_Idv1.eq stack_Stack_Segv1 stack_Stack_SPv1 n635 n636 n637 n638 n639 n640 n641 b642 ns643 k).trans hx)
theorem stack_Stack_Idv1.look (d : Nat) (hd : 3 ≤ d) {e : Option Bool} {g : FuncId} {a : List AV} {h : Heap} {k : KR} (hx : stack_Stack_Idv1.get stack_Stack_Idv1 e g a h k = some true) : e = some true ∨ callK Try.prog ht d g a h k = some true := by
  unfold stack_Stack_Idv1.get at hx
  split at hx
  · exact .inr (stack_Stack_Idv1.ok d hd _ _ _ _ _ _ _ _ _ _ hx)
  · exact .inl hx
/-- function 48: (*sheerleg/stack.Stack).has -/
noncomputable def stack_Stack_hasv1.body (stack_Stack_Idv1 : Int → Int → Int → Int → Int → Int → Int → Bool → (List Int) → (Int → Int → Int → Int → Int → Int → Int → Int → Bool → (List Int) → Option Bool) → Option Bool) (n625 : Int) (n626 : Int) (n627 : Int) (n628 : Int) (n629 : Int) (n630 : Int) (n631 : Int) (n632 : Int) (b633 : Bool) (ns634 : List Int) (k1 : Bool → Int → Int → Int → Int → Int → Int → Int → Bool → (List Int) → Option Bool) : Option Bool :=
  (cond_ (decide (n625 ≥ (0 : Int))) (stack_Stack_Idv1 n626 n627 n628 n629 n630 n631 n632 b633 ns634
  (fun n683 n684 n685 n686 n687 n688 n689 n690 b691 ns692 => (k1 (decide (n625 < n683)) n684 n685 n686 n687 n688 n689 n690 b691 ns692))) (k1 false n626 n627 n628 n629 n630 n631 n632 b633 ns634))
noncomputable def stack_Stack_hasv1 (n625 : Int) (n626 : Int) (n627 : Int) (n628 : Int) (n629 : Int) (n630 : Int) (n631 : Int) (n632 : Int) (b633 : Bool) (ns634 : List Int) (k1 : Bool → Int → Int → Int → Int → Int → Int → Int → Bool → (List Int) → Option Bool) : Option Bool := stack_Stack_hasv1.body stack_Stack_Idv1 n625 n626 n627 n628 n629 n630 n631 n632 b633 ns634 k1
noncomputable def stack_Stack_hasv1.get (F : Int → Int → Int → Int → Int → Int → Int → Int → Bool → (List Int) → (Bool → Int → Int → Int → Int → Int → Int → Int → Bool → (List Int) → Option Bool) → Option Bool) (e : Option Bool) (g : FuncId) (a : List AV) (h : Heap) (k : KR) : Option Bool := match g, a, h with
  | 48, [(.ptr [0, 0] 0 0), (.d ⟨(.int .i64), n625⟩)], [([0, 0], ⟨53, 8, (.mix [(.agg [(.ptr [0, 1] 0 0), (.d ⟨(.int .i64), n626⟩), (.d ⟨(.int .i64), n627⟩), (.d ⟨(.int .i64), n628⟩), (.d ⟨(.int .i64), n629⟩), (.d ⟨(.int .i64), n630⟩), (.d ⟨(.int .i64), n631⟩), (.d ⟨(.int .i64), n632⟩)])])⟩), ([0, 1], ⟨61, 2, (.mix [(.agg [(.ref [0, 2]), (.d ⟨.bool, b633⟩)])])⟩), ([0, 2], ⟨2, 1, (.data (.int .i64) ns634)⟩)] => F n625 n626 n627 n628 n629 n630 n631 n632 b633 ns634 (fun y0 y1 y2 y3 y4 y5 y6 y7 y8 y9 => k (.d ⟨.bool, y0⟩) [([0, 0], ⟨53, 8, (.mix [(.agg [(.ptr [0, 1] 0 0), (.d ⟨(.int .i64), y1⟩), (.d ⟨(.int .i64), y2⟩), (.d ⟨(.int .i64), y3⟩), (.d ⟨(.int .i64), y4⟩), (.d ⟨(.int .i64), y5⟩), (.d ⟨(.int .i64), y6⟩), (.d ⟨(.int .i64), y7⟩)])])⟩), ([0, 1], ⟨61, 2, (.mix [(.agg [(.ref [0, 2]), (.d ⟨.bool, y8⟩)])])⟩), ([0, 2], ⟨2, 1, (.data (.int .i64) y9)⟩)])
  | _, _, _ => e
noncomputable def stack_Stack_hasv1.calls (F0 : Int → Int → Int → Int → Int → Int → Int → Bool → (List Int) → (Int → Int → Int → Int → Int → Int → Int → Int → Bool → (List Int) → Option Bool) → Option Bool) : RecF := fun g a h k => (stack_Stack_Idv1.get F0 none g a h k)
noncomputable def stack_Stack_hasv1.loops : LoopF := fun b => none
set_option maxRecDepth 100000 in
theorem stack_Stack_hasv1.eq (F0 : Int → Int → Int → Int → Int → Int → Int → Bool → (List Int) → (Int → Int → Int → Int → Int → Int → Int → Int → Bool → (List Int) → Option Bool) → Option Bool) (n625 : Int) (n626 : Int) (n627 : Int) (n628 : Int) (n629 : Int) (n630 : Int) (n631 : Int) (n632 : Int) (b633 : Bool) (ns634 : List Int) (k : KR) : execL Try.prog ht 48 (callfOf (stack_Stack_hasv1.calls F0)) (stack_Stack_hasv1.loops) 0 (codeOf Try.f48) ⟨[(.ptr [0, 0] 0 0), (.d ⟨(.int .i64), n625⟩)] ++ List.replicate (Try.f48.ntmps - ([(.ptr [0, 0] 0 0), (.d ⟨(.int .i64), n625⟩)] : List AV).length) .undef, [([0, 0], ⟨53, 8, (.mix [(.agg [(.ptr [0, 1] 0 0), (.d ⟨(.int .i64), n626⟩), (.d ⟨(.int .i64), n627⟩), (.d ⟨(.int .i64), n628⟩), (.d ⟨(.int .i64), n629⟩), (.d ⟨(.int .i64), n630⟩), (.d ⟨(.int .i64), n631⟩), (.d ⟨(.int .i64), n632⟩)])])⟩), ([0, 1], ⟨61, 2, (.mix [(.agg [(.ref [0, 2]), (.d ⟨.bool, b633⟩)])])⟩), ([0, 2], ⟨2, 1, (.data (.int .i64) ns634)⟩)], 2⟩ (leave Try.prog Try.f48 k) = stack_Stack_hasv1.body F0 n625 n626 n627 n628 n629 n630 n631 n632 b633 ns634 (fun y0 y1 y2 y3 y4 y5 y6 y7 y8 y9 => k (.d ⟨.bool, y0⟩) [([0, 0], ⟨53, 8, (.mix [(.agg [(.ptr [0, 1] 0 0), (.d ⟨(.int .i64), y1⟩), (.d ⟨(.int .i64), y2⟩), (.d ⟨(.int .i64), y3⟩), (.d ⟨(.int .i64), y4⟩), (.d ⟨(.int .i64), y5⟩), (.d ⟨(.int .i64), y6⟩), (.d ⟨(.int .i64), y7⟩)])])⟩), ([0, 1], ⟨61, 2, (.mix [(.agg [(.ref [0, 2]), (.d ⟨.bool, y8⟩)])])⟩), ([0, 2], ⟨2, 1, (.data (.int .i64) y9)⟩)]) := by kernel_rfl
theorem stack_Stack_hasv1.ok (d : Nat) (hd : 4 ≤ d) (n625 : Int) (n626 : Int) (n627 : Int) (n628 : Int) (n629 : Int) (n630 : Int) (n631 : Int) (n632 : Int) (b633 : Bool) (ns634 : List Int) (k : KR) (hx : stack_Stack_hasv1 n625 n626 n627 n628 n629 n630 n631 n632 b633 ns634 (fun y0 y1 y2 y3 y4 y5 y6 y7 y8 y9 => k (.d ⟨.bool, y0⟩) [([0, 0], ⟨53, 8, (.mix [(.agg [(.ptr [0, 1] 0 0), (.d ⟨(.int .i64), y1⟩), (.d ⟨(.int .i64), y2⟩), (.d ⟨(.int .i64), y3⟩), (.d ⟨(.int .i64), y4⟩), (.d ⟨(.int .i64), y5⟩), (.d ⟨(.int .i64), y6⟩), (.d ⟨(.int .i64), y7⟩)])])⟩), ([0, 1], ⟨61, 2, (.mix [(.agg [(.ref [0, 2]), (.d ⟨.bool, y8⟩)])])⟩), ([0, 2], ⟨2, 1, (.data (.int .i64) y9)⟩)]) = some true) : callK Try.prog ht d 48 [(.ptr [0, 0] 0 0), (.d ⟨(.int .i64), n625⟩)] [([0, 0], ⟨53, 8, (.mix [(.agg [(.ptr [0, 1] 0 0), (.d ⟨(.int .i64), n626⟩), (.d ⟨(.int .i64), n627⟩), (.d ⟨(.int .i64), n628⟩), (.d ⟨(.int .i64), n629⟩), (.d ⟨(.int .i64), n630⟩), (.d ⟨(.int .i64), n631⟩), (.d ⟨(.int .i64), n632⟩)])])⟩), ([0, 1], ⟨61, 2, (.mix [(.agg [(.ref [0, 2]), (.d ⟨.bool, b633⟩)])])⟩), ([0, 2], ⟨2, 1, (.data (.int .i64) ns634)⟩)] k = some true := by
  obtain ⟨d, rfl⟩ : ∃ e, d = e + 1 := ⟨d - 1, by omega⟩
  exact fn_ok (c := codeOf Try.f48) Try.func48 (by kernel_rfl) (rec := stack_Stack_hasv1.calls stack_Stack_Idv1) (fun g a h k hx => by
    rcases stack_Stack_Idv1.look d (by omega) hx with hx | hx
    rotate_left
    · exact hx
    cases hx) (loopf := stack_Stack_hasv1.loops) (by
    have e : loopsOf (stack_Stack_hasv1.loops) 0 (codeOf Try.f48) = [] := by kernel_rfl
    rw [e]
    intro p hp
    cases hp) ((stack_Stack_hasv1.eq stack_Stack_Idv1 n625 n626 n627 n628 n629 n630 n631 n632 b633 ns634 k).trans hx)
theorem stack_Stack_hasv1.look (d : Nat) (hd : 4 ≤ d) {e : Option Bool} {g : FuncId} {a : List AV} {h : Heap} {k : KR} (hx : stack_Stack_hasv1.get stack_Stack_hasv1 e g a h k = some true) : e = some true ∨ callK Try.prog ht d g a h k = some true := by
  unfold stack_Stack_hasv1.get at hx
  split at hx
  · exact .inr (stack_Stack_hasv1.ok d hd _ _ _ _ _ _ _ _ _ _ _ hx)
  · exact .inl hx
/-- function 23: (*sheerleg/stack.Stack).Get -/
noncomputable def stack_Stack_Getv1.body (stack_Stack_hasv1 : Int → Int → Int → Int → Int → Int → Int → Int → Bool → (List Int) → (Bool → Int → Int → Int → Int → Int → Int → Int → Bool → (List Int) → Option Bool) → Option Bool) (memory_Memory_Load : Int → Bool → (List Int) → (Int → Bool → Bool → (List Int) → Option Bool) → Option Bool) (n615 : Int) (n616 : Int) (n617 : Int) (n618 : Int) (n619 : Int) (n620 : Int) (n621 : Int) (n622 : Int) (b623 : Bool) (ns624 : List Int) (k1 : Int → Bool → Int → Int → Int → Int → Int → Int → Int → Bool → (List Int) → Option Bool) : Option Bool :=
  (stack_Stack_hasv1 n615 n616 n617 n618 n619 n620 n621 n622 b623 ns624
  (fun b693 n694 n695 n696 n697 n698 n699 n700 b701 ns702 => (cond_ (! b693) (k1 (0 : Int) false n694 n695 n696 n697 n698 n699 n700 b701 ns702) (memory_Memory_Load (IntKind.wrap .i64 (n697 + n615)) b701 ns702
  (fun n703 b704 b705 ns706 => (k1 n703 b704 n694 n695 n696 n697 n698 n699 n700 b705 ns706))))))
noncomputable def stack_Stack_Getv1 (n615 : Int) (n616 : Int) (n617 : Int) (n618 : Int) (n619 : Int) (n620 : Int) (n621 : Int) (n622 : Int) (b623 : Bool) (ns624 : List Int) (k1 : Int → Bool → Int → Int → Int → Int → Int → Int → Int → Bool → (List Int) → Option Bool) : Option Bool := stack_Stack_Getv1.body stack_Stack_hasv1 memory_Memory_Load n615 n616 n617 n618 n619 n620 n621 n622 b623 ns624 k1
noncomputable def stack_Stack_Getv1.get (F : Int → Int → Int → Int → Int → Int → Int → Int → Bool → (List Int) → (Int → Bool → Int → Int → Int → Int → Int → Int → Int → Bool → (List Int) → Option Bool) → Option Bool) (e : Option Bool) (g : FuncId) (a : List AV) (h : Heap) (k : KR) : Option Bool := match g, a, h with
  | 23, [(.ptr [0, 0] 0 0), (.d ⟨(.int .i64), n615⟩)], [([0, 0], ⟨53, 8, (.mix [(.agg [(.ptr [0, 1] 0 0), (.d ⟨(.int .i64), n616⟩), (.d ⟨(.int .i64), n617⟩), (.d ⟨(.int .i64), n618⟩), (.d ⟨(.int .i64), n619⟩), (.d ⟨(.int .i64), n620⟩), (.d ⟨(.int .i64), n621⟩), (.d ⟨(.int .i64), n622⟩)])])⟩), ([0, 1], ⟨61, 2, (.mix [(.agg [(.ref [0, 2]), (.d ⟨.bool, b623⟩)])])⟩), ([0, 2], ⟨2, 1, (.data (.int .i64) ns624)⟩)] => F n615 n616 n617 n618 n619 n620 n621 n622 b623 ns624 (fun y0 y1 y2 y3 y4 y5 y6 y7 y8 y9 y10 => k (.tup [(.d ⟨(.int .i64), y0⟩), (.d ⟨.bool, y1⟩)]) [([0, 0], ⟨53, 8, (.mix [(.agg [(.ptr [0, 1] 0 0), (.d ⟨(.int .i64), y2⟩), (.d ⟨(.int .i64), y3⟩), (.d ⟨(.int .i64), y4⟩), (.d ⟨(.int .i64), y5⟩), (.d ⟨(.int .i64), y6⟩), (.d ⟨(.int .i64), y7⟩), (.d ⟨(.int .i64), y8⟩)])])⟩), ([0, 1], ⟨61, 2, (.mix [(.agg [(.ref [0, 2]), (.d ⟨.bool, y9⟩)])])⟩), ([0, 2], ⟨2, 1, (.data (.int .i64) y10)⟩)])
  | _, _, _ => e
noncomputable def stack_Stack_Getv1.calls (F0 : Int → Int → Int → Int → Int → Int → Int → Int → Bool → (List Int) → (Bool → Int → Int → Int → Int → Int → Int → Int → Bool → (List Int) → Option Bool) → Option Bool) (F1 : Int → Bool → (List Int) → (Int → Bool → Bool → (List Int) → Option Bool) → Option Bool) : RecF := fun g a h k => (stack_Stack_hasv1.get F0 (memory_Memory_Load.get F1 none g a h k) g a h k)
noncomputable def stack_Stack_Getv1.loops : LoopF := fun b => none
set_option maxRecDepth 100000 in
theorem stack_Stack_Getv1.eq (F0 : Int → Int → Int → Int → Int → Int → Int → Int → Bool → (List Int) → (Bool → Int → Int → Int → Int → Int → Int → Int → Bool → (List Int) → Option Bool) → Option Bool) (F1 : Int → Bool → (List Int) → (Int → Bool → Bool → (List Int) → Option Bool) → Option Bool) (n615 : Int) (n616 : Int) (n617 : Int) (n618 : Int) (n619 : Int) (n620 : Int) (n621 : Int) (n622 : Int) (b623 : Bool) (ns624 : List Int) (k : KR) : execL Try.prog ht 23 (callfOf (stack_Stack_Getv1.calls F0 F1)) (stack_Stack_Getv1.loops) 0 (codeOf Try.f23) ⟨[(.ptr [0, 0] 0 0), (.d ⟨(.int .i64), n615⟩)] ++ List.replicate (Try.f23.ntmps - ([(.ptr [0, 0] 0 0), (.d ⟨(.int .i64), n615⟩)] : List AV).length) .undef, [([0, 0], ⟨53, 8, (.mix [(.agg [(.ptr [0, 1] 0 0), (.d ⟨(.int .i64), n616⟩), (.d ⟨(.int .i64), n617⟩), (.d ⟨(.int .i64), n618⟩), (.d ⟨(.int .i64), n619⟩), (.d ⟨(.int .i64), n620⟩), (.d ⟨(.int .i64), n621⟩), (.d ⟨(.int .i64), n622⟩)])])⟩), ([0, 1], ⟨61, 2, (.mix [(.agg [(.ref [0, 2]), (.d ⟨.bool, b623⟩)])])⟩), ([0, 2], ⟨2, 1, (.data (.int .i64) ns624)⟩)], 2⟩ (leave Try.prog Try.f23 k) = stack_Stack_Getv1.body F0 F1 n615 n616 n617 n618 n619 n620 n621 n622 b623 ns624 (fun y0 y1 y2 y3 y4 y5 y6 y7 y8 y9 y10 => k (.tup [(.d ⟨(.int .i64), y0⟩), (.d ⟨.bool, y1⟩)]) [([0, 0], ⟨53, 8, (.mix [(.agg [(.ptr [0, 1] 0 0), (.d ⟨(.int .i64), y2⟩), (.d ⟨(.int .i64), y3⟩), (.d ⟨(.int .i64), y4⟩), (.d ⟨(.int .i64), y5⟩), (.d ⟨(.int .i64), y6⟩), (.d ⟨(.int .i64), y7⟩), (.d ⟨(.int .i64), y8⟩)])])⟩), ([0, 1], ⟨61, 2, (.mix [(.agg [(.ref [0, 2]), (.d ⟨.bool, y9⟩)])])⟩), ([0, 2], ⟨2, 1, (.data (.int .i64) y10)⟩)]) := by kernel_rfl
theorem stack_Stack_Getv1.ok (d : Nat) (hd : 5 ≤ d) (n615 : Int) (n616 : Int) (n617 : Int) (n618 : Int) (n619 : Int) (n620 : Int) (n621 : Int) (n622 : Int) (b623 : Bool) (ns624 : List Int) (k : KR) (hx : stack_Stack_Getv1 n615 n616 n617 n618 n619 n620 n621 n622 b623 ns624 (fun y0 y1 y2 y3 y4 y5 y6 y7 y8 y9 y10 => k (.tup [(.d ⟨(.int .i64), y0⟩), (.d ⟨.bool, y1⟩)]) [([0, 0], ⟨53, 8, (.mix [(.agg [(.ptr [0, 1] 0 0), (.d ⟨(.int .i64), y2⟩), (.d ⟨(.int .i64), y3⟩), (.d ⟨(.int .i64), y4⟩), (.d ⟨(.int .i64), y5⟩), (.d ⟨(.int .i64), y6⟩), (.d ⟨(.int .i64), y7⟩), (.d ⟨(.int .i64), y8⟩)])])⟩), ([0, 1], ⟨61, 2, (.mix [(.agg [(.ref [0, 2]), (.d ⟨.bool, y9⟩)])])⟩), ([0, 2], ⟨2, 1, (.data (.int .i64) y10)⟩)]) = some true) : callK Try.prog ht d 23 [(.ptr [0, 0] 0 0), (.d ⟨(.int .i64), n615⟩)] [([0, 0], ⟨53, 8, (.mix [(.agg [(.ptr [0, 1] 0 0), (.d ⟨(.int .i64), n616⟩), (.d ⟨(.int .i64), n617⟩), (.d ⟨(.int .i64), n618⟩), (.d ⟨(.int .i64), n619⟩), (.d ⟨(.int .i64), n620⟩), (.d ⟨(.int .i64), n621⟩), (.d ⟨(.int .i64), n622⟩)])])⟩), ([0, 1], ⟨61, 2, (.mix [(.agg [(.ref [0, 2]), (.d ⟨.bool, b623⟩)])])⟩), ([0, 2], ⟨2, 1, (.data (.int .i64) ns624)⟩)] k = some true := by
  obtain ⟨d, rfl⟩ : ∃ e, d = e + 1 := ⟨d - 1, by omega⟩
  exact fn_ok (c := codeOf Try.f23) Try.func23 (by kernel_rfl) (rec := stack_Stack_Getv1.calls stack_Stack_hasv1 memory_Memory_Load) (fun g a h k hx => by
    rcases stack_Stack_hasv1.look d (by omega) hx with hx | hx
    rotate_left
    · exact hx
    rcases memory_Memory_Load.look d (by omega) hx with hx | hx
    rotate_left
    · exact hx
    cases hx) (loopf := stack_Stack_Getv1.loops) (by
    have e : loopsOf (stack_Stack_Getv1.loops) 0 (codeOf Try.f23) = [] := by kernel_rfl
    rw [e]
    intro p hp
    cases hp) ((stack_Stack_Getv1.eq stack_Stack_hasv1 memory_Memory_Load n615 n616 n617 n618 n619 n620 n621 n622 b623 ns624 k).trans hx)
theorem stack_Stack_Getv1.look (d : Nat) (hd : 5 ≤ d) {e : Option Bool} {g : FuncId} {a : List AV} {h : Heap} {k : KR} (hx : stack_Stack_Getv1.get stack_Stack_Getv1 e g a h k = some true) : e = some true ∨ callK Try.prog ht d g a h k = some true := by
  unfold stack_Stack_Getv1.get at hx
  split at hx
  · exact .inr (stack_Stack_Getv1.ok d hd _ _ _ _ _ _ _ _ _ _ _ hx)
  · exact .inl hx
/-- function 15: (*sheerleg/stack.Stack).Pop -/
noncomputable def stack_Stack_Popv1.body (stack_Stack_Getv1 : Int → Int → Int → Int → Int → Int → Int → Int → Bool → (List Int) → (Int → Bool → Int → Int → Int → Int → Int → Int → Int → Bool → (List Int) → Option Bool) → Option Bool) (n606 : Int) (n607 : Int) (n608 : Int) (n609 : Int) (n610 : Int) (n611 : Int) (n612 : Int) (b613 : Bool) (ns614 : List Int) (k1 : Int → Bool → Int → Int → Int → Int → Int → Int → Int → Bool → (List Int) → Option Bool) : Option Bool :=
  (stack_Stack_Getv1 (0 : Int) n606 n607 n608 n609 n610 n611 n612 b613 ns614
  (fun n707 b708 n709 n710 n711 n712 n713 n714 n715 b716 ns717 => (cond_ b708 (k1 n707 b708 n709 n710 n711 (IntKind.wrap .i64 (n712 + (1 : Int))) n713 n714 n715 b716 ns717) (k1 n707 b708 n709 n710 n711 n712 n713 n714 n715 b716 ns717))))
noncomputable def stack_Stack_Popv1 (n606 : Int) (n607 : Int) (n608 : Int) (n609 : Int) (n610 : Int) (n611 : Int) (n612 : Int) (b613 : Bool) (ns614 : List Int) (k1 : Int → Bool → Int → Int → Int → Int → Int → Int → Int → Bool → (List Int) → Option Bool) : Option Bool := stack_Stack_Popv1.body stack_Stack_Getv1 n606 n607 n608 n609 n610 n611 n612 b613 ns614 k1
noncomputable def stack_Stack_Popv1.get (F : Int → Int → Int → Int → Int → Int → Int → Bool → (List Int) → (Int → Bool → Int → Int → Int → Int → Int → Int → Int → Bool → (List Int) → Option Bool) → Option Bool) (e : Option Bool) (g : FuncId) (a : List AV) (h : Heap) (k : KR) : Option Bool := match g, a, h with
  | 15, [(.ptr [0, 0] 0 0)], [([0, 0], ⟨53, 8, (.mix [(.agg [(.ptr [0, 1] 0 0), (.d ⟨(.int .i64), n606⟩), (.d ⟨(.int .i64), n607⟩), (.d ⟨(.int .i64), n608⟩), (.d ⟨(.int .i64), n609⟩), (.d ⟨(.int .i64), n610⟩), (.d ⟨(.int .i64), n611⟩), (.d ⟨(.int .i64), n612⟩)])])⟩), ([0, 1], ⟨61, 2, (.mix [(.agg [(.ref [0, 2]), (.d ⟨.bool, b613⟩)])])⟩), ([0, 2], ⟨2, 1, (.data (.int .i64) ns614)⟩)] => F n606 n607 n608 n609 n610 n611 n612 b613 ns614 (fun y0 y1 y2 y3 y4 y5 y6 y7 y8 y9 y10 => k (.tup [(.d ⟨(.int .i64), y0⟩), (.d ⟨.bool, y1⟩)]) [([0, 0], ⟨53, 8, (.mix [(.agg [(.ptr [0, 1] 0 0), (.d ⟨(.int .i64), y2⟩), (.d ⟨(.int .i64), y3⟩), (.d ⟨(.int .i64), y4⟩), (.d ⟨(.int .i64), y5⟩), (.d ⟨(.int .i64), y6⟩), (.d ⟨(.int .i64), y7⟩), (.d ⟨(.int .i64), y8⟩)])])⟩), ([0, 1], ⟨61, 2, (.mix [(.agg [(.ref [0, 2]), (.d ⟨.bool, y9⟩)])])⟩), ([0, 2], ⟨2, 1, (.data (.int .i64) y10)⟩)])
  | _, _, _ => e
noncomputable def stack_Stack_Popv1.calls (F0 : Int → Int → Int → Int → Int → Int → Int → Int → Bool → (List Int) → (Int → Bool → Int → Int → Int → Int → Int → Int → Int → Bool → (List Int) → Option Bool) → Option Bool) : RecF := fun g a h k => (stack_Stack_Getv1.get F0 none g a h k)
noncomputable def stack_Stack_Popv1.loops : LoopF := fun b => none
set_option maxRecDepth 100000 in
theorem stack_Stack_Popv1.eq (F0 : Int → Int → Int → Int → Int → Int → Int → Int → Bool → (List Int) → (Int → Bool → Int → Int → Int → Int → Int → Int → Int → Bool → (List Int) → Option Bool) → Option Bool) (n606 : Int) (n607 : Int) (n608 : Int) (n609 : Int) (n610 : Int) (n611 : Int) (n612 : Int) (b613 : Bool) (ns614 : List Int) (k : KR) : execL Try.prog ht 15 (callfOf (stack_Stack_Popv1.calls F0)) (stack_Stack_Popv1.loops) 0 (codeOf Try.f15) ⟨[(.ptr [0, 0] 0 0)] ++ List.replicate (Try.f15.ntmps - ([(.ptr [0, 0] 0 0)] : List AV).length) .undef, [([0, 0], ⟨53, 8, (.mix [(.agg [(.ptr [0, 1] 0 0), (.d ⟨(.int .i64), n606⟩), (.d ⟨(.int .i64), n607⟩), (.d ⟨(.int .i64), n608⟩), (.d ⟨(.int .i64), n609⟩), (.d ⟨(.int .i64), n610⟩), (.d ⟨(.int .i64), n611⟩), (.d ⟨(.int .i64), n612⟩)])])⟩), ([0, 1], ⟨61, 2, (.mix [(.agg [(.ref [0, 2]), (.d ⟨.bool, b613⟩)])])⟩), ([0, 2], ⟨2, 1, (.data (.int .i64) ns614)⟩)], 2⟩ (leave Try.prog Try.f15 k) = stack_Stack_Popv1.body F0 n606 n607 n608 n609 n610 n611 n612 b613 ns614 (fun y0 y1 y2 y3 y4 y5 y6 y7 y8 y9 y10 => k (.tup [(.d ⟨(.int .i64), y0⟩), (.d ⟨.bool, y1⟩)]) [([0, 0], ⟨53, 8, (.mix [(.agg [(.ptr [0, 1] 0 0), (.d ⟨(.int .i64), y2⟩), (.d ⟨(.int .i64), y3⟩), (.d ⟨(.int .i64), y4⟩), (.d ⟨(.int .i64), y5⟩), (.d ⟨(.int .i64), y6⟩), (.d ⟨(.int .i64), y7⟩), (.d ⟨(.int .i64), y8⟩)])])⟩), ([0, 1], ⟨61, 2, (.mix [(.agg [(.ref [0, 2]), (.d ⟨.bool, y9⟩)])])⟩), ([0, 2], ⟨2, 1, (.data (.int .i64) y10)⟩)]) := by kernel_rfl
theorem stack_Stack_Popv1.ok (d : Nat) (hd : 6 ≤ d) (n606 : Int) (n607 : Int) (n608 : Int) (n609 : Int) (n610 : Int) (n611 : Int) (n612 : Int) (b613 : Bool) (ns614 : List Int) (k : KR) (hx : stack_Stack_Popv1 n606 n607 n608 n609 n610 n611 n612 b613 ns614 (fun y0 y1 y2 y3 y4 y5 y6 y7 y8 y9 y10 => k (.tup [(.d ⟨(.int .i64), y0⟩), (.d ⟨.bool, y1⟩)]) [([0, 0], ⟨53, 8, (.mix [(.agg [(.ptr [0, 1] 0 0), (.d ⟨(.int .i64), y2⟩), (.d ⟨(.int .i64), y3⟩), (.d ⟨(.int .i64), y4⟩), (.d ⟨(.int .i64), y5⟩), (.d ⟨(.int .i64), y6⟩), (.d ⟨(.int .i64), y7⟩), (.d ⟨(.int .i64), y8⟩)])])⟩), ([0, 1], ⟨61, 2, (.mix [(.agg [(.ref [0, 2]), (.d ⟨.bool, y9⟩)])])⟩), ([0, 2], ⟨2, 1, (.data (.int .i64) y10)⟩)]) = some true) : callK Try.prog ht d 15 [(.ptr [0, 0] 0 0)] [([0, 0], ⟨53, 8, (.mix [(.agg [(.ptr [0, 1] 0 0), (.d ⟨(.int .i64), n606⟩), (.d ⟨(.int .i64), n607⟩), (.d ⟨(.int .i64), n608⟩), (.d ⟨(.int .i64), n609⟩), (.d ⟨(.int .i64), n610⟩), (.d ⟨(.int .i64), n611⟩), (.d ⟨(.int .i64), n612⟩)])])⟩), ([0, 1], ⟨61, 2, (.mix [(.agg [(.ref [0, 2]), (.d ⟨.bool, b613⟩)])])⟩), ([0, 2], ⟨2, 1, (.data (.int .i64) ns614)⟩)] k = some true := by
  obtain ⟨d, rfl⟩ : ∃ e, d = e + 1 := ⟨d - 1, by omega⟩
  exact fn_ok (c := codeOf Try.f15) Try.func15 (by kernel_rfl) (rec := stack_Stack_Popv1.calls stack_Stack_Getv1) (fun g a h k hx => by
    rcases stack_Stack_Getv1.look d (by omega) hx with hx | hx
    rotate_left
    · exact hx
    cases hx) (loopf := stack_Stack_Popv1.loops) (by
    have e : loopsOf (stack_Stack_Popv1.loops) 0 (codeOf Try.f15) = [] := by kernel_rfl
    rw [e]
    intro p hp
    cases hp) ((stack_Stack_Popv1.eq stack_Stack_Getv1 n606 n607 n608 n609 n610 n611 n612 b613 ns614 k).trans hx)
theorem stack_Stack_Popv1.look (d : Nat) (hd : 6 ≤ d) {e : Option Bool} {g : FuncId} {a : List AV} {h : Heap} {k : KR} (hx : stack_Stack_Popv1.get stack_Stack_Popv1 e g a h k = some true) : e = some true ∨ callK Try.prog ht d g a h k = some true := by
  unfold stack_Stack_Popv1.get at hx
  split at hx
  · exact .inr (stack_Stack_Popv1.ok d hd _ _ _ _ _ _ _ _ _ _ hx)
  · exact .inl hx
/-- function 49: (*sheerleg/stack.Stack).may -/
noncomputable def stack_Stack_mayv1.body (stack_Stack_livev1 : Int → Int → Int → Int → Int → Int → Int → Bool → (List Int) → (Bool → Int → Int → Int → Int → Int → Int → Int → Bool → (List Int) → Option Bool) → Option Bool) (n764 : Int) (n765 : Int) (n766 : Int) (n767 : Int) (n768 : Int) (n769 : Int) (n770 : Int) (n771 : Int) (n772 : Int) (b773 : Bool) (ns774 : List Int) (k1 : Bool → Int → Int → Int → Int → Int → Int → Int → Bool → (List Int) → Option Bool) : Option Bool :=
  (stack_Stack_livev1 n766 n767 n768 n769 n770 n771 n772 b773 ns774
  (fun b775 n776 n777 n778 n779 n780 n781 n782 b783 ns784 => (cond_ b775 (cond_ (decide (n764 ≥ (0 : Int))) (k1 (decide (n764 ≤ n765)) n776 n777 n778 n779 n780 n781 n782 b783 ns784) (k1 false n776 n777 n778 n779 n780 n781 n782 b783 ns784)) (k1 false n776 n777 n778 n779 n780 n781 n782 b783 ns784))))
noncomputable def stack_Stack_mayv1 (n764 : Int) (n765 : Int) (n766 : Int) (n767 : Int) (n768 : Int) (n769 : Int) (n770 : Int) (n771 : Int) (n772 : Int) (b773 : Bool) (ns774 : List Int) (k1 : Bool → Int → Int → Int → Int → Int → Int → Int → Bool → (List Int) → Option Bool) : Option Bool := stack_Stack_mayv1.body stack_Stack_livev1 n764 n765 n766 n767 n768 n769 n770 n771 n772 b773 ns774 k1
noncomputable def stack_Stack_mayv1.get (F : Int → Int → Int → Int → Int → Int → Int → Int → Int → Bool → (List Int) → (Bool → Int → Int → Int → Int → Int → Int → Int → Bool → (List Int) → Option Bool) → Option Bool) (e : Option Bool) (g : FuncId) (a : List AV) (h : Heap) (k : KR) : Option Bool := match g, a, h with
  | 49, [(.ptr [0, 0] 0 0), (.d ⟨(.int .i64), n764⟩), (.d ⟨(.int .i64), n765⟩)], [([0, 0], ⟨53, 8, (.mix [(.agg [(.ptr [0, 1] 0 0), (.d ⟨(.int .i64), n766⟩), (.d ⟨(.int .i64), n767⟩), (.d ⟨(.int .i64), n768⟩), (.d ⟨(.int .i64), n769⟩), (.d ⟨(.int .i64), n770⟩), (.d ⟨(.int .i64), n771⟩), (.d ⟨(.int .i64), n772⟩)])])⟩), ([0, 1], ⟨61, 2, (.mix [(.agg [(.ref [0, 2]), (.d ⟨.bool, b773⟩)])])⟩), ([0, 2], ⟨2, 1, (.data (.int .i64) ns774)⟩)] => F n764 n765 n766 n767 n768 n769 n770 n771 n772 b773 ns774 (fun y0 y1 y2 y3 y4 y5 y6 y7 y8 y9 => k (.d ⟨.bool, y0⟩) [([0, 0], ⟨53, 8, (.mix [(.agg [(.ptr [0, 1] 0 0), (.d ⟨(.int .i64), y1⟩), (.d ⟨(.int .i64), y2⟩), (.d ⟨(.int .i64), y3⟩), (.d ⟨(.int .i64), y4⟩), (.d ⟨(.int .i64), y5⟩), (.d ⟨(.int .i64), y6⟩), (.d ⟨(.int .i64), y7⟩)])])⟩), ([0, 1], ⟨61, 2, (.mix [(.agg [(.ref [0, 2]), (.d ⟨.bool, y8⟩)])])⟩), ([0, 2], ⟨2, 1, (.data (.int .i64) y9)⟩)])
  | _, _, _ => e
noncomputable def stack_Stack_mayv1.calls (F0 : Int → Int → Int → Int → Int → Int → Int → Bool → (List Int) → (Bool → Int → Int → Int → Int → Int → Int → Int → Bool → (List Int) → Option Bool) → Option Bool) : RecF := fun g a h k => (stack_Stack_livev1.get F0 none g a h k)
noncomputable def stack_Stack_mayv1.loops : LoopF := fun b => none
set_option maxRecDepth 100000 in
theorem stack_Stack_mayv1.eq (F0 : Int → Int → Int → Int → Int → Int → Int → Bool → (List Int) → (Bool → Int → Int → Int → Int → Int → Int → Int → Bool → (List Int) → Option Bool) → Option Bool) (n764 : Int) (n765 : Int) (n766 : Int) (n767 : Int) (n768 : Int) (n769 : Int) (n770 : Int) (n771 : Int) (n772 : Int) (b773 : Bool) (ns774 : List Int) (k : KR) : execL Try.prog ht 49 (callfOf (stack_Stack_mayv1.calls F0)) (stack_Stack_mayv1.loops) 0 (codeOf Try.f49) ⟨[(.ptr [0, 0] 0 0), (.d ⟨(.int .i64), n764⟩), (.d ⟨(.int .i64), n765⟩)] ++ List.replicate (Try.f49.ntmps - ([(.ptr [0, 0] 0 0), (.d ⟨(.int .i64), n764⟩), (.d ⟨(.int .i64), n765⟩)] : List AV).length) .undef, [([0, 0], ⟨53, 8, (.mix [(.agg [(.ptr [0, 1] 0 0), (.d ⟨(.int .i64), n766⟩), (.d ⟨(.int .i64), n767⟩), (.d ⟨(.int .i64), n768⟩), (.d ⟨(.int .i64), n769⟩), (.d ⟨(.int .i64), n770⟩), (.d ⟨(.int .i64), n771⟩), (.d ⟨(.int .i64), n772⟩)])])⟩), ([0, 1], ⟨61, 2, (.mix [(.agg [(.ref [0, 2]), (.d ⟨.bool, b773⟩)])])⟩), ([0, 2], ⟨2, 1, (.data (.int .i64) ns774)⟩)], 2⟩ (leave Try.prog Try.f49 k) = stack_Stack_mayv1.body F0 n764 n765 n766 n767 n768 n769 n770 n771 n772 b773 ns774 (fun y0 y1 y2 y3 y4 y5 y6 y7 y8 y9 => k (.d ⟨.bool, y0⟩) [([0, 0], ⟨53, 8, (.mix [(.agg [(.ptr [0, 1] 0 0), (.d ⟨(.int .i64), y1⟩), (.d ⟨(.int .i64), y2⟩), (.d ⟨(.int .i64), y3⟩), (.d ⟨(.int .i64), y4⟩), (.d ⟨(.int .i64), y5⟩), (.d ⟨(.int .i64), y6⟩), (.d ⟨(.int .i64), y7⟩)])])⟩), ([0, 1], ⟨61, 2, (.mix [(.agg [(.ref [0, 2]), (.d ⟨.bool, y8⟩)])])⟩), ([0, 2], ⟨2, 1, (.data (.int .i64) y9)⟩)]) := by kernel_rfl
theorem stack_Stack_mayv1.ok (d : Nat) (hd : 2 ≤ d) (n764 : Int) (n765 : Int) (n766 : Int) (n767 : Int) (n768 : Int) (n769 : Int) (n770 : Int) (n771 : Int) (n772 : Int) (b773 : Bool) (ns774 : List Int) (k : KR) (hx : stack_Stack_mayv1 n764 n765 n766 n767 n768 n769 n770 n771 n772 b773 ns774 (fun y0 y1 y2 y3 y4 y5 y6 y7 y8 y9 => k (.d ⟨.bool, y0⟩) [([0, 0], ⟨53, 8, (.mix [(.agg [(.ptr [0, 1] 0 0), (.d ⟨(.int .i64), y1⟩), (.d ⟨(.int .i64), y2⟩), (.d ⟨(.int .i64), y3⟩), (.d ⟨(.int .i64), y4⟩), (.d ⟨(.int .i64), y5⟩), (.d ⟨(.int .i64), y6⟩), (.d ⟨(.int .i64), y7⟩)])])⟩), ([0, 1], ⟨61, 2, (.mix [(.agg [(.ref [0, 2]), (.d ⟨.bool, y8⟩)])])⟩), ([0, 2], ⟨2, 1, (.data (.int .i64) y9)⟩)]) = some true) : callK Try.prog ht d 49 [(.ptr [0, 0] 0 0), (.d ⟨(.int .i64), n764⟩), (.d ⟨(.int .i64), n765⟩)] [([0, 0], ⟨53, 8, (.mix [(.agg [(.ptr [0, 1] 0 0), (.d ⟨(.int .i64), n766⟩), (.d ⟨(.int .i64), n767⟩), (.d ⟨(.int .i64), n768⟩), (.d ⟨(.int .i64), n769⟩), (.d ⟨(.int .i64), n770⟩), (.d ⟨(.int .i64), n771⟩), (.d ⟨(.int .i64), n772⟩)])])⟩), ([0, 1], ⟨61, 2, (.mix [(.agg [(.ref [0, 2]), (.d ⟨.bool, b773⟩)])])⟩), ([0, 2], ⟨2, 1, (.data (.int .i64) ns774)⟩)] k = some true := by
  obtain ⟨d, rfl⟩ : ∃ e, d = e + 1 := ⟨d - 1, by omega⟩
  exact fn_ok (c := codeOf Try.f49) Try.func49 (by kernel_rfl) (rec := stack_Stack_mayv1.calls stack_Stack_livev1) (fun g a h k hx => by
    rcases stack_Stack_livev1.look d (by omega) hx with hx | hx
    rotate_left
    · exact hx
    cases hx) (loopf := stack_Stack_mayv1.loops) (by
    have e : loopsOf (stack_Stack_mayv1.loops) 0 (codeOf Try.f49) = [] := by kernel_rfl
    rw [e]
    intro p hp
    cases hp) ((stack_Stack_mayv1.eq stack_Stack_livev1 n764 n765 n766 n767 n768 n769 n770 n771 n772 b773 ns774 k).trans hx)
theorem stack_Stack_mayv1.look (d : Nat) (hd : 2 ≤ d) {e : Option Bool} {g : FuncId} {a : List AV} {h : Heap} {k : KR} (hx : stack_Stack_mayv1.get stack_Stack_mayv1 e g a h k = some true) : e = some true ∨ callK Try.prog ht d g a h k = some true := by
  unfold stack_Stack_mayv1.get at hx
  split at hx
  · exact .inr (stack_Stack_mayv1.ok d hd _ _ _ _ _ _ _ _ _ _ _ _ hx)
  · exact .inl hx
/-- function 25: (*sheerleg/stack.Stack).Down -/
noncomputable def stack_Stack_Downv1.body (stack_Stack_SPv1 : Int → Int → Int → Int → Int → Int → Int → Bool → (List Int) → (Int → Int → Int → Int → Int → Int → Int → Int → Bool → (List Int) → Option Bool) → Option Bool) (stack_Stack_Segv1 : Int → Int → Int → Int → Int → Int → Int → Bool → (List Int) → ((Int × Int × Int × Unit) → Int → Int → Int → Int → Int → Int → Int → Bool → (List Int) → Option Bool) → Option Bool) (stack_Stack_mayv1 : Int → Int → Int → Int → Int → Int → Int → Int → Int → Bool → (List Int) → (Bool → Int → Int → Int → Int → Int → Int → Int → Bool → (List Int) → Option Bool) → Option Bool) (n734 : Int) (n735 : Int) (n736 : Int) (n737 : Int) (n738 : Int) (n739 : Int) (n740 : Int) (n741 : Int) (b742 : Bool) (ns743 : List Int) (k1 : Bool → Int → Int → Int → Int → Int → Int → Int → Bool → (List Int) → Option Bool) : Option Bool :=
  (stack_Stack_SPv1 n735 n736 n737 n738 n739 n740 n741 b742 ns743
  (fun n744 n745 n746 n747 n748 n749 n750 n751 b752 ns753 => (stack_Stack_Segv1 n745 n746 n747 n748 n749 n750 n751 b752 ns753
  (fun t754 n755 n756 n757 n758 n759 n760 n761 b762 ns763 => (stack_Stack_mayv1 n734 (IntKind.wrap .i64 (n744 - t754.1)) n755 n756 n757 n758 n759 n760 n761 b762 ns763
  (fun b785 n786 n787 n788 n789 n790 n791 n792 b793 ns794 => (cond_ (! b785) (k1 false n786 n787 n788 n789 n790 n791 n792 b793 ns794) (k1 true n786 n787 n788 (IntKind.wrap .i64 (n789 - n734)) n790 n791 n792 b793 ns794))))))))
noncomputable def stack_Stack_Downv1 (n734 : Int) (n735 : Int) (n736 : Int) (n737 : Int) (n738 : Int) (n739 : Int) (n740 : Int) (n741 : Int) (b742 : Bool) (ns743 : List Int) (k1 : Bool → Int → Int → Int → Int → Int → Int → Int → Bool → (List Int) → Option Bool) : Option Bool := stack_Stack_Downv1.body stack_Stack_SPv1 stack_Stack_Segv1 stack_Stack_mayv1 n734 n735 n736 n737 n738 n739 n740 n741 b742 ns743 k1
noncomputable def stack_Stack_Downv1.get (F : Int → Int → Int → Int → Int → Int → Int → Int → Bool → (List Int) → (Bool → Int → Int → Int → Int → Int → Int → Int → Bool → (List Int) → Option Bool) → Option Bool) (e : Option Bool) (g : FuncId) (a : List AV) (h : Heap) (k : KR) : Option Bool := match g, a, h with
  | 25, [(.ptr [0, 0] 0 0), (.d ⟨(.int .i64), n734⟩)], [([0, 0], ⟨53, 8, (.mix [(.agg [(.ptr [0, 1] 0 0), (.d ⟨(.int .i64), n735⟩), (.d ⟨(.int .i64), n736⟩), (.d ⟨(.int .i64), n737⟩), (.d ⟨(.int .i64), n738⟩), (.d ⟨(.int .i64), n739⟩), (.d ⟨(.int .i64), n740⟩), (.d ⟨(.int .i64), n741⟩)])])⟩), ([0, 1], ⟨61, 2, (.mix [(.agg [(.ref [0, 2]), (.d ⟨.bool, b742⟩)])])⟩), ([0, 2], ⟨2, 1, (.data (.int .i64) ns743)⟩)] => F n734 n735 n736 n737 n738 n739 n740 n741 b742 ns743 (fun y0 y1 y2 y3 y4 y5 y6 y7 y8 y9 => k (.d ⟨.bool, y0⟩) [([0, 0], ⟨53, 8, (.mix [(.agg [(.ptr [0, 1] 0 0), (.d ⟨(.int .i64), y1⟩), (.d ⟨(.int .i64), y2⟩), (.d ⟨(.int .i64), y3⟩), (.d ⟨(.int .i64), y4⟩), (.d ⟨(.int .i64), y5⟩), (.d ⟨(.int .i64), y6⟩), (.d ⟨(.int .i64), y7⟩)])])⟩), ([0, 1], ⟨61, 2, (.mix [(.agg [(.ref [0, 2]), (.d ⟨.bool, y8⟩)])])⟩), ([0, 2], ⟨2, 1, (.data (.int .i64) y9)⟩)])
  | _, _, _ => e
noncomputable def stack_Stack_Downv1.calls (F0 : Int → Int → Int → Int → Int → Int → Int → Bool → (List Int) → (Int → Int → Int → Int → Int → Int → Int → Int → Bool → (List Int) → Option Bool) → Option Bool) (F1 : Int → Int → Int → Int → Int → Int → Int → Bool → (List Int) → ((Int × Int × Int × Unit) → Int → Int → Int → Int → Int → Int → Int → Bool → (List Int) → Option Bool) → Option Bool) (F2 : Int → Int → Int → Int → Int → Int → Int → Int → Int → Bool → (List Int) → (Bool → Int → Int → Int → Int → Int → Int → Int → Bool → (List Int) → Option Bool) → Option Bool) : RecF := fun g a h k => (stack_Stack_SPv1.get F0 (stack_Stack_Segv1.get F1 (stack_Stack_mayv1.get F2 none g a h k) g a h k) g a h k)
noncomputable def stack_Stack_Downv1.loops : LoopF := fun b => none
set_option maxRecDepth 100000 in
theorem stack_Stack_Downv1.eq (F0 : Int → Int → Int → Int → Int → Int → Int → Bool → (List Int) → (Int → Int → Int → Int → Int → Int → Int → Int → Bool → (List Int) → Option Bool) → Option Bool) (F1 : Int → Int → Int → Int → Int → Int → Int → Bool → (List Int) → ((Int × Int × Int × Unit) → Int → Int → Int → Int → Int → Int → Int → Bool → (List Int) → Option Bool) → Option Bool) (F2 : Int → Int → Int → Int → Int → Int → Int → Int → Int → Bool → (List Int) → (Bool → Int → Int → Int → Int → Int → Int → Int → Bool → (List Int) → Option Bool) → Option Bool) (n734 : Int) (n735 : Int) (n736 : Int) (n737 : Int) (n738 : Int) (n739 : Int) (n740 : Int) (n741 : Int) (b742 : Bool) (ns743 : List Int) (k : KR) : execL Try.prog ht 25 (callfOf (stack_Stack_Downv1.calls F0 F1 F2)) (stack_Stack_Downv1.loops) 0 (codeOf Try.f25) ⟨[(.ptr [0, 0] 0 0), (.d ⟨(.int .i64), n734⟩)] ++ List.replicate (Try.f25.ntmps - ([(.ptr [0, 0] 0 0), (.d ⟨(.int .i64), n734⟩)] : List AV).length) .undef, [([0, 0], ⟨53, 8, (.mix [(.agg [(.ptr [0, 1] 0 0), (.d ⟨(.int .i64), n735⟩), (.d ⟨(.int .i64), n736⟩), (.d ⟨(.int .i64), n737⟩), (.d ⟨(.int .i64), n738⟩), (.d ⟨(.int .i64), n739⟩), (.d ⟨(.int .i64), n740⟩), (.d ⟨(.int .i64), n741⟩)])])⟩), ([0, 1], ⟨61, 2, (.mix [(.agg [(.ref [0, 2]), (.d ⟨.bool, b742⟩)])])⟩), ([0, 2], ⟨2, 1, (.data (.int .i64) ns743)⟩)], 2⟩ (leave Try.prog Try.f25 k) = stack_Stack_Downv1.body F0 F1 F2 n734 n735 n736 n737 n738 n739 n740 n741 b742 ns743 (fun y0 y1 y2 y3 y4 y5 y6 y7 y8 y9 => k (.d ⟨.bool, y0⟩) [([0, 0], ⟨53, 8, (.mix [(.agg [(.ptr [0, 1] 0 0), (.d ⟨(.int .i64), y1⟩), (.d ⟨(.int .i64), y2⟩), (.d ⟨(.int .i64), y3⟩), (.d ⟨(.int .i64), y4⟩), (.d ⟨(.int .i64), y5⟩), (.d ⟨(.int .i64), y6⟩), (.d ⟨(.int .i64), y7⟩)])])⟩), ([0, 1], ⟨61, 2, (.mix [(.agg [(.ref [0, 2]), (.d ⟨.bool, y8⟩)])])⟩), ([0, 2], ⟨2, 1, (.data (.int .i64) y9)⟩)]) := by kernel_rfl
theorem stack_Stack_Downv1.ok (d : Nat) (hd : 3 ≤ d) (n734 : Int) (n735 : Int) (n736 : Int) (n737 : Int) (n738 : Int) (n739 : Int) (n740 : Int) (n741 : Int) (b742 : Bool) (ns743 : List Int) (k : KR) (hx : stack_Stack_Downv1 n734 n735 n736 n737 n738 n739 n740 n741 b742 ns743 (fun y0 y1 y2 y3 y4 y5 y6 y7 y8 y9 => k (.d ⟨.bool, y0⟩) [([0, 0], ⟨53, 8, (.mix [(.agg [(.ptr [0, 1] 0 0), (.d ⟨(.int .i64), y1⟩), (.d ⟨(.int .i64), y2⟩), (.d ⟨(.int .i64), y3⟩), (.d ⟨(.int .i64), y4⟩), (.d ⟨(.int .i64), y5⟩), (.d ⟨(.int .i64), y6⟩), (.d ⟨(.int .i64), y7⟩)])])⟩), ([0, 1], ⟨61, 2, (.mix [(.agg [(.ref [0, 2]), (.d ⟨.bool, y8⟩)])])⟩), ([0, 2], ⟨2, 1, (.data (.int .i64) y9)⟩)]) = some true) : callK Try.prog ht d 25 [(.ptr [0, 0] 0 0), (.d ⟨(.int .i64), n734⟩)] [([0, 0], ⟨53, 8, (.mix [(.agg [(.ptr [0, 1] 0 0), (.d ⟨(.int .i64), n735⟩), (.d ⟨(.int .i64), n736⟩), (.d ⟨(.int .i64), n737⟩), (.d ⟨(.int .i64), n738⟩), (.d ⟨(.int .i64), n739⟩), (.d ⟨(.int .i64), n740⟩), (.d ⟨(.int .i64), n741⟩)])])⟩), ([0, 1], ⟨61, 2, (.mix [(.agg [(.ref [0, 2]), (.d ⟨.bool, b742⟩)])])⟩), ([0, 2], ⟨2, 1, (.data (.int .i64) ns743)⟩)] k = some true := by
  obtain ⟨d, rfl⟩ : ∃ e, d = e + 1 := ⟨d - 1, by omega⟩
  exact fn_ok (c := codeOf Try.f25) Try.func25 (by kernel_rfl) (rec := stack_Stack_Downv1.calls stack_Stack_SPv1 stack_Stack_Segv1 stack_Stack_mayv1) (fun g a h k hx => by
    rcases stack_Stack_SPv1.look d (by omega) hx with hx | hx
    rotate_left
    · exact hx
    rcases stack_Stack_Segv1.look d (by omega) hx with hx | hx
    rotate_left
    · exact hx
    rcases stack_Stack_mayv1.look d (by omega) hx with hx | hx
    rotate_left
    · exact hx
    cases hx) (loopf := stack_Stack_Downv1.loops) (by
    have e : loopsOf (stack_Stack_Downv1.loops) 0 (codeOf Try.f25) = [] := by kernel_rfl
    rw [e]
    intro p hp
    cases hp) ((stack_Stack_Downv1.eq stack_Stack_SPv1 stack_Stack_Segv1 stack_Stack_mayv1 n734 n735 n736 n737 n738 n739 n740 n741 b742 ns743 k).trans hx)
theorem stack_Stack_Downv1.look (d : Nat) (hd : 3 ≤ d) {e : Option Bool} {g : FuncId} {a : List AV} {h : Heap} {k : KR} (hx : stack_Stack_Downv1.get stack_Stack_Downv1 e g a h k = some true) : e = some true ∨ callK Try.prog ht d g a h k = some true := by
  unfold stack_Stack_Downv1.get at hx
  split at hx
  · exact .inr (stack_Stack_Downv1.ok d hd _ _ _ _ _ _ _ _ _ _ _ hx)
  · exact .inl hx
/-- function 26: (*sheerleg/stack.Stack).Up -/
noncomputable def stack_Stack_Upv1.body (stack_Stack_Idv1 : Int → Int → Int → Int → Int → Int → Int → Bool → (List Int) → (Int → Int → Int → Int → Int → Int → Int → Int → Bool → (List Int) → Option Bool) → Option Bool) (stack_Stack_mayv1 : Int → Int → Int → Int → Int → Int → Int → Int → Int → Bool → (List Int) → (Bool → Int → Int → Int → Int → Int → Int → Int → Bool → (List Int) → Option Bool) → Option Bool) (n807 : Int) (n808 : Int) (n809 : Int) (n810 : Int) (n811 : Int) (n812 : Int) (n813 : Int) (n814 : Int) (b815 : Bool) (ns816 : List Int) (k1 : Bool → Int → Int → Int → Int → Int → Int → Int → Bool → (List Int) → Option Bool) : Option Bool :=
  (stack_Stack_Idv1 n808 n809 n810 n811 n812 n813 n814 b815 ns816
  (fun n817 n818 n819 n820 n821 n822 n823 n824 b825 ns826 => (stack_Stack_mayv1 n807 n817 n818 n819 n820 n821 n822 n823 n824 b825 ns826
  (fun b827 n828 n829 n830 n831 n832 n833 n834 b835 ns836 => (cond_ (! b827) (k1 false n828 n829 n830 n831 n832 n833 n834 b835 ns836) (k1 true n828 n829 n830 (IntKind.wrap .i64 (n831 + n807)) n832 n833 n834 b835 ns836))))))
noncomputable def stack_Stack_Upv1 (n807 : Int) (n808 : Int) (n809 : Int) (n810 : Int) (n811 : Int) (n812 : Int) (n813 : Int) (n814 : Int) (b815 : Bool) (ns816 : List Int) (k1 : Bool → Int → Int → Int → Int → Int → Int → Int → Bool → (List Int) → Option Bool) : Option Bool := stack_Stack_Upv1.body stack_Stack_Idv1 stack_Stack_mayv1 n807 n808 n809 n810 n811 n812 n813 n814 b815 ns816 k1
noncomputable def stack_Stack_Upv1.get (F : Int → Int → Int → Int → Int → Int → Int → Int → Bool → (List Int) → (Bool → Int → Int → Int → Int → Int → Int → Int → Bool → (List Int) → Option Bool) → Option Bool) (e : Option Bool) (g : FuncId) (a : List AV) (h : Heap) (k : KR) : Option Bool := match g, a, h with
  | 26, [(.ptr [0, 0] 0 0), (.d ⟨(.int .i64), n807⟩)], [([0, 0], ⟨53, 8, (.mix [(.agg [(.ptr [0, 1] 0 0), (.d ⟨(.int .i64), n808⟩), (.d ⟨(.int .i64), n809⟩), (.d ⟨(.int .i64), n810⟩), (.d ⟨(.int .i64), n811⟩), (.d ⟨(.int .i64), n812⟩), (.d ⟨(.int .i64), n813⟩), (.d ⟨(.int .i64), n814⟩)])])⟩), ([0, 1], ⟨61, 2, (.mix [(.agg [(.ref [0, 2]), (.d ⟨.bool, b815⟩)])])⟩), ([0, 2], ⟨2, 1, (.data (.int .i64) ns816)⟩)] => F n807 n808 n809 n810 n811 n812 n813 n814 b815 ns816 (fun y0 y1 y2 y3 y4 y5 y6 y7 y8 y9 => k (.d ⟨.bool, y0⟩) [([0, 0], ⟨53, 8, (.mix [(.agg [(.ptr [0, 1] 0 0), (.d ⟨(.int .i64), y1⟩), (.d ⟨(.int .i64), y2⟩), (.d ⟨(.int .i64), y3⟩), (.d ⟨(.int .i64), y4⟩), (.d ⟨(.int .i64), y5⟩), (.d ⟨(.int .i64), y6⟩), (.d ⟨(.int .i64), y7⟩)])])⟩), ([0, 1], ⟨61, 2, (.mix [(.agg [(.ref [0, 2]), (.d ⟨.bool, y8⟩)])])⟩), ([0, 2], ⟨2, 1, (.data (.int .i64) y9)⟩)])
  | _, _, _ => e
noncomputable def stack_Stack_Upv1.calls (F0 : Int → Int → Int → Int → Int → Int → Int → Bool → (List Int) → (Int → Int → Int → Int → Int → Int → Int → Int → Bool → (List Int) → Option Bool) → Option Bool) (F1 : Int → Int → Int → Int → Int → Int → Int → Int → Int → Bool → (List Int) → (Bool → Int → Int → Int → Int → Int → Int → Int → Bool → (List Int) → Option Bool) → Option Bool) : RecF := fun g a h k => (stack_Stack_Idv1.get F0 (stack_Stack_mayv1.get F1 none g a h k) g a h k)
noncomputable def stack_Stack_Upv1.loops : LoopF := fun b => none
set_option maxRecDepth 100000 in
theorem stack_Stack_Upv1.eq (F0 : Int → Int → Int → Int → Int → Int → Int → Bool → (List Int) → (Int → Int → Int → Int → Int → Int → Int → Int → Bool → (List Int) → Option Bool) → Option Bool) (F1 : Int → Int → Int → Int → Int → Int → Int → Int → Int → Bool → (List Int) → (Bool → Int → Int → Int → Int → Int → Int → Int → Bool → (List Int) → Option Bool) → Option Bool) (n807 : Int) (n808 : Int) (n809 : Int) (n810 : Int) (n811 : Int) (n812 : Int) (n813 : Int) (n814 : Int) (b815 : Bool) (ns816 : List Int) (k : KR) : execL Try.prog ht 26 (callfOf (stack_Stack_Upv1.calls F0 F1)) (stack_Stack_Upv1.loops) 0 (codeOf Try.f26) ⟨[(.ptr [0, 0] 0 0), (.d ⟨(.int .i64), n807⟩)] ++ List.replicate (Try.f26.ntmps - ([(.ptr [0, 0] 0 0), (.d ⟨(.int .i64), n807⟩)] : List AV).length) .undef, [([0, 0], ⟨53, 8, (.mix [(.agg [(.ptr [0, 1] 0 0), (.d ⟨(.int .i64), n808⟩), (.d ⟨(.int .i64), n809⟩), (.d ⟨(.int .i64), n810⟩), (.d ⟨(.int .i64), n811⟩), (.d ⟨(.int .i64), n812⟩), (.d ⟨(.int .i64), n813⟩), (.d ⟨(.int .i64), n814⟩)])])⟩), ([0, 1], ⟨61, 2, (.mix [(.agg [(.ref [0, 2]), (.d ⟨.bool, b815⟩)])])⟩), ([0, 2], ⟨2, 1, (.data (.int .i64) ns816)⟩)], 2⟩ (leave Try.prog Try.f26 k) = stack_Stack_Upv1.body F0 F1 n807 n808 n809 n810 n811 n812 n813 n814 b815 ns816 (fun y0 y1 y2 y3 y4 y5 y6 y7 y8 y9 => k (.d ⟨.bool, y0⟩) [([0, 0], ⟨53, 8, (.mix [(.agg [(.ptr [0, 1] 0 0), (.d ⟨(.int .i64), y1⟩), (.d ⟨(.int .i64), y2⟩), (.d ⟨(.int .i64), y3⟩), (.d ⟨(.int .i64), y4⟩), (.d ⟨(.int .i64), y5⟩), (.d ⟨(.int .i64), y6⟩), (.d ⟨(.int .i64), y7⟩)])])⟩), ([0, 1], ⟨61, 2, (.mix [(.agg [(.ref [0, 2]), (.d ⟨.bool, y8⟩)])])⟩), ([0, 2], ⟨2, 1, (.data (.int .i64) y9)⟩)]) := by kernel_rfl
theorem stack_Stack_Upv1.ok (d : Nat) (hd : 4 ≤ d) (n807 : Int) (n808 : Int) (n809 : Int) (n810 : Int) (n811 : Int) (n812 : Int) (n813 : Int) (n814 : Int) (b815 : Bool) (ns816 : List Int) (k : KR) (hx : stack_Stack_Upv1 n807 n808 n809 n810 n811 n812 n813 n814 b815 ns816 (fun y0 y1 y2 y3 y4 y5 y6 y7 y8 y9 => k (.d ⟨.bool, y0⟩) [([0, 0], ⟨53, 8, (.mix [(.agg [(.ptr [0, 1] 0 0), (.d ⟨(.int .i64), y1⟩), (.d ⟨(.int .i64), y2⟩), (.d ⟨(.int .i64), y3⟩), (.d ⟨(.int .i64), y4⟩), (.d ⟨(.int .i64), y5⟩), (.d ⟨(.int .i64), y6⟩), (.d ⟨(.int .i64), y7⟩)])])⟩), ([0, 1], ⟨61, 2, (.mix [(.agg [(.ref [0, 2]), (.d ⟨.bool, y8⟩)])])⟩), ([0, 2], ⟨2, 1, (.data (.int .i64) y9)⟩)]) = some true) : callK Try.prog ht d 26 [(.ptr [0, 0] 0 0), (.d ⟨(.int .i64), n807⟩)] [([0, 0], ⟨53, 8, (.mix [(.agg [(.ptr [0, 1] 0 0), (.d ⟨(.int .i64), n808⟩), (.d ⟨(.int .i64), n809⟩), (.d ⟨(.int .i64), n810⟩), (.d ⟨(.int .i64), n811⟩), (.d ⟨(.int .i64), n812⟩), (.d ⟨(.int .i64), n813⟩), (.d ⟨(.int .i64), n814⟩)])])⟩), ([0, 1], ⟨61, 2, (.mix [(.agg [(.ref [0, 2]), (.d ⟨.bool, b815⟩)])])⟩), ([0, 2], ⟨2, 1, (.data (.int .i64) ns816)⟩)] k = some true := by
  obtain ⟨d, rfl⟩ : ∃ e, d = e + 1 := ⟨d - 1, by omega⟩
  exact fn_ok (c := codeOf Try.f26) Try.func26 (by kernel_rfl) (rec := stack_Stack_Upv1.calls stack_Stack_Idv1 stack_Stack_mayv1) (fun g a h k hx => by
    rcases stack_Stack_Idv1.look d (by omega) hx with hx | hx
    rotate_left
    · exact hx
    rcases stack_Stack_mayv1.look d (by omega) hx with hx | hx
    rotate_left
    · exact hx
    cases hx) (loopf := stack_Stack_Upv1.loops) (by
    have e : loopsOf (stack_Stack_Upv1.loops) 0 (codeOf Try.f26) = [] := by kernel_rfl
    rw [e]
    intro p hp
    cases hp) ((stack_Stack_Upv1.eq stack_Stack_Idv1 stack_Stack_mayv1 n807 n808 n809 n810 n811 n812 n813 n814 b815 ns816 k).trans hx)
theorem stack_Stack_Upv1.look (d : Nat) (hd : 4 ≤ d) {e : Option Bool} {g : FuncId} {a : List AV} {h : Heap} {k : KR} (hx : stack_Stack_Upv1.get stack_Stack_Upv1 e g a h k = some true) : e = some true ∨ callK Try.prog ht d g a h k = some true := by
  unfold stack_Stack_Upv1.get at hx
  split at hx
  · exact .inr (stack_Stack_Upv1.ok d hd _ _ _ _ _ _ _ _ _ _ _ hx)
  · exact .inl hx
/-- function 24: (*sheerleg/stack.Stack).Set -/
noncomputable def stack_Stack_Setv1.body (stack_Stack_hasv1 : Int → Int → Int → Int → Int → Int → Int → Int → Bool → (List Int) → (Bool → Int → Int → Int → Int → Int → Int → Int → Bool → (List Int) → Option Bool) → Option Bool) (stack_Stack_writev1 : Int → Int → Int → Int → Int → Int → Int → Int → Int → Bool → (List Int) → (Bool → Int → Int → Int → Int → Int → Int → Int → Bool → (List Int) → Option Bool) → Option Bool) (n862 : Int) (n863 : Int) (n864 : Int) (n865 : Int) (n866 : Int) (n867 : Int) (n868 : Int) (n869 : Int) (n870 : Int) (b871 : Bool) (ns872 : List Int) (k1 : Bool → Int → Int → Int → Int → Int → Int → Int → Bool → (List Int) → Option Bool) : Option Bool :=
  (stack_Stack_hasv1 n862 n864 n865 n866 n867 n868 n869 n870 b871 ns872
  (fun b873 n874 n875 n876 n877 n878 n879 n880 b881 ns882 => (cond_ b873 (stack_Stack_writev1 (IntKind.wrap .i64 (n877 + n862)) n863 n874 n875 n876 n877 n878 n879 n880 b881 ns882
  (fun b883 n884 n885 n886 n887 n888 n889 n890 b891 ns892 => (k1 b883 n884 n885 n886 n887 n888 n889 n890 b891 ns892))) (k1 false n874 n875 n876 n877 n878 n879 n880 b881 ns882))))
noncomputable def stack_Stack_Setv1 (n862 : Int) (n863 : Int) (n864 : Int) (n865 : Int) (n866 : Int) (n867 : Int) (n868 : Int) (n869 : Int) (n870 : Int) (b871 : Bool) (ns872 : List Int) (k1 : Bool → Int → Int → Int → Int → Int → Int → Int → Bool → (List Int) → Option Bool) : Option Bool := stack_Stack_Setv1.body stack_Stack_hasv1 stack_Stack_writev1 n862 n863 n864 n865 n866 n867 n868 n869 n870 b871 ns872 k1
noncomputable def stack_Stack_Setv1.get (F : Int → Int → Int → Int → Int → Int → Int → Int → Int → Bool → (List Int) → (Bool → Int → Int → Int → Int → Int → Int → Int → Bool → (List Int) → Option Bool) → Option Bool) (e : Option Bool) (g : FuncId) (a : List AV) (h : Heap) (k : KR) : Option Bool := match g, a, h with
  | 24, [(.ptr [0, 0] 0 0), (.d ⟨(.int .i64), n862⟩), (.d ⟨(.int .i64), n863⟩)], [([0, 0], ⟨53, 8, (.mix [(.agg [(.ptr [0, 1] 0 0), (.d ⟨(.int .i64), n864⟩), (.d ⟨(.int .i64), n865⟩), (.d ⟨(.int .i64), n866⟩), (.d ⟨(.int .i64), n867⟩), (.d ⟨(.int .i64), n868⟩), (.d ⟨(.int .i64), n869⟩), (.d ⟨(.int .i64), n870⟩)])])⟩), ([0, 1], ⟨61, 2, (.mix [(.agg [(.ref [0, 2]), (.d ⟨.bool, b871⟩)])])⟩), ([0, 2], ⟨2, 1, (.data (.int .i64) ns872)⟩)] => F n862 n863 n864 n865 n866 n867 n868 n869 n870 b871 ns872 (fun y0 y1 y2 y3 y4 y5 y6 y7 y8 y9 => k (.d ⟨.bool, y0⟩) [([0, 0], ⟨53, 8, (.mix [(.agg [(.ptr [0, 1] 0 0), (.d ⟨(.int .i64), y1⟩), (.d ⟨(.int .i64), y2⟩), (.d ⟨(.int .i64), y3⟩), (.d ⟨(.int .i64), y4⟩), (.d ⟨(.int .i64), y5⟩), (.d ⟨(.int .i64), y6⟩), (.d ⟨(.int .i64), y7⟩)])])⟩), ([0, 1], ⟨61, 2, (.mix [(.agg [(.ref [0, 2]), (.d ⟨.bool, y8⟩)])])⟩), ([0, 2], ⟨2, 1, (.data (.int .i64) y9)⟩)])
  | _, _, _ => e
noncomputable def stack_Stack_Setv1.calls (F0 : Int → Int → Int → Int → Int → Int → Int → Int → Bool → (List Int) → (Bool → Int → Int → Int → Int → Int → Int → Int → Bool → (List Int) → Option Bool) → Option Bool) (F1 : Int → Int → Int → Int → Int → Int → Int → Int → Int → Bool → (List Int) → (Bool → Int → Int → Int → Int → Int → Int → Int → Bool → (List Int) → Option Bool) → Option Bool) : RecF := fun g a h k => (stack_Stack_hasv1.get F0 (stack_Stack_writev1.get F1 none g a h k) g a h k)
noncomputable def stack_Stack_Setv1.loops : LoopF := fun b => none
set_option maxRecDepth 100000 in
theorem stack_Stack_Setv1.eq (F0 : Int → Int → Int → Int → Int → Int → Int → Int → Bool → (List Int) → (Bool → Int → Int → Int → Int → Int → Int → Int → Bool → (List Int) → Option Bool) → Option Bool) (F1 : Int → Int → Int → Int → Int → Int → Int → Int → Int → Bool → (List Int) → (Bool → Int → Int → Int → Int → Int → Int → Int → Bool → (List Int) → Option Bool) → Option Bool) (n862 : Int) (n863 : Int) (n864 : Int) (n865 : Int) (n866 : Int) (n867 : Int) (n868 : Int) (n869 : Int) (n870 : Int) (b871 : Bool) (ns872 : List Int) (k : KR) : execL Try.prog ht 24 (callfOf (stack_Stack_Setv1.calls F0 F1)) (stack_Stack_Setv1.loops) 0 (codeOf Try.f24) ⟨[(.ptr [0, 0] 0 0), (.d ⟨(.int .i64), n862⟩), (.d ⟨(.int .i64), n863⟩)] ++ List.replicate (Try.f24.ntmps - ([(.ptr [0, 0] 0 0), (.d ⟨(.int .i64), n862⟩), (.d ⟨(.int .i64), n863⟩)] : List AV).length) .undef, [([0, 0], ⟨53, 8, (.mix [(.agg [(.ptr [0, 1] 0 0), (.d ⟨(.int .i64), n864⟩), (.d ⟨(.int .i64), n865⟩), (.d ⟨(.int .i64), n866⟩), (.d ⟨(.int .i64), n867⟩), (.d ⟨(.int .i64), n868⟩), (.d ⟨(.int .i64), n869⟩), (.d ⟨(.int .i64), n870⟩)])])⟩), ([0, 1], ⟨61, 2, (.mix [(.agg [(.ref [0, 2]), (.d ⟨.bool, b871⟩)])])⟩), ([0, 2], ⟨2, 1, (.data (.int .i64) ns872)⟩)], 2⟩ (leave Try.prog Try.f24 k) = stack_Stack_Setv1.body F0 F1 n862 n863 n864 n865 n866 n867 n868 n869 n870 b871 ns872 (fun y0 y1 y2 y3 y4 y5 y6 y7 y8 y9 => k (.d ⟨.bool, y0⟩) [([0, 0], ⟨53, 8, (.mix [(.agg [(.ptr [0, 1] 0 0), (.d ⟨(.int .i64), y1⟩), (.d ⟨(.int .i64), y2⟩), (.d ⟨(.int .i64), y3⟩), (.d ⟨(.int .i64), y4⟩), (.d ⟨(.int .i64), y5⟩), (.d ⟨(.int .i64), y6⟩), (.d ⟨(.int .i64), y7⟩)])])⟩), ([0, 1], ⟨61, 2, (.mix [(.agg [(.ref [0, 2]), (.d ⟨.bool, y8⟩)])])⟩), ([0, 2], ⟨2, 1, (.data (.int .i64) y9)⟩)]) := by kernel_rfl
theorem stack_Stack_Setv1.ok (d : Nat) (hd : 5 ≤ d) (n862 : Int) (n863 : Int) (n864 : Int) (n865 : Int) (n866 : Int) (n867 : Int) (n868 : Int) (n869 : Int) (n870 : Int) (b871 : Bool) (ns872 : List Int) (k : KR) (hx : stack_Stack_Setv1 n862 n863 n864 n865 n866 n867 n868 n869 n870 b871 ns872 (fun y0 y1 y2 y3 y4 y5 y6 y7 y8 y9 => k (.d ⟨.bool, y0⟩) [([0, 0], ⟨53, 8, (.mix [(.agg [(.ptr [0, 1] 0 0), (.d ⟨(.int .i64), y1⟩), (.d ⟨(.int .i64), y2⟩), (.d ⟨(.int .i64), y3⟩), (.d ⟨(.int .i64), y4⟩), (.d ⟨(.int .i64), y5⟩), (.d ⟨(.int .i64), y6⟩), (.d ⟨(.int .i64), y7⟩)])])⟩), ([0, 1], ⟨61, 2, (.mix [(.agg [(.ref [0, 2]), (.d ⟨.bool, y8⟩)])])⟩), ([0, 2], ⟨2, 1, (.data (.int .i64) y9)⟩)]) = some true) : callK Try.prog ht d 24 [(.ptr [0, 0] 0 0), (.d ⟨(.int .i64), n862⟩), (.d ⟨(.int .i64), n863⟩)] [([0, 0], ⟨53, 8, (.mix [(.agg [(.ptr [0, 1] 0 0), (.d ⟨(.int .i64), n864⟩), (.d ⟨(.int .i64), n865⟩), (.d ⟨(.int .i64), n866⟩), (.d ⟨(.int .i64), n867⟩), (.d ⟨(.int .i64), n868⟩), (.d ⟨(.int .i64), n869⟩), (.d ⟨(.int .i64), n870⟩)])])⟩), ([0, 1], ⟨61, 2, (.mix [(.agg [(.ref [0, 2]), (.d ⟨.bool, b871⟩)])])⟩), ([0, 2], ⟨2, 1, (.data (.int .i64) ns872)⟩)] k = some true := by
  obtain ⟨d, rfl⟩ : ∃ e, d = e + 1 := ⟨d - 1, by omega⟩
  exact fn_ok (c := codeOf Try.f24) Try.func24 (by kernel_rfl) (rec := stack_Stack_Setv1.calls stack_Stack_hasv1 stack_Stack_writev1) (fun g a h k hx => by
    rcases stack_Stack_hasv1.look d (by omega) hx with hx | hx
    rotate_left
    · exact hx
    rcases stack_Stack_writev1.look d (by omega) hx with hx | hx
    rotate_left
    · exact hx
    cases hx) (loopf := stack_Stack_Setv1.loops) (by
    have e : loopsOf (stack_Stack_Setv1.loops) 0 (codeOf Try.f24) = [] := by kernel_rfl
    rw [e]
    intro p hp
    cases hp) ((stack_Stack_Setv1.eq stack_Stack_hasv1 stack_Stack_writev1 n862 n863 n864 n865 n866 n867 n868 n869 n870 b871 ns872 k).trans hx)
theorem stack_Stack_Setv1.look (d : Nat) (hd : 5 ≤ d) {e : Option Bool} {g : FuncId} {a : List AV} {h : Heap} {k : KR} (hx : stack_Stack_Setv1.get stack_Stack_Setv1 e g a h k = some true) : e = some true ∨ callK Try.prog ht d g a h k = some true := by
  unfold stack_Stack_Setv1.get at hx
  split at hx
  · exact .inr (stack_Stack_Setv1.ok d hd _ _ _ _ _ _ _ _ _ _ _ _ hx)
  · exact .inl hx
/-- function 27: (*sheerleg/stack.Stack).Spill -/
noncomputable def stack_Stack_Spillv1.body (stack_Stack_aheadv1 : Int → Int → Int → Int → Int → Int → Int → Int → Bool → (List Int) → (Bool → Int → Int → Int → Int → Int → Int → Int → Bool → (List Int) → Option Bool) → Option Bool) (n905 : Int) (n906 : Int) (n907 : Int) (n908 : Int) (n909 : Int) (n910 : Int) (n911 : Int) (b912 : Bool) (ns913 : List Int) (k1 : Bool → Int → Int → Int → Int → Int → Int → Int → Bool → (List Int) → Option Bool) : Option Bool :=
  (stack_Stack_aheadv1 (0 : Int) n905 n906 n907 n908 n909 n910 n911 b912 ns913
  (fun b914 n915 n916 n917 n918 n919 n920 n921 b922 ns923 => (k1 b914 n915 n916 n917 n918 n919 n920 n921 b922 ns923)))
noncomputable def stack_Stack_Spillv1 (n905 : Int) (n906 : Int) (n907 : Int) (n908 : Int) (n909 : Int) (n910 : Int) (n911 : Int) (b912 : Bool) (ns913 : List Int) (k1 : Bool → Int → Int → Int → Int → Int → Int → Int → Bool → (List Int) → Option Bool) : Option Bool := stack_Stack_Spillv1.body stack_Stack_aheadv1 n905 n906 n907 n908 n909 n910 n911 b912 ns913 k1
noncomputable def stack_Stack_Spillv1.get (F : Int → Int → Int → Int → Int → Int → Int → Bool → (List Int) → (Bool → Int → Int → Int → Int → Int → Int → Int → Bool → (List Int) → Option Bool) → Option Bool) (e : Option Bool) (g : FuncId) (a : List AV) (h : Heap) (k : KR) : Option Bool := match g, a, h with
  | 27, [(.ptr [0, 0] 0 0)], [([0, 0], ⟨53, 8, (.mix [(.agg [(.ptr [0, 1] 0 0), (.d ⟨(.int .i64), n905⟩), (.d ⟨(.int .i64), n906⟩), (.d ⟨(.int .i64), n907⟩), (.d ⟨(.int .i64), n908⟩), (.d ⟨(.int .i64), n909⟩), (.d ⟨(.int .i64), n910⟩), (.d ⟨(.int .i64), n911⟩)])])⟩), ([0, 1], ⟨61, 2, (.mix [(.agg [(.ref [0, 2]), (.d ⟨.bool, b912⟩)])])⟩), ([0, 2], ⟨2, 1, (.data (.int .i64) ns913)⟩)] => F n905 n906 n907 n908 n909 n910 n911 b912 ns913 (fun y0 y1 y2 y3 y4 y5 y6 y7 y8 y9 => k (.d ⟨.bool, y0⟩) [([0, 0], ⟨53, 8, (.mix [(.agg [(.ptr [0, 1] 0 0), (.d ⟨(.int .i64), y1⟩), (.d ⟨(.int .i64), y2⟩), (.d ⟨(.int .i64), y3⟩), (.d ⟨(.int .i64), y4⟩), (.d ⟨(.int .i64), y5⟩), (.d ⟨(.int .i64), y6⟩), (.d ⟨(.int .i64), y7⟩)])])⟩), ([0, 1], ⟨61, 2, (.mix [(.agg [(.ref [0, 2]), (.d ⟨.bool, y8⟩)])])⟩), ([0, 2], ⟨2, 1, (.data (.int .i64) y9)⟩)])
  | _, _, _ => e
noncomputable def stack_Stack_Spillv1.calls (F0 : Int → Int → Int → Int → Int → Int → Int → Int → Bool → (List Int) → (Bool → Int → Int → Int → Int → Int → Int → Int → Bool → (List Int) → Option Bool) → Option Bool) : RecF := fun g a h k => (stack_Stack_aheadv1.get F0 none g a h k)
noncomputable def stack_Stack_Spillv1.loops : LoopF := fun b => none
set_option maxRecDepth 100000 in
theorem stack_Stack_Spillv1.eq (F0 : Int → Int → Int → Int → Int → Int → Int → Int → Bool → (List Int) → (Bool → Int → Int → Int → Int → Int → Int → Int → Bool → (List Int) → Option Bool) → Option Bool) (n905 : Int) (n906 : Int) (n907 : Int) (n908 : Int) (n909 : Int) (n910 : Int) (n911 : Int) (b912 : Bool) (ns913 : List Int) (k : KR) : execL Try.prog ht 27 (callfOf (stack_Stack_Spillv1.calls F0)) (stack_Stack_Spillv1.loops) 0 (codeOf Try.f27) ⟨[(.ptr [0, 0] 0 0)] ++ List.replicate (Try.f27.ntmps - ([(.ptr [0, 0] 0 0)] : List AV).length) .undef, [([0, 0], ⟨53, 8, (.mix [(.agg [(.ptr [0, 1] 0 0), (.d ⟨(.int .i64), n905⟩), (.d ⟨(.int .i64), n906⟩), (.d ⟨(.int .i64), n907⟩), (.d ⟨(.int .i64), n908⟩), (.d ⟨(.int .i64), n909⟩), (.d ⟨(.int .i64), n910⟩), (.d ⟨(.int .i64), n911⟩)])])⟩), ([0, 1], ⟨61, 2, (.mix [(.agg [(.ref [0, 2]), (.d ⟨.bool, b912⟩)])])⟩), ([0, 2], ⟨2, 1, (.data (.int .i64) ns913)⟩)], 2⟩ (leave Try.prog Try.f27 k) = stack_Stack_Spillv1.body F0 n905 n906 n907 n908 n909 n910 n911 b912 ns913 (fun y0 y1 y2 y3 y4 y5 y6 y7 y8 y9 => k (.d ⟨.bool, y0⟩) [([0, 0], ⟨53, 8, (.mix [(.agg [(.ptr [0, 1] 0 0), (.d ⟨(.int .i64), y1⟩), (.d ⟨(.int .i64), y2⟩), (.d ⟨(.int .i64), y3⟩), (.d ⟨(.int .i64), y4⟩), (.d ⟨(.int .i64), y5⟩), (.d ⟨(.int .i64), y6⟩), (.d ⟨(.int .i64), y7⟩)])])⟩), ([0, 1], ⟨61, 2, (.mix [(.agg [(.ref [0, 2]), (.d ⟨.bool, y8⟩)])])⟩), ([0, 2], ⟨2, 1, (.data (.int .i64) y9)⟩)]) := by kernel_rfl
theorem stack_Stack_Spillv1.ok (d : Nat) (hd : 6 ≤ d) (n905 : Int) (n906 : Int) (n907 : Int) (n908 : Int) (n909 : Int) (n910 : Int) (n911 : Int) (b912 : Bool) (ns913 : List Int) (k : KR) (hx : stack_Stack_Spillv1 n905 n906 n907 n908 n909 n910 n911 b912 ns913 (fun y0 y1 y2 y3 y4 y5 y6 y7 y8 y9 => k (.d ⟨.bool, y0⟩) [([0, 0], ⟨53, 8, (.mix [(.agg [(.ptr [0, 1] 0 0), (.d ⟨(.int .i64), y1⟩), (.d ⟨(.int .i64), y2⟩), (.d ⟨(.int .i64), y3⟩), (.d ⟨(.int .i64), y4⟩), (.d ⟨(.int .i64), y5⟩), (.d ⟨(.int .i64), y6⟩), (.d ⟨(.int .i64), y7⟩)])])⟩), ([0, 1], ⟨61, 2, (.mix [(.agg [(.ref [0, 2]), (.d ⟨.bool, y8⟩)])])⟩), ([0, 2], ⟨2, 1, (.data (.int .i64) y9)⟩)]) = some true) : callK Try.prog ht d 27 [(.ptr [0, 0] 0 0)] [([0, 0], ⟨53, 8, (.mix [(.agg [(.ptr [0, 1] 0 0), (.d ⟨(.int .i64), n905⟩), (.d ⟨(.int .i64), n906⟩), (.d ⟨(.int .i64), n907⟩), (.d ⟨(.int .i64), n908⟩), (.d ⟨(.int .i64), n909⟩), (.d ⟨(.int .i64), n910⟩), (.d ⟨(.int .i64), n911⟩)])])⟩), ([0, 1], ⟨61, 2, (.mix [(.agg [(.ref [0, 2]), (.d ⟨.bool, b912⟩)])])⟩), ([0, 2], ⟨2, 1, (.data (.int .i64) ns913)⟩)] k = some true := by
  obtain ⟨d, rfl⟩ : ∃ e, d = e + 1 := ⟨d - 1, by omega⟩
  exact fn_ok (c := codeOf Try.f27) Try.func27 (by kernel_rfl) (rec := stack_Stack_Spillv1.calls stack_Stack_aheadv1) (fun g a h k hx => by
    rcases stack_Stack_aheadv1.look d (by omega) hx with hx | hx
    rotate_left
    · exact hx
    cases hx) (loopf := stack_Stack_Spillv1.loops) (by
    have e : loopsOf (stack_Stack_Spillv1.loops) 0 (codeOf Try.f27) = [] := by kernel_rfl
    rw [e]
    intro p hp
    cases hp) ((stack_Stack_Spillv1.eq stack_Stack_aheadv1 n905 n906 n907 n908 n909 n910 n911 b912 ns913 k).trans hx)
theorem stack_Stack_Spillv1.look (d : Nat) (hd : 6 ≤ d) {e : Option Bool} {g : FuncId} {a : List AV} {h : Heap} {k : KR} (hx : stack_Stack_Spillv1.get stack_Stack_Spillv1 e g a h k = some true) : e = some true ∨ callK Try.prog ht d g a h k = some true := by
  unfold stack_Stack_Spillv1.get at hx
  split at hx
  · exact .inr (stack_Stack_Spillv1.ok d hd _ _ _ _ _ _ _ _ _ _ hx)
  · exact .inl hx
/-- function 35: the loop in block 0 -/
noncomputable def num_Double_L0.body (num_Double_L0 : Int → Int → Int → (Int → Bool → Option Bool) → (Option Bool) → Option Bool) (n969 : Int) (n970 : Int) (n971 : Int) (k1 : Int → Bool → Option Bool) (k2 : Option Bool) : Option Bool :=
  (cond_ (decide (n969 ≤ n971)) (cond_ (decide (n969 ≥ n970)) (k1 n969 true) (cond_ (decide (n969 > (IntKind.wrap .i64 (n971 - n969)))) (k2) (num_Double_L0 (IntKind.wrap .i64 (n969 + n969)) n970 n971 k1 k2))) (k2))
noncomputable def num_Double_L0 : Nat → Int → Int → Int → (Int → Bool → Option Bool) → (Option Bool) → Option Bool
  | 0 => fun _ _ _ _ _ => none
  | n + 1 => num_Double_L0.body (num_Double_L0 n)
noncomputable def num_Double_L0.get (F : Int → Int → Int → (Int → Bool → Option Bool) → (Option Bool) → Option Bool) (e : Option Bool) (st : St) (k : KE) : Option Bool := match st with
  | ⟨sl, hp, m⟩ => match Nat.beq m 2, pickS 25 [0, 1, 2] sl, hp with
    | true, some [(.d ⟨(.int .i64), n969⟩), (.d ⟨(.int .i64), n970⟩), (.d ⟨(.int .i64), n971⟩)], [] => F n969 n970 n971 (fun y0 y1 => k .ret ⟨fillS 25 [6, 7] [(.d ⟨(.int .i64), y0⟩), (.d ⟨.bool, y1⟩)], [], 2⟩) (k (.exit 0) ⟨fillS 25 [] [], [], 2⟩)
    | _, _, _ => e
noncomputable def num_Double_L0.calls : RecF := fun g a h k => none
noncomputable def num_Double_L0.loops : LoopF := fun b => none
set_option maxRecDepth 100000 in
theorem num_Double_L0.step (S : Int → Int → Int → (Int → Bool → Option Bool) → (Option Bool) → Option Bool) (n969 : Int) (n970 : Int) (n971 : Int) (k : KE) : execL Try.prog ht 35 (callfOf (num_Double_L0.calls)) (num_Double_L0.loops) 0 (loopAt 0 (codeOf Try.f35)) ⟨fillS 25 [0, 1, 2] [(.d ⟨(.int .i64), n969⟩), (.d ⟨(.int .i64), n970⟩), (.d ⟨(.int .i64), n971⟩)], [], 2⟩ (again (num_Double_L0.get S none) (plan Try.prog (ht 35 0)) k) = num_Double_L0.body S n969 n970 n971 (fun y0 y1 => k .ret ⟨fillS 25 [6, 7] [(.d ⟨(.int .i64), y0⟩), (.d ⟨.bool, y1⟩)], [], 2⟩) (k (.exit 0) ⟨fillS 25 [] [], [], 2⟩) := by kernel_rfl
theorem num_Double_L0.ok (d : Nat) (hd : 0 ≤ d) : ∀ n st k, num_Double_L0.get (num_Double_L0 n) none st k = some true → iter n (plan Try.prog (ht 35 0)) (fun st k => execK Try.prog ht 35 (callfOf (callK Try.prog ht d)) 0 (loopAt 0 (codeOf Try.f35)) st k) st k = some true :=
  loop_ok (lfn := fun n st k => num_Double_L0.get (num_Double_L0 n) none st k) (rec := num_Double_L0.calls) (fun g a h k hx => by
    cases hx) (loopf := num_Double_L0.loops) (by
    have e : loopsOf (num_Double_L0.loops) 0 (loopAt 0 (codeOf Try.f35)) = [] := by kernel_rfl
    rw [e]
    intro p hp
    cases hp) (fun st k h => by
    obtain ⟨sl, hp, m⟩ := st
    unfold num_Double_L0.get at h
    dsimp only at h
    split at h
    · have h' : (none : Option Bool) = some true := h
      cases h'
    · cases h) (fun n st k h => by
    obtain ⟨sl, hp, m⟩ := st
    unfold num_Double_L0.get at h
    dsimp only at h
    split at h
    · rename_i h1 h2
      obtain rfl := pickS_ok h2
      obtain rfl := Nat.eq_of_beq_eq_true h1
      exact (num_Double_L0.step (num_Double_L0 n) _ _ _ k).trans h
    · cases h)
theorem num_Double_L0.look {F : Int → Int → Int → (Int → Bool → Option Bool) → (Option Bool) → Option Bool} {e : Option Bool} {st : St} {k : KE} (hx : num_Double_L0.get F e st k = some true) : e = some true ∨ num_Double_L0.get F none st k = some true := by
  obtain ⟨sl, hp, m⟩ := st
  unfold num_Double_L0.get at hx ⊢
  dsimp only at hx ⊢
  split at hx
  · exact .inr hx
  · exact .inl hx
/-- function 35: sheerleg/num.Double -/
noncomputable def num_Double.body (num_Double_L0 : Int → Int → Int → (Int → Bool → Option Bool) → (Option Bool) → Option Bool) (n966 : Int) (n967 : Int) (n968 : Int) (k1 : Int → Bool → Option Bool) : Option Bool :=
  (cond_ (decide (n966 < (1 : Int))) (k1 (0 : Int) false) (num_Double_L0 n966 n967 n968
  (fun n972 b973 => (k1 n972 b973))
  (k1 (0 : Int) false)))
noncomputable def num_Double (n966 : Int) (n967 : Int) (n968 : Int) (k1 : Int → Bool → Option Bool) : Option Bool := num_Double.body (num_Double_L0 ROUNDS) n966 n967 n968 k1
noncomputable def num_Double.get (F : Int → Int → Int → (Int → Bool → Option Bool) → Option Bool) (e : Option Bool) (g : FuncId) (a : List AV) (h : Heap) (k : KR) : Option Bool := match g, a, h with
  | 35, [(.d ⟨(.int .i64), n966⟩), (.d ⟨(.int .i64), n967⟩), (.d ⟨(.int .i64), n968⟩)], [] => F n966 n967 n968 (fun y0 y1 => k (.tup [(.d ⟨(.int .i64), y0⟩), (.d ⟨.bool, y1⟩)]) [])
  | _, _, _ => e
noncomputable def num_Double.calls : RecF := fun g a h k => none
noncomputable def num_Double.loops (L0 : Int → Int → Int → (Int → Bool → Option Bool) → (Option Bool) → Option Bool) : LoopF := fun b => match Nat.beq b 0 with | true => some (fun st k => (num_Double_L0.get L0 none st k)) | false => none
set_option maxRecDepth 100000 in
theorem num_Double.eq (L0 : Int → Int → Int → (Int → Bool → Option Bool) → (Option Bool) → Option Bool) (n966 : Int) (n967 : Int) (n968 : Int) (k : KR) : execL Try.prog ht 35 (callfOf (num_Double.calls)) (num_Double.loops L0) 0 (codeOf Try.f35) ⟨[(.d ⟨(.int .i64), n966⟩), (.d ⟨(.int .i64), n967⟩), (.d ⟨(.int .i64), n968⟩)] ++ List.replicate (Try.f35.ntmps - ([(.d ⟨(.int .i64), n966⟩), (.d ⟨(.int .i64), n967⟩), (.d ⟨(.int .i64), n968⟩)] : List AV).length) .undef, [], 2⟩ (leave Try.prog Try.f35 k) = num_Double.body L0 n966 n967 n968 (fun y0 y1 => k (.tup [(.d ⟨(.int .i64), y0⟩), (.d ⟨.bool, y1⟩)]) []) := by kernel_rfl
theorem num_Double.ok (d : Nat) (hd : 1 ≤ d) (n966 : Int) (n967 : Int) (n968 : Int) (k : KR) (hx : num_Double n966 n967 n968 (fun y0 y1 => k (.tup [(.d ⟨(.int .i64), y0⟩), (.d ⟨.bool, y1⟩)]) []) = some true) : callK Try.prog ht d 35 [(.d ⟨(.int .i64), n966⟩), (.d ⟨(.int .i64), n967⟩), (.d ⟨(.int .i64), n968⟩)] [] k = some true := by
  obtain ⟨d, rfl⟩ : ∃ e, d = e + 1 := ⟨d - 1, by omega⟩
  exact fn_ok (c := codeOf Try.f35) Try.func35 (by kernel_rfl) (rec := num_Double.calls) (fun g a h k hx => by
    cases hx) (loopf := num_Double.loops (num_Double_L0 ROUNDS)) (by
    have e : loopsOf (num_Double.loops (num_Double_L0 ROUNDS)) 0 (codeOf Try.f35) = [(0, loopAt 0 (codeOf Try.f35))] := by kernel_rfl
    rw [e]
    intro p hp
    simp only [List.mem_cons, List.not_mem_nil, or_false] at hp
    rcases hp with rfl
    · refine loopRef_of (callf := callfOf (callK Try.prog ht d)) (callfOf_ref (callK_mono d)) fun lf st k hb hx => ?_
      cases hb
      rcases num_Double_L0.look hx with hx | hx
      rotate_left
      · exact num_Double_L0.ok d (by omega) _ _ _ hx
      cases hx) ((num_Double.eq (num_Double_L0 ROUNDS) n966 n967 n968 k).trans hx)
theorem num_Double.look (d : Nat) (hd : 1 ≤ d) {e : Option Bool} {g : FuncId} {a : List AV} {h : Heap} {k : KR} (hx : num_Double.get num_Double e g a h k = some true) : e = some true ∨ callK Try.prog ht d g a h k = some true := by
  unfold num_Double.get at hx
  split at hx
  · exact .inr (num_Double.ok d hd _ _ _ _ hx)
  · exact .inl hx
/-- function 51: (*sheerleg/memory.Memory).Copy$1 -/
noncomputable def memory_Memory_Copyfn1.body (n986 : Int) (b987 : Bool) (ns988 : List Int) (n989 : Int) (k1 : Bool → Bool → (List Int) → Int → Option Bool) : Option Bool :=
  (cond_ (decide (n986 ≥ (0 : Int))) (cond_ (decide (n986 ≤ (((List.length ns988) : Nat) : Int))) (k1 (decide (n989 ≤ (IntKind.wrap .i64 ((((List.length ns988) : Nat) : Int) - n986)))) b987 ns988 n989) (k1 false b987 ns988 n989)) (k1 false b987 ns988 n989))
noncomputable def memory_Memory_Copyfn1 (n986 : Int) (b987 : Bool) (ns988 : List Int) (n989 : Int) (k1 : Bool → Bool → (List Int) → Int → Option Bool) : Option Bool := memory_Memory_Copyfn1.body n986 b987 ns988 n989 k1
noncomputable def memory_Memory_Copyfn1.get (F : Int → Bool → (List Int) → Int → (Bool → Bool → (List Int) → Int → Option Bool) → Option Bool) (e : Option Bool) (g : FuncId) (a : List AV) (h : Heap) (k : KR) : Option Bool := match g, a, h with
  | 51, [(.d ⟨(.int .i64), n986⟩), (.ptr [0, 0] 0 0), (.ptr [0, 3] 0 0)], [([0, 0], ⟨28, 1, (.mix [(.ptr [0, 1] 0 0)])⟩), ([0, 1], ⟨61, 2, (.mix [(.agg [(.ref [0, 2]), (.d ⟨.bool, b987⟩)])])⟩), ([0, 2], ⟨2, 1, (.data (.int .i64) ns988)⟩), ([0, 3], ⟨3, 1, (.data (.int .i64) [n989])⟩)] => F n986 b987 ns988 n989 (fun y0 y1 y2 y3 => k (.d ⟨.bool, y0⟩) [([0, 0], ⟨28, 1, (.mix [(.ptr [0, 1] 0 0)])⟩), ([0, 1], ⟨61, 2, (.mix [(.agg [(.ref [0, 2]), (.d ⟨.bool, y1⟩)])])⟩), ([0, 2], ⟨2, 1, (.data (.int .i64) y2)⟩), ([0, 3], ⟨3, 1, (.data (.int .i64) [y3])⟩)])
  | _, _, _ => e
noncomputable def memory_Memory_Copyfn1.calls : RecF := fun g a h k => none
noncomputable def memory_Memory_Copyfn1.loops : LoopF := fun b => none
set_option maxRecDepth 100000 in
theorem memory_Memory_Copyfn1.eq (n986 : Int) (b987 : Bool) (ns988 : List Int) (n989 : Int) (k : KR) : execL Try.prog ht 51 (callfOf (memory_Memory_Copyfn1.calls)) (memory_Memory_Copyfn1.loops) 0 (codeOf Try.f51) ⟨[(.d ⟨(.int .i64), n986⟩), (.ptr [0, 0] 0 0), (.ptr [0, 3] 0 0)] ++ List.replicate (Try.f51.ntmps - ([(.d ⟨(.int .i64), n986⟩), (.ptr [0, 0] 0 0), (.ptr [0, 3] 0 0)] : List AV).length) .undef, [([0, 0], ⟨28, 1, (.mix [(.ptr [0, 1] 0 0)])⟩), ([0, 1], ⟨61, 2, (.mix [(.agg [(.ref [0, 2]), (.d ⟨.bool, b987⟩)])])⟩), ([0, 2], ⟨2, 1, (.data (.int .i64) ns988)⟩), ([0, 3], ⟨3, 1, (.data (.int .i64) [n989])⟩)], 2⟩ (leave Try.prog Try.f51 k) = memory_Memory_Copyfn1.body n986 b987 ns988 n989 (fun y0 y1 y2 y3 => k (.d ⟨.bool, y0⟩) [([0, 0], ⟨28, 1, (.mix [(.ptr [0, 1] 0 0)])⟩), ([0, 1], ⟨61, 2, (.mix [(.agg [(.ref [0, 2]), (.d ⟨.bool, y1⟩)])])⟩), ([0, 2], ⟨2, 1, (.data (.int .i64) y2)⟩), ([0, 3], ⟨3, 1, (.data (.int .i64) [y3])⟩)]) := by kernel_rfl
theorem memory_Memory_Copyfn1.ok (d : Nat) (hd : 1 ≤ d) (n986 : Int) (b987 : Bool) (ns988 : List Int) (n989 : Int) (k : KR) (hx : memory_Memory_Copyfn1 n986 b987 ns988 n989 (fun y0 y1 y2 y3 => k (.d ⟨.bool, y0⟩) [([0, 0], ⟨28, 1, (.mix [(.ptr [0, 1] 0 0)])⟩), ([0, 1], ⟨61, 2, (.mix [(.agg [(.ref [0, 2]), (.d ⟨.bool, y1⟩)])])⟩), ([0, 2], ⟨2, 1, (.data (.int .i64) y2)⟩), ([0, 3], ⟨3, 1, (.data (.int .i64) [y3])⟩)]) = some true) : callK Try.prog ht d 51 [(.d ⟨(.int .i64), n986⟩), (.ptr [0, 0] 0 0), (.ptr [0, 3] 0 0)] [([0, 0], ⟨28, 1, (.mix [(.ptr [0, 1] 0 0)])⟩), ([0, 1], ⟨61, 2, (.mix [(.agg [(.ref [0, 2]), (.d ⟨.bool, b987⟩)])])⟩), ([0, 2], ⟨2, 1, (.data (.int .i64) ns988)⟩), ([0, 3], ⟨3, 1, (.data (.int .i64) [n989])⟩)] k = some true := by
  obtain ⟨d, rfl⟩ : ∃ e, d = e + 1 := ⟨d - 1, by omega⟩
  exact fn_ok (c := codeOf Try.f51) Try.func51 (by kernel_rfl) (rec := memory_Memory_Copyfn1.calls) (fun g a h k hx => by
    cases hx) (loopf := memory_Memory_Copyfn1.loops) (by
    have e : loopsOf (memory_Memory_Copyfn1.loops) 0 (codeOf Try.f51) = [] := by kernel_rfl
    rw [e]
    intro p hp
    cases hp) ((memory_Memory_Copyfn1.eq n986 b987 ns988 n989 k).trans hx)
theorem memory_Memory_Copyfn1.look (d : Nat) (hd : 1 ≤ d) {e : Option Bool} {g : FuncId} {a : List AV} {h : Heap} {k : KR} (hx : memory_Memory_Copyfn1.get memory_Memory_Copyfn1 e g a h k = some true) : e = some true ∨ callK Try.prog ht d g a h k = some true := by
  unfold memory_Memory_Copyfn1.get at hx
  split at hx
  · exact .inr (memory_Memory_Copyfn1.ok d hd _ _ _ _ _ hx)
  · exact .inl hx
/-- function 36: (*sheerleg/memory.Memory).Copy -/
noncomputable def memory_Memory_Copy.body (memory_Memory_Copyfn1 : Int → Bool → (List Int) → Int → (Bool → Bool → (List Int) → Int → Option Bool) → Option Bool) (n981 : Int) (n982 : Int) (n983 : Int) (b984 : Bool) (ns985 : List Int) (k1 : Bool → Bool → (List Int) → Option Bool) : Option Bool :=
  (cond_ (! (! b984)) (cond_ (! (decide (n983 < (0 : Int)))) (memory_Memory_Copyfn1 n981 b984 ns985 n983
  (fun b990 b991 ns992 n993 => (cond_ (! (! b990)) (memory_Memory_Copyfn1 n982 b991 ns992 n993
  (fun b994 b995 ns996 n997 => (cond_ (! b994) (k1 false b995 ns996) (cond_ ((decide ((0 : Int) ≤ n981)) && (decide (n981 ≤ (((List.length ns996) : Nat) : Int)))) (cond_ (((decide ((0 : Int) ≤ n982)) && (decide (n982 ≤ (IntKind.wrap .i64 (n982 + n997))))) && (decide ((IntKind.wrap .i64 (n982 + n997)) ≤ (((List.length ns996) : Nat) : Int)))) (k1 true b995 (setCells ns996 (Int.toNat n981) (List.take ((List.length ns996) - (Int.toNat n981)) (List.take (Int.toNat ((IntKind.wrap .i64 (n982 + n997)) - n982)) (List.drop (Int.toNat n982) ns996))))) none) none)))) (k1 false b991 ns992)))) (k1 false b984 ns985)) (k1 false b984 ns985))
noncomputable def memory_Memory_Copy (n981 : Int) (n982 : Int) (n983 : Int) (b984 : Bool) (ns985 : List Int) (k1 : Bool → Bool → (List Int) → Option Bool) : Option Bool := memory_Memory_Copy.body memory_Memory_Copyfn1 n981 n982 n983 b984 ns985 k1
noncomputable def memory_Memory_Copy.get (F : Int → Int → Int → Bool → (List Int) → (Bool → Bool → (List Int) → Option Bool) → Option Bool) (e : Option Bool) (g : FuncId) (a : List AV) (h : Heap) (k : KR) : Option Bool := match g, a, h with
  | 36, [(.ptr [0, 0] 0 0), (.d ⟨(.int .i64), n981⟩), (.d ⟨(.int .i64), n982⟩), (.d ⟨(.int .i64), n983⟩)], [([0, 0], ⟨61, 2, (.mix [(.agg [(.ref [0, 1]), (.d ⟨.bool, b984⟩)])])⟩), ([0, 1], ⟨2, 1, (.data (.int .i64) ns985)⟩)] => F n981 n982 n983 b984 ns985 (fun y0 y1 y2 => k (.d ⟨.bool, y0⟩) [([0, 0], ⟨61, 2, (.mix [(.agg [(.ref [0, 1]), (.d ⟨.bool, y1⟩)])])⟩), ([0, 1], ⟨2, 1, (.data (.int .i64) y2)⟩)])
  | _, _, _ => e
noncomputable def memory_Memory_Copy.calls (F0 : Int → Bool → (List Int) → Int → (Bool → Bool → (List Int) → Int → Option Bool) → Option Bool) : RecF := fun g a h k => (memory_Memory_Copyfn1.get F0 none g a h k)
noncomputable def memory_Memory_Copy.loops : LoopF := fun b => none
set_option maxRecDepth 100000 in
theorem memory_Memory_Copy.eq (F0 : Int → Bool → (List Int) → Int → (Bool → Bool → (List Int) → Int → Option Bool) → Option Bool) (n981 : Int) (n982 : Int) (n983 : Int) (b984 : Bool) (ns985 : List Int) (k : KR) : execL Try.prog ht 36 (callfOf (memory_Memory_Copy.calls F0)) (memory_Memory_Copy.loops) 0 (codeOf Try.f36) ⟨[(.ptr [0, 0] 0 0), (.d ⟨(.int .i64), n981⟩), (.d ⟨(.int .i64), n982⟩), (.d ⟨(.int .i64), n983⟩)] ++ List.replicate (Try.f36.ntmps - ([(.ptr [0, 0] 0 0), (.d ⟨(.int .i64), n981⟩), (.d ⟨(.int .i64), n982⟩), (.d ⟨(.int .i64), n983⟩)] : List AV).length) .undef, [([0, 0], ⟨61, 2, (.mix [(.agg [(.ref [0, 1]), (.d ⟨.bool, b984⟩)])])⟩), ([0, 1], ⟨2, 1, (.data (.int .i64) ns985)⟩)], 2⟩ (leave Try.prog Try.f36 k) = memory_Memory_Copy.body F0 n981 n982 n983 b984 ns985 (fun y0 y1 y2 => k (.d ⟨.bool, y0⟩) [([0, 0], ⟨61, 2, (.mix [(.agg [(.ref [0, 1]), (.d ⟨.bool, y1⟩)])])⟩), ([0, 1], ⟨2, 1, (.data (.int .i64) y2)⟩)]) := by kernel_rfl
theorem memory_Memory_Copy.ok (d : Nat) (hd : 2 ≤ d) (n981 : Int) (n982 : Int) (n983 : Int) (b984 : Bool) (ns985 : List Int) (k : KR) (hx : memory_Memory_Copy n981 n982 n983 b984 ns985 (fun y0 y1 y2 => k (.d ⟨.bool, y0⟩) [([0, 0], ⟨61, 2, (.mix [(.agg [(.ref [0, 1]), (.d ⟨.bool, y1⟩)])])⟩), ([0, 1], ⟨2, 1, (.data (.int .i64) y2)⟩)]) = some true) : callK Try.prog ht d 36 [(.ptr [0, 0] 0 0), (.d ⟨(.int .i64), n981⟩), (.d ⟨(.int .i64), n982⟩), (.d ⟨(.int .i64), n983⟩)] [([0, 0], ⟨61, 2, (.mix [(.agg [(.ref [0, 1]), (.d ⟨.bool, b984⟩)])])⟩), ([0, 1], ⟨2, 1, (.data (.int .i64) ns985)⟩)] k = some true := by
  obtain ⟨d, rfl⟩ : ∃ e, d = e + 1 := ⟨d - 1, by omega⟩
  exact fn_ok (c := codeOf Try.f36) Try.func36 (by kernel_rfl) (rec := memory_Memory_Copy.calls memory_Memory_Copyfn1) (fun g a h k hx => by
    rcases memory_Memory_Copyfn1.look d (by omega) hx with hx | hx
    rotate_left
    · exact hx
    cases hx) (loopf := memory_Memory_Copy.loops) (by
    have e : loopsOf (memory_Memory_Copy.loops) 0 (codeOf Try.f36) = [] := by kernel_rfl
    rw [e]
    intro p hp
    cases hp) ((memory_Memory_Copy.eq memory_Memory_Copyfn1 n981 n982 n983 b984 ns985 k).trans hx)
theorem memory_Memory_Copy.look (d : Nat) (hd : 2 ≤ d) {e : Option Bool} {g : FuncId} {a : List AV} {h : Heap} {k : KR} (hx : memory_Memory_Copy.get memory_Memory_Copy e g a h k = some true) : e = some true ∨ callK Try.prog ht d g a h k = some true := by
  unfold memory_Memory_Copy.get at hx
  split at hx
  · exact .inr (memory_Memory_Copy.ok d hd _ _ _ _ _ _ hx)
  · exact .inl hx
/-- function 11: (*sheerleg/stack.Stack).Grow -/
noncomputable def stack_Stack_Growv1.body (stack_Stack_livev1 : Int → Int → Int → Int → Int → Int → Int → Bool → (List Int) → (Bool → Int → Int → Int → Int → Int → Int → Int → Bool → (List Int) → Option Bool) → Option Bool) (stack_Stack_Idv1 : Int → Int → Int → Int → Int → Int → Int → Bool → (List Int) → (Int → Int → Int → Int → Int → Int → Int → Int → Bool → (List Int) → Option Bool) → Option Bool) (num_Double : Int → Int → Int → (Int → Bool → Option Bool) → Option Bool) (memory_Memory_Grow : Int → Bool → (List Int) → (Int → Bool → Bool → (List Int) → Option Bool) → (Int → Bool → Bool → (List Int) → Option Bool) → Option Bool) (stack_segment : Int → Int → ((Int × Int × Int × Unit) → Option Bool) → Option Bool) (memory_Memory_Copy : Int → Int → Int → Bool → (List Int) → (Bool → Bool → (List Int) → Option Bool) → Option Bool) (n936 : Int) (n937 : Int) (n938 : Int) (n939 : Int) (n940 : Int) (n941 : Int) (n942 : Int) (n943 : Int) (b944 : Bool) (ns945 : List Int) (k1 : Bool → Int → Int → Int → Int → Int → Int → Int → Bool → (List Int) → Option Bool) (k2 : Bool → Int → Int → Int → Int → Int → Int → Int → Bool → (List Int) → Option Bool) : Option Bool :=
  (stack_Stack_livev1 n937 n938 n939 n940 n941 n942 n943 b944 ns945
  (fun b946 n947 n948 n949 n950 n951 n952 n953 b954 ns955 => (cond_ (! (! b946)) (cond_ (decide (n936 > (1048576 : Int))) (k1 false n947 n948 n949 n950 n951 n952 n953 b954 ns955) (stack_Stack_Idv1 n947 n948 n949 n950 n951 n952 n953 b954 ns955
  (fun n956 n957 n958 n959 n960 n961 n962 n963 b964 ns965 => (num_Double (IntKind.wrap .i64 ((2 : Int) * (IntKind.wrap .i64 (n959 - n957)))) (IntKind.wrap .i64 ((IntKind.wrap .i64 (n956 + (if (n936 < (0 : Int)) then (0 : Int) else n936))) + (64 : Int))) (4194304 : Int)
  (fun n974 b975 => (cond_ (! (! b975)) (cond_ (decide (n974 > (IntKind.wrap .i64 (n962 - n961)))) (k1 false n957 n958 n959 n960 n961 n962 n963 b964 ns965) (memory_Memory_Grow n974 b964 ns965
  (fun n976 b977 b978 ns979 => (cond_ (! b977) (k1 false n957 n958 n959 n960 n961 n962 n963 b978 ns979) (stack_segment n976 n974
  (fun t980 => (memory_Memory_Copy (IntKind.wrap .i64 (t980.2.2.1 - n956)) n960 n956 b978 ns979
  (fun b998 b999 ns1000 => (k1 true t980.1 t980.2.1 t980.2.2.1 (IntKind.wrap .i64 (t980.2.2.1 - n956)) (IntKind.wrap .i64 (n961 + n974)) n962 n963 b999 ns1000)))))))
  (fun n1001 b1002 b1003 ns1004 => (cond_ (! b1002) (k2 false n957 n958 n959 n960 n961 n962 n963 b1003 ns1004) (stack_segment n1001 n974
  (fun t1005 => (memory_Memory_Copy (IntKind.wrap .i64 (t1005.2.2.1 - n956)) n960 n956 b1003 ns1004
  (fun b1006 b1007 ns1008 => (k2 true t1005.1 t1005.2.1 t1005.2.2.1 (IntKind.wrap .i64 (t1005.2.2.1 - n956)) (IntKind.wrap .i64 (n961 + n974)) n962 n963 b1007 ns1008))))))))) (k1 false n957 n958 n959 n960 n961 n962 n963 b964 ns965))))))) (k1 false n947 n948 n949 n950 n951 n952 n953 b954 ns955))))
noncomputable def stack_Stack_Growv1 (n936 : Int) (n937 : Int) (n938 : Int) (n939 : Int) (n940 : Int) (n941 : Int) (n942 : Int) (n943 : Int) (b944 : Bool) (ns945 : List Int) (k1 : Bool → Int → Int → Int → Int → Int → Int → Int → Bool → (List Int) → Option Bool) (k2 : Bool → Int → Int → Int → Int → Int → Int → Int → Bool → (List Int) → Option Bool) : Option Bool := stack_Stack_Growv1.body stack_Stack_livev1 stack_Stack_Idv1 num_Double memory_Memory_Grow stack_segment memory_Memory_Copy n936 n937 n938 n939 n940 n941 n942 n943 b944 ns945 k1 k2
noncomputable def stack_Stack_Growv1.get (F : Int → Int → Int → Int → Int → Int → Int → Int → Bool → (List Int) → (Bool → Int → Int → Int → Int → Int → Int → Int → Bool → (List Int) → Option Bool) → (Bool → Int → Int → Int → Int → Int → Int → Int → Bool → (List Int) → Option Bool) → Option Bool) (e : Option Bool) (g : FuncId) (a : List AV) (h : Heap) (k : KR) : Option Bool := match g, a, h with
  | 11, [(.ptr [0, 0] 0 0), (.d ⟨(.int .i64), n936⟩)], [([0, 0], ⟨53, 8, (.mix [(.agg [(.ptr [0, 1] 0 0), (.d ⟨(.int .i64), n937⟩), (.d ⟨(.int .i64), n938⟩), (.d ⟨(.int .i64), n939⟩), (.d ⟨(.int .i64), n940⟩), (.d ⟨(.int .i64), n941⟩), (.d ⟨(.int .i64), n942⟩), (.d ⟨(.int .i64), n943⟩)])])⟩), ([0, 1], ⟨61, 2, (.mix [(.agg [(.ref [0, 2]), (.d ⟨.bool, b944⟩)])])⟩), ([0, 2], ⟨2, 1, (.data (.int .i64) ns945)⟩)] => F n936 n937 n938 n939 n940 n941 n942 n943 b944 ns945 (fun y0 y1 y2 y3 y4 y5 y6 y7 y8 y9 => k (.d ⟨.bool, y0⟩) [([0, 0], ⟨53, 8, (.mix [(.agg [(.ptr [0, 1] 0 0), (.d ⟨(.int .i64), y1⟩), (.d ⟨(.int .i64), y2⟩), (.d ⟨(.int .i64), y3⟩), (.d ⟨(.int .i64), y4⟩), (.d ⟨(.int .i64), y5⟩), (.d ⟨(.int .i64), y6⟩), (.d ⟨(.int .i64), y7⟩)])])⟩), ([0, 1], ⟨61, 2, (.mix [(.agg [(.ref [0, 2]), (.d ⟨.bool, y8⟩)])])⟩), ([0, 2], ⟨2, 1, (.data (.int .i64) y9)⟩)]) (fun y0 y1 y2 y3 y4 y5 y6 y7 y8 y9 => k (.d ⟨.bool, y0⟩) [([0, 0], ⟨53, 8, (.mix [(.agg [(.ptr [0, 1] 0 0), (.d ⟨(.int .i64), y1⟩), (.d ⟨(.int .i64), y2⟩), (.d ⟨(.int .i64), y3⟩), (.d ⟨(.int .i64), y4⟩), (.d ⟨(.int .i64), y5⟩), (.d ⟨(.int .i64), y6⟩), (.d ⟨(.int .i64), y7⟩)])])⟩), ([0, 1], ⟨61, 2, (.mix [(.agg [(.ref [1, 0]), (.d ⟨.bool, y8⟩)])])⟩), ([1, 0], ⟨2, 1, (.data (.int .i64) y9)⟩)])
  | _, _, _ => e
noncomputable def stack_Stack_Growv1.calls (F0 : Int → Int → Int → Int → Int → Int → Int → Bool → (List Int) → (Bool → Int → Int → Int → Int → Int → Int → Int → Bool → (List Int) → Option Bool) → Option Bool) (F1 : Int → Int → Int → Int → Int → Int → Int → Bool → (List Int) → (Int → Int → Int → Int → Int → Int → Int → Int → Bool → (List Int) → Option Bool) → Option Bool) (F2 : Int → Int → Int → (Int → Bool → Option Bool) → Option Bool) (F3 : Int → Bool → (List Int) → (Int → Bool → Bool → (List Int) → Option Bool) → (Int → Bool → Bool → (List Int) → Option Bool) → Option Bool) (F4 : Int → Int → ((Int × Int × Int × Unit) → Option Bool) → Option Bool) (F5 : Int → Int → Int → Bool → (List Int) → (Bool → Bool → (List Int) → Option Bool) → Option Bool) : RecF := fun g a h k => (stack_Stack_livev1.get F0 (stack_Stack_Idv1.get F1 (num_Double.get F2 (memory_Memory_Grow.get F3 (stack_segment.get F4 (memory_Memory_Copy.get F5 none g a h k) g a h k) g a h k) g a h k) g a h k) g a h k)
noncomputable def stack_Stack_Growv1.loops : LoopF := fun b => none
set_option maxRecDepth 100000 in
theorem stack_Stack_Growv1.eq (F0 : Int → Int → Int → Int → Int → Int → Int → Bool → (List Int) → (Bool → Int → Int → Int → Int → Int → Int → Int → Bool → (List Int) → Option Bool) → Option Bool) (F1 : Int → Int → Int → Int → Int → Int → Int → Bool → (List Int) → (Int → Int → Int → Int → Int → Int → Int → Int → Bool → (List Int) → Option Bool) → Option Bool) (F2 : Int → Int → Int → (Int → Bool → Option Bool) → Option Bool) (F3 : Int → Bool → (List Int) → (Int → Bool → Bool → (List Int) → Option Bool) → (Int → Bool → Bool → (List Int) → Option Bool) → Option Bool) (F4 : Int → Int → ((Int × Int × Int × Unit) → Option Bool) → Option Bool) (F5 : Int → Int → Int → Bool → (List Int) → (Bool → Bool → (List Int) → Option Bool) → Option Bool) (n936 : Int) (n937 : Int) (n938 : Int) (n939 : Int) (n940 : Int) (n941 : Int) (n942 : Int) (n943 : Int) (b944 : Bool) (ns945 : List Int) (k : KR) : execL Try.prog ht 11 (callfOf (stack_Stack_Growv1.calls F0 F1 F2 F3 F4 F5)) (stack_Stack_Growv1.loops) 0 (codeOf Try.f11) ⟨[(.ptr [0, 0] 0 0), (.d ⟨(.int .i64), n936⟩)] ++ List.replicate (Try.f11.ntmps - ([(.ptr [0, 0] 0 0), (.d ⟨(.int .i64), n936⟩)] : List AV).length) .undef, [([0, 0], ⟨53, 8, (.mix [(.agg [(.ptr [0, 1] 0 0), (.d ⟨(.int .i64), n937⟩), (.d ⟨(.int .i64), n938⟩), (.d ⟨(.int .i64), n939⟩), (.d ⟨(.int .i64), n940⟩), (.d ⟨(.int .i64), n941⟩), (.d ⟨(.int .i64), n942⟩), (.d ⟨(.int .i64), n943⟩)])])⟩), ([0, 1], ⟨61, 2, (.mix [(.agg [(.ref [0, 2]), (.d ⟨.bool, b944⟩)])])⟩), ([0, 2], ⟨2, 1, (.data (.int .i64) ns945)⟩)], 2⟩ (leave Try.prog Try.f11 k) = stack_Stack_Growv1.body F0 F1 F2 F3 F4 F5 n936 n937 n938 n939 n940 n941 n942 n943 b944 ns945 (fun y0 y1 y2 y3 y4 y5 y6 y7 y8 y9 => k (.d ⟨.bool, y0⟩) [([0, 0], ⟨53, 8, (.mix [(.agg [(.ptr [0, 1] 0 0), (.d ⟨(.int .i64), y1⟩), (.d ⟨(.int .i64), y2⟩), (.d ⟨(.int .i64), y3⟩), (.d ⟨(.int .i64), y4⟩), (.d ⟨(.int .i64), y5⟩), (.d ⟨(.int .i64), y6⟩), (.d ⟨(.int .i64), y7⟩)])])⟩), ([0, 1], ⟨61, 2, (.mix [(.agg [(.ref [0, 2]), (.d ⟨.bool, y8⟩)])])⟩), ([0, 2], ⟨2, 1, (.data (.int .i64) y9)⟩)]) (fun y0 y1 y2 y3 y4 y5 y6 y7 y8 y9 => k (.d ⟨.bool, y0⟩) [([0, 0], ⟨53, 8, (.mix [(.agg [(.ptr [0, 1] 0 0), (.d ⟨(.int .i64), y1⟩), (.d ⟨(.int .i64), y2⟩), (.d ⟨(.int .i64), y3⟩), (.d ⟨(.int .i64), y4⟩), (.d ⟨(.int .i64), y5⟩), (.d ⟨(.int .i64), y6⟩), (.d ⟨(.int .i64), y7⟩)])])⟩), ([0, 1], ⟨61, 2, (.mix [(.agg [(.ref [1, 0]), (.d ⟨.bool, y8⟩)])])⟩), ([1, 0], ⟨2, 1, (.data (.int .i64) y9)⟩)]) := by kernel_rfl
theorem stack_Stack_Growv1.ok (d : Nat) (hd : 4 ≤ d) (n936 : Int) (n937 : Int) (n938 : Int) (n939 : Int) (n940 : Int) (n941 : Int) (n942 : Int) (n943 : Int) (b944 : Bool) (ns945 : List Int) (k : KR) (hx : stack_Stack_Growv1 n936 n937 n938 n939 n940 n941 n942 n943 b944 ns945 (fun y0 y1 y2 y3 y4 y5 y6 y7 y8 y9 => k (.d ⟨.bool, y0⟩) [([0, 0], ⟨53, 8, (.mix [(.agg [(.ptr [0, 1] 0 0), (.d ⟨(.int .i64), y1⟩), (.d ⟨(.int .i64), y2⟩), (.d ⟨(.int .i64), y3⟩), (.d ⟨(.int .i64), y4⟩), (.d ⟨(.int .i64), y5⟩), (.d ⟨(.int .i64), y6⟩), (.d ⟨(.int .i64), y7⟩)])])⟩), ([0, 1], ⟨61, 2, (.mix [(.agg [(.ref [0, 2]), (.d ⟨.bool, y8⟩)])])⟩), ([0, 2], ⟨2, 1, (.data (.int .i64) y9)⟩)]) (fun y0 y1 y2 y3 y4 y5 y6 y7 y8 y9 => k (.d ⟨.bool, y0⟩) [([0, 0], ⟨53, 8, (.mix [(.agg [(.ptr [0, 1] 0 0), (.d ⟨(.int .i64), y1⟩), (.d ⟨(.int .i64), y2⟩), (.d ⟨(.int .i64), y3⟩), (.d ⟨(.int .i64), y4⟩), (.d ⟨(.int .i64), y5⟩), (.d ⟨(.int .i64), y6⟩), (.d ⟨(.int .i64), y7⟩)])])⟩), ([0, 1], ⟨61, 2, (.mix [(.agg [(.ref [1, 0]), (.d ⟨.bool, y8⟩)])])⟩), ([1, 0], ⟨2, 1, (.data (.int .i64) y9)⟩)]) = some true) : callK Try.prog ht d 11 [(.ptr [0, 0] 0 0), (.d ⟨(.int .i64), n936⟩)] [([0, 0], ⟨53, 8, (.mix [(.agg [(.ptr [0, 1] 0 0), (.d ⟨(.int .i64), n937⟩), (.d ⟨(.int .i64), n938⟩), (.d ⟨(.int .i64), n939⟩), (.d ⟨(.int .i64), n940⟩), (.d ⟨(.int .i64), n941⟩), (.d ⟨(.int .i64), n942⟩), (.d ⟨(.int .i64), n943⟩)])])⟩), ([0, 1], ⟨61, 2, (.mix [(.agg [(.ref [0, 2]), (.d ⟨.bool, b944⟩)])])⟩), ([0, 2], ⟨2, 1, (.data (.int .i64) ns945)⟩)] k = some true := by
  obtain ⟨d, rfl⟩ : ∃ e, d = e + 1 := ⟨d - 1, by omega⟩
  exact fn_ok (c := codeOf Try.f11) Try.func11 (by kernel_rfl) (rec := stack_Stack_Growv1.calls stack_Stack_livev1 stack_Stack_Idv1 num_Double memory_Memory_Grow stack_segment memory_Memory_Copy) (fun g a h k hx => by
    rcases stack_Stack_livev1.look d (by omega) hx with hx | hx
    rotate_left
    · exact hx
    rcases stack_Stack_Idv1.look d (by omega) hx with hx | hx
    rotate_left
    · exact hx
    rcases num_Double.look d (by omega) hx with hx | hx
    rotate_left
    · exact hx
    rcases memory_Memory_Grow.look d (by omega) hx with hx | hx
    rotate_left
    · exact hx
    rcases stack_segment.look d (by omega) hx with hx | hx
    rotate_left
    · exact hx
    rcases memory_Memory_Copy.look d (by omega) hx with hx | hx
    rotate_left
    · exact hx
    cases hx) (loopf := stack_Stack_Growv1.loops) (by
    have e : loopsOf (stack_Stack_Growv1.loops) 0 (codeOf Try.f11) = [] := by kernel_rfl
    rw [e]
    intro p hp
    cases hp) ((stack_Stack_Growv1.eq stack_Stack_livev1 stack_Stack_Idv1 num_Double memory_Memory_Grow stack_segment memory_Memory_Copy n936 n937 n938 n939 n940 n941 n942 n943 b944 ns945 k).trans hx)
theorem stack_Stack_Growv1.look (d : Nat) (hd : 4 ≤ d) {e : Option Bool} {g : FuncId} {a : List AV} {h : Heap} {k : KR} (hx : stack_Stack_Growv1.get stack_Stack_Growv1 e g a h k = some true) : e = some true ∨ callK Try.prog ht d g a h k = some true := by
  unfold stack_Stack_Growv1.get at hx
  split at hx
  · exact .inr (stack_Stack_Growv1.ok d hd _ _ _ _ _ _ _ _ _ _ _ hx)
  · exact .inl hx
/-- function 18: sheerleg/sheerleglaw39.play -/
noncomputable def law39_playv1.body (ref39_Push : Tc1 → Int → (Tc1 → Bool → Option Bool) → Option Bool) (stack_Stack_Pushv1 : Int → Int → Int → Int → Int → Int → Int → Int → Bool → (List Int) → (Bool → Int → Int → Int → Int → Int → Int → Int → Bool → (List Int) → Option Bool) → Option Bool) (stack_Stack_Popv1 : Int → Int → Int → Int → Int → Int → Int → Bool → (List Int) → (Int → Bool → Int → Int → Int → Int → Int → Int → Int → Bool → (List Int) → Option Bool) → Option Bool) (ref39_Pop : Tc1 → (Tc1 → Int → Bool → Option Bool) → Option Bool) (ref39_Move : Tc1 → Int → Bool → (Tc1 → Bool → Option Bool) → Option Bool) (stack_Stack_Downv1 : Int → Int → Int → Int → Int → Int → Int → Int → Bool → (List Int) → (Bool → Int → Int → Int → Int → Int → Int → Int → Bool → (List Int) → Option Bool) → Option Bool) (stack_Stack_Upv1 : Int → Int → Int → Int → Int → Int → Int → Int → Bool → (List Int) → (Bool → Int → Int → Int → Int → Int → Int → Int → Bool → (List Int) → Option Bool) → Option Bool) (stack_Stack_Getv1 : Int → Int → Int → Int → Int → Int → Int → Int → Bool → (List Int) → (Int → Bool → Int → Int → Int → Int → Int → Int → Int → Bool → (List Int) → Option Bool) → Option Bool) (ref39_Get : Tc1 → Int → (Int → Bool → Option Bool) → Option Bool) (ref39_Set : Tc1 → Int → Int → (Tc1 → Bool → Option Bool) → Option Bool) (stack_Stack_Setv1 : Int → Int → Int → Int → Int → Int → Int → Int → Int → Bool → (List Int) → (Bool → Int → Int → Int → Int → Int → Int → Int → Bool → (List Int) → Option Bool) → Option Bool) (ref39_Spill : Tc1 → (Tc1 → Bool → Option Bool) → Option Bool) (stack_Stack_Spillv1 : Int → Int → Int → Int → Int → Int → Int → Bool → (List Int) → (Bool → Int → Int → Int → Int → Int → Int → Int → Bool → (List Int) → Option Bool) → Option Bool) (ref39_Grow : Tc1 → Int → (Tc1 → Bool → Option Bool) → Option Bool) (stack_Stack_Growv1 : Int → Int → Int → Int → Int → Int → Int → Int → Bool → (List Int) → (Bool → Int → Int → Int → Int → Int → Int → Int → Bool → (List Int) → Option Bool) → (Bool → Int → Int → Int → Int → Int → Int → Int → Bool → (List Int) → Option Bool) → Option Bool) (t461 : Tc1) (t462 : Int × Int × Int × Unit) (n463 : Int) (n464 : Int) (n465 : Int) (n466 : Int) (n467 : Int) (n468 : Int) (n469 : Int) (b470 : Bool) (ns471 : List Int) (k1 : Tc1 → Bool → Int → Int → Int → Int → Int → Int → Int → Bool → (List Int) → Option Bool) (k2 : Tc1 → Bool → Int → Int → Int → Int → Int → Int → Int → Bool → (List Int) → Option Bool) : Option Bool :=
  (cond_ (t462.1 == (0 : Int)) (ref39_Push t461 t462.2.2.1
  (fun t472 b473 => (stack_Stack_Pushv1 t462.2.2.1 n463 n464 n465 n466 n467 n468 n469 b470 ns471
  (fun b596 n597 n598 n599 n600 n601 n602 n603 b604 ns605 => (k1 (t472.1, (t472.2.1, (t472.2.2.1, (t472.2.2.2.1, (t472.2.2.2.2.1, (t472.2.2.2.2.2.1, (t472.2.2.2.2.2.2.1, (t472.2.2.2.2.2.2.2.1, (t472.2.2.2.2.2.2.2.2.1, ()))))))))) (b596 == b473) n597 n598 n599 n600 n601 n602 n603 b604 ns605))))) (cond_ (t462.1 == (1 : Int)) (stack_Stack_Popv1 n463 n464 n465 n466 n467 n468 n469 b470 ns471
  (fun n718 b719 n720 n721 n722 n723 n724 n725 n726 b727 ns728 => (ref39_Pop t461
  (fun t729 n730 b731 => (cond_ (n718 == n730) (k1 (t729.1, (t729.2.1, (t729.2.2.1, (t729.2.2.2.1, (t729.2.2.2.2.1, (t729.2.2.2.2.2.1, (t729.2.2.2.2.2.2.1, (t729.2.2.2.2.2.2.2.1, (t729.2.2.2.2.2.2.2.2.1, ()))))))))) (b719 == b731) n720 n721 n722 n723 n724 n725 n726 b727 ns728) (k1 (t729.1, (t729.2.1, (t729.2.2.1, (t729.2.2.2.1, (t729.2.2.2.2.1, (t729.2.2.2.2.2.1, (t729.2.2.2.2.2.2.1, (t729.2.2.2.2.2.2.2.1, (t729.2.2.2.2.2.2.2.2.1, ()))))))))) false n720 n721 n722 n723 n724 n725 n726 b727 ns728)))))) (cond_ (t462.1 == (2 : Int)) (ref39_Move t461 t462.2.1 true
  (fun t732 b733 => (stack_Stack_Downv1 t462.2.1 n463 n464 n465 n466 n467 n468 n469 b470 ns471
  (fun b795 n796 n797 n798 n799 n800 n801 n802 b803 ns804 => (k1 (t732.1, (t732.2.1, (t732.2.2.1, (t732.2.2.2.1, (t732.2.2.2.2.1, (t732.2.2.2.2.2.1, (t732.2.2.2.2.2.2.1, (t732.2.2.2.2.2.2.2.1, (t732.2.2.2.2.2.2.2.2.1, ()))))))))) (b795 == b733) n796 n797 n798 n799 n800 n801 n802 b803 ns804))))) (cond_ (t462.1 == (3 : Int)) (ref39_Move t461 t462.2.1 false
  (fun t805 b806 => (stack_Stack_Upv1 t462.2.1 n463 n464 n465 n466 n467 n468 n469 b470 ns471
  (fun b837 n838 n839 n840 n841 n842 n843 n844 b845 ns846 => (k1 (t805.1, (t805.2.1, (t805.2.2.1, (t805.2.2.2.1, (t805.2.2.2.2.1, (t805.2.2.2.2.2.1, (t805.2.2.2.2.2.2.1, (t805.2.2.2.2.2.2.2.1, (t805.2.2.2.2.2.2.2.2.1, ()))))))))) (b837 == b806) n838 n839 n840 n841 n842 n843 n844 b845 ns846))))) (cond_ (t462.1 == (4 : Int)) (stack_Stack_Getv1 t462.2.1 n463 n464 n465 n466 n467 n468 n469 b470 ns471
  (fun n847 b848 n849 n850 n851 n852 n853 n854 n855 b856 ns857 => (ref39_Get t461 t462.2.1
  (fun n858 b859 => (cond_ (n847 == n858) (k1 (t461.1, (t461.2.1, (t461.2.2.1, (t461.2.2.2.1, (t461.2.2.2.2.1, (t461.2.2.2.2.2.1, (t461.2.2.2.2.2.2.1, (t461.2.2.2.2.2.2.2.1, (t461.2.2.2.2.2.2.2.2.1, ()))))))))) (b848 == b859) n849 n850 n851 n852 n853 n854 n855 b856 ns857) (k1 (t461.1, (t461.2.1, (t461.2.2.1, (t461.2.2.2.1, (t461.2.2.2.2.1, (t461.2.2.2.2.2.1, (t461.2.2.2.2.2.2.1, (t461.2.2.2.2.2.2.2.1, (t461.2.2.2.2.2.2.2.2.1, ()))))))))) false n849 n850 n851 n852 n853 n854 n855 b856 ns857)))))) (cond_ (t462.1 == (5 : Int)) (ref39_Set t461 t462.2.1 t462.2.2.1
  (fun t860 b861 => (stack_Stack_Setv1 t462.2.1 t462.2.2.1 n463 n464 n465 n466 n467 n468 n469 b470 ns471
  (fun b893 n894 n895 n896 n897 n898 n899 n900 b901 ns902 => (k1 (t860.1, (t860.2.1, (t860.2.2.1, (t860.2.2.2.1, (t860.2.2.2.2.1, (t860.2.2.2.2.2.1, (t860.2.2.2.2.2.2.1, (t860.2.2.2.2.2.2.2.1, (t860.2.2.2.2.2.2.2.2.1, ()))))))))) (b893 == b861) n894 n895 n896 n897 n898 n899 n900 b901 ns902))))) (cond_ (t462.1 == (6 : Int)) (ref39_Spill t461
  (fun t903 b904 => (stack_Stack_Spillv1 n463 n464 n465 n466 n467 n468 n469 b470 ns471
  (fun b924 n925 n926 n927 n928 n929 n930 n931 b932 ns933 => (k1 (t903.1, (t903.2.1, (t903.2.2.1, (t903.2.2.2.1, (t903.2.2.2.2.1, (t903.2.2.2.2.2.1, (t903.2.2.2.2.2.2.1, (t903.2.2.2.2.2.2.2.1, (t903.2.2.2.2.2.2.2.2.1, ()))))))))) (b924 == b904) n925 n926 n927 n928 n929 n930 n931 b932 ns933))))) (ref39_Grow t461 t462.2.1
  (fun t934 b935 => (stack_Stack_Growv1 t462.2.1 n463 n464 n465 n466 n467 n468 n469 b470 ns471
  (fun b1009 n1010 n1011 n1012 n1013 n1014 n1015 n1016 b1017 ns1018 => (k1 (t934.1, (t934.2.1, (t934.2.2.1, (t934.2.2.2.1, (t934.2.2.2.2.1, (t934.2.2.2.2.2.1, (t934.2.2.2.2.2.2.1, (t934.2.2.2.2.2.2.2.1, (t934.2.2.2.2.2.2.2.2.1, ()))))))))) (b1009 == b935) n1010 n1011 n1012 n1013 n1014 n1015 n1016 b1017 ns1018))
  (fun b1019 n1020 n1021 n1022 n1023 n1024 n1025 n1026 b1027 ns1028 => (k2 (t934.1, (t934.2.1, (t934.2.2.1, (t934.2.2.2.1, (t934.2.2.2.2.1, (t934.2.2.2.2.2.1, (t934.2.2.2.2.2.2.1, (t934.2.2.2.2.2.2.2.1, (t934.2.2.2.2.2.2.2.2.1, ()))))))))) (b1019 == b935) n1020 n1021 n1022 n1023 n1024 n1025 n1026 b1027 ns1028))))))))))))
noncomputable def law39_playv1 (t461 : Tc1) (t462 : Int × Int × Int × Unit) (n463 : Int) (n464 : Int) (n465 : Int) (n466 : Int) (n467 : Int) (n468 : Int) (n469 : Int) (b470 : Bool) (ns471 : List Int) (k1 : Tc1 → Bool → Int → Int → Int → Int → Int → Int → Int → Bool → (List Int) → Option Bool) (k2 : Tc1 → Bool → Int → Int → Int → Int → Int → Int → Int → Bool → (List Int) → Option Bool) : Option Bool := law39_playv1.body ref39_Push stack_Stack_Pushv1 stack_Stack_Popv1 ref39_Pop ref39_Move stack_Stack_Downv1 stack_Stack_Upv1 stack_Stack_Getv1 ref39_Get ref39_Set stack_Stack_Setv1 ref39_Spill stack_Stack_Spillv1 ref39_Grow stack_Stack_Growv1 t461 t462 n463 n464 n465 n466 n467 n468 n469 b470 ns471 k1 k2
noncomputable def law39_playv1.get (F : Tc1 → (Int × Int × Int × Unit) → Int → Int → Int → Int → Int → Int → Int → Bool → (List Int) → (Tc1 → Bool → Int → Int → Int → Int → Int → Int → Int → Bool → (List Int) → Option Bool) → (Tc1 → Bool → Int → Int → Int → Int → Int → Int → Int → Bool → (List Int) → Option Bool) → Option Bool) (e : Option Bool) (g : FuncId) (a : List AV) (h : Heap) (k : KR) : Option Bool := match g, a, h with
  | 18, [(.ptr [0, 0] 0 0), (.d ⟨(.st [(.sl 2 (.int .i64)), (.int .i64), (.int .i64), (.int .i64), (.int .i64), (.int .i64), (.int .i64), (.int .i64), .bool]), t461⟩), (.d ⟨(.st [(.int .i64), (.int .i64), (.int .i64)]), t462⟩)], [([0, 0], ⟨53, 8, (.mix [(.agg [(.ptr [0, 1] 0 0), (.d ⟨(.int .i64), n463⟩), (.d ⟨(.int .i64), n464⟩), (.d ⟨(.int .i64), n465⟩), (.d ⟨(.int .i64), n466⟩), (.d ⟨(.int .i64), n467⟩), (.d ⟨(.int .i64), n468⟩), (.d ⟨(.int .i64), n469⟩)])])⟩), ([0, 1], ⟨61, 2, (.mix [(.agg [(.ref [0, 2]), (.d ⟨.bool, b470⟩)])])⟩), ([0, 2], ⟨2, 1, (.data (.int .i64) ns471)⟩)] => F t461 t462 n463 n464 n465 n466 n467 n468 n469 b470 ns471 (fun y0 y1 y2 y3 y4 y5 y6 y7 y8 y9 y10 => k (.tup [(.d ⟨(.st [(.sl 2 (.int .i64)), (.int .i64), (.int .i64), (.int .i64), (.int .i64), (.int .i64), (.int .i64), (.int .i64), .bool]), y0⟩), (.d ⟨.bool, y1⟩)]) [([0, 0], ⟨53, 8, (.mix [(.agg [(.ptr [0, 1] 0 0), (.d ⟨(.int .i64), y2⟩), (.d ⟨(.int .i64), y3⟩), (.d ⟨(.int .i64), y4⟩), (.d ⟨(.int .i64), y5⟩), (.d ⟨(.int .i64), y6⟩), (.d ⟨(.int .i64), y7⟩), (.d ⟨(.int .i64), y8⟩)])])⟩), ([0, 1], ⟨61, 2, (.mix [(.agg [(.ref [0, 2]), (.d ⟨.bool, y9⟩)])])⟩), ([0, 2], ⟨2, 1, (.data (.int .i64) y10)⟩)]) (fun y0 y1 y2 y3 y4 y5 y6 y7 y8 y9 y10 => k (.tup [(.d ⟨(.st [(.sl 2 (.int .i64)), (.int .i64), (.int .i64), (.int .i64), (.int .i64), (.int .i64), (.int .i64), (.int .i64), .bool]), y0⟩), (.d ⟨.bool, y1⟩)]) [([0, 0], ⟨53, 8, (.mix [(.agg [(.ptr [0, 1] 0 0), (.d ⟨(.int .i64), y2⟩), (.d ⟨(.int .i64), y3⟩), (.d ⟨(.int .i64), y4⟩), (.d ⟨(.int .i64), y5⟩), (.d ⟨(.int .i64), y6⟩), (.d ⟨(.int .i64), y7⟩), (.d ⟨(.int .i64), y8⟩)])])⟩), ([0, 1], ⟨61, 2, (.mix [(.agg [(.ref [1, 0]), (.d ⟨.bool, y9⟩)])])⟩), ([1, 0], ⟨2, 1, (.data (.int .i64) y10)⟩)])
  | _, _, _ => e
noncomputable def law39_playv1.calls (F0 : Tc1 → Int → (Tc1 → Bool → Option Bool) → Option Bool) (F1 : Int → Int → Int → Int → Int → Int → Int → Int → Bool → (List Int) → (Bool → Int → Int → Int → Int → Int → Int → Int → Bool → (List Int) → Option Bool) → Option Bool) (F2 : Int → Int → Int → Int → Int → Int → Int → Bool → (List Int) → (Int → Bool → Int → Int → Int → Int → Int → Int → Int → Bool → (List Int) → Option Bool) → Option Bool) (F3 : Tc1 → (Tc1 → Int → Bool → Option Bool) → Option Bool) (F4 : Tc1 → Int → Bool → (Tc1 → Bool → Option Bool) → Option Bool) (F5 : Int → Int → Int → Int → Int → Int → Int → Int → Bool → (List Int) → (Bool → Int → Int → Int → Int → Int → Int → Int → Bool → (List Int) → Option Bool) → Option Bool) (F6 : Int → Int → Int → Int → Int → Int → Int → Int → Bool → (List Int) → (Bool → Int → Int → Int → Int → Int → Int → Int → Bool → (List Int) → Option Bool) → Option Bool) (F7 : Int → Int → Int → Int → Int → Int → Int → Int → Bool → (List Int) → (Int → Bool → Int → Int → Int → Int → Int → Int → Int → Bool → (List Int) → Option Bool) → Option Bool) (F8 : Tc1 → Int → (Int → Bool → Option Bool) → Option Bool) (F9 : Tc1 → Int → Int → (Tc1 → Bool → Option Bool) → Option Bool) (F10 : Int → Int → Int → Int → Int → Int → Int → Int → Int → Bool → (List Int) → (Bool → Int → Int → Int → Int → Int → Int → Int → Bool → (List Int) → Option Bool) → Option Bool) (F11 : Tc1 → (Tc1 → Bool → Option Bool) → Option Bool) (F12 : Int → Int → Int → Int → Int → Int → Int → Bool → (List Int) → (Bool → Int → Int → Int → Int → Int → Int → Int → Bool → (List Int) → Option Bool) → Option Bool) (F13 : Tc1 → Int → (Tc1 → Bool → Option Bool) → Option Bool) (F14 : Int → Int → Int → Int → Int → Int → Int → Int → Bool → (List Int) → (Bool → Int → Int → Int → Int → Int → Int → Int → Bool → (List Int) → Option Bool) → (Bool → Int → Int → Int → Int → Int → Int → Int → Bool → (List Int) → Option Bool) → Option Bool) : RecF := fun g a h k => (ref39_Push.get F0 (stack_Stack_Pushv1.get F1 (stack_Stack_Popv1.get F2 (ref39_Pop.get F3 (ref39_Move.get F4 (stack_Stack_Downv1.get F5 (stack_Stack_Upv1.get F6 (stack_Stack_Getv1.get F7 (ref39_Get.get F8 (ref39_Set.get F9 (stack_Stack_Setv1.get F10 (ref39_Spill.get F11 (stack_Stack_Spillv1.get F12 (ref39_Grow.get F13 (stack_Stack_Growv1.get F14 none g a h k) g a h k) g a h k) g a h k) g a h k) g a h k) g a h k) g a h k) g a h k) g a h k) g a h k) g a h k) g a h k) g a h k) g a h k)
noncomputable def law39_playv1.loops : LoopF := fun b => none
set_option maxRecDepth 100000 in
theorem law39_playv1.eq (F0 : Tc1 → Int → (Tc1 → Bool → Option Bool) → Option Bool) (F1 : Int → Int → Int → Int → Int → Int → Int → Int → Bool → (List Int) → (Bool → Int → Int → Int → Int → Int → Int → Int → Bool → (List Int) → Option Bool) → Option Bool) (F2 : Int → Int → Int → Int → Int → Int → Int → Bool → (List Int) → (Int → Bool → Int → Int → Int → Int → Int → Int → Int → Bool → (List Int) → Option Bool) → Option Bool) (F3 : Tc1 → (Tc1 → Int → Bool → Option Bool) → Option Bool) (F4 : Tc1 → Int → Bool → (Tc1 → Bool → Option Bool) → Option Bool) (F5 : Int → Int → Int → Int → Int → Int → Int → Int → Bool → (List Int) → (Bool → Int → Int → Int → Int → Int → Int → Int → Bool → (List Int) → Option Bool) → Option Bool) (F6 : Int → Int → Int → Int → Int → Int → Int → Int → Bool → (List Int) → (Bool → Int → Int → Int → Int → Int → Int → Int → Bool → (List Int) → Option Bool) → Option Bool) (F7 : Int → Int → Int → Int → Int → Int → Int → Int → Bool → (List Int) → (Int → Bool → Int → Int → Int → Int → Int → Int → Int → Bool → (List Int) → Option Bool) → Option Bool) (F8 : Tc1 → Int → (Int → Bool → Option Bool) → Option Bool) (F9 : Tc1 → Int → Int → (Tc1 → Bool → Option Bool) → Option Bool) (F10 : Int → Int → Int → Int → Int → Int → Int → Int → Int → Bool → (List Int) → (Bool → Int → Int → Int → Int → Int → Int → Int → Bool → (List Int) → Option Bool) → Option Bool) (F11 : Tc1 → (Tc1 → Bool → Option Bool) → Option Bool) (F12 : Int → Int → Int → Int → Int → Int → Int → Bool → (List Int) → (Bool → Int → Int → Int → Int → Int → Int → Int → Bool → (List Int) → Option Bool) → Option Bool) (F13 : Tc1 → Int → (Tc1 → Bool → Option Bool) → Option Bool) (F14 : Int → Int → Int → Int → Int → Int → Int → Int → Bool → (List Int) → (Bool → Int → Int → Int → Int → Int → Int → Int → Bool → (List Int) → Option Bool) → (Bool → Int → Int → Int → Int → Int → Int → Int → Bool → (List Int) → Option Bool) → Option Bool) (t461 : Tc1) (t462 : Int × Int × Int × Unit) (n463 : Int) (n464 : Int) (n465 : Int) (n466 : Int) (n467 : Int) (n468 : Int) (n469 : Int) (b470 : Bool) (ns471 : List Int) (k : KR) : execL Try.prog ht 18 (callfOf (law39_playv1.calls F0 F1 F2 F3 F4 F5 F6 F7 F8 F9 F10 F11 F12 F13 F14)) (law39_playv1.loops) 0 (codeOf Try.f18) ⟨[(.ptr [0, 0] 0 0), (.d ⟨(.st [(.sl 2 (.int .i64)), (.int .i64), (.int .i64), (.int .i64), (.int .i64), (.int .i64), (.int .i64), (.int .i64), .bool]), t461⟩), (.d ⟨(.st [(.int .i64), (.int .i64), (.int .i64)]), t462⟩)] ++ List.replicate (Try.f18.ntmps - ([(.ptr [0, 0] 0 0), (.d ⟨(.st [(.sl 2 (.int .i64)), (.int .i64), (.int .i64), (.int .i64), (.int .i64), (.int .i64), (.int .i64), (.int .i64), .bool]), t461⟩), (.d ⟨(.st [(.int .i64), (.int .i64), (.int .i64)]), t462⟩)] : List AV).length) .undef, [([0, 0], ⟨53, 8, (.mix [(.agg [(.ptr [0, 1] 0 0), (.d ⟨(.int .i64), n463⟩), (.d ⟨(.int .i64), n464⟩), (.d ⟨(.int .i64), n465⟩), (.d ⟨(.int .i64), n466⟩), (.d ⟨(.int .i64), n467⟩), (.d ⟨(.int .i64), n468⟩), (.d ⟨(.int .i64), n469⟩)])])⟩), ([0, 1], ⟨61, 2, (.mix [(.agg [(.ref [0, 2]), (.d ⟨.bool, b470⟩)])])⟩), ([0, 2], ⟨2, 1, (.data (.int .i64) ns471)⟩)], 2⟩ (leave Try.prog Try.f18 k) = law39_playv1.body F0 F1 F2 F3 F4 F5 F6 F7 F8 F9 F10 F11 F12 F13 F14 t461 t462 n463 n464 n465 n466 n467 n468 n469 b470 ns471 (fun y0 y1 y2 y3 y4 y5 y6 y7 y8 y9 y10 => k (.tup [(.d ⟨(.st [(.sl 2 (.int .i64)), (.int .i64), (.int .i64), (.int .i64), (.int .i64), (.int .i64), (.int .i64), (.int .i64), .bool]), y0⟩), (.d ⟨.bool, y1⟩)]) [([0, 0], ⟨53, 8, (.mix [(.agg [(.ptr [0, 1] 0 0), (.d ⟨(.int .i64), y2⟩), (.d ⟨(.int .i64), y3⟩), (.d ⟨(.int .i64), y4⟩), (.d ⟨(.int .i64), y5⟩), (.d ⟨(.int .i64), y6⟩), (.d ⟨(.int .i64), y7⟩), (.d ⟨(.int .i64), y8⟩)])])⟩), ([0, 1], ⟨61, 2, (.mix [(.agg [(.ref [0, 2]), (.d ⟨.bool, y9⟩)])])⟩), ([0, 2], ⟨2, 1, (.data (.int .i64) y10)⟩)]) (fun y0 y1 y2 y3 y4 y5 y6 y7 y8 y9 y10 => k (.tup [(.d ⟨(.st [(.sl 2 (.int .i64)), (.int .i64), (.int .i64), (.int .i64), (.int .i64), (.int .i64), (.int .i64), (.int .i64), .bool]), y0⟩), (.d ⟨.bool, y1⟩)]) [([0, 0], ⟨53, 8, (.mix [(.agg [(.ptr [0, 1] 0 0), (.d ⟨(.int .i64), y2⟩), (.d ⟨(.int .i64), y3⟩), (.d ⟨(.int .i64), y4⟩), (.d ⟨(.int .i64), y5⟩), (.d ⟨(.int .i64), y6⟩), (.d ⟨(.int .i64), y7⟩), (.d ⟨(.int .i64), y8⟩)])])⟩), ([0, 1], ⟨61, 2, (.mix [(.agg [(.ref [1, 0]), (.d ⟨.bool, y9⟩)])])⟩), ([1, 0], ⟨2, 1, (.data (.int .i64) y10)⟩)]) := by kernel_rfl
theorem law39_playv1.ok (d : Nat) (hd : 7 ≤ d) (t461 : Tc1) (t462 : Int × Int × Int × Unit) (n463 : Int) (n464 : Int) (n465 : Int) (n466 : Int) (n467 : Int) (n468 : Int) (n469 : Int) (b470 : Bool) (ns471 : List Int) (k : KR) (hx : law39_playv1 t461 t462 n463 n464 n465 n466 n467 n468 n469 b470 ns471 (fun y0 y1 y2 y3 y4 y5 y6 y7 y8 y9 y10 => k (.tup [(.d ⟨(.st [(.sl 2 (.int .i64)), (.int .i64), (.int .i64), (.int .i64), (.int .i64), (.int .i64), (.int .i64), (.int .i64), .bool]), y0⟩), (.d ⟨.bool, y1⟩)]) [([0, 0], ⟨53, 8, (.mix [(.agg [(.ptr [0, 1] 0 0), (.d ⟨(.int .i64), y2⟩), (.d ⟨(.int .i64), y3⟩), (.d ⟨(.int .i64), y4⟩), (.d ⟨(.int .i64), y5⟩), (.d ⟨(.int .i64), y6⟩), (.d ⟨(.int .i64), y7⟩), (.d ⟨(.int .i64), y8⟩)])])⟩), ([0, 1], ⟨61, 2, (.mix [(.agg [(.ref [0, 2]), (.d ⟨.bool, y9⟩)])])⟩), ([0, 2], ⟨2, 1, (.data (.int .i64) y10)⟩)]) (fun y0 y1 y2 y3 y4 y5 y6 y7 y8 y9 y10 => k (.tup [(.d ⟨(.st [(.sl 2 (.int .i64)), (.int .i64), (.int .i64), (.int .i64), (.int .i64), (.int .i64), (.int .i64), (.int .i64), .bool]), y0⟩), (.d ⟨.bool, y1⟩)]) [([0, 0], ⟨53, 8, (.mix [(.agg [(.ptr [0, 1] 0 0), (.d ⟨(.int .i64), y2⟩), (.d ⟨(.int .i64), y3⟩), (.d ⟨(.int .i64), y4⟩), (.d ⟨(.int .i64), y5⟩), (.d ⟨(.int .i64), y6⟩), (.d ⟨(.int .i64), y7⟩), (.d ⟨(.int .i64), y8⟩)])])⟩), ([0, 1], ⟨61, 2, (.mix [(.agg [(.ref [1, 0]), (.d ⟨.bool, y9⟩)])])⟩), ([1, 0], ⟨2, 1, (.data (.int .i64) y10)⟩)]) = some true) : callK Try.prog ht d 18 [(.ptr [0, 0] 0 0), (.d ⟨(.st [(.sl 2 (.int .i64)), (.int .i64), (.int .i64), (.int .i64), (.int .i64), (.int .i64), (.int .i64), (.int .i64), .bool]), t461⟩), (.d ⟨(.st [(.int .i64), (.int .i64), (.int .i64)]), t462⟩)] [([0, 0], ⟨53, 8, (.mix [(.agg [(.ptr [0, 1] 0 0), (.d ⟨(.int .i64), n463⟩), (.d ⟨(.int .i64), n464⟩), (.d ⟨(.int .i64), n465⟩), (.d ⟨(.int .i64), n466⟩), (.d ⟨(.int .i64), n467⟩), (.d ⟨(.int .i64), n468⟩), (.d ⟨(.int .i64), n469⟩)])])⟩), ([0, 1], ⟨61, 2, (.mix [(.agg [(.ref [0, 2]), (.d ⟨.bool, b470⟩)])])⟩), ([0, 2], ⟨2, 1, (.data (.int .i64) ns471)⟩)] k = some true := by
  obtain ⟨d, rfl⟩ : ∃ e, d = e + 1 := ⟨d - 1, by omega⟩
  exact fn_ok (c := codeOf Try.f18) Try.func18 (by kernel_rfl) (rec := law39_playv1.calls ref39_Push stack_Stack_Pushv1 stack_Stack_Popv1 ref39_Pop ref39_Move stack_Stack_Downv1 stack_Stack_Upv1 stack_Stack_Getv1 ref39_Get ref39_Set stack_Stack_Setv1 ref39_Spill stack_Stack_Spillv1 ref39_Grow stack_Stack_Growv1) (fun g a h k hx => by
    rcases ref39_Push.look d (by omega) hx with hx | hx
    rotate_left
    · exact hx
    rcases stack_Stack_Pushv1.look d (by omega) hx with hx | hx
    rotate_left
    · exact hx
    rcases stack_Stack_Popv1.look d (by omega) hx with hx | hx
    rotate_left
    · exact hx
    rcases ref39_Pop.look d (by omega) hx with hx | hx
    rotate_left
    · exact hx
    rcases ref39_Move.look d (by omega) hx with hx | hx
    rotate_left
    · exact hx
    rcases stack_Stack_Downv1.look d (by omega) hx with hx | hx
    rotate_left
    · exact hx
    rcases stack_Stack_Upv1.look d (by omega) hx with hx | hx
    rotate_left
    · exact hx
    rcases stack_Stack_Getv1.look d (by omega) hx with hx | hx
    rotate_left
    · exact hx
    rcases ref39_Get.look d (by omega) hx with hx | hx
    rotate_left
    · exact hx
    rcases ref39_Set.look d (by omega) hx with hx | hx
    rotate_left
    · exact hx
    rcases stack_Stack_Setv1.look d (by omega) hx with hx | hx
    rotate_left
    · exact hx
    rcases ref39_Spill.look d (by omega) hx with hx | hx
    rotate_left
    · exact hx
    rcases stack_Stack_Spillv1.look d (by omega) hx with hx | hx
    rotate_left
    · exact hx
    rcases ref39_Grow.look d (by omega) hx with hx | hx
    rotate_left
    · exact hx
    rcases stack_Stack_Growv1.look d (by omega) hx with hx | hx
    rotate_left
    · exact hx
    cases hx) (loopf := law39_playv1.loops) (by
    have e : loopsOf (law39_playv1.loops) 0 (codeOf Try.f18) = [] := by kernel_rfl
    rw [e]
    intro p hp
    cases hp) ((law39_playv1.eq ref39_Push stack_Stack_Pushv1 stack_Stack_Popv1 ref39_Pop ref39_Move stack_Stack_Downv1 stack_Stack_Upv1 stack_Stack_Getv1 ref39_Get ref39_Set stack_Stack_Setv1 ref39_Spill stack_Stack_Spillv1 ref39_Grow stack_Stack_Growv1 t461 t462 n463 n464 n465 n466 n467 n468 n469 b470 ns471 k).trans hx)
theorem law39_playv1.look (d : Nat) (hd : 7 ≤ d) {e : Option Bool} {g : FuncId} {a : List AV} {h : Heap} {k : KR} (hx : law39_playv1.get law39_playv1 e g a h k = some true) : e = some true ∨ callK Try.prog ht d g a h k = some true := by
  unfold law39_playv1.get at hx
  split at hx
  · exact .inr (law39_playv1.ok d hd _ _ _ _ _ _ _ _ _ _ _ _ hx)
  · exact .inl hx
/-- function 28: (*sheerleg/stack.Stack).Low -/
noncomputable def stack_Stack_Lowv1.body (stack_Stack_livev1 : Int → Int → Int → Int → Int → Int → Int → Bool → (List Int) → (Bool → Int → Int → Int → Int → Int → Int → Int → Bool → (List Int) → Option Bool) → Option Bool) (n1081 : Int) (n1082 : Int) (n1083 : Int) (n1084 : Int) (n1085 : Int) (n1086 : Int) (n1087 : Int) (b1088 : Bool) (ns1089 : List Int) (k1 : Int → Int → Int → Int → Int → Int → Int → Int → Bool → (List Int) → Option Bool) : Option Bool :=
  (stack_Stack_livev1 n1081 n1082 n1083 n1084 n1085 n1086 n1087 b1088 ns1089
  (fun b1090 n1091 n1092 n1093 n1094 n1095 n1096 n1097 b1098 ns1099 => (cond_ (! b1090) (k1 (0 : Int) n1091 n1092 n1093 n1094 n1095 n1096 n1097 b1098 ns1099) (k1 n1097 n1091 n1092 n1093 n1094 n1095 n1096 n1097 b1098 ns1099))))
noncomputable def stack_Stack_Lowv1 (n1081 : Int) (n1082 : Int) (n1083 : Int) (n1084 : Int) (n1085 : Int) (n1086 : Int) (n1087 : Int) (b1088 : Bool) (ns1089 : List Int) (k1 : Int → Int → Int → Int → Int → Int → Int → Int → Bool → (List Int) → Option Bool) : Option Bool := stack_Stack_Lowv1.body stack_Stack_livev1 n1081 n1082 n1083 n1084 n1085 n1086 n1087 b1088 ns1089 k1
noncomputable def stack_Stack_Lowv1.get (F : Int → Int → Int → Int → Int → Int → Int → Bool → (List Int) → (Int → Int → Int → Int → Int → Int → Int → Int → Bool → (List Int) → Option Bool) → Option Bool) (e : Option Bool) (g : FuncId) (a : List AV) (h : Heap) (k : KR) : Option Bool := match g, a, h with
  | 28, [(.ptr [0, 0] 0 0)], [([0, 0], ⟨53, 8, (.mix [(.agg [(.ptr [0, 1] 0 0), (.d ⟨(.int .i64), n1081⟩), (.d ⟨(.int .i64), n1082⟩), (.d ⟨(.int .i64), n1083⟩), (.d ⟨(.int .i64), n1084⟩), (.d ⟨(.int .i64), n1085⟩), (.d ⟨(.int .i64), n1086⟩), (.d ⟨(.int .i64), n1087⟩)])])⟩), ([0, 1], ⟨61, 2, (.mix [(.agg [(.ref [0, 2]), (.d ⟨.bool, b1088⟩)])])⟩), ([0, 2], ⟨2, 1, (.data (.int .i64) ns1089)⟩)] => F n1081 n1082 n1083 n1084 n1085 n1086 n1087 b1088 ns1089 (fun y0 y1 y2 y3 y4 y5 y6 y7 y8 y9 => k (.d ⟨(.int .i64), y0⟩) [([0, 0], ⟨53, 8, (.mix [(.agg [(.ptr [0, 1] 0 0), (.d ⟨(.int .i64), y1⟩), (.d ⟨(.int .i64), y2⟩), (.d ⟨(.int .i64), y3⟩), (.d ⟨(.int .i64), y4⟩), (.d ⟨(.int .i64), y5⟩), (.d ⟨(.int .i64), y6⟩), (.d ⟨(.int .i64), y7⟩)])])⟩), ([0, 1], ⟨61, 2, (.mix [(.agg [(.ref [0, 2]), (.d ⟨.bool, y8⟩)])])⟩), ([0, 2], ⟨2, 1, (.data (.int .i64) y9)⟩)])
  | _, _, _ => e
noncomputable def stack_Stack_Lowv1.calls (F0 : Int → Int → Int → Int → Int → Int → Int → Bool → (List Int) → (Bool → Int → Int → Int → Int → Int → Int → Int → Bool → (List Int) → Option Bool) → Option Bool) : RecF := fun g a h k => (stack_Stack_livev1.get F0 none g a h k)
noncomputable def stack_Stack_Lowv1.loops : LoopF := fun b => none
set_option maxRecDepth 100000 in
theorem stack_Stack_Lowv1.eq (F0 : Int → Int → Int → Int → Int → Int → Int → Bool → (List Int) → (Bool → Int → Int → Int → Int → Int → Int → Int → Bool → (List Int) → Option Bool) → Option Bool) (n1081 : Int) (n1082 : Int) (n1083 : Int) (n1084 : Int) (n1085 : Int) (n1086 : Int) (n1087 : Int) (b1088 : Bool) (ns1089 : List Int) (k : KR) : execL Try.prog ht 28 (callfOf (stack_Stack_Lowv1.calls F0)) (stack_Stack_Lowv1.loops) 0 (codeOf Try.f28) ⟨[(.ptr [0, 0] 0 0)] ++ List.replicate (Try.f28.ntmps - ([(.ptr [0, 0] 0 0)] : List AV).length) .undef, [([0, 0], ⟨53, 8, (.mix [(.agg [(.ptr [0, 1] 0 0), (.d ⟨(.int .i64), n1081⟩), (.d ⟨(.int .i64), n1082⟩), (.d ⟨(.int .i64), n1083⟩), (.d ⟨(.int .i64), n1084⟩), (.d ⟨(.int .i64), n1085⟩), (.d ⟨(.int .i64), n1086⟩), (.d ⟨(.int .i64), n1087⟩)])])⟩), ([0, 1], ⟨61, 2, (.mix [(.agg [(.ref [0, 2]), (.d ⟨.bool, b1088⟩)])])⟩), ([0, 2], ⟨2, 1, (.data (.int .i64) ns1089)⟩)], 2⟩ (leave Try.prog Try.f28 k) = stack_Stack_Lowv1.body F0 n1081 n1082 n1083 n1084 n1085 n1086 n1087 b1088 ns1089 (fun y0 y1 y2 y3 y4 y5 y6 y7 y8 y9 => k (.d ⟨(.int .i64), y0⟩) [([0, 0], ⟨53, 8, (.mix [(.agg [(.ptr [0, 1] 0 0), (.d ⟨(.int .i64), y1⟩), (.d ⟨(.int .i64), y2⟩), (.d ⟨(.int .i64), y3⟩), (.d ⟨(.int .i64), y4⟩), (.d ⟨(.int .i64), y5⟩), (.d ⟨(.int .i64), y6⟩), (.d ⟨(.int .i64), y7⟩)])])⟩), ([0, 1], ⟨61, 2, (.mix [(.agg [(.ref [0, 2]), (.d ⟨.bool, y8⟩)])])⟩), ([0, 2], ⟨2, 1, (.data (.int .i64) y9)⟩)]) := by kernel_rfl
theorem stack_Stack_Lowv1.ok (d : Nat) (hd : 2 ≤ d) (n1081 : Int) (n1082 : Int) (n1083 : Int) (n1084 : Int) (n1085 : Int) (n1086 : Int) (n1087 : Int) (b1088 : Bool) (ns1089 : List Int) (k : KR) (hx : stack_Stack_Lowv1 n1081 n1082 n1083 n1084 n1085 n1086 n1087 b1088 ns1089 (fun y0 y1 y2 y3 y4 y5 y6 y7 y8 y9 => k (.d ⟨(.int .i64), y0⟩) [([0, 0], ⟨53, 8, (.mix [(.agg [(.ptr [0, 1] 0 0), (.d ⟨(.int .i64), y1⟩), (.d ⟨(.int .i64), y2⟩), (.d ⟨(.int .i64), y3⟩), (.d ⟨(.int .i64), y4⟩), (.d ⟨(.int .i64), y5⟩), (.d ⟨(.int .i64), y6⟩), (.d ⟨(.int .i64), y7⟩)])])⟩), ([0, 1], ⟨61, 2, (.mix [(.agg [(.ref [0, 2]), (.d ⟨.bool, y8⟩)])])⟩), ([0, 2], ⟨2, 1, (.data (.int .i64) y9)⟩)]) = some true) : callK Try.prog ht d 28 [(.ptr [0, 0] 0 0)] [([0, 0], ⟨53, 8, (.mix [(.agg [(.ptr [0, 1] 0 0), (.d ⟨(.int .i64), n1081⟩), (.d ⟨(.int .i64), n1082⟩), (.d ⟨(.int .i64), n1083⟩), (.d ⟨(.int .i64), n1084⟩), (.d ⟨(.int .i64), n1085⟩), (.d ⟨(.int .i64), n1086⟩), (.d ⟨(.int .i64), n1087⟩)])])⟩), ([0, 1], ⟨61, 2, (.mix [(.agg [(.ref [0, 2]), (.d ⟨.bool, b1088⟩)])])⟩), ([0, 2], ⟨2, 1, (.data (.int .i64) ns1089)⟩)] k = some true := by
  obtain ⟨d, rfl⟩ : ∃ e, d = e + 1 := ⟨d - 1, by omega⟩
  exact fn_ok (c := codeOf Try.f28) Try.func28 (by kernel_rfl) (rec := stack_Stack_Lowv1.calls stack_Stack_livev1) (fun g a h k hx => by
    rcases stack_Stack_livev1.look d (by omega) hx with hx | hx
    rotate_left
    · exact hx
    cases hx) (loopf := stack_Stack_Lowv1.loops) (by
    have e : loopsOf (stack_Stack_Lowv1.loops) 0 (codeOf Try.f28) = [] := by kernel_rfl
    rw [e]
    intro p hp
    cases hp) ((stack_Stack_Lowv1.eq stack_Stack_livev1 n1081 n1082 n1083 n1084 n1085 n1086 n1087 b1088 ns1089 k).trans hx)
theorem stack_Stack_Lowv1.look (d : Nat) (hd : 2 ≤ d) {e : Option Bool} {g : FuncId} {a : List AV} {h : Heap} {k : KR} (hx : stack_Stack_Lowv1.get stack_Stack_Lowv1 e g a h k = some true) : e = some true ∨ callK Try.prog ht d g a h k = some true := by
  unfold stack_Stack_Lowv1.get at hx
  split at hx
  · exact .inr (stack_Stack_Lowv1.ok d hd _ _ _ _ _ _ _ _ _ _ hx)
  · exact .inl hx
/-- function 19: sheerleg/sheerleglaw39.told -/
noncomputable def law39_toldv1.body (stack_Stack_Segv1 : Int → Int → Int → Int → Int → Int → Int → Bool → (List Int) → ((Int × Int × Int × Unit) → Int → Int → Int → Int → Int → Int → Int → Bool → (List Int) → Option Bool) → Option Bool) (stack_Stack_SPv1 : Int → Int → Int → Int → Int → Int → Int → Bool → (List Int) → (Int → Int → Int → Int → Int → Int → Int → Int → Bool → (List Int) → Option Bool) → Option Bool) (stack_Stack_Idv1 : Int → Int → Int → Int → Int → Int → Int → Bool → (List Int) → (Int → Int → Int → Int → Int → Int → Int → Int → Bool → (List Int) → Option Bool) → Option Bool) (ref39_Id : Tc1 → (Int → Option Bool) → Option Bool) (stack_Stack_Lowv1 : Int → Int → Int → Int → Int → Int → Int → Bool → (List Int) → (Int → Int → Int → Int → Int → Int → Int → Int → Bool → (List Int) → Option Bool) → Option Bool) (t1040 : Tc1) (n1041 : Int) (n1042 : Int) (n1043 : Int) (n1044 : Int) (n1045 : Int) (n1046 : Int) (n1047 : Int) (b1048 : Bool) (ns1049 : List Int) (k1 : Bool → Int → Int → Int → Int → Int → Int → Int → Bool → (List Int) → Option Bool) : Option Bool :=
  (stack_Stack_Segv1 n1041 n1042 n1043 n1044 n1045 n1046 n1047 b1048 ns1049
  (fun t1050 n1051 n1052 n1053 n1054 n1055 n1056 n1057 b1058 ns1059 => (cond_ ((t1050.1 == t1040.2.1) && ((t1050.2.1 == t1040.2.2.1) && ((t1050.2.2.1 == t1040.2.2.2.1) && true))) (stack_Stack_SPv1 n1051 n1052 n1053 n1054 n1055 n1056 n1057 b1058 ns1059
  (fun n1060 n1061 n1062 n1063 n1064 n1065 n1066 n1067 b1068 ns1069 => (cond_ (n1060 == t1040.2.2.2.2.1) (stack_Stack_Idv1 n1061 n1062 n1063 n1064 n1065 n1066 n1067 b1068 ns1069
  (fun n1070 n1071 n1072 n1073 n1074 n1075 n1076 n1077 b1078 ns1079 => (ref39_Id t1040
  (fun n1080 => (cond_ (n1070 == n1080) (stack_Stack_Lowv1 n1071 n1072 n1073 n1074 n1075 n1076 n1077 b1078 ns1079
  (fun n1100 n1101 n1102 n1103 n1104 n1105 n1106 n1107 b1108 ns1109 => (k1 (n1100 == t1040.2.2.2.2.2.2.2.1) n1101 n1102 n1103 n1104 n1105 n1106 n1107 b1108 ns1109))) (k1 false n1071 n1072 n1073 n1074 n1075 n1076 n1077 b1078 ns1079)))))) (k1 false n1061 n1062 n1063 n1064 n1065 n1066 n1067 b1068 ns1069)))) (k1 false n1051 n1052 n1053 n1054 n1055 n1056 n1057 b1058 ns1059))))
noncomputable def law39_toldv1 (t1040 : Tc1) (n1041 : Int) (n1042 : Int) (n1043 : Int) (n1044 : Int) (n1045 : Int) (n1046 : Int) (n1047 : Int) (b1048 : Bool) (ns1049 : List Int) (k1 : Bool → Int → Int → Int → Int → Int → Int → Int → Bool → (List Int) → Option Bool) : Option Bool := law39_toldv1.body stack_Stack_Segv1 stack_Stack_SPv1 stack_Stack_Idv1 ref39_Id stack_Stack_Lowv1 t1040 n1041 n1042 n1043 n1044 n1045 n1046 n1047 b1048 ns1049 k1
noncomputable def law39_toldv1.get (F : Tc1 → Int → Int → Int → Int → Int → Int → Int → Bool → (List Int) → (Bool → Int → Int → Int → Int → Int → Int → Int → Bool → (List Int) → Option Bool) → Option Bool) (e : Option Bool) (g : FuncId) (a : List AV) (h : Heap) (k : KR) : Option Bool := match g, a, h with
  | 19, [(.ptr [0, 0] 0 0), (.d ⟨(.st [(.sl 2 (.int .i64)), (.int .i64), (.int .i64), (.int .i64), (.int .i64), (.int .i64), (.int .i64), (.int .i64), .bool]), t1040⟩)], [([0, 0], ⟨53, 8, (.mix [(.agg [(.ptr [0, 1] 0 0), (.d ⟨(.int .i64), n1041⟩), (.d ⟨(.int .i64), n1042⟩), (.d ⟨(.int .i64), n1043⟩), (.d ⟨(.int .i64), n1044⟩), (.d ⟨(.int .i64), n1045⟩), (.d ⟨(.int .i64), n1046⟩), (.d ⟨(.int .i64), n1047⟩)])])⟩), ([0, 1], ⟨61, 2, (.mix [(.agg [(.ref [0, 2]), (.d ⟨.bool, b1048⟩)])])⟩), ([0, 2], ⟨2, 1, (.data (.int .i64) ns1049)⟩)] => F t1040 n1041 n1042 n1043 n1044 n1045 n1046 n1047 b1048 ns1049 (fun y0 y1 y2 y3 y4 y5 y6 y7 y8 y9 => k (.d ⟨.bool, y0⟩) [([0, 0], ⟨53, 8, (.mix [(.agg [(.ptr [0, 1] 0 0), (.d ⟨(.int .i64), y1⟩), (.d ⟨(.int .i64), y2⟩), (.d ⟨(.int .i64), y3⟩), (.d ⟨(.int .i64), y4⟩), (.d ⟨(.int .i64), y5⟩), (.d ⟨(.int .i64), y6⟩), (.d ⟨(.int .i64), y7⟩)])])⟩), ([0, 1], ⟨61, 2, (.mix [(.agg [(.ref [0, 2]), (.d ⟨.bool, y8⟩)])])⟩), ([0, 2], ⟨2, 1, (.data (.int .i64) y9)⟩)])
  | _, _, _ => e
noncomputable def law39_toldv1.calls (F0 : Int → Int → Int → Int → Int → Int → Int → Bool → (List Int) → ((Int × Int × Int × Unit) → Int → Int → Int → Int → Int → Int → Int → Bool → (List Int) → Option Bool) → Option Bool) (F1 : Int → Int → Int → Int → Int → Int → Int → Bool → (List Int) → (Int → Int → Int → Int → Int → Int → Int → Int → Bool → (List Int) → Option Bool) → Option Bool) (F2 : Int → Int → Int → Int → Int → Int → Int → Bool → (List Int) → (Int → Int → Int → Int → Int → Int → Int → Int → Bool → (List Int) → Option Bool) → Option Bool) (F3 : Tc1 → (Int → Option Bool) → Option Bool) (F4 : Int → Int → Int → Int → Int → Int → Int → Bool → (List Int) → (Int → Int → Int → Int → Int → Int → Int → Int → Bool → (List Int) → Option Bool) → Option Bool) : RecF := fun g a h k => (stack_Stack_Segv1.get F0 (stack_Stack_SPv1.get F1 (stack_Stack_Idv1.get F2 (ref39_Id.get F3 (stack_Stack_Lowv1.get F4 none g a h k) g a h k) g a h k) g a h k) g a h k)
noncomputable def law39_toldv1.loops : LoopF := fun b => none
set_option maxRecDepth 100000 in
theorem law39_toldv1.eq (F0 : Int → Int → Int → Int → Int → Int → Int → Bool → (List Int) → ((Int × Int × Int × Unit) → Int → Int → Int → Int → Int → Int → Int → Bool → (List Int) → Option Bool) → Option Bool) (F1 : Int → Int → Int → Int → Int → Int → Int → Bool → (List Int) → (Int → Int → Int → Int → Int → Int → Int → Int → Bool → (List Int) → Option Bool) → Option Bool) (F2 : Int → Int → Int → Int → Int → Int → Int → Bool → (List Int) → (Int → Int → Int → Int → Int → Int → Int → Int → Bool → (List Int) → Option Bool) → Option Bool) (F3 : Tc1 → (Int → Option Bool) → Option Bool) (F4 : Int → Int → Int → Int → Int → Int → Int → Bool → (List Int) → (Int → Int → Int → Int → Int → Int → Int → Int → Bool → (List Int) → Option Bool) → Option Bool) (t1040 : Tc1) (n1041 : Int) (n1042 : Int) (n1043 : Int) (n1044 : Int) (n1045 : Int) (n1046 : Int) (n1047 : Int) (b1048 : Bool) (ns1049 : List Int) (k : KR) : execL Try.prog ht 19 (callfOf (law39_toldv1.calls F0 F1 F2 F3 F4)) (law39_toldv1.loops) 0 (codeOf Try.f19) ⟨[(.ptr [0, 0] 0 0), (.d ⟨(.st [(.sl 2 (.int .i64)), (.int .i64), (.int .i64), (.int .i64), (.int .i64), (.int .i64), (.int .i64), (.int .i64), .bool]), t1040⟩)] ++ List.replicate (Try.f19.ntmps - ([(.ptr [0, 0] 0 0), (.d ⟨(.st [(.sl 2 (.int .i64)), (.int .i64), (.int .i64), (.int .i64), (.int .i64), (.int .i64), (.int .i64), (.int .i64), .bool]), t1040⟩)] : List AV).length) .undef, [([0, 0], ⟨53, 8, (.mix [(.agg [(.ptr [0, 1] 0 0), (.d ⟨(.int .i64), n1041⟩), (.d ⟨(.int .i64), n1042⟩), (.d ⟨(.int .i64), n1043⟩), (.d ⟨(.int .i64), n1044⟩), (.d ⟨(.int .i64), n1045⟩), (.d ⟨(.int .i64), n1046⟩), (.d ⟨(.int .i64), n1047⟩)])])⟩), ([0, 1], ⟨61, 2, (.mix [(.agg [(.ref [0, 2]), (.d ⟨.bool, b1048⟩)])])⟩), ([0, 2], ⟨2, 1, (.data (.int .i64) ns1049)⟩)], 2⟩ (leave Try.prog Try.f19 k) = law39_toldv1.body F0 F1 F2 F3 F4 t1040 n1041 n1042 n1043 n1044 n1045 n1046 n1047 b1048 ns1049 (fun y0 y1 y2 y3 y4 y5 y6 y7 y8 y9 => k (.d ⟨.bool, y0⟩) [([0, 0], ⟨53, 8, (.mix [(.agg [(.ptr [0, 1] 0 0), (.d ⟨(.int .i64), y1⟩), (.d ⟨(.int .i64), y2⟩), (.d ⟨(.int .i64), y3⟩), (.d ⟨(.int .i64), y4⟩), (.d ⟨(.int .i64), y5⟩), (.d ⟨(.int .i64), y6⟩), (.d ⟨(.int .i64), y7⟩)])])⟩), ([0, 1], ⟨61, 2, (.mix [(.agg [(.ref [0, 2]), (.d ⟨.bool, y8⟩)])])⟩), ([0, 2], ⟨2, 1, (.data (.int .i64) y9)⟩)]) := by kernel_rfl
theorem law39_toldv1.ok (d : Nat) (hd : 4 ≤ d) (t1040 : Tc1) (n1041 : Int) (n1042 : Int) (n1043 : Int) (n1044 : Int) (n1045 : Int) (n1046 : Int) (n1047 : Int) (b1048 : Bool) (ns1049 : List Int) (k : KR) (hx : law39_toldv1 t1040 n1041 n1042 n1043 n1044 n1045 n1046 n1047 b1048 ns1049 (fun y0 y1 y2 y3 y4 y5 y6 y7 y8 y9 => k (.d ⟨.bool, y0⟩) [([0, 0], ⟨53, 8, (.mix [(.agg [(.ptr [0, 1] 0 0), (.d ⟨(.int .i64), y1⟩), (.d ⟨(.int .i64), y2⟩), (.d ⟨(.int .i64), y3⟩), (.d ⟨(.int .i64), y4⟩), (.d ⟨(.int .i64), y5⟩), (.d ⟨(.int .i64), y6⟩), (.d ⟨(.int .i64), y7⟩)])])⟩), ([0, 1], ⟨61, 2, (.mix [(.agg [(.ref [0, 2]), (.d ⟨.bool, y8⟩)])])⟩), ([0, 2], ⟨2, 1, (.data (.int .i64) y9)⟩)]) = some true) : callK Try.prog ht d 19 [(.ptr [0, 0] 0 0), (.d ⟨(.st [(.sl 2 (.int .i64)), (.int .i64), (.int .i64), (.int .i64), (.int .i64), (.int .i64), (.int .i64), (.int .i64), .bool]), t1040⟩)] [([0, 0], ⟨53, 8, (.mix [(.agg [(.ptr [0, 1] 0 0), (.d ⟨(.int .i64), n1041⟩), (.d ⟨(.int .i64), n1042⟩), (.d ⟨(.int .i64), n1043⟩), (.d ⟨(.int .i64), n1044⟩), (.d ⟨(.int .i64), n1045⟩), (.d ⟨(.int .i64), n1046⟩), (.d ⟨(.int .i64), n1047⟩)])])⟩), ([0, 1], ⟨61, 2, (.mix [(.agg [(.ref [0, 2]), (.d ⟨.bool, b1048⟩)])])⟩), ([0, 2], ⟨2, 1, (.data (.int .i64) ns1049)⟩)] k = some true := by
  obtain ⟨d, rfl⟩ : ∃ e, d = e + 1 := ⟨d - 1, by omega⟩
  exact fn_ok (c := codeOf Try.f19) Try.func19 (by kernel_rfl) (rec := law39_toldv1.calls stack_Stack_Segv1 stack_Stack_SPv1 stack_Stack_Idv1 ref39_Id stack_Stack_Lowv1) (fun g a h k hx => by
    rcases stack_Stack_Segv1.look d (by omega) hx with hx | hx
    rotate_left
    · exact hx
    rcases stack_Stack_SPv1.look d (by omega) hx with hx | hx
    rotate_left
    · exact hx
    rcases stack_Stack_Idv1.look d (by omega) hx with hx | hx
    rotate_left
    · exact hx
    rcases ref39_Id.look d (by omega) hx with hx | hx
    rotate_left
    · exact hx
    rcases stack_Stack_Lowv1.look d (by omega) hx with hx | hx
    rotate_left
    · exact hx
    cases hx) (loopf := law39_toldv1.loops) (by
    have e : loopsOf (law39_toldv1.loops) 0 (codeOf Try.f19) = [] := by kernel_rfl
    rw [e]
    intro p hp
    cases hp) ((law39_toldv1.eq stack_Stack_Segv1 stack_Stack_SPv1 stack_Stack_Idv1 ref39_Id stack_Stack_Lowv1 t1040 n1041 n1042 n1043 n1044 n1045 n1046 n1047 b1048 ns1049 k).trans hx)
theorem law39_toldv1.look (d : Nat) (hd : 4 ≤ d) {e : Option Bool} {g : FuncId} {a : List AV} {h : Heap} {k : KR} (hx : law39_toldv1.get law39_toldv1 e g a h k = some true) : e = some true ∨ callK Try.prog ht d g a h k = some true := by
  unfold law39_toldv1.get at hx
  split at hx
  · exact .inr (law39_toldv1.ok d hd _ _ _ _ _ _ _ _ _ _ _ hx)
  · exact .inl hx
/-- function 4: the loop in block 0 -/
noncomputable def law39_StackPlays_L0v1.body (law39_StackPlays_L0v1 : Tc0 → Bool → Int → Bool → (List Int) → Int → Int → Int → Int → Int → Int → Int → (List Int) → Int → Int → Int → Int → Int → Int → Int → Bool → (Bool → Option Bool) → (Bool → (List Int) → (List Int) → Int → Int → Int → Int → Int → Int → Int → Bool → Option Bool) → Option Bool) (law39_playv1 : Tc1 → (Int × Int × Int × Unit) → Int → Int → Int → Int → Int → Int → Int → Bool → (List Int) → (Tc1 → Bool → Int → Int → Int → Int → Int → Int → Int → Bool → (List Int) → Option Bool) → (Tc1 → Bool → Int → Int → Int → Int → Int → Int → Int → Bool → (List Int) → Option Bool) → Option Bool) (law39_toldv1 : Tc1 → Int → Int → Int → Int → Int → Int → Int → Bool → (List Int) → (Bool → Int → Int → Int → Int → Int → Int → Int → Bool → (List Int) → Option Bool) → Option Bool) (ts440 : Tc0) (b441 : Bool) (n442 : Int) (b443 : Bool) (ns444 : List Int) (n445 : Int) (n446 : Int) (n447 : Int) (n448 : Int) (n449 : Int) (n450 : Int) (n451 : Int) (l452 : List Int) (n453 : Int) (n454 : Int) (n455 : Int) (n456 : Int) (n457 : Int) (n458 : Int) (n459 : Int) (b460 : Bool) (k1 : Bool → Option Bool) (k2 : Bool → (List Int) → (List Int) → Int → Int → Int → Int → Int → Int → Int → Bool → Option Bool) : Option Bool :=
  (cond_ b441 (cond_ (decide (n442 < (((List.length ts440) : Nat) : Int))) (cond_ ((decide ((0 : Int) ≤ n442)) && (decide (n442 < (((List.length ts440) : Nat) : Int)))) (law39_playv1 (l452, (n453, (n454, (n455, (n456, (n457, (n458, (n459, (b460, ()))))))))) (List.getD ts440 (Int.toNat n442) ((0 : Int), ((0 : Int), ((0 : Int), ())))) n445 n446 n447 n448 n449 n450 n451 b443 ns444
  (fun t1029 b1030 n1031 n1032 n1033 n1034 n1035 n1036 n1037 b1038 ns1039 => (cond_ (! (! b1030)) (law39_toldv1 (t1029.1, (t1029.2.1, (t1029.2.2.1, (t1029.2.2.2.1, (t1029.2.2.2.2.1, (t1029.2.2.2.2.2.1, (t1029.2.2.2.2.2.2.1, (t1029.2.2.2.2.2.2.2.1, (t1029.2.2.2.2.2.2.2.2.1, ()))))))))) n1031 n1032 n1033 n1034 n1035 n1036 n1037 b1038 ns1039
  (fun b1110 n1111 n1112 n1113 n1114 n1115 n1116 n1117 b1118 ns1119 => (cond_ (! b1110) (k1 false) (law39_StackPlays_L0v1 ts440 b441 (IntKind.wrap .i64 (n442 + (1 : Int))) b1118 ns1119 n1111 n1112 n1113 n1114 n1115 n1116 n1117 t1029.1 t1029.2.1 t1029.2.2.1 t1029.2.2.2.1 t1029.2.2.2.2.1 t1029.2.2.2.2.2.1 t1029.2.2.2.2.2.2.1 t1029.2.2.2.2.2.2.2.1 t1029.2.2.2.2.2.2.2.2.1 k1 k2)))) (k1 false)))
  (fun t1120 b1121 n1122 n1123 n1124 n1125 n1126 n1127 n1128 b1129 ns1130 => (cond_ (! (! b1121)) (law39_toldv1 (t1120.1, (t1120.2.1, (t1120.2.2.1, (t1120.2.2.2.1, (t1120.2.2.2.2.1, (t1120.2.2.2.2.2.1, (t1120.2.2.2.2.2.2.1, (t1120.2.2.2.2.2.2.2.1, (t1120.2.2.2.2.2.2.2.2.1, ()))))))))) n1122 n1123 n1124 n1125 n1126 n1127 n1128 b1129 ns1130
  (fun b1131 n1132 n1133 n1134 n1135 n1136 n1137 n1138 b1139 ns1140 => (cond_ (! b1131) (k1 false) (law39_StackPlays_L0v1 ts440 b441 (IntKind.wrap .i64 (n442 + (1 : Int))) b1139 ns1140 n1132 n1133 n1134 n1135 n1136 n1137 n1138 t1120.1 t1120.2.1 t1120.2.2.1 t1120.2.2.2.1 t1120.2.2.2.2.1 t1120.2.2.2.2.2.1 t1120.2.2.2.2.2.2.1 t1120.2.2.2.2.2.2.2.1 t1120.2.2.2.2.2.2.2.2.1 k1 k2)))) (k1 false)))) none) (k2 b443 ns444 l452 n453 n454 n455 n456 n457 n458 n459 b460)) (k2 b443 ns444 l452 n453 n454 n455 n456 n457 n458 n459 b460))
noncomputable def law39_StackPlays_L0v1 : Nat → Tc0 → Bool → Int → Bool → (List Int) → Int → Int → Int → Int → Int → Int → Int → (List Int) → Int → Int → Int → Int → Int → Int → Int → Bool → (Bool → Option Bool) → (Bool → (List Int) → (List Int) → Int → Int → Int → Int → Int → Int → Int → Bool → Option Bool) → Option Bool
  | 0 => fun _ _ _ _ _ _ _ _ _ _ _ _ _ _ _ _ _ _ _ _ _ _ _ => none
  | n + 1 => law39_StackPlays_L0v1.body (law39_StackPlays_L0v1 n) law39_playv1 law39_toldv1
noncomputable def law39_StackPlays_L0v1.get (F : Tc0 → Bool → Int → Bool → (List Int) → Int → Int → Int → Int → Int → Int → Int → (List Int) → Int → Int → Int → Int → Int → Int → Int → Bool → (Bool → Option Bool) → (Bool → (List Int) → (List Int) → Int → Int → Int → Int → Int → Int → Int → Bool → Option Bool) → Option Bool) (e : Option Bool) (st : St) (k : KE) : Option Bool := match st with
  | ⟨sl, hp, m⟩ => match Nat.beq m 2, pickS 123 [2, 7, 8, 9, 10, 12] sl, hp with
    | true, some [(.bv 0 47 (.st [(.int .i64), (.int .i64), (.int .i64)]) ts440), (.ptr [1, 0] 0 0), (.ptr [1, 2] 0 0), (.d ⟨.bool, b441⟩), (.ptr [1, 3] 0 0), (.d ⟨(.int .i64), n442⟩)], [([1, 0], ⟨61, 2, (.mix [(.agg [(.ref [1, 1]), (.d ⟨.bool, b443⟩)])])⟩), ([1, 1], ⟨2, 1, (.data (.int .i64) ns444)⟩), ([1, 2], ⟨53, 8, (.mix [(.agg [(.ptr [1, 0] 0 0), (.d ⟨(.int .i64), n445⟩), (.d ⟨(.int .i64), n446⟩), (.d ⟨(.int .i64), n447⟩), (.d ⟨(.int .i64), n448⟩), (.d ⟨(.int .i64), n449⟩), (.d ⟨(.int .i64), n450⟩), (.d ⟨(.int .i64), n451⟩)])])⟩), ([1, 3], ⟨42, 9, (.mix [(.agg [(.d ⟨(.sl 2 (.int .i64)), l452⟩), (.d ⟨(.int .i64), n453⟩), (.d ⟨(.int .i64), n454⟩), (.d ⟨(.int .i64), n455⟩), (.d ⟨(.int .i64), n456⟩), (.d ⟨(.int .i64), n457⟩), (.d ⟨(.int .i64), n458⟩), (.d ⟨(.int .i64), n459⟩), (.d ⟨.bool, b460⟩)])])⟩)] => F ts440 b441 n442 b443 ns444 n445 n446 n447 n448 n449 n450 n451 l452 n453 n454 n455 n456 n457 n458 n459 b460 (fun y0 => k .ret ⟨fillS 123 [6] [(.d ⟨.bool, y0⟩)], [], 2⟩) (fun y0 y1 y2 y3 y4 y5 y6 y7 y8 y9 y10 => k (.exit 0) ⟨fillS 123 [7, 10] [(.ptr [1, 0] 0 0), (.ptr [1, 2] 0 0)], [([1, 0], ⟨61, 2, (.mix [(.agg [(.ref [1, 1]), (.d ⟨.bool, y0⟩)])])⟩), ([1, 1], ⟨2, 1, (.data (.int .i64) y1)⟩), ([1, 2], ⟨42, 9, (.mix [(.agg [(.d ⟨(.sl 2 (.int .i64)), y2⟩), (.d ⟨(.int .i64), y3⟩), (.d ⟨(.int .i64), y4⟩), (.d ⟨(.int .i64), y5⟩), (.d ⟨(.int .i64), y6⟩), (.d ⟨(.int .i64), y7⟩), (.d ⟨(.int .i64), y8⟩), (.d ⟨(.int .i64), y9⟩), (.d ⟨.bool, y10⟩)])])⟩)], 2⟩)
    | _, _, _ => e
noncomputable def law39_StackPlays_L0v1.calls (F0 : Tc1 → (Int × Int × Int × Unit) → Int → Int → Int → Int → Int → Int → Int → Bool → (List Int) → (Tc1 → Bool → Int → Int → Int → Int → Int → Int → Int → Bool → (List Int) → Option Bool) → (Tc1 → Bool → Int → Int → Int → Int → Int → Int → Int → Bool → (List Int) → Option Bool) → Option Bool) (F1 : Tc1 → Int → Int → Int → Int → Int → Int → Int → Bool → (List Int) → (Bool → Int → Int → Int → Int → Int → Int → Int → Bool → (List Int) → Option Bool) → Option Bool) : RecF := fun g a h k => (law39_playv1.get F0 (law39_toldv1.get F1 none g a h k) g a h k)
noncomputable def law39_StackPlays_L0v1.loops : LoopF := fun b => none
set_option maxRecDepth 100000 in
theorem law39_StackPlays_L0v1.step (S : Tc0 → Bool → Int → Bool → (List Int) → Int → Int → Int → Int → Int → Int → Int → (List Int) → Int → Int → Int → Int → Int → Int → Int → Bool → (Bool → Option Bool) → (Bool → (List Int) → (List Int) → Int → Int → Int → Int → Int → Int → Int → Bool → Option Bool) → Option Bool) (F0 : Tc1 → (Int × Int × Int × Unit) → Int → Int → Int → Int → Int → Int → Int → Bool → (List Int) → (Tc1 → Bool → Int → Int → Int → Int → Int → Int → Int → Bool → (List Int) → Option Bool) → (Tc1 → Bool → Int → Int → Int → Int → Int → Int → Int → Bool → (List Int) → Option Bool) → Option Bool) (F1 : Tc1 → Int → Int → Int → Int → Int → Int → Int → Bool → (List Int) → (Bool → Int → Int → Int → Int → Int → Int → Int → Bool → (List Int) → Option Bool) → Option Bool) (ts440 : Tc0) (b441 : Bool) (n442 : Int) (b443 : Bool) (ns444 : List Int) (n445 : Int) (n446 : Int) (n447 : Int) (n448 : Int) (n449 : Int) (n450 : Int) (n451 : Int) (l452 : List Int) (n453 : Int) (n454 : Int) (n455 : Int) (n456 : Int) (n457 : Int) (n458 : Int) (n459 : Int) (b460 : Bool) (k : KE) : execL Try.prog ht 4 (callfOf (law39_StackPlays_L0v1.calls F0 F1)) (law39_StackPlays_L0v1.loops) 0 (loopAt 0 (codeOf Try.f4)) ⟨fillS 123 [2, 7, 8, 9, 10, 12] [(.bv 0 47 (.st [(.int .i64), (.int .i64), (.int .i64)]) ts440), (.ptr [1, 0] 0 0), (.ptr [1, 2] 0 0), (.d ⟨.bool, b441⟩), (.ptr [1, 3] 0 0), (.d ⟨(.int .i64), n442⟩)], [([1, 0], ⟨61, 2, (.mix [(.agg [(.ref [1, 1]), (.d ⟨.bool, b443⟩)])])⟩), ([1, 1], ⟨2, 1, (.data (.int .i64) ns444)⟩), ([1, 2], ⟨53, 8, (.mix [(.agg [(.ptr [1, 0] 0 0), (.d ⟨(.int .i64), n445⟩), (.d ⟨(.int .i64), n446⟩), (.d ⟨(.int .i64), n447⟩), (.d ⟨(.int .i64), n448⟩), (.d ⟨(.int .i64), n449⟩), (.d ⟨(.int .i64), n450⟩), (.d ⟨(.int .i64), n451⟩)])])⟩), ([1, 3], ⟨42, 9, (.mix [(.agg [(.d ⟨(.sl 2 (.int .i64)), l452⟩), (.d ⟨(.int .i64), n453⟩), (.d ⟨(.int .i64), n454⟩), (.d ⟨(.int .i64), n455⟩), (.d ⟨(.int .i64), n456⟩), (.d ⟨(.int .i64), n457⟩), (.d ⟨(.int .i64), n458⟩), (.d ⟨(.int .i64), n459⟩), (.d ⟨.bool, b460⟩)])])⟩)], 2⟩ (again (law39_StackPlays_L0v1.get S none) (plan Try.prog (ht 4 0)) k) = law39_StackPlays_L0v1.body S F0 F1 ts440 b441 n442 b443 ns444 n445 n446 n447 n448 n449 n450 n451 l452 n453 n454 n455 n456 n457 n458 n459 b460 (fun y0 => k .ret ⟨fillS 123 [6] [(.d ⟨.bool, y0⟩)], [], 2⟩) (fun y0 y1 y2 y3 y4 y5 y6 y7 y8 y9 y10 => k (.exit 0) ⟨fillS 123 [7, 10] [(.ptr [1, 0] 0 0), (.ptr [1, 2] 0 0)], [([1, 0], ⟨61, 2, (.mix [(.agg [(.ref [1, 1]), (.d ⟨.bool, y0⟩)])])⟩), ([1, 1], ⟨2, 1, (.data (.int .i64) y1)⟩), ([1, 2], ⟨42, 9, (.mix [(.agg [(.d ⟨(.sl 2 (.int .i64)), y2⟩), (.d ⟨(.int .i64), y3⟩), (.d ⟨(.int .i64), y4⟩), (.d ⟨(.int .i64), y5⟩), (.d ⟨(.int .i64), y6⟩), (.d ⟨(.int .i64), y7⟩), (.d ⟨(.int .i64), y8⟩), (.d ⟨(.int .i64), y9⟩), (.d ⟨.bool, y10⟩)])])⟩)], 2⟩) := by kernel_rfl
theorem law39_StackPlays_L0v1.ok (d : Nat) (hd : 7 ≤ d) : ∀ n st k, law39_StackPlays_L0v1.get (law39_StackPlays_L0v1 n) none st k = some true → iter n (plan Try.prog (ht 4 0)) (fun st k => execK Try.prog ht 4 (callfOf (callK Try.prog ht d)) 0 (loopAt 0 (codeOf Try.f4)) st k) st k = some true :=
  loop_ok (lfn := fun n st k => law39_StackPlays_L0v1.get (law39_StackPlays_L0v1 n) none st k) (rec := law39_StackPlays_L0v1.calls law39_playv1 law39_toldv1) (fun g a h k hx => by
    rcases law39_playv1.look d (by omega) hx with hx | hx
    rotate_left
    · exact hx
    rcases law39_toldv1.look d (by omega) hx with hx | hx
    rotate_left
    · exact hx
    cases hx) (loopf := law39_StackPlays_L0v1.loops) (by
    have e : loopsOf (law39_StackPlays_L0v1.loops) 0 (loopAt 0 (codeOf Try.f4)) = [] := by kernel_rfl
    rw [e]
    intro p hp
    cases hp) (fun st k h => by
    obtain ⟨sl, hp, m⟩ := st
    unfold law39_StackPlays_L0v1.get at h
    dsimp only at h
    split at h
    · have h' : (none : Option Bool) = some true := h
      cases h'
    · cases h) (fun n st k h => by
    obtain ⟨sl, hp, m⟩ := st
    unfold law39_StackPlays_L0v1.get at h
    dsimp only at h
    split at h
    · rename_i h1 h2
      obtain rfl := pickS_ok h2
      obtain rfl := Nat.eq_of_beq_eq_true h1
      exact (law39_StackPlays_L0v1.step (law39_StackPlays_L0v1 n) law39_playv1 law39_toldv1 _ _ _ _ _ _ _ _ _ _ _ _ _ _ _ _ _ _ _ _ _ k).trans h
    · cases h)
theorem law39_StackPlays_L0v1.look {F : Tc0 → Bool → Int → Bool → (List Int) → Int → Int → Int → Int → Int → Int → Int → (List Int) → Int → Int → Int → Int → Int → Int → Int → Bool → (Bool → Option Bool) → (Bool → (List Int) → (List Int) → Int → Int → Int → Int → Int → Int → Int → Bool → Option Bool) → Option Bool} {e : Option Bool} {st : St} {k : KE} (hx : law39_StackPlays_L0v1.get F e st k = some true) : e = some true ∨ law39_StackPlays_L0v1.get F none st k = some true := by
  obtain ⟨sl, hp, m⟩ := st
  unfold law39_StackPlays_L0v1.get at hx ⊢
  dsimp only at hx ⊢
  split at hx
  · exact .inr hx
  · exact .inl hx
/-- function 4: sheerleg/sheerleglaw39.StackPlays -/
noncomputable def law39_StackPlays.body (law39_known : (Bool → Option Bool) → Option Bool) (memory_New : (List Int) → (Bool → (List Int) → Option Bool) → Option Bool) (stack_New : Int → Bool → (List Int) → (Bool → Bool → (List Int) → Option Bool) → (Bool → Bool → (List Int) → Int → Int → Int → Int → Int → Int → Int → Option Bool) → (Bool → Bool → (List Int) → Option Bool) → (Bool → Bool → (List Int) → Int → Int → Int → Int → Int → Int → Int → Option Bool) → Option Bool) (ref39_New : (List Int) → Int → (Tc1 → Bool → Option Bool) → Option Bool) (memory_Memory_Size : Bool → (List Int) → (Int → Bool → (List Int) → Option Bool) → Option Bool) (law39_StackPlays_L0 : Tc0 → Bool → Int → Bool → (List Int) → (List Int) → Int → Int → Int → Int → Int → Int → Int → Bool → (Bool → Option Bool) → (Bool → (List Int) → (List Int) → Int → Int → Int → Int → Int → Int → Int → Bool → Option Bool) → Option Bool) (law39_StackPlays_L2 : Int → Bool → (List Int) → (List Int) → Int → Int → Int → Int → Int → Int → Int → Bool → (Bool → Option Bool) → (Bool → (List Int) → (List Int) → Int → Int → Int → Int → Int → Int → Int → Bool → Option Bool) → Option Bool) (law39_StackPlays_L0v1 : Tc0 → Bool → Int → Bool → (List Int) → Int → Int → Int → Int → Int → Int → Int → (List Int) → Int → Int → Int → Int → Int → Int → Int → Bool → (Bool → Option Bool) → (Bool → (List Int) → (List Int) → Int → Int → Int → Int → Int → Int → Int → Bool → Option Bool) → Option Bool) (ns243 : List Int) (n244 : Int) (ts245 : Tc0) (k1 : Bool → Option Bool) : Option Bool :=
  (cond_ (! (decide ((((List.length ns243) : Nat) : Int) > (60 : Int)))) (cond_ (! (decide ((((List.length ts245) : Nat) : Int) > (60 : Int)))) (cond_ (decide (n244 > (3000 : Int))) (law39_known
  (fun b246 => (k1 b246))) (memory_New ns243
  (fun b247 ns248 => (stack_New n244 b247 ns248
  (fun b249 b250 ns251 => (ref39_New ns243 n244
  (fun t252 b253 => (cond_ (! (! (b249 == b253))) (cond_ (! b249) (law39_StackPlays_L0 ts245 b249 (0 : Int) b250 ns251 t252.1 t252.2.1 t252.2.2.1 t252.2.2.2.1 t252.2.2.2.2.1 t252.2.2.2.2.2.1 t252.2.2.2.2.2.2.1 t252.2.2.2.2.2.2.2.1 t252.2.2.2.2.2.2.2.2.1
  (fun b333 => (k1 b333))
  (fun b334 ns335 l336 n337 n338 n339 n340 n341 n342 n343 b344 => (law39_StackPlays_L2 (0 : Int) b334 ns335 l336 n337 n338 n339 n340 n341 n342 n343 b344
  (fun b384 => (k1 b384))
  (fun b385 ns386 l387 n388 n389 n390 n391 n392 n393 n394 b395 => (memory_Memory_Size b385 ns386
  (fun n396 b397 ns398 => (cond_ (n396 == (((List.length l387) : Nat) : Int)) (law39_known
  (fun b399 => (k1 b399))) (k1 false)))))))) (law39_StackPlays_L0 ts245 b249 (0 : Int) b250 ns251 t252.1 t252.2.1 t252.2.2.1 t252.2.2.2.1 t252.2.2.2.2.1 t252.2.2.2.2.2.1 t252.2.2.2.2.2.2.1 t252.2.2.2.2.2.2.2.1 t252.2.2.2.2.2.2.2.2.1
  (fun b400 => (k1 b400))
  (fun b401 ns402 l403 n404 n405 n406 n407 n408 n409 n410 b411 => (law39_StackPlays_L2 (0 : Int) b401 ns402 l403 n404 n405 n406 n407 n408 n409 n410 b411
  (fun b412 => (k1 b412))
  (fun b413 ns414 l415 n416 n417 n418 n419 n420 n421 n422 b423 => (memory_Memory_Size b413 ns414
  (fun n424 b425 ns426 => (cond_ (n424 == (((List.length l415) : Nat) : Int)) (law39_known
  (fun b427 => (k1 b427))) (k1 false))))))))) (k1 false)))))
  (fun b428 b429 ns430 n431 n432 n433 n434 n435 n436 n437 => (ref39_New ns243 n244
  (fun t438 b439 => (cond_ (! (! (b428 == b439))) (cond_ (! b428) (k1 false) (law39_StackPlays_L0v1 ts245 b428 (0 : Int) b429 ns430 n431 n432 n433 n434 n435 n436 n437 t438.1 t438.2.1 t438.2.2.1 t438.2.2.2.1 t438.2.2.2.2.1 t438.2.2.2.2.2.1 t438.2.2.2.2.2.2.1 t438.2.2.2.2.2.2.2.1 t438.2.2.2.2.2.2.2.2.1
  (fun b1141 => (k1 b1141))
  (fun b1142 ns1143 l1144 n1145 n1146 n1147 n1148 n1149 n1150 n1151 b1152 => (law39_StackPlays_L2 (0 : Int) b1142 ns1143 l1144 n1145 n1146 n1147 n1148 n1149 n1150 n1151 b1152
  (fun b1153 => (k1 b1153))
  (fun b1154 ns1155 l1156 n1157 n1158 n1159 n1160 n1161 n1162 n1163 b1164 => (memory_Memory_Size b1154 ns1155
  (fun n1165 b1166 ns1167 => (cond_ (n1165 == (((List.length l1156) : Nat) : Int)) (law39_known
  (fun b1168 => (k1 b1168))) (k1 false))))))))) (k1 false)))))
  (fun b1169 b1170 ns1171 => (ref39_New ns243 n244
  (fun t1172 b1173 => (cond_ (! (! (b1169 == b1173))) (cond_ (! b1169) (law39_StackPlays_L0 ts245 b1169 (0 : Int) b1170 ns1171 t1172.1 t1172.2.1 t1172.2.2.1 t1172.2.2.2.1 t1172.2.2.2.2.1 t1172.2.2.2.2.2.1 t1172.2.2.2.2.2.2.1 t1172.2.2.2.2.2.2.2.1 t1172.2.2.2.2.2.2.2.2.1
  (fun b1174 => (k1 b1174))
  (fun b1175 ns1176 l1177 n1178 n1179 n1180 n1181 n1182 n1183 n1184 b1185 => (law39_StackPlays_L2 (0 : Int) b1175 ns1176 l1177 n1178 n1179 n1180 n1181 n1182 n1183 n1184 b1185
  (fun b1186 => (k1 b1186))
  (fun b1187 ns1188 l1189 n1190 n1191 n1192 n1193 n1194 n1195 n1196 b1197 => (memory_Memory_Size b1187 ns1188
  (fun n1198 b1199 ns1200 => (cond_ (n1198 == (((List.length l1189) : Nat) : Int)) (law39_known
  (fun b1201 => (k1 b1201))) (k1 false)))))))) (law39_StackPlays_L0 ts245 b1169 (0 : Int) b1170 ns1171 t1172.1 t1172.2.1 t1172.2.2.1 t1172.2.2.2.1 t1172.2.2.2.2.1 t1172.2.2.2.2.2.1 t1172.2.2.2.2.2.2.1 t1172.2.2.2.2.2.2.2.1 t1172.2.2.2.2.2.2.2.2.1
  (fun b1202 => (k1 b1202))
  (fun b1203 ns1204 l1205 n1206 n1207 n1208 n1209 n1210 n1211 n1212 b1213 => (law39_StackPlays_L2 (0 : Int) b1203 ns1204 l1205 n1206 n1207 n1208 n1209 n1210 n1211 n1212 b1213
  (fun b1214 => (k1 b1214))
  (fun b1215 ns1216 l1217 n1218 n1219 n1220 n1221 n1222 n1223 n1224 b1225 => (memory_Memory_Size b1215 ns1216
  (fun n1226 b1227 ns1228 => (cond_ (n1226 == (((List.length l1217) : Nat) : Int)) (law39_known
  (fun b1229 => (k1 b1229))) (k1 false))))))))) (k1 false)))))
  (fun b1230 b1231 ns1232 n1233 n1234 n1235 n1236 n1237 n1238 n1239 => (ref39_New ns243 n244
  (fun t1240 b1241 => (cond_ (! (! (b1230 == b1241))) (cond_ (! b1230) (k1 false) (law39_StackPlays_L0v1 ts245 b1230 (0 : Int) b1231 ns1232 n1233 n1234 n1235 n1236 n1237 n1238 n1239 t1240.1 t1240.2.1 t1240.2.2.1 t1240.2.2.2.1 t1240.2.2.2.2.1 t1240.2.2.2.2.2.1 t1240.2.2.2.2.2.2.1 t1240.2.2.2.2.2.2.2.1 t1240.2.2.2.2.2.2.2.2.1
  (fun b1242 => (k1 b1242))
  (fun b1243 ns1244 l1245 n1246 n1247 n1248 n1249 n1250 n1251 n1252 b1253 => (law39_StackPlays_L2 (0 : Int) b1243 ns1244 l1245 n1246 n1247 n1248 n1249 n1250 n1251 n1252 b1253
  (fun b1254 => (k1 b1254))
  (fun b1255 ns1256 l1257 n1258 n1259 n1260 n1261 n1262 n1263 n1264 b1265 => (memory_Memory_Size b1255 ns1256
  (fun n1266 b1267 ns1268 => (cond_ (n1266 == (((List.length l1257) : Nat) : Int)) (law39_known
  (fun b1269 => (k1 b1269))) (k1 false))))))))) (k1 false))))))))) (law39_known
  (fun b1270 => (k1 b1270)))) (law39_known
  (fun b1271 => (k1 b1271))))
noncomputable def law39_StackPlays (ns243 : List Int) (n244 : Int) (ts245 : Tc0) (k1 : Bool → Option Bool) : Option Bool := law39_StackPlays.body law39_known memory_New stack_New ref39_New memory_Memory_Size (law39_StackPlays_L0 ROUNDS) (law39_StackPlays_L2 ROUNDS) (law39_StackPlays_L0v1 ROUNDS) ns243 n244 ts245 k1
noncomputable def law39_StackPlays.get (F : (List Int) → Int → Tc0 → (Bool → Option Bool) → Option Bool) (e : Option Bool) (g : FuncId) (a : List AV) (h : Heap) (k : KR) : Option Bool := match g, a, h with
  | 4, [(.bv 0 2 (.int .i64) ns243), (.d ⟨(.int .i64), n244⟩), (.bv 0 47 (.st [(.int .i64), (.int .i64), (.int .i64)]) ts245)], [] => F ns243 n244 ts245 (fun y0 => k (.d ⟨.bool, y0⟩) [])
  | _, _, _ => e
noncomputable def law39_StackPlays.calls (F0 : (Bool → Option Bool) → Option Bool) (F1 : (List Int) → (Bool → (List Int) → Option Bool) → Option Bool) (F2 : Int → Bool → (List Int) → (Bool → Bool → (List Int) → Option Bool) → (Bool → Bool → (List Int) → Int → Int → Int → Int → Int → Int → Int → Option Bool) → (Bool → Bool → (List Int) → Option Bool) → (Bool → Bool → (List Int) → Int → Int → Int → Int → Int → Int → Int → Option Bool) → Option Bool) (F3 : (List Int) → Int → (Tc1 → Bool → Option Bool) → Option Bool) (F4 : Bool → (List Int) → (Int → Bool → (List Int) → Option Bool) → Option Bool) : RecF := fun g a h k => (law39_known.get F0 (memory_New.get F1 (stack_New.get F2 (ref39_New.get F3 (memory_Memory_Size.get F4 none g a h k) g a h k) g a h k) g a h k) g a h k)
noncomputable def law39_StackPlays.loops (L0 : Tc0 → Bool → Int → Bool → (List Int) → (List Int) → Int → Int → Int → Int → Int → Int → Int → Bool → (Bool → Option Bool) → (Bool → (List Int) → (List Int) → Int → Int → Int → Int → Int → Int → Int → Bool → Option Bool) → Option Bool) (L1 : Int → Bool → (List Int) → (List Int) → Int → Int → Int → Int → Int → Int → Int → Bool → (Bool → Option Bool) → (Bool → (List Int) → (List Int) → Int → Int → Int → Int → Int → Int → Int → Bool → Option Bool) → Option Bool) (L2 : Tc0 → Bool → Int → Bool → (List Int) → Int → Int → Int → Int → Int → Int → Int → (List Int) → Int → Int → Int → Int → Int → Int → Int → Bool → (Bool → Option Bool) → (Bool → (List Int) → (List Int) → Int → Int → Int → Int → Int → Int → Int → Bool → Option Bool) → Option Bool) : LoopF := fun b => match Nat.beq b 0 with | true => some (fun st k => (law39_StackPlays_L0.get L0 (law39_StackPlays_L0v1.get L2 none st k) st k)) | false => match Nat.beq b 2 with | true => some (fun st k => (law39_StackPlays_L2.get L1 none st k)) | false => none
set_option maxRecDepth 100000 in
theorem law39_StackPlays.eq (F0 : (Bool → Option Bool) → Option Bool) (F1 : (List Int) → (Bool → (List Int) → Option Bool) → Option Bool) (F2 : Int → Bool → (List Int) → (Bool → Bool → (List Int) → Option Bool) → (Bool → Bool → (List Int) → Int → Int → Int → Int → Int → Int → Int → Option Bool) → (Bool → Bool → (List Int) → Option Bool) → (Bool → Bool → (List Int) → Int → Int → Int → Int → Int → Int → Int → Option Bool) → Option Bool) (F3 : (List Int) → Int → (Tc1 → Bool → Option Bool) → Option Bool) (F4 : Bool → (List Int) → (Int → Bool → (List Int) → Option Bool) → Option Bool) (L0 : Tc0 → Bool → Int → Bool → (List Int) → (List Int) → Int → Int → Int → Int → Int → Int → Int → Bool → (Bool → Option Bool) → (Bool → (List Int) → (List Int) → Int → Int → Int → Int → Int → Int → Int → Bool → Option Bool) → Option Bool) (L1 : Int → Bool → (List Int) → (List Int) → Int → Int → Int → Int → Int → Int → Int → Bool → (Bool → Option Bool) → (Bool → (List Int) → (List Int) → Int → Int → Int → Int → Int → Int → Int → Bool → Option Bool) → Option Bool) (L2 : Tc0 → Bool → Int → Bool → (List Int) → Int → Int → Int → Int → Int → Int → Int → (List Int) → Int → Int → Int → Int → Int → Int → Int → Bool → (Bool → Option Bool) → (Bool → (List Int) → (List Int) → Int → Int → Int → Int → Int → Int → Int → Bool → Option Bool) → Option Bool) (ns243 : List Int) (n244 : Int) (ts245 : Tc0) (k : KR) : execL Try.prog ht 4 (callfOf (law39_StackPlays.calls F0 F1 F2 F3 F4)) (law39_StackPlays.loops L0 L1 L2) 0 (codeOf Try.f4) ⟨[(.bv 0 2 (.int .i64) ns243), (.d ⟨(.int .i64), n244⟩), (.bv 0 47 (.st [(.int .i64), (.int .i64), (.int .i64)]) ts245)] ++ List.replicate (Try.f4.ntmps - ([(.bv 0 2 (.int .i64) ns243), (.d ⟨(.int .i64), n244⟩), (.bv 0 47 (.st [(.int .i64), (.int .i64), (.int .i64)]) ts245)] : List AV).length) .undef, [], 2⟩ (leave Try.prog Try.f4 k) = law39_StackPlays.body F0 F1 F2 F3 F4 L0 L1 L2 ns243 n244 ts245 (fun y0 => k (.d ⟨.bool, y0⟩) []) := by kernel_rfl
theorem law39_StackPlays.ok (d : Nat) (hd : 61 ≤ d) (ns243 : List Int) (n244 : Int) (ts245 : Tc0) (k : KR) (hx : law39_StackPlays ns243 n244 ts245 (fun y0 => k (.d ⟨.bool, y0⟩) []) = some true) : callK Try.prog ht d 4 [(.bv 0 2 (.int .i64) ns243), (.d ⟨(.int .i64), n244⟩), (.bv 0 47 (.st [(.int .i64), (.int .i64), (.int .i64)]) ts245)] [] k = some true := by
  obtain ⟨d, rfl⟩ : ∃ e, d = e + 1 := ⟨d - 1, by omega⟩
  exact fn_ok (c := codeOf Try.f4) Try.func4 (by kernel_rfl) (rec := law39_StackPlays.calls law39_known memory_New stack_New ref39_New memory_Memory_Size) (fun g a h k hx => by
    rcases law39_known.look d (by omega) hx with hx | hx
    rotate_left
    · exact hx
    rcases memory_New.look d (by omega) hx with hx | hx
    rotate_left
    · exact hx
    rcases stack_New.look d (by omega) hx with hx | hx
    rotate_left
    · exact hx
    rcases ref39_New.look d (by omega) hx with hx | hx
    rotate_left
    · exact hx
    rcases memory_Memory_Size.look d (by omega) hx with hx | hx
    rotate_left
    · exact hx
    cases hx) (loopf := law39_StackPlays.loops (law39_StackPlays_L0 ROUNDS) (law39_StackPlays_L2 ROUNDS) (law39_StackPlays_L0v1 ROUNDS)) (by
    have e : loopsOf (law39_StackPlays.loops (law39_StackPlays_L0 ROUNDS) (law39_StackPlays_L2 ROUNDS) (law39_StackPlays_L0v1 ROUNDS)) 0 (codeOf Try.f4) = [(0, loopAt 0 (codeOf Try.f4)), (2, loopAt 2 (codeOf Try.f4))] := by kernel_rfl
    rw [e]
    intro p hp
    simp only [List.mem_cons, List.not_mem_nil, or_false] at hp
    rcases hp with rfl | rfl
    · refine loopRef_of (callf := callfOf (callK Try.prog ht d)) (callfOf_ref (callK_mono d)) fun lf st k hb hx => ?_
      cases hb
      rcases law39_StackPlays_L0.look hx with hx | hx
      rotate_left
      · exact law39_StackPlays_L0.ok d (by omega) _ _ _ hx
      rcases law39_StackPlays_L0v1.look hx with hx | hx
      rotate_left
      · exact law39_StackPlays_L0v1.ok d (by omega) _ _ _ hx
      cases hx
    · refine loopRef_of (callf := callfOf (callK Try.prog ht d)) (callfOf_ref (callK_mono d)) fun lf st k hb hx => ?_
      cases hb
      rcases law39_StackPlays_L2.look hx with hx | hx
      rotate_left
      · exact law39_StackPlays_L2.ok d (by omega) _ _ _ hx
      cases hx) ((law39_StackPlays.eq law39_known memory_New stack_New ref39_New memory_Memory_Size (law39_StackPlays_L0 ROUNDS) (law39_StackPlays_L2 ROUNDS) (law39_StackPlays_L0v1 ROUNDS) ns243 n244 ts245 k).trans hx)
theorem law39_StackPlays.look (d : Nat) (hd : 61 ≤ d) {e : Option Bool} {g : FuncId} {a : List AV} {h : Heap} {k : KR} (hx : law39_StackPlays.get law39_StackPlays e g a h k = some true) : e = some true ∨ callK Try.prog ht d g a h k = some true := by
  unfold law39_StackPlays.get at hx
  split at hx
  · exact .inr (law39_StackPlays.ok d hd _ _ _ _ hx)
  · exact .inl hx
end Go.Proofs.Ytefhednjdlblpaa.p
