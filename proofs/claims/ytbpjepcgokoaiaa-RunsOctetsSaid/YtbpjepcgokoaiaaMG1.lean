/- What the functions come to that G reaches, as plain functions; written by a program of this work, each told by Lean. -/
import Derived.Test.YtbpjepcgokoaiaaA3
import Derived.Test.YtbpjepcgokoaiaaChecked
namespace Go.Proofs.Ytbpjepcgokoaiaa.g
open Go.AX
set_option linter.unusedVariables false
set_option maxRecDepth 100000
set_option maxHeartbeats 4000000
def ht : Hints := hintsOf [(20, [(0, ⟨[0, 4, 9, 10], [(.virt 4 50 5)]⟩), (2, ⟨[0, 4, 5, 9, 10, 12], []⟩), (2000000, ⟨[2, 3], []⟩), (1000002, ⟨[0, 4, 5, 9, 10], []⟩), (1000001, ⟨[0, 4, 9, 10], []⟩), (1000000, ⟨[0, 4], []⟩)]),
  (33, [(0, ⟨[6, 7, 19, 20, 21], []⟩), (2000000, ⟨[4, 5], []⟩), (1000000, ⟨[6, 7], []⟩)]),
  (21, [(0, ⟨[1, 2, 5, 6, 7], [(.virt 6 50 5)]⟩), (2000000, ⟨[2, 3, 4], []⟩), (1000000, ⟨[1, 2, 6], []⟩)]),
  (32, [(0, ⟨[1, 2, 4, 6, 7], [(.virt 6 2 1)]⟩), (2000000, ⟨[4, 5], []⟩), (1000000, ⟨[2, 4, 6], []⟩)]),
  (31, [(0, ⟨[1, 2, 3, 6, 8, 9], []⟩), (2, ⟨[1, 3, 6, 8, 10, 11], []⟩), (2000000, ⟨[6, 7], []⟩), (1000000, ⟨[1, 2, 3, 6, 8], []⟩), (1000002, ⟨[1, 3, 6, 8, 10], []⟩)]),
  (18, [(0, ⟨[0, 1, 5], []⟩), (2000000, ⟨[4], []⟩), (1000000, ⟨[0], []⟩)]),
  (27, [(0, ⟨[7, 8, 9], []⟩), (2, ⟨[7, 8, 9, 10, 11], []⟩), (2000000, ⟨[6], []⟩), (1000002, ⟨[7, 8, 9, 10], []⟩), (1000001, ⟨[7, 8, 9], []⟩), (1000000, ⟨[7], []⟩)]),
  (17, [(0, ⟨[0, 13, 14, 15], []⟩), (2, ⟨[0, 6, 13, 14, 15, 30, 31], []⟩), (2000000, ⟨[4], []⟩), (1000002, ⟨[0, 6, 13, 14, 15], []⟩), (1000001, ⟨[0, 13, 14, 15], []⟩), (1000000, ⟨[0], []⟩)]),
  (25, [(0, ⟨[0, 1, 2, 7, 10], []⟩), (2000000, ⟨[6], []⟩), (1000000, ⟨[0, 2, 7], []⟩)]),
  (11, [(0, ⟨[0, 1, 5], []⟩), (2000000, ⟨[4], []⟩), (1000000, ⟨[], []⟩)]),
  (12, [(0, ⟨[0, 5, 11, 12], [(.virt 5 33 4)]⟩), (2000000, ⟨[4], []⟩), (1000000, ⟨[5], []⟩)]),
  (16, [(0, ⟨[0, 1, 5], []⟩), (2, ⟨[0, 6], []⟩), (2000000, ⟨[4], []⟩), (1000000, ⟨[0], []⟩), (1000002, ⟨[], []⟩)]),
  (23, [(0, ⟨[0, 1, 7, 8], []⟩), (2000000, ⟨[4], []⟩), (1000000, ⟨[], []⟩)]),
  (8, [(0, ⟨[0, 1, 5], []⟩), (2000000, ⟨[4], []⟩), (1000000, ⟨[], []⟩)]),
  (13, [(0, ⟨[0, 1, 5, 6], [(.virt 5 33 4)]⟩), (2000000, ⟨[4], []⟩), (1000000, ⟨[5], []⟩)]),
  (15, [(0, ⟨[0, 1, 4, 6, 7, 8], []⟩), (2000000, ⟨[4, 5], []⟩), (1000000, ⟨[4, 6, 7], []⟩)]),
  (10, [(1, ⟨[0, 1, 5, 20, 21, 22], []⟩), (3, ⟨[0, 8], []⟩), (2000000, ⟨[4], []⟩), (1000001, ⟨[0], []⟩), (1000003, ⟨[], []⟩)]),
  (9, [(0, ⟨[0, 3, 4], [(.virt 3 50 5)]⟩), (2000000, ⟨[2], []⟩), (1000000, ⟨[3], []⟩)]),
  (7, [(0, ⟨[3, 7, 8, 9], [(.virt 3 50 5)]⟩), (2000000, ⟨[2], []⟩), (1000000, ⟨[3], []⟩)])]
/-- function 6: sheerleg/sheerleglaw13.known, all of it at once -/
def law13_known (k1 : Bool → Option Bool) : Option Bool := k1 true
def law13_known.get (F : (Bool → Option Bool) → Option Bool) (e : Option Bool) (g : FuncId) (a : List AV) (h : Heap) (k : KR) : Option Bool := match g, a, h with
  | 6, [], [] => F (fun y => k (.d ⟨.bool, y⟩) [])
  | _, _, _ => e
set_option maxRecDepth 100000 in
theorem law13_known.all (k : KR) : callK Try.prog ht 60 6 [] [] k = k (.d ⟨.bool, true⟩) [] := by kernel_rfl
theorem law13_known.look (d : Nat) (hd : 60 ≤ d) {e : Option Bool} {g : FuncId} {a : List AV} {h : Heap} {k : KR} (hx : law13_known.get law13_known e g a h k = some true) : e = some true ∨ callK Try.prog ht d g a h k = some true := by
  unfold law13_known.get at hx
  split at hx
  · exact .inr (callK_le hd _ _ _ _ _ (fun _ _ h => h) ((law13_known.all _).trans hx))
  · exact .inl hx
/-- function 7: the loop in block 0 -/
noncomputable def runs_Make_L0.body (runs_Make_L0 : (List (Int × Int × Bool × Int × Unit)) → Int → Int → (List (Int × Int × Int × Bool × Int × Unit)) → ((List (Int × Int × Int × Bool × Int × Unit)) → Option Bool) → Option Bool) (ts11 : List (Int × Int × Bool × Int × Unit)) (n12 : Int) (n13 : Int) (ts14 : List (Int × Int × Int × Bool × Int × Unit)) (k1 : (List (Int × Int × Int × Bool × Int × Unit)) → Option Bool) : Option Bool :=
  (cond_ (decide (n13 < n12)) (cond_ ((decide ((0 : Int) ≤ n13)) && (decide (n13 < (((List.length ts11) : Nat) : Int)))) (cond_ (! ((((List.length ts14) : Nat) : Int) == (0 : Int))) (cond_ ((decide ((0 : Int) ≤ (IntKind.wrap .i64 ((((List.length ts14) : Nat) : Int) - (1 : Int))))) && (decide ((IntKind.wrap .i64 ((((List.length ts14) : Nat) : Int) - (1 : Int))) < (((List.length ts14) : Nat) : Int)))) (cond_ (! (((List.getD ts14 (Int.toNat (IntKind.wrap .i64 ((((List.length ts14) : Nat) : Int) - (1 : Int)))) ((0 : Int), ((0 : Int), ((0 : Int), (false, ((0 : Int), ())))))).2.1 == (List.getD ts11 (Int.toNat n13) ((0 : Int), ((0 : Int), (false, ((0 : Int), ()))))).1) && (((List.getD ts14 (Int.toNat (IntKind.wrap .i64 ((((List.length ts14) : Nat) : Int) - (1 : Int)))) ((0 : Int), ((0 : Int), ((0 : Int), (false, ((0 : Int), ())))))).2.2.1 == (List.getD ts11 (Int.toNat n13) ((0 : Int), ((0 : Int), (false, ((0 : Int), ()))))).2.1) && (((List.getD ts14 (Int.toNat (IntKind.wrap .i64 ((((List.length ts14) : Nat) : Int) - (1 : Int)))) ((0 : Int), ((0 : Int), ((0 : Int), (false, ((0 : Int), ())))))).2.2.2.1 == (List.getD ts11 (Int.toNat n13) ((0 : Int), ((0 : Int), (false, ((0 : Int), ()))))).2.2.1) && (((List.getD ts14 (Int.toNat (IntKind.wrap .i64 ((((List.length ts14) : Nat) : Int) - (1 : Int)))) ((0 : Int), ((0 : Int), ((0 : Int), (false, ((0 : Int), ())))))).2.2.2.2.1 == (List.getD ts11 (Int.toNat n13) ((0 : Int), ((0 : Int), (false, ((0 : Int), ()))))).2.2.2.1) && true))))) (cond_ (Nat.ble (((List.length ts14) + (List.length ((n13, ((List.getD ts11 (Int.toNat n13) ((0 : Int), ((0 : Int), (false, ((0 : Int), ()))))).1, ((List.getD ts11 (Int.toNat n13) ((0 : Int), ((0 : Int), (false, ((0 : Int), ()))))).2.1, ((List.getD ts11 (Int.toNat n13) ((0 : Int), ((0 : Int), (false, ((0 : Int), ()))))).2.2.1, ((List.getD ts11 (Int.toNat n13) ((0 : Int), ((0 : Int), (false, ((0 : Int), ()))))).2.2.2.1, ()))))) :: []))) * (40 : Nat)) (140737488355328 : Nat)) (runs_Make_L0 ts11 n12 (IntKind.wrap .i64 (n13 + (1 : Int))) (ts14 ++ ((n13, ((List.getD ts11 (Int.toNat n13) ((0 : Int), ((0 : Int), (false, ((0 : Int), ()))))).1, ((List.getD ts11 (Int.toNat n13) ((0 : Int), ((0 : Int), (false, ((0 : Int), ()))))).2.1, ((List.getD ts11 (Int.toNat n13) ((0 : Int), ((0 : Int), (false, ((0 : Int), ()))))).2.2.1, ((List.getD ts11 (Int.toNat n13) ((0 : Int), ((0 : Int), (false, ((0 : Int), ()))))).2.2.2.1, ()))))) :: [])) k1) none) (runs_Make_L0 ts11 n12 (IntKind.wrap .i64 (n13 + (1 : Int))) ts14 k1)) none) (cond_ (Nat.ble (((List.length ts14) + (List.length ((n13, ((List.getD ts11 (Int.toNat n13) ((0 : Int), ((0 : Int), (false, ((0 : Int), ()))))).1, ((List.getD ts11 (Int.toNat n13) ((0 : Int), ((0 : Int), (false, ((0 : Int), ()))))).2.1, ((List.getD ts11 (Int.toNat n13) ((0 : Int), ((0 : Int), (false, ((0 : Int), ()))))).2.2.1, ((List.getD ts11 (Int.toNat n13) ((0 : Int), ((0 : Int), (false, ((0 : Int), ()))))).2.2.2.1, ()))))) :: []))) * (40 : Nat)) (140737488355328 : Nat)) (runs_Make_L0 ts11 n12 (IntKind.wrap .i64 (n13 + (1 : Int))) (ts14 ++ ((n13, ((List.getD ts11 (Int.toNat n13) ((0 : Int), ((0 : Int), (false, ((0 : Int), ()))))).1, ((List.getD ts11 (Int.toNat n13) ((0 : Int), ((0 : Int), (false, ((0 : Int), ()))))).2.1, ((List.getD ts11 (Int.toNat n13) ((0 : Int), ((0 : Int), (false, ((0 : Int), ()))))).2.2.1, ((List.getD ts11 (Int.toNat n13) ((0 : Int), ((0 : Int), (false, ((0 : Int), ()))))).2.2.2.1, ()))))) :: [])) k1) none)) none) (k1 ts14))
noncomputable def runs_Make_L0 : Nat → (List (Int × Int × Bool × Int × Unit)) → Int → Int → (List (Int × Int × Int × Bool × Int × Unit)) → ((List (Int × Int × Int × Bool × Int × Unit)) → Option Bool) → Option Bool
  | 0 => fun _ _ _ _ _ => none
  | n + 1 => runs_Make_L0.body (runs_Make_L0 n)
noncomputable def runs_Make_L0.get (F : (List (Int × Int × Bool × Int × Unit)) → Int → Int → (List (Int × Int × Int × Bool × Int × Unit)) → ((List (Int × Int × Int × Bool × Int × Unit)) → Option Bool) → Option Bool) (e : Option Bool) (st : St) (k : KE) : Option Bool := match st with
  | ⟨sl, hp, m⟩ => match Nat.beq m 2, pickS 36 [3, 7, 8, 9] sl, hp with
    | true, some [(.ref [1, 0]), (.bv 0 33 (.st [(.int .i64), (.int .i64), .bool, (.int .i64)]) ts11), (.d ⟨(.int .i64), n12⟩), (.d ⟨(.int .i64), n13⟩)], [([1, 0], ⟨50, 5, (.data (.st [(.int .i64), (.int .i64), (.int .i64), .bool, (.int .i64)]) ts14)⟩)] => F ts11 n12 n13 ts14 (fun y0 => k (.exit 0) ⟨fillS 36 [3] [(.ref [1, 0])], [([1, 0], ⟨50, 5, (.data (.st [(.int .i64), (.int .i64), (.int .i64), .bool, (.int .i64)]) y0)⟩)], 2⟩)
    | _, _, _ => e
noncomputable def runs_Make_L0.calls : RecF := fun g a h k => none
noncomputable def runs_Make_L0.loops : LoopF := fun b => none
set_option maxRecDepth 100000 in
theorem runs_Make_L0.step (S : (List (Int × Int × Bool × Int × Unit)) → Int → Int → (List (Int × Int × Int × Bool × Int × Unit)) → ((List (Int × Int × Int × Bool × Int × Unit)) → Option Bool) → Option Bool) (ts11 : List (Int × Int × Bool × Int × Unit)) (n12 : Int) (n13 : Int) (ts14 : List (Int × Int × Int × Bool × Int × Unit)) (k : KE) : execL Try.prog ht 7 (callfOf (runs_Make_L0.calls)) (runs_Make_L0.loops) 0 (loopAt 0 (codeOf Try.f7)) ⟨fillS 36 [3, 7, 8, 9] [(.ref [1, 0]), (.bv 0 33 (.st [(.int .i64), (.int .i64), .bool, (.int .i64)]) ts11), (.d ⟨(.int .i64), n12⟩), (.d ⟨(.int .i64), n13⟩)], [([1, 0], ⟨50, 5, (.data (.st [(.int .i64), (.int .i64), (.int .i64), .bool, (.int .i64)]) ts14)⟩)], 2⟩ (again (runs_Make_L0.get S none) (plan Try.prog (ht 7 0)) k) = runs_Make_L0.body S ts11 n12 n13 ts14 (fun y0 => k (.exit 0) ⟨fillS 36 [3] [(.ref [1, 0])], [([1, 0], ⟨50, 5, (.data (.st [(.int .i64), (.int .i64), (.int .i64), .bool, (.int .i64)]) y0)⟩)], 2⟩) := by kernel_rfl
theorem runs_Make_L0.ok (d : Nat) (hd : 0 ≤ d) : ∀ n st k, runs_Make_L0.get (runs_Make_L0 n) none st k = some true → iter n (plan Try.prog (ht 7 0)) (fun st k => execK Try.prog ht 7 (callfOf (callK Try.prog ht d)) 0 (loopAt 0 (codeOf Try.f7)) st k) st k = some true :=
  loop_ok (lfn := fun n st k => runs_Make_L0.get (runs_Make_L0 n) none st k) (rec := runs_Make_L0.calls) (fun g a h k hx => by
    cases hx) (loopf := runs_Make_L0.loops) (by
    have e : loopsOf (runs_Make_L0.loops) 0 (loopAt 0 (codeOf Try.f7)) = [] := by kernel_rfl
    rw [e]
    intro p hp
    cases hp) (fun st k h => by
    obtain ⟨sl, hp, m⟩ := st
    unfold runs_Make_L0.get at h
    dsimp only at h
    split at h
    · have h' : (none : Option Bool) = some true := h
      cases h'
    · cases h) (fun n st k h => by
    obtain ⟨sl, hp, m⟩ := st
    unfold runs_Make_L0.get at h
    dsimp only at h
    split at h
    · rename_i h1 h2
      obtain rfl := pickS_ok h2
      obtain rfl := Nat.eq_of_beq_eq_true h1
      exact (runs_Make_L0.step (runs_Make_L0 n) _ _ _ _ k).trans h
    · cases h)
theorem runs_Make_L0.look {F : (List (Int × Int × Bool × Int × Unit)) → Int → Int → (List (Int × Int × Int × Bool × Int × Unit)) → ((List (Int × Int × Int × Bool × Int × Unit)) → Option Bool) → Option Bool} {e : Option Bool} {st : St} {k : KE} (hx : runs_Make_L0.get F e st k = some true) : e = some true ∨ runs_Make_L0.get F none st k = some true := by
  obtain ⟨sl, hp, m⟩ := st
  unfold runs_Make_L0.get at hx ⊢
  dsimp only at hx ⊢
  split at hx
  · exact .inr hx
  · exact .inl hx
/-- function 7: sheerleg/runs.Make -/
noncomputable def runs_Make.body (runs_Make_L0 : (List (Int × Int × Bool × Int × Unit)) → Int → Int → (List (Int × Int × Int × Bool × Int × Unit)) → ((List (Int × Int × Int × Bool × Int × Unit)) → Option Bool) → Option Bool) (ts10 : List (Int × Int × Bool × Int × Unit)) (k1 : (List (Int × Int × Int × Bool × Int × Unit)) → Option Bool) : Option Bool :=
  (runs_Make_L0 ts10 (((List.length ts10) : Nat) : Int) (0 : Int) []
  (fun ts15 => (k1 ts15)))
noncomputable def runs_Make (ts10 : List (Int × Int × Bool × Int × Unit)) (k1 : (List (Int × Int × Int × Bool × Int × Unit)) → Option Bool) : Option Bool := runs_Make.body (runs_Make_L0 ROUNDS) ts10 k1
noncomputable def runs_Make.get (F : (List (Int × Int × Bool × Int × Unit)) → ((List (Int × Int × Int × Bool × Int × Unit)) → Option Bool) → Option Bool) (e : Option Bool) (g : FuncId) (a : List AV) (h : Heap) (k : KR) : Option Bool := match g, a, h with
  | 7, [(.bv 0 33 (.st [(.int .i64), (.int .i64), .bool, (.int .i64)]) ts10)], [] => F ts10 (fun y0 => k (.ref [1, 0]) [([1, 0], ⟨50, 5, (.data (.st [(.int .i64), (.int .i64), (.int .i64), .bool, (.int .i64)]) y0)⟩)])
  | _, _, _ => e
noncomputable def runs_Make.calls : RecF := fun g a h k => none
noncomputable def runs_Make.loops (L0 : (List (Int × Int × Bool × Int × Unit)) → Int → Int → (List (Int × Int × Int × Bool × Int × Unit)) → ((List (Int × Int × Int × Bool × Int × Unit)) → Option Bool) → Option Bool) : LoopF := fun b => match Nat.beq b 0 with | true => some (fun st k => (runs_Make_L0.get L0 none st k)) | false => none
set_option maxRecDepth 100000 in
theorem runs_Make.eq (L0 : (List (Int × Int × Bool × Int × Unit)) → Int → Int → (List (Int × Int × Int × Bool × Int × Unit)) → ((List (Int × Int × Int × Bool × Int × Unit)) → Option Bool) → Option Bool) (ts10 : List (Int × Int × Bool × Int × Unit)) (k : KR) : execL Try.prog ht 7 (callfOf (runs_Make.calls)) (runs_Make.loops L0) 0 (codeOf Try.f7) ⟨[(.bv 0 33 (.st [(.int .i64), (.int .i64), .bool, (.int .i64)]) ts10)] ++ List.replicate (Try.f7.ntmps - ([(.bv 0 33 (.st [(.int .i64), (.int .i64), .bool, (.int .i64)]) ts10)] : List AV).length) .undef, [], 2⟩ (leave Try.prog Try.f7 k) = runs_Make.body L0 ts10 (fun y0 => k (.ref [1, 0]) [([1, 0], ⟨50, 5, (.data (.st [(.int .i64), (.int .i64), (.int .i64), .bool, (.int .i64)]) y0)⟩)]) := by kernel_rfl
theorem runs_Make.ok (d : Nat) (hd : 1 ≤ d) (ts10 : List (Int × Int × Bool × Int × Unit)) (k : KR) (hx : runs_Make ts10 (fun y0 => k (.ref [1, 0]) [([1, 0], ⟨50, 5, (.data (.st [(.int .i64), (.int .i64), (.int .i64), .bool, (.int .i64)]) y0)⟩)]) = some true) : callK Try.prog ht d 7 [(.bv 0 33 (.st [(.int .i64), (.int .i64), .bool, (.int .i64)]) ts10)] [] k = some true := by
  obtain ⟨d, rfl⟩ : ∃ e, d = e + 1 := ⟨d - 1, by omega⟩
  exact fn_ok (c := codeOf Try.f7) Try.func7 (by kernel_rfl) (rec := runs_Make.calls) (fun g a h k hx => by
    cases hx) (loopf := runs_Make.loops (runs_Make_L0 ROUNDS)) (by
    have e : loopsOf (runs_Make.loops (runs_Make_L0 ROUNDS)) 0 (codeOf Try.f7) = [(0, loopAt 0 (codeOf Try.f7))] := by kernel_rfl
    rw [e]
    intro p hp
    simp only [List.mem_cons, List.not_mem_nil, or_false] at hp
    rcases hp with rfl
    · refine loopRef_of (callf := callfOf (callK Try.prog ht d)) (callfOf_ref (callK_mono d)) fun lf st k hb hx => ?_
      cases hb
      rcases runs_Make_L0.look hx with hx | hx
      rotate_left
      · exact runs_Make_L0.ok d (by omega) _ _ _ hx
      cases hx) ((runs_Make.eq (runs_Make_L0 ROUNDS) ts10 k).trans hx)
theorem runs_Make.look (d : Nat) (hd : 1 ≤ d) {e : Option Bool} {g : FuncId} {a : List AV} {h : Heap} {k : KR} (hx : runs_Make.get runs_Make e g a h k = some true) : e = some true ∨ callK Try.prog ht d g a h k = some true := by
  unfold runs_Make.get at hx
  split at hx
  · exact .inr (runs_Make.ok d hd _ _ hx)
  · exact .inl hx
/-- function 9: the loop in block 0 -/
noncomputable def ref13_Make_L0.body (ref13_Make_L0 : (List (Int × Int × Bool × Int × Unit)) → Int → (List (Int × Int × Int × Bool × Int × Unit)) → ((List (Int × Int × Int × Bool × Int × Unit)) → Option Bool) → Option Bool) (ts25 : List (Int × Int × Bool × Int × Unit)) (n26 : Int) (ts27 : List (Int × Int × Int × Bool × Int × Unit)) (k1 : (List (Int × Int × Int × Bool × Int × Unit)) → Option Bool) : Option Bool :=
  (cond_ (decide (n26 < (((List.length ts25) : Nat) : Int))) (cond_ (! (n26 == (0 : Int))) (cond_ ((decide ((0 : Int) ≤ n26)) && (decide (n26 < (((List.length ts25) : Nat) : Int)))) (cond_ ((decide ((0 : Int) ≤ (IntKind.wrap .i64 (n26 - (1 : Int))))) && (decide ((IntKind.wrap .i64 (n26 - (1 : Int))) < (((List.length ts25) : Nat) : Int)))) (cond_ (! (((List.getD ts25 (Int.toNat n26) ((0 : Int), ((0 : Int), (false, ((0 : Int), ()))))).1 == (List.getD ts25 (Int.toNat (IntKind.wrap .i64 (n26 - (1 : Int)))) ((0 : Int), ((0 : Int), (false, ((0 : Int), ()))))).1) && (((List.getD ts25 (Int.toNat n26) ((0 : Int), ((0 : Int), (false, ((0 : Int), ()))))).2.1 == (List.getD ts25 (Int.toNat (IntKind.wrap .i64 (n26 - (1 : Int)))) ((0 : Int), ((0 : Int), (false, ((0 : Int), ()))))).2.1) && (((List.getD ts25 (Int.toNat n26) ((0 : Int), ((0 : Int), (false, ((0 : Int), ()))))).2.2.1 == (List.getD ts25 (Int.toNat (IntKind.wrap .i64 (n26 - (1 : Int)))) ((0 : Int), ((0 : Int), (false, ((0 : Int), ()))))).2.2.1) && (((List.getD ts25 (Int.toNat n26) ((0 : Int), ((0 : Int), (false, ((0 : Int), ()))))).2.2.2.1 == (List.getD ts25 (Int.toNat (IntKind.wrap .i64 (n26 - (1 : Int)))) ((0 : Int), ((0 : Int), (false, ((0 : Int), ()))))).2.2.2.1) && true))))) (cond_ ((decide ((0 : Int) ≤ n26)) && (decide (n26 < (((List.length ts25) : Nat) : Int)))) (cond_ (Nat.ble (((List.length ts27) + (List.length ((n26, ((List.getD ts25 (Int.toNat n26) ((0 : Int), ((0 : Int), (false, ((0 : Int), ()))))).1, ((List.getD ts25 (Int.toNat n26) ((0 : Int), ((0 : Int), (false, ((0 : Int), ()))))).2.1, ((List.getD ts25 (Int.toNat n26) ((0 : Int), ((0 : Int), (false, ((0 : Int), ()))))).2.2.1, ((List.getD ts25 (Int.toNat n26) ((0 : Int), ((0 : Int), (false, ((0 : Int), ()))))).2.2.2.1, ()))))) :: []))) * (40 : Nat)) (140737488355328 : Nat)) (ref13_Make_L0 ts25 (IntKind.wrap .i64 (n26 + (1 : Int))) (ts27 ++ ((n26, ((List.getD ts25 (Int.toNat n26) ((0 : Int), ((0 : Int), (false, ((0 : Int), ()))))).1, ((List.getD ts25 (Int.toNat n26) ((0 : Int), ((0 : Int), (false, ((0 : Int), ()))))).2.1, ((List.getD ts25 (Int.toNat n26) ((0 : Int), ((0 : Int), (false, ((0 : Int), ()))))).2.2.1, ((List.getD ts25 (Int.toNat n26) ((0 : Int), ((0 : Int), (false, ((0 : Int), ()))))).2.2.2.1, ()))))) :: [])) k1) none) none) (ref13_Make_L0 ts25 (IntKind.wrap .i64 (n26 + (1 : Int))) ts27 k1)) none) none) (cond_ ((decide ((0 : Int) ≤ n26)) && (decide (n26 < (((List.length ts25) : Nat) : Int)))) (cond_ (Nat.ble (((List.length ts27) + (List.length ((n26, ((List.getD ts25 (Int.toNat n26) ((0 : Int), ((0 : Int), (false, ((0 : Int), ()))))).1, ((List.getD ts25 (Int.toNat n26) ((0 : Int), ((0 : Int), (false, ((0 : Int), ()))))).2.1, ((List.getD ts25 (Int.toNat n26) ((0 : Int), ((0 : Int), (false, ((0 : Int), ()))))).2.2.1, ((List.getD ts25 (Int.toNat n26) ((0 : Int), ((0 : Int), (false, ((0 : Int), ()))))).2.2.2.1, ()))))) :: []))) * (40 : Nat)) (140737488355328 : Nat)) (ref13_Make_L0 ts25 (IntKind.wrap .i64 (n26 + (1 : Int))) (ts27 ++ ((n26, ((List.getD ts25 (Int.toNat n26) ((0 : Int), ((0 : Int), (false, ((0 : Int), ()))))).1, ((List.getD ts25 (Int.toNat n26) ((0 : Int), ((0 : Int), (false, ((0 : Int), ()))))).2.1, ((List.getD ts25 (Int.toNat n26) ((0 : Int), ((0 : Int), (false, ((0 : Int), ()))))).2.2.1, ((List.getD ts25 (Int.toNat n26) ((0 : Int), ((0 : Int), (false, ((0 : Int), ()))))).2.2.2.1, ()))))) :: [])) k1) none) none)) (k1 ts27))
noncomputable def ref13_Make_L0 : Nat → (List (Int × Int × Bool × Int × Unit)) → Int → (List (Int × Int × Int × Bool × Int × Unit)) → ((List (Int × Int × Int × Bool × Int × Unit)) → Option Bool) → Option Bool
  | 0 => fun _ _ _ _ => none
  | n + 1 => ref13_Make_L0.body (ref13_Make_L0 n)
noncomputable def ref13_Make_L0.get (F : (List (Int × Int × Bool × Int × Unit)) → Int → (List (Int × Int × Int × Bool × Int × Unit)) → ((List (Int × Int × Int × Bool × Int × Unit)) → Option Bool) → Option Bool) (e : Option Bool) (st : St) (k : KE) : Option Bool := match st with
  | ⟨sl, hp, m⟩ => match Nat.beq m 2, pickS 35 [0, 3, 4] sl, hp with
    | true, some [(.bv 0 33 (.st [(.int .i64), (.int .i64), .bool, (.int .i64)]) ts25), (.ref [1, 0]), (.d ⟨(.int .i64), n26⟩)], [([1, 0], ⟨50, 5, (.data (.st [(.int .i64), (.int .i64), (.int .i64), .bool, (.int .i64)]) ts27)⟩)] => F ts25 n26 ts27 (fun y0 => k (.exit 0) ⟨fillS 35 [3] [(.ref [1, 0])], [([1, 0], ⟨50, 5, (.data (.st [(.int .i64), (.int .i64), (.int .i64), .bool, (.int .i64)]) y0)⟩)], 2⟩)
    | _, _, _ => e
noncomputable def ref13_Make_L0.calls : RecF := fun g a h k => none
noncomputable def ref13_Make_L0.loops : LoopF := fun b => none
set_option maxRecDepth 100000 in
theorem ref13_Make_L0.step (S : (List (Int × Int × Bool × Int × Unit)) → Int → (List (Int × Int × Int × Bool × Int × Unit)) → ((List (Int × Int × Int × Bool × Int × Unit)) → Option Bool) → Option Bool) (ts25 : List (Int × Int × Bool × Int × Unit)) (n26 : Int) (ts27 : List (Int × Int × Int × Bool × Int × Unit)) (k : KE) : execL Try.prog ht 9 (callfOf (ref13_Make_L0.calls)) (ref13_Make_L0.loops) 0 (loopAt 0 (codeOf Try.f9)) ⟨fillS 35 [0, 3, 4] [(.bv 0 33 (.st [(.int .i64), (.int .i64), .bool, (.int .i64)]) ts25), (.ref [1, 0]), (.d ⟨(.int .i64), n26⟩)], [([1, 0], ⟨50, 5, (.data (.st [(.int .i64), (.int .i64), (.int .i64), .bool, (.int .i64)]) ts27)⟩)], 2⟩ (again (ref13_Make_L0.get S none) (plan Try.prog (ht 9 0)) k) = ref13_Make_L0.body S ts25 n26 ts27 (fun y0 => k (.exit 0) ⟨fillS 35 [3] [(.ref [1, 0])], [([1, 0], ⟨50, 5, (.data (.st [(.int .i64), (.int .i64), (.int .i64), .bool, (.int .i64)]) y0)⟩)], 2⟩) := by kernel_rfl
theorem ref13_Make_L0.ok (d : Nat) (hd : 0 ≤ d) : ∀ n st k, ref13_Make_L0.get (ref13_Make_L0 n) none st k = some true → iter n (plan Try.prog (ht 9 0)) (fun st k => execK Try.prog ht 9 (callfOf (callK Try.prog ht d)) 0 (loopAt 0 (codeOf Try.f9)) st k) st k = some true :=
  loop_ok (lfn := fun n st k => ref13_Make_L0.get (ref13_Make_L0 n) none st k) (rec := ref13_Make_L0.calls) (fun g a h k hx => by
    cases hx) (loopf := ref13_Make_L0.loops) (by
    have e : loopsOf (ref13_Make_L0.loops) 0 (loopAt 0 (codeOf Try.f9)) = [] := by kernel_rfl
    rw [e]
    intro p hp
    cases hp) (fun st k h => by
    obtain ⟨sl, hp, m⟩ := st
    unfold ref13_Make_L0.get at h
    dsimp only at h
    split at h
    · have h' : (none : Option Bool) = some true := h
      cases h'
    · cases h) (fun n st k h => by
    obtain ⟨sl, hp, m⟩ := st
    unfold ref13_Make_L0.get at h
    dsimp only at h
    split at h
    · rename_i h1 h2
      obtain rfl := pickS_ok h2
      obtain rfl := Nat.eq_of_beq_eq_true h1
      exact (ref13_Make_L0.step (ref13_Make_L0 n) _ _ _ k).trans h
    · cases h)
theorem ref13_Make_L0.look {F : (List (Int × Int × Bool × Int × Unit)) → Int → (List (Int × Int × Int × Bool × Int × Unit)) → ((List (Int × Int × Int × Bool × Int × Unit)) → Option Bool) → Option Bool} {e : Option Bool} {st : St} {k : KE} (hx : ref13_Make_L0.get F e st k = some true) : e = some true ∨ ref13_Make_L0.get F none st k = some true := by
  obtain ⟨sl, hp, m⟩ := st
  unfold ref13_Make_L0.get at hx ⊢
  dsimp only at hx ⊢
  split at hx
  · exact .inr hx
  · exact .inl hx
/-- function 9: sheerleg/sheerlegref13.Make -/
noncomputable def ref13_Make.body (ref13_Make_L0 : (List (Int × Int × Bool × Int × Unit)) → Int → (List (Int × Int × Int × Bool × Int × Unit)) → ((List (Int × Int × Int × Bool × Int × Unit)) → Option Bool) → Option Bool) (ts24 : List (Int × Int × Bool × Int × Unit)) (k1 : (List (Int × Int × Int × Bool × Int × Unit)) → Option Bool) : Option Bool :=
  (ref13_Make_L0 ts24 (0 : Int) []
  (fun ts28 => (k1 ts28)))
noncomputable def ref13_Make (ts24 : List (Int × Int × Bool × Int × Unit)) (k1 : (List (Int × Int × Int × Bool × Int × Unit)) → Option Bool) : Option Bool := ref13_Make.body (ref13_Make_L0 ROUNDS) ts24 k1
noncomputable def ref13_Make.get (F : (List (Int × Int × Bool × Int × Unit)) → ((List (Int × Int × Int × Bool × Int × Unit)) → Option Bool) → Option Bool) (e : Option Bool) (g : FuncId) (a : List AV) (h : Heap) (k : KR) : Option Bool := match g, a, h with
  | 9, [(.bv 0 33 (.st [(.int .i64), (.int .i64), .bool, (.int .i64)]) ts24)], [] => F ts24 (fun y0 => k (.ref [1, 0]) [([1, 0], ⟨50, 5, (.data (.st [(.int .i64), (.int .i64), (.int .i64), .bool, (.int .i64)]) y0)⟩)])
  | _, _, _ => e
noncomputable def ref13_Make.calls : RecF := fun g a h k => none
noncomputable def ref13_Make.loops (L0 : (List (Int × Int × Bool × Int × Unit)) → Int → (List (Int × Int × Int × Bool × Int × Unit)) → ((List (Int × Int × Int × Bool × Int × Unit)) → Option Bool) → Option Bool) : LoopF := fun b => match Nat.beq b 0 with | true => some (fun st k => (ref13_Make_L0.get L0 none st k)) | false => none
set_option maxRecDepth 100000 in
theorem ref13_Make.eq (L0 : (List (Int × Int × Bool × Int × Unit)) → Int → (List (Int × Int × Int × Bool × Int × Unit)) → ((List (Int × Int × Int × Bool × Int × Unit)) → Option Bool) → Option Bool) (ts24 : List (Int × Int × Bool × Int × Unit)) (k : KR) : execL Try.prog ht 9 (callfOf (ref13_Make.calls)) (ref13_Make.loops L0) 0 (codeOf Try.f9) ⟨[(.bv 0 33 (.st [(.int .i64), (.int .i64), .bool, (.int .i64)]) ts24)] ++ List.replicate (Try.f9.ntmps - ([(.bv 0 33 (.st [(.int .i64), (.int .i64), .bool, (.int .i64)]) ts24)] : List AV).length) .undef, [], 2⟩ (leave Try.prog Try.f9 k) = ref13_Make.body L0 ts24 (fun y0 => k (.ref [1, 0]) [([1, 0], ⟨50, 5, (.data (.st [(.int .i64), (.int .i64), (.int .i64), .bool, (.int .i64)]) y0)⟩)]) := by kernel_rfl
theorem ref13_Make.ok (d : Nat) (hd : 1 ≤ d) (ts24 : List (Int × Int × Bool × Int × Unit)) (k : KR) (hx : ref13_Make ts24 (fun y0 => k (.ref [1, 0]) [([1, 0], ⟨50, 5, (.data (.st [(.int .i64), (.int .i64), (.int .i64), .bool, (.int .i64)]) y0)⟩)]) = some true) : callK Try.prog ht d 9 [(.bv 0 33 (.st [(.int .i64), (.int .i64), .bool, (.int .i64)]) ts24)] [] k = some true := by
  obtain ⟨d, rfl⟩ : ∃ e, d = e + 1 := ⟨d - 1, by omega⟩
  exact fn_ok (c := codeOf Try.f9) Try.func9 (by kernel_rfl) (rec := ref13_Make.calls) (fun g a h k hx => by
    cases hx) (loopf := ref13_Make.loops (ref13_Make_L0 ROUNDS)) (by
    have e : loopsOf (ref13_Make.loops (ref13_Make_L0 ROUNDS)) 0 (codeOf Try.f9) = [(0, loopAt 0 (codeOf Try.f9))] := by kernel_rfl
    rw [e]
    intro p hp
    simp only [List.mem_cons, List.not_mem_nil, or_false] at hp
    rcases hp with rfl
    · refine loopRef_of (callf := callfOf (callK Try.prog ht d)) (callfOf_ref (callK_mono d)) fun lf st k hb hx => ?_
      cases hb
      rcases ref13_Make_L0.look hx with hx | hx
      rotate_left
      · exact ref13_Make_L0.ok d (by omega) _ _ _ hx
      cases hx) ((ref13_Make.eq (ref13_Make_L0 ROUNDS) ts24 k).trans hx)
theorem ref13_Make.look (d : Nat) (hd : 1 ≤ d) {e : Option Bool} {g : FuncId} {a : List AV} {h : Heap} {k : KR} (hx : ref13_Make.get ref13_Make e g a h k = some true) : e = some true ∨ callK Try.prog ht d g a h k = some true := by
  unfold ref13_Make.get at hx
  split at hx
  · exact .inr (ref13_Make.ok d hd _ _ hx)
  · exact .inl hx
/-- function 8: the loop in block 0 -/
noncomputable def ref13_Same_L0.body (ref13_Same_L0 : (List (Int × Int × Int × Bool × Int × Unit)) → (List (Int × Int × Int × Bool × Int × Unit)) → Int → (Bool → Option Bool) → (Option Bool) → Option Bool) (ts32 : List (Int × Int × Int × Bool × Int × Unit)) (ts33 : List (Int × Int × Int × Bool × Int × Unit)) (n34 : Int) (k1 : Bool → Option Bool) (k2 : Option Bool) : Option Bool :=
  (cond_ (decide (n34 < (((List.length ts32) : Nat) : Int))) (cond_ ((decide ((0 : Int) ≤ n34)) && (decide (n34 < (((List.length ts32) : Nat) : Int)))) (cond_ ((decide ((0 : Int) ≤ n34)) && (decide (n34 < (((List.length ts33) : Nat) : Int)))) (cond_ (! (((List.getD ts32 (Int.toNat n34) ((0 : Int), ((0 : Int), ((0 : Int), (false, ((0 : Int), ())))))).1 == (List.getD ts33 (Int.toNat n34) ((0 : Int), ((0 : Int), ((0 : Int), (false, ((0 : Int), ())))))).1) && ((((List.getD ts32 (Int.toNat n34) ((0 : Int), ((0 : Int), ((0 : Int), (false, ((0 : Int), ())))))).2.1 == (List.getD ts33 (Int.toNat n34) ((0 : Int), ((0 : Int), ((0 : Int), (false, ((0 : Int), ())))))).2.1) && (((List.getD ts32 (Int.toNat n34) ((0 : Int), ((0 : Int), ((0 : Int), (false, ((0 : Int), ())))))).2.2.1 == (List.getD ts33 (Int.toNat n34) ((0 : Int), ((0 : Int), ((0 : Int), (false, ((0 : Int), ())))))).2.2.1) && (((List.getD ts32 (Int.toNat n34) ((0 : Int), ((0 : Int), ((0 : Int), (false, ((0 : Int), ())))))).2.2.2.1 == (List.getD ts33 (Int.toNat n34) ((0 : Int), ((0 : Int), ((0 : Int), (false, ((0 : Int), ())))))).2.2.2.1) && (((List.getD ts32 (Int.toNat n34) ((0 : Int), ((0 : Int), ((0 : Int), (false, ((0 : Int), ())))))).2.2.2.2.1 == (List.getD ts33 (Int.toNat n34) ((0 : Int), ((0 : Int), ((0 : Int), (false, ((0 : Int), ())))))).2.2.2.2.1) && true)))) && true))) (k1 false) (ref13_Same_L0 ts32 ts33 (IntKind.wrap .i64 (n34 + (1 : Int))) k1 k2)) none) none) (k2))
noncomputable def ref13_Same_L0 : Nat → (List (Int × Int × Int × Bool × Int × Unit)) → (List (Int × Int × Int × Bool × Int × Unit)) → Int → (Bool → Option Bool) → (Option Bool) → Option Bool
  | 0 => fun _ _ _ _ _ => none
  | n + 1 => ref13_Same_L0.body (ref13_Same_L0 n)
noncomputable def ref13_Same_L0.get (F : (List (Int × Int × Int × Bool × Int × Unit)) → (List (Int × Int × Int × Bool × Int × Unit)) → Int → (Bool → Option Bool) → (Option Bool) → Option Bool) (e : Option Bool) (st : St) (k : KE) : Option Bool := match st with
  | ⟨sl, hp, m⟩ => match Nat.beq m 2, pickS 26 [0, 1, 5] sl, hp with
    | true, some [(.bv 1 50 (.st [(.int .i64), (.int .i64), (.int .i64), .bool, (.int .i64)]) ts32), (.bv 2 50 (.st [(.int .i64), (.int .i64), (.int .i64), .bool, (.int .i64)]) ts33), (.d ⟨(.int .i64), n34⟩)], [] => F ts32 ts33 n34 (fun y0 => k .ret ⟨fillS 26 [4] [(.d ⟨.bool, y0⟩)], [], 2⟩) (k (.exit 0) ⟨fillS 26 [] [], [], 2⟩)
    | _, _, _ => e
noncomputable def ref13_Same_L0.calls : RecF := fun g a h k => none
noncomputable def ref13_Same_L0.loops : LoopF := fun b => none
set_option maxRecDepth 100000 in
theorem ref13_Same_L0.step (S : (List (Int × Int × Int × Bool × Int × Unit)) → (List (Int × Int × Int × Bool × Int × Unit)) → Int → (Bool → Option Bool) → (Option Bool) → Option Bool) (ts32 : List (Int × Int × Int × Bool × Int × Unit)) (ts33 : List (Int × Int × Int × Bool × Int × Unit)) (n34 : Int) (k : KE) : execL Try.prog ht 8 (callfOf (ref13_Same_L0.calls)) (ref13_Same_L0.loops) 0 (loopAt 0 (codeOf Try.f8)) ⟨fillS 26 [0, 1, 5] [(.bv 1 50 (.st [(.int .i64), (.int .i64), (.int .i64), .bool, (.int .i64)]) ts32), (.bv 2 50 (.st [(.int .i64), (.int .i64), (.int .i64), .bool, (.int .i64)]) ts33), (.d ⟨(.int .i64), n34⟩)], [], 2⟩ (again (ref13_Same_L0.get S none) (plan Try.prog (ht 8 0)) k) = ref13_Same_L0.body S ts32 ts33 n34 (fun y0 => k .ret ⟨fillS 26 [4] [(.d ⟨.bool, y0⟩)], [], 2⟩) (k (.exit 0) ⟨fillS 26 [] [], [], 2⟩) := by kernel_rfl
theorem ref13_Same_L0.ok (d : Nat) (hd : 0 ≤ d) : ∀ n st k, ref13_Same_L0.get (ref13_Same_L0 n) none st k = some true → iter n (plan Try.prog (ht 8 0)) (fun st k => execK Try.prog ht 8 (callfOf (callK Try.prog ht d)) 0 (loopAt 0 (codeOf Try.f8)) st k) st k = some true :=
  loop_ok (lfn := fun n st k => ref13_Same_L0.get (ref13_Same_L0 n) none st k) (rec := ref13_Same_L0.calls) (fun g a h k hx => by
    cases hx) (loopf := ref13_Same_L0.loops) (by
    have e : loopsOf (ref13_Same_L0.loops) 0 (loopAt 0 (codeOf Try.f8)) = [] := by kernel_rfl
    rw [e]
    intro p hp
    cases hp) (fun st k h => by
    obtain ⟨sl, hp, m⟩ := st
    unfold ref13_Same_L0.get at h
    dsimp only at h
    split at h
    · have h' : (none : Option Bool) = some true := h
      cases h'
    · cases h) (fun n st k h => by
    obtain ⟨sl, hp, m⟩ := st
    unfold ref13_Same_L0.get at h
    dsimp only at h
    split at h
    · rename_i h1 h2
      obtain rfl := pickS_ok h2
      obtain rfl := Nat.eq_of_beq_eq_true h1
      exact (ref13_Same_L0.step (ref13_Same_L0 n) _ _ _ k).trans h
    · cases h)
theorem ref13_Same_L0.look {F : (List (Int × Int × Int × Bool × Int × Unit)) → (List (Int × Int × Int × Bool × Int × Unit)) → Int → (Bool → Option Bool) → (Option Bool) → Option Bool} {e : Option Bool} {st : St} {k : KE} (hx : ref13_Same_L0.get F e st k = some true) : e = some true ∨ ref13_Same_L0.get F none st k = some true := by
  obtain ⟨sl, hp, m⟩ := st
  unfold ref13_Same_L0.get at hx ⊢
  dsimp only at hx ⊢
  split at hx
  · exact .inr hx
  · exact .inl hx
/-- function 8: sheerleg/sheerlegref13.Same -/
noncomputable def ref13_Same.body (ref13_Same_L0 : (List (Int × Int × Int × Bool × Int × Unit)) → (List (Int × Int × Int × Bool × Int × Unit)) → Int → (Bool → Option Bool) → (Option Bool) → Option Bool) (ts30 : List (Int × Int × Int × Bool × Int × Unit)) (ts31 : List (Int × Int × Int × Bool × Int × Unit)) (k1 : Bool → Option Bool) : Option Bool :=
  (cond_ ((((List.length ts30) : Nat) : Int) != (((List.length ts31) : Nat) : Int)) (k1 false) (ref13_Same_L0 ts30 ts31 (0 : Int)
  (fun b35 => (k1 b35))
  (k1 true)))
noncomputable def ref13_Same (ts30 : List (Int × Int × Int × Bool × Int × Unit)) (ts31 : List (Int × Int × Int × Bool × Int × Unit)) (k1 : Bool → Option Bool) : Option Bool := ref13_Same.body (ref13_Same_L0 ROUNDS) ts30 ts31 k1
noncomputable def ref13_Same.get (F : (List (Int × Int × Int × Bool × Int × Unit)) → (List (Int × Int × Int × Bool × Int × Unit)) → (Bool → Option Bool) → Option Bool) (e : Option Bool) (g : FuncId) (a : List AV) (h : Heap) (k : KR) : Option Bool := match g, a, h with
  | 8, [(.bv 1 50 (.st [(.int .i64), (.int .i64), (.int .i64), .bool, (.int .i64)]) ts30), (.bv 2 50 (.st [(.int .i64), (.int .i64), (.int .i64), .bool, (.int .i64)]) ts31)], [] => F ts30 ts31 (fun y0 => k (.d ⟨.bool, y0⟩) [])
  | _, _, _ => e
noncomputable def ref13_Same.calls : RecF := fun g a h k => none
noncomputable def ref13_Same.loops (L0 : (List (Int × Int × Int × Bool × Int × Unit)) → (List (Int × Int × Int × Bool × Int × Unit)) → Int → (Bool → Option Bool) → (Option Bool) → Option Bool) : LoopF := fun b => match Nat.beq b 0 with | true => some (fun st k => (ref13_Same_L0.get L0 none st k)) | false => none
set_option maxRecDepth 100000 in
theorem ref13_Same.eq (L0 : (List (Int × Int × Int × Bool × Int × Unit)) → (List (Int × Int × Int × Bool × Int × Unit)) → Int → (Bool → Option Bool) → (Option Bool) → Option Bool) (ts30 : List (Int × Int × Int × Bool × Int × Unit)) (ts31 : List (Int × Int × Int × Bool × Int × Unit)) (k : KR) : execL Try.prog ht 8 (callfOf (ref13_Same.calls)) (ref13_Same.loops L0) 0 (codeOf Try.f8) ⟨[(.bv 1 50 (.st [(.int .i64), (.int .i64), (.int .i64), .bool, (.int .i64)]) ts30), (.bv 2 50 (.st [(.int .i64), (.int .i64), (.int .i64), .bool, (.int .i64)]) ts31)] ++ List.replicate (Try.f8.ntmps - ([(.bv 1 50 (.st [(.int .i64), (.int .i64), (.int .i64), .bool, (.int .i64)]) ts30), (.bv 2 50 (.st [(.int .i64), (.int .i64), (.int .i64), .bool, (.int .i64)]) ts31)] : List AV).length) .undef, [], 2⟩ (leave Try.prog Try.f8 k) = ref13_Same.body L0 ts30 ts31 (fun y0 => k (.d ⟨.bool, y0⟩) []) := by kernel_rfl
theorem ref13_Same.ok (d : Nat) (hd : 1 ≤ d) (ts30 : List (Int × Int × Int × Bool × Int × Unit)) (ts31 : List (Int × Int × Int × Bool × Int × Unit)) (k : KR) (hx : ref13_Same ts30 ts31 (fun y0 => k (.d ⟨.bool, y0⟩) []) = some true) : callK Try.prog ht d 8 [(.bv 1 50 (.st [(.int .i64), (.int .i64), (.int .i64), .bool, (.int .i64)]) ts30), (.bv 2 50 (.st [(.int .i64), (.int .i64), (.int .i64), .bool, (.int .i64)]) ts31)] [] k = some true := by
  obtain ⟨d, rfl⟩ : ∃ e, d = e + 1 := ⟨d - 1, by omega⟩
  exact fn_ok (c := codeOf Try.f8) Try.func8 (by kernel_rfl) (rec := ref13_Same.calls) (fun g a h k hx => by
    cases hx) (loopf := ref13_Same.loops (ref13_Same_L0 ROUNDS)) (by
    have e : loopsOf (ref13_Same.loops (ref13_Same_L0 ROUNDS)) 0 (codeOf Try.f8) = [(0, loopAt 0 (codeOf Try.f8))] := by kernel_rfl
    rw [e]
    intro p hp
    simp only [List.mem_cons, List.not_mem_nil, or_false] at hp
    rcases hp with rfl
    · refine loopRef_of (callf := callfOf (callK Try.prog ht d)) (callfOf_ref (callK_mono d)) fun lf st k hb hx => ?_
      cases hb
      rcases ref13_Same_L0.look hx with hx | hx
      rotate_left
      · exact ref13_Same_L0.ok d (by omega) _ _ _ hx
      cases hx) ((ref13_Same.eq (ref13_Same_L0 ROUNDS) ts30 ts31 k).trans hx)
theorem ref13_Same.look (d : Nat) (hd : 1 ≤ d) {e : Option Bool} {g : FuncId} {a : List AV} {h : Heap} {k : KR} (hx : ref13_Same.get ref13_Same e g a h k = some true) : e = some true ∨ callK Try.prog ht d g a h k = some true := by
  unfold ref13_Same.get at hx
  split at hx
  · exact .inr (ref13_Same.ok d hd _ _ _ hx)
  · exact .inl hx
/-- function 10: the loop in block 1 -/
noncomputable def runs_Check_L1.body (runs_Check_L1 : (List (Int × Int × Int × Bool × Int × Unit)) → Int → Int → (List (Int × Int × Int × Bool × Int × Unit)) → Int → Int → (Int → Option Bool) → ((List (Int × Int × Int × Bool × Int × Unit)) → Option Bool) → Option Bool) (ts39 : List (Int × Int × Int × Bool × Int × Unit)) (n40 : Int) (n41 : Int) (ts42 : List (Int × Int × Int × Bool × Int × Unit)) (n43 : Int) (n44 : Int) (k1 : Int → Option Bool) (k2 : (List (Int × Int × Int × Bool × Int × Unit)) → Option Bool) : Option Bool :=
  (cond_ (decide (n44 < n43)) (cond_ ((decide ((0 : Int) ≤ n44)) && (decide (n44 < (((List.length ts42) : Nat) : Int)))) (cond_ (! (decide ((List.getD ts42 (Int.toNat n44) ((0 : Int), ((0 : Int), ((0 : Int), (false, ((0 : Int), ())))))).1 ≤ n41))) (cond_ (! (decide ((List.getD ts42 (Int.toNat n44) ((0 : Int), ((0 : Int), ((0 : Int), (false, ((0 : Int), ())))))).1 ≥ n40))) (cond_ (n44 == (0 : Int)) (cond_ ((List.getD ts42 (Int.toNat n44) ((0 : Int), ((0 : Int), ((0 : Int), (false, ((0 : Int), ())))))).1 != (0 : Int)) (k1 (9 : Int)) (runs_Check_L1 ts39 n40 (List.getD ts42 (Int.toNat n44) ((0 : Int), ((0 : Int), ((0 : Int), (false, ((0 : Int), ())))))).1 ts42 n43 (IntKind.wrap .i64 (n44 + (1 : Int))) k1 k2)) (runs_Check_L1 ts39 n40 (List.getD ts42 (Int.toNat n44) ((0 : Int), ((0 : Int), ((0 : Int), (false, ((0 : Int), ())))))).1 ts42 n43 (IntKind.wrap .i64 (n44 + (1 : Int))) k1 k2)) (k1 (9 : Int))) (k1 (9 : Int))) none) (k2 ts39))
noncomputable def runs_Check_L1 : Nat → (List (Int × Int × Int × Bool × Int × Unit)) → Int → Int → (List (Int × Int × Int × Bool × Int × Unit)) → Int → Int → (Int → Option Bool) → ((List (Int × Int × Int × Bool × Int × Unit)) → Option Bool) → Option Bool
  | 0 => fun _ _ _ _ _ _ _ _ => none
  | n + 1 => runs_Check_L1.body (runs_Check_L1 n)
noncomputable def runs_Check_L1.get (F : (List (Int × Int × Int × Bool × Int × Unit)) → Int → Int → (List (Int × Int × Int × Bool × Int × Unit)) → Int → Int → (Int → Option Bool) → ((List (Int × Int × Int × Bool × Int × Unit)) → Option Bool) → Option Bool) (e : Option Bool) (st : St) (k : KE) : Option Bool := match st with
  | ⟨sl, hp, m⟩ => match Nat.beq m 2, pickS 67 [0, 1, 5, 20, 21, 22] sl, hp with
    | true, some [(.bv 1 50 (.st [(.int .i64), (.int .i64), (.int .i64), .bool, (.int .i64)]) ts39), (.d ⟨(.int .i64), n40⟩), (.d ⟨(.int .i64), n41⟩), (.bv 1 50 (.st [(.int .i64), (.int .i64), (.int .i64), .bool, (.int .i64)]) ts42), (.d ⟨(.int .i64), n43⟩), (.d ⟨(.int .i64), n44⟩)], [] => F ts39 n40 n41 ts42 n43 n44 (fun y0 => k .ret ⟨fillS 67 [4] [(.d ⟨(.int .i64), y0⟩)], [], 2⟩) (fun y0 => k (.exit 1) ⟨fillS 67 [0] [(.bv 1 50 (.st [(.int .i64), (.int .i64), (.int .i64), .bool, (.int .i64)]) y0)], [], 2⟩)
    | _, _, _ => e
noncomputable def runs_Check_L1.calls : RecF := fun g a h k => none
noncomputable def runs_Check_L1.loops : LoopF := fun b => none
set_option maxRecDepth 100000 in
theorem runs_Check_L1.step (S : (List (Int × Int × Int × Bool × Int × Unit)) → Int → Int → (List (Int × Int × Int × Bool × Int × Unit)) → Int → Int → (Int → Option Bool) → ((List (Int × Int × Int × Bool × Int × Unit)) → Option Bool) → Option Bool) (ts39 : List (Int × Int × Int × Bool × Int × Unit)) (n40 : Int) (n41 : Int) (ts42 : List (Int × Int × Int × Bool × Int × Unit)) (n43 : Int) (n44 : Int) (k : KE) : execL Try.prog ht 10 (callfOf (runs_Check_L1.calls)) (runs_Check_L1.loops) 1 (loopAt 1 (codeOf Try.f10)) ⟨fillS 67 [0, 1, 5, 20, 21, 22] [(.bv 1 50 (.st [(.int .i64), (.int .i64), (.int .i64), .bool, (.int .i64)]) ts39), (.d ⟨(.int .i64), n40⟩), (.d ⟨(.int .i64), n41⟩), (.bv 1 50 (.st [(.int .i64), (.int .i64), (.int .i64), .bool, (.int .i64)]) ts42), (.d ⟨(.int .i64), n43⟩), (.d ⟨(.int .i64), n44⟩)], [], 2⟩ (again (runs_Check_L1.get S none) (plan Try.prog (ht 10 1)) k) = runs_Check_L1.body S ts39 n40 n41 ts42 n43 n44 (fun y0 => k .ret ⟨fillS 67 [4] [(.d ⟨(.int .i64), y0⟩)], [], 2⟩) (fun y0 => k (.exit 1) ⟨fillS 67 [0] [(.bv 1 50 (.st [(.int .i64), (.int .i64), (.int .i64), .bool, (.int .i64)]) y0)], [], 2⟩) := by kernel_rfl
theorem runs_Check_L1.ok (d : Nat) (hd : 0 ≤ d) : ∀ n st k, runs_Check_L1.get (runs_Check_L1 n) none st k = some true → iter n (plan Try.prog (ht 10 1)) (fun st k => execK Try.prog ht 10 (callfOf (callK Try.prog ht d)) 1 (loopAt 1 (codeOf Try.f10)) st k) st k = some true :=
  loop_ok (lfn := fun n st k => runs_Check_L1.get (runs_Check_L1 n) none st k) (rec := runs_Check_L1.calls) (fun g a h k hx => by
    cases hx) (loopf := runs_Check_L1.loops) (by
    have e : loopsOf (runs_Check_L1.loops) 1 (loopAt 1 (codeOf Try.f10)) = [] := by kernel_rfl
    rw [e]
    intro p hp
    cases hp) (fun st k h => by
    obtain ⟨sl, hp, m⟩ := st
    unfold runs_Check_L1.get at h
    dsimp only at h
    split at h
    · have h' : (none : Option Bool) = some true := h
      cases h'
    · cases h) (fun n st k h => by
    obtain ⟨sl, hp, m⟩ := st
    unfold runs_Check_L1.get at h
    dsimp only at h
    split at h
    · rename_i h1 h2
      obtain rfl := pickS_ok h2
      obtain rfl := Nat.eq_of_beq_eq_true h1
      exact (runs_Check_L1.step (runs_Check_L1 n) _ _ _ _ _ _ k).trans h
    · cases h)
theorem runs_Check_L1.look {F : (List (Int × Int × Int × Bool × Int × Unit)) → Int → Int → (List (Int × Int × Int × Bool × Int × Unit)) → Int → Int → (Int → Option Bool) → ((List (Int × Int × Int × Bool × Int × Unit)) → Option Bool) → Option Bool} {e : Option Bool} {st : St} {k : KE} (hx : runs_Check_L1.get F e st k = some true) : e = some true ∨ runs_Check_L1.get F none st k = some true := by
  obtain ⟨sl, hp, m⟩ := st
  unfold runs_Check_L1.get at hx ⊢
  dsimp only at hx ⊢
  split at hx
  · exact .inr hx
  · exact .inl hx
/-- function 10: the loop in block 3 -/
noncomputable def runs_Check_L3.body (runs_Check_L3 : (List (Int × Int × Int × Bool × Int × Unit)) → Int → (Int → Option Bool) → (Option Bool) → Option Bool) (ts47 : List (Int × Int × Int × Bool × Int × Unit)) (n48 : Int) (k1 : Int → Option Bool) (k2 : Option Bool) : Option Bool :=
  (cond_ (decide (n48 < (((List.length ts47) : Nat) : Int))) (cond_ ((decide ((0 : Int) ≤ n48)) && (decide (n48 < (((List.length ts47) : Nat) : Int)))) (cond_ ((decide ((0 : Int) ≤ (IntKind.wrap .i64 (n48 - (1 : Int))))) && (decide ((IntKind.wrap .i64 (n48 - (1 : Int))) < (((List.length ts47) : Nat) : Int)))) (cond_ (((List.getD ts47 (Int.toNat n48) ((0 : Int), ((0 : Int), ((0 : Int), (false, ((0 : Int), ())))))).2.1 == (List.getD ts47 (Int.toNat (IntKind.wrap .i64 (n48 - (1 : Int)))) ((0 : Int), ((0 : Int), ((0 : Int), (false, ((0 : Int), ())))))).2.1) && (((List.getD ts47 (Int.toNat n48) ((0 : Int), ((0 : Int), ((0 : Int), (false, ((0 : Int), ())))))).2.2.1 == (List.getD ts47 (Int.toNat (IntKind.wrap .i64 (n48 - (1 : Int)))) ((0 : Int), ((0 : Int), ((0 : Int), (false, ((0 : Int), ())))))).2.2.1) && (((List.getD ts47 (Int.toNat n48) ((0 : Int), ((0 : Int), ((0 : Int), (false, ((0 : Int), ())))))).2.2.2.1 == (List.getD ts47 (Int.toNat (IntKind.wrap .i64 (n48 - (1 : Int)))) ((0 : Int), ((0 : Int), ((0 : Int), (false, ((0 : Int), ())))))).2.2.2.1) && (((List.getD ts47 (Int.toNat n48) ((0 : Int), ((0 : Int), ((0 : Int), (false, ((0 : Int), ())))))).2.2.2.2.1 == (List.getD ts47 (Int.toNat (IntKind.wrap .i64 (n48 - (1 : Int)))) ((0 : Int), ((0 : Int), ((0 : Int), (false, ((0 : Int), ())))))).2.2.2.2.1) && true)))) (k1 (12 : Int)) (runs_Check_L3 ts47 (IntKind.wrap .i64 (n48 + (1 : Int))) k1 k2)) none) none) (k2))
noncomputable def runs_Check_L3 : Nat → (List (Int × Int × Int × Bool × Int × Unit)) → Int → (Int → Option Bool) → (Option Bool) → Option Bool
  | 0 => fun _ _ _ _ => none
  | n + 1 => runs_Check_L3.body (runs_Check_L3 n)
noncomputable def runs_Check_L3.get (F : (List (Int × Int × Int × Bool × Int × Unit)) → Int → (Int → Option Bool) → (Option Bool) → Option Bool) (e : Option Bool) (st : St) (k : KE) : Option Bool := match st with
  | ⟨sl, hp, m⟩ => match Nat.beq m 2, pickS 67 [0, 8] sl, hp with
    | true, some [(.bv 1 50 (.st [(.int .i64), (.int .i64), (.int .i64), .bool, (.int .i64)]) ts47), (.d ⟨(.int .i64), n48⟩)], [] => F ts47 n48 (fun y0 => k .ret ⟨fillS 67 [4] [(.d ⟨(.int .i64), y0⟩)], [], 2⟩) (k (.exit 3) ⟨fillS 67 [] [], [], 2⟩)
    | _, _, _ => e
noncomputable def runs_Check_L3.calls : RecF := fun g a h k => none
noncomputable def runs_Check_L3.loops : LoopF := fun b => none
set_option maxRecDepth 100000 in
theorem runs_Check_L3.step (S : (List (Int × Int × Int × Bool × Int × Unit)) → Int → (Int → Option Bool) → (Option Bool) → Option Bool) (ts47 : List (Int × Int × Int × Bool × Int × Unit)) (n48 : Int) (k : KE) : execL Try.prog ht 10 (callfOf (runs_Check_L3.calls)) (runs_Check_L3.loops) 3 (loopAt 3 (codeOf Try.f10)) ⟨fillS 67 [0, 8] [(.bv 1 50 (.st [(.int .i64), (.int .i64), (.int .i64), .bool, (.int .i64)]) ts47), (.d ⟨(.int .i64), n48⟩)], [], 2⟩ (again (runs_Check_L3.get S none) (plan Try.prog (ht 10 3)) k) = runs_Check_L3.body S ts47 n48 (fun y0 => k .ret ⟨fillS 67 [4] [(.d ⟨(.int .i64), y0⟩)], [], 2⟩) (k (.exit 3) ⟨fillS 67 [] [], [], 2⟩) := by kernel_rfl
theorem runs_Check_L3.ok (d : Nat) (hd : 0 ≤ d) : ∀ n st k, runs_Check_L3.get (runs_Check_L3 n) none st k = some true → iter n (plan Try.prog (ht 10 3)) (fun st k => execK Try.prog ht 10 (callfOf (callK Try.prog ht d)) 3 (loopAt 3 (codeOf Try.f10)) st k) st k = some true :=
  loop_ok (lfn := fun n st k => runs_Check_L3.get (runs_Check_L3 n) none st k) (rec := runs_Check_L3.calls) (fun g a h k hx => by
    cases hx) (loopf := runs_Check_L3.loops) (by
    have e : loopsOf (runs_Check_L3.loops) 3 (loopAt 3 (codeOf Try.f10)) = [] := by kernel_rfl
    rw [e]
    intro p hp
    cases hp) (fun st k h => by
    obtain ⟨sl, hp, m⟩ := st
    unfold runs_Check_L3.get at h
    dsimp only at h
    split at h
    · have h' : (none : Option Bool) = some true := h
      cases h'
    · cases h) (fun n st k h => by
    obtain ⟨sl, hp, m⟩ := st
    unfold runs_Check_L3.get at h
    dsimp only at h
    split at h
    · rename_i h1 h2
      obtain rfl := pickS_ok h2
      obtain rfl := Nat.eq_of_beq_eq_true h1
      exact (runs_Check_L3.step (runs_Check_L3 n) _ _ k).trans h
    · cases h)
theorem runs_Check_L3.look {F : (List (Int × Int × Int × Bool × Int × Unit)) → Int → (Int → Option Bool) → (Option Bool) → Option Bool} {e : Option Bool} {st : St} {k : KE} (hx : runs_Check_L3.get F e st k = some true) : e = some true ∨ runs_Check_L3.get F none st k = some true := by
  obtain ⟨sl, hp, m⟩ := st
  unfold runs_Check_L3.get at hx ⊢
  dsimp only at hx ⊢
  split at hx
  · exact .inr hx
  · exact .inl hx
/-- function 10: sheerleg/runs.Check -/
noncomputable def runs_Check.body (runs_Check_L1 : (List (Int × Int × Int × Bool × Int × Unit)) → Int → Int → (List (Int × Int × Int × Bool × Int × Unit)) → Int → Int → (Int → Option Bool) → ((List (Int × Int × Int × Bool × Int × Unit)) → Option Bool) → Option Bool) (runs_Check_L3 : (List (Int × Int × Int × Bool × Int × Unit)) → Int → (Int → Option Bool) → (Option Bool) → Option Bool) (ts37 : List (Int × Int × Int × Bool × Int × Unit)) (n38 : Int) (k1 : Int → Option Bool) : Option Bool :=
  (cond_ (decide ((((List.length ts37) : Nat) : Int) > (4096 : Int))) (k1 (19 : Int)) (cond_ (! (((((List.length ts37) : Nat) : Int) == (0 : Int)) == (decide (n38 ≤ (0 : Int))))) (k1 (9 : Int)) (runs_Check_L1 ts37 n38 (-1 : Int) ts37 (((List.length ts37) : Nat) : Int) (0 : Int)
  (fun n45 => (k1 n45))
  (fun ts46 => (runs_Check_L3 ts46 (1 : Int)
  (fun n49 => (k1 n49))
  (k1 (0 : Int)))))))
noncomputable def runs_Check (ts37 : List (Int × Int × Int × Bool × Int × Unit)) (n38 : Int) (k1 : Int → Option Bool) : Option Bool := runs_Check.body (runs_Check_L1 ROUNDS) (runs_Check_L3 ROUNDS) ts37 n38 k1
noncomputable def runs_Check.get (F : (List (Int × Int × Int × Bool × Int × Unit)) → Int → (Int → Option Bool) → Option Bool) (e : Option Bool) (g : FuncId) (a : List AV) (h : Heap) (k : KR) : Option Bool := match g, a, h with
  | 10, [(.bv 1 50 (.st [(.int .i64), (.int .i64), (.int .i64), .bool, (.int .i64)]) ts37), (.d ⟨(.int .i64), n38⟩)], [] => F ts37 n38 (fun y0 => k (.d ⟨(.int .i64), y0⟩) [])
  | _, _, _ => e
noncomputable def runs_Check.calls : RecF := fun g a h k => none
noncomputable def runs_Check.loops (L0 : (List (Int × Int × Int × Bool × Int × Unit)) → Int → Int → (List (Int × Int × Int × Bool × Int × Unit)) → Int → Int → (Int → Option Bool) → ((List (Int × Int × Int × Bool × Int × Unit)) → Option Bool) → Option Bool) (L1 : (List (Int × Int × Int × Bool × Int × Unit)) → Int → (Int → Option Bool) → (Option Bool) → Option Bool) : LoopF := fun b => match Nat.beq b 1 with | true => some (fun st k => (runs_Check_L1.get L0 none st k)) | false => match Nat.beq b 3 with | true => some (fun st k => (runs_Check_L3.get L1 none st k)) | false => none
set_option maxRecDepth 100000 in
theorem runs_Check.eq (L0 : (List (Int × Int × Int × Bool × Int × Unit)) → Int → Int → (List (Int × Int × Int × Bool × Int × Unit)) → Int → Int → (Int → Option Bool) → ((List (Int × Int × Int × Bool × Int × Unit)) → Option Bool) → Option Bool) (L1 : (List (Int × Int × Int × Bool × Int × Unit)) → Int → (Int → Option Bool) → (Option Bool) → Option Bool) (ts37 : List (Int × Int × Int × Bool × Int × Unit)) (n38 : Int) (k : KR) : execL Try.prog ht 10 (callfOf (runs_Check.calls)) (runs_Check.loops L0 L1) 0 (codeOf Try.f10) ⟨[(.bv 1 50 (.st [(.int .i64), (.int .i64), (.int .i64), .bool, (.int .i64)]) ts37), (.d ⟨(.int .i64), n38⟩)] ++ List.replicate (Try.f10.ntmps - ([(.bv 1 50 (.st [(.int .i64), (.int .i64), (.int .i64), .bool, (.int .i64)]) ts37), (.d ⟨(.int .i64), n38⟩)] : List AV).length) .undef, [], 2⟩ (leave Try.prog Try.f10 k) = runs_Check.body L0 L1 ts37 n38 (fun y0 => k (.d ⟨(.int .i64), y0⟩) []) := by kernel_rfl
theorem runs_Check.ok (d : Nat) (hd : 1 ≤ d) (ts37 : List (Int × Int × Int × Bool × Int × Unit)) (n38 : Int) (k : KR) (hx : runs_Check ts37 n38 (fun y0 => k (.d ⟨(.int .i64), y0⟩) []) = some true) : callK Try.prog ht d 10 [(.bv 1 50 (.st [(.int .i64), (.int .i64), (.int .i64), .bool, (.int .i64)]) ts37), (.d ⟨(.int .i64), n38⟩)] [] k = some true := by
  obtain ⟨d, rfl⟩ : ∃ e, d = e + 1 := ⟨d - 1, by omega⟩
  exact fn_ok (c := codeOf Try.f10) Try.func10 (by kernel_rfl) (rec := runs_Check.calls) (fun g a h k hx => by
    cases hx) (loopf := runs_Check.loops (runs_Check_L1 ROUNDS) (runs_Check_L3 ROUNDS)) (by
    have e : loopsOf (runs_Check.loops (runs_Check_L1 ROUNDS) (runs_Check_L3 ROUNDS)) 0 (codeOf Try.f10) = [(1, loopAt 1 (codeOf Try.f10)), (3, loopAt 3 (codeOf Try.f10))] := by kernel_rfl
    rw [e]
    intro p hp
    simp only [List.mem_cons, List.not_mem_nil, or_false] at hp
    rcases hp with rfl | rfl
    · refine loopRef_of (callf := callfOf (callK Try.prog ht d)) (callfOf_ref (callK_mono d)) fun lf st k hb hx => ?_
      cases hb
      rcases runs_Check_L1.look hx with hx | hx
      rotate_left
      · exact runs_Check_L1.ok d (by omega) _ _ _ hx
      cases hx
    · refine loopRef_of (callf := callfOf (callK Try.prog ht d)) (callfOf_ref (callK_mono d)) fun lf st k hb hx => ?_
      cases hb
      rcases runs_Check_L3.look hx with hx | hx
      rotate_left
      · exact runs_Check_L3.ok d (by omega) _ _ _ hx
      cases hx) ((runs_Check.eq (runs_Check_L1 ROUNDS) (runs_Check_L3 ROUNDS) ts37 n38 k).trans hx)
theorem runs_Check.look (d : Nat) (hd : 1 ≤ d) {e : Option Bool} {g : FuncId} {a : List AV} {h : Heap} {k : KR} (hx : runs_Check.get runs_Check e g a h k = some true) : e = some true ∨ callK Try.prog ht d g a h k = some true := by
  unfold runs_Check.get at hx
  split at hx
  · exact .inr (runs_Check.ok d hd _ _ _ hx)
  · exact .inl hx
/-- function 24: sheerleg/runs.At$1 -/
noncomputable def runs_Atfn1.body (t64 : Int × Int × Int × Bool × Int × Unit) (n65 : Int) (k1 : Bool → Int → Option Bool) : Option Bool :=
  (k1 (decide (t64.1 > n65)) n65)
noncomputable def runs_Atfn1 (t64 : Int × Int × Int × Bool × Int × Unit) (n65 : Int) (k1 : Bool → Int → Option Bool) : Option Bool := runs_Atfn1.body t64 n65 k1
noncomputable def runs_Atfn1.get (F : (Int × Int × Int × Bool × Int × Unit) → Int → (Bool → Int → Option Bool) → Option Bool) (e : Option Bool) (g : FuncId) (a : List AV) (h : Heap) (k : KR) : Option Bool := match g, a, h with
  | 24, [(.d ⟨(.st [(.int .i64), (.int .i64), (.int .i64), .bool, (.int .i64)]), t64⟩), (.ptr [0, 0] 0 0)], [([0, 0], ⟨3, 1, (.data (.int .i64) [n65])⟩)] => F t64 n65 (fun y0 y1 => k (.d ⟨.bool, y0⟩) [([0, 0], ⟨3, 1, (.data (.int .i64) [y1])⟩)])
  | _, _, _ => e
noncomputable def runs_Atfn1.calls : RecF := fun g a h k => none
noncomputable def runs_Atfn1.loops : LoopF := fun b => none
set_option maxRecDepth 100000 in
theorem runs_Atfn1.eq (t64 : Int × Int × Int × Bool × Int × Unit) (n65 : Int) (k : KR) : execL Try.prog ht 24 (callfOf (runs_Atfn1.calls)) (runs_Atfn1.loops) 0 (codeOf Try.f24) ⟨[(.d ⟨(.st [(.int .i64), (.int .i64), (.int .i64), .bool, (.int .i64)]), t64⟩), (.ptr [0, 0] 0 0)] ++ List.replicate (Try.f24.ntmps - ([(.d ⟨(.st [(.int .i64), (.int .i64), (.int .i64), .bool, (.int .i64)]), t64⟩), (.ptr [0, 0] 0 0)] : List AV).length) .undef, [([0, 0], ⟨3, 1, (.data (.int .i64) [n65])⟩)], 2⟩ (leave Try.prog Try.f24 k) = runs_Atfn1.body t64 n65 (fun y0 y1 => k (.d ⟨.bool, y0⟩) [([0, 0], ⟨3, 1, (.data (.int .i64) [y1])⟩)]) := by kernel_rfl
theorem runs_Atfn1.ok (d : Nat) (hd : 1 ≤ d) (t64 : Int × Int × Int × Bool × Int × Unit) (n65 : Int) (k : KR) (hx : runs_Atfn1 t64 n65 (fun y0 y1 => k (.d ⟨.bool, y0⟩) [([0, 0], ⟨3, 1, (.data (.int .i64) [y1])⟩)]) = some true) : callK Try.prog ht d 24 [(.d ⟨(.st [(.int .i64), (.int .i64), (.int .i64), .bool, (.int .i64)]), t64⟩), (.ptr [0, 0] 0 0)] [([0, 0], ⟨3, 1, (.data (.int .i64) [n65])⟩)] k = some true := by
  obtain ⟨d, rfl⟩ : ∃ e, d = e + 1 := ⟨d - 1, by omega⟩
  exact fn_ok (c := codeOf Try.f24) Try.func24 (by kernel_rfl) (rec := runs_Atfn1.calls) (fun g a h k hx => by
    cases hx) (loopf := runs_Atfn1.loops) (by
    have e : loopsOf (runs_Atfn1.loops) 0 (codeOf Try.f24) = [] := by kernel_rfl
    rw [e]
    intro p hp
    cases hp) ((runs_Atfn1.eq t64 n65 k).trans hx)
theorem runs_Atfn1.look (d : Nat) (hd : 1 ≤ d) {e : Option Bool} {g : FuncId} {a : List AV} {h : Heap} {k : KR} (hx : runs_Atfn1.get runs_Atfn1 e g a h k = some true) : e = some true ∨ callK Try.prog ht d g a h k = some true := by
  unfold runs_Atfn1.get at hx
  split at hx
  · exact .inr (runs_Atfn1.ok d hd _ _ _ hx)
  · exact .inl hx
/-- function 23: the loop in block 0 -/
noncomputable def slices_IndexFunc_api_Run_api_Run_L0.body (slices_IndexFunc_api_Run_api_Run_L0 : (List (Int × Int × Int × Bool × Int × Unit)) → Int → Int → Int → (Int → Int → Option Bool) → (Int → Option Bool) → Option Bool) (runs_Atfn1 : (Int × Int × Int × Bool × Int × Unit) → Int → (Bool → Int → Option Bool) → Option Bool) (ts60 : List (Int × Int × Int × Bool × Int × Unit)) (n61 : Int) (n62 : Int) (n63 : Int) (k1 : Int → Int → Option Bool) (k2 : Int → Option Bool) : Option Bool :=
  (cond_ (decide (n62 < n61)) (cond_ ((decide ((0 : Int) ≤ n62)) && (decide (n62 < (((List.length ts60) : Nat) : Int)))) (runs_Atfn1 (List.getD ts60 (Int.toNat n62) ((0 : Int), ((0 : Int), ((0 : Int), (false, ((0 : Int), ())))))) n63
  (fun b66 n67 => (cond_ b66 (k1 n62 n67) (slices_IndexFunc_api_Run_api_Run_L0 ts60 n61 (IntKind.wrap .i64 (n62 + (1 : Int))) n67 k1 k2)))) none) (k2 n63))
noncomputable def slices_IndexFunc_api_Run_api_Run_L0 : Nat → (List (Int × Int × Int × Bool × Int × Unit)) → Int → Int → Int → (Int → Int → Option Bool) → (Int → Option Bool) → Option Bool
  | 0 => fun _ _ _ _ _ _ => none
  | n + 1 => slices_IndexFunc_api_Run_api_Run_L0.body (slices_IndexFunc_api_Run_api_Run_L0 n) runs_Atfn1
noncomputable def slices_IndexFunc_api_Run_api_Run_L0.get (F : (List (Int × Int × Int × Bool × Int × Unit)) → Int → Int → Int → (Int → Int → Option Bool) → (Int → Option Bool) → Option Bool) (e : Option Bool) (st : St) (k : KE) : Option Bool := match st with
  | ⟨sl, hp, m⟩ => match Nat.beq m 2, pickS 19 [0, 1, 7, 8] sl, hp with
    | true, some [(.bv 1 50 (.st [(.int .i64), (.int .i64), (.int .i64), .bool, (.int .i64)]) ts60), (.fn (.func 24) [] [(.ptr [0, 0] 0 0)]), (.d ⟨(.int .i64), n61⟩), (.d ⟨(.int .i64), n62⟩)], [([0, 0], ⟨3, 1, (.data (.int .i64) [n63])⟩)] => F ts60 n61 n62 n63 (fun y0 y1 => k .ret ⟨fillS 19 [4] [(.d ⟨(.int .i64), y0⟩)], [([0, 0], ⟨3, 1, (.data (.int .i64) [y1])⟩)], 2⟩) (fun y0 => k (.exit 0) ⟨fillS 19 [] [], [([0, 0], ⟨3, 1, (.data (.int .i64) [y0])⟩)], 2⟩)
    | _, _, _ => e
noncomputable def slices_IndexFunc_api_Run_api_Run_L0.calls (F0 : (Int × Int × Int × Bool × Int × Unit) → Int → (Bool → Int → Option Bool) → Option Bool) : RecF := fun g a h k => (runs_Atfn1.get F0 none g a h k)
noncomputable def slices_IndexFunc_api_Run_api_Run_L0.loops : LoopF := fun b => none
set_option maxRecDepth 100000 in
theorem slices_IndexFunc_api_Run_api_Run_L0.step (S : (List (Int × Int × Int × Bool × Int × Unit)) → Int → Int → Int → (Int → Int → Option Bool) → (Int → Option Bool) → Option Bool) (F0 : (Int × Int × Int × Bool × Int × Unit) → Int → (Bool → Int → Option Bool) → Option Bool) (ts60 : List (Int × Int × Int × Bool × Int × Unit)) (n61 : Int) (n62 : Int) (n63 : Int) (k : KE) : execL Try.prog ht 23 (callfOf (slices_IndexFunc_api_Run_api_Run_L0.calls F0)) (slices_IndexFunc_api_Run_api_Run_L0.loops) 0 (loopAt 0 (codeOf Try.f23)) ⟨fillS 19 [0, 1, 7, 8] [(.bv 1 50 (.st [(.int .i64), (.int .i64), (.int .i64), .bool, (.int .i64)]) ts60), (.fn (.func 24) [] [(.ptr [0, 0] 0 0)]), (.d ⟨(.int .i64), n61⟩), (.d ⟨(.int .i64), n62⟩)], [([0, 0], ⟨3, 1, (.data (.int .i64) [n63])⟩)], 2⟩ (again (slices_IndexFunc_api_Run_api_Run_L0.get S none) (plan Try.prog (ht 23 0)) k) = slices_IndexFunc_api_Run_api_Run_L0.body S F0 ts60 n61 n62 n63 (fun y0 y1 => k .ret ⟨fillS 19 [4] [(.d ⟨(.int .i64), y0⟩)], [([0, 0], ⟨3, 1, (.data (.int .i64) [y1])⟩)], 2⟩) (fun y0 => k (.exit 0) ⟨fillS 19 [] [], [([0, 0], ⟨3, 1, (.data (.int .i64) [y0])⟩)], 2⟩) := by kernel_rfl
theorem slices_IndexFunc_api_Run_api_Run_L0.ok (d : Nat) (hd : 1 ≤ d) : ∀ n st k, slices_IndexFunc_api_Run_api_Run_L0.get (slices_IndexFunc_api_Run_api_Run_L0 n) none st k = some true → iter n (plan Try.prog (ht 23 0)) (fun st k => execK Try.prog ht 23 (callfOf (callK Try.prog ht d)) 0 (loopAt 0 (codeOf Try.f23)) st k) st k = some true :=
  loop_ok (lfn := fun n st k => slices_IndexFunc_api_Run_api_Run_L0.get (slices_IndexFunc_api_Run_api_Run_L0 n) none st k) (rec := slices_IndexFunc_api_Run_api_Run_L0.calls runs_Atfn1) (fun g a h k hx => by
    rcases runs_Atfn1.look d (by omega) hx with hx | hx
    rotate_left
    · exact hx
    cases hx) (loopf := slices_IndexFunc_api_Run_api_Run_L0.loops) (by
    have e : loopsOf (slices_IndexFunc_api_Run_api_Run_L0.loops) 0 (loopAt 0 (codeOf Try.f23)) = [] := by kernel_rfl
    rw [e]
    intro p hp
    cases hp) (fun st k h => by
    obtain ⟨sl, hp, m⟩ := st
    unfold slices_IndexFunc_api_Run_api_Run_L0.get at h
    dsimp only at h
    split at h
    · have h' : (none : Option Bool) = some true := h
      cases h'
    · cases h) (fun n st k h => by
    obtain ⟨sl, hp, m⟩ := st
    unfold slices_IndexFunc_api_Run_api_Run_L0.get at h
    dsimp only at h
    split at h
    · rename_i h1 h2
      obtain rfl := pickS_ok h2
      obtain rfl := Nat.eq_of_beq_eq_true h1
      exact (slices_IndexFunc_api_Run_api_Run_L0.step (slices_IndexFunc_api_Run_api_Run_L0 n) runs_Atfn1 _ _ _ _ k).trans h
    · cases h)
theorem slices_IndexFunc_api_Run_api_Run_L0.look {F : (List (Int × Int × Int × Bool × Int × Unit)) → Int → Int → Int → (Int → Int → Option Bool) → (Int → Option Bool) → Option Bool} {e : Option Bool} {st : St} {k : KE} (hx : slices_IndexFunc_api_Run_api_Run_L0.get F e st k = some true) : e = some true ∨ slices_IndexFunc_api_Run_api_Run_L0.get F none st k = some true := by
  obtain ⟨sl, hp, m⟩ := st
  unfold slices_IndexFunc_api_Run_api_Run_L0.get at hx ⊢
  dsimp only at hx ⊢
  split at hx
  · exact .inr hx
  · exact .inl hx
/-- function 23: slices.IndexFunc[[]sheerleg/api.Run,sheerleg/api.Run] -/
noncomputable def slices_IndexFunc_api_Run_api_Run.body (slices_IndexFunc_api_Run_api_Run_L0 : (List (Int × Int × Int × Bool × Int × Unit)) → Int → Int → Int → (Int → Int → Option Bool) → (Int → Option Bool) → Option Bool) (ts58 : List (Int × Int × Int × Bool × Int × Unit)) (n59 : Int) (k1 : Int → Int → Option Bool) : Option Bool :=
  (slices_IndexFunc_api_Run_api_Run_L0 ts58 (((List.length ts58) : Nat) : Int) (0 : Int) n59
  (fun n68 n69 => (k1 n68 n69))
  (fun n70 => (k1 (-1 : Int) n70)))
noncomputable def slices_IndexFunc_api_Run_api_Run (ts58 : List (Int × Int × Int × Bool × Int × Unit)) (n59 : Int) (k1 : Int → Int → Option Bool) : Option Bool := slices_IndexFunc_api_Run_api_Run.body (slices_IndexFunc_api_Run_api_Run_L0 ROUNDS) ts58 n59 k1
noncomputable def slices_IndexFunc_api_Run_api_Run.get (F : (List (Int × Int × Int × Bool × Int × Unit)) → Int → (Int → Int → Option Bool) → Option Bool) (e : Option Bool) (g : FuncId) (a : List AV) (h : Heap) (k : KR) : Option Bool := match g, a, h with
  | 23, [(.bv 1 50 (.st [(.int .i64), (.int .i64), (.int .i64), .bool, (.int .i64)]) ts58), (.fn (.func 24) [] [(.ptr [0, 0] 0 0)])], [([0, 0], ⟨3, 1, (.data (.int .i64) [n59])⟩)] => F ts58 n59 (fun y0 y1 => k (.d ⟨(.int .i64), y0⟩) [([0, 0], ⟨3, 1, (.data (.int .i64) [y1])⟩)])
  | _, _, _ => e
noncomputable def slices_IndexFunc_api_Run_api_Run.calls : RecF := fun g a h k => none
noncomputable def slices_IndexFunc_api_Run_api_Run.loops (L0 : (List (Int × Int × Int × Bool × Int × Unit)) → Int → Int → Int → (Int → Int → Option Bool) → (Int → Option Bool) → Option Bool) : LoopF := fun b => match Nat.beq b 0 with | true => some (fun st k => (slices_IndexFunc_api_Run_api_Run_L0.get L0 none st k)) | false => none
set_option maxRecDepth 100000 in
theorem slices_IndexFunc_api_Run_api_Run.eq (L0 : (List (Int × Int × Int × Bool × Int × Unit)) → Int → Int → Int → (Int → Int → Option Bool) → (Int → Option Bool) → Option Bool) (ts58 : List (Int × Int × Int × Bool × Int × Unit)) (n59 : Int) (k : KR) : execL Try.prog ht 23 (callfOf (slices_IndexFunc_api_Run_api_Run.calls)) (slices_IndexFunc_api_Run_api_Run.loops L0) 0 (codeOf Try.f23) ⟨[(.bv 1 50 (.st [(.int .i64), (.int .i64), (.int .i64), .bool, (.int .i64)]) ts58), (.fn (.func 24) [] [(.ptr [0, 0] 0 0)])] ++ List.replicate (Try.f23.ntmps - ([(.bv 1 50 (.st [(.int .i64), (.int .i64), (.int .i64), .bool, (.int .i64)]) ts58), (.fn (.func 24) [] [(.ptr [0, 0] 0 0)])] : List AV).length) .undef, [([0, 0], ⟨3, 1, (.data (.int .i64) [n59])⟩)], 2⟩ (leave Try.prog Try.f23 k) = slices_IndexFunc_api_Run_api_Run.body L0 ts58 n59 (fun y0 y1 => k (.d ⟨(.int .i64), y0⟩) [([0, 0], ⟨3, 1, (.data (.int .i64) [y1])⟩)]) := by kernel_rfl
theorem slices_IndexFunc_api_Run_api_Run.ok (d : Nat) (hd : 2 ≤ d) (ts58 : List (Int × Int × Int × Bool × Int × Unit)) (n59 : Int) (k : KR) (hx : slices_IndexFunc_api_Run_api_Run ts58 n59 (fun y0 y1 => k (.d ⟨(.int .i64), y0⟩) [([0, 0], ⟨3, 1, (.data (.int .i64) [y1])⟩)]) = some true) : callK Try.prog ht d 23 [(.bv 1 50 (.st [(.int .i64), (.int .i64), (.int .i64), .bool, (.int .i64)]) ts58), (.fn (.func 24) [] [(.ptr [0, 0] 0 0)])] [([0, 0], ⟨3, 1, (.data (.int .i64) [n59])⟩)] k = some true := by
  obtain ⟨d, rfl⟩ : ∃ e, d = e + 1 := ⟨d - 1, by omega⟩
  exact fn_ok (c := codeOf Try.f23) Try.func23 (by kernel_rfl) (rec := slices_IndexFunc_api_Run_api_Run.calls) (fun g a h k hx => by
    cases hx) (loopf := slices_IndexFunc_api_Run_api_Run.loops (slices_IndexFunc_api_Run_api_Run_L0 ROUNDS)) (by
    have e : loopsOf (slices_IndexFunc_api_Run_api_Run.loops (slices_IndexFunc_api_Run_api_Run_L0 ROUNDS)) 0 (codeOf Try.f23) = [(0, loopAt 0 (codeOf Try.f23))] := by kernel_rfl
    rw [e]
    intro p hp
    simp only [List.mem_cons, List.not_mem_nil, or_false] at hp
    rcases hp with rfl
    · refine loopRef_of (callf := callfOf (callK Try.prog ht d)) (callfOf_ref (callK_mono d)) fun lf st k hb hx => ?_
      cases hb
      rcases slices_IndexFunc_api_Run_api_Run_L0.look hx with hx | hx
      rotate_left
      · exact slices_IndexFunc_api_Run_api_Run_L0.ok d (by omega) _ _ _ hx
      cases hx) ((slices_IndexFunc_api_Run_api_Run.eq (slices_IndexFunc_api_Run_api_Run_L0 ROUNDS) ts58 n59 k).trans hx)
theorem slices_IndexFunc_api_Run_api_Run.look (d : Nat) (hd : 2 ≤ d) {e : Option Bool} {g : FuncId} {a : List AV} {h : Heap} {k : KR} (hx : slices_IndexFunc_api_Run_api_Run.get slices_IndexFunc_api_Run_api_Run e g a h k = some true) : e = some true ∨ callK Try.prog ht d g a h k = some true := by
  unfold slices_IndexFunc_api_Run_api_Run.get at hx
  split at hx
  · exact .inr (slices_IndexFunc_api_Run_api_Run.ok d hd _ _ _ hx)
  · exact .inl hx
/-- function 14: sheerleg/runs.At -/
noncomputable def runs_At.body (slices_IndexFunc_api_Run_api_Run : (List (Int × Int × Int × Bool × Int × Unit)) → Int → (Int → Int → Option Bool) → Option Bool) (ts56 : List (Int × Int × Int × Bool × Int × Unit)) (n57 : Int) (k1 : (Int × Int × Bool × Int × Unit) → Bool → Option Bool) : Option Bool :=
  (slices_IndexFunc_api_Run_api_Run ts56 n57
  (fun n71 n72 => (cond_ (decide (n71 < (0 : Int))) (cond_ ((((List.length ts56) : Nat) : Int) == (0 : Int)) (k1 ((0 : Int), ((0 : Int), (false, ((0 : Int), ())))) false) (cond_ ((decide ((0 : Int) ≤ (IntKind.wrap .i64 ((((List.length ts56) : Nat) : Int) - (1 : Int))))) && (decide ((IntKind.wrap .i64 ((((List.length ts56) : Nat) : Int) - (1 : Int))) < (((List.length ts56) : Nat) : Int)))) (k1 ((List.getD ts56 (Int.toNat (IntKind.wrap .i64 ((((List.length ts56) : Nat) : Int) - (1 : Int)))) ((0 : Int), ((0 : Int), ((0 : Int), (false, ((0 : Int), ())))))).2.1, ((List.getD ts56 (Int.toNat (IntKind.wrap .i64 ((((List.length ts56) : Nat) : Int) - (1 : Int)))) ((0 : Int), ((0 : Int), ((0 : Int), (false, ((0 : Int), ())))))).2.2.1, ((List.getD ts56 (Int.toNat (IntKind.wrap .i64 ((((List.length ts56) : Nat) : Int) - (1 : Int)))) ((0 : Int), ((0 : Int), ((0 : Int), (false, ((0 : Int), ())))))).2.2.2.1, ((List.getD ts56 (Int.toNat (IntKind.wrap .i64 ((((List.length ts56) : Nat) : Int) - (1 : Int)))) ((0 : Int), ((0 : Int), ((0 : Int), (false, ((0 : Int), ())))))).2.2.2.2.1, ())))) true) none)) (cond_ (n71 == (0 : Int)) (k1 ((0 : Int), ((0 : Int), (false, ((0 : Int), ())))) false) (cond_ ((decide ((0 : Int) ≤ (IntKind.wrap .i64 (n71 - (1 : Int))))) && (decide ((IntKind.wrap .i64 (n71 - (1 : Int))) < (((List.length ts56) : Nat) : Int)))) (k1 ((List.getD ts56 (Int.toNat (IntKind.wrap .i64 (n71 - (1 : Int)))) ((0 : Int), ((0 : Int), ((0 : Int), (false, ((0 : Int), ())))))).2.1, ((List.getD ts56 (Int.toNat (IntKind.wrap .i64 (n71 - (1 : Int)))) ((0 : Int), ((0 : Int), ((0 : Int), (false, ((0 : Int), ())))))).2.2.1, ((List.getD ts56 (Int.toNat (IntKind.wrap .i64 (n71 - (1 : Int)))) ((0 : Int), ((0 : Int), ((0 : Int), (false, ((0 : Int), ())))))).2.2.2.1, ((List.getD ts56 (Int.toNat (IntKind.wrap .i64 (n71 - (1 : Int)))) ((0 : Int), ((0 : Int), ((0 : Int), (false, ((0 : Int), ())))))).2.2.2.2.1, ())))) true) none)))))
noncomputable def runs_At (ts56 : List (Int × Int × Int × Bool × Int × Unit)) (n57 : Int) (k1 : (Int × Int × Bool × Int × Unit) → Bool → Option Bool) : Option Bool := runs_At.body slices_IndexFunc_api_Run_api_Run ts56 n57 k1
noncomputable def runs_At.get (F : (List (Int × Int × Int × Bool × Int × Unit)) → Int → ((Int × Int × Bool × Int × Unit) → Bool → Option Bool) → Option Bool) (e : Option Bool) (g : FuncId) (a : List AV) (h : Heap) (k : KR) : Option Bool := match g, a, h with
  | 14, [(.bv 1 50 (.st [(.int .i64), (.int .i64), (.int .i64), .bool, (.int .i64)]) ts56), (.d ⟨(.int .i64), n57⟩)], [] => F ts56 n57 (fun y0 y1 => k (.tup [(.d ⟨(.st [(.int .i64), (.int .i64), .bool, (.int .i64)]), y0⟩), (.d ⟨.bool, y1⟩)]) [])
  | _, _, _ => e
noncomputable def runs_At.calls (F0 : (List (Int × Int × Int × Bool × Int × Unit)) → Int → (Int → Int → Option Bool) → Option Bool) : RecF := fun g a h k => (slices_IndexFunc_api_Run_api_Run.get F0 none g a h k)
noncomputable def runs_At.loops : LoopF := fun b => none
set_option maxRecDepth 100000 in
theorem runs_At.eq (F0 : (List (Int × Int × Int × Bool × Int × Unit)) → Int → (Int → Int → Option Bool) → Option Bool) (ts56 : List (Int × Int × Int × Bool × Int × Unit)) (n57 : Int) (k : KR) : execL Try.prog ht 14 (callfOf (runs_At.calls F0)) (runs_At.loops) 0 (codeOf Try.f14) ⟨[(.bv 1 50 (.st [(.int .i64), (.int .i64), (.int .i64), .bool, (.int .i64)]) ts56), (.d ⟨(.int .i64), n57⟩)] ++ List.replicate (Try.f14.ntmps - ([(.bv 1 50 (.st [(.int .i64), (.int .i64), (.int .i64), .bool, (.int .i64)]) ts56), (.d ⟨(.int .i64), n57⟩)] : List AV).length) .undef, [], 2⟩ (leave Try.prog Try.f14 k) = runs_At.body F0 ts56 n57 (fun y0 y1 => k (.tup [(.d ⟨(.st [(.int .i64), (.int .i64), .bool, (.int .i64)]), y0⟩), (.d ⟨.bool, y1⟩)]) []) := by kernel_rfl
theorem runs_At.ok (d : Nat) (hd : 3 ≤ d) (ts56 : List (Int × Int × Int × Bool × Int × Unit)) (n57 : Int) (k : KR) (hx : runs_At ts56 n57 (fun y0 y1 => k (.tup [(.d ⟨(.st [(.int .i64), (.int .i64), .bool, (.int .i64)]), y0⟩), (.d ⟨.bool, y1⟩)]) []) = some true) : callK Try.prog ht d 14 [(.bv 1 50 (.st [(.int .i64), (.int .i64), (.int .i64), .bool, (.int .i64)]) ts56), (.d ⟨(.int .i64), n57⟩)] [] k = some true := by
  obtain ⟨d, rfl⟩ : ∃ e, d = e + 1 := ⟨d - 1, by omega⟩
  exact fn_ok (c := codeOf Try.f14) Try.func14 (by kernel_rfl) (rec := runs_At.calls slices_IndexFunc_api_Run_api_Run) (fun g a h k hx => by
    rcases slices_IndexFunc_api_Run_api_Run.look d (by omega) hx with hx | hx
    rotate_left
    · exact hx
    cases hx) (loopf := runs_At.loops) (by
    have e : loopsOf (runs_At.loops) 0 (codeOf Try.f14) = [] := by kernel_rfl
    rw [e]
    intro p hp
    cases hp) ((runs_At.eq slices_IndexFunc_api_Run_api_Run ts56 n57 k).trans hx)
theorem runs_At.look (d : Nat) (hd : 3 ≤ d) {e : Option Bool} {g : FuncId} {a : List AV} {h : Heap} {k : KR} (hx : runs_At.get runs_At e g a h k = some true) : e = some true ∨ callK Try.prog ht d g a h k = some true := by
  unfold runs_At.get at hx
  split at hx
  · exact .inr (runs_At.ok d hd _ _ _ hx)
  · exact .inl hx
/-- function 12: the loop in block 0 -/
noncomputable def runs_Rows_L0.body (runs_Rows_L0 : (List (Int × Int × Int × Bool × Int × Unit)) → Int → Int → (List (Int × Int × Bool × Int × Unit)) → ((List (Int × Int × Bool × Int × Unit)) → Option Bool) → Option Bool) (runs_At : (List (Int × Int × Int × Bool × Int × Unit)) → Int → ((Int × Int × Bool × Int × Unit) → Bool → Option Bool) → Option Bool) (ts84 : List (Int × Int × Int × Bool × Int × Unit)) (n85 : Int) (n86 : Int) (ts87 : List (Int × Int × Bool × Int × Unit)) (k1 : (List (Int × Int × Bool × Int × Unit)) → Option Bool) : Option Bool :=
  (cond_ (decide (n86 < n85)) (runs_At ts84 n86
  (fun t88 b89 => (cond_ (Nat.ble (((List.length ts87) + (List.length ((t88.1, (t88.2.1, (t88.2.2.1, (t88.2.2.2.1, ())))) :: []))) * (32 : Nat)) (140737488355328 : Nat)) (runs_Rows_L0 ts84 n85 (IntKind.wrap .i64 (n86 + (1 : Int))) (ts87 ++ ((t88.1, (t88.2.1, (t88.2.2.1, (t88.2.2.2.1, ())))) :: [])) k1) none))) (k1 ts87))
noncomputable def runs_Rows_L0 : Nat → (List (Int × Int × Int × Bool × Int × Unit)) → Int → Int → (List (Int × Int × Bool × Int × Unit)) → ((List (Int × Int × Bool × Int × Unit)) → Option Bool) → Option Bool
  | 0 => fun _ _ _ _ _ => none
  | n + 1 => runs_Rows_L0.body (runs_Rows_L0 n) runs_At
noncomputable def runs_Rows_L0.get (F : (List (Int × Int × Int × Bool × Int × Unit)) → Int → Int → (List (Int × Int × Bool × Int × Unit)) → ((List (Int × Int × Bool × Int × Unit)) → Option Bool) → Option Bool) (e : Option Bool) (st : St) (k : KE) : Option Bool := match st with
  | ⟨sl, hp, m⟩ => match Nat.beq m 2, pickS 27 [0, 5, 11, 12] sl, hp with
    | true, some [(.bv 1 50 (.st [(.int .i64), (.int .i64), (.int .i64), .bool, (.int .i64)]) ts84), (.ref [1, 0]), (.d ⟨(.int .i64), n85⟩), (.d ⟨(.int .i64), n86⟩)], [([1, 0], ⟨33, 4, (.data (.st [(.int .i64), (.int .i64), .bool, (.int .i64)]) ts87)⟩)] => F ts84 n85 n86 ts87 (fun y0 => k (.exit 0) ⟨fillS 27 [5] [(.ref [1, 0])], [([1, 0], ⟨33, 4, (.data (.st [(.int .i64), (.int .i64), .bool, (.int .i64)]) y0)⟩)], 2⟩)
    | _, _, _ => e
noncomputable def runs_Rows_L0.calls (F0 : (List (Int × Int × Int × Bool × Int × Unit)) → Int → ((Int × Int × Bool × Int × Unit) → Bool → Option Bool) → Option Bool) : RecF := fun g a h k => (runs_At.get F0 none g a h k)
noncomputable def runs_Rows_L0.loops : LoopF := fun b => none
set_option maxRecDepth 100000 in
theorem runs_Rows_L0.step (S : (List (Int × Int × Int × Bool × Int × Unit)) → Int → Int → (List (Int × Int × Bool × Int × Unit)) → ((List (Int × Int × Bool × Int × Unit)) → Option Bool) → Option Bool) (F0 : (List (Int × Int × Int × Bool × Int × Unit)) → Int → ((Int × Int × Bool × Int × Unit) → Bool → Option Bool) → Option Bool) (ts84 : List (Int × Int × Int × Bool × Int × Unit)) (n85 : Int) (n86 : Int) (ts87 : List (Int × Int × Bool × Int × Unit)) (k : KE) : execL Try.prog ht 12 (callfOf (runs_Rows_L0.calls F0)) (runs_Rows_L0.loops) 0 (loopAt 0 (codeOf Try.f12)) ⟨fillS 27 [0, 5, 11, 12] [(.bv 1 50 (.st [(.int .i64), (.int .i64), (.int .i64), .bool, (.int .i64)]) ts84), (.ref [1, 0]), (.d ⟨(.int .i64), n85⟩), (.d ⟨(.int .i64), n86⟩)], [([1, 0], ⟨33, 4, (.data (.st [(.int .i64), (.int .i64), .bool, (.int .i64)]) ts87)⟩)], 2⟩ (again (runs_Rows_L0.get S none) (plan Try.prog (ht 12 0)) k) = runs_Rows_L0.body S F0 ts84 n85 n86 ts87 (fun y0 => k (.exit 0) ⟨fillS 27 [5] [(.ref [1, 0])], [([1, 0], ⟨33, 4, (.data (.st [(.int .i64), (.int .i64), .bool, (.int .i64)]) y0)⟩)], 2⟩) := by kernel_rfl
theorem runs_Rows_L0.ok (d : Nat) (hd : 3 ≤ d) : ∀ n st k, runs_Rows_L0.get (runs_Rows_L0 n) none st k = some true → iter n (plan Try.prog (ht 12 0)) (fun st k => execK Try.prog ht 12 (callfOf (callK Try.prog ht d)) 0 (loopAt 0 (codeOf Try.f12)) st k) st k = some true :=
  loop_ok (lfn := fun n st k => runs_Rows_L0.get (runs_Rows_L0 n) none st k) (rec := runs_Rows_L0.calls runs_At) (fun g a h k hx => by
    rcases runs_At.look d (by omega) hx with hx | hx
    rotate_left
    · exact hx
    cases hx) (loopf := runs_Rows_L0.loops) (by
    have e : loopsOf (runs_Rows_L0.loops) 0 (loopAt 0 (codeOf Try.f12)) = [] := by kernel_rfl
    rw [e]
    intro p hp
    cases hp) (fun st k h => by
    obtain ⟨sl, hp, m⟩ := st
    unfold runs_Rows_L0.get at h
    dsimp only at h
    split at h
    · have h' : (none : Option Bool) = some true := h
      cases h'
    · cases h) (fun n st k h => by
    obtain ⟨sl, hp, m⟩ := st
    unfold runs_Rows_L0.get at h
    dsimp only at h
    split at h
    · rename_i h1 h2
      obtain rfl := pickS_ok h2
      obtain rfl := Nat.eq_of_beq_eq_true h1
      exact (runs_Rows_L0.step (runs_Rows_L0 n) runs_At _ _ _ _ k).trans h
    · cases h)
theorem runs_Rows_L0.look {F : (List (Int × Int × Int × Bool × Int × Unit)) → Int → Int → (List (Int × Int × Bool × Int × Unit)) → ((List (Int × Int × Bool × Int × Unit)) → Option Bool) → Option Bool} {e : Option Bool} {st : St} {k : KE} (hx : runs_Rows_L0.get F e st k = some true) : e = some true ∨ runs_Rows_L0.get F none st k = some true := by
  obtain ⟨sl, hp, m⟩ := st
  unfold runs_Rows_L0.get at hx ⊢
  dsimp only at hx ⊢
  split at hx
  · exact .inr hx
  · exact .inl hx
/-- function 12: sheerleg/runs.Rows -/
noncomputable def runs_Rows.body (runs_Rows_L0 : (List (Int × Int × Int × Bool × Int × Unit)) → Int → Int → (List (Int × Int × Bool × Int × Unit)) → ((List (Int × Int × Bool × Int × Unit)) → Option Bool) → Option Bool) (ts82 : List (Int × Int × Int × Bool × Int × Unit)) (n83 : Int) (k1 : (List (Int × Int × Bool × Int × Unit)) → Option Bool) : Option Bool :=
  (runs_Rows_L0 ts82 (if ((0 : Int) < (if ((4096 : Int) < n83) then (4096 : Int) else n83)) then (if ((4096 : Int) < n83) then (4096 : Int) else n83) else (0 : Int)) (0 : Int) []
  (fun ts90 => (k1 ts90)))
noncomputable def runs_Rows (ts82 : List (Int × Int × Int × Bool × Int × Unit)) (n83 : Int) (k1 : (List (Int × Int × Bool × Int × Unit)) → Option Bool) : Option Bool := runs_Rows.body (runs_Rows_L0 ROUNDS) ts82 n83 k1
noncomputable def runs_Rows.get (F : (List (Int × Int × Int × Bool × Int × Unit)) → Int → ((List (Int × Int × Bool × Int × Unit)) → Option Bool) → Option Bool) (e : Option Bool) (g : FuncId) (a : List AV) (h : Heap) (k : KR) : Option Bool := match g, a, h with
  | 12, [(.bv 1 50 (.st [(.int .i64), (.int .i64), (.int .i64), .bool, (.int .i64)]) ts82), (.d ⟨(.int .i64), n83⟩)], [] => F ts82 n83 (fun y0 => k (.ref [1, 0]) [([1, 0], ⟨33, 4, (.data (.st [(.int .i64), (.int .i64), .bool, (.int .i64)]) y0)⟩)])
  | _, _, _ => e
noncomputable def runs_Rows.calls : RecF := fun g a h k => none
noncomputable def runs_Rows.loops (L0 : (List (Int × Int × Int × Bool × Int × Unit)) → Int → Int → (List (Int × Int × Bool × Int × Unit)) → ((List (Int × Int × Bool × Int × Unit)) → Option Bool) → Option Bool) : LoopF := fun b => match Nat.beq b 0 with | true => some (fun st k => (runs_Rows_L0.get L0 none st k)) | false => none
set_option maxRecDepth 100000 in
theorem runs_Rows.eq (L0 : (List (Int × Int × Int × Bool × Int × Unit)) → Int → Int → (List (Int × Int × Bool × Int × Unit)) → ((List (Int × Int × Bool × Int × Unit)) → Option Bool) → Option Bool) (ts82 : List (Int × Int × Int × Bool × Int × Unit)) (n83 : Int) (k : KR) : execL Try.prog ht 12 (callfOf (runs_Rows.calls)) (runs_Rows.loops L0) 0 (codeOf Try.f12) ⟨[(.bv 1 50 (.st [(.int .i64), (.int .i64), (.int .i64), .bool, (.int .i64)]) ts82), (.d ⟨(.int .i64), n83⟩)] ++ List.replicate (Try.f12.ntmps - ([(.bv 1 50 (.st [(.int .i64), (.int .i64), (.int .i64), .bool, (.int .i64)]) ts82), (.d ⟨(.int .i64), n83⟩)] : List AV).length) .undef, [], 2⟩ (leave Try.prog Try.f12 k) = runs_Rows.body L0 ts82 n83 (fun y0 => k (.ref [1, 0]) [([1, 0], ⟨33, 4, (.data (.st [(.int .i64), (.int .i64), .bool, (.int .i64)]) y0)⟩)]) := by kernel_rfl
theorem runs_Rows.ok (d : Nat) (hd : 4 ≤ d) (ts82 : List (Int × Int × Int × Bool × Int × Unit)) (n83 : Int) (k : KR) (hx : runs_Rows ts82 n83 (fun y0 => k (.ref [1, 0]) [([1, 0], ⟨33, 4, (.data (.st [(.int .i64), (.int .i64), .bool, (.int .i64)]) y0)⟩)]) = some true) : callK Try.prog ht d 12 [(.bv 1 50 (.st [(.int .i64), (.int .i64), (.int .i64), .bool, (.int .i64)]) ts82), (.d ⟨(.int .i64), n83⟩)] [] k = some true := by
  obtain ⟨d, rfl⟩ : ∃ e, d = e + 1 := ⟨d - 1, by omega⟩
  exact fn_ok (c := codeOf Try.f12) Try.func12 (by kernel_rfl) (rec := runs_Rows.calls) (fun g a h k hx => by
    cases hx) (loopf := runs_Rows.loops (runs_Rows_L0 ROUNDS)) (by
    have e : loopsOf (runs_Rows.loops (runs_Rows_L0 ROUNDS)) 0 (codeOf Try.f12) = [(0, loopAt 0 (codeOf Try.f12))] := by kernel_rfl
    rw [e]
    intro p hp
    simp only [List.mem_cons, List.not_mem_nil, or_false] at hp
    rcases hp with rfl
    · refine loopRef_of (callf := callfOf (callK Try.prog ht d)) (callfOf_ref (callK_mono d)) fun lf st k hb hx => ?_
      cases hb
      rcases runs_Rows_L0.look hx with hx | hx
      rotate_left
      · exact runs_Rows_L0.ok d (by omega) _ _ _ hx
      cases hx) ((runs_Rows.eq (runs_Rows_L0 ROUNDS) ts82 n83 k).trans hx)
theorem runs_Rows.look (d : Nat) (hd : 4 ≤ d) {e : Option Bool} {g : FuncId} {a : List AV} {h : Heap} {k : KR} (hx : runs_Rows.get runs_Rows e g a h k = some true) : e = some true ∨ callK Try.prog ht d g a h k = some true := by
  unfold runs_Rows.get at hx
  split at hx
  · exact .inr (runs_Rows.ok d hd _ _ _ hx)
  · exact .inl hx
/-- function 11: the loop in block 0 -/
noncomputable def ref13_SameRows_L0.body (ref13_SameRows_L0 : (List (Int × Int × Bool × Int × Unit)) → (List (Int × Int × Bool × Int × Unit)) → Int → (Bool → Option Bool) → (Option Bool) → Option Bool) (ts94 : List (Int × Int × Bool × Int × Unit)) (ts95 : List (Int × Int × Bool × Int × Unit)) (n96 : Int) (k1 : Bool → Option Bool) (k2 : Option Bool) : Option Bool :=
  (cond_ (decide (n96 < (((List.length ts94) : Nat) : Int))) (cond_ ((decide ((0 : Int) ≤ n96)) && (decide (n96 < (((List.length ts94) : Nat) : Int)))) (cond_ ((decide ((0 : Int) ≤ n96)) && (decide (n96 < (((List.length ts95) : Nat) : Int)))) (cond_ (! (((List.getD ts94 (Int.toNat n96) ((0 : Int), ((0 : Int), (false, ((0 : Int), ()))))).1 == (List.getD ts95 (Int.toNat n96) ((0 : Int), ((0 : Int), (false, ((0 : Int), ()))))).1) && (((List.getD ts94 (Int.toNat n96) ((0 : Int), ((0 : Int), (false, ((0 : Int), ()))))).2.1 == (List.getD ts95 (Int.toNat n96) ((0 : Int), ((0 : Int), (false, ((0 : Int), ()))))).2.1) && (((List.getD ts94 (Int.toNat n96) ((0 : Int), ((0 : Int), (false, ((0 : Int), ()))))).2.2.1 == (List.getD ts95 (Int.toNat n96) ((0 : Int), ((0 : Int), (false, ((0 : Int), ()))))).2.2.1) && (((List.getD ts94 (Int.toNat n96) ((0 : Int), ((0 : Int), (false, ((0 : Int), ()))))).2.2.2.1 == (List.getD ts95 (Int.toNat n96) ((0 : Int), ((0 : Int), (false, ((0 : Int), ()))))).2.2.2.1) && true))))) (k1 false) (ref13_SameRows_L0 ts94 ts95 (IntKind.wrap .i64 (n96 + (1 : Int))) k1 k2)) none) none) (k2))
noncomputable def ref13_SameRows_L0 : Nat → (List (Int × Int × Bool × Int × Unit)) → (List (Int × Int × Bool × Int × Unit)) → Int → (Bool → Option Bool) → (Option Bool) → Option Bool
  | 0 => fun _ _ _ _ _ => none
  | n + 1 => ref13_SameRows_L0.body (ref13_SameRows_L0 n)
noncomputable def ref13_SameRows_L0.get (F : (List (Int × Int × Bool × Int × Unit)) → (List (Int × Int × Bool × Int × Unit)) → Int → (Bool → Option Bool) → (Option Bool) → Option Bool) (e : Option Bool) (st : St) (k : KE) : Option Bool := match st with
  | ⟨sl, hp, m⟩ => match Nat.beq m 2, pickS 26 [0, 1, 5] sl, hp with
    | true, some [(.bv 1 33 (.st [(.int .i64), (.int .i64), .bool, (.int .i64)]) ts94), (.bv 0 33 (.st [(.int .i64), (.int .i64), .bool, (.int .i64)]) ts95), (.d ⟨(.int .i64), n96⟩)], [] => F ts94 ts95 n96 (fun y0 => k .ret ⟨fillS 26 [4] [(.d ⟨.bool, y0⟩)], [], 2⟩) (k (.exit 0) ⟨fillS 26 [] [], [], 2⟩)
    | _, _, _ => e
noncomputable def ref13_SameRows_L0.calls : RecF := fun g a h k => none
noncomputable def ref13_SameRows_L0.loops : LoopF := fun b => none
set_option maxRecDepth 100000 in
theorem ref13_SameRows_L0.step (S : (List (Int × Int × Bool × Int × Unit)) → (List (Int × Int × Bool × Int × Unit)) → Int → (Bool → Option Bool) → (Option Bool) → Option Bool) (ts94 : List (Int × Int × Bool × Int × Unit)) (ts95 : List (Int × Int × Bool × Int × Unit)) (n96 : Int) (k : KE) : execL Try.prog ht 11 (callfOf (ref13_SameRows_L0.calls)) (ref13_SameRows_L0.loops) 0 (loopAt 0 (codeOf Try.f11)) ⟨fillS 26 [0, 1, 5] [(.bv 1 33 (.st [(.int .i64), (.int .i64), .bool, (.int .i64)]) ts94), (.bv 0 33 (.st [(.int .i64), (.int .i64), .bool, (.int .i64)]) ts95), (.d ⟨(.int .i64), n96⟩)], [], 2⟩ (again (ref13_SameRows_L0.get S none) (plan Try.prog (ht 11 0)) k) = ref13_SameRows_L0.body S ts94 ts95 n96 (fun y0 => k .ret ⟨fillS 26 [4] [(.d ⟨.bool, y0⟩)], [], 2⟩) (k (.exit 0) ⟨fillS 26 [] [], [], 2⟩) := by kernel_rfl
theorem ref13_SameRows_L0.ok (d : Nat) (hd : 0 ≤ d) : ∀ n st k, ref13_SameRows_L0.get (ref13_SameRows_L0 n) none st k = some true → iter n (plan Try.prog (ht 11 0)) (fun st k => execK Try.prog ht 11 (callfOf (callK Try.prog ht d)) 0 (loopAt 0 (codeOf Try.f11)) st k) st k = some true :=
  loop_ok (lfn := fun n st k => ref13_SameRows_L0.get (ref13_SameRows_L0 n) none st k) (rec := ref13_SameRows_L0.calls) (fun g a h k hx => by
    cases hx) (loopf := ref13_SameRows_L0.loops) (by
    have e : loopsOf (ref13_SameRows_L0.loops) 0 (loopAt 0 (codeOf Try.f11)) = [] := by kernel_rfl
    rw [e]
    intro p hp
    cases hp) (fun st k h => by
    obtain ⟨sl, hp, m⟩ := st
    unfold ref13_SameRows_L0.get at h
    dsimp only at h
    split at h
    · have h' : (none : Option Bool) = some true := h
      cases h'
    · cases h) (fun n st k h => by
    obtain ⟨sl, hp, m⟩ := st
    unfold ref13_SameRows_L0.get at h
    dsimp only at h
    split at h
    · rename_i h1 h2
      obtain rfl := pickS_ok h2
      obtain rfl := Nat.eq_of_beq_eq_true h1
      exact (ref13_SameRows_L0.step (ref13_SameRows_L0 n) _ _ _ k).trans h
    · cases h)
theorem ref13_SameRows_L0.look {F : (List (Int × Int × Bool × Int × Unit)) → (List (Int × Int × Bool × Int × Unit)) → Int → (Bool → Option Bool) → (Option Bool) → Option Bool} {e : Option Bool} {st : St} {k : KE} (hx : ref13_SameRows_L0.get F e st k = some true) : e = some true ∨ ref13_SameRows_L0.get F none st k = some true := by
  obtain ⟨sl, hp, m⟩ := st
  unfold ref13_SameRows_L0.get at hx ⊢
  dsimp only at hx ⊢
  split at hx
  · exact .inr hx
  · exact .inl hx
/-- function 11: sheerleg/sheerlegref13.SameRows -/
noncomputable def ref13_SameRows.body (ref13_SameRows_L0 : (List (Int × Int × Bool × Int × Unit)) → (List (Int × Int × Bool × Int × Unit)) → Int → (Bool → Option Bool) → (Option Bool) → Option Bool) (ts92 : List (Int × Int × Bool × Int × Unit)) (ts93 : List (Int × Int × Bool × Int × Unit)) (k1 : Bool → Option Bool) : Option Bool :=
  (cond_ ((((List.length ts92) : Nat) : Int) != (((List.length ts93) : Nat) : Int)) (k1 false) (ref13_SameRows_L0 ts92 ts93 (0 : Int)
  (fun b97 => (k1 b97))
  (k1 true)))
noncomputable def ref13_SameRows (ts92 : List (Int × Int × Bool × Int × Unit)) (ts93 : List (Int × Int × Bool × Int × Unit)) (k1 : Bool → Option Bool) : Option Bool := ref13_SameRows.body (ref13_SameRows_L0 ROUNDS) ts92 ts93 k1
noncomputable def ref13_SameRows.get (F : (List (Int × Int × Bool × Int × Unit)) → (List (Int × Int × Bool × Int × Unit)) → (Bool → Option Bool) → Option Bool) (e : Option Bool) (g : FuncId) (a : List AV) (h : Heap) (k : KR) : Option Bool := match g, a, h with
  | 11, [(.bv 1 33 (.st [(.int .i64), (.int .i64), .bool, (.int .i64)]) ts92), (.bv 0 33 (.st [(.int .i64), (.int .i64), .bool, (.int .i64)]) ts93)], [] => F ts92 ts93 (fun y0 => k (.d ⟨.bool, y0⟩) [])
  | _, _, _ => e
noncomputable def ref13_SameRows.calls : RecF := fun g a h k => none
noncomputable def ref13_SameRows.loops (L0 : (List (Int × Int × Bool × Int × Unit)) → (List (Int × Int × Bool × Int × Unit)) → Int → (Bool → Option Bool) → (Option Bool) → Option Bool) : LoopF := fun b => match Nat.beq b 0 with | true => some (fun st k => (ref13_SameRows_L0.get L0 none st k)) | false => none
set_option maxRecDepth 100000 in
theorem ref13_SameRows.eq (L0 : (List (Int × Int × Bool × Int × Unit)) → (List (Int × Int × Bool × Int × Unit)) → Int → (Bool → Option Bool) → (Option Bool) → Option Bool) (ts92 : List (Int × Int × Bool × Int × Unit)) (ts93 : List (Int × Int × Bool × Int × Unit)) (k : KR) : execL Try.prog ht 11 (callfOf (ref13_SameRows.calls)) (ref13_SameRows.loops L0) 0 (codeOf Try.f11) ⟨[(.bv 1 33 (.st [(.int .i64), (.int .i64), .bool, (.int .i64)]) ts92), (.bv 0 33 (.st [(.int .i64), (.int .i64), .bool, (.int .i64)]) ts93)] ++ List.replicate (Try.f11.ntmps - ([(.bv 1 33 (.st [(.int .i64), (.int .i64), .bool, (.int .i64)]) ts92), (.bv 0 33 (.st [(.int .i64), (.int .i64), .bool, (.int .i64)]) ts93)] : List AV).length) .undef, [], 2⟩ (leave Try.prog Try.f11 k) = ref13_SameRows.body L0 ts92 ts93 (fun y0 => k (.d ⟨.bool, y0⟩) []) := by kernel_rfl
theorem ref13_SameRows.ok (d : Nat) (hd : 1 ≤ d) (ts92 : List (Int × Int × Bool × Int × Unit)) (ts93 : List (Int × Int × Bool × Int × Unit)) (k : KR) (hx : ref13_SameRows ts92 ts93 (fun y0 => k (.d ⟨.bool, y0⟩) []) = some true) : callK Try.prog ht d 11 [(.bv 1 33 (.st [(.int .i64), (.int .i64), .bool, (.int .i64)]) ts92), (.bv 0 33 (.st [(.int .i64), (.int .i64), .bool, (.int .i64)]) ts93)] [] k = some true := by
  obtain ⟨d, rfl⟩ : ∃ e, d = e + 1 := ⟨d - 1, by omega⟩
  exact fn_ok (c := codeOf Try.f11) Try.func11 (by kernel_rfl) (rec := ref13_SameRows.calls) (fun g a h k hx => by
    cases hx) (loopf := ref13_SameRows.loops (ref13_SameRows_L0 ROUNDS)) (by
    have e : loopsOf (ref13_SameRows.loops (ref13_SameRows_L0 ROUNDS)) 0 (codeOf Try.f11) = [(0, loopAt 0 (codeOf Try.f11))] := by kernel_rfl
    rw [e]
    intro p hp
    simp only [List.mem_cons, List.not_mem_nil, or_false] at hp
    rcases hp with rfl
    · refine loopRef_of (callf := callfOf (callK Try.prog ht d)) (callfOf_ref (callK_mono d)) fun lf st k hb hx => ?_
      cases hb
      rcases ref13_SameRows_L0.look hx with hx | hx
      rotate_left
      · exact ref13_SameRows_L0.ok d (by omega) _ _ _ hx
      cases hx) ((ref13_SameRows.eq (ref13_SameRows_L0 ROUNDS) ts92 ts93 k).trans hx)
theorem ref13_SameRows.look (d : Nat) (hd : 1 ≤ d) {e : Option Bool} {g : FuncId} {a : List AV} {h : Heap} {k : KR} (hx : ref13_SameRows.get ref13_SameRows e g a h k = some true) : e = some true ∨ callK Try.prog ht d g a h k = some true := by
  unfold ref13_SameRows.get at hx
  split at hx
  · exact .inr (ref13_SameRows.ok d hd _ _ _ hx)
  · exact .inl hx
/-- function 10: the loop in block 1 -/
noncomputable def runs_Checkv1_L1.body (runs_Checkv1_L1 : (List (Int × Int × Int × Bool × Int × Unit)) → Int → Int → (List (Int × Int × Int × Bool × Int × Unit)) → Int → Int → (Int → Option Bool) → ((List (Int × Int × Int × Bool × Int × Unit)) → Option Bool) → Option Bool) (ts101 : List (Int × Int × Int × Bool × Int × Unit)) (n102 : Int) (n103 : Int) (ts104 : List (Int × Int × Int × Bool × Int × Unit)) (n105 : Int) (n106 : Int) (k1 : Int → Option Bool) (k2 : (List (Int × Int × Int × Bool × Int × Unit)) → Option Bool) : Option Bool :=
  (cond_ (decide (n106 < n105)) (cond_ ((decide ((0 : Int) ≤ n106)) && (decide (n106 < (((List.length ts104) : Nat) : Int)))) (cond_ (! (decide ((List.getD ts104 (Int.toNat n106) ((0 : Int), ((0 : Int), ((0 : Int), (false, ((0 : Int), ())))))).1 ≤ n103))) (cond_ (! (decide ((List.getD ts104 (Int.toNat n106) ((0 : Int), ((0 : Int), ((0 : Int), (false, ((0 : Int), ())))))).1 ≥ n102))) (cond_ (n106 == (0 : Int)) (cond_ ((List.getD ts104 (Int.toNat n106) ((0 : Int), ((0 : Int), ((0 : Int), (false, ((0 : Int), ())))))).1 != (0 : Int)) (k1 (9 : Int)) (runs_Checkv1_L1 ts101 n102 (List.getD ts104 (Int.toNat n106) ((0 : Int), ((0 : Int), ((0 : Int), (false, ((0 : Int), ())))))).1 ts104 n105 (IntKind.wrap .i64 (n106 + (1 : Int))) k1 k2)) (runs_Checkv1_L1 ts101 n102 (List.getD ts104 (Int.toNat n106) ((0 : Int), ((0 : Int), ((0 : Int), (false, ((0 : Int), ())))))).1 ts104 n105 (IntKind.wrap .i64 (n106 + (1 : Int))) k1 k2)) (k1 (9 : Int))) (k1 (9 : Int))) none) (k2 ts101))
noncomputable def runs_Checkv1_L1 : Nat → (List (Int × Int × Int × Bool × Int × Unit)) → Int → Int → (List (Int × Int × Int × Bool × Int × Unit)) → Int → Int → (Int → Option Bool) → ((List (Int × Int × Int × Bool × Int × Unit)) → Option Bool) → Option Bool
  | 0 => fun _ _ _ _ _ _ _ _ => none
  | n + 1 => runs_Checkv1_L1.body (runs_Checkv1_L1 n)
noncomputable def runs_Checkv1_L1.get (F : (List (Int × Int × Int × Bool × Int × Unit)) → Int → Int → (List (Int × Int × Int × Bool × Int × Unit)) → Int → Int → (Int → Option Bool) → ((List (Int × Int × Int × Bool × Int × Unit)) → Option Bool) → Option Bool) (e : Option Bool) (st : St) (k : KE) : Option Bool := match st with
  | ⟨sl, hp, m⟩ => match Nat.beq m 2, pickS 67 [0, 1, 5, 20, 21, 22] sl, hp with
    | true, some [(.bv 0 50 (.st [(.int .i64), (.int .i64), (.int .i64), .bool, (.int .i64)]) ts101), (.d ⟨(.int .i64), n102⟩), (.d ⟨(.int .i64), n103⟩), (.bv 0 50 (.st [(.int .i64), (.int .i64), (.int .i64), .bool, (.int .i64)]) ts104), (.d ⟨(.int .i64), n105⟩), (.d ⟨(.int .i64), n106⟩)], [] => F ts101 n102 n103 ts104 n105 n106 (fun y0 => k .ret ⟨fillS 67 [4] [(.d ⟨(.int .i64), y0⟩)], [], 2⟩) (fun y0 => k (.exit 1) ⟨fillS 67 [0] [(.bv 0 50 (.st [(.int .i64), (.int .i64), (.int .i64), .bool, (.int .i64)]) y0)], [], 2⟩)
    | _, _, _ => e
noncomputable def runs_Checkv1_L1.calls : RecF := fun g a h k => none
noncomputable def runs_Checkv1_L1.loops : LoopF := fun b => none
set_option maxRecDepth 100000 in
theorem runs_Checkv1_L1.step (S : (List (Int × Int × Int × Bool × Int × Unit)) → Int → Int → (List (Int × Int × Int × Bool × Int × Unit)) → Int → Int → (Int → Option Bool) → ((List (Int × Int × Int × Bool × Int × Unit)) → Option Bool) → Option Bool) (ts101 : List (Int × Int × Int × Bool × Int × Unit)) (n102 : Int) (n103 : Int) (ts104 : List (Int × Int × Int × Bool × Int × Unit)) (n105 : Int) (n106 : Int) (k : KE) : execL Try.prog ht 10 (callfOf (runs_Checkv1_L1.calls)) (runs_Checkv1_L1.loops) 1 (loopAt 1 (codeOf Try.f10)) ⟨fillS 67 [0, 1, 5, 20, 21, 22] [(.bv 0 50 (.st [(.int .i64), (.int .i64), (.int .i64), .bool, (.int .i64)]) ts101), (.d ⟨(.int .i64), n102⟩), (.d ⟨(.int .i64), n103⟩), (.bv 0 50 (.st [(.int .i64), (.int .i64), (.int .i64), .bool, (.int .i64)]) ts104), (.d ⟨(.int .i64), n105⟩), (.d ⟨(.int .i64), n106⟩)], [], 2⟩ (again (runs_Checkv1_L1.get S none) (plan Try.prog (ht 10 1)) k) = runs_Checkv1_L1.body S ts101 n102 n103 ts104 n105 n106 (fun y0 => k .ret ⟨fillS 67 [4] [(.d ⟨(.int .i64), y0⟩)], [], 2⟩) (fun y0 => k (.exit 1) ⟨fillS 67 [0] [(.bv 0 50 (.st [(.int .i64), (.int .i64), (.int .i64), .bool, (.int .i64)]) y0)], [], 2⟩) := by kernel_rfl
theorem runs_Checkv1_L1.ok (d : Nat) (hd : 0 ≤ d) : ∀ n st k, runs_Checkv1_L1.get (runs_Checkv1_L1 n) none st k = some true → iter n (plan Try.prog (ht 10 1)) (fun st k => execK Try.prog ht 10 (callfOf (callK Try.prog ht d)) 1 (loopAt 1 (codeOf Try.f10)) st k) st k = some true :=
  loop_ok (lfn := fun n st k => runs_Checkv1_L1.get (runs_Checkv1_L1 n) none st k) (rec := runs_Checkv1_L1.calls) (fun g a h k hx => by
    cases hx) (loopf := runs_Checkv1_L1.loops) (by
    have e : loopsOf (runs_Checkv1_L1.loops) 1 (loopAt 1 (codeOf Try.f10)) = [] := by kernel_rfl
    rw [e]
    intro p hp
    cases hp) (fun st k h => by
    obtain ⟨sl, hp, m⟩ := st
    unfold runs_Checkv1_L1.get at h
    dsimp only at h
    split at h
    · have h' : (none : Option Bool) = some true := h
      cases h'
    · cases h) (fun n st k h => by
    obtain ⟨sl, hp, m⟩ := st
    unfold runs_Checkv1_L1.get at h
    dsimp only at h
    split at h
    · rename_i h1 h2
      obtain rfl := pickS_ok h2
      obtain rfl := Nat.eq_of_beq_eq_true h1
      exact (runs_Checkv1_L1.step (runs_Checkv1_L1 n) _ _ _ _ _ _ k).trans h
    · cases h)
theorem runs_Checkv1_L1.look {F : (List (Int × Int × Int × Bool × Int × Unit)) → Int → Int → (List (Int × Int × Int × Bool × Int × Unit)) → Int → Int → (Int → Option Bool) → ((List (Int × Int × Int × Bool × Int × Unit)) → Option Bool) → Option Bool} {e : Option Bool} {st : St} {k : KE} (hx : runs_Checkv1_L1.get F e st k = some true) : e = some true ∨ runs_Checkv1_L1.get F none st k = some true := by
  obtain ⟨sl, hp, m⟩ := st
  unfold runs_Checkv1_L1.get at hx ⊢
  dsimp only at hx ⊢
  split at hx
  · exact .inr hx
  · exact .inl hx
/-- function 10: the loop in block 3 -/
noncomputable def runs_Checkv1_L3.body (runs_Checkv1_L3 : (List (Int × Int × Int × Bool × Int × Unit)) → Int → (Int → Option Bool) → (Option Bool) → Option Bool) (ts109 : List (Int × Int × Int × Bool × Int × Unit)) (n110 : Int) (k1 : Int → Option Bool) (k2 : Option Bool) : Option Bool :=
  (cond_ (decide (n110 < (((List.length ts109) : Nat) : Int))) (cond_ ((decide ((0 : Int) ≤ n110)) && (decide (n110 < (((List.length ts109) : Nat) : Int)))) (cond_ ((decide ((0 : Int) ≤ (IntKind.wrap .i64 (n110 - (1 : Int))))) && (decide ((IntKind.wrap .i64 (n110 - (1 : Int))) < (((List.length ts109) : Nat) : Int)))) (cond_ (((List.getD ts109 (Int.toNat n110) ((0 : Int), ((0 : Int), ((0 : Int), (false, ((0 : Int), ())))))).2.1 == (List.getD ts109 (Int.toNat (IntKind.wrap .i64 (n110 - (1 : Int)))) ((0 : Int), ((0 : Int), ((0 : Int), (false, ((0 : Int), ())))))).2.1) && (((List.getD ts109 (Int.toNat n110) ((0 : Int), ((0 : Int), ((0 : Int), (false, ((0 : Int), ())))))).2.2.1 == (List.getD ts109 (Int.toNat (IntKind.wrap .i64 (n110 - (1 : Int)))) ((0 : Int), ((0 : Int), ((0 : Int), (false, ((0 : Int), ())))))).2.2.1) && (((List.getD ts109 (Int.toNat n110) ((0 : Int), ((0 : Int), ((0 : Int), (false, ((0 : Int), ())))))).2.2.2.1 == (List.getD ts109 (Int.toNat (IntKind.wrap .i64 (n110 - (1 : Int)))) ((0 : Int), ((0 : Int), ((0 : Int), (false, ((0 : Int), ())))))).2.2.2.1) && (((List.getD ts109 (Int.toNat n110) ((0 : Int), ((0 : Int), ((0 : Int), (false, ((0 : Int), ())))))).2.2.2.2.1 == (List.getD ts109 (Int.toNat (IntKind.wrap .i64 (n110 - (1 : Int)))) ((0 : Int), ((0 : Int), ((0 : Int), (false, ((0 : Int), ())))))).2.2.2.2.1) && true)))) (k1 (12 : Int)) (runs_Checkv1_L3 ts109 (IntKind.wrap .i64 (n110 + (1 : Int))) k1 k2)) none) none) (k2))
noncomputable def runs_Checkv1_L3 : Nat → (List (Int × Int × Int × Bool × Int × Unit)) → Int → (Int → Option Bool) → (Option Bool) → Option Bool
  | 0 => fun _ _ _ _ => none
  | n + 1 => runs_Checkv1_L3.body (runs_Checkv1_L3 n)
noncomputable def runs_Checkv1_L3.get (F : (List (Int × Int × Int × Bool × Int × Unit)) → Int → (Int → Option Bool) → (Option Bool) → Option Bool) (e : Option Bool) (st : St) (k : KE) : Option Bool := match st with
  | ⟨sl, hp, m⟩ => match Nat.beq m 2, pickS 67 [0, 8] sl, hp with
    | true, some [(.bv 0 50 (.st [(.int .i64), (.int .i64), (.int .i64), .bool, (.int .i64)]) ts109), (.d ⟨(.int .i64), n110⟩)], [] => F ts109 n110 (fun y0 => k .ret ⟨fillS 67 [4] [(.d ⟨(.int .i64), y0⟩)], [], 2⟩) (k (.exit 3) ⟨fillS 67 [] [], [], 2⟩)
    | _, _, _ => e
noncomputable def runs_Checkv1_L3.calls : RecF := fun g a h k => none
noncomputable def runs_Checkv1_L3.loops : LoopF := fun b => none
set_option maxRecDepth 100000 in
theorem runs_Checkv1_L3.step (S : (List (Int × Int × Int × Bool × Int × Unit)) → Int → (Int → Option Bool) → (Option Bool) → Option Bool) (ts109 : List (Int × Int × Int × Bool × Int × Unit)) (n110 : Int) (k : KE) : execL Try.prog ht 10 (callfOf (runs_Checkv1_L3.calls)) (runs_Checkv1_L3.loops) 3 (loopAt 3 (codeOf Try.f10)) ⟨fillS 67 [0, 8] [(.bv 0 50 (.st [(.int .i64), (.int .i64), (.int .i64), .bool, (.int .i64)]) ts109), (.d ⟨(.int .i64), n110⟩)], [], 2⟩ (again (runs_Checkv1_L3.get S none) (plan Try.prog (ht 10 3)) k) = runs_Checkv1_L3.body S ts109 n110 (fun y0 => k .ret ⟨fillS 67 [4] [(.d ⟨(.int .i64), y0⟩)], [], 2⟩) (k (.exit 3) ⟨fillS 67 [] [], [], 2⟩) := by kernel_rfl
theorem runs_Checkv1_L3.ok (d : Nat) (hd : 0 ≤ d) : ∀ n st k, runs_Checkv1_L3.get (runs_Checkv1_L3 n) none st k = some true → iter n (plan Try.prog (ht 10 3)) (fun st k => execK Try.prog ht 10 (callfOf (callK Try.prog ht d)) 3 (loopAt 3 (codeOf Try.f10)) st k) st k = some true :=
  loop_ok (lfn := fun n st k => runs_Checkv1_L3.get (runs_Checkv1_L3 n) none st k) (rec := runs_Checkv1_L3.calls) (fun g a h k hx => by
    cases hx) (loopf := runs_Checkv1_L3.loops) (by
    have e : loopsOf (runs_Checkv1_L3.loops) 3 (loopAt 3 (codeOf Try.f10)) = [] := by kernel_rfl
    rw [e]
    intro p hp
    cases hp) (fun st k h => by
    obtain ⟨sl, hp, m⟩ := st
    unfold runs_Checkv1_L3.get at h
    dsimp only at h
    split at h
    · have h' : (none : Option Bool) = some true := h
      cases h'
    · cases h) (fun n st k h => by
    obtain ⟨sl, hp, m⟩ := st
    unfold runs_Checkv1_L3.get at h
    dsimp only at h
    split at h
    · rename_i h1 h2
      obtain rfl := pickS_ok h2
      obtain rfl := Nat.eq_of_beq_eq_true h1
      exact (runs_Checkv1_L3.step (runs_Checkv1_L3 n) _ _ k).trans h
    · cases h)
theorem runs_Checkv1_L3.look {F : (List (Int × Int × Int × Bool × Int × Unit)) → Int → (Int → Option Bool) → (Option Bool) → Option Bool} {e : Option Bool} {st : St} {k : KE} (hx : runs_Checkv1_L3.get F e st k = some true) : e = some true ∨ runs_Checkv1_L3.get F none st k = some true := by
  obtain ⟨sl, hp, m⟩ := st
  unfold runs_Checkv1_L3.get at hx ⊢
  dsimp only at hx ⊢
  split at hx
  · exact .inr hx
  · exact .inl hx
/-- function 10: sheerleg/runs.Check -/
noncomputable def runs_Checkv1.body (runs_Checkv1_L1 : (List (Int × Int × Int × Bool × Int × Unit)) → Int → Int → (List (Int × Int × Int × Bool × Int × Unit)) → Int → Int → (Int → Option Bool) → ((List (Int × Int × Int × Bool × Int × Unit)) → Option Bool) → Option Bool) (runs_Checkv1_L3 : (List (Int × Int × Int × Bool × Int × Unit)) → Int → (Int → Option Bool) → (Option Bool) → Option Bool) (ts99 : List (Int × Int × Int × Bool × Int × Unit)) (n100 : Int) (k1 : Int → Option Bool) : Option Bool :=
  (cond_ (decide ((((List.length ts99) : Nat) : Int) > (4096 : Int))) (k1 (19 : Int)) (cond_ (! (((((List.length ts99) : Nat) : Int) == (0 : Int)) == (decide (n100 ≤ (0 : Int))))) (k1 (9 : Int)) (runs_Checkv1_L1 ts99 n100 (-1 : Int) ts99 (((List.length ts99) : Nat) : Int) (0 : Int)
  (fun n107 => (k1 n107))
  (fun ts108 => (runs_Checkv1_L3 ts108 (1 : Int)
  (fun n111 => (k1 n111))
  (k1 (0 : Int)))))))
noncomputable def runs_Checkv1 (ts99 : List (Int × Int × Int × Bool × Int × Unit)) (n100 : Int) (k1 : Int → Option Bool) : Option Bool := runs_Checkv1.body (runs_Checkv1_L1 ROUNDS) (runs_Checkv1_L3 ROUNDS) ts99 n100 k1
noncomputable def runs_Checkv1.get (F : (List (Int × Int × Int × Bool × Int × Unit)) → Int → (Int → Option Bool) → Option Bool) (e : Option Bool) (g : FuncId) (a : List AV) (h : Heap) (k : KR) : Option Bool := match g, a, h with
  | 10, [(.bv 0 50 (.st [(.int .i64), (.int .i64), (.int .i64), .bool, (.int .i64)]) ts99), (.d ⟨(.int .i64), n100⟩)], [] => F ts99 n100 (fun y0 => k (.d ⟨(.int .i64), y0⟩) [])
  | _, _, _ => e
noncomputable def runs_Checkv1.calls : RecF := fun g a h k => none
noncomputable def runs_Checkv1.loops (L0 : (List (Int × Int × Int × Bool × Int × Unit)) → Int → Int → (List (Int × Int × Int × Bool × Int × Unit)) → Int → Int → (Int → Option Bool) → ((List (Int × Int × Int × Bool × Int × Unit)) → Option Bool) → Option Bool) (L1 : (List (Int × Int × Int × Bool × Int × Unit)) → Int → (Int → Option Bool) → (Option Bool) → Option Bool) : LoopF := fun b => match Nat.beq b 1 with | true => some (fun st k => (runs_Checkv1_L1.get L0 none st k)) | false => match Nat.beq b 3 with | true => some (fun st k => (runs_Checkv1_L3.get L1 none st k)) | false => none
set_option maxRecDepth 100000 in
theorem runs_Checkv1.eq (L0 : (List (Int × Int × Int × Bool × Int × Unit)) → Int → Int → (List (Int × Int × Int × Bool × Int × Unit)) → Int → Int → (Int → Option Bool) → ((List (Int × Int × Int × Bool × Int × Unit)) → Option Bool) → Option Bool) (L1 : (List (Int × Int × Int × Bool × Int × Unit)) → Int → (Int → Option Bool) → (Option Bool) → Option Bool) (ts99 : List (Int × Int × Int × Bool × Int × Unit)) (n100 : Int) (k : KR) : execL Try.prog ht 10 (callfOf (runs_Checkv1.calls)) (runs_Checkv1.loops L0 L1) 0 (codeOf Try.f10) ⟨[(.bv 0 50 (.st [(.int .i64), (.int .i64), (.int .i64), .bool, (.int .i64)]) ts99), (.d ⟨(.int .i64), n100⟩)] ++ List.replicate (Try.f10.ntmps - ([(.bv 0 50 (.st [(.int .i64), (.int .i64), (.int .i64), .bool, (.int .i64)]) ts99), (.d ⟨(.int .i64), n100⟩)] : List AV).length) .undef, [], 2⟩ (leave Try.prog Try.f10 k) = runs_Checkv1.body L0 L1 ts99 n100 (fun y0 => k (.d ⟨(.int .i64), y0⟩) []) := by kernel_rfl
theorem runs_Checkv1.ok (d : Nat) (hd : 1 ≤ d) (ts99 : List (Int × Int × Int × Bool × Int × Unit)) (n100 : Int) (k : KR) (hx : runs_Checkv1 ts99 n100 (fun y0 => k (.d ⟨(.int .i64), y0⟩) []) = some true) : callK Try.prog ht d 10 [(.bv 0 50 (.st [(.int .i64), (.int .i64), (.int .i64), .bool, (.int .i64)]) ts99), (.d ⟨(.int .i64), n100⟩)] [] k = some true := by
  obtain ⟨d, rfl⟩ : ∃ e, d = e + 1 := ⟨d - 1, by omega⟩
  exact fn_ok (c := codeOf Try.f10) Try.func10 (by kernel_rfl) (rec := runs_Checkv1.calls) (fun g a h k hx => by
    cases hx) (loopf := runs_Checkv1.loops (runs_Checkv1_L1 ROUNDS) (runs_Checkv1_L3 ROUNDS)) (by
    have e : loopsOf (runs_Checkv1.loops (runs_Checkv1_L1 ROUNDS) (runs_Checkv1_L3 ROUNDS)) 0 (codeOf Try.f10) = [(1, loopAt 1 (codeOf Try.f10)), (3, loopAt 3 (codeOf Try.f10))] := by kernel_rfl
    rw [e]
    intro p hp
    simp only [List.mem_cons, List.not_mem_nil, or_false] at hp
    rcases hp with rfl | rfl
    · refine loopRef_of (callf := callfOf (callK Try.prog ht d)) (callfOf_ref (callK_mono d)) fun lf st k hb hx => ?_
      cases hb
      rcases runs_Checkv1_L1.look hx with hx | hx
      rotate_left
      · exact runs_Checkv1_L1.ok d (by omega) _ _ _ hx
      cases hx
    · refine loopRef_of (callf := callfOf (callK Try.prog ht d)) (callfOf_ref (callK_mono d)) fun lf st k hb hx => ?_
      cases hb
      rcases runs_Checkv1_L3.look hx with hx | hx
      rotate_left
      · exact runs_Checkv1_L3.ok d (by omega) _ _ _ hx
      cases hx) ((runs_Checkv1.eq (runs_Checkv1_L1 ROUNDS) (runs_Checkv1_L3 ROUNDS) ts99 n100 k).trans hx)
theorem runs_Checkv1.look (d : Nat) (hd : 1 ≤ d) {e : Option Bool} {g : FuncId} {a : List AV} {h : Heap} {k : KR} (hx : runs_Checkv1.get runs_Checkv1 e g a h k = some true) : e = some true ∨ callK Try.prog ht d g a h k = some true := by
  unfold runs_Checkv1.get at hx
  split at hx
  · exact .inr (runs_Checkv1.ok d hd _ _ _ hx)
  · exact .inl hx
/-- function 15: the loop in block 0 -/
noncomputable def ref13_At_L0.body (ref13_At_L0 : (List (Int × Int × Int × Bool × Int × Unit)) → Int → Bool → Int → (Int × Int × Bool × Int × Unit) → (Int × Int × Bool × Int × Unit) → (Bool → (Int × Int × Bool × Int × Unit) → (Int × Int × Bool × Int × Unit) → Option Bool) → Option Bool) (ts120 : List (Int × Int × Int × Bool × Int × Unit)) (n121 : Int) (b122 : Bool) (n123 : Int) (t124 : Int × Int × Bool × Int × Unit) (t125 : Int × Int × Bool × Int × Unit) (k1 : Bool → (Int × Int × Bool × Int × Unit) → (Int × Int × Bool × Int × Unit) → Option Bool) : Option Bool :=
  (cond_ (decide (n123 < (((List.length ts120) : Nat) : Int))) (cond_ ((decide ((0 : Int) ≤ n123)) && (decide (n123 < (((List.length ts120) : Nat) : Int)))) (cond_ (decide ((List.getD ts120 (Int.toNat n123) ((0 : Int), ((0 : Int), ((0 : Int), (false, ((0 : Int), ())))))).1 ≤ n121)) (cond_ ((decide ((0 : Int) ≤ n123)) && (decide (n123 < (((List.length ts120) : Nat) : Int)))) (ref13_At_L0 ts120 n121 true (IntKind.wrap .i64 (n123 + (1 : Int))) t124 ((List.getD ts120 (Int.toNat n123) ((0 : Int), ((0 : Int), ((0 : Int), (false, ((0 : Int), ())))))).2.1, ((List.getD ts120 (Int.toNat n123) ((0 : Int), ((0 : Int), ((0 : Int), (false, ((0 : Int), ())))))).2.2.1, ((List.getD ts120 (Int.toNat n123) ((0 : Int), ((0 : Int), ((0 : Int), (false, ((0 : Int), ())))))).2.2.2.1, ((List.getD ts120 (Int.toNat n123) ((0 : Int), ((0 : Int), ((0 : Int), (false, ((0 : Int), ())))))).2.2.2.2.1, ())))) k1) none) (k1 b122 t124 t125)) none) (k1 b122 t124 t125))
noncomputable def ref13_At_L0 : Nat → (List (Int × Int × Int × Bool × Int × Unit)) → Int → Bool → Int → (Int × Int × Bool × Int × Unit) → (Int × Int × Bool × Int × Unit) → (Bool → (Int × Int × Bool × Int × Unit) → (Int × Int × Bool × Int × Unit) → Option Bool) → Option Bool
  | 0 => fun _ _ _ _ _ _ _ => none
  | n + 1 => ref13_At_L0.body (ref13_At_L0 n)
noncomputable def ref13_At_L0.get (F : (List (Int × Int × Int × Bool × Int × Unit)) → Int → Bool → Int → (Int × Int × Bool × Int × Unit) → (Int × Int × Bool × Int × Unit) → (Bool → (Int × Int × Bool × Int × Unit) → (Int × Int × Bool × Int × Unit) → Option Bool) → Option Bool) (e : Option Bool) (st : St) (k : KE) : Option Bool := match st with
  | ⟨sl, hp, m⟩ => match Nat.beq m 2, pickS 32 [0, 1, 4, 6, 7, 8] sl, hp with
    | true, some [(.bv 0 50 (.st [(.int .i64), (.int .i64), (.int .i64), .bool, (.int .i64)]) ts120), (.d ⟨(.int .i64), n121⟩), (.ptr [1, 0] 0 0), (.ptr [1, 1] 0 0), (.d ⟨.bool, b122⟩), (.d ⟨(.int .i64), n123⟩)], [([1, 0], ⟨33, 4, (.data (.st [(.int .i64), (.int .i64), .bool, (.int .i64)]) [t124])⟩), ([1, 1], ⟨33, 4, (.data (.st [(.int .i64), (.int .i64), .bool, (.int .i64)]) [t125])⟩)] => F ts120 n121 b122 n123 t124 t125 (fun y0 y1 y2 => k (.exit 0) ⟨fillS 32 [4, 6, 7] [(.ptr [1, 0] 0 0), (.ptr [1, 1] 0 0), (.d ⟨.bool, y0⟩)], [([1, 0], ⟨33, 4, (.data (.st [(.int .i64), (.int .i64), .bool, (.int .i64)]) [y1])⟩), ([1, 1], ⟨33, 4, (.data (.st [(.int .i64), (.int .i64), .bool, (.int .i64)]) [y2])⟩)], 2⟩)
    | _, _, _ => e
noncomputable def ref13_At_L0.calls : RecF := fun g a h k => none
noncomputable def ref13_At_L0.loops : LoopF := fun b => none
set_option maxRecDepth 100000 in
theorem ref13_At_L0.step (S : (List (Int × Int × Int × Bool × Int × Unit)) → Int → Bool → Int → (Int × Int × Bool × Int × Unit) → (Int × Int × Bool × Int × Unit) → (Bool → (Int × Int × Bool × Int × Unit) → (Int × Int × Bool × Int × Unit) → Option Bool) → Option Bool) (ts120 : List (Int × Int × Int × Bool × Int × Unit)) (n121 : Int) (b122 : Bool) (n123 : Int) (t124 : Int × Int × Bool × Int × Unit) (t125 : Int × Int × Bool × Int × Unit) (k : KE) : execL Try.prog ht 15 (callfOf (ref13_At_L0.calls)) (ref13_At_L0.loops) 0 (loopAt 0 (codeOf Try.f15)) ⟨fillS 32 [0, 1, 4, 6, 7, 8] [(.bv 0 50 (.st [(.int .i64), (.int .i64), (.int .i64), .bool, (.int .i64)]) ts120), (.d ⟨(.int .i64), n121⟩), (.ptr [1, 0] 0 0), (.ptr [1, 1] 0 0), (.d ⟨.bool, b122⟩), (.d ⟨(.int .i64), n123⟩)], [([1, 0], ⟨33, 4, (.data (.st [(.int .i64), (.int .i64), .bool, (.int .i64)]) [t124])⟩), ([1, 1], ⟨33, 4, (.data (.st [(.int .i64), (.int .i64), .bool, (.int .i64)]) [t125])⟩)], 2⟩ (again (ref13_At_L0.get S none) (plan Try.prog (ht 15 0)) k) = ref13_At_L0.body S ts120 n121 b122 n123 t124 t125 (fun y0 y1 y2 => k (.exit 0) ⟨fillS 32 [4, 6, 7] [(.ptr [1, 0] 0 0), (.ptr [1, 1] 0 0), (.d ⟨.bool, y0⟩)], [([1, 0], ⟨33, 4, (.data (.st [(.int .i64), (.int .i64), .bool, (.int .i64)]) [y1])⟩), ([1, 1], ⟨33, 4, (.data (.st [(.int .i64), (.int .i64), .bool, (.int .i64)]) [y2])⟩)], 2⟩) := by kernel_rfl
theorem ref13_At_L0.ok (d : Nat) (hd : 0 ≤ d) : ∀ n st k, ref13_At_L0.get (ref13_At_L0 n) none st k = some true → iter n (plan Try.prog (ht 15 0)) (fun st k => execK Try.prog ht 15 (callfOf (callK Try.prog ht d)) 0 (loopAt 0 (codeOf Try.f15)) st k) st k = some true :=
  loop_ok (lfn := fun n st k => ref13_At_L0.get (ref13_At_L0 n) none st k) (rec := ref13_At_L0.calls) (fun g a h k hx => by
    cases hx) (loopf := ref13_At_L0.loops) (by
    have e : loopsOf (ref13_At_L0.loops) 0 (loopAt 0 (codeOf Try.f15)) = [] := by kernel_rfl
    rw [e]
    intro p hp
    cases hp) (fun st k h => by
    obtain ⟨sl, hp, m⟩ := st
    unfold ref13_At_L0.get at h
    dsimp only at h
    split at h
    · have h' : (none : Option Bool) = some true := h
      cases h'
    · cases h) (fun n st k h => by
    obtain ⟨sl, hp, m⟩ := st
    unfold ref13_At_L0.get at h
    dsimp only at h
    split at h
    · rename_i h1 h2
      obtain rfl := pickS_ok h2
      obtain rfl := Nat.eq_of_beq_eq_true h1
      exact (ref13_At_L0.step (ref13_At_L0 n) _ _ _ _ _ _ k).trans h
    · cases h)
theorem ref13_At_L0.look {F : (List (Int × Int × Int × Bool × Int × Unit)) → Int → Bool → Int → (Int × Int × Bool × Int × Unit) → (Int × Int × Bool × Int × Unit) → (Bool → (Int × Int × Bool × Int × Unit) → (Int × Int × Bool × Int × Unit) → Option Bool) → Option Bool} {e : Option Bool} {st : St} {k : KE} (hx : ref13_At_L0.get F e st k = some true) : e = some true ∨ ref13_At_L0.get F none st k = some true := by
  obtain ⟨sl, hp, m⟩ := st
  unfold ref13_At_L0.get at hx ⊢
  dsimp only at hx ⊢
  split at hx
  · exact .inr hx
  · exact .inl hx
/-- function 15: sheerleg/sheerlegref13.At -/
noncomputable def ref13_At.body (ref13_At_L0 : (List (Int × Int × Int × Bool × Int × Unit)) → Int → Bool → Int → (Int × Int × Bool × Int × Unit) → (Int × Int × Bool × Int × Unit) → (Bool → (Int × Int × Bool × Int × Unit) → (Int × Int × Bool × Int × Unit) → Option Bool) → Option Bool) (ts118 : List (Int × Int × Int × Bool × Int × Unit)) (n119 : Int) (k1 : (Int × Int × Bool × Int × Unit) → Bool → Option Bool) : Option Bool :=
  (ref13_At_L0 ts118 n119 false (0 : Int) ((0 : Int), ((0 : Int), (false, ((0 : Int), ())))) ((0 : Int), ((0 : Int), (false, ((0 : Int), ()))))
  (fun b126 t127 t128 => (k1 t128 b126)))
noncomputable def ref13_At (ts118 : List (Int × Int × Int × Bool × Int × Unit)) (n119 : Int) (k1 : (Int × Int × Bool × Int × Unit) → Bool → Option Bool) : Option Bool := ref13_At.body (ref13_At_L0 ROUNDS) ts118 n119 k1
noncomputable def ref13_At.get (F : (List (Int × Int × Int × Bool × Int × Unit)) → Int → ((Int × Int × Bool × Int × Unit) → Bool → Option Bool) → Option Bool) (e : Option Bool) (g : FuncId) (a : List AV) (h : Heap) (k : KR) : Option Bool := match g, a, h with
  | 15, [(.bv 0 50 (.st [(.int .i64), (.int .i64), (.int .i64), .bool, (.int .i64)]) ts118), (.d ⟨(.int .i64), n119⟩)], [] => F ts118 n119 (fun y0 y1 => k (.tup [(.d ⟨(.st [(.int .i64), (.int .i64), .bool, (.int .i64)]), y0⟩), (.d ⟨.bool, y1⟩)]) [])
  | _, _, _ => e
noncomputable def ref13_At.calls : RecF := fun g a h k => none
noncomputable def ref13_At.loops (L0 : (List (Int × Int × Int × Bool × Int × Unit)) → Int → Bool → Int → (Int × Int × Bool × Int × Unit) → (Int × Int × Bool × Int × Unit) → (Bool → (Int × Int × Bool × Int × Unit) → (Int × Int × Bool × Int × Unit) → Option Bool) → Option Bool) : LoopF := fun b => match Nat.beq b 0 with | true => some (fun st k => (ref13_At_L0.get L0 none st k)) | false => none
set_option maxRecDepth 100000 in
theorem ref13_At.eq (L0 : (List (Int × Int × Int × Bool × Int × Unit)) → Int → Bool → Int → (Int × Int × Bool × Int × Unit) → (Int × Int × Bool × Int × Unit) → (Bool → (Int × Int × Bool × Int × Unit) → (Int × Int × Bool × Int × Unit) → Option Bool) → Option Bool) (ts118 : List (Int × Int × Int × Bool × Int × Unit)) (n119 : Int) (k : KR) : execL Try.prog ht 15 (callfOf (ref13_At.calls)) (ref13_At.loops L0) 0 (codeOf Try.f15) ⟨[(.bv 0 50 (.st [(.int .i64), (.int .i64), (.int .i64), .bool, (.int .i64)]) ts118), (.d ⟨(.int .i64), n119⟩)] ++ List.replicate (Try.f15.ntmps - ([(.bv 0 50 (.st [(.int .i64), (.int .i64), (.int .i64), .bool, (.int .i64)]) ts118), (.d ⟨(.int .i64), n119⟩)] : List AV).length) .undef, [], 2⟩ (leave Try.prog Try.f15 k) = ref13_At.body L0 ts118 n119 (fun y0 y1 => k (.tup [(.d ⟨(.st [(.int .i64), (.int .i64), .bool, (.int .i64)]), y0⟩), (.d ⟨.bool, y1⟩)]) []) := by kernel_rfl
theorem ref13_At.ok (d : Nat) (hd : 1 ≤ d) (ts118 : List (Int × Int × Int × Bool × Int × Unit)) (n119 : Int) (k : KR) (hx : ref13_At ts118 n119 (fun y0 y1 => k (.tup [(.d ⟨(.st [(.int .i64), (.int .i64), .bool, (.int .i64)]), y0⟩), (.d ⟨.bool, y1⟩)]) []) = some true) : callK Try.prog ht d 15 [(.bv 0 50 (.st [(.int .i64), (.int .i64), (.int .i64), .bool, (.int .i64)]) ts118), (.d ⟨(.int .i64), n119⟩)] [] k = some true := by
  obtain ⟨d, rfl⟩ : ∃ e, d = e + 1 := ⟨d - 1, by omega⟩
  exact fn_ok (c := codeOf Try.f15) Try.func15 (by kernel_rfl) (rec := ref13_At.calls) (fun g a h k hx => by
    cases hx) (loopf := ref13_At.loops (ref13_At_L0 ROUNDS)) (by
    have e : loopsOf (ref13_At.loops (ref13_At_L0 ROUNDS)) 0 (codeOf Try.f15) = [(0, loopAt 0 (codeOf Try.f15))] := by kernel_rfl
    rw [e]
    intro p hp
    simp only [List.mem_cons, List.not_mem_nil, or_false] at hp
    rcases hp with rfl
    · refine loopRef_of (callf := callfOf (callK Try.prog ht d)) (callfOf_ref (callK_mono d)) fun lf st k hb hx => ?_
      cases hb
      rcases ref13_At_L0.look hx with hx | hx
      rotate_left
      · exact ref13_At_L0.ok d (by omega) _ _ _ hx
      cases hx) ((ref13_At.eq (ref13_At_L0 ROUNDS) ts118 n119 k).trans hx)
theorem ref13_At.look (d : Nat) (hd : 1 ≤ d) {e : Option Bool} {g : FuncId} {a : List AV} {h : Heap} {k : KR} (hx : ref13_At.get ref13_At e g a h k = some true) : e = some true ∨ callK Try.prog ht d g a h k = some true := by
  unfold ref13_At.get at hx
  split at hx
  · exact .inr (ref13_At.ok d hd _ _ _ hx)
  · exact .inl hx
/-- function 13: the loop in block 0 -/
noncomputable def ref13_Rows_L0.body (ref13_Rows_L0 : (List (Int × Int × Int × Bool × Int × Unit)) → Int → Int → (List (Int × Int × Bool × Int × Unit)) → ((List (Int × Int × Bool × Int × Unit)) → Option Bool) → Option Bool) (ref13_At : (List (Int × Int × Int × Bool × Int × Unit)) → Int → ((Int × Int × Bool × Int × Unit) → Bool → Option Bool) → Option Bool) (ts143 : List (Int × Int × Int × Bool × Int × Unit)) (n144 : Int) (n145 : Int) (ts146 : List (Int × Int × Bool × Int × Unit)) (k1 : (List (Int × Int × Bool × Int × Unit)) → Option Bool) : Option Bool :=
  (cond_ (decide (n145 < n144)) (cond_ (decide (n145 < (4096 : Int))) (ref13_At ts143 n145
  (fun t147 b148 => (cond_ (Nat.ble (((List.length ts146) + (List.length ((t147.1, (t147.2.1, (t147.2.2.1, (t147.2.2.2.1, ())))) :: []))) * (32 : Nat)) (140737488355328 : Nat)) (ref13_Rows_L0 ts143 n144 (IntKind.wrap .i64 (n145 + (1 : Int))) (ts146 ++ ((t147.1, (t147.2.1, (t147.2.2.1, (t147.2.2.2.1, ())))) :: [])) k1) none))) (k1 ts146)) (k1 ts146))
noncomputable def ref13_Rows_L0 : Nat → (List (Int × Int × Int × Bool × Int × Unit)) → Int → Int → (List (Int × Int × Bool × Int × Unit)) → ((List (Int × Int × Bool × Int × Unit)) → Option Bool) → Option Bool
  | 0 => fun _ _ _ _ _ => none
  | n + 1 => ref13_Rows_L0.body (ref13_Rows_L0 n) ref13_At
noncomputable def ref13_Rows_L0.get (F : (List (Int × Int × Int × Bool × Int × Unit)) → Int → Int → (List (Int × Int × Bool × Int × Unit)) → ((List (Int × Int × Bool × Int × Unit)) → Option Bool) → Option Bool) (e : Option Bool) (st : St) (k : KE) : Option Bool := match st with
  | ⟨sl, hp, m⟩ => match Nat.beq m 2, pickS 29 [0, 1, 5, 6] sl, hp with
    | true, some [(.bv 0 50 (.st [(.int .i64), (.int .i64), (.int .i64), .bool, (.int .i64)]) ts143), (.d ⟨(.int .i64), n144⟩), (.ref [1, 0]), (.d ⟨(.int .i64), n145⟩)], [([1, 0], ⟨33, 4, (.data (.st [(.int .i64), (.int .i64), .bool, (.int .i64)]) ts146)⟩)] => F ts143 n144 n145 ts146 (fun y0 => k (.exit 0) ⟨fillS 29 [5] [(.ref [1, 0])], [([1, 0], ⟨33, 4, (.data (.st [(.int .i64), (.int .i64), .bool, (.int .i64)]) y0)⟩)], 2⟩)
    | _, _, _ => e
noncomputable def ref13_Rows_L0.calls (F0 : (List (Int × Int × Int × Bool × Int × Unit)) → Int → ((Int × Int × Bool × Int × Unit) → Bool → Option Bool) → Option Bool) : RecF := fun g a h k => (ref13_At.get F0 none g a h k)
noncomputable def ref13_Rows_L0.loops : LoopF := fun b => none
set_option maxRecDepth 100000 in
theorem ref13_Rows_L0.step (S : (List (Int × Int × Int × Bool × Int × Unit)) → Int → Int → (List (Int × Int × Bool × Int × Unit)) → ((List (Int × Int × Bool × Int × Unit)) → Option Bool) → Option Bool) (F0 : (List (Int × Int × Int × Bool × Int × Unit)) → Int → ((Int × Int × Bool × Int × Unit) → Bool → Option Bool) → Option Bool) (ts143 : List (Int × Int × Int × Bool × Int × Unit)) (n144 : Int) (n145 : Int) (ts146 : List (Int × Int × Bool × Int × Unit)) (k : KE) : execL Try.prog ht 13 (callfOf (ref13_Rows_L0.calls F0)) (ref13_Rows_L0.loops) 0 (loopAt 0 (codeOf Try.f13)) ⟨fillS 29 [0, 1, 5, 6] [(.bv 0 50 (.st [(.int .i64), (.int .i64), (.int .i64), .bool, (.int .i64)]) ts143), (.d ⟨(.int .i64), n144⟩), (.ref [1, 0]), (.d ⟨(.int .i64), n145⟩)], [([1, 0], ⟨33, 4, (.data (.st [(.int .i64), (.int .i64), .bool, (.int .i64)]) ts146)⟩)], 2⟩ (again (ref13_Rows_L0.get S none) (plan Try.prog (ht 13 0)) k) = ref13_Rows_L0.body S F0 ts143 n144 n145 ts146 (fun y0 => k (.exit 0) ⟨fillS 29 [5] [(.ref [1, 0])], [([1, 0], ⟨33, 4, (.data (.st [(.int .i64), (.int .i64), .bool, (.int .i64)]) y0)⟩)], 2⟩) := by kernel_rfl
theorem ref13_Rows_L0.ok (d : Nat) (hd : 1 ≤ d) : ∀ n st k, ref13_Rows_L0.get (ref13_Rows_L0 n) none st k = some true → iter n (plan Try.prog (ht 13 0)) (fun st k => execK Try.prog ht 13 (callfOf (callK Try.prog ht d)) 0 (loopAt 0 (codeOf Try.f13)) st k) st k = some true :=
  loop_ok (lfn := fun n st k => ref13_Rows_L0.get (ref13_Rows_L0 n) none st k) (rec := ref13_Rows_L0.calls ref13_At) (fun g a h k hx => by
    rcases ref13_At.look d (by omega) hx with hx | hx
    rotate_left
    · exact hx
    cases hx) (loopf := ref13_Rows_L0.loops) (by
    have e : loopsOf (ref13_Rows_L0.loops) 0 (loopAt 0 (codeOf Try.f13)) = [] := by kernel_rfl
    rw [e]
    intro p hp
    cases hp) (fun st k h => by
    obtain ⟨sl, hp, m⟩ := st
    unfold ref13_Rows_L0.get at h
    dsimp only at h
    split at h
    · have h' : (none : Option Bool) = some true := h
      cases h'
    · cases h) (fun n st k h => by
    obtain ⟨sl, hp, m⟩ := st
    unfold ref13_Rows_L0.get at h
    dsimp only at h
    split at h
    · rename_i h1 h2
      obtain rfl := pickS_ok h2
      obtain rfl := Nat.eq_of_beq_eq_true h1
      exact (ref13_Rows_L0.step (ref13_Rows_L0 n) ref13_At _ _ _ _ k).trans h
    · cases h)
theorem ref13_Rows_L0.look {F : (List (Int × Int × Int × Bool × Int × Unit)) → Int → Int → (List (Int × Int × Bool × Int × Unit)) → ((List (Int × Int × Bool × Int × Unit)) → Option Bool) → Option Bool} {e : Option Bool} {st : St} {k : KE} (hx : ref13_Rows_L0.get F e st k = some true) : e = some true ∨ ref13_Rows_L0.get F none st k = some true := by
  obtain ⟨sl, hp, m⟩ := st
  unfold ref13_Rows_L0.get at hx ⊢
  dsimp only at hx ⊢
  split at hx
  · exact .inr hx
  · exact .inl hx
/-- function 13: sheerleg/sheerlegref13.Rows -/
noncomputable def ref13_Rows.body (ref13_Rows_L0 : (List (Int × Int × Int × Bool × Int × Unit)) → Int → Int → (List (Int × Int × Bool × Int × Unit)) → ((List (Int × Int × Bool × Int × Unit)) → Option Bool) → Option Bool) (ts141 : List (Int × Int × Int × Bool × Int × Unit)) (n142 : Int) (k1 : (List (Int × Int × Bool × Int × Unit)) → Option Bool) : Option Bool :=
  (ref13_Rows_L0 ts141 n142 (0 : Int) []
  (fun ts149 => (k1 ts149)))
noncomputable def ref13_Rows (ts141 : List (Int × Int × Int × Bool × Int × Unit)) (n142 : Int) (k1 : (List (Int × Int × Bool × Int × Unit)) → Option Bool) : Option Bool := ref13_Rows.body (ref13_Rows_L0 ROUNDS) ts141 n142 k1
noncomputable def ref13_Rows.get (F : (List (Int × Int × Int × Bool × Int × Unit)) → Int → ((List (Int × Int × Bool × Int × Unit)) → Option Bool) → Option Bool) (e : Option Bool) (g : FuncId) (a : List AV) (h : Heap) (k : KR) : Option Bool := match g, a, h with
  | 13, [(.bv 0 50 (.st [(.int .i64), (.int .i64), (.int .i64), .bool, (.int .i64)]) ts141), (.d ⟨(.int .i64), n142⟩)], [] => F ts141 n142 (fun y0 => k (.ref [1, 0]) [([1, 0], ⟨33, 4, (.data (.st [(.int .i64), (.int .i64), .bool, (.int .i64)]) y0)⟩)])
  | _, _, _ => e
noncomputable def ref13_Rows.calls : RecF := fun g a h k => none
noncomputable def ref13_Rows.loops (L0 : (List (Int × Int × Int × Bool × Int × Unit)) → Int → Int → (List (Int × Int × Bool × Int × Unit)) → ((List (Int × Int × Bool × Int × Unit)) → Option Bool) → Option Bool) : LoopF := fun b => match Nat.beq b 0 with | true => some (fun st k => (ref13_Rows_L0.get L0 none st k)) | false => none
set_option maxRecDepth 100000 in
theorem ref13_Rows.eq (L0 : (List (Int × Int × Int × Bool × Int × Unit)) → Int → Int → (List (Int × Int × Bool × Int × Unit)) → ((List (Int × Int × Bool × Int × Unit)) → Option Bool) → Option Bool) (ts141 : List (Int × Int × Int × Bool × Int × Unit)) (n142 : Int) (k : KR) : execL Try.prog ht 13 (callfOf (ref13_Rows.calls)) (ref13_Rows.loops L0) 0 (codeOf Try.f13) ⟨[(.bv 0 50 (.st [(.int .i64), (.int .i64), (.int .i64), .bool, (.int .i64)]) ts141), (.d ⟨(.int .i64), n142⟩)] ++ List.replicate (Try.f13.ntmps - ([(.bv 0 50 (.st [(.int .i64), (.int .i64), (.int .i64), .bool, (.int .i64)]) ts141), (.d ⟨(.int .i64), n142⟩)] : List AV).length) .undef, [], 2⟩ (leave Try.prog Try.f13 k) = ref13_Rows.body L0 ts141 n142 (fun y0 => k (.ref [1, 0]) [([1, 0], ⟨33, 4, (.data (.st [(.int .i64), (.int .i64), .bool, (.int .i64)]) y0)⟩)]) := by kernel_rfl
theorem ref13_Rows.ok (d : Nat) (hd : 2 ≤ d) (ts141 : List (Int × Int × Int × Bool × Int × Unit)) (n142 : Int) (k : KR) (hx : ref13_Rows ts141 n142 (fun y0 => k (.ref [1, 0]) [([1, 0], ⟨33, 4, (.data (.st [(.int .i64), (.int .i64), .bool, (.int .i64)]) y0)⟩)]) = some true) : callK Try.prog ht d 13 [(.bv 0 50 (.st [(.int .i64), (.int .i64), (.int .i64), .bool, (.int .i64)]) ts141), (.d ⟨(.int .i64), n142⟩)] [] k = some true := by
  obtain ⟨d, rfl⟩ : ∃ e, d = e + 1 := ⟨d - 1, by omega⟩
  exact fn_ok (c := codeOf Try.f13) Try.func13 (by kernel_rfl) (rec := ref13_Rows.calls) (fun g a h k hx => by
    cases hx) (loopf := ref13_Rows.loops (ref13_Rows_L0 ROUNDS)) (by
    have e : loopsOf (ref13_Rows.loops (ref13_Rows_L0 ROUNDS)) 0 (codeOf Try.f13) = [(0, loopAt 0 (codeOf Try.f13))] := by kernel_rfl
    rw [e]
    intro p hp
    simp only [List.mem_cons, List.not_mem_nil, or_false] at hp
    rcases hp with rfl
    · refine loopRef_of (callf := callfOf (callK Try.prog ht d)) (callfOf_ref (callK_mono d)) fun lf st k hb hx => ?_
      cases hb
      rcases ref13_Rows_L0.look hx with hx | hx
      rotate_left
      · exact ref13_Rows_L0.ok d (by omega) _ _ _ hx
      cases hx) ((ref13_Rows.eq (ref13_Rows_L0 ROUNDS) ts141 n142 k).trans hx)
theorem ref13_Rows.look (d : Nat) (hd : 2 ≤ d) {e : Option Bool} {g : FuncId} {a : List AV} {h : Heap} {k : KR} (hx : ref13_Rows.get ref13_Rows e g a h k = some true) : e = some true ∨ callK Try.prog ht d g a h k = some true := by
  unfold ref13_Rows.get at hx
  split at hx
  · exact .inr (ref13_Rows.ok d hd _ _ _ hx)
  · exact .inl hx
/-- function 8: the loop in block 0 -/
noncomputable def ref13_Samev1_L0.body (ref13_Samev1_L0 : (List (Int × Int × Int × Bool × Int × Unit)) → (List (Int × Int × Int × Bool × Int × Unit)) → Int → (Bool → Option Bool) → (Option Bool) → Option Bool) (ts154 : List (Int × Int × Int × Bool × Int × Unit)) (ts155 : List (Int × Int × Int × Bool × Int × Unit)) (n156 : Int) (k1 : Bool → Option Bool) (k2 : Option Bool) : Option Bool :=
  (cond_ (decide (n156 < (((List.length ts154) : Nat) : Int))) (cond_ ((decide ((0 : Int) ≤ n156)) && (decide (n156 < (((List.length ts154) : Nat) : Int)))) (cond_ ((decide ((0 : Int) ≤ n156)) && (decide (n156 < (((List.length ts155) : Nat) : Int)))) (cond_ (! (((List.getD ts154 (Int.toNat n156) ((0 : Int), ((0 : Int), ((0 : Int), (false, ((0 : Int), ())))))).1 == (List.getD ts155 (Int.toNat n156) ((0 : Int), ((0 : Int), ((0 : Int), (false, ((0 : Int), ())))))).1) && ((((List.getD ts154 (Int.toNat n156) ((0 : Int), ((0 : Int), ((0 : Int), (false, ((0 : Int), ())))))).2.1 == (List.getD ts155 (Int.toNat n156) ((0 : Int), ((0 : Int), ((0 : Int), (false, ((0 : Int), ())))))).2.1) && (((List.getD ts154 (Int.toNat n156) ((0 : Int), ((0 : Int), ((0 : Int), (false, ((0 : Int), ())))))).2.2.1 == (List.getD ts155 (Int.toNat n156) ((0 : Int), ((0 : Int), ((0 : Int), (false, ((0 : Int), ())))))).2.2.1) && (((List.getD ts154 (Int.toNat n156) ((0 : Int), ((0 : Int), ((0 : Int), (false, ((0 : Int), ())))))).2.2.2.1 == (List.getD ts155 (Int.toNat n156) ((0 : Int), ((0 : Int), ((0 : Int), (false, ((0 : Int), ())))))).2.2.2.1) && (((List.getD ts154 (Int.toNat n156) ((0 : Int), ((0 : Int), ((0 : Int), (false, ((0 : Int), ())))))).2.2.2.2.1 == (List.getD ts155 (Int.toNat n156) ((0 : Int), ((0 : Int), ((0 : Int), (false, ((0 : Int), ())))))).2.2.2.2.1) && true)))) && true))) (k1 false) (ref13_Samev1_L0 ts154 ts155 (IntKind.wrap .i64 (n156 + (1 : Int))) k1 k2)) none) none) (k2))
noncomputable def ref13_Samev1_L0 : Nat → (List (Int × Int × Int × Bool × Int × Unit)) → (List (Int × Int × Int × Bool × Int × Unit)) → Int → (Bool → Option Bool) → (Option Bool) → Option Bool
  | 0 => fun _ _ _ _ _ => none
  | n + 1 => ref13_Samev1_L0.body (ref13_Samev1_L0 n)
noncomputable def ref13_Samev1_L0.get (F : (List (Int × Int × Int × Bool × Int × Unit)) → (List (Int × Int × Int × Bool × Int × Unit)) → Int → (Bool → Option Bool) → (Option Bool) → Option Bool) (e : Option Bool) (st : St) (k : KE) : Option Bool := match st with
  | ⟨sl, hp, m⟩ => match Nat.beq m 2, pickS 26 [0, 1, 5] sl, hp with
    | true, some [(.bv 1 50 (.st [(.int .i64), (.int .i64), (.int .i64), .bool, (.int .i64)]) ts154), (.bv 0 50 (.st [(.int .i64), (.int .i64), (.int .i64), .bool, (.int .i64)]) ts155), (.d ⟨(.int .i64), n156⟩)], [] => F ts154 ts155 n156 (fun y0 => k .ret ⟨fillS 26 [4] [(.d ⟨.bool, y0⟩)], [], 2⟩) (k (.exit 0) ⟨fillS 26 [] [], [], 2⟩)
    | _, _, _ => e
noncomputable def ref13_Samev1_L0.calls : RecF := fun g a h k => none
noncomputable def ref13_Samev1_L0.loops : LoopF := fun b => none
set_option maxRecDepth 100000 in
theorem ref13_Samev1_L0.step (S : (List (Int × Int × Int × Bool × Int × Unit)) → (List (Int × Int × Int × Bool × Int × Unit)) → Int → (Bool → Option Bool) → (Option Bool) → Option Bool) (ts154 : List (Int × Int × Int × Bool × Int × Unit)) (ts155 : List (Int × Int × Int × Bool × Int × Unit)) (n156 : Int) (k : KE) : execL Try.prog ht 8 (callfOf (ref13_Samev1_L0.calls)) (ref13_Samev1_L0.loops) 0 (loopAt 0 (codeOf Try.f8)) ⟨fillS 26 [0, 1, 5] [(.bv 1 50 (.st [(.int .i64), (.int .i64), (.int .i64), .bool, (.int .i64)]) ts154), (.bv 0 50 (.st [(.int .i64), (.int .i64), (.int .i64), .bool, (.int .i64)]) ts155), (.d ⟨(.int .i64), n156⟩)], [], 2⟩ (again (ref13_Samev1_L0.get S none) (plan Try.prog (ht 8 0)) k) = ref13_Samev1_L0.body S ts154 ts155 n156 (fun y0 => k .ret ⟨fillS 26 [4] [(.d ⟨.bool, y0⟩)], [], 2⟩) (k (.exit 0) ⟨fillS 26 [] [], [], 2⟩) := by kernel_rfl
theorem ref13_Samev1_L0.ok (d : Nat) (hd : 0 ≤ d) : ∀ n st k, ref13_Samev1_L0.get (ref13_Samev1_L0 n) none st k = some true → iter n (plan Try.prog (ht 8 0)) (fun st k => execK Try.prog ht 8 (callfOf (callK Try.prog ht d)) 0 (loopAt 0 (codeOf Try.f8)) st k) st k = some true :=
  loop_ok (lfn := fun n st k => ref13_Samev1_L0.get (ref13_Samev1_L0 n) none st k) (rec := ref13_Samev1_L0.calls) (fun g a h k hx => by
    cases hx) (loopf := ref13_Samev1_L0.loops) (by
    have e : loopsOf (ref13_Samev1_L0.loops) 0 (loopAt 0 (codeOf Try.f8)) = [] := by kernel_rfl
    rw [e]
    intro p hp
    cases hp) (fun st k h => by
    obtain ⟨sl, hp, m⟩ := st
    unfold ref13_Samev1_L0.get at h
    dsimp only at h
    split at h
    · have h' : (none : Option Bool) = some true := h
      cases h'
    · cases h) (fun n st k h => by
    obtain ⟨sl, hp, m⟩ := st
    unfold ref13_Samev1_L0.get at h
    dsimp only at h
    split at h
    · rename_i h1 h2
      obtain rfl := pickS_ok h2
      obtain rfl := Nat.eq_of_beq_eq_true h1
      exact (ref13_Samev1_L0.step (ref13_Samev1_L0 n) _ _ _ k).trans h
    · cases h)
theorem ref13_Samev1_L0.look {F : (List (Int × Int × Int × Bool × Int × Unit)) → (List (Int × Int × Int × Bool × Int × Unit)) → Int → (Bool → Option Bool) → (Option Bool) → Option Bool} {e : Option Bool} {st : St} {k : KE} (hx : ref13_Samev1_L0.get F e st k = some true) : e = some true ∨ ref13_Samev1_L0.get F none st k = some true := by
  obtain ⟨sl, hp, m⟩ := st
  unfold ref13_Samev1_L0.get at hx ⊢
  dsimp only at hx ⊢
  split at hx
  · exact .inr hx
  · exact .inl hx
/-- function 8: sheerleg/sheerlegref13.Same -/
noncomputable def ref13_Samev1.body (ref13_Samev1_L0 : (List (Int × Int × Int × Bool × Int × Unit)) → (List (Int × Int × Int × Bool × Int × Unit)) → Int → (Bool → Option Bool) → (Option Bool) → Option Bool) (ts152 : List (Int × Int × Int × Bool × Int × Unit)) (ts153 : List (Int × Int × Int × Bool × Int × Unit)) (k1 : Bool → Option Bool) : Option Bool :=
  (cond_ ((((List.length ts152) : Nat) : Int) != (((List.length ts153) : Nat) : Int)) (k1 false) (ref13_Samev1_L0 ts152 ts153 (0 : Int)
  (fun b157 => (k1 b157))
  (k1 true)))
noncomputable def ref13_Samev1 (ts152 : List (Int × Int × Int × Bool × Int × Unit)) (ts153 : List (Int × Int × Int × Bool × Int × Unit)) (k1 : Bool → Option Bool) : Option Bool := ref13_Samev1.body (ref13_Samev1_L0 ROUNDS) ts152 ts153 k1
noncomputable def ref13_Samev1.get (F : (List (Int × Int × Int × Bool × Int × Unit)) → (List (Int × Int × Int × Bool × Int × Unit)) → (Bool → Option Bool) → Option Bool) (e : Option Bool) (g : FuncId) (a : List AV) (h : Heap) (k : KR) : Option Bool := match g, a, h with
  | 8, [(.bv 1 50 (.st [(.int .i64), (.int .i64), (.int .i64), .bool, (.int .i64)]) ts152), (.bv 0 50 (.st [(.int .i64), (.int .i64), (.int .i64), .bool, (.int .i64)]) ts153)], [] => F ts152 ts153 (fun y0 => k (.d ⟨.bool, y0⟩) [])
  | _, _, _ => e
noncomputable def ref13_Samev1.calls : RecF := fun g a h k => none
noncomputable def ref13_Samev1.loops (L0 : (List (Int × Int × Int × Bool × Int × Unit)) → (List (Int × Int × Int × Bool × Int × Unit)) → Int → (Bool → Option Bool) → (Option Bool) → Option Bool) : LoopF := fun b => match Nat.beq b 0 with | true => some (fun st k => (ref13_Samev1_L0.get L0 none st k)) | false => none
set_option maxRecDepth 100000 in
theorem ref13_Samev1.eq (L0 : (List (Int × Int × Int × Bool × Int × Unit)) → (List (Int × Int × Int × Bool × Int × Unit)) → Int → (Bool → Option Bool) → (Option Bool) → Option Bool) (ts152 : List (Int × Int × Int × Bool × Int × Unit)) (ts153 : List (Int × Int × Int × Bool × Int × Unit)) (k : KR) : execL Try.prog ht 8 (callfOf (ref13_Samev1.calls)) (ref13_Samev1.loops L0) 0 (codeOf Try.f8) ⟨[(.bv 1 50 (.st [(.int .i64), (.int .i64), (.int .i64), .bool, (.int .i64)]) ts152), (.bv 0 50 (.st [(.int .i64), (.int .i64), (.int .i64), .bool, (.int .i64)]) ts153)] ++ List.replicate (Try.f8.ntmps - ([(.bv 1 50 (.st [(.int .i64), (.int .i64), (.int .i64), .bool, (.int .i64)]) ts152), (.bv 0 50 (.st [(.int .i64), (.int .i64), (.int .i64), .bool, (.int .i64)]) ts153)] : List AV).length) .undef, [], 2⟩ (leave Try.prog Try.f8 k) = ref13_Samev1.body L0 ts152 ts153 (fun y0 => k (.d ⟨.bool, y0⟩) []) := by kernel_rfl
theorem ref13_Samev1.ok (d : Nat) (hd : 1 ≤ d) (ts152 : List (Int × Int × Int × Bool × Int × Unit)) (ts153 : List (Int × Int × Int × Bool × Int × Unit)) (k : KR) (hx : ref13_Samev1 ts152 ts153 (fun y0 => k (.d ⟨.bool, y0⟩) []) = some true) : callK Try.prog ht d 8 [(.bv 1 50 (.st [(.int .i64), (.int .i64), (.int .i64), .bool, (.int .i64)]) ts152), (.bv 0 50 (.st [(.int .i64), (.int .i64), (.int .i64), .bool, (.int .i64)]) ts153)] [] k = some true := by
  obtain ⟨d, rfl⟩ : ∃ e, d = e + 1 := ⟨d - 1, by omega⟩
  exact fn_ok (c := codeOf Try.f8) Try.func8 (by kernel_rfl) (rec := ref13_Samev1.calls) (fun g a h k hx => by
    cases hx) (loopf := ref13_Samev1.loops (ref13_Samev1_L0 ROUNDS)) (by
    have e : loopsOf (ref13_Samev1.loops (ref13_Samev1_L0 ROUNDS)) 0 (codeOf Try.f8) = [(0, loopAt 0 (codeOf Try.f8))] := by kernel_rfl
    rw [e]
    intro p hp
    simp only [List.mem_cons, List.not_mem_nil, or_false] at hp
    rcases hp with rfl
    · refine loopRef_of (callf := callfOf (callK Try.prog ht d)) (callfOf_ref (callK_mono d)) fun lf st k hb hx => ?_
      cases hb
      rcases ref13_Samev1_L0.look hx with hx | hx
      rotate_left
      · exact ref13_Samev1_L0.ok d (by omega) _ _ _ hx
      cases hx) ((ref13_Samev1.eq (ref13_Samev1_L0 ROUNDS) ts152 ts153 k).trans hx)
theorem ref13_Samev1.look (d : Nat) (hd : 1 ≤ d) {e : Option Bool} {g : FuncId} {a : List AV} {h : Heap} {k : KR} (hx : ref13_Samev1.get ref13_Samev1 e g a h k = some true) : e = some true ∨ callK Try.prog ht d g a h k = some true := by
  unfold ref13_Samev1.get at hx
  split at hx
  · exact .inr (ref13_Samev1.ok d hd _ _ _ hx)
  · exact .inl hx
/-- function 3: sheerleg/sheerleglaw13.RunsMade -/
noncomputable def law13_RunsMade.body (law13_known : (Bool → Option Bool) → Option Bool) (runs_Make : (List (Int × Int × Bool × Int × Unit)) → ((List (Int × Int × Int × Bool × Int × Unit)) → Option Bool) → Option Bool) (ref13_Make : (List (Int × Int × Bool × Int × Unit)) → ((List (Int × Int × Int × Bool × Int × Unit)) → Option Bool) → Option Bool) (ref13_Same : (List (Int × Int × Int × Bool × Int × Unit)) → (List (Int × Int × Int × Bool × Int × Unit)) → (Bool → Option Bool) → Option Bool) (runs_Check : (List (Int × Int × Int × Bool × Int × Unit)) → Int → (Int → Option Bool) → Option Bool) (runs_Rows : (List (Int × Int × Int × Bool × Int × Unit)) → Int → ((List (Int × Int × Bool × Int × Unit)) → Option Bool) → Option Bool) (ref13_SameRows : (List (Int × Int × Bool × Int × Unit)) → (List (Int × Int × Bool × Int × Unit)) → (Bool → Option Bool) → Option Bool) (runs_Checkv1 : (List (Int × Int × Int × Bool × Int × Unit)) → Int → (Int → Option Bool) → Option Bool) (ref13_Rows : (List (Int × Int × Int × Bool × Int × Unit)) → Int → ((List (Int × Int × Bool × Int × Unit)) → Option Bool) → Option Bool) (ref13_Samev1 : (List (Int × Int × Int × Bool × Int × Unit)) → (List (Int × Int × Int × Bool × Int × Unit)) → (Bool → Option Bool) → Option Bool) (ts131 : List (Int × Int × Bool × Int × Unit)) (ts132 : List (Int × Int × Int × Bool × Int × Unit)) (k1 : Bool → Option Bool) : Option Bool :=
  (cond_ (! (decide ((((List.length ts131) : Nat) : Int) > (300 : Int)))) (cond_ (decide ((((List.length ts132) : Nat) : Int) > (300 : Int))) (law13_known
  (fun b133 => (k1 b133))) (runs_Make ts131
  (fun ts134 => (ref13_Make ts131
  (fun ts135 => (ref13_Same ts134 ts135
  (fun b136 => (cond_ (! (! b136)) (runs_Check ts134 (((List.length ts131) : Nat) : Int)
  (fun n137 => (cond_ (! (n137 != (0 : Int))) (runs_Rows ts134 (((List.length ts131) : Nat) : Int)
  (fun ts138 => (ref13_SameRows ts138 ts131
  (fun b139 => (cond_ (! b139) (k1 false) (runs_Checkv1 ts132 (((List.length ts131) : Nat) : Int)
  (fun n140 => (cond_ (n140 == (0 : Int)) (ref13_Rows ts132 (((List.length ts131) : Nat) : Int)
  (fun ts150 => (ref13_SameRows ts150 ts131
  (fun b151 => (cond_ b151 (ref13_Samev1 ts134 ts132
  (fun b158 => (cond_ (! b158) (k1 false) (law13_known
  (fun b159 => (k1 b159)))))) (law13_known
  (fun b160 => (k1 b160)))))))) (law13_known
  (fun b161 => (k1 b161))))))))))) (k1 false)))) (k1 false))))))))) (law13_known
  (fun b162 => (k1 b162))))
noncomputable def law13_RunsMade (ts131 : List (Int × Int × Bool × Int × Unit)) (ts132 : List (Int × Int × Int × Bool × Int × Unit)) (k1 : Bool → Option Bool) : Option Bool := law13_RunsMade.body law13_known runs_Make ref13_Make ref13_Same runs_Check runs_Rows ref13_SameRows runs_Checkv1 ref13_Rows ref13_Samev1 ts131 ts132 k1
noncomputable def law13_RunsMade.get (F : (List (Int × Int × Bool × Int × Unit)) → (List (Int × Int × Int × Bool × Int × Unit)) → (Bool → Option Bool) → Option Bool) (e : Option Bool) (g : FuncId) (a : List AV) (h : Heap) (k : KR) : Option Bool := match g, a, h with
  | 3, [(.bv 0 33 (.st [(.int .i64), (.int .i64), .bool, (.int .i64)]) ts131), (.bv 0 50 (.st [(.int .i64), (.int .i64), (.int .i64), .bool, (.int .i64)]) ts132)], [] => F ts131 ts132 (fun y0 => k (.d ⟨.bool, y0⟩) [])
  | _, _, _ => e
noncomputable def law13_RunsMade.calls (F0 : (Bool → Option Bool) → Option Bool) (F1 : (List (Int × Int × Bool × Int × Unit)) → ((List (Int × Int × Int × Bool × Int × Unit)) → Option Bool) → Option Bool) (F2 : (List (Int × Int × Bool × Int × Unit)) → ((List (Int × Int × Int × Bool × Int × Unit)) → Option Bool) → Option Bool) (F3 : (List (Int × Int × Int × Bool × Int × Unit)) → (List (Int × Int × Int × Bool × Int × Unit)) → (Bool → Option Bool) → Option Bool) (F4 : (List (Int × Int × Int × Bool × Int × Unit)) → Int → (Int → Option Bool) → Option Bool) (F5 : (List (Int × Int × Int × Bool × Int × Unit)) → Int → ((List (Int × Int × Bool × Int × Unit)) → Option Bool) → Option Bool) (F6 : (List (Int × Int × Bool × Int × Unit)) → (List (Int × Int × Bool × Int × Unit)) → (Bool → Option Bool) → Option Bool) (F7 : (List (Int × Int × Int × Bool × Int × Unit)) → Int → (Int → Option Bool) → Option Bool) (F8 : (List (Int × Int × Int × Bool × Int × Unit)) → Int → ((List (Int × Int × Bool × Int × Unit)) → Option Bool) → Option Bool) (F9 : (List (Int × Int × Int × Bool × Int × Unit)) → (List (Int × Int × Int × Bool × Int × Unit)) → (Bool → Option Bool) → Option Bool) : RecF := fun g a h k => (law13_known.get F0 (runs_Make.get F1 (ref13_Make.get F2 (ref13_Same.get F3 (runs_Check.get F4 (runs_Rows.get F5 (ref13_SameRows.get F6 (runs_Checkv1.get F7 (ref13_Rows.get F8 (ref13_Samev1.get F9 none g a h k) g a h k) g a h k) g a h k) g a h k) g a h k) g a h k) g a h k) g a h k) g a h k)
noncomputable def law13_RunsMade.loops : LoopF := fun b => none
set_option maxRecDepth 100000 in
theorem law13_RunsMade.eq (F0 : (Bool → Option Bool) → Option Bool) (F1 : (List (Int × Int × Bool × Int × Unit)) → ((List (Int × Int × Int × Bool × Int × Unit)) → Option Bool) → Option Bool) (F2 : (List (Int × Int × Bool × Int × Unit)) → ((List (Int × Int × Int × Bool × Int × Unit)) → Option Bool) → Option Bool) (F3 : (List (Int × Int × Int × Bool × Int × Unit)) → (List (Int × Int × Int × Bool × Int × Unit)) → (Bool → Option Bool) → Option Bool) (F4 : (List (Int × Int × Int × Bool × Int × Unit)) → Int → (Int → Option Bool) → Option Bool) (F5 : (List (Int × Int × Int × Bool × Int × Unit)) → Int → ((List (Int × Int × Bool × Int × Unit)) → Option Bool) → Option Bool) (F6 : (List (Int × Int × Bool × Int × Unit)) → (List (Int × Int × Bool × Int × Unit)) → (Bool → Option Bool) → Option Bool) (F7 : (List (Int × Int × Int × Bool × Int × Unit)) → Int → (Int → Option Bool) → Option Bool) (F8 : (List (Int × Int × Int × Bool × Int × Unit)) → Int → ((List (Int × Int × Bool × Int × Unit)) → Option Bool) → Option Bool) (F9 : (List (Int × Int × Int × Bool × Int × Unit)) → (List (Int × Int × Int × Bool × Int × Unit)) → (Bool → Option Bool) → Option Bool) (ts131 : List (Int × Int × Bool × Int × Unit)) (ts132 : List (Int × Int × Int × Bool × Int × Unit)) (k : KR) : execL Try.prog ht 3 (callfOf (law13_RunsMade.calls F0 F1 F2 F3 F4 F5 F6 F7 F8 F9)) (law13_RunsMade.loops) 0 (codeOf Try.f3) ⟨[(.bv 0 33 (.st [(.int .i64), (.int .i64), .bool, (.int .i64)]) ts131), (.bv 0 50 (.st [(.int .i64), (.int .i64), (.int .i64), .bool, (.int .i64)]) ts132)] ++ List.replicate (Try.f3.ntmps - ([(.bv 0 33 (.st [(.int .i64), (.int .i64), .bool, (.int .i64)]) ts131), (.bv 0 50 (.st [(.int .i64), (.int .i64), (.int .i64), .bool, (.int .i64)]) ts132)] : List AV).length) .undef, [], 2⟩ (leave Try.prog Try.f3 k) = law13_RunsMade.body F0 F1 F2 F3 F4 F5 F6 F7 F8 F9 ts131 ts132 (fun y0 => k (.d ⟨.bool, y0⟩) []) := by kernel_rfl
theorem law13_RunsMade.ok (d : Nat) (hd : 61 ≤ d) (ts131 : List (Int × Int × Bool × Int × Unit)) (ts132 : List (Int × Int × Int × Bool × Int × Unit)) (k : KR) (hx : law13_RunsMade ts131 ts132 (fun y0 => k (.d ⟨.bool, y0⟩) []) = some true) : callK Try.prog ht d 3 [(.bv 0 33 (.st [(.int .i64), (.int .i64), .bool, (.int .i64)]) ts131), (.bv 0 50 (.st [(.int .i64), (.int .i64), (.int .i64), .bool, (.int .i64)]) ts132)] [] k = some true := by
  obtain ⟨d, rfl⟩ : ∃ e, d = e + 1 := ⟨d - 1, by omega⟩
  exact fn_ok (c := codeOf Try.f3) Try.func3 (by kernel_rfl) (rec := law13_RunsMade.calls law13_known runs_Make ref13_Make ref13_Same runs_Check runs_Rows ref13_SameRows runs_Checkv1 ref13_Rows ref13_Samev1) (fun g a h k hx => by
    rcases law13_known.look d (by omega) hx with hx | hx
    rotate_left
    · exact hx
    rcases runs_Make.look d (by omega) hx with hx | hx
    rotate_left
    · exact hx
    rcases ref13_Make.look d (by omega) hx with hx | hx
    rotate_left
    · exact hx
    rcases ref13_Same.look d (by omega) hx with hx | hx
    rotate_left
    · exact hx
    rcases runs_Check.look d (by omega) hx with hx | hx
    rotate_left
    · exact hx
    rcases runs_Rows.look d (by omega) hx with hx | hx
    rotate_left
    · exact hx
    rcases ref13_SameRows.look d (by omega) hx with hx | hx
    rotate_left
    · exact hx
    rcases runs_Checkv1.look d (by omega) hx with hx | hx
    rotate_left
    · exact hx
    rcases ref13_Rows.look d (by omega) hx with hx | hx
    rotate_left
    · exact hx
    rcases ref13_Samev1.look d (by omega) hx with hx | hx
    rotate_left
    · exact hx
    cases hx) (loopf := law13_RunsMade.loops) (by
    have e : loopsOf (law13_RunsMade.loops) 0 (codeOf Try.f3) = [] := by kernel_rfl
    rw [e]
    intro p hp
    cases hp) ((law13_RunsMade.eq law13_known runs_Make ref13_Make ref13_Same runs_Check runs_Rows ref13_SameRows runs_Checkv1 ref13_Rows ref13_Samev1 ts131 ts132 k).trans hx)
theorem law13_RunsMade.look (d : Nat) (hd : 61 ≤ d) {e : Option Bool} {g : FuncId} {a : List AV} {h : Heap} {k : KR} (hx : law13_RunsMade.get law13_RunsMade e g a h k = some true) : e = some true ∨ callK Try.prog ht d g a h k = some true := by
  unfold law13_RunsMade.get at hx
  split at hx
  · exact .inr (law13_RunsMade.ok d hd _ _ _ hx)
  · exact .inl hx
/-- function 23: the loop in block 0 -/
noncomputable def slices_IndexFunc_api_Run_api_Runv1_L0.body (slices_IndexFunc_api_Run_api_Runv1_L0 : (List (Int × Int × Int × Bool × Int × Unit)) → Int → Int → Int → (Int → Int → Option Bool) → (Int → Option Bool) → Option Bool) (runs_Atfn1 : (Int × Int × Int × Bool × Int × Unit) → Int → (Bool → Int → Option Bool) → Option Bool) (ts171 : List (Int × Int × Int × Bool × Int × Unit)) (n172 : Int) (n173 : Int) (n174 : Int) (k1 : Int → Int → Option Bool) (k2 : Int → Option Bool) : Option Bool :=
  (cond_ (decide (n173 < n172)) (cond_ ((decide ((0 : Int) ≤ n173)) && (decide (n173 < (((List.length ts171) : Nat) : Int)))) (runs_Atfn1 (List.getD ts171 (Int.toNat n173) ((0 : Int), ((0 : Int), ((0 : Int), (false, ((0 : Int), ())))))) n174
  (fun b175 n176 => (cond_ b175 (k1 n173 n176) (slices_IndexFunc_api_Run_api_Runv1_L0 ts171 n172 (IntKind.wrap .i64 (n173 + (1 : Int))) n176 k1 k2)))) none) (k2 n174))
noncomputable def slices_IndexFunc_api_Run_api_Runv1_L0 : Nat → (List (Int × Int × Int × Bool × Int × Unit)) → Int → Int → Int → (Int → Int → Option Bool) → (Int → Option Bool) → Option Bool
  | 0 => fun _ _ _ _ _ _ => none
  | n + 1 => slices_IndexFunc_api_Run_api_Runv1_L0.body (slices_IndexFunc_api_Run_api_Runv1_L0 n) runs_Atfn1
noncomputable def slices_IndexFunc_api_Run_api_Runv1_L0.get (F : (List (Int × Int × Int × Bool × Int × Unit)) → Int → Int → Int → (Int → Int → Option Bool) → (Int → Option Bool) → Option Bool) (e : Option Bool) (st : St) (k : KE) : Option Bool := match st with
  | ⟨sl, hp, m⟩ => match Nat.beq m 2, pickS 19 [0, 1, 7, 8] sl, hp with
    | true, some [(.bv 0 50 (.st [(.int .i64), (.int .i64), (.int .i64), .bool, (.int .i64)]) ts171), (.fn (.func 24) [] [(.ptr [0, 0] 0 0)]), (.d ⟨(.int .i64), n172⟩), (.d ⟨(.int .i64), n173⟩)], [([0, 0], ⟨3, 1, (.data (.int .i64) [n174])⟩)] => F ts171 n172 n173 n174 (fun y0 y1 => k .ret ⟨fillS 19 [4] [(.d ⟨(.int .i64), y0⟩)], [([0, 0], ⟨3, 1, (.data (.int .i64) [y1])⟩)], 2⟩) (fun y0 => k (.exit 0) ⟨fillS 19 [] [], [([0, 0], ⟨3, 1, (.data (.int .i64) [y0])⟩)], 2⟩)
    | _, _, _ => e
noncomputable def slices_IndexFunc_api_Run_api_Runv1_L0.calls (F0 : (Int × Int × Int × Bool × Int × Unit) → Int → (Bool → Int → Option Bool) → Option Bool) : RecF := fun g a h k => (runs_Atfn1.get F0 none g a h k)
noncomputable def slices_IndexFunc_api_Run_api_Runv1_L0.loops : LoopF := fun b => none
set_option maxRecDepth 100000 in
theorem slices_IndexFunc_api_Run_api_Runv1_L0.step (S : (List (Int × Int × Int × Bool × Int × Unit)) → Int → Int → Int → (Int → Int → Option Bool) → (Int → Option Bool) → Option Bool) (F0 : (Int × Int × Int × Bool × Int × Unit) → Int → (Bool → Int → Option Bool) → Option Bool) (ts171 : List (Int × Int × Int × Bool × Int × Unit)) (n172 : Int) (n173 : Int) (n174 : Int) (k : KE) : execL Try.prog ht 23 (callfOf (slices_IndexFunc_api_Run_api_Runv1_L0.calls F0)) (slices_IndexFunc_api_Run_api_Runv1_L0.loops) 0 (loopAt 0 (codeOf Try.f23)) ⟨fillS 19 [0, 1, 7, 8] [(.bv 0 50 (.st [(.int .i64), (.int .i64), (.int .i64), .bool, (.int .i64)]) ts171), (.fn (.func 24) [] [(.ptr [0, 0] 0 0)]), (.d ⟨(.int .i64), n172⟩), (.d ⟨(.int .i64), n173⟩)], [([0, 0], ⟨3, 1, (.data (.int .i64) [n174])⟩)], 2⟩ (again (slices_IndexFunc_api_Run_api_Runv1_L0.get S none) (plan Try.prog (ht 23 0)) k) = slices_IndexFunc_api_Run_api_Runv1_L0.body S F0 ts171 n172 n173 n174 (fun y0 y1 => k .ret ⟨fillS 19 [4] [(.d ⟨(.int .i64), y0⟩)], [([0, 0], ⟨3, 1, (.data (.int .i64) [y1])⟩)], 2⟩) (fun y0 => k (.exit 0) ⟨fillS 19 [] [], [([0, 0], ⟨3, 1, (.data (.int .i64) [y0])⟩)], 2⟩) := by kernel_rfl
theorem slices_IndexFunc_api_Run_api_Runv1_L0.ok (d : Nat) (hd : 1 ≤ d) : ∀ n st k, slices_IndexFunc_api_Run_api_Runv1_L0.get (slices_IndexFunc_api_Run_api_Runv1_L0 n) none st k = some true → iter n (plan Try.prog (ht 23 0)) (fun st k => execK Try.prog ht 23 (callfOf (callK Try.prog ht d)) 0 (loopAt 0 (codeOf Try.f23)) st k) st k = some true :=
  loop_ok (lfn := fun n st k => slices_IndexFunc_api_Run_api_Runv1_L0.get (slices_IndexFunc_api_Run_api_Runv1_L0 n) none st k) (rec := slices_IndexFunc_api_Run_api_Runv1_L0.calls runs_Atfn1) (fun g a h k hx => by
    rcases runs_Atfn1.look d (by omega) hx with hx | hx
    rotate_left
    · exact hx
    cases hx) (loopf := slices_IndexFunc_api_Run_api_Runv1_L0.loops) (by
    have e : loopsOf (slices_IndexFunc_api_Run_api_Runv1_L0.loops) 0 (loopAt 0 (codeOf Try.f23)) = [] := by kernel_rfl
    rw [e]
    intro p hp
    cases hp) (fun st k h => by
    obtain ⟨sl, hp, m⟩ := st
    unfold slices_IndexFunc_api_Run_api_Runv1_L0.get at h
    dsimp only at h
    split at h
    · have h' : (none : Option Bool) = some true := h
      cases h'
    · cases h) (fun n st k h => by
    obtain ⟨sl, hp, m⟩ := st
    unfold slices_IndexFunc_api_Run_api_Runv1_L0.get at h
    dsimp only at h
    split at h
    · rename_i h1 h2
      obtain rfl := pickS_ok h2
      obtain rfl := Nat.eq_of_beq_eq_true h1
      exact (slices_IndexFunc_api_Run_api_Runv1_L0.step (slices_IndexFunc_api_Run_api_Runv1_L0 n) runs_Atfn1 _ _ _ _ k).trans h
    · cases h)
theorem slices_IndexFunc_api_Run_api_Runv1_L0.look {F : (List (Int × Int × Int × Bool × Int × Unit)) → Int → Int → Int → (Int → Int → Option Bool) → (Int → Option Bool) → Option Bool} {e : Option Bool} {st : St} {k : KE} (hx : slices_IndexFunc_api_Run_api_Runv1_L0.get F e st k = some true) : e = some true ∨ slices_IndexFunc_api_Run_api_Runv1_L0.get F none st k = some true := by
  obtain ⟨sl, hp, m⟩ := st
  unfold slices_IndexFunc_api_Run_api_Runv1_L0.get at hx ⊢
  dsimp only at hx ⊢
  split at hx
  · exact .inr hx
  · exact .inl hx
/-- function 23: slices.IndexFunc[[]sheerleg/api.Run,sheerleg/api.Run] -/
noncomputable def slices_IndexFunc_api_Run_api_Runv1.body (slices_IndexFunc_api_Run_api_Runv1_L0 : (List (Int × Int × Int × Bool × Int × Unit)) → Int → Int → Int → (Int → Int → Option Bool) → (Int → Option Bool) → Option Bool) (ts169 : List (Int × Int × Int × Bool × Int × Unit)) (n170 : Int) (k1 : Int → Int → Option Bool) : Option Bool :=
  (slices_IndexFunc_api_Run_api_Runv1_L0 ts169 (((List.length ts169) : Nat) : Int) (0 : Int) n170
  (fun n177 n178 => (k1 n177 n178))
  (fun n179 => (k1 (-1 : Int) n179)))
noncomputable def slices_IndexFunc_api_Run_api_Runv1 (ts169 : List (Int × Int × Int × Bool × Int × Unit)) (n170 : Int) (k1 : Int → Int → Option Bool) : Option Bool := slices_IndexFunc_api_Run_api_Runv1.body (slices_IndexFunc_api_Run_api_Runv1_L0 ROUNDS) ts169 n170 k1
noncomputable def slices_IndexFunc_api_Run_api_Runv1.get (F : (List (Int × Int × Int × Bool × Int × Unit)) → Int → (Int → Int → Option Bool) → Option Bool) (e : Option Bool) (g : FuncId) (a : List AV) (h : Heap) (k : KR) : Option Bool := match g, a, h with
  | 23, [(.bv 0 50 (.st [(.int .i64), (.int .i64), (.int .i64), .bool, (.int .i64)]) ts169), (.fn (.func 24) [] [(.ptr [0, 0] 0 0)])], [([0, 0], ⟨3, 1, (.data (.int .i64) [n170])⟩)] => F ts169 n170 (fun y0 y1 => k (.d ⟨(.int .i64), y0⟩) [([0, 0], ⟨3, 1, (.data (.int .i64) [y1])⟩)])
  | _, _, _ => e
noncomputable def slices_IndexFunc_api_Run_api_Runv1.calls : RecF := fun g a h k => none
noncomputable def slices_IndexFunc_api_Run_api_Runv1.loops (L0 : (List (Int × Int × Int × Bool × Int × Unit)) → Int → Int → Int → (Int → Int → Option Bool) → (Int → Option Bool) → Option Bool) : LoopF := fun b => match Nat.beq b 0 with | true => some (fun st k => (slices_IndexFunc_api_Run_api_Runv1_L0.get L0 none st k)) | false => none
set_option maxRecDepth 100000 in
theorem slices_IndexFunc_api_Run_api_Runv1.eq (L0 : (List (Int × Int × Int × Bool × Int × Unit)) → Int → Int → Int → (Int → Int → Option Bool) → (Int → Option Bool) → Option Bool) (ts169 : List (Int × Int × Int × Bool × Int × Unit)) (n170 : Int) (k : KR) : execL Try.prog ht 23 (callfOf (slices_IndexFunc_api_Run_api_Runv1.calls)) (slices_IndexFunc_api_Run_api_Runv1.loops L0) 0 (codeOf Try.f23) ⟨[(.bv 0 50 (.st [(.int .i64), (.int .i64), (.int .i64), .bool, (.int .i64)]) ts169), (.fn (.func 24) [] [(.ptr [0, 0] 0 0)])] ++ List.replicate (Try.f23.ntmps - ([(.bv 0 50 (.st [(.int .i64), (.int .i64), (.int .i64), .bool, (.int .i64)]) ts169), (.fn (.func 24) [] [(.ptr [0, 0] 0 0)])] : List AV).length) .undef, [([0, 0], ⟨3, 1, (.data (.int .i64) [n170])⟩)], 2⟩ (leave Try.prog Try.f23 k) = slices_IndexFunc_api_Run_api_Runv1.body L0 ts169 n170 (fun y0 y1 => k (.d ⟨(.int .i64), y0⟩) [([0, 0], ⟨3, 1, (.data (.int .i64) [y1])⟩)]) := by kernel_rfl
theorem slices_IndexFunc_api_Run_api_Runv1.ok (d : Nat) (hd : 2 ≤ d) (ts169 : List (Int × Int × Int × Bool × Int × Unit)) (n170 : Int) (k : KR) (hx : slices_IndexFunc_api_Run_api_Runv1 ts169 n170 (fun y0 y1 => k (.d ⟨(.int .i64), y0⟩) [([0, 0], ⟨3, 1, (.data (.int .i64) [y1])⟩)]) = some true) : callK Try.prog ht d 23 [(.bv 0 50 (.st [(.int .i64), (.int .i64), (.int .i64), .bool, (.int .i64)]) ts169), (.fn (.func 24) [] [(.ptr [0, 0] 0 0)])] [([0, 0], ⟨3, 1, (.data (.int .i64) [n170])⟩)] k = some true := by
  obtain ⟨d, rfl⟩ : ∃ e, d = e + 1 := ⟨d - 1, by omega⟩
  exact fn_ok (c := codeOf Try.f23) Try.func23 (by kernel_rfl) (rec := slices_IndexFunc_api_Run_api_Runv1.calls) (fun g a h k hx => by
    cases hx) (loopf := slices_IndexFunc_api_Run_api_Runv1.loops (slices_IndexFunc_api_Run_api_Runv1_L0 ROUNDS)) (by
    have e : loopsOf (slices_IndexFunc_api_Run_api_Runv1.loops (slices_IndexFunc_api_Run_api_Runv1_L0 ROUNDS)) 0 (codeOf Try.f23) = [(0, loopAt 0 (codeOf Try.f23))] := by kernel_rfl
    rw [e]
    intro p hp
    simp only [List.mem_cons, List.not_mem_nil, or_false] at hp
    rcases hp with rfl
    · refine loopRef_of (callf := callfOf (callK Try.prog ht d)) (callfOf_ref (callK_mono d)) fun lf st k hb hx => ?_
      cases hb
      rcases slices_IndexFunc_api_Run_api_Runv1_L0.look hx with hx | hx
      rotate_left
      · exact slices_IndexFunc_api_Run_api_Runv1_L0.ok d (by omega) _ _ _ hx
      cases hx) ((slices_IndexFunc_api_Run_api_Runv1.eq (slices_IndexFunc_api_Run_api_Runv1_L0 ROUNDS) ts169 n170 k).trans hx)
theorem slices_IndexFunc_api_Run_api_Runv1.look (d : Nat) (hd : 2 ≤ d) {e : Option Bool} {g : FuncId} {a : List AV} {h : Heap} {k : KR} (hx : slices_IndexFunc_api_Run_api_Runv1.get slices_IndexFunc_api_Run_api_Runv1 e g a h k = some true) : e = some true ∨ callK Try.prog ht d g a h k = some true := by
  unfold slices_IndexFunc_api_Run_api_Runv1.get at hx
  split at hx
  · exact .inr (slices_IndexFunc_api_Run_api_Runv1.ok d hd _ _ _ hx)
  · exact .inl hx
/-- function 14: sheerleg/runs.At -/
noncomputable def runs_Atv1.body (slices_IndexFunc_api_Run_api_Runv1 : (List (Int × Int × Int × Bool × Int × Unit)) → Int → (Int → Int → Option Bool) → Option Bool) (ts167 : List (Int × Int × Int × Bool × Int × Unit)) (n168 : Int) (k1 : (Int × Int × Bool × Int × Unit) → Bool → Option Bool) : Option Bool :=
  (slices_IndexFunc_api_Run_api_Runv1 ts167 n168
  (fun n180 n181 => (cond_ (decide (n180 < (0 : Int))) (cond_ ((((List.length ts167) : Nat) : Int) == (0 : Int)) (k1 ((0 : Int), ((0 : Int), (false, ((0 : Int), ())))) false) (cond_ ((decide ((0 : Int) ≤ (IntKind.wrap .i64 ((((List.length ts167) : Nat) : Int) - (1 : Int))))) && (decide ((IntKind.wrap .i64 ((((List.length ts167) : Nat) : Int) - (1 : Int))) < (((List.length ts167) : Nat) : Int)))) (k1 ((List.getD ts167 (Int.toNat (IntKind.wrap .i64 ((((List.length ts167) : Nat) : Int) - (1 : Int)))) ((0 : Int), ((0 : Int), ((0 : Int), (false, ((0 : Int), ())))))).2.1, ((List.getD ts167 (Int.toNat (IntKind.wrap .i64 ((((List.length ts167) : Nat) : Int) - (1 : Int)))) ((0 : Int), ((0 : Int), ((0 : Int), (false, ((0 : Int), ())))))).2.2.1, ((List.getD ts167 (Int.toNat (IntKind.wrap .i64 ((((List.length ts167) : Nat) : Int) - (1 : Int)))) ((0 : Int), ((0 : Int), ((0 : Int), (false, ((0 : Int), ())))))).2.2.2.1, ((List.getD ts167 (Int.toNat (IntKind.wrap .i64 ((((List.length ts167) : Nat) : Int) - (1 : Int)))) ((0 : Int), ((0 : Int), ((0 : Int), (false, ((0 : Int), ())))))).2.2.2.2.1, ())))) true) none)) (cond_ (n180 == (0 : Int)) (k1 ((0 : Int), ((0 : Int), (false, ((0 : Int), ())))) false) (cond_ ((decide ((0 : Int) ≤ (IntKind.wrap .i64 (n180 - (1 : Int))))) && (decide ((IntKind.wrap .i64 (n180 - (1 : Int))) < (((List.length ts167) : Nat) : Int)))) (k1 ((List.getD ts167 (Int.toNat (IntKind.wrap .i64 (n180 - (1 : Int)))) ((0 : Int), ((0 : Int), ((0 : Int), (false, ((0 : Int), ())))))).2.1, ((List.getD ts167 (Int.toNat (IntKind.wrap .i64 (n180 - (1 : Int)))) ((0 : Int), ((0 : Int), ((0 : Int), (false, ((0 : Int), ())))))).2.2.1, ((List.getD ts167 (Int.toNat (IntKind.wrap .i64 (n180 - (1 : Int)))) ((0 : Int), ((0 : Int), ((0 : Int), (false, ((0 : Int), ())))))).2.2.2.1, ((List.getD ts167 (Int.toNat (IntKind.wrap .i64 (n180 - (1 : Int)))) ((0 : Int), ((0 : Int), ((0 : Int), (false, ((0 : Int), ())))))).2.2.2.2.1, ())))) true) none)))))
noncomputable def runs_Atv1 (ts167 : List (Int × Int × Int × Bool × Int × Unit)) (n168 : Int) (k1 : (Int × Int × Bool × Int × Unit) → Bool → Option Bool) : Option Bool := runs_Atv1.body slices_IndexFunc_api_Run_api_Runv1 ts167 n168 k1
noncomputable def runs_Atv1.get (F : (List (Int × Int × Int × Bool × Int × Unit)) → Int → ((Int × Int × Bool × Int × Unit) → Bool → Option Bool) → Option Bool) (e : Option Bool) (g : FuncId) (a : List AV) (h : Heap) (k : KR) : Option Bool := match g, a, h with
  | 14, [(.bv 0 50 (.st [(.int .i64), (.int .i64), (.int .i64), .bool, (.int .i64)]) ts167), (.d ⟨(.int .i64), n168⟩)], [] => F ts167 n168 (fun y0 y1 => k (.tup [(.d ⟨(.st [(.int .i64), (.int .i64), .bool, (.int .i64)]), y0⟩), (.d ⟨.bool, y1⟩)]) [])
  | _, _, _ => e
noncomputable def runs_Atv1.calls (F0 : (List (Int × Int × Int × Bool × Int × Unit)) → Int → (Int → Int → Option Bool) → Option Bool) : RecF := fun g a h k => (slices_IndexFunc_api_Run_api_Runv1.get F0 none g a h k)
noncomputable def runs_Atv1.loops : LoopF := fun b => none
set_option maxRecDepth 100000 in
theorem runs_Atv1.eq (F0 : (List (Int × Int × Int × Bool × Int × Unit)) → Int → (Int → Int → Option Bool) → Option Bool) (ts167 : List (Int × Int × Int × Bool × Int × Unit)) (n168 : Int) (k : KR) : execL Try.prog ht 14 (callfOf (runs_Atv1.calls F0)) (runs_Atv1.loops) 0 (codeOf Try.f14) ⟨[(.bv 0 50 (.st [(.int .i64), (.int .i64), (.int .i64), .bool, (.int .i64)]) ts167), (.d ⟨(.int .i64), n168⟩)] ++ List.replicate (Try.f14.ntmps - ([(.bv 0 50 (.st [(.int .i64), (.int .i64), (.int .i64), .bool, (.int .i64)]) ts167), (.d ⟨(.int .i64), n168⟩)] : List AV).length) .undef, [], 2⟩ (leave Try.prog Try.f14 k) = runs_Atv1.body F0 ts167 n168 (fun y0 y1 => k (.tup [(.d ⟨(.st [(.int .i64), (.int .i64), .bool, (.int .i64)]), y0⟩), (.d ⟨.bool, y1⟩)]) []) := by kernel_rfl
theorem runs_Atv1.ok (d : Nat) (hd : 3 ≤ d) (ts167 : List (Int × Int × Int × Bool × Int × Unit)) (n168 : Int) (k : KR) (hx : runs_Atv1 ts167 n168 (fun y0 y1 => k (.tup [(.d ⟨(.st [(.int .i64), (.int .i64), .bool, (.int .i64)]), y0⟩), (.d ⟨.bool, y1⟩)]) []) = some true) : callK Try.prog ht d 14 [(.bv 0 50 (.st [(.int .i64), (.int .i64), (.int .i64), .bool, (.int .i64)]) ts167), (.d ⟨(.int .i64), n168⟩)] [] k = some true := by
  obtain ⟨d, rfl⟩ : ∃ e, d = e + 1 := ⟨d - 1, by omega⟩
  exact fn_ok (c := codeOf Try.f14) Try.func14 (by kernel_rfl) (rec := runs_Atv1.calls slices_IndexFunc_api_Run_api_Runv1) (fun g a h k hx => by
    rcases slices_IndexFunc_api_Run_api_Runv1.look d (by omega) hx with hx | hx
    rotate_left
    · exact hx
    cases hx) (loopf := runs_Atv1.loops) (by
    have e : loopsOf (runs_Atv1.loops) 0 (codeOf Try.f14) = [] := by kernel_rfl
    rw [e]
    intro p hp
    cases hp) ((runs_Atv1.eq slices_IndexFunc_api_Run_api_Runv1 ts167 n168 k).trans hx)
theorem runs_Atv1.look (d : Nat) (hd : 3 ≤ d) {e : Option Bool} {g : FuncId} {a : List AV} {h : Heap} {k : KR} (hx : runs_Atv1.get runs_Atv1 e g a h k = some true) : e = some true ∨ callK Try.prog ht d g a h k = some true := by
  unfold runs_Atv1.get at hx
  split at hx
  · exact .inr (runs_Atv1.ok d hd _ _ _ hx)
  · exact .inl hx
/-- function 16: the loop in block 0 -/
noncomputable def ref13_Check_L0.body (ref13_Check_L0 : (List (Int × Int × Int × Bool × Int × Unit)) → Int → Int → (Int → Option Bool) → ((List (Int × Int × Int × Bool × Int × Unit)) → Option Bool) → Option Bool) (ts189 : List (Int × Int × Int × Bool × Int × Unit)) (n190 : Int) (n191 : Int) (k1 : Int → Option Bool) (k2 : (List (Int × Int × Int × Bool × Int × Unit)) → Option Bool) : Option Bool :=
  (cond_ (decide (n191 < (((List.length ts189) : Nat) : Int))) (cond_ ((decide ((0 : Int) ≤ n191)) && (decide (n191 < (((List.length ts189) : Nat) : Int)))) (cond_ (! (decide ((List.getD ts189 (Int.toNat n191) ((0 : Int), ((0 : Int), ((0 : Int), (false, ((0 : Int), ())))))).1 ≥ n190))) (cond_ (n191 == (0 : Int)) (cond_ ((decide ((0 : Int) ≤ n191)) && (decide (n191 < (((List.length ts189) : Nat) : Int)))) (cond_ (! ((List.getD ts189 (Int.toNat n191) ((0 : Int), ((0 : Int), ((0 : Int), (false, ((0 : Int), ())))))).1 != (0 : Int))) (cond_ (decide (n191 > (0 : Int))) (cond_ ((decide ((0 : Int) ≤ n191)) && (decide (n191 < (((List.length ts189) : Nat) : Int)))) (cond_ ((decide ((0 : Int) ≤ (IntKind.wrap .i64 (n191 - (1 : Int))))) && (decide ((IntKind.wrap .i64 (n191 - (1 : Int))) < (((List.length ts189) : Nat) : Int)))) (cond_ (decide ((List.getD ts189 (Int.toNat n191) ((0 : Int), ((0 : Int), ((0 : Int), (false, ((0 : Int), ())))))).1 ≤ (List.getD ts189 (Int.toNat (IntKind.wrap .i64 (n191 - (1 : Int)))) ((0 : Int), ((0 : Int), ((0 : Int), (false, ((0 : Int), ())))))).1)) (k1 (9 : Int)) (ref13_Check_L0 ts189 n190 (IntKind.wrap .i64 (n191 + (1 : Int))) k1 k2)) none) none) (ref13_Check_L0 ts189 n190 (IntKind.wrap .i64 (n191 + (1 : Int))) k1 k2)) (k1 (9 : Int))) none) (cond_ (decide (n191 > (0 : Int))) (cond_ ((decide ((0 : Int) ≤ n191)) && (decide (n191 < (((List.length ts189) : Nat) : Int)))) (cond_ ((decide ((0 : Int) ≤ (IntKind.wrap .i64 (n191 - (1 : Int))))) && (decide ((IntKind.wrap .i64 (n191 - (1 : Int))) < (((List.length ts189) : Nat) : Int)))) (cond_ (decide ((List.getD ts189 (Int.toNat n191) ((0 : Int), ((0 : Int), ((0 : Int), (false, ((0 : Int), ())))))).1 ≤ (List.getD ts189 (Int.toNat (IntKind.wrap .i64 (n191 - (1 : Int)))) ((0 : Int), ((0 : Int), ((0 : Int), (false, ((0 : Int), ())))))).1)) (k1 (9 : Int)) (ref13_Check_L0 ts189 n190 (IntKind.wrap .i64 (n191 + (1 : Int))) k1 k2)) none) none) (ref13_Check_L0 ts189 n190 (IntKind.wrap .i64 (n191 + (1 : Int))) k1 k2))) (k1 (9 : Int))) none) (k2 ts189))
noncomputable def ref13_Check_L0 : Nat → (List (Int × Int × Int × Bool × Int × Unit)) → Int → Int → (Int → Option Bool) → ((List (Int × Int × Int × Bool × Int × Unit)) → Option Bool) → Option Bool
  | 0 => fun _ _ _ _ _ => none
  | n + 1 => ref13_Check_L0.body (ref13_Check_L0 n)
noncomputable def ref13_Check_L0.get (F : (List (Int × Int × Int × Bool × Int × Unit)) → Int → Int → (Int → Option Bool) → ((List (Int × Int × Int × Bool × Int × Unit)) → Option Bool) → Option Bool) (e : Option Bool) (st : St) (k : KE) : Option Bool := match st with
  | ⟨sl, hp, m⟩ => match Nat.beq m 2, pickS 77 [0, 1, 5] sl, hp with
    | true, some [(.bv 0 50 (.st [(.int .i64), (.int .i64), (.int .i64), .bool, (.int .i64)]) ts189), (.d ⟨(.int .i64), n190⟩), (.d ⟨(.int .i64), n191⟩)], [] => F ts189 n190 n191 (fun y0 => k .ret ⟨fillS 77 [4] [(.d ⟨(.int .i64), y0⟩)], [], 2⟩) (fun y0 => k (.exit 0) ⟨fillS 77 [0] [(.bv 0 50 (.st [(.int .i64), (.int .i64), (.int .i64), .bool, (.int .i64)]) y0)], [], 2⟩)
    | _, _, _ => e
noncomputable def ref13_Check_L0.calls : RecF := fun g a h k => none
noncomputable def ref13_Check_L0.loops : LoopF := fun b => none
set_option maxRecDepth 100000 in
theorem ref13_Check_L0.step (S : (List (Int × Int × Int × Bool × Int × Unit)) → Int → Int → (Int → Option Bool) → ((List (Int × Int × Int × Bool × Int × Unit)) → Option Bool) → Option Bool) (ts189 : List (Int × Int × Int × Bool × Int × Unit)) (n190 : Int) (n191 : Int) (k : KE) : execL Try.prog ht 16 (callfOf (ref13_Check_L0.calls)) (ref13_Check_L0.loops) 0 (loopAt 0 (codeOf Try.f16)) ⟨fillS 77 [0, 1, 5] [(.bv 0 50 (.st [(.int .i64), (.int .i64), (.int .i64), .bool, (.int .i64)]) ts189), (.d ⟨(.int .i64), n190⟩), (.d ⟨(.int .i64), n191⟩)], [], 2⟩ (again (ref13_Check_L0.get S none) (plan Try.prog (ht 16 0)) k) = ref13_Check_L0.body S ts189 n190 n191 (fun y0 => k .ret ⟨fillS 77 [4] [(.d ⟨(.int .i64), y0⟩)], [], 2⟩) (fun y0 => k (.exit 0) ⟨fillS 77 [0] [(.bv 0 50 (.st [(.int .i64), (.int .i64), (.int .i64), .bool, (.int .i64)]) y0)], [], 2⟩) := by kernel_rfl
theorem ref13_Check_L0.ok (d : Nat) (hd : 0 ≤ d) : ∀ n st k, ref13_Check_L0.get (ref13_Check_L0 n) none st k = some true → iter n (plan Try.prog (ht 16 0)) (fun st k => execK Try.prog ht 16 (callfOf (callK Try.prog ht d)) 0 (loopAt 0 (codeOf Try.f16)) st k) st k = some true :=
  loop_ok (lfn := fun n st k => ref13_Check_L0.get (ref13_Check_L0 n) none st k) (rec := ref13_Check_L0.calls) (fun g a h k hx => by
    cases hx) (loopf := ref13_Check_L0.loops) (by
    have e : loopsOf (ref13_Check_L0.loops) 0 (loopAt 0 (codeOf Try.f16)) = [] := by kernel_rfl
    rw [e]
    intro p hp
    cases hp) (fun st k h => by
    obtain ⟨sl, hp, m⟩ := st
    unfold ref13_Check_L0.get at h
    dsimp only at h
    split at h
    · have h' : (none : Option Bool) = some true := h
      cases h'
    · cases h) (fun n st k h => by
    obtain ⟨sl, hp, m⟩ := st
    unfold ref13_Check_L0.get at h
    dsimp only at h
    split at h
    · rename_i h1 h2
      obtain rfl := pickS_ok h2
      obtain rfl := Nat.eq_of_beq_eq_true h1
      exact (ref13_Check_L0.step (ref13_Check_L0 n) _ _ _ k).trans h
    · cases h)
theorem ref13_Check_L0.look {F : (List (Int × Int × Int × Bool × Int × Unit)) → Int → Int → (Int → Option Bool) → ((List (Int × Int × Int × Bool × Int × Unit)) → Option Bool) → Option Bool} {e : Option Bool} {st : St} {k : KE} (hx : ref13_Check_L0.get F e st k = some true) : e = some true ∨ ref13_Check_L0.get F none st k = some true := by
  obtain ⟨sl, hp, m⟩ := st
  unfold ref13_Check_L0.get at hx ⊢
  dsimp only at hx ⊢
  split at hx
  · exact .inr hx
  · exact .inl hx
/-- function 16: the loop in block 2 -/
noncomputable def ref13_Check_L2.body (ref13_Check_L2 : (List (Int × Int × Int × Bool × Int × Unit)) → Int → (Int → Option Bool) → (Option Bool) → Option Bool) (ts194 : List (Int × Int × Int × Bool × Int × Unit)) (n195 : Int) (k1 : Int → Option Bool) (k2 : Option Bool) : Option Bool :=
  (cond_ (decide (n195 < (((List.length ts194) : Nat) : Int))) (cond_ ((decide ((0 : Int) ≤ n195)) && (decide (n195 < (((List.length ts194) : Nat) : Int)))) (cond_ ((decide ((0 : Int) ≤ (IntKind.wrap .i64 (n195 - (1 : Int))))) && (decide ((IntKind.wrap .i64 (n195 - (1 : Int))) < (((List.length ts194) : Nat) : Int)))) (cond_ (((List.getD ts194 (Int.toNat n195) ((0 : Int), ((0 : Int), ((0 : Int), (false, ((0 : Int), ())))))).2.1 == (List.getD ts194 (Int.toNat (IntKind.wrap .i64 (n195 - (1 : Int)))) ((0 : Int), ((0 : Int), ((0 : Int), (false, ((0 : Int), ())))))).2.1) && (((List.getD ts194 (Int.toNat n195) ((0 : Int), ((0 : Int), ((0 : Int), (false, ((0 : Int), ())))))).2.2.1 == (List.getD ts194 (Int.toNat (IntKind.wrap .i64 (n195 - (1 : Int)))) ((0 : Int), ((0 : Int), ((0 : Int), (false, ((0 : Int), ())))))).2.2.1) && (((List.getD ts194 (Int.toNat n195) ((0 : Int), ((0 : Int), ((0 : Int), (false, ((0 : Int), ())))))).2.2.2.1 == (List.getD ts194 (Int.toNat (IntKind.wrap .i64 (n195 - (1 : Int)))) ((0 : Int), ((0 : Int), ((0 : Int), (false, ((0 : Int), ())))))).2.2.2.1) && (((List.getD ts194 (Int.toNat n195) ((0 : Int), ((0 : Int), ((0 : Int), (false, ((0 : Int), ())))))).2.2.2.2.1 == (List.getD ts194 (Int.toNat (IntKind.wrap .i64 (n195 - (1 : Int)))) ((0 : Int), ((0 : Int), ((0 : Int), (false, ((0 : Int), ())))))).2.2.2.2.1) && true)))) (k1 (12 : Int)) (ref13_Check_L2 ts194 (IntKind.wrap .i64 (n195 + (1 : Int))) k1 k2)) none) none) (k2))
noncomputable def ref13_Check_L2 : Nat → (List (Int × Int × Int × Bool × Int × Unit)) → Int → (Int → Option Bool) → (Option Bool) → Option Bool
  | 0 => fun _ _ _ _ => none
  | n + 1 => ref13_Check_L2.body (ref13_Check_L2 n)
noncomputable def ref13_Check_L2.get (F : (List (Int × Int × Int × Bool × Int × Unit)) → Int → (Int → Option Bool) → (Option Bool) → Option Bool) (e : Option Bool) (st : St) (k : KE) : Option Bool := match st with
  | ⟨sl, hp, m⟩ => match Nat.beq m 2, pickS 77 [0, 6] sl, hp with
    | true, some [(.bv 0 50 (.st [(.int .i64), (.int .i64), (.int .i64), .bool, (.int .i64)]) ts194), (.d ⟨(.int .i64), n195⟩)], [] => F ts194 n195 (fun y0 => k .ret ⟨fillS 77 [4] [(.d ⟨(.int .i64), y0⟩)], [], 2⟩) (k (.exit 2) ⟨fillS 77 [] [], [], 2⟩)
    | _, _, _ => e
noncomputable def ref13_Check_L2.calls : RecF := fun g a h k => none
noncomputable def ref13_Check_L2.loops : LoopF := fun b => none
set_option maxRecDepth 100000 in
theorem ref13_Check_L2.step (S : (List (Int × Int × Int × Bool × Int × Unit)) → Int → (Int → Option Bool) → (Option Bool) → Option Bool) (ts194 : List (Int × Int × Int × Bool × Int × Unit)) (n195 : Int) (k : KE) : execL Try.prog ht 16 (callfOf (ref13_Check_L2.calls)) (ref13_Check_L2.loops) 2 (loopAt 2 (codeOf Try.f16)) ⟨fillS 77 [0, 6] [(.bv 0 50 (.st [(.int .i64), (.int .i64), (.int .i64), .bool, (.int .i64)]) ts194), (.d ⟨(.int .i64), n195⟩)], [], 2⟩ (again (ref13_Check_L2.get S none) (plan Try.prog (ht 16 2)) k) = ref13_Check_L2.body S ts194 n195 (fun y0 => k .ret ⟨fillS 77 [4] [(.d ⟨(.int .i64), y0⟩)], [], 2⟩) (k (.exit 2) ⟨fillS 77 [] [], [], 2⟩) := by kernel_rfl
theorem ref13_Check_L2.ok (d : Nat) (hd : 0 ≤ d) : ∀ n st k, ref13_Check_L2.get (ref13_Check_L2 n) none st k = some true → iter n (plan Try.prog (ht 16 2)) (fun st k => execK Try.prog ht 16 (callfOf (callK Try.prog ht d)) 2 (loopAt 2 (codeOf Try.f16)) st k) st k = some true :=
  loop_ok (lfn := fun n st k => ref13_Check_L2.get (ref13_Check_L2 n) none st k) (rec := ref13_Check_L2.calls) (fun g a h k hx => by
    cases hx) (loopf := ref13_Check_L2.loops) (by
    have e : loopsOf (ref13_Check_L2.loops) 2 (loopAt 2 (codeOf Try.f16)) = [] := by kernel_rfl
    rw [e]
    intro p hp
    cases hp) (fun st k h => by
    obtain ⟨sl, hp, m⟩ := st
    unfold ref13_Check_L2.get at h
    dsimp only at h
    split at h
    · have h' : (none : Option Bool) = some true := h
      cases h'
    · cases h) (fun n st k h => by
    obtain ⟨sl, hp, m⟩ := st
    unfold ref13_Check_L2.get at h
    dsimp only at h
    split at h
    · rename_i h1 h2
      obtain rfl := pickS_ok h2
      obtain rfl := Nat.eq_of_beq_eq_true h1
      exact (ref13_Check_L2.step (ref13_Check_L2 n) _ _ k).trans h
    · cases h)
theorem ref13_Check_L2.look {F : (List (Int × Int × Int × Bool × Int × Unit)) → Int → (Int → Option Bool) → (Option Bool) → Option Bool} {e : Option Bool} {st : St} {k : KE} (hx : ref13_Check_L2.get F e st k = some true) : e = some true ∨ ref13_Check_L2.get F none st k = some true := by
  obtain ⟨sl, hp, m⟩ := st
  unfold ref13_Check_L2.get at hx ⊢
  dsimp only at hx ⊢
  split at hx
  · exact .inr hx
  · exact .inl hx
/-- function 16: sheerleg/sheerlegref13.Check -/
noncomputable def ref13_Check.body (ref13_Check_L0 : (List (Int × Int × Int × Bool × Int × Unit)) → Int → Int → (Int → Option Bool) → ((List (Int × Int × Int × Bool × Int × Unit)) → Option Bool) → Option Bool) (ref13_Check_L2 : (List (Int × Int × Int × Bool × Int × Unit)) → Int → (Int → Option Bool) → (Option Bool) → Option Bool) (ts187 : List (Int × Int × Int × Bool × Int × Unit)) (n188 : Int) (k1 : Int → Option Bool) : Option Bool :=
  (cond_ (decide ((((List.length ts187) : Nat) : Int) > (4096 : Int))) (k1 (19 : Int)) (cond_ (! ((decide ((((List.length ts187) : Nat) : Int) > (0 : Int))) == (decide (n188 > (0 : Int))))) (k1 (9 : Int)) (ref13_Check_L0 ts187 n188 (0 : Int)
  (fun n192 => (k1 n192))
  (fun ts193 => (ref13_Check_L2 ts193 (1 : Int)
  (fun n196 => (k1 n196))
  (k1 (0 : Int)))))))
noncomputable def ref13_Check (ts187 : List (Int × Int × Int × Bool × Int × Unit)) (n188 : Int) (k1 : Int → Option Bool) : Option Bool := ref13_Check.body (ref13_Check_L0 ROUNDS) (ref13_Check_L2 ROUNDS) ts187 n188 k1
noncomputable def ref13_Check.get (F : (List (Int × Int × Int × Bool × Int × Unit)) → Int → (Int → Option Bool) → Option Bool) (e : Option Bool) (g : FuncId) (a : List AV) (h : Heap) (k : KR) : Option Bool := match g, a, h with
  | 16, [(.bv 0 50 (.st [(.int .i64), (.int .i64), (.int .i64), .bool, (.int .i64)]) ts187), (.d ⟨(.int .i64), n188⟩)], [] => F ts187 n188 (fun y0 => k (.d ⟨(.int .i64), y0⟩) [])
  | _, _, _ => e
noncomputable def ref13_Check.calls : RecF := fun g a h k => none
noncomputable def ref13_Check.loops (L0 : (List (Int × Int × Int × Bool × Int × Unit)) → Int → Int → (Int → Option Bool) → ((List (Int × Int × Int × Bool × Int × Unit)) → Option Bool) → Option Bool) (L1 : (List (Int × Int × Int × Bool × Int × Unit)) → Int → (Int → Option Bool) → (Option Bool) → Option Bool) : LoopF := fun b => match Nat.beq b 0 with | true => some (fun st k => (ref13_Check_L0.get L0 none st k)) | false => match Nat.beq b 2 with | true => some (fun st k => (ref13_Check_L2.get L1 none st k)) | false => none
set_option maxRecDepth 100000 in
theorem ref13_Check.eq (L0 : (List (Int × Int × Int × Bool × Int × Unit)) → Int → Int → (Int → Option Bool) → ((List (Int × Int × Int × Bool × Int × Unit)) → Option Bool) → Option Bool) (L1 : (List (Int × Int × Int × Bool × Int × Unit)) → Int → (Int → Option Bool) → (Option Bool) → Option Bool) (ts187 : List (Int × Int × Int × Bool × Int × Unit)) (n188 : Int) (k : KR) : execL Try.prog ht 16 (callfOf (ref13_Check.calls)) (ref13_Check.loops L0 L1) 0 (codeOf Try.f16) ⟨[(.bv 0 50 (.st [(.int .i64), (.int .i64), (.int .i64), .bool, (.int .i64)]) ts187), (.d ⟨(.int .i64), n188⟩)] ++ List.replicate (Try.f16.ntmps - ([(.bv 0 50 (.st [(.int .i64), (.int .i64), (.int .i64), .bool, (.int .i64)]) ts187), (.d ⟨(.int .i64), n188⟩)] : List AV).length) .undef, [], 2⟩ (leave Try.prog Try.f16 k) = ref13_Check.body L0 L1 ts187 n188 (fun y0 => k (.d ⟨(.int .i64), y0⟩) []) := by kernel_rfl
theorem ref13_Check.ok (d : Nat) (hd : 1 ≤ d) (ts187 : List (Int × Int × Int × Bool × Int × Unit)) (n188 : Int) (k : KR) (hx : ref13_Check ts187 n188 (fun y0 => k (.d ⟨(.int .i64), y0⟩) []) = some true) : callK Try.prog ht d 16 [(.bv 0 50 (.st [(.int .i64), (.int .i64), (.int .i64), .bool, (.int .i64)]) ts187), (.d ⟨(.int .i64), n188⟩)] [] k = some true := by
  obtain ⟨d, rfl⟩ : ∃ e, d = e + 1 := ⟨d - 1, by omega⟩
  exact fn_ok (c := codeOf Try.f16) Try.func16 (by kernel_rfl) (rec := ref13_Check.calls) (fun g a h k hx => by
    cases hx) (loopf := ref13_Check.loops (ref13_Check_L0 ROUNDS) (ref13_Check_L2 ROUNDS)) (by
    have e : loopsOf (ref13_Check.loops (ref13_Check_L0 ROUNDS) (ref13_Check_L2 ROUNDS)) 0 (codeOf Try.f16) = [(0, loopAt 0 (codeOf Try.f16)), (2, loopAt 2 (codeOf Try.f16))] := by kernel_rfl
    rw [e]
    intro p hp
    simp only [List.mem_cons, List.not_mem_nil, or_false] at hp
    rcases hp with rfl | rfl
    · refine loopRef_of (callf := callfOf (callK Try.prog ht d)) (callfOf_ref (callK_mono d)) fun lf st k hb hx => ?_
      cases hb
      rcases ref13_Check_L0.look hx with hx | hx
      rotate_left
      · exact ref13_Check_L0.ok d (by omega) _ _ _ hx
      cases hx
    · refine loopRef_of (callf := callfOf (callK Try.prog ht d)) (callfOf_ref (callK_mono d)) fun lf st k hb hx => ?_
      cases hb
      rcases ref13_Check_L2.look hx with hx | hx
      rotate_left
      · exact ref13_Check_L2.ok d (by omega) _ _ _ hx
      cases hx) ((ref13_Check.eq (ref13_Check_L0 ROUNDS) (ref13_Check_L2 ROUNDS) ts187 n188 k).trans hx)
theorem ref13_Check.look (d : Nat) (hd : 1 ≤ d) {e : Option Bool} {g : FuncId} {a : List AV} {h : Heap} {k : KR} (hx : ref13_Check.get ref13_Check e g a h k = some true) : e = some true ∨ callK Try.prog ht d g a h k = some true := by
  unfold ref13_Check.get at hx
  split at hx
  · exact .inr (ref13_Check.ok d hd _ _ _ hx)
  · exact .inl hx
/-- function 12: the loop in block 0 -/
noncomputable def runs_Rowsv1_L0.body (runs_Rowsv1_L0 : (List (Int × Int × Int × Bool × Int × Unit)) → Int → Int → (List (Int × Int × Bool × Int × Unit)) → ((List (Int × Int × Bool × Int × Unit)) → Option Bool) → Option Bool) (runs_Atv1 : (List (Int × Int × Int × Bool × Int × Unit)) → Int → ((Int × Int × Bool × Int × Unit) → Bool → Option Bool) → Option Bool) (ts200 : List (Int × Int × Int × Bool × Int × Unit)) (n201 : Int) (n202 : Int) (ts203 : List (Int × Int × Bool × Int × Unit)) (k1 : (List (Int × Int × Bool × Int × Unit)) → Option Bool) : Option Bool :=
  (cond_ (decide (n202 < n201)) (runs_Atv1 ts200 n202
  (fun t204 b205 => (cond_ (Nat.ble (((List.length ts203) + (List.length ((t204.1, (t204.2.1, (t204.2.2.1, (t204.2.2.2.1, ())))) :: []))) * (32 : Nat)) (140737488355328 : Nat)) (runs_Rowsv1_L0 ts200 n201 (IntKind.wrap .i64 (n202 + (1 : Int))) (ts203 ++ ((t204.1, (t204.2.1, (t204.2.2.1, (t204.2.2.2.1, ())))) :: [])) k1) none))) (k1 ts203))
noncomputable def runs_Rowsv1_L0 : Nat → (List (Int × Int × Int × Bool × Int × Unit)) → Int → Int → (List (Int × Int × Bool × Int × Unit)) → ((List (Int × Int × Bool × Int × Unit)) → Option Bool) → Option Bool
  | 0 => fun _ _ _ _ _ => none
  | n + 1 => runs_Rowsv1_L0.body (runs_Rowsv1_L0 n) runs_Atv1
noncomputable def runs_Rowsv1_L0.get (F : (List (Int × Int × Int × Bool × Int × Unit)) → Int → Int → (List (Int × Int × Bool × Int × Unit)) → ((List (Int × Int × Bool × Int × Unit)) → Option Bool) → Option Bool) (e : Option Bool) (st : St) (k : KE) : Option Bool := match st with
  | ⟨sl, hp, m⟩ => match Nat.beq m 2, pickS 27 [0, 5, 11, 12] sl, hp with
    | true, some [(.bv 0 50 (.st [(.int .i64), (.int .i64), (.int .i64), .bool, (.int .i64)]) ts200), (.ref [1, 0]), (.d ⟨(.int .i64), n201⟩), (.d ⟨(.int .i64), n202⟩)], [([1, 0], ⟨33, 4, (.data (.st [(.int .i64), (.int .i64), .bool, (.int .i64)]) ts203)⟩)] => F ts200 n201 n202 ts203 (fun y0 => k (.exit 0) ⟨fillS 27 [5] [(.ref [1, 0])], [([1, 0], ⟨33, 4, (.data (.st [(.int .i64), (.int .i64), .bool, (.int .i64)]) y0)⟩)], 2⟩)
    | _, _, _ => e
noncomputable def runs_Rowsv1_L0.calls (F0 : (List (Int × Int × Int × Bool × Int × Unit)) → Int → ((Int × Int × Bool × Int × Unit) → Bool → Option Bool) → Option Bool) : RecF := fun g a h k => (runs_Atv1.get F0 none g a h k)
noncomputable def runs_Rowsv1_L0.loops : LoopF := fun b => none
set_option maxRecDepth 100000 in
theorem runs_Rowsv1_L0.step (S : (List (Int × Int × Int × Bool × Int × Unit)) → Int → Int → (List (Int × Int × Bool × Int × Unit)) → ((List (Int × Int × Bool × Int × Unit)) → Option Bool) → Option Bool) (F0 : (List (Int × Int × Int × Bool × Int × Unit)) → Int → ((Int × Int × Bool × Int × Unit) → Bool → Option Bool) → Option Bool) (ts200 : List (Int × Int × Int × Bool × Int × Unit)) (n201 : Int) (n202 : Int) (ts203 : List (Int × Int × Bool × Int × Unit)) (k : KE) : execL Try.prog ht 12 (callfOf (runs_Rowsv1_L0.calls F0)) (runs_Rowsv1_L0.loops) 0 (loopAt 0 (codeOf Try.f12)) ⟨fillS 27 [0, 5, 11, 12] [(.bv 0 50 (.st [(.int .i64), (.int .i64), (.int .i64), .bool, (.int .i64)]) ts200), (.ref [1, 0]), (.d ⟨(.int .i64), n201⟩), (.d ⟨(.int .i64), n202⟩)], [([1, 0], ⟨33, 4, (.data (.st [(.int .i64), (.int .i64), .bool, (.int .i64)]) ts203)⟩)], 2⟩ (again (runs_Rowsv1_L0.get S none) (plan Try.prog (ht 12 0)) k) = runs_Rowsv1_L0.body S F0 ts200 n201 n202 ts203 (fun y0 => k (.exit 0) ⟨fillS 27 [5] [(.ref [1, 0])], [([1, 0], ⟨33, 4, (.data (.st [(.int .i64), (.int .i64), .bool, (.int .i64)]) y0)⟩)], 2⟩) := by kernel_rfl
theorem runs_Rowsv1_L0.ok (d : Nat) (hd : 3 ≤ d) : ∀ n st k, runs_Rowsv1_L0.get (runs_Rowsv1_L0 n) none st k = some true → iter n (plan Try.prog (ht 12 0)) (fun st k => execK Try.prog ht 12 (callfOf (callK Try.prog ht d)) 0 (loopAt 0 (codeOf Try.f12)) st k) st k = some true :=
  loop_ok (lfn := fun n st k => runs_Rowsv1_L0.get (runs_Rowsv1_L0 n) none st k) (rec := runs_Rowsv1_L0.calls runs_Atv1) (fun g a h k hx => by
    rcases runs_Atv1.look d (by omega) hx with hx | hx
    rotate_left
    · exact hx
    cases hx) (loopf := runs_Rowsv1_L0.loops) (by
    have e : loopsOf (runs_Rowsv1_L0.loops) 0 (loopAt 0 (codeOf Try.f12)) = [] := by kernel_rfl
    rw [e]
    intro p hp
    cases hp) (fun st k h => by
    obtain ⟨sl, hp, m⟩ := st
    unfold runs_Rowsv1_L0.get at h
    dsimp only at h
    split at h
    · have h' : (none : Option Bool) = some true := h
      cases h'
    · cases h) (fun n st k h => by
    obtain ⟨sl, hp, m⟩ := st
    unfold runs_Rowsv1_L0.get at h
    dsimp only at h
    split at h
    · rename_i h1 h2
      obtain rfl := pickS_ok h2
      obtain rfl := Nat.eq_of_beq_eq_true h1
      exact (runs_Rowsv1_L0.step (runs_Rowsv1_L0 n) runs_Atv1 _ _ _ _ k).trans h
    · cases h)
theorem runs_Rowsv1_L0.look {F : (List (Int × Int × Int × Bool × Int × Unit)) → Int → Int → (List (Int × Int × Bool × Int × Unit)) → ((List (Int × Int × Bool × Int × Unit)) → Option Bool) → Option Bool} {e : Option Bool} {st : St} {k : KE} (hx : runs_Rowsv1_L0.get F e st k = some true) : e = some true ∨ runs_Rowsv1_L0.get F none st k = some true := by
  obtain ⟨sl, hp, m⟩ := st
  unfold runs_Rowsv1_L0.get at hx ⊢
  dsimp only at hx ⊢
  split at hx
  · exact .inr hx
  · exact .inl hx
/-- function 12: sheerleg/runs.Rows -/
noncomputable def runs_Rowsv1.body (runs_Rowsv1_L0 : (List (Int × Int × Int × Bool × Int × Unit)) → Int → Int → (List (Int × Int × Bool × Int × Unit)) → ((List (Int × Int × Bool × Int × Unit)) → Option Bool) → Option Bool) (ts198 : List (Int × Int × Int × Bool × Int × Unit)) (n199 : Int) (k1 : (List (Int × Int × Bool × Int × Unit)) → Option Bool) : Option Bool :=
  (runs_Rowsv1_L0 ts198 (if ((0 : Int) < (if ((4096 : Int) < n199) then (4096 : Int) else n199)) then (if ((4096 : Int) < n199) then (4096 : Int) else n199) else (0 : Int)) (0 : Int) []
  (fun ts206 => (k1 ts206)))
noncomputable def runs_Rowsv1 (ts198 : List (Int × Int × Int × Bool × Int × Unit)) (n199 : Int) (k1 : (List (Int × Int × Bool × Int × Unit)) → Option Bool) : Option Bool := runs_Rowsv1.body (runs_Rowsv1_L0 ROUNDS) ts198 n199 k1
noncomputable def runs_Rowsv1.get (F : (List (Int × Int × Int × Bool × Int × Unit)) → Int → ((List (Int × Int × Bool × Int × Unit)) → Option Bool) → Option Bool) (e : Option Bool) (g : FuncId) (a : List AV) (h : Heap) (k : KR) : Option Bool := match g, a, h with
  | 12, [(.bv 0 50 (.st [(.int .i64), (.int .i64), (.int .i64), .bool, (.int .i64)]) ts198), (.d ⟨(.int .i64), n199⟩)], [] => F ts198 n199 (fun y0 => k (.ref [1, 0]) [([1, 0], ⟨33, 4, (.data (.st [(.int .i64), (.int .i64), .bool, (.int .i64)]) y0)⟩)])
  | _, _, _ => e
noncomputable def runs_Rowsv1.calls : RecF := fun g a h k => none
noncomputable def runs_Rowsv1.loops (L0 : (List (Int × Int × Int × Bool × Int × Unit)) → Int → Int → (List (Int × Int × Bool × Int × Unit)) → ((List (Int × Int × Bool × Int × Unit)) → Option Bool) → Option Bool) : LoopF := fun b => match Nat.beq b 0 with | true => some (fun st k => (runs_Rowsv1_L0.get L0 none st k)) | false => none
set_option maxRecDepth 100000 in
theorem runs_Rowsv1.eq (L0 : (List (Int × Int × Int × Bool × Int × Unit)) → Int → Int → (List (Int × Int × Bool × Int × Unit)) → ((List (Int × Int × Bool × Int × Unit)) → Option Bool) → Option Bool) (ts198 : List (Int × Int × Int × Bool × Int × Unit)) (n199 : Int) (k : KR) : execL Try.prog ht 12 (callfOf (runs_Rowsv1.calls)) (runs_Rowsv1.loops L0) 0 (codeOf Try.f12) ⟨[(.bv 0 50 (.st [(.int .i64), (.int .i64), (.int .i64), .bool, (.int .i64)]) ts198), (.d ⟨(.int .i64), n199⟩)] ++ List.replicate (Try.f12.ntmps - ([(.bv 0 50 (.st [(.int .i64), (.int .i64), (.int .i64), .bool, (.int .i64)]) ts198), (.d ⟨(.int .i64), n199⟩)] : List AV).length) .undef, [], 2⟩ (leave Try.prog Try.f12 k) = runs_Rowsv1.body L0 ts198 n199 (fun y0 => k (.ref [1, 0]) [([1, 0], ⟨33, 4, (.data (.st [(.int .i64), (.int .i64), .bool, (.int .i64)]) y0)⟩)]) := by kernel_rfl
theorem runs_Rowsv1.ok (d : Nat) (hd : 4 ≤ d) (ts198 : List (Int × Int × Int × Bool × Int × Unit)) (n199 : Int) (k : KR) (hx : runs_Rowsv1 ts198 n199 (fun y0 => k (.ref [1, 0]) [([1, 0], ⟨33, 4, (.data (.st [(.int .i64), (.int .i64), .bool, (.int .i64)]) y0)⟩)]) = some true) : callK Try.prog ht d 12 [(.bv 0 50 (.st [(.int .i64), (.int .i64), (.int .i64), .bool, (.int .i64)]) ts198), (.d ⟨(.int .i64), n199⟩)] [] k = some true := by
  obtain ⟨d, rfl⟩ : ∃ e, d = e + 1 := ⟨d - 1, by omega⟩
  exact fn_ok (c := codeOf Try.f12) Try.func12 (by kernel_rfl) (rec := runs_Rowsv1.calls) (fun g a h k hx => by
    cases hx) (loopf := runs_Rowsv1.loops (runs_Rowsv1_L0 ROUNDS)) (by
    have e : loopsOf (runs_Rowsv1.loops (runs_Rowsv1_L0 ROUNDS)) 0 (codeOf Try.f12) = [(0, loopAt 0 (codeOf Try.f12))] := by kernel_rfl
    rw [e]
    intro p hp
    simp only [List.mem_cons, List.not_mem_nil, or_false] at hp
    rcases hp with rfl
    · refine loopRef_of (callf := callfOf (callK Try.prog ht d)) (callfOf_ref (callK_mono d)) fun lf st k hb hx => ?_
      cases hb
      rcases runs_Rowsv1_L0.look hx with hx | hx
      rotate_left
      · exact runs_Rowsv1_L0.ok d (by omega) _ _ _ hx
      cases hx) ((runs_Rowsv1.eq (runs_Rowsv1_L0 ROUNDS) ts198 n199 k).trans hx)
theorem runs_Rowsv1.look (d : Nat) (hd : 4 ≤ d) {e : Option Bool} {g : FuncId} {a : List AV} {h : Heap} {k : KR} (hx : runs_Rowsv1.get runs_Rowsv1 e g a h k = some true) : e = some true ∨ callK Try.prog ht d g a h k = some true := by
  unfold runs_Rowsv1.get at hx
  split at hx
  · exact .inr (runs_Rowsv1.ok d hd _ _ _ hx)
  · exact .inl hx
/-- function 11: the loop in block 0 -/
noncomputable def ref13_SameRowsv1_L0.body (ref13_SameRowsv1_L0 : (List (Int × Int × Bool × Int × Unit)) → (List (Int × Int × Bool × Int × Unit)) → Int → (Bool → Option Bool) → (Option Bool) → Option Bool) (ts211 : List (Int × Int × Bool × Int × Unit)) (ts212 : List (Int × Int × Bool × Int × Unit)) (n213 : Int) (k1 : Bool → Option Bool) (k2 : Option Bool) : Option Bool :=
  (cond_ (decide (n213 < (((List.length ts211) : Nat) : Int))) (cond_ ((decide ((0 : Int) ≤ n213)) && (decide (n213 < (((List.length ts211) : Nat) : Int)))) (cond_ ((decide ((0 : Int) ≤ n213)) && (decide (n213 < (((List.length ts212) : Nat) : Int)))) (cond_ (! (((List.getD ts211 (Int.toNat n213) ((0 : Int), ((0 : Int), (false, ((0 : Int), ()))))).1 == (List.getD ts212 (Int.toNat n213) ((0 : Int), ((0 : Int), (false, ((0 : Int), ()))))).1) && (((List.getD ts211 (Int.toNat n213) ((0 : Int), ((0 : Int), (false, ((0 : Int), ()))))).2.1 == (List.getD ts212 (Int.toNat n213) ((0 : Int), ((0 : Int), (false, ((0 : Int), ()))))).2.1) && (((List.getD ts211 (Int.toNat n213) ((0 : Int), ((0 : Int), (false, ((0 : Int), ()))))).2.2.1 == (List.getD ts212 (Int.toNat n213) ((0 : Int), ((0 : Int), (false, ((0 : Int), ()))))).2.2.1) && (((List.getD ts211 (Int.toNat n213) ((0 : Int), ((0 : Int), (false, ((0 : Int), ()))))).2.2.2.1 == (List.getD ts212 (Int.toNat n213) ((0 : Int), ((0 : Int), (false, ((0 : Int), ()))))).2.2.2.1) && true))))) (k1 false) (ref13_SameRowsv1_L0 ts211 ts212 (IntKind.wrap .i64 (n213 + (1 : Int))) k1 k2)) none) none) (k2))
noncomputable def ref13_SameRowsv1_L0 : Nat → (List (Int × Int × Bool × Int × Unit)) → (List (Int × Int × Bool × Int × Unit)) → Int → (Bool → Option Bool) → (Option Bool) → Option Bool
  | 0 => fun _ _ _ _ _ => none
  | n + 1 => ref13_SameRowsv1_L0.body (ref13_SameRowsv1_L0 n)
noncomputable def ref13_SameRowsv1_L0.get (F : (List (Int × Int × Bool × Int × Unit)) → (List (Int × Int × Bool × Int × Unit)) → Int → (Bool → Option Bool) → (Option Bool) → Option Bool) (e : Option Bool) (st : St) (k : KE) : Option Bool := match st with
  | ⟨sl, hp, m⟩ => match Nat.beq m 2, pickS 26 [0, 1, 5] sl, hp with
    | true, some [(.bv 1 33 (.st [(.int .i64), (.int .i64), .bool, (.int .i64)]) ts211), (.bv 2 33 (.st [(.int .i64), (.int .i64), .bool, (.int .i64)]) ts212), (.d ⟨(.int .i64), n213⟩)], [] => F ts211 ts212 n213 (fun y0 => k .ret ⟨fillS 26 [4] [(.d ⟨.bool, y0⟩)], [], 2⟩) (k (.exit 0) ⟨fillS 26 [] [], [], 2⟩)
    | _, _, _ => e
noncomputable def ref13_SameRowsv1_L0.calls : RecF := fun g a h k => none
noncomputable def ref13_SameRowsv1_L0.loops : LoopF := fun b => none
set_option maxRecDepth 100000 in
theorem ref13_SameRowsv1_L0.step (S : (List (Int × Int × Bool × Int × Unit)) → (List (Int × Int × Bool × Int × Unit)) → Int → (Bool → Option Bool) → (Option Bool) → Option Bool) (ts211 : List (Int × Int × Bool × Int × Unit)) (ts212 : List (Int × Int × Bool × Int × Unit)) (n213 : Int) (k : KE) : execL Try.prog ht 11 (callfOf (ref13_SameRowsv1_L0.calls)) (ref13_SameRowsv1_L0.loops) 0 (loopAt 0 (codeOf Try.f11)) ⟨fillS 26 [0, 1, 5] [(.bv 1 33 (.st [(.int .i64), (.int .i64), .bool, (.int .i64)]) ts211), (.bv 2 33 (.st [(.int .i64), (.int .i64), .bool, (.int .i64)]) ts212), (.d ⟨(.int .i64), n213⟩)], [], 2⟩ (again (ref13_SameRowsv1_L0.get S none) (plan Try.prog (ht 11 0)) k) = ref13_SameRowsv1_L0.body S ts211 ts212 n213 (fun y0 => k .ret ⟨fillS 26 [4] [(.d ⟨.bool, y0⟩)], [], 2⟩) (k (.exit 0) ⟨fillS 26 [] [], [], 2⟩) := by kernel_rfl
theorem ref13_SameRowsv1_L0.ok (d : Nat) (hd : 0 ≤ d) : ∀ n st k, ref13_SameRowsv1_L0.get (ref13_SameRowsv1_L0 n) none st k = some true → iter n (plan Try.prog (ht 11 0)) (fun st k => execK Try.prog ht 11 (callfOf (callK Try.prog ht d)) 0 (loopAt 0 (codeOf Try.f11)) st k) st k = some true :=
  loop_ok (lfn := fun n st k => ref13_SameRowsv1_L0.get (ref13_SameRowsv1_L0 n) none st k) (rec := ref13_SameRowsv1_L0.calls) (fun g a h k hx => by
    cases hx) (loopf := ref13_SameRowsv1_L0.loops) (by
    have e : loopsOf (ref13_SameRowsv1_L0.loops) 0 (loopAt 0 (codeOf Try.f11)) = [] := by kernel_rfl
    rw [e]
    intro p hp
    cases hp) (fun st k h => by
    obtain ⟨sl, hp, m⟩ := st
    unfold ref13_SameRowsv1_L0.get at h
    dsimp only at h
    split at h
    · have h' : (none : Option Bool) = some true := h
      cases h'
    · cases h) (fun n st k h => by
    obtain ⟨sl, hp, m⟩ := st
    unfold ref13_SameRowsv1_L0.get at h
    dsimp only at h
    split at h
    · rename_i h1 h2
      obtain rfl := pickS_ok h2
      obtain rfl := Nat.eq_of_beq_eq_true h1
      exact (ref13_SameRowsv1_L0.step (ref13_SameRowsv1_L0 n) _ _ _ k).trans h
    · cases h)
theorem ref13_SameRowsv1_L0.look {F : (List (Int × Int × Bool × Int × Unit)) → (List (Int × Int × Bool × Int × Unit)) → Int → (Bool → Option Bool) → (Option Bool) → Option Bool} {e : Option Bool} {st : St} {k : KE} (hx : ref13_SameRowsv1_L0.get F e st k = some true) : e = some true ∨ ref13_SameRowsv1_L0.get F none st k = some true := by
  obtain ⟨sl, hp, m⟩ := st
  unfold ref13_SameRowsv1_L0.get at hx ⊢
  dsimp only at hx ⊢
  split at hx
  · exact .inr hx
  · exact .inl hx
/-- function 11: sheerleg/sheerlegref13.SameRows -/
noncomputable def ref13_SameRowsv1.body (ref13_SameRowsv1_L0 : (List (Int × Int × Bool × Int × Unit)) → (List (Int × Int × Bool × Int × Unit)) → Int → (Bool → Option Bool) → (Option Bool) → Option Bool) (ts209 : List (Int × Int × Bool × Int × Unit)) (ts210 : List (Int × Int × Bool × Int × Unit)) (k1 : Bool → Option Bool) : Option Bool :=
  (cond_ ((((List.length ts209) : Nat) : Int) != (((List.length ts210) : Nat) : Int)) (k1 false) (ref13_SameRowsv1_L0 ts209 ts210 (0 : Int)
  (fun b214 => (k1 b214))
  (k1 true)))
noncomputable def ref13_SameRowsv1 (ts209 : List (Int × Int × Bool × Int × Unit)) (ts210 : List (Int × Int × Bool × Int × Unit)) (k1 : Bool → Option Bool) : Option Bool := ref13_SameRowsv1.body (ref13_SameRowsv1_L0 ROUNDS) ts209 ts210 k1
noncomputable def ref13_SameRowsv1.get (F : (List (Int × Int × Bool × Int × Unit)) → (List (Int × Int × Bool × Int × Unit)) → (Bool → Option Bool) → Option Bool) (e : Option Bool) (g : FuncId) (a : List AV) (h : Heap) (k : KR) : Option Bool := match g, a, h with
  | 11, [(.bv 1 33 (.st [(.int .i64), (.int .i64), .bool, (.int .i64)]) ts209), (.bv 2 33 (.st [(.int .i64), (.int .i64), .bool, (.int .i64)]) ts210)], [] => F ts209 ts210 (fun y0 => k (.d ⟨.bool, y0⟩) [])
  | _, _, _ => e
noncomputable def ref13_SameRowsv1.calls : RecF := fun g a h k => none
noncomputable def ref13_SameRowsv1.loops (L0 : (List (Int × Int × Bool × Int × Unit)) → (List (Int × Int × Bool × Int × Unit)) → Int → (Bool → Option Bool) → (Option Bool) → Option Bool) : LoopF := fun b => match Nat.beq b 0 with | true => some (fun st k => (ref13_SameRowsv1_L0.get L0 none st k)) | false => none
set_option maxRecDepth 100000 in
theorem ref13_SameRowsv1.eq (L0 : (List (Int × Int × Bool × Int × Unit)) → (List (Int × Int × Bool × Int × Unit)) → Int → (Bool → Option Bool) → (Option Bool) → Option Bool) (ts209 : List (Int × Int × Bool × Int × Unit)) (ts210 : List (Int × Int × Bool × Int × Unit)) (k : KR) : execL Try.prog ht 11 (callfOf (ref13_SameRowsv1.calls)) (ref13_SameRowsv1.loops L0) 0 (codeOf Try.f11) ⟨[(.bv 1 33 (.st [(.int .i64), (.int .i64), .bool, (.int .i64)]) ts209), (.bv 2 33 (.st [(.int .i64), (.int .i64), .bool, (.int .i64)]) ts210)] ++ List.replicate (Try.f11.ntmps - ([(.bv 1 33 (.st [(.int .i64), (.int .i64), .bool, (.int .i64)]) ts209), (.bv 2 33 (.st [(.int .i64), (.int .i64), .bool, (.int .i64)]) ts210)] : List AV).length) .undef, [], 2⟩ (leave Try.prog Try.f11 k) = ref13_SameRowsv1.body L0 ts209 ts210 (fun y0 => k (.d ⟨.bool, y0⟩) []) := by kernel_rfl
theorem ref13_SameRowsv1.ok (d : Nat) (hd : 1 ≤ d) (ts209 : List (Int × Int × Bool × Int × Unit)) (ts210 : List (Int × Int × Bool × Int × Unit)) (k : KR) (hx : ref13_SameRowsv1 ts209 ts210 (fun y0 => k (.d ⟨.bool, y0⟩) []) = some true) : callK Try.prog ht d 11 [(.bv 1 33 (.st [(.int .i64), (.int .i64), .bool, (.int .i64)]) ts209), (.bv 2 33 (.st [(.int .i64), (.int .i64), .bool, (.int .i64)]) ts210)] [] k = some true := by
  obtain ⟨d, rfl⟩ : ∃ e, d = e + 1 := ⟨d - 1, by omega⟩
  exact fn_ok (c := codeOf Try.f11) Try.func11 (by kernel_rfl) (rec := ref13_SameRowsv1.calls) (fun g a h k hx => by
    cases hx) (loopf := ref13_SameRowsv1.loops (ref13_SameRowsv1_L0 ROUNDS)) (by
    have e : loopsOf (ref13_SameRowsv1.loops (ref13_SameRowsv1_L0 ROUNDS)) 0 (codeOf Try.f11) = [(0, loopAt 0 (codeOf Try.f11))] := by kernel_rfl
    rw [e]
    intro p hp
    simp only [List.mem_cons, List.not_mem_nil, or_false] at hp
    rcases hp with rfl
    · refine loopRef_of (callf := callfOf (callK Try.prog ht d)) (callfOf_ref (callK_mono d)) fun lf st k hb hx => ?_
      cases hb
      rcases ref13_SameRowsv1_L0.look hx with hx | hx
      rotate_left
      · exact ref13_SameRowsv1_L0.ok d (by omega) _ _ _ hx
      cases hx) ((ref13_SameRowsv1.eq (ref13_SameRowsv1_L0 ROUNDS) ts209 ts210 k).trans hx)
theorem ref13_SameRowsv1.look (d : Nat) (hd : 1 ≤ d) {e : Option Bool} {g : FuncId} {a : List AV} {h : Heap} {k : KR} (hx : ref13_SameRowsv1.get ref13_SameRowsv1 e g a h k = some true) : e = some true ∨ callK Try.prog ht d g a h k = some true := by
  unfold ref13_SameRowsv1.get at hx
  split at hx
  · exact .inr (ref13_SameRowsv1.ok d hd _ _ _ hx)
  · exact .inl hx
/-- function 4: sheerleg/sheerleglaw13.RunsTold -/
noncomputable def law13_RunsTold.body (law13_known : (Bool → Option Bool) → Option Bool) (runs_Atv1 : (List (Int × Int × Int × Bool × Int × Unit)) → Int → ((Int × Int × Bool × Int × Unit) → Bool → Option Bool) → Option Bool) (ref13_At : (List (Int × Int × Int × Bool × Int × Unit)) → Int → ((Int × Int × Bool × Int × Unit) → Bool → Option Bool) → Option Bool) (runs_Checkv1 : (List (Int × Int × Int × Bool × Int × Unit)) → Int → (Int → Option Bool) → Option Bool) (ref13_Check : (List (Int × Int × Int × Bool × Int × Unit)) → Int → (Int → Option Bool) → Option Bool) (runs_Rowsv1 : (List (Int × Int × Int × Bool × Int × Unit)) → Int → ((List (Int × Int × Bool × Int × Unit)) → Option Bool) → Option Bool) (ref13_Rows : (List (Int × Int × Int × Bool × Int × Unit)) → Int → ((List (Int × Int × Bool × Int × Unit)) → Option Bool) → Option Bool) (ref13_SameRowsv1 : (List (Int × Int × Bool × Int × Unit)) → (List (Int × Int × Bool × Int × Unit)) → (Bool → Option Bool) → Option Bool) (ts163 : List (Int × Int × Int × Bool × Int × Unit)) (n164 : Int) (n165 : Int) (k1 : Bool → Option Bool) : Option Bool :=
  (cond_ (! (decide ((((List.length ts163) : Nat) : Int) > (300 : Int)))) (cond_ (decide (n165 > (5000 : Int))) (law13_known
  (fun b166 => (k1 b166))) (runs_Atv1 ts163 n164
  (fun t182 b183 => (ref13_At ts163 n164
  (fun t184 b185 => (cond_ ((t182.1 == t184.1) && ((t182.2.1 == t184.2.1) && ((t182.2.2.1 == t184.2.2.1) && ((t182.2.2.2.1 == t184.2.2.2.1) && true)))) (cond_ (b183 == b185) (runs_Checkv1 ts163 n165
  (fun n186 => (ref13_Check ts163 n165
  (fun n197 => (cond_ (n186 == n197) (runs_Rowsv1 ts163 n165
  (fun ts207 => (ref13_Rows ts163 n165
  (fun ts208 => (ref13_SameRowsv1 ts207 ts208
  (fun b215 => (cond_ b215 (law13_known
  (fun b216 => (k1 b216))) (k1 false)))))))) (k1 false)))))) (k1 false)) (k1 false))))))) (law13_known
  (fun b217 => (k1 b217))))
noncomputable def law13_RunsTold (ts163 : List (Int × Int × Int × Bool × Int × Unit)) (n164 : Int) (n165 : Int) (k1 : Bool → Option Bool) : Option Bool := law13_RunsTold.body law13_known runs_Atv1 ref13_At runs_Checkv1 ref13_Check runs_Rowsv1 ref13_Rows ref13_SameRowsv1 ts163 n164 n165 k1
noncomputable def law13_RunsTold.get (F : (List (Int × Int × Int × Bool × Int × Unit)) → Int → Int → (Bool → Option Bool) → Option Bool) (e : Option Bool) (g : FuncId) (a : List AV) (h : Heap) (k : KR) : Option Bool := match g, a, h with
  | 4, [(.bv 0 50 (.st [(.int .i64), (.int .i64), (.int .i64), .bool, (.int .i64)]) ts163), (.d ⟨(.int .i64), n164⟩), (.d ⟨(.int .i64), n165⟩)], [] => F ts163 n164 n165 (fun y0 => k (.d ⟨.bool, y0⟩) [])
  | _, _, _ => e
noncomputable def law13_RunsTold.calls (F0 : (Bool → Option Bool) → Option Bool) (F1 : (List (Int × Int × Int × Bool × Int × Unit)) → Int → ((Int × Int × Bool × Int × Unit) → Bool → Option Bool) → Option Bool) (F2 : (List (Int × Int × Int × Bool × Int × Unit)) → Int → ((Int × Int × Bool × Int × Unit) → Bool → Option Bool) → Option Bool) (F3 : (List (Int × Int × Int × Bool × Int × Unit)) → Int → (Int → Option Bool) → Option Bool) (F4 : (List (Int × Int × Int × Bool × Int × Unit)) → Int → (Int → Option Bool) → Option Bool) (F5 : (List (Int × Int × Int × Bool × Int × Unit)) → Int → ((List (Int × Int × Bool × Int × Unit)) → Option Bool) → Option Bool) (F6 : (List (Int × Int × Int × Bool × Int × Unit)) → Int → ((List (Int × Int × Bool × Int × Unit)) → Option Bool) → Option Bool) (F7 : (List (Int × Int × Bool × Int × Unit)) → (List (Int × Int × Bool × Int × Unit)) → (Bool → Option Bool) → Option Bool) : RecF := fun g a h k => (law13_known.get F0 (runs_Atv1.get F1 (ref13_At.get F2 (runs_Checkv1.get F3 (ref13_Check.get F4 (runs_Rowsv1.get F5 (ref13_Rows.get F6 (ref13_SameRowsv1.get F7 none g a h k) g a h k) g a h k) g a h k) g a h k) g a h k) g a h k) g a h k)
noncomputable def law13_RunsTold.loops : LoopF := fun b => none
set_option maxRecDepth 100000 in
theorem law13_RunsTold.eq (F0 : (Bool → Option Bool) → Option Bool) (F1 : (List (Int × Int × Int × Bool × Int × Unit)) → Int → ((Int × Int × Bool × Int × Unit) → Bool → Option Bool) → Option Bool) (F2 : (List (Int × Int × Int × Bool × Int × Unit)) → Int → ((Int × Int × Bool × Int × Unit) → Bool → Option Bool) → Option Bool) (F3 : (List (Int × Int × Int × Bool × Int × Unit)) → Int → (Int → Option Bool) → Option Bool) (F4 : (List (Int × Int × Int × Bool × Int × Unit)) → Int → (Int → Option Bool) → Option Bool) (F5 : (List (Int × Int × Int × Bool × Int × Unit)) → Int → ((List (Int × Int × Bool × Int × Unit)) → Option Bool) → Option Bool) (F6 : (List (Int × Int × Int × Bool × Int × Unit)) → Int → ((List (Int × Int × Bool × Int × Unit)) → Option Bool) → Option Bool) (F7 : (List (Int × Int × Bool × Int × Unit)) → (List (Int × Int × Bool × Int × Unit)) → (Bool → Option Bool) → Option Bool) (ts163 : List (Int × Int × Int × Bool × Int × Unit)) (n164 : Int) (n165 : Int) (k : KR) : execL Try.prog ht 4 (callfOf (law13_RunsTold.calls F0 F1 F2 F3 F4 F5 F6 F7)) (law13_RunsTold.loops) 0 (codeOf Try.f4) ⟨[(.bv 0 50 (.st [(.int .i64), (.int .i64), (.int .i64), .bool, (.int .i64)]) ts163), (.d ⟨(.int .i64), n164⟩), (.d ⟨(.int .i64), n165⟩)] ++ List.replicate (Try.f4.ntmps - ([(.bv 0 50 (.st [(.int .i64), (.int .i64), (.int .i64), .bool, (.int .i64)]) ts163), (.d ⟨(.int .i64), n164⟩), (.d ⟨(.int .i64), n165⟩)] : List AV).length) .undef, [], 2⟩ (leave Try.prog Try.f4 k) = law13_RunsTold.body F0 F1 F2 F3 F4 F5 F6 F7 ts163 n164 n165 (fun y0 => k (.d ⟨.bool, y0⟩) []) := by kernel_rfl
theorem law13_RunsTold.ok (d : Nat) (hd : 61 ≤ d) (ts163 : List (Int × Int × Int × Bool × Int × Unit)) (n164 : Int) (n165 : Int) (k : KR) (hx : law13_RunsTold ts163 n164 n165 (fun y0 => k (.d ⟨.bool, y0⟩) []) = some true) : callK Try.prog ht d 4 [(.bv 0 50 (.st [(.int .i64), (.int .i64), (.int .i64), .bool, (.int .i64)]) ts163), (.d ⟨(.int .i64), n164⟩), (.d ⟨(.int .i64), n165⟩)] [] k = some true := by
  obtain ⟨d, rfl⟩ : ∃ e, d = e + 1 := ⟨d - 1, by omega⟩
  exact fn_ok (c := codeOf Try.f4) Try.func4 (by kernel_rfl) (rec := law13_RunsTold.calls law13_known runs_Atv1 ref13_At runs_Checkv1 ref13_Check runs_Rowsv1 ref13_Rows ref13_SameRowsv1) (fun g a h k hx => by
    rcases law13_known.look d (by omega) hx with hx | hx
    rotate_left
    · exact hx
    rcases runs_Atv1.look d (by omega) hx with hx | hx
    rotate_left
    · exact hx
    rcases ref13_At.look d (by omega) hx with hx | hx
    rotate_left
    · exact hx
    rcases runs_Checkv1.look d (by omega) hx with hx | hx
    rotate_left
    · exact hx
    rcases ref13_Check.look d (by omega) hx with hx | hx
    rotate_left
    · exact hx
    rcases runs_Rowsv1.look d (by omega) hx with hx | hx
    rotate_left
    · exact hx
    rcases ref13_Rows.look d (by omega) hx with hx | hx
    rotate_left
    · exact hx
    rcases ref13_SameRowsv1.look d (by omega) hx with hx | hx
    rotate_left
    · exact hx
    cases hx) (loopf := law13_RunsTold.loops) (by
    have e : loopsOf (law13_RunsTold.loops) 0 (codeOf Try.f4) = [] := by kernel_rfl
    rw [e]
    intro p hp
    cases hp) ((law13_RunsTold.eq law13_known runs_Atv1 ref13_At runs_Checkv1 ref13_Check runs_Rowsv1 ref13_Rows ref13_SameRowsv1 ts163 n164 n165 k).trans hx)
theorem law13_RunsTold.look (d : Nat) (hd : 61 ≤ d) {e : Option Bool} {g : FuncId} {a : List AV} {h : Heap} {k : KR} (hx : law13_RunsTold.get law13_RunsTold e g a h k = some true) : e = some true ∨ callK Try.prog ht d g a h k = some true := by
  unfold law13_RunsTold.get at hx
  split at hx
  · exact .inr (law13_RunsTold.ok d hd _ _ _ _ hx)
  · exact .inl hx
/-- function 25: sheerleg/octet.Put -/
noncomputable def octet_Put.body (ns278 : List Int) (n279 : Int) (n280 : Int) (k1 : (List Int) → Option Bool) : Option Bool :=
  (cond_ (Nat.ble (((0 : Nat) + (List.length ns278)) * (1 : Nat)) (140737488355328 : Nat)) (cond_ (! (decide (n280 < (1 : Int)))) (cond_ (decide (n280 > (8 : Int))) (k1 ([] ++ ns278)) (cond_ (((decide ((0 : Int) ≤ (IntKind.wrap .i64 ((8 : Int) - n280)))) && (decide ((IntKind.wrap .i64 ((8 : Int) - n280)) ≤ (8 : Int)))) && true) (cond_ (Nat.ble (((List.length ([] ++ ns278)) + (List.length (List.take (Int.toNat ((8 : Int) - (IntKind.wrap .i64 ((8 : Int) - n280)))) (List.drop (Int.toNat (IntKind.wrap .i64 ((8 : Int) - n280))) ((IntKind.wrap .u8 (Int.fdiv n279 (72057594037927936 : Int))) :: ((IntKind.wrap .u8 (Int.fdiv n279 (281474976710656 : Int))) :: ((IntKind.wrap .u8 (Int.fdiv n279 (1099511627776 : Int))) :: ((IntKind.wrap .u8 (Int.fdiv n279 (4294967296 : Int))) :: ((IntKind.wrap .u8 (Int.fdiv n279 (16777216 : Int))) :: ((IntKind.wrap .u8 (Int.fdiv n279 (65536 : Int))) :: ((IntKind.wrap .u8 (Int.fdiv n279 (256 : Int))) :: ((IntKind.wrap .u8 (Int.fdiv n279 (1 : Int))) :: [])))))))))))) * (1 : Nat)) (140737488355328 : Nat)) (k1 (([] ++ ns278) ++ (List.take (Int.toNat ((8 : Int) - (IntKind.wrap .i64 ((8 : Int) - n280)))) (List.drop (Int.toNat (IntKind.wrap .i64 ((8 : Int) - n280))) ((IntKind.wrap .u8 (Int.fdiv n279 (72057594037927936 : Int))) :: ((IntKind.wrap .u8 (Int.fdiv n279 (281474976710656 : Int))) :: ((IntKind.wrap .u8 (Int.fdiv n279 (1099511627776 : Int))) :: ((IntKind.wrap .u8 (Int.fdiv n279 (4294967296 : Int))) :: ((IntKind.wrap .u8 (Int.fdiv n279 (16777216 : Int))) :: ((IntKind.wrap .u8 (Int.fdiv n279 (65536 : Int))) :: ((IntKind.wrap .u8 (Int.fdiv n279 (256 : Int))) :: ((IntKind.wrap .u8 (Int.fdiv n279 (1 : Int))) :: [])))))))))))) none) none)) (k1 ([] ++ ns278))) none)
noncomputable def octet_Put (ns278 : List Int) (n279 : Int) (n280 : Int) (k1 : (List Int) → Option Bool) : Option Bool := octet_Put.body ns278 n279 n280 k1
noncomputable def octet_Put.get (F : (List Int) → Int → Int → ((List Int) → Option Bool) → Option Bool) (e : Option Bool) (g : FuncId) (a : List AV) (h : Heap) (k : KR) : Option Bool := match g, a, h with
  | 25, [(.bv 0 5 (.int .u8) ns278), (.d ⟨(.int .i64), n279⟩), (.d ⟨(.int .i64), n280⟩)], [] => F ns278 n279 n280 (fun y0 => k (.ref [1, 0]) [([1, 0], ⟨5, 1, (.data (.int .u8) y0)⟩)])
  | _, _, _ => e
noncomputable def octet_Put.calls : RecF := fun g a h k => none
noncomputable def octet_Put.loops : LoopF := fun b => match Nat.beq b 0 with | true => none | false => none
set_option maxRecDepth 100000 in
theorem octet_Put.eq (ns278 : List Int) (n279 : Int) (n280 : Int) (k : KR) : execL Try.prog ht 25 (callfOf (octet_Put.calls)) (octet_Put.loops) 0 (codeOf Try.f25) ⟨[(.bv 0 5 (.int .u8) ns278), (.d ⟨(.int .i64), n279⟩), (.d ⟨(.int .i64), n280⟩)] ++ List.replicate (Try.f25.ntmps - ([(.bv 0 5 (.int .u8) ns278), (.d ⟨(.int .i64), n279⟩), (.d ⟨(.int .i64), n280⟩)] : List AV).length) .undef, [], 2⟩ (leave Try.prog Try.f25 k) = octet_Put.body ns278 n279 n280 (fun y0 => k (.ref [1, 0]) [([1, 0], ⟨5, 1, (.data (.int .u8) y0)⟩)]) := by kernel_rfl
theorem octet_Put.ok (d : Nat) (hd : 1 ≤ d) (ns278 : List Int) (n279 : Int) (n280 : Int) (k : KR) (hx : octet_Put ns278 n279 n280 (fun y0 => k (.ref [1, 0]) [([1, 0], ⟨5, 1, (.data (.int .u8) y0)⟩)]) = some true) : callK Try.prog ht d 25 [(.bv 0 5 (.int .u8) ns278), (.d ⟨(.int .i64), n279⟩), (.d ⟨(.int .i64), n280⟩)] [] k = some true := by
  obtain ⟨d, rfl⟩ : ∃ e, d = e + 1 := ⟨d - 1, by omega⟩
  exact fn_ok (c := codeOf Try.f25) Try.func25 (by kernel_rfl) (rec := octet_Put.calls) (fun g a h k hx => by
    cases hx) (loopf := octet_Put.loops) (by
    have e : loopsOf (octet_Put.loops) 0 (codeOf Try.f25) = [] := by kernel_rfl
    rw [e]
    intro p hp
    cases hp) ((octet_Put.eq ns278 n279 n280 k).trans hx)
theorem octet_Put.look (d : Nat) (hd : 1 ≤ d) {e : Option Bool} {g : FuncId} {a : List AV} {h : Heap} {k : KR} (hx : octet_Put.get octet_Put e g a h k = some true) : e = some true ∨ callK Try.prog ht d g a h k = some true := by
  unfold octet_Put.get at hx
  split at hx
  · exact .inr (octet_Put.ok d hd _ _ _ _ hx)
  · exact .inl hx
/-- function 25: sheerleg/octet.Put -/
noncomputable def octet_Putv1.body (ns293 : List Int) (n294 : Int) (n295 : Int) (k1 : (List Int) → Option Bool) : Option Bool :=
  (cond_ (Nat.ble (((0 : Nat) + (List.length ns293)) * (1 : Nat)) (140737488355328 : Nat)) (cond_ (! (decide (n295 < (1 : Int)))) (cond_ (decide (n295 > (8 : Int))) (k1 ([] ++ ns293)) (cond_ (((decide ((0 : Int) ≤ (IntKind.wrap .i64 ((8 : Int) - n295)))) && (decide ((IntKind.wrap .i64 ((8 : Int) - n295)) ≤ (8 : Int)))) && true) (cond_ (Nat.ble (((List.length ([] ++ ns293)) + (List.length (List.take (Int.toNat ((8 : Int) - (IntKind.wrap .i64 ((8 : Int) - n295)))) (List.drop (Int.toNat (IntKind.wrap .i64 ((8 : Int) - n295))) ((IntKind.wrap .u8 (Int.fdiv n294 (72057594037927936 : Int))) :: ((IntKind.wrap .u8 (Int.fdiv n294 (281474976710656 : Int))) :: ((IntKind.wrap .u8 (Int.fdiv n294 (1099511627776 : Int))) :: ((IntKind.wrap .u8 (Int.fdiv n294 (4294967296 : Int))) :: ((IntKind.wrap .u8 (Int.fdiv n294 (16777216 : Int))) :: ((IntKind.wrap .u8 (Int.fdiv n294 (65536 : Int))) :: ((IntKind.wrap .u8 (Int.fdiv n294 (256 : Int))) :: ((IntKind.wrap .u8 (Int.fdiv n294 (1 : Int))) :: [])))))))))))) * (1 : Nat)) (140737488355328 : Nat)) (k1 (([] ++ ns293) ++ (List.take (Int.toNat ((8 : Int) - (IntKind.wrap .i64 ((8 : Int) - n295)))) (List.drop (Int.toNat (IntKind.wrap .i64 ((8 : Int) - n295))) ((IntKind.wrap .u8 (Int.fdiv n294 (72057594037927936 : Int))) :: ((IntKind.wrap .u8 (Int.fdiv n294 (281474976710656 : Int))) :: ((IntKind.wrap .u8 (Int.fdiv n294 (1099511627776 : Int))) :: ((IntKind.wrap .u8 (Int.fdiv n294 (4294967296 : Int))) :: ((IntKind.wrap .u8 (Int.fdiv n294 (16777216 : Int))) :: ((IntKind.wrap .u8 (Int.fdiv n294 (65536 : Int))) :: ((IntKind.wrap .u8 (Int.fdiv n294 (256 : Int))) :: ((IntKind.wrap .u8 (Int.fdiv n294 (1 : Int))) :: [])))))))))))) none) none)) (k1 ([] ++ ns293))) none)
noncomputable def octet_Putv1 (ns293 : List Int) (n294 : Int) (n295 : Int) (k1 : (List Int) → Option Bool) : Option Bool := octet_Putv1.body ns293 n294 n295 k1
noncomputable def octet_Putv1.get (F : (List Int) → Int → Int → ((List Int) → Option Bool) → Option Bool) (e : Option Bool) (g : FuncId) (a : List AV) (h : Heap) (k : KR) : Option Bool := match g, a, h with
  | 25, [(.bv 1 5 (.int .u8) ns293), (.d ⟨(.int .i64), n294⟩), (.d ⟨(.int .i64), n295⟩)], [] => F ns293 n294 n295 (fun y0 => k (.ref [1, 0]) [([1, 0], ⟨5, 1, (.data (.int .u8) y0)⟩)])
  | _, _, _ => e
noncomputable def octet_Putv1.calls : RecF := fun g a h k => none
noncomputable def octet_Putv1.loops : LoopF := fun b => match Nat.beq b 0 with | true => none | false => none
set_option maxRecDepth 100000 in
theorem octet_Putv1.eq (ns293 : List Int) (n294 : Int) (n295 : Int) (k : KR) : execL Try.prog ht 25 (callfOf (octet_Putv1.calls)) (octet_Putv1.loops) 0 (codeOf Try.f25) ⟨[(.bv 1 5 (.int .u8) ns293), (.d ⟨(.int .i64), n294⟩), (.d ⟨(.int .i64), n295⟩)] ++ List.replicate (Try.f25.ntmps - ([(.bv 1 5 (.int .u8) ns293), (.d ⟨(.int .i64), n294⟩), (.d ⟨(.int .i64), n295⟩)] : List AV).length) .undef, [], 2⟩ (leave Try.prog Try.f25 k) = octet_Putv1.body ns293 n294 n295 (fun y0 => k (.ref [1, 0]) [([1, 0], ⟨5, 1, (.data (.int .u8) y0)⟩)]) := by kernel_rfl
theorem octet_Putv1.ok (d : Nat) (hd : 1 ≤ d) (ns293 : List Int) (n294 : Int) (n295 : Int) (k : KR) (hx : octet_Putv1 ns293 n294 n295 (fun y0 => k (.ref [1, 0]) [([1, 0], ⟨5, 1, (.data (.int .u8) y0)⟩)]) = some true) : callK Try.prog ht d 25 [(.bv 1 5 (.int .u8) ns293), (.d ⟨(.int .i64), n294⟩), (.d ⟨(.int .i64), n295⟩)] [] k = some true := by
  obtain ⟨d, rfl⟩ : ∃ e, d = e + 1 := ⟨d - 1, by omega⟩
  exact fn_ok (c := codeOf Try.f25) Try.func25 (by kernel_rfl) (rec := octet_Putv1.calls) (fun g a h k hx => by
    cases hx) (loopf := octet_Putv1.loops) (by
    have e : loopsOf (octet_Putv1.loops) 0 (codeOf Try.f25) = [] := by kernel_rfl
    rw [e]
    intro p hp
    cases hp) ((octet_Putv1.eq ns293 n294 n295 k).trans hx)
theorem octet_Putv1.look (d : Nat) (hd : 1 ≤ d) {e : Option Bool} {g : FuncId} {a : List AV} {h : Heap} {k : KR} (hx : octet_Putv1.get octet_Putv1 e g a h k = some true) : e = some true ∨ callK Try.prog ht d g a h k = some true := by
  unfold octet_Putv1.get at hx
  split at hx
  · exact .inr (octet_Putv1.ok d hd _ _ _ _ hx)
  · exact .inl hx
/-- function 17: the loop in block 2 -/
noncomputable def runs_Put_L0_L2.body (runs_Put_L0_L2 : (List (Int × Int × Int × Bool × Int × Unit)) → Int → Int → (Int × Int × Int × Int × Unit) → Int → (List Int) → (Int × Int × Int × Bool × Int × Unit) → ((List (Int × Int × Int × Bool × Int × Unit)) → Int → Int → (List Int) → (Int × Int × Int × Bool × Int × Unit) → Option Bool) → Option Bool) (octet_Putv1 : (List Int) → Int → Int → ((List Int) → Option Bool) → Option Bool) (ts286 : List (Int × Int × Int × Bool × Int × Unit)) (n287 : Int) (n288 : Int) (t289 : Int × Int × Int × Int × Unit) (n290 : Int) (ns291 : List Int) (t292 : Int × Int × Int × Bool × Int × Unit) (k1 : (List (Int × Int × Int × Bool × Int × Unit)) → Int → Int → (List Int) → (Int × Int × Int × Bool × Int × Unit) → Option Bool) : Option Bool :=
  (cond_ (decide (n290 < (4 : Int))) (cond_ ((decide ((0 : Int) ≤ n290)) && (decide (n290 < (4 : Int)))) (octet_Putv1 ns291 (List.getD (t289.1 :: (t289.2.1 :: (t289.2.2.1 :: (t289.2.2.2.1 :: [])))) (Int.toNat n290) (0 : Int)) (2 : Int)
  (fun ns296 => (runs_Put_L0_L2 ts286 n287 n288 t289 (IntKind.wrap .i64 (n290 + (1 : Int))) ns296 t292 k1))) none) (k1 ts286 n287 n288 ns291 t292))
noncomputable def runs_Put_L0_L2 : Nat → (List (Int × Int × Int × Bool × Int × Unit)) → Int → Int → (Int × Int × Int × Int × Unit) → Int → (List Int) → (Int × Int × Int × Bool × Int × Unit) → ((List (Int × Int × Int × Bool × Int × Unit)) → Int → Int → (List Int) → (Int × Int × Int × Bool × Int × Unit) → Option Bool) → Option Bool
  | 0 => fun _ _ _ _ _ _ _ _ => none
  | n + 1 => runs_Put_L0_L2.body (runs_Put_L0_L2 n) octet_Putv1
noncomputable def runs_Put_L0_L2.get (F : (List (Int × Int × Int × Bool × Int × Unit)) → Int → Int → (Int × Int × Int × Int × Unit) → Int → (List Int) → (Int × Int × Int × Bool × Int × Unit) → ((List (Int × Int × Int × Bool × Int × Unit)) → Int → Int → (List Int) → (Int × Int × Int × Bool × Int × Unit) → Option Bool) → Option Bool) (e : Option Bool) (st : St) (k : KE) : Option Bool := match st with
  | ⟨sl, hp, m⟩ => match Nat.beq m 2, pickS 46 [0, 6, 13, 14, 15, 30, 31] sl, hp with
    | true, some [(.ref [1, 0]), (.ptr [1, 1] 0 0), (.bv 0 50 (.st [(.int .i64), (.int .i64), (.int .i64), .bool, (.int .i64)]) ts286), (.d ⟨(.int .i64), n287⟩), (.d ⟨(.int .i64), n288⟩), (.d ⟨(.st [(.int .i64), (.int .i64), (.int .i64), (.int .i64)]), t289⟩), (.d ⟨(.int .i64), n290⟩)], [([1, 0], ⟨5, 1, (.data (.int .u8) ns291)⟩), ([1, 1], ⟨50, 5, (.data (.st [(.int .i64), (.int .i64), (.int .i64), .bool, (.int .i64)]) [t292])⟩)] => F ts286 n287 n288 t289 n290 ns291 t292 (fun y0 y1 y2 y3 y4 => k (.exit 2) ⟨fillS 46 [0, 6, 13, 14, 15] [(.ref [1, 0]), (.ptr [1, 1] 0 0), (.bv 0 50 (.st [(.int .i64), (.int .i64), (.int .i64), .bool, (.int .i64)]) y0), (.d ⟨(.int .i64), y1⟩), (.d ⟨(.int .i64), y2⟩)], [([1, 0], ⟨5, 1, (.data (.int .u8) y3)⟩), ([1, 1], ⟨50, 5, (.data (.st [(.int .i64), (.int .i64), (.int .i64), .bool, (.int .i64)]) [y4])⟩)], 2⟩)
    | _, _, _ => e
noncomputable def runs_Put_L0_L2.calls (F0 : (List Int) → Int → Int → ((List Int) → Option Bool) → Option Bool) : RecF := fun g a h k => (octet_Putv1.get F0 none g a h k)
noncomputable def runs_Put_L0_L2.loops : LoopF := fun b => none
set_option maxRecDepth 100000 in
theorem runs_Put_L0_L2.step (S : (List (Int × Int × Int × Bool × Int × Unit)) → Int → Int → (Int × Int × Int × Int × Unit) → Int → (List Int) → (Int × Int × Int × Bool × Int × Unit) → ((List (Int × Int × Int × Bool × Int × Unit)) → Int → Int → (List Int) → (Int × Int × Int × Bool × Int × Unit) → Option Bool) → Option Bool) (F0 : (List Int) → Int → Int → ((List Int) → Option Bool) → Option Bool) (ts286 : List (Int × Int × Int × Bool × Int × Unit)) (n287 : Int) (n288 : Int) (t289 : Int × Int × Int × Int × Unit) (n290 : Int) (ns291 : List Int) (t292 : Int × Int × Int × Bool × Int × Unit) (k : KE) : execL Try.prog ht 17 (callfOf (runs_Put_L0_L2.calls F0)) (runs_Put_L0_L2.loops) 2 (loopAt 2 (codeOf Try.f17)) ⟨fillS 46 [0, 6, 13, 14, 15, 30, 31] [(.ref [1, 0]), (.ptr [1, 1] 0 0), (.bv 0 50 (.st [(.int .i64), (.int .i64), (.int .i64), .bool, (.int .i64)]) ts286), (.d ⟨(.int .i64), n287⟩), (.d ⟨(.int .i64), n288⟩), (.d ⟨(.st [(.int .i64), (.int .i64), (.int .i64), (.int .i64)]), t289⟩), (.d ⟨(.int .i64), n290⟩)], [([1, 0], ⟨5, 1, (.data (.int .u8) ns291)⟩), ([1, 1], ⟨50, 5, (.data (.st [(.int .i64), (.int .i64), (.int .i64), .bool, (.int .i64)]) [t292])⟩)], 2⟩ (again (runs_Put_L0_L2.get S none) (plan Try.prog (ht 17 2)) k) = runs_Put_L0_L2.body S F0 ts286 n287 n288 t289 n290 ns291 t292 (fun y0 y1 y2 y3 y4 => k (.exit 2) ⟨fillS 46 [0, 6, 13, 14, 15] [(.ref [1, 0]), (.ptr [1, 1] 0 0), (.bv 0 50 (.st [(.int .i64), (.int .i64), (.int .i64), .bool, (.int .i64)]) y0), (.d ⟨(.int .i64), y1⟩), (.d ⟨(.int .i64), y2⟩)], [([1, 0], ⟨5, 1, (.data (.int .u8) y3)⟩), ([1, 1], ⟨50, 5, (.data (.st [(.int .i64), (.int .i64), (.int .i64), .bool, (.int .i64)]) [y4])⟩)], 2⟩) := by kernel_rfl
theorem runs_Put_L0_L2.ok (d : Nat) (hd : 1 ≤ d) : ∀ n st k, runs_Put_L0_L2.get (runs_Put_L0_L2 n) none st k = some true → iter n (plan Try.prog (ht 17 2)) (fun st k => execK Try.prog ht 17 (callfOf (callK Try.prog ht d)) 2 (loopAt 2 (codeOf Try.f17)) st k) st k = some true :=
  loop_ok (lfn := fun n st k => runs_Put_L0_L2.get (runs_Put_L0_L2 n) none st k) (rec := runs_Put_L0_L2.calls octet_Putv1) (fun g a h k hx => by
    rcases octet_Putv1.look d (by omega) hx with hx | hx
    rotate_left
    · exact hx
    cases hx) (loopf := runs_Put_L0_L2.loops) (by
    have e : loopsOf (runs_Put_L0_L2.loops) 2 (loopAt 2 (codeOf Try.f17)) = [] := by kernel_rfl
    rw [e]
    intro p hp
    cases hp) (fun st k h => by
    obtain ⟨sl, hp, m⟩ := st
    unfold runs_Put_L0_L2.get at h
    dsimp only at h
    split at h
    · have h' : (none : Option Bool) = some true := h
      cases h'
    · cases h) (fun n st k h => by
    obtain ⟨sl, hp, m⟩ := st
    unfold runs_Put_L0_L2.get at h
    dsimp only at h
    split at h
    · rename_i h1 h2
      obtain rfl := pickS_ok h2
      obtain rfl := Nat.eq_of_beq_eq_true h1
      exact (runs_Put_L0_L2.step (runs_Put_L0_L2 n) octet_Putv1 _ _ _ _ _ _ _ k).trans h
    · cases h)
theorem runs_Put_L0_L2.look {F : (List (Int × Int × Int × Bool × Int × Unit)) → Int → Int → (Int × Int × Int × Int × Unit) → Int → (List Int) → (Int × Int × Int × Bool × Int × Unit) → ((List (Int × Int × Int × Bool × Int × Unit)) → Int → Int → (List Int) → (Int × Int × Int × Bool × Int × Unit) → Option Bool) → Option Bool} {e : Option Bool} {st : St} {k : KE} (hx : runs_Put_L0_L2.get F e st k = some true) : e = some true ∨ runs_Put_L0_L2.get F none st k = some true := by
  obtain ⟨sl, hp, m⟩ := st
  unfold runs_Put_L0_L2.get at hx ⊢
  dsimp only at hx ⊢
  split at hx
  · exact .inr hx
  · exact .inl hx
/-- function 26: sheerleg/runs.flag -/
noncomputable def runs_flag.body (b302 : Bool) (k1 : Int → Option Bool) : Option Bool :=
  (cond_ b302 (k1 (1 : Int)) (k1 (0 : Int)))
noncomputable def runs_flag (b302 : Bool) (k1 : Int → Option Bool) : Option Bool := runs_flag.body b302 k1
noncomputable def runs_flag.get (F : Bool → (Int → Option Bool) → Option Bool) (e : Option Bool) (g : FuncId) (a : List AV) (h : Heap) (k : KR) : Option Bool := match g, a, h with
  | 26, [(.d ⟨.bool, b302⟩)], [] => F b302 (fun y0 => k (.d ⟨(.int .i64), y0⟩) [])
  | _, _, _ => e
noncomputable def runs_flag.calls : RecF := fun g a h k => none
noncomputable def runs_flag.loops : LoopF := fun b => none
set_option maxRecDepth 100000 in
theorem runs_flag.eq (b302 : Bool) (k : KR) : execL Try.prog ht 26 (callfOf (runs_flag.calls)) (runs_flag.loops) 0 (codeOf Try.f26) ⟨[(.d ⟨.bool, b302⟩)] ++ List.replicate (Try.f26.ntmps - ([(.d ⟨.bool, b302⟩)] : List AV).length) .undef, [], 2⟩ (leave Try.prog Try.f26 k) = runs_flag.body b302 (fun y0 => k (.d ⟨(.int .i64), y0⟩) []) := by kernel_rfl
theorem runs_flag.ok (d : Nat) (hd : 1 ≤ d) (b302 : Bool) (k : KR) (hx : runs_flag b302 (fun y0 => k (.d ⟨(.int .i64), y0⟩) []) = some true) : callK Try.prog ht d 26 [(.d ⟨.bool, b302⟩)] [] k = some true := by
  obtain ⟨d, rfl⟩ : ∃ e, d = e + 1 := ⟨d - 1, by omega⟩
  exact fn_ok (c := codeOf Try.f26) Try.func26 (by kernel_rfl) (rec := runs_flag.calls) (fun g a h k hx => by
    cases hx) (loopf := runs_flag.loops) (by
    have e : loopsOf (runs_flag.loops) 0 (codeOf Try.f26) = [] := by kernel_rfl
    rw [e]
    intro p hp
    cases hp) ((runs_flag.eq b302 k).trans hx)
theorem runs_flag.look (d : Nat) (hd : 1 ≤ d) {e : Option Bool} {g : FuncId} {a : List AV} {h : Heap} {k : KR} (hx : runs_flag.get runs_flag e g a h k = some true) : e = some true ∨ callK Try.prog ht d g a h k = some true := by
  unfold runs_flag.get at hx
  split at hx
  · exact .inr (runs_flag.ok d hd _ _ hx)
  · exact .inl hx
/-- function 17: the loop in block 0 -/
noncomputable def runs_Put_L0.body (runs_Put_L0 : (List (Int × Int × Int × Bool × Int × Unit)) → Int → Int → (List Int) → ((List Int) → Option Bool) → Option Bool) (runs_flag : Bool → (Int → Option Bool) → Option Bool) (octet_Putv1 : (List Int) → Int → Int → ((List Int) → Option Bool) → Option Bool) (runs_Put_L0_L2 : (List (Int × Int × Int × Bool × Int × Unit)) → Int → Int → (Int × Int × Int × Int × Unit) → Int → (List Int) → (Int × Int × Int × Bool × Int × Unit) → ((List (Int × Int × Int × Bool × Int × Unit)) → Int → Int → (List Int) → (Int × Int × Int × Bool × Int × Unit) → Option Bool) → Option Bool) (ts282 : List (Int × Int × Int × Bool × Int × Unit)) (n283 : Int) (n284 : Int) (ns285 : List Int) (k1 : (List Int) → Option Bool) : Option Bool :=
  (cond_ (decide (n284 < n283)) (cond_ ((decide ((0 : Int) ≤ n284)) && (decide (n284 < (((List.length ts282) : Nat) : Int)))) (runs_Put_L0_L2 ts282 n283 n284 ((List.getD ts282 (Int.toNat n284) ((0 : Int), ((0 : Int), ((0 : Int), (false, ((0 : Int), ())))))).1, ((List.getD ts282 (Int.toNat n284) ((0 : Int), ((0 : Int), ((0 : Int), (false, ((0 : Int), ())))))).2.1, ((List.getD ts282 (Int.toNat n284) ((0 : Int), ((0 : Int), ((0 : Int), (false, ((0 : Int), ())))))).2.2.1, ((List.getD ts282 (Int.toNat n284) ((0 : Int), ((0 : Int), ((0 : Int), (false, ((0 : Int), ())))))).2.2.2.2.1, ())))) (0 : Int) ns285 (List.getD ts282 (Int.toNat n284) ((0 : Int), ((0 : Int), ((0 : Int), (false, ((0 : Int), ()))))))
  (fun ts297 n298 n299 ns300 t301 => (runs_flag t301.2.2.2.1
  (fun n303 => (octet_Putv1 ns300 n303 (1 : Int)
  (fun ns304 => (runs_Put_L0 ts297 n298 (IntKind.wrap .i64 (n299 + (1 : Int))) ns304 k1))))))) none) (k1 ns285))
noncomputable def runs_Put_L0 : Nat → (List (Int × Int × Int × Bool × Int × Unit)) → Int → Int → (List Int) → ((List Int) → Option Bool) → Option Bool
  | 0 => fun _ _ _ _ _ => none
  | n + 1 => runs_Put_L0.body (runs_Put_L0 n) runs_flag octet_Putv1 (runs_Put_L0_L2 ROUNDS)
noncomputable def runs_Put_L0.get (F : (List (Int × Int × Int × Bool × Int × Unit)) → Int → Int → (List Int) → ((List Int) → Option Bool) → Option Bool) (e : Option Bool) (st : St) (k : KE) : Option Bool := match st with
  | ⟨sl, hp, m⟩ => match Nat.beq m 2, pickS 46 [0, 13, 14, 15] sl, hp with
    | true, some [(.ref [1, 0]), (.bv 0 50 (.st [(.int .i64), (.int .i64), (.int .i64), .bool, (.int .i64)]) ts282), (.d ⟨(.int .i64), n283⟩), (.d ⟨(.int .i64), n284⟩)], [([1, 0], ⟨5, 1, (.data (.int .u8) ns285)⟩)] => F ts282 n283 n284 ns285 (fun y0 => k (.exit 0) ⟨fillS 46 [0] [(.ref [1, 0])], [([1, 0], ⟨5, 1, (.data (.int .u8) y0)⟩)], 2⟩)
    | _, _, _ => e
noncomputable def runs_Put_L0.calls (F0 : Bool → (Int → Option Bool) → Option Bool) (F1 : (List Int) → Int → Int → ((List Int) → Option Bool) → Option Bool) : RecF := fun g a h k => (runs_flag.get F0 (octet_Putv1.get F1 none g a h k) g a h k)
noncomputable def runs_Put_L0.loops (L0 : (List (Int × Int × Int × Bool × Int × Unit)) → Int → Int → (Int × Int × Int × Int × Unit) → Int → (List Int) → (Int × Int × Int × Bool × Int × Unit) → ((List (Int × Int × Int × Bool × Int × Unit)) → Int → Int → (List Int) → (Int × Int × Int × Bool × Int × Unit) → Option Bool) → Option Bool) : LoopF := fun b => match Nat.beq b 2 with | true => some (fun st k => (runs_Put_L0_L2.get L0 none st k)) | false => none
set_option maxRecDepth 100000 in
theorem runs_Put_L0.step (S : (List (Int × Int × Int × Bool × Int × Unit)) → Int → Int → (List Int) → ((List Int) → Option Bool) → Option Bool) (F0 : Bool → (Int → Option Bool) → Option Bool) (F1 : (List Int) → Int → Int → ((List Int) → Option Bool) → Option Bool) (L0 : (List (Int × Int × Int × Bool × Int × Unit)) → Int → Int → (Int × Int × Int × Int × Unit) → Int → (List Int) → (Int × Int × Int × Bool × Int × Unit) → ((List (Int × Int × Int × Bool × Int × Unit)) → Int → Int → (List Int) → (Int × Int × Int × Bool × Int × Unit) → Option Bool) → Option Bool) (ts282 : List (Int × Int × Int × Bool × Int × Unit)) (n283 : Int) (n284 : Int) (ns285 : List Int) (k : KE) : execL Try.prog ht 17 (callfOf (runs_Put_L0.calls F0 F1)) (runs_Put_L0.loops L0) 0 (loopAt 0 (codeOf Try.f17)) ⟨fillS 46 [0, 13, 14, 15] [(.ref [1, 0]), (.bv 0 50 (.st [(.int .i64), (.int .i64), (.int .i64), .bool, (.int .i64)]) ts282), (.d ⟨(.int .i64), n283⟩), (.d ⟨(.int .i64), n284⟩)], [([1, 0], ⟨5, 1, (.data (.int .u8) ns285)⟩)], 2⟩ (again (runs_Put_L0.get S none) (plan Try.prog (ht 17 0)) k) = runs_Put_L0.body S F0 F1 L0 ts282 n283 n284 ns285 (fun y0 => k (.exit 0) ⟨fillS 46 [0] [(.ref [1, 0])], [([1, 0], ⟨5, 1, (.data (.int .u8) y0)⟩)], 2⟩) := by kernel_rfl
theorem runs_Put_L0.ok (d : Nat) (hd : 1 ≤ d) : ∀ n st k, runs_Put_L0.get (runs_Put_L0 n) none st k = some true → iter n (plan Try.prog (ht 17 0)) (fun st k => execK Try.prog ht 17 (callfOf (callK Try.prog ht d)) 0 (loopAt 0 (codeOf Try.f17)) st k) st k = some true :=
  loop_ok (lfn := fun n st k => runs_Put_L0.get (runs_Put_L0 n) none st k) (rec := runs_Put_L0.calls runs_flag octet_Putv1) (fun g a h k hx => by
    rcases runs_flag.look d (by omega) hx with hx | hx
    rotate_left
    · exact hx
    rcases octet_Putv1.look d (by omega) hx with hx | hx
    rotate_left
    · exact hx
    cases hx) (loopf := runs_Put_L0.loops (runs_Put_L0_L2 ROUNDS)) (by
    have e : loopsOf (runs_Put_L0.loops (runs_Put_L0_L2 ROUNDS)) 0 (loopAt 0 (codeOf Try.f17)) = [(2, loopAt 2 (codeOf Try.f17))] := by kernel_rfl
    rw [e]
    intro p hp
    simp only [List.mem_cons, List.not_mem_nil, or_false] at hp
    rcases hp with rfl
    · refine loopRef_of (callf := callfOf (callK Try.prog ht d)) (callfOf_ref (callK_mono d)) fun lf st k hb hx => ?_
      cases hb
      rcases runs_Put_L0_L2.look hx with hx | hx
      rotate_left
      · exact runs_Put_L0_L2.ok d (by omega) _ _ _ hx
      cases hx) (fun st k h => by
    obtain ⟨sl, hp, m⟩ := st
    unfold runs_Put_L0.get at h
    dsimp only at h
    split at h
    · have h' : (none : Option Bool) = some true := h
      cases h'
    · cases h) (fun n st k h => by
    obtain ⟨sl, hp, m⟩ := st
    unfold runs_Put_L0.get at h
    dsimp only at h
    split at h
    · rename_i h1 h2
      obtain rfl := pickS_ok h2
      obtain rfl := Nat.eq_of_beq_eq_true h1
      exact (runs_Put_L0.step (runs_Put_L0 n) runs_flag octet_Putv1 (runs_Put_L0_L2 ROUNDS) _ _ _ _ k).trans h
    · cases h)
theorem runs_Put_L0.look {F : (List (Int × Int × Int × Bool × Int × Unit)) → Int → Int → (List Int) → ((List Int) → Option Bool) → Option Bool} {e : Option Bool} {st : St} {k : KE} (hx : runs_Put_L0.get F e st k = some true) : e = some true ∨ runs_Put_L0.get F none st k = some true := by
  obtain ⟨sl, hp, m⟩ := st
  unfold runs_Put_L0.get at hx ⊢
  dsimp only at hx ⊢
  split at hx
  · exact .inr hx
  · exact .inl hx
/-- function 17: sheerleg/runs.Put -/
noncomputable def runs_Put.body (octet_Put : (List Int) → Int → Int → ((List Int) → Option Bool) → Option Bool) (runs_Put_L0 : (List (Int × Int × Int × Bool × Int × Unit)) → Int → Int → (List Int) → ((List Int) → Option Bool) → Option Bool) (ns276 : List Int) (ts277 : List (Int × Int × Int × Bool × Int × Unit)) (k1 : (List Int) → Option Bool) : Option Bool :=
  (octet_Put ns276 (((List.length ts277) : Nat) : Int) (2 : Int)
  (fun ns281 => (runs_Put_L0 ts277 (((List.length ts277) : Nat) : Int) (0 : Int) ns281
  (fun ns305 => (k1 ns305)))))
noncomputable def runs_Put (ns276 : List Int) (ts277 : List (Int × Int × Int × Bool × Int × Unit)) (k1 : (List Int) → Option Bool) : Option Bool := runs_Put.body octet_Put (runs_Put_L0 ROUNDS) ns276 ts277 k1
noncomputable def runs_Put.get (F : (List Int) → (List (Int × Int × Int × Bool × Int × Unit)) → ((List Int) → Option Bool) → Option Bool) (e : Option Bool) (g : FuncId) (a : List AV) (h : Heap) (k : KR) : Option Bool := match g, a, h with
  | 17, [(.bv 0 5 (.int .u8) ns276), (.bv 0 50 (.st [(.int .i64), (.int .i64), (.int .i64), .bool, (.int .i64)]) ts277)], [] => F ns276 ts277 (fun y0 => k (.ref [1, 0]) [([1, 0], ⟨5, 1, (.data (.int .u8) y0)⟩)])
  | _, _, _ => e
noncomputable def runs_Put.calls (F0 : (List Int) → Int → Int → ((List Int) → Option Bool) → Option Bool) : RecF := fun g a h k => (octet_Put.get F0 none g a h k)
noncomputable def runs_Put.loops (L0 : (List (Int × Int × Int × Bool × Int × Unit)) → Int → Int → (List Int) → ((List Int) → Option Bool) → Option Bool) : LoopF := fun b => match Nat.beq b 0 with | true => some (fun st k => (runs_Put_L0.get L0 none st k)) | false => none
set_option maxRecDepth 100000 in
theorem runs_Put.eq (F0 : (List Int) → Int → Int → ((List Int) → Option Bool) → Option Bool) (L0 : (List (Int × Int × Int × Bool × Int × Unit)) → Int → Int → (List Int) → ((List Int) → Option Bool) → Option Bool) (ns276 : List Int) (ts277 : List (Int × Int × Int × Bool × Int × Unit)) (k : KR) : execL Try.prog ht 17 (callfOf (runs_Put.calls F0)) (runs_Put.loops L0) 0 (codeOf Try.f17) ⟨[(.bv 0 5 (.int .u8) ns276), (.bv 0 50 (.st [(.int .i64), (.int .i64), (.int .i64), .bool, (.int .i64)]) ts277)] ++ List.replicate (Try.f17.ntmps - ([(.bv 0 5 (.int .u8) ns276), (.bv 0 50 (.st [(.int .i64), (.int .i64), (.int .i64), .bool, (.int .i64)]) ts277)] : List AV).length) .undef, [], 2⟩ (leave Try.prog Try.f17 k) = runs_Put.body F0 L0 ns276 ts277 (fun y0 => k (.ref [1, 0]) [([1, 0], ⟨5, 1, (.data (.int .u8) y0)⟩)]) := by kernel_rfl
theorem runs_Put.ok (d : Nat) (hd : 2 ≤ d) (ns276 : List Int) (ts277 : List (Int × Int × Int × Bool × Int × Unit)) (k : KR) (hx : runs_Put ns276 ts277 (fun y0 => k (.ref [1, 0]) [([1, 0], ⟨5, 1, (.data (.int .u8) y0)⟩)]) = some true) : callK Try.prog ht d 17 [(.bv 0 5 (.int .u8) ns276), (.bv 0 50 (.st [(.int .i64), (.int .i64), (.int .i64), .bool, (.int .i64)]) ts277)] [] k = some true := by
  obtain ⟨d, rfl⟩ : ∃ e, d = e + 1 := ⟨d - 1, by omega⟩
  exact fn_ok (c := codeOf Try.f17) Try.func17 (by kernel_rfl) (rec := runs_Put.calls octet_Put) (fun g a h k hx => by
    rcases octet_Put.look d (by omega) hx with hx | hx
    rotate_left
    · exact hx
    cases hx) (loopf := runs_Put.loops (runs_Put_L0 ROUNDS)) (by
    have e : loopsOf (runs_Put.loops (runs_Put_L0 ROUNDS)) 0 (codeOf Try.f17) = [(0, loopAt 0 (codeOf Try.f17))] := by kernel_rfl
    rw [e]
    intro p hp
    simp only [List.mem_cons, List.not_mem_nil, or_false] at hp
    rcases hp with rfl
    · refine loopRef_of (callf := callfOf (callK Try.prog ht d)) (callfOf_ref (callK_mono d)) fun lf st k hb hx => ?_
      cases hb
      rcases runs_Put_L0.look hx with hx | hx
      rotate_left
      · exact runs_Put_L0.ok d (by omega) _ _ _ hx
      cases hx) ((runs_Put.eq octet_Put (runs_Put_L0 ROUNDS) ns276 ts277 k).trans hx)
theorem runs_Put.look (d : Nat) (hd : 2 ≤ d) {e : Option Bool} {g : FuncId} {a : List AV} {h : Heap} {k : KR} (hx : runs_Put.get runs_Put e g a h k = some true) : e = some true ∨ callK Try.prog ht d g a h k = some true := by
  unfold runs_Put.get at hx
  split at hx
  · exact .inr (runs_Put.ok d hd _ _ _ hx)
  · exact .inl hx
/-- function 27: the loop in block 2 -/
noncomputable def ref02_Put_L0_L2.body (ref02_Put_L0_L2 : Int → Int → Int → Int → (List Int) → (Int → Int → Int → (List Int) → Option Bool) → Option Bool) (n315 : Int) (n316 : Int) (n317 : Int) (n318 : Int) (ns319 : List Int) (k1 : Int → Int → Int → (List Int) → Option Bool) : Option Bool :=
  (cond_ (decide (n318 < n316)) (ref02_Put_L0_L2 n315 n316 (IntKind.wrap .u64 (Int.tdiv n317 (256 : Int))) (IntKind.wrap .i64 (n318 + (1 : Int))) ns319 k1) (k1 n315 n316 n317 ns319))
noncomputable def ref02_Put_L0_L2 : Nat → Int → Int → Int → Int → (List Int) → (Int → Int → Int → (List Int) → Option Bool) → Option Bool
  | 0 => fun _ _ _ _ _ _ => none
  | n + 1 => ref02_Put_L0_L2.body (ref02_Put_L0_L2 n)
noncomputable def ref02_Put_L0_L2.get (F : Int → Int → Int → Int → (List Int) → (Int → Int → Int → (List Int) → Option Bool) → Option Bool) (e : Option Bool) (st : St) (k : KE) : Option Bool := match st with
  | ⟨sl, hp, m⟩ => match Nat.beq m 2, pickS 45 [7, 8, 9, 10, 11] sl, hp with
    | true, some [(.ref [1, 0]), (.d ⟨(.int .u64), n315⟩), (.d ⟨(.int .i64), n316⟩), (.d ⟨(.int .u64), n317⟩), (.d ⟨(.int .i64), n318⟩)], [([1, 0], ⟨5, 1, (.data (.int .u8) ns319)⟩)] => F n315 n316 n317 n318 ns319 (fun y0 y1 y2 y3 => k (.exit 2) ⟨fillS 45 [7, 8, 9, 10] [(.ref [1, 0]), (.d ⟨(.int .u64), y0⟩), (.d ⟨(.int .i64), y1⟩), (.d ⟨(.int .u64), y2⟩)], [([1, 0], ⟨5, 1, (.data (.int .u8) y3)⟩)], 2⟩)
    | _, _, _ => e
noncomputable def ref02_Put_L0_L2.calls : RecF := fun g a h k => none
noncomputable def ref02_Put_L0_L2.loops : LoopF := fun b => none
set_option maxRecDepth 100000 in
theorem ref02_Put_L0_L2.step (S : Int → Int → Int → Int → (List Int) → (Int → Int → Int → (List Int) → Option Bool) → Option Bool) (n315 : Int) (n316 : Int) (n317 : Int) (n318 : Int) (ns319 : List Int) (k : KE) : execL Try.prog ht 27 (callfOf (ref02_Put_L0_L2.calls)) (ref02_Put_L0_L2.loops) 2 (loopAt 2 (codeOf Try.f27)) ⟨fillS 45 [7, 8, 9, 10, 11] [(.ref [1, 0]), (.d ⟨(.int .u64), n315⟩), (.d ⟨(.int .i64), n316⟩), (.d ⟨(.int .u64), n317⟩), (.d ⟨(.int .i64), n318⟩)], [([1, 0], ⟨5, 1, (.data (.int .u8) ns319)⟩)], 2⟩ (again (ref02_Put_L0_L2.get S none) (plan Try.prog (ht 27 2)) k) = ref02_Put_L0_L2.body S n315 n316 n317 n318 ns319 (fun y0 y1 y2 y3 => k (.exit 2) ⟨fillS 45 [7, 8, 9, 10] [(.ref [1, 0]), (.d ⟨(.int .u64), y0⟩), (.d ⟨(.int .i64), y1⟩), (.d ⟨(.int .u64), y2⟩)], [([1, 0], ⟨5, 1, (.data (.int .u8) y3)⟩)], 2⟩) := by kernel_rfl
theorem ref02_Put_L0_L2.ok (d : Nat) (hd : 0 ≤ d) : ∀ n st k, ref02_Put_L0_L2.get (ref02_Put_L0_L2 n) none st k = some true → iter n (plan Try.prog (ht 27 2)) (fun st k => execK Try.prog ht 27 (callfOf (callK Try.prog ht d)) 2 (loopAt 2 (codeOf Try.f27)) st k) st k = some true :=
  loop_ok (lfn := fun n st k => ref02_Put_L0_L2.get (ref02_Put_L0_L2 n) none st k) (rec := ref02_Put_L0_L2.calls) (fun g a h k hx => by
    cases hx) (loopf := ref02_Put_L0_L2.loops) (by
    have e : loopsOf (ref02_Put_L0_L2.loops) 2 (loopAt 2 (codeOf Try.f27)) = [] := by kernel_rfl
    rw [e]
    intro p hp
    cases hp) (fun st k h => by
    obtain ⟨sl, hp, m⟩ := st
    unfold ref02_Put_L0_L2.get at h
    dsimp only at h
    split at h
    · have h' : (none : Option Bool) = some true := h
      cases h'
    · cases h) (fun n st k h => by
    obtain ⟨sl, hp, m⟩ := st
    unfold ref02_Put_L0_L2.get at h
    dsimp only at h
    split at h
    · rename_i h1 h2
      obtain rfl := pickS_ok h2
      obtain rfl := Nat.eq_of_beq_eq_true h1
      exact (ref02_Put_L0_L2.step (ref02_Put_L0_L2 n) _ _ _ _ _ k).trans h
    · cases h)
theorem ref02_Put_L0_L2.look {F : Int → Int → Int → Int → (List Int) → (Int → Int → Int → (List Int) → Option Bool) → Option Bool} {e : Option Bool} {st : St} {k : KE} (hx : ref02_Put_L0_L2.get F e st k = some true) : e = some true ∨ ref02_Put_L0_L2.get F none st k = some true := by
  obtain ⟨sl, hp, m⟩ := st
  unfold ref02_Put_L0_L2.get at hx ⊢
  dsimp only at hx ⊢
  split at hx
  · exact .inr hx
  · exact .inl hx
/-- function 27: the loop in block 0 -/
noncomputable def ref02_Put_L0.body (ref02_Put_L0 : Int → Int → (List Int) → ((List Int) → Option Bool) → Option Bool) (ref02_Put_L0_L2 : Int → Int → Int → Int → (List Int) → (Int → Int → Int → (List Int) → Option Bool) → Option Bool) (n312 : Int) (n313 : Int) (ns314 : List Int) (k1 : (List Int) → Option Bool) : Option Bool :=
  (cond_ (decide (n313 ≥ (0 : Int))) (ref02_Put_L0_L2 n312 n313 n312 (0 : Int) ns314
  (fun n320 n321 n322 ns323 => (cond_ (Nat.ble (((List.length ns323) + (List.length ((IntKind.wrap .u8 (Int.tmod n322 (256 : Int))) :: []))) * (1 : Nat)) (140737488355328 : Nat)) (ref02_Put_L0 n320 (IntKind.wrap .i64 (n321 - (1 : Int))) (ns323 ++ ((IntKind.wrap .u8 (Int.tmod n322 (256 : Int))) :: [])) k1) none))) (k1 ns314))
noncomputable def ref02_Put_L0 : Nat → Int → Int → (List Int) → ((List Int) → Option Bool) → Option Bool
  | 0 => fun _ _ _ _ => none
  | n + 1 => ref02_Put_L0.body (ref02_Put_L0 n) (ref02_Put_L0_L2 ROUNDS)
noncomputable def ref02_Put_L0.get (F : Int → Int → (List Int) → ((List Int) → Option Bool) → Option Bool) (e : Option Bool) (st : St) (k : KE) : Option Bool := match st with
  | ⟨sl, hp, m⟩ => match Nat.beq m 2, pickS 45 [7, 8, 9] sl, hp with
    | true, some [(.ref [1, 0]), (.d ⟨(.int .u64), n312⟩), (.d ⟨(.int .i64), n313⟩)], [([1, 0], ⟨5, 1, (.data (.int .u8) ns314)⟩)] => F n312 n313 ns314 (fun y0 => k (.exit 0) ⟨fillS 45 [7] [(.ref [1, 0])], [([1, 0], ⟨5, 1, (.data (.int .u8) y0)⟩)], 2⟩)
    | _, _, _ => e
noncomputable def ref02_Put_L0.calls : RecF := fun g a h k => none
noncomputable def ref02_Put_L0.loops (L0 : Int → Int → Int → Int → (List Int) → (Int → Int → Int → (List Int) → Option Bool) → Option Bool) : LoopF := fun b => match Nat.beq b 2 with | true => some (fun st k => (ref02_Put_L0_L2.get L0 none st k)) | false => none
set_option maxRecDepth 100000 in
theorem ref02_Put_L0.step (S : Int → Int → (List Int) → ((List Int) → Option Bool) → Option Bool) (L0 : Int → Int → Int → Int → (List Int) → (Int → Int → Int → (List Int) → Option Bool) → Option Bool) (n312 : Int) (n313 : Int) (ns314 : List Int) (k : KE) : execL Try.prog ht 27 (callfOf (ref02_Put_L0.calls)) (ref02_Put_L0.loops L0) 0 (loopAt 0 (codeOf Try.f27)) ⟨fillS 45 [7, 8, 9] [(.ref [1, 0]), (.d ⟨(.int .u64), n312⟩), (.d ⟨(.int .i64), n313⟩)], [([1, 0], ⟨5, 1, (.data (.int .u8) ns314)⟩)], 2⟩ (again (ref02_Put_L0.get S none) (plan Try.prog (ht 27 0)) k) = ref02_Put_L0.body S L0 n312 n313 ns314 (fun y0 => k (.exit 0) ⟨fillS 45 [7] [(.ref [1, 0])], [([1, 0], ⟨5, 1, (.data (.int .u8) y0)⟩)], 2⟩) := by kernel_rfl
theorem ref02_Put_L0.ok (d : Nat) (hd : 0 ≤ d) : ∀ n st k, ref02_Put_L0.get (ref02_Put_L0 n) none st k = some true → iter n (plan Try.prog (ht 27 0)) (fun st k => execK Try.prog ht 27 (callfOf (callK Try.prog ht d)) 0 (loopAt 0 (codeOf Try.f27)) st k) st k = some true :=
  loop_ok (lfn := fun n st k => ref02_Put_L0.get (ref02_Put_L0 n) none st k) (rec := ref02_Put_L0.calls) (fun g a h k hx => by
    cases hx) (loopf := ref02_Put_L0.loops (ref02_Put_L0_L2 ROUNDS)) (by
    have e : loopsOf (ref02_Put_L0.loops (ref02_Put_L0_L2 ROUNDS)) 0 (loopAt 0 (codeOf Try.f27)) = [(2, loopAt 2 (codeOf Try.f27))] := by kernel_rfl
    rw [e]
    intro p hp
    simp only [List.mem_cons, List.not_mem_nil, or_false] at hp
    rcases hp with rfl
    · refine loopRef_of (callf := callfOf (callK Try.prog ht d)) (callfOf_ref (callK_mono d)) fun lf st k hb hx => ?_
      cases hb
      rcases ref02_Put_L0_L2.look hx with hx | hx
      rotate_left
      · exact ref02_Put_L0_L2.ok d (by omega) _ _ _ hx
      cases hx) (fun st k h => by
    obtain ⟨sl, hp, m⟩ := st
    unfold ref02_Put_L0.get at h
    dsimp only at h
    split at h
    · have h' : (none : Option Bool) = some true := h
      cases h'
    · cases h) (fun n st k h => by
    obtain ⟨sl, hp, m⟩ := st
    unfold ref02_Put_L0.get at h
    dsimp only at h
    split at h
    · rename_i h1 h2
      obtain rfl := pickS_ok h2
      obtain rfl := Nat.eq_of_beq_eq_true h1
      exact (ref02_Put_L0.step (ref02_Put_L0 n) (ref02_Put_L0_L2 ROUNDS) _ _ _ k).trans h
    · cases h)
theorem ref02_Put_L0.look {F : Int → Int → (List Int) → ((List Int) → Option Bool) → Option Bool} {e : Option Bool} {st : St} {k : KE} (hx : ref02_Put_L0.get F e st k = some true) : e = some true ∨ ref02_Put_L0.get F none st k = some true := by
  obtain ⟨sl, hp, m⟩ := st
  unfold ref02_Put_L0.get at hx ⊢
  dsimp only at hx ⊢
  split at hx
  · exact .inr hx
  · exact .inl hx
/-- function 27: sheerleg/sheerlegref02.Put -/
noncomputable def ref02_Put.body (ref02_Put_L0 : Int → Int → (List Int) → ((List Int) → Option Bool) → Option Bool) (ns309 : List Int) (n310 : Int) (n311 : Int) (k1 : (List Int) → Option Bool) : Option Bool :=
  (cond_ (Nat.ble ((List.length ns309) * (1 : Nat)) (140737488355328 : Nat)) (cond_ (! (decide (n311 < (1 : Int)))) (cond_ (decide (n311 > (8 : Int))) (k1 ns309) (ref02_Put_L0 (IntKind.wrap .u64 n310) (IntKind.wrap .i64 (n311 - (1 : Int))) ns309
  (fun ns324 => (k1 ns324)))) (k1 ns309)) none)
noncomputable def ref02_Put (ns309 : List Int) (n310 : Int) (n311 : Int) (k1 : (List Int) → Option Bool) : Option Bool := ref02_Put.body (ref02_Put_L0 ROUNDS) ns309 n310 n311 k1
noncomputable def ref02_Put.get (F : (List Int) → Int → Int → ((List Int) → Option Bool) → Option Bool) (e : Option Bool) (g : FuncId) (a : List AV) (h : Heap) (k : KR) : Option Bool := match g, a, h with
  | 27, [(.bv 0 5 (.int .u8) ns309), (.d ⟨(.int .i64), n310⟩), (.d ⟨(.int .i64), n311⟩)], [] => F ns309 n310 n311 (fun y0 => k (.ref [1, 0]) [([1, 0], ⟨5, 1, (.data (.int .u8) y0)⟩)])
  | _, _, _ => e
noncomputable def ref02_Put.calls : RecF := fun g a h k => none
noncomputable def ref02_Put.loops (L0 : Int → Int → (List Int) → ((List Int) → Option Bool) → Option Bool) : LoopF := fun b => match Nat.beq b 0 with | true => some (fun st k => (ref02_Put_L0.get L0 none st k)) | false => none
set_option maxRecDepth 100000 in
theorem ref02_Put.eq (L0 : Int → Int → (List Int) → ((List Int) → Option Bool) → Option Bool) (ns309 : List Int) (n310 : Int) (n311 : Int) (k : KR) : execL Try.prog ht 27 (callfOf (ref02_Put.calls)) (ref02_Put.loops L0) 0 (codeOf Try.f27) ⟨[(.bv 0 5 (.int .u8) ns309), (.d ⟨(.int .i64), n310⟩), (.d ⟨(.int .i64), n311⟩)] ++ List.replicate (Try.f27.ntmps - ([(.bv 0 5 (.int .u8) ns309), (.d ⟨(.int .i64), n310⟩), (.d ⟨(.int .i64), n311⟩)] : List AV).length) .undef, [], 2⟩ (leave Try.prog Try.f27 k) = ref02_Put.body L0 ns309 n310 n311 (fun y0 => k (.ref [1, 0]) [([1, 0], ⟨5, 1, (.data (.int .u8) y0)⟩)]) := by kernel_rfl
theorem ref02_Put.ok (d : Nat) (hd : 1 ≤ d) (ns309 : List Int) (n310 : Int) (n311 : Int) (k : KR) (hx : ref02_Put ns309 n310 n311 (fun y0 => k (.ref [1, 0]) [([1, 0], ⟨5, 1, (.data (.int .u8) y0)⟩)]) = some true) : callK Try.prog ht d 27 [(.bv 0 5 (.int .u8) ns309), (.d ⟨(.int .i64), n310⟩), (.d ⟨(.int .i64), n311⟩)] [] k = some true := by
  obtain ⟨d, rfl⟩ : ∃ e, d = e + 1 := ⟨d - 1, by omega⟩
  exact fn_ok (c := codeOf Try.f27) Try.func27 (by kernel_rfl) (rec := ref02_Put.calls) (fun g a h k hx => by
    cases hx) (loopf := ref02_Put.loops (ref02_Put_L0 ROUNDS)) (by
    have e : loopsOf (ref02_Put.loops (ref02_Put_L0 ROUNDS)) 0 (codeOf Try.f27) = [(0, loopAt 0 (codeOf Try.f27))] := by kernel_rfl
    rw [e]
    intro p hp
    simp only [List.mem_cons, List.not_mem_nil, or_false] at hp
    rcases hp with rfl
    · refine loopRef_of (callf := callfOf (callK Try.prog ht d)) (callfOf_ref (callK_mono d)) fun lf st k hb hx => ?_
      cases hb
      rcases ref02_Put_L0.look hx with hx | hx
      rotate_left
      · exact ref02_Put_L0.ok d (by omega) _ _ _ hx
      cases hx) ((ref02_Put.eq (ref02_Put_L0 ROUNDS) ns309 n310 n311 k).trans hx)
theorem ref02_Put.look (d : Nat) (hd : 1 ≤ d) {e : Option Bool} {g : FuncId} {a : List AV} {h : Heap} {k : KR} (hx : ref02_Put.get ref02_Put e g a h k = some true) : e = some true ∨ callK Try.prog ht d g a h k = some true := by
  unfold ref02_Put.get at hx
  split at hx
  · exact .inr (ref02_Put.ok d hd _ _ _ _ hx)
  · exact .inl hx
/-- function 27: the loop in block 2 -/
noncomputable def ref02_Putv1_L0_L2.body (ref02_Putv1_L0_L2 : Int → Int → Int → Int → (List Int) → (Int → Int → Int → (List Int) → Option Bool) → Option Bool) (n335 : Int) (n336 : Int) (n337 : Int) (n338 : Int) (ns339 : List Int) (k1 : Int → Int → Int → (List Int) → Option Bool) : Option Bool :=
  (cond_ (decide (n338 < n336)) (ref02_Putv1_L0_L2 n335 n336 (IntKind.wrap .u64 (Int.tdiv n337 (256 : Int))) (IntKind.wrap .i64 (n338 + (1 : Int))) ns339 k1) (k1 n335 n336 n337 ns339))
noncomputable def ref02_Putv1_L0_L2 : Nat → Int → Int → Int → Int → (List Int) → (Int → Int → Int → (List Int) → Option Bool) → Option Bool
  | 0 => fun _ _ _ _ _ _ => none
  | n + 1 => ref02_Putv1_L0_L2.body (ref02_Putv1_L0_L2 n)
noncomputable def ref02_Putv1_L0_L2.get (F : Int → Int → Int → Int → (List Int) → (Int → Int → Int → (List Int) → Option Bool) → Option Bool) (e : Option Bool) (st : St) (k : KE) : Option Bool := match st with
  | ⟨sl, hp, m⟩ => match Nat.beq m 2, pickS 45 [7, 8, 9, 10, 11] sl, hp with
    | true, some [(.ref [1, 0]), (.d ⟨(.int .u64), n335⟩), (.d ⟨(.int .i64), n336⟩), (.d ⟨(.int .u64), n337⟩), (.d ⟨(.int .i64), n338⟩)], [([1, 0], ⟨5, 1, (.data (.int .u8) ns339)⟩)] => F n335 n336 n337 n338 ns339 (fun y0 y1 y2 y3 => k (.exit 2) ⟨fillS 45 [7, 8, 9, 10] [(.ref [1, 0]), (.d ⟨(.int .u64), y0⟩), (.d ⟨(.int .i64), y1⟩), (.d ⟨(.int .u64), y2⟩)], [([1, 0], ⟨5, 1, (.data (.int .u8) y3)⟩)], 2⟩)
    | _, _, _ => e
noncomputable def ref02_Putv1_L0_L2.calls : RecF := fun g a h k => none
noncomputable def ref02_Putv1_L0_L2.loops : LoopF := fun b => none
set_option maxRecDepth 100000 in
theorem ref02_Putv1_L0_L2.step (S : Int → Int → Int → Int → (List Int) → (Int → Int → Int → (List Int) → Option Bool) → Option Bool) (n335 : Int) (n336 : Int) (n337 : Int) (n338 : Int) (ns339 : List Int) (k : KE) : execL Try.prog ht 27 (callfOf (ref02_Putv1_L0_L2.calls)) (ref02_Putv1_L0_L2.loops) 2 (loopAt 2 (codeOf Try.f27)) ⟨fillS 45 [7, 8, 9, 10, 11] [(.ref [1, 0]), (.d ⟨(.int .u64), n335⟩), (.d ⟨(.int .i64), n336⟩), (.d ⟨(.int .u64), n337⟩), (.d ⟨(.int .i64), n338⟩)], [([1, 0], ⟨5, 1, (.data (.int .u8) ns339)⟩)], 2⟩ (again (ref02_Putv1_L0_L2.get S none) (plan Try.prog (ht 27 2)) k) = ref02_Putv1_L0_L2.body S n335 n336 n337 n338 ns339 (fun y0 y1 y2 y3 => k (.exit 2) ⟨fillS 45 [7, 8, 9, 10] [(.ref [1, 0]), (.d ⟨(.int .u64), y0⟩), (.d ⟨(.int .i64), y1⟩), (.d ⟨(.int .u64), y2⟩)], [([1, 0], ⟨5, 1, (.data (.int .u8) y3)⟩)], 2⟩) := by kernel_rfl
theorem ref02_Putv1_L0_L2.ok (d : Nat) (hd : 0 ≤ d) : ∀ n st k, ref02_Putv1_L0_L2.get (ref02_Putv1_L0_L2 n) none st k = some true → iter n (plan Try.prog (ht 27 2)) (fun st k => execK Try.prog ht 27 (callfOf (callK Try.prog ht d)) 2 (loopAt 2 (codeOf Try.f27)) st k) st k = some true :=
  loop_ok (lfn := fun n st k => ref02_Putv1_L0_L2.get (ref02_Putv1_L0_L2 n) none st k) (rec := ref02_Putv1_L0_L2.calls) (fun g a h k hx => by
    cases hx) (loopf := ref02_Putv1_L0_L2.loops) (by
    have e : loopsOf (ref02_Putv1_L0_L2.loops) 2 (loopAt 2 (codeOf Try.f27)) = [] := by kernel_rfl
    rw [e]
    intro p hp
    cases hp) (fun st k h => by
    obtain ⟨sl, hp, m⟩ := st
    unfold ref02_Putv1_L0_L2.get at h
    dsimp only at h
    split at h
    · have h' : (none : Option Bool) = some true := h
      cases h'
    · cases h) (fun n st k h => by
    obtain ⟨sl, hp, m⟩ := st
    unfold ref02_Putv1_L0_L2.get at h
    dsimp only at h
    split at h
    · rename_i h1 h2
      obtain rfl := pickS_ok h2
      obtain rfl := Nat.eq_of_beq_eq_true h1
      exact (ref02_Putv1_L0_L2.step (ref02_Putv1_L0_L2 n) _ _ _ _ _ k).trans h
    · cases h)
theorem ref02_Putv1_L0_L2.look {F : Int → Int → Int → Int → (List Int) → (Int → Int → Int → (List Int) → Option Bool) → Option Bool} {e : Option Bool} {st : St} {k : KE} (hx : ref02_Putv1_L0_L2.get F e st k = some true) : e = some true ∨ ref02_Putv1_L0_L2.get F none st k = some true := by
  obtain ⟨sl, hp, m⟩ := st
  unfold ref02_Putv1_L0_L2.get at hx ⊢
  dsimp only at hx ⊢
  split at hx
  · exact .inr hx
  · exact .inl hx
/-- function 27: the loop in block 0 -/
noncomputable def ref02_Putv1_L0.body (ref02_Putv1_L0 : Int → Int → (List Int) → ((List Int) → Option Bool) → Option Bool) (ref02_Putv1_L0_L2 : Int → Int → Int → Int → (List Int) → (Int → Int → Int → (List Int) → Option Bool) → Option Bool) (n332 : Int) (n333 : Int) (ns334 : List Int) (k1 : (List Int) → Option Bool) : Option Bool :=
  (cond_ (decide (n333 ≥ (0 : Int))) (ref02_Putv1_L0_L2 n332 n333 n332 (0 : Int) ns334
  (fun n340 n341 n342 ns343 => (cond_ (Nat.ble (((List.length ns343) + (List.length ((IntKind.wrap .u8 (Int.tmod n342 (256 : Int))) :: []))) * (1 : Nat)) (140737488355328 : Nat)) (ref02_Putv1_L0 n340 (IntKind.wrap .i64 (n341 - (1 : Int))) (ns343 ++ ((IntKind.wrap .u8 (Int.tmod n342 (256 : Int))) :: [])) k1) none))) (k1 ns334))
noncomputable def ref02_Putv1_L0 : Nat → Int → Int → (List Int) → ((List Int) → Option Bool) → Option Bool
  | 0 => fun _ _ _ _ => none
  | n + 1 => ref02_Putv1_L0.body (ref02_Putv1_L0 n) (ref02_Putv1_L0_L2 ROUNDS)
noncomputable def ref02_Putv1_L0.get (F : Int → Int → (List Int) → ((List Int) → Option Bool) → Option Bool) (e : Option Bool) (st : St) (k : KE) : Option Bool := match st with
  | ⟨sl, hp, m⟩ => match Nat.beq m 2, pickS 45 [7, 8, 9] sl, hp with
    | true, some [(.ref [1, 0]), (.d ⟨(.int .u64), n332⟩), (.d ⟨(.int .i64), n333⟩)], [([1, 0], ⟨5, 1, (.data (.int .u8) ns334)⟩)] => F n332 n333 ns334 (fun y0 => k (.exit 0) ⟨fillS 45 [7] [(.ref [1, 0])], [([1, 0], ⟨5, 1, (.data (.int .u8) y0)⟩)], 2⟩)
    | _, _, _ => e
noncomputable def ref02_Putv1_L0.calls : RecF := fun g a h k => none
noncomputable def ref02_Putv1_L0.loops (L0 : Int → Int → Int → Int → (List Int) → (Int → Int → Int → (List Int) → Option Bool) → Option Bool) : LoopF := fun b => match Nat.beq b 2 with | true => some (fun st k => (ref02_Putv1_L0_L2.get L0 none st k)) | false => none
set_option maxRecDepth 100000 in
theorem ref02_Putv1_L0.step (S : Int → Int → (List Int) → ((List Int) → Option Bool) → Option Bool) (L0 : Int → Int → Int → Int → (List Int) → (Int → Int → Int → (List Int) → Option Bool) → Option Bool) (n332 : Int) (n333 : Int) (ns334 : List Int) (k : KE) : execL Try.prog ht 27 (callfOf (ref02_Putv1_L0.calls)) (ref02_Putv1_L0.loops L0) 0 (loopAt 0 (codeOf Try.f27)) ⟨fillS 45 [7, 8, 9] [(.ref [1, 0]), (.d ⟨(.int .u64), n332⟩), (.d ⟨(.int .i64), n333⟩)], [([1, 0], ⟨5, 1, (.data (.int .u8) ns334)⟩)], 2⟩ (again (ref02_Putv1_L0.get S none) (plan Try.prog (ht 27 0)) k) = ref02_Putv1_L0.body S L0 n332 n333 ns334 (fun y0 => k (.exit 0) ⟨fillS 45 [7] [(.ref [1, 0])], [([1, 0], ⟨5, 1, (.data (.int .u8) y0)⟩)], 2⟩) := by kernel_rfl
theorem ref02_Putv1_L0.ok (d : Nat) (hd : 0 ≤ d) : ∀ n st k, ref02_Putv1_L0.get (ref02_Putv1_L0 n) none st k = some true → iter n (plan Try.prog (ht 27 0)) (fun st k => execK Try.prog ht 27 (callfOf (callK Try.prog ht d)) 0 (loopAt 0 (codeOf Try.f27)) st k) st k = some true :=
  loop_ok (lfn := fun n st k => ref02_Putv1_L0.get (ref02_Putv1_L0 n) none st k) (rec := ref02_Putv1_L0.calls) (fun g a h k hx => by
    cases hx) (loopf := ref02_Putv1_L0.loops (ref02_Putv1_L0_L2 ROUNDS)) (by
    have e : loopsOf (ref02_Putv1_L0.loops (ref02_Putv1_L0_L2 ROUNDS)) 0 (loopAt 0 (codeOf Try.f27)) = [(2, loopAt 2 (codeOf Try.f27))] := by kernel_rfl
    rw [e]
    intro p hp
    simp only [List.mem_cons, List.not_mem_nil, or_false] at hp
    rcases hp with rfl
    · refine loopRef_of (callf := callfOf (callK Try.prog ht d)) (callfOf_ref (callK_mono d)) fun lf st k hb hx => ?_
      cases hb
      rcases ref02_Putv1_L0_L2.look hx with hx | hx
      rotate_left
      · exact ref02_Putv1_L0_L2.ok d (by omega) _ _ _ hx
      cases hx) (fun st k h => by
    obtain ⟨sl, hp, m⟩ := st
    unfold ref02_Putv1_L0.get at h
    dsimp only at h
    split at h
    · have h' : (none : Option Bool) = some true := h
      cases h'
    · cases h) (fun n st k h => by
    obtain ⟨sl, hp, m⟩ := st
    unfold ref02_Putv1_L0.get at h
    dsimp only at h
    split at h
    · rename_i h1 h2
      obtain rfl := pickS_ok h2
      obtain rfl := Nat.eq_of_beq_eq_true h1
      exact (ref02_Putv1_L0.step (ref02_Putv1_L0 n) (ref02_Putv1_L0_L2 ROUNDS) _ _ _ k).trans h
    · cases h)
theorem ref02_Putv1_L0.look {F : Int → Int → (List Int) → ((List Int) → Option Bool) → Option Bool} {e : Option Bool} {st : St} {k : KE} (hx : ref02_Putv1_L0.get F e st k = some true) : e = some true ∨ ref02_Putv1_L0.get F none st k = some true := by
  obtain ⟨sl, hp, m⟩ := st
  unfold ref02_Putv1_L0.get at hx ⊢
  dsimp only at hx ⊢
  split at hx
  · exact .inr hx
  · exact .inl hx
/-- function 27: sheerleg/sheerlegref02.Put -/
noncomputable def ref02_Putv1.body (ref02_Putv1_L0 : Int → Int → (List Int) → ((List Int) → Option Bool) → Option Bool) (ns329 : List Int) (n330 : Int) (n331 : Int) (k1 : (List Int) → Option Bool) : Option Bool :=
  (cond_ (Nat.ble ((List.length ns329) * (1 : Nat)) (140737488355328 : Nat)) (cond_ (! (decide (n331 < (1 : Int)))) (cond_ (decide (n331 > (8 : Int))) (k1 ns329) (ref02_Putv1_L0 (IntKind.wrap .u64 n330) (IntKind.wrap .i64 (n331 - (1 : Int))) ns329
  (fun ns344 => (k1 ns344)))) (k1 ns329)) none)
noncomputable def ref02_Putv1 (ns329 : List Int) (n330 : Int) (n331 : Int) (k1 : (List Int) → Option Bool) : Option Bool := ref02_Putv1.body (ref02_Putv1_L0 ROUNDS) ns329 n330 n331 k1
noncomputable def ref02_Putv1.get (F : (List Int) → Int → Int → ((List Int) → Option Bool) → Option Bool) (e : Option Bool) (g : FuncId) (a : List AV) (h : Heap) (k : KR) : Option Bool := match g, a, h with
  | 27, [(.bv 1 5 (.int .u8) ns329), (.d ⟨(.int .i64), n330⟩), (.d ⟨(.int .i64), n331⟩)], [] => F ns329 n330 n331 (fun y0 => k (.ref [1, 0]) [([1, 0], ⟨5, 1, (.data (.int .u8) y0)⟩)])
  | _, _, _ => e
noncomputable def ref02_Putv1.calls : RecF := fun g a h k => none
noncomputable def ref02_Putv1.loops (L0 : Int → Int → (List Int) → ((List Int) → Option Bool) → Option Bool) : LoopF := fun b => match Nat.beq b 0 with | true => some (fun st k => (ref02_Putv1_L0.get L0 none st k)) | false => none
set_option maxRecDepth 100000 in
theorem ref02_Putv1.eq (L0 : Int → Int → (List Int) → ((List Int) → Option Bool) → Option Bool) (ns329 : List Int) (n330 : Int) (n331 : Int) (k : KR) : execL Try.prog ht 27 (callfOf (ref02_Putv1.calls)) (ref02_Putv1.loops L0) 0 (codeOf Try.f27) ⟨[(.bv 1 5 (.int .u8) ns329), (.d ⟨(.int .i64), n330⟩), (.d ⟨(.int .i64), n331⟩)] ++ List.replicate (Try.f27.ntmps - ([(.bv 1 5 (.int .u8) ns329), (.d ⟨(.int .i64), n330⟩), (.d ⟨(.int .i64), n331⟩)] : List AV).length) .undef, [], 2⟩ (leave Try.prog Try.f27 k) = ref02_Putv1.body L0 ns329 n330 n331 (fun y0 => k (.ref [1, 0]) [([1, 0], ⟨5, 1, (.data (.int .u8) y0)⟩)]) := by kernel_rfl
theorem ref02_Putv1.ok (d : Nat) (hd : 1 ≤ d) (ns329 : List Int) (n330 : Int) (n331 : Int) (k : KR) (hx : ref02_Putv1 ns329 n330 n331 (fun y0 => k (.ref [1, 0]) [([1, 0], ⟨5, 1, (.data (.int .u8) y0)⟩)]) = some true) : callK Try.prog ht d 27 [(.bv 1 5 (.int .u8) ns329), (.d ⟨(.int .i64), n330⟩), (.d ⟨(.int .i64), n331⟩)] [] k = some true := by
  obtain ⟨d, rfl⟩ : ∃ e, d = e + 1 := ⟨d - 1, by omega⟩
  exact fn_ok (c := codeOf Try.f27) Try.func27 (by kernel_rfl) (rec := ref02_Putv1.calls) (fun g a h k hx => by
    cases hx) (loopf := ref02_Putv1.loops (ref02_Putv1_L0 ROUNDS)) (by
    have e : loopsOf (ref02_Putv1.loops (ref02_Putv1_L0 ROUNDS)) 0 (codeOf Try.f27) = [(0, loopAt 0 (codeOf Try.f27))] := by kernel_rfl
    rw [e]
    intro p hp
    simp only [List.mem_cons, List.not_mem_nil, or_false] at hp
    rcases hp with rfl
    · refine loopRef_of (callf := callfOf (callK Try.prog ht d)) (callfOf_ref (callK_mono d)) fun lf st k hb hx => ?_
      cases hb
      rcases ref02_Putv1_L0.look hx with hx | hx
      rotate_left
      · exact ref02_Putv1_L0.ok d (by omega) _ _ _ hx
      cases hx) ((ref02_Putv1.eq (ref02_Putv1_L0 ROUNDS) ns329 n330 n331 k).trans hx)
theorem ref02_Putv1.look (d : Nat) (hd : 1 ≤ d) {e : Option Bool} {g : FuncId} {a : List AV} {h : Heap} {k : KR} (hx : ref02_Putv1.get ref02_Putv1 e g a h k = some true) : e = some true ∨ callK Try.prog ht d g a h k = some true := by
  unfold ref02_Putv1.get at hx
  split at hx
  · exact .inr (ref02_Putv1.ok d hd _ _ _ _ hx)
  · exact .inl hx
/-- function 28: sheerleg/sheerlegref13.Flag -/
noncomputable def ref13_Flag.body (b349 : Bool) (k1 : Int → Option Bool) : Option Bool :=
  (cond_ b349 (k1 (1 : Int)) (k1 (0 : Int)))
noncomputable def ref13_Flag (b349 : Bool) (k1 : Int → Option Bool) : Option Bool := ref13_Flag.body b349 k1
noncomputable def ref13_Flag.get (F : Bool → (Int → Option Bool) → Option Bool) (e : Option Bool) (g : FuncId) (a : List AV) (h : Heap) (k : KR) : Option Bool := match g, a, h with
  | 28, [(.d ⟨.bool, b349⟩)], [] => F b349 (fun y0 => k (.d ⟨(.int .i64), y0⟩) [])
  | _, _, _ => e
noncomputable def ref13_Flag.calls : RecF := fun g a h k => none
noncomputable def ref13_Flag.loops : LoopF := fun b => none
set_option maxRecDepth 100000 in
theorem ref13_Flag.eq (b349 : Bool) (k : KR) : execL Try.prog ht 28 (callfOf (ref13_Flag.calls)) (ref13_Flag.loops) 0 (codeOf Try.f28) ⟨[(.d ⟨.bool, b349⟩)] ++ List.replicate (Try.f28.ntmps - ([(.d ⟨.bool, b349⟩)] : List AV).length) .undef, [], 2⟩ (leave Try.prog Try.f28 k) = ref13_Flag.body b349 (fun y0 => k (.d ⟨(.int .i64), y0⟩) []) := by kernel_rfl
theorem ref13_Flag.ok (d : Nat) (hd : 1 ≤ d) (b349 : Bool) (k : KR) (hx : ref13_Flag b349 (fun y0 => k (.d ⟨(.int .i64), y0⟩) []) = some true) : callK Try.prog ht d 28 [(.d ⟨.bool, b349⟩)] [] k = some true := by
  obtain ⟨d, rfl⟩ : ∃ e, d = e + 1 := ⟨d - 1, by omega⟩
  exact fn_ok (c := codeOf Try.f28) Try.func28 (by kernel_rfl) (rec := ref13_Flag.calls) (fun g a h k hx => by
    cases hx) (loopf := ref13_Flag.loops) (by
    have e : loopsOf (ref13_Flag.loops) 0 (codeOf Try.f28) = [] := by kernel_rfl
    rw [e]
    intro p hp
    cases hp) ((ref13_Flag.eq b349 k).trans hx)
theorem ref13_Flag.look (d : Nat) (hd : 1 ≤ d) {e : Option Bool} {g : FuncId} {a : List AV} {h : Heap} {k : KR} (hx : ref13_Flag.get ref13_Flag e g a h k = some true) : e = some true ∨ callK Try.prog ht d g a h k = some true := by
  unfold ref13_Flag.get at hx
  split at hx
  · exact .inr (ref13_Flag.ok d hd _ _ hx)
  · exact .inl hx
end Go.Proofs.Ytbpjepcgokoaiaa.g
