/- What the functions come to that GB reaches, as plain functions; written by a program of this work, each told by Lean. -/
import Derived.Test.YtbbpdfogfcffbaaA3
import Derived.Test.YtbbpdfogfcffbaaChecked
namespace Go.Proofs.Ytbbpdfogfcffbaa.gB
open Go.AX
set_option linter.unusedVariables false
set_option maxRecDepth 100000
set_option maxHeartbeats 4000000
def ht : Hints := hintsOf [(4, [(0, ⟨[1, 4, 7, 9, 11, 16], []⟩), (2000000, ⟨[8], []⟩), (1000000, ⟨[4, 7, 9, 11], []⟩)]),
  (9, [(0, ⟨[2, 3, 5], []⟩), (2000000, ⟨[4], []⟩), (1000000, ⟨[], []⟩)]),
  (25, [(0, ⟨[0, 3, 4], []⟩), (2000000, ⟨[2], []⟩), (1000000, ⟨[3], []⟩)]),
  (24, [(0, ⟨[3, 6, 7, 8], []⟩), (2000000, ⟨[2], []⟩), (1000000, ⟨[3], []⟩)]),
  (21, [(0, ⟨[0, 1, 5], []⟩), (2000000, ⟨[4], []⟩), (1000000, ⟨[], []⟩)]),
  (23, [(0, ⟨[1, 2, 3, 7, 8], [(.virt 7 2 1)]⟩), (2000000, ⟨[6], []⟩), (1000000, ⟨[7], []⟩)]),
  (22, [(0, ⟨[1, 3, 7, 10, 11], [(.virt 7 2 1)]⟩), (2000000, ⟨[6], []⟩), (1000000, ⟨[7], []⟩)]),
  (13, [(2000000, ⟨[6], [(.giveP 6)]⟩)]),
  (17, [(2000000, ⟨[2, 3, 4], [(.giveP 3)]⟩)]),
  (16, [(2000000, ⟨[2, 3, 4], [(.giveP 3)]⟩)])]
/-- function 12: sheerleg/sheerleglaw36.few -/
noncomputable def law36_few.body (t4 : Int × Int × (List Int) × (List (Int × Int × Unit)) × Int × Int × Bool × Bool × Unit) (k1 : Bool → Option Bool) : Option Bool :=
  (cond_ (decide ((((List.length t4.2.2.1) : Nat) : Int) ≤ (60 : Int))) (k1 (decide ((((List.length t4.2.2.2.1) : Nat) : Int) ≤ (60 : Int)))) (k1 false))
noncomputable def law36_few (t4 : Int × Int × (List Int) × (List (Int × Int × Unit)) × Int × Int × Bool × Bool × Unit) (k1 : Bool → Option Bool) : Option Bool := law36_few.body t4 k1
noncomputable def law36_few.get (F : (Int × Int × (List Int) × (List (Int × Int × Unit)) × Int × Int × Bool × Bool × Unit) → (Bool → Option Bool) → Option Bool) (e : Option Bool) (g : FuncId) (a : List AV) (h : Heap) (k : KR) : Option Bool := match g, a, h with
  | 12, [(.d ⟨(.st [(.int .i64), (.int .i64), (.sl 2 (.int .i64)), (.sl 39 (.st [(.int .i64), (.int .i64)])), (.int .i64), (.int .i64), .bool, .bool]), t4⟩)], [] => F t4 (fun y0 => k (.d ⟨.bool, y0⟩) [])
  | _, _, _ => e
noncomputable def law36_few.calls : RecF := fun g a h k => none
noncomputable def law36_few.loops : LoopF := fun b => none
set_option maxRecDepth 100000 in
theorem law36_few.eq (t4 : Int × Int × (List Int) × (List (Int × Int × Unit)) × Int × Int × Bool × Bool × Unit) (k : KR) : execL Try.prog ht 12 (callfOf (law36_few.calls)) (law36_few.loops) 0 (codeOf Try.f12) ⟨[(.d ⟨(.st [(.int .i64), (.int .i64), (.sl 2 (.int .i64)), (.sl 39 (.st [(.int .i64), (.int .i64)])), (.int .i64), (.int .i64), .bool, .bool]), t4⟩)] ++ List.replicate (Try.f12.ntmps - ([(.d ⟨(.st [(.int .i64), (.int .i64), (.sl 2 (.int .i64)), (.sl 39 (.st [(.int .i64), (.int .i64)])), (.int .i64), (.int .i64), .bool, .bool]), t4⟩)] : List AV).length) .undef, [], 2⟩ (leave Try.prog Try.f12 k) = law36_few.body t4 (fun y0 => k (.d ⟨.bool, y0⟩) []) := by kernel_rfl
theorem law36_few.ok (d : Nat) (hd : 1 ≤ d) (t4 : Int × Int × (List Int) × (List (Int × Int × Unit)) × Int × Int × Bool × Bool × Unit) (k : KR) (hx : law36_few t4 (fun y0 => k (.d ⟨.bool, y0⟩) []) = some true) : callK Try.prog ht d 12 [(.d ⟨(.st [(.int .i64), (.int .i64), (.sl 2 (.int .i64)), (.sl 39 (.st [(.int .i64), (.int .i64)])), (.int .i64), (.int .i64), .bool, .bool]), t4⟩)] [] k = some true := by
  obtain ⟨d, rfl⟩ : ∃ e, d = e + 1 := ⟨d - 1, by omega⟩
  exact fn_ok (c := codeOf Try.f12) Try.func12 (by kernel_rfl) (rec := law36_few.calls) (fun g a h k hx => by
    cases hx) (loopf := law36_few.loops) (by
    have e : loopsOf (law36_few.loops) 0 (codeOf Try.f12) = [] := by kernel_rfl
    rw [e]
    intro p hp
    cases hp) ((law36_few.eq t4 k).trans hx)
theorem law36_few.look (d : Nat) (hd : 1 ≤ d) {e : Option Bool} {g : FuncId} {a : List AV} {h : Heap} {k : KR} (hx : law36_few.get law36_few e g a h k = some true) : e = some true ∨ callK Try.prog ht d g a h k = some true := by
  unfold law36_few.get at hx
  split at hx
  · exact .inr (law36_few.ok d hd _ _ hx)
  · exact .inl hx
/-- function 8: sheerleg/sheerleglaw36.known, all of it at once -/
def law36_known (k1 : Bool → Option Bool) : Option Bool := k1 true
def law36_known.get (F : (Bool → Option Bool) → Option Bool) (e : Option Bool) (g : FuncId) (a : List AV) (h : Heap) (k : KR) : Option Bool := match g, a, h with
  | 8, [], [] => F (fun y => k (.d ⟨.bool, y⟩) [])
  | _, _, _ => e
set_option maxRecDepth 100000 in
theorem law36_known.all (k : KR) : callK Try.prog ht 60 8 [] [] k = k (.d ⟨.bool, true⟩) [] := by kernel_rfl
theorem law36_known.look (d : Nat) (hd : 60 ≤ d) {e : Option Bool} {g : FuncId} {a : List AV} {h : Heap} {k : KR} (hx : law36_known.get law36_known e g a h k = some true) : e = some true ∨ callK Try.prog ht d g a h k = some true := by
  unfold law36_known.get at hx
  split at hx
  · exact .inr (callK_le hd _ _ _ _ _ (fun _ _ h => h) ((law36_known.all _).trans hx))
  · exact .inl hx
/-- function 14: sheerleg/sheerlegref36.Defer -/
noncomputable def ref36_Defer.body (t7 : Int × Int × (List Int) × (List (Int × Int × Unit)) × Int × Int × Bool × Bool × Unit) (t8 : Int × Int × Unit) (k1 : Int → Int → (List Int) → Int → Int → Bool → Bool → (List (Int × Int × Unit)) → Option Bool) : Option Bool :=
  (cond_ (Nat.ble ((List.length t7.2.2.2.1) * (16 : Nat)) (140737488355328 : Nat)) (cond_ (Nat.ble (((List.length t7.2.2.2.1) + (List.length ((t8.1, (t8.2.1, ())) :: []))) * (16 : Nat)) (140737488355328 : Nat)) (k1 t7.1 t7.2.1 t7.2.2.1 t7.2.2.2.2.1 t7.2.2.2.2.2.1 t7.2.2.2.2.2.2.1 t7.2.2.2.2.2.2.2.1 (t7.2.2.2.1 ++ ((t8.1, (t8.2.1, ())) :: []))) none) none)
noncomputable def ref36_Defer (t7 : Int × Int × (List Int) × (List (Int × Int × Unit)) × Int × Int × Bool × Bool × Unit) (t8 : Int × Int × Unit) (k1 : Int → Int → (List Int) → Int → Int → Bool → Bool → (List (Int × Int × Unit)) → Option Bool) : Option Bool := ref36_Defer.body t7 t8 k1
noncomputable def ref36_Defer.get (F : (Int × Int × (List Int) × (List (Int × Int × Unit)) × Int × Int × Bool × Bool × Unit) → (Int × Int × Unit) → (Int → Int → (List Int) → Int → Int → Bool → Bool → (List (Int × Int × Unit)) → Option Bool) → Option Bool) (e : Option Bool) (g : FuncId) (a : List AV) (h : Heap) (k : KR) : Option Bool := match g, a, h with
  | 14, [(.d ⟨(.st [(.int .i64), (.int .i64), (.sl 2 (.int .i64)), (.sl 39 (.st [(.int .i64), (.int .i64)])), (.int .i64), (.int .i64), .bool, .bool]), t7⟩), (.d ⟨(.st [(.int .i64), (.int .i64)]), t8⟩)], [] => F t7 t8 (fun y0 y1 y2 y3 y4 y5 y6 y7 => k (.agg [(.d ⟨(.int .i64), y0⟩), (.d ⟨(.int .i64), y1⟩), (.d ⟨(.sl 2 (.int .i64)), y2⟩), (.ref [1, 0]), (.d ⟨(.int .i64), y3⟩), (.d ⟨(.int .i64), y4⟩), (.d ⟨.bool, y5⟩), (.d ⟨.bool, y6⟩)]) [([1, 0], ⟨39, 2, (.data (.st [(.int .i64), (.int .i64)]) y7)⟩)])
  | _, _, _ => e
noncomputable def ref36_Defer.calls : RecF := fun g a h k => none
noncomputable def ref36_Defer.loops : LoopF := fun b => none
set_option maxRecDepth 100000 in
theorem ref36_Defer.eq (t7 : Int × Int × (List Int) × (List (Int × Int × Unit)) × Int × Int × Bool × Bool × Unit) (t8 : Int × Int × Unit) (k : KR) : execL Try.prog ht 14 (callfOf (ref36_Defer.calls)) (ref36_Defer.loops) 0 (codeOf Try.f14) ⟨[(.d ⟨(.st [(.int .i64), (.int .i64), (.sl 2 (.int .i64)), (.sl 39 (.st [(.int .i64), (.int .i64)])), (.int .i64), (.int .i64), .bool, .bool]), t7⟩), (.d ⟨(.st [(.int .i64), (.int .i64)]), t8⟩)] ++ List.replicate (Try.f14.ntmps - ([(.d ⟨(.st [(.int .i64), (.int .i64), (.sl 2 (.int .i64)), (.sl 39 (.st [(.int .i64), (.int .i64)])), (.int .i64), (.int .i64), .bool, .bool]), t7⟩), (.d ⟨(.st [(.int .i64), (.int .i64)]), t8⟩)] : List AV).length) .undef, [], 2⟩ (leave Try.prog Try.f14 k) = ref36_Defer.body t7 t8 (fun y0 y1 y2 y3 y4 y5 y6 y7 => k (.agg [(.d ⟨(.int .i64), y0⟩), (.d ⟨(.int .i64), y1⟩), (.d ⟨(.sl 2 (.int .i64)), y2⟩), (.ref [1, 0]), (.d ⟨(.int .i64), y3⟩), (.d ⟨(.int .i64), y4⟩), (.d ⟨.bool, y5⟩), (.d ⟨.bool, y6⟩)]) [([1, 0], ⟨39, 2, (.data (.st [(.int .i64), (.int .i64)]) y7)⟩)]) := by kernel_rfl
theorem ref36_Defer.ok (d : Nat) (hd : 1 ≤ d) (t7 : Int × Int × (List Int) × (List (Int × Int × Unit)) × Int × Int × Bool × Bool × Unit) (t8 : Int × Int × Unit) (k : KR) (hx : ref36_Defer t7 t8 (fun y0 y1 y2 y3 y4 y5 y6 y7 => k (.agg [(.d ⟨(.int .i64), y0⟩), (.d ⟨(.int .i64), y1⟩), (.d ⟨(.sl 2 (.int .i64)), y2⟩), (.ref [1, 0]), (.d ⟨(.int .i64), y3⟩), (.d ⟨(.int .i64), y4⟩), (.d ⟨.bool, y5⟩), (.d ⟨.bool, y6⟩)]) [([1, 0], ⟨39, 2, (.data (.st [(.int .i64), (.int .i64)]) y7)⟩)]) = some true) : callK Try.prog ht d 14 [(.d ⟨(.st [(.int .i64), (.int .i64), (.sl 2 (.int .i64)), (.sl 39 (.st [(.int .i64), (.int .i64)])), (.int .i64), (.int .i64), .bool, .bool]), t7⟩), (.d ⟨(.st [(.int .i64), (.int .i64)]), t8⟩)] [] k = some true := by
  obtain ⟨d, rfl⟩ : ∃ e, d = e + 1 := ⟨d - 1, by omega⟩
  exact fn_ok (c := codeOf Try.f14) Try.func14 (by kernel_rfl) (rec := ref36_Defer.calls) (fun g a h k hx => by
    cases hx) (loopf := ref36_Defer.loops) (by
    have e : loopsOf (ref36_Defer.loops) 0 (codeOf Try.f14) = [] := by kernel_rfl
    rw [e]
    intro p hp
    cases hp) ((ref36_Defer.eq t7 t8 k).trans hx)
theorem ref36_Defer.look (d : Nat) (hd : 1 ≤ d) {e : Option Bool} {g : FuncId} {a : List AV} {h : Heap} {k : KR} (hx : ref36_Defer.get ref36_Defer e g a h k = some true) : e = some true ∨ callK Try.prog ht d g a h k = some true := by
  unfold ref36_Defer.get at hx
  split at hx
  · exact .inr (ref36_Defer.ok d hd _ _ _ hx)
  · exact .inl hx
/-- function 15: sheerleg/frames.Get -/
noncomputable def frames_Get.body (t17 : Int × Int × (List Int) × (List (Int × Int × Unit)) × Int × Int × Bool × Bool × Unit) (n18 : Int) (k1 : Int → Option Bool) : Option Bool :=
  (cond_ (! (decide (n18 < (0 : Int)))) (cond_ (decide (n18 ≥ (((List.length t17.2.2.1) : Nat) : Int))) (k1 (0 : Int)) (cond_ ((decide ((0 : Int) ≤ n18)) && (decide (n18 < (((List.length t17.2.2.1) : Nat) : Int)))) (k1 (List.getD t17.2.2.1 (Int.toNat n18) (0 : Int))) none)) (k1 (0 : Int)))
noncomputable def frames_Get (t17 : Int × Int × (List Int) × (List (Int × Int × Unit)) × Int × Int × Bool × Bool × Unit) (n18 : Int) (k1 : Int → Option Bool) : Option Bool := frames_Get.body t17 n18 k1
noncomputable def frames_Get.get (F : (Int × Int × (List Int) × (List (Int × Int × Unit)) × Int × Int × Bool × Bool × Unit) → Int → (Int → Option Bool) → Option Bool) (e : Option Bool) (g : FuncId) (a : List AV) (h : Heap) (k : KR) : Option Bool := match g, a, h with
  | 15, [(.d ⟨(.st [(.int .i64), (.int .i64), (.sl 2 (.int .i64)), (.sl 39 (.st [(.int .i64), (.int .i64)])), (.int .i64), (.int .i64), .bool, .bool]), t17⟩), (.d ⟨(.int .i64), n18⟩)], [] => F t17 n18 (fun y0 => k (.d ⟨(.int .i64), y0⟩) [])
  | _, _, _ => e
noncomputable def frames_Get.calls : RecF := fun g a h k => none
noncomputable def frames_Get.loops : LoopF := fun b => none
set_option maxRecDepth 100000 in
theorem frames_Get.eq (t17 : Int × Int × (List Int) × (List (Int × Int × Unit)) × Int × Int × Bool × Bool × Unit) (n18 : Int) (k : KR) : execL Try.prog ht 15 (callfOf (frames_Get.calls)) (frames_Get.loops) 0 (codeOf Try.f15) ⟨[(.d ⟨(.st [(.int .i64), (.int .i64), (.sl 2 (.int .i64)), (.sl 39 (.st [(.int .i64), (.int .i64)])), (.int .i64), (.int .i64), .bool, .bool]), t17⟩), (.d ⟨(.int .i64), n18⟩)] ++ List.replicate (Try.f15.ntmps - ([(.d ⟨(.st [(.int .i64), (.int .i64), (.sl 2 (.int .i64)), (.sl 39 (.st [(.int .i64), (.int .i64)])), (.int .i64), (.int .i64), .bool, .bool]), t17⟩), (.d ⟨(.int .i64), n18⟩)] : List AV).length) .undef, [], 2⟩ (leave Try.prog Try.f15 k) = frames_Get.body t17 n18 (fun y0 => k (.d ⟨(.int .i64), y0⟩) []) := by kernel_rfl
theorem frames_Get.ok (d : Nat) (hd : 1 ≤ d) (t17 : Int × Int × (List Int) × (List (Int × Int × Unit)) × Int × Int × Bool × Bool × Unit) (n18 : Int) (k : KR) (hx : frames_Get t17 n18 (fun y0 => k (.d ⟨(.int .i64), y0⟩) []) = some true) : callK Try.prog ht d 15 [(.d ⟨(.st [(.int .i64), (.int .i64), (.sl 2 (.int .i64)), (.sl 39 (.st [(.int .i64), (.int .i64)])), (.int .i64), (.int .i64), .bool, .bool]), t17⟩), (.d ⟨(.int .i64), n18⟩)] [] k = some true := by
  obtain ⟨d, rfl⟩ : ∃ e, d = e + 1 := ⟨d - 1, by omega⟩
  exact fn_ok (c := codeOf Try.f15) Try.func15 (by kernel_rfl) (rec := frames_Get.calls) (fun g a h k hx => by
    cases hx) (loopf := frames_Get.loops) (by
    have e : loopsOf (frames_Get.loops) 0 (codeOf Try.f15) = [] := by kernel_rfl
    rw [e]
    intro p hp
    cases hp) ((frames_Get.eq t17 n18 k).trans hx)
theorem frames_Get.look (d : Nat) (hd : 1 ≤ d) {e : Option Bool} {g : FuncId} {a : List AV} {h : Heap} {k : KR} (hx : frames_Get.get frames_Get e g a h k = some true) : e = some true ∨ callK Try.prog ht d g a h k = some true := by
  unfold frames_Get.get at hx
  split at hx
  · exact .inr (frames_Get.ok d hd _ _ _ hx)
  · exact .inl hx
/-- function 13: sheerleg/sheerlegref36.Set -/
noncomputable def ref36_Set.body (n45 : Int) (n46 : Int) (ns47 : List Int) (ts48 : List (Int × Int × Unit)) (n49 : Int) (n50 : Int) (b51 : Bool) (b52 : Bool) (n53 : Int) (n54 : Int) (k1 : Int → Int → (List Int) → (List (Int × Int × Unit)) → Int → Int → Bool → Bool → Option Bool) : Option Bool :=
  (cond_ (! (decide (n53 < (0 : Int)))) (cond_ (decide (n53 ≥ (((List.length ns47) : Nat) : Int))) (k1 n45 n46 ns47 ts48 n49 n50 b51 b52) (cond_ (Nat.ble ((List.length ns47) * (8 : Nat)) (140737488355328 : Nat)) (cond_ ((decide ((0 : Int) ≤ n53)) && (decide (n53 < (((List.length ns47) : Nat) : Int)))) (k1 n45 n46 (List.set ns47 (Int.toNat n53) n54) ts48 n49 n50 b51 b52) none) none)) (k1 n45 n46 ns47 ts48 n49 n50 b51 b52))
noncomputable def ref36_Set (n45 : Int) (n46 : Int) (ns47 : List Int) (ts48 : List (Int × Int × Unit)) (n49 : Int) (n50 : Int) (b51 : Bool) (b52 : Bool) (n53 : Int) (n54 : Int) (k1 : Int → Int → (List Int) → (List (Int × Int × Unit)) → Int → Int → Bool → Bool → Option Bool) : Option Bool := ref36_Set.body n45 n46 ns47 ts48 n49 n50 b51 b52 n53 n54 k1
noncomputable def ref36_Set.get (F : Int → Int → (List Int) → (List (Int × Int × Unit)) → Int → Int → Bool → Bool → Int → Int → (Int → Int → (List Int) → (List (Int × Int × Unit)) → Int → Int → Bool → Bool → Option Bool) → Option Bool) (e : Option Bool) (g : FuncId) (a : List AV) (h : Heap) (k : KR) : Option Bool := match g, a, h with
  | 13, [(.agg [(.d ⟨(.int .i64), n45⟩), (.d ⟨(.int .i64), n46⟩), (.bv 0 2 (.int .i64) ns47), (.bv 1 39 (.st [(.int .i64), (.int .i64)]) ts48), (.d ⟨(.int .i64), n49⟩), (.d ⟨(.int .i64), n50⟩), (.d ⟨.bool, b51⟩), (.d ⟨.bool, b52⟩)]), (.d ⟨(.int .i64), n53⟩), (.d ⟨(.int .i64), n54⟩)], [] => F n45 n46 ns47 ts48 n49 n50 b51 b52 n53 n54 (fun y0 y1 y2 y3 y4 y5 y6 y7 => k (.agg [(.d ⟨(.int .i64), y0⟩), (.d ⟨(.int .i64), y1⟩), (.bv 0 2 (.int .i64) y2), (.bv 1 39 (.st [(.int .i64), (.int .i64)]) y3), (.d ⟨(.int .i64), y4⟩), (.d ⟨(.int .i64), y5⟩), (.d ⟨.bool, y6⟩), (.d ⟨.bool, y7⟩)]) [])
  | _, _, _ => e
noncomputable def ref36_Set.calls : RecF := fun g a h k => none
noncomputable def ref36_Set.loops : LoopF := fun b => none
set_option maxRecDepth 100000 in
theorem ref36_Set.eq (n45 : Int) (n46 : Int) (ns47 : List Int) (ts48 : List (Int × Int × Unit)) (n49 : Int) (n50 : Int) (b51 : Bool) (b52 : Bool) (n53 : Int) (n54 : Int) (k : KR) : execL Try.prog ht 13 (callfOf (ref36_Set.calls)) (ref36_Set.loops) 0 (codeOf Try.f13) ⟨[(.agg [(.d ⟨(.int .i64), n45⟩), (.d ⟨(.int .i64), n46⟩), (.bv 0 2 (.int .i64) ns47), (.bv 1 39 (.st [(.int .i64), (.int .i64)]) ts48), (.d ⟨(.int .i64), n49⟩), (.d ⟨(.int .i64), n50⟩), (.d ⟨.bool, b51⟩), (.d ⟨.bool, b52⟩)]), (.d ⟨(.int .i64), n53⟩), (.d ⟨(.int .i64), n54⟩)] ++ List.replicate (Try.f13.ntmps - ([(.agg [(.d ⟨(.int .i64), n45⟩), (.d ⟨(.int .i64), n46⟩), (.bv 0 2 (.int .i64) ns47), (.bv 1 39 (.st [(.int .i64), (.int .i64)]) ts48), (.d ⟨(.int .i64), n49⟩), (.d ⟨(.int .i64), n50⟩), (.d ⟨.bool, b51⟩), (.d ⟨.bool, b52⟩)]), (.d ⟨(.int .i64), n53⟩), (.d ⟨(.int .i64), n54⟩)] : List AV).length) .undef, [], 2⟩ (leave Try.prog Try.f13 k) = ref36_Set.body n45 n46 ns47 ts48 n49 n50 b51 b52 n53 n54 (fun y0 y1 y2 y3 y4 y5 y6 y7 => k (.agg [(.d ⟨(.int .i64), y0⟩), (.d ⟨(.int .i64), y1⟩), (.bv 0 2 (.int .i64) y2), (.bv 1 39 (.st [(.int .i64), (.int .i64)]) y3), (.d ⟨(.int .i64), y4⟩), (.d ⟨(.int .i64), y5⟩), (.d ⟨.bool, y6⟩), (.d ⟨.bool, y7⟩)]) []) := by kernel_rfl
theorem ref36_Set.ok (d : Nat) (hd : 1 ≤ d) (n45 : Int) (n46 : Int) (ns47 : List Int) (ts48 : List (Int × Int × Unit)) (n49 : Int) (n50 : Int) (b51 : Bool) (b52 : Bool) (n53 : Int) (n54 : Int) (k : KR) (hx : ref36_Set n45 n46 ns47 ts48 n49 n50 b51 b52 n53 n54 (fun y0 y1 y2 y3 y4 y5 y6 y7 => k (.agg [(.d ⟨(.int .i64), y0⟩), (.d ⟨(.int .i64), y1⟩), (.bv 0 2 (.int .i64) y2), (.bv 1 39 (.st [(.int .i64), (.int .i64)]) y3), (.d ⟨(.int .i64), y4⟩), (.d ⟨(.int .i64), y5⟩), (.d ⟨.bool, y6⟩), (.d ⟨.bool, y7⟩)]) []) = some true) : callK Try.prog ht d 13 [(.agg [(.d ⟨(.int .i64), n45⟩), (.d ⟨(.int .i64), n46⟩), (.bv 0 2 (.int .i64) ns47), (.bv 1 39 (.st [(.int .i64), (.int .i64)]) ts48), (.d ⟨(.int .i64), n49⟩), (.d ⟨(.int .i64), n50⟩), (.d ⟨.bool, b51⟩), (.d ⟨.bool, b52⟩)]), (.d ⟨(.int .i64), n53⟩), (.d ⟨(.int .i64), n54⟩)] [] k = some true := by
  obtain ⟨d, rfl⟩ : ∃ e, d = e + 1 := ⟨d - 1, by omega⟩
  exact fn_ok (c := codeOf Try.f13) Try.func13 (by kernel_rfl) (rec := ref36_Set.calls) (fun g a h k hx => by
    cases hx) (loopf := ref36_Set.loops) (by
    have e : loopsOf (ref36_Set.loops) 0 (codeOf Try.f13) = [] := by kernel_rfl
    rw [e]
    intro p hp
    cases hp) ((ref36_Set.eq n45 n46 ns47 ts48 n49 n50 b51 b52 n53 n54 k).trans hx)
theorem ref36_Set.look (d : Nat) (hd : 1 ≤ d) {e : Option Bool} {g : FuncId} {a : List AV} {h : Heap} {k : KR} (hx : ref36_Set.get ref36_Set e g a h k = some true) : e = some true ∨ callK Try.prog ht d g a h k = some true := by
  unfold ref36_Set.get at hx
  split at hx
  · exact .inr (ref36_Set.ok d hd _ _ _ _ _ _ _ _ _ _ _ hx)
  · exact .inl hx
/-- function 31: slices.Clone[[]int64,int64] -/
noncomputable def slices_Clone_int64_int64.body (ns65 : List Int) (k1 : (List Int) → Option Bool) : Option Bool :=
  (cond_ (List.isEmpty ns65) (meet (k1 []) (cond_ (Nat.ble (((0 : Nat) + (List.length ns65)) * (8 : Nat)) (140737488355328 : Nat)) (k1 ([] ++ ns65)) none)) (cond_ (Nat.ble (((0 : Nat) + (List.length ns65)) * (8 : Nat)) (140737488355328 : Nat)) (k1 ([] ++ ns65)) none))
noncomputable def slices_Clone_int64_int64 (ns65 : List Int) (k1 : (List Int) → Option Bool) : Option Bool := slices_Clone_int64_int64.body ns65 k1
noncomputable def slices_Clone_int64_int64.get (F : (List Int) → ((List Int) → Option Bool) → Option Bool) (e : Option Bool) (g : FuncId) (a : List AV) (h : Heap) (k : KR) : Option Bool := match g, a, h with
  | 31, [(.bv 0 2 (.int .i64) ns65)], [] => F ns65 (fun y0 => k (.ref [1, 0]) [([1, 0], ⟨2, 1, (.data (.int .i64) y0)⟩)])
  | _, _, _ => e
noncomputable def slices_Clone_int64_int64.calls : RecF := fun g a h k => none
noncomputable def slices_Clone_int64_int64.loops : LoopF := fun b => none
set_option maxRecDepth 100000 in
theorem slices_Clone_int64_int64.eq (ns65 : List Int) (k : KR) : execL Try.prog ht 31 (callfOf (slices_Clone_int64_int64.calls)) (slices_Clone_int64_int64.loops) 0 (codeOf Try.f31) ⟨[(.bv 0 2 (.int .i64) ns65)] ++ List.replicate (Try.f31.ntmps - ([(.bv 0 2 (.int .i64) ns65)] : List AV).length) .undef, [], 2⟩ (leave Try.prog Try.f31 k) = slices_Clone_int64_int64.body ns65 (fun y0 => k (.ref [1, 0]) [([1, 0], ⟨2, 1, (.data (.int .i64) y0)⟩)]) := by kernel_rfl
theorem slices_Clone_int64_int64.ok (d : Nat) (hd : 1 ≤ d) (ns65 : List Int) (k : KR) (hx : slices_Clone_int64_int64 ns65 (fun y0 => k (.ref [1, 0]) [([1, 0], ⟨2, 1, (.data (.int .i64) y0)⟩)]) = some true) : callK Try.prog ht d 31 [(.bv 0 2 (.int .i64) ns65)] [] k = some true := by
  obtain ⟨d, rfl⟩ : ∃ e, d = e + 1 := ⟨d - 1, by omega⟩
  exact fn_ok (c := codeOf Try.f31) Try.func31 (by kernel_rfl) (rec := slices_Clone_int64_int64.calls) (fun g a h k hx => by
    cases hx) (loopf := slices_Clone_int64_int64.loops) (by
    have e : loopsOf (slices_Clone_int64_int64.loops) 0 (codeOf Try.f31) = [] := by kernel_rfl
    rw [e]
    intro p hp
    cases hp) ((slices_Clone_int64_int64.eq ns65 k).trans hx)
theorem slices_Clone_int64_int64.look (d : Nat) (hd : 1 ≤ d) {e : Option Bool} {g : FuncId} {a : List AV} {h : Heap} {k : KR} (hx : slices_Clone_int64_int64.get slices_Clone_int64_int64 e g a h k = some true) : e = some true ∨ callK Try.prog ht d g a h k = some true := by
  unfold slices_Clone_int64_int64.get at hx
  split at hx
  · exact .inr (slices_Clone_int64_int64.ok d hd _ _ hx)
  · exact .inl hx
/-- function 32: slices.Clone[[]sheerleg/api.Pend,sheerleg/api.Pend] -/
noncomputable def slices_Clone_api_Pend_api_Pend.body (ts67 : List (Int × Int × Unit)) (k1 : (List (Int × Int × Unit)) → Option Bool) : Option Bool :=
  (cond_ (List.isEmpty ts67) (meet (k1 []) (cond_ (Nat.ble (((0 : Nat) + (List.length ts67)) * (16 : Nat)) (140737488355328 : Nat)) (k1 ([] ++ ts67)) none)) (cond_ (Nat.ble (((0 : Nat) + (List.length ts67)) * (16 : Nat)) (140737488355328 : Nat)) (k1 ([] ++ ts67)) none))
noncomputable def slices_Clone_api_Pend_api_Pend (ts67 : List (Int × Int × Unit)) (k1 : (List (Int × Int × Unit)) → Option Bool) : Option Bool := slices_Clone_api_Pend_api_Pend.body ts67 k1
noncomputable def slices_Clone_api_Pend_api_Pend.get (F : (List (Int × Int × Unit)) → ((List (Int × Int × Unit)) → Option Bool) → Option Bool) (e : Option Bool) (g : FuncId) (a : List AV) (h : Heap) (k : KR) : Option Bool := match g, a, h with
  | 32, [(.bv 0 39 (.st [(.int .i64), (.int .i64)]) ts67)], [] => F ts67 (fun y0 => k (.ref [1, 0]) [([1, 0], ⟨39, 2, (.data (.st [(.int .i64), (.int .i64)]) y0)⟩)])
  | _, _, _ => e
noncomputable def slices_Clone_api_Pend_api_Pend.calls : RecF := fun g a h k => none
noncomputable def slices_Clone_api_Pend_api_Pend.loops : LoopF := fun b => none
set_option maxRecDepth 100000 in
theorem slices_Clone_api_Pend_api_Pend.eq (ts67 : List (Int × Int × Unit)) (k : KR) : execL Try.prog ht 32 (callfOf (slices_Clone_api_Pend_api_Pend.calls)) (slices_Clone_api_Pend_api_Pend.loops) 0 (codeOf Try.f32) ⟨[(.bv 0 39 (.st [(.int .i64), (.int .i64)]) ts67)] ++ List.replicate (Try.f32.ntmps - ([(.bv 0 39 (.st [(.int .i64), (.int .i64)]) ts67)] : List AV).length) .undef, [], 2⟩ (leave Try.prog Try.f32 k) = slices_Clone_api_Pend_api_Pend.body ts67 (fun y0 => k (.ref [1, 0]) [([1, 0], ⟨39, 2, (.data (.st [(.int .i64), (.int .i64)]) y0)⟩)]) := by kernel_rfl
theorem slices_Clone_api_Pend_api_Pend.ok (d : Nat) (hd : 1 ≤ d) (ts67 : List (Int × Int × Unit)) (k : KR) (hx : slices_Clone_api_Pend_api_Pend ts67 (fun y0 => k (.ref [1, 0]) [([1, 0], ⟨39, 2, (.data (.st [(.int .i64), (.int .i64)]) y0)⟩)]) = some true) : callK Try.prog ht d 32 [(.bv 0 39 (.st [(.int .i64), (.int .i64)]) ts67)] [] k = some true := by
  obtain ⟨d, rfl⟩ : ∃ e, d = e + 1 := ⟨d - 1, by omega⟩
  exact fn_ok (c := codeOf Try.f32) Try.func32 (by kernel_rfl) (rec := slices_Clone_api_Pend_api_Pend.calls) (fun g a h k hx => by
    cases hx) (loopf := slices_Clone_api_Pend_api_Pend.loops) (by
    have e : loopsOf (slices_Clone_api_Pend_api_Pend.loops) 0 (codeOf Try.f32) = [] := by kernel_rfl
    rw [e]
    intro p hp
    cases hp) ((slices_Clone_api_Pend_api_Pend.eq ts67 k).trans hx)
theorem slices_Clone_api_Pend_api_Pend.look (d : Nat) (hd : 1 ≤ d) {e : Option Bool} {g : FuncId} {a : List AV} {h : Heap} {k : KR} (hx : slices_Clone_api_Pend_api_Pend.get slices_Clone_api_Pend_api_Pend e g a h k = some true) : e = some true ∨ callK Try.prog ht d g a h k = some true := by
  unfold slices_Clone_api_Pend_api_Pend.get at hx
  split at hx
  · exact .inr (slices_Clone_api_Pend_api_Pend.ok d hd _ _ hx)
  · exact .inl hx
/-- function 28: sheerleg/frames.own -/
noncomputable def frames_own.body (slices_Clone_int64_int64 : (List Int) → ((List Int) → Option Bool) → Option Bool) (slices_Clone_api_Pend_api_Pend : (List (Int × Int × Unit)) → ((List (Int × Int × Unit)) → Option Bool) → Option Bool) (t64 : Int × Int × (List Int) × (List (Int × Int × Unit)) × Int × Int × Bool × Bool × Unit) (k1 : Int → Int → Int → Int → Bool → Bool → (List Int) → (List (Int × Int × Unit)) → Option Bool) : Option Bool :=
  (slices_Clone_int64_int64 t64.2.2.1
  (fun ns66 => (slices_Clone_api_Pend_api_Pend t64.2.2.2.1
  (fun ts68 => (k1 t64.1 t64.2.1 t64.2.2.2.2.1 t64.2.2.2.2.2.1 t64.2.2.2.2.2.2.1 t64.2.2.2.2.2.2.2.1 ns66 ts68)))))
noncomputable def frames_own (t64 : Int × Int × (List Int) × (List (Int × Int × Unit)) × Int × Int × Bool × Bool × Unit) (k1 : Int → Int → Int → Int → Bool → Bool → (List Int) → (List (Int × Int × Unit)) → Option Bool) : Option Bool := frames_own.body slices_Clone_int64_int64 slices_Clone_api_Pend_api_Pend t64 k1
noncomputable def frames_own.get (F : (Int × Int × (List Int) × (List (Int × Int × Unit)) × Int × Int × Bool × Bool × Unit) → (Int → Int → Int → Int → Bool → Bool → (List Int) → (List (Int × Int × Unit)) → Option Bool) → Option Bool) (e : Option Bool) (g : FuncId) (a : List AV) (h : Heap) (k : KR) : Option Bool := match g, a, h with
  | 28, [(.d ⟨(.st [(.int .i64), (.int .i64), (.sl 2 (.int .i64)), (.sl 39 (.st [(.int .i64), (.int .i64)])), (.int .i64), (.int .i64), .bool, .bool]), t64⟩)], [] => F t64 (fun y0 y1 y2 y3 y4 y5 y6 y7 => k (.agg [(.d ⟨(.int .i64), y0⟩), (.d ⟨(.int .i64), y1⟩), (.ref [1, 0]), (.ref [1, 1]), (.d ⟨(.int .i64), y2⟩), (.d ⟨(.int .i64), y3⟩), (.d ⟨.bool, y4⟩), (.d ⟨.bool, y5⟩)]) [([1, 0], ⟨2, 1, (.data (.int .i64) y6)⟩), ([1, 1], ⟨39, 2, (.data (.st [(.int .i64), (.int .i64)]) y7)⟩)])
  | _, _, _ => e
noncomputable def frames_own.calls (F0 : (List Int) → ((List Int) → Option Bool) → Option Bool) (F1 : (List (Int × Int × Unit)) → ((List (Int × Int × Unit)) → Option Bool) → Option Bool) : RecF := fun g a h k => (slices_Clone_int64_int64.get F0 (slices_Clone_api_Pend_api_Pend.get F1 none g a h k) g a h k)
noncomputable def frames_own.loops : LoopF := fun b => none
set_option maxRecDepth 100000 in
theorem frames_own.eq (F0 : (List Int) → ((List Int) → Option Bool) → Option Bool) (F1 : (List (Int × Int × Unit)) → ((List (Int × Int × Unit)) → Option Bool) → Option Bool) (t64 : Int × Int × (List Int) × (List (Int × Int × Unit)) × Int × Int × Bool × Bool × Unit) (k : KR) : execL Try.prog ht 28 (callfOf (frames_own.calls F0 F1)) (frames_own.loops) 0 (codeOf Try.f28) ⟨[(.d ⟨(.st [(.int .i64), (.int .i64), (.sl 2 (.int .i64)), (.sl 39 (.st [(.int .i64), (.int .i64)])), (.int .i64), (.int .i64), .bool, .bool]), t64⟩)] ++ List.replicate (Try.f28.ntmps - ([(.d ⟨(.st [(.int .i64), (.int .i64), (.sl 2 (.int .i64)), (.sl 39 (.st [(.int .i64), (.int .i64)])), (.int .i64), (.int .i64), .bool, .bool]), t64⟩)] : List AV).length) .undef, [], 2⟩ (leave Try.prog Try.f28 k) = frames_own.body F0 F1 t64 (fun y0 y1 y2 y3 y4 y5 y6 y7 => k (.agg [(.d ⟨(.int .i64), y0⟩), (.d ⟨(.int .i64), y1⟩), (.ref [1, 0]), (.ref [1, 1]), (.d ⟨(.int .i64), y2⟩), (.d ⟨(.int .i64), y3⟩), (.d ⟨.bool, y4⟩), (.d ⟨.bool, y5⟩)]) [([1, 0], ⟨2, 1, (.data (.int .i64) y6)⟩), ([1, 1], ⟨39, 2, (.data (.st [(.int .i64), (.int .i64)]) y7)⟩)]) := by kernel_rfl
theorem frames_own.ok (d : Nat) (hd : 2 ≤ d) (t64 : Int × Int × (List Int) × (List (Int × Int × Unit)) × Int × Int × Bool × Bool × Unit) (k : KR) (hx : frames_own t64 (fun y0 y1 y2 y3 y4 y5 y6 y7 => k (.agg [(.d ⟨(.int .i64), y0⟩), (.d ⟨(.int .i64), y1⟩), (.ref [1, 0]), (.ref [1, 1]), (.d ⟨(.int .i64), y2⟩), (.d ⟨(.int .i64), y3⟩), (.d ⟨.bool, y4⟩), (.d ⟨.bool, y5⟩)]) [([1, 0], ⟨2, 1, (.data (.int .i64) y6)⟩), ([1, 1], ⟨39, 2, (.data (.st [(.int .i64), (.int .i64)]) y7)⟩)]) = some true) : callK Try.prog ht d 28 [(.d ⟨(.st [(.int .i64), (.int .i64), (.sl 2 (.int .i64)), (.sl 39 (.st [(.int .i64), (.int .i64)])), (.int .i64), (.int .i64), .bool, .bool]), t64⟩)] [] k = some true := by
  obtain ⟨d, rfl⟩ : ∃ e, d = e + 1 := ⟨d - 1, by omega⟩
  exact fn_ok (c := codeOf Try.f28) Try.func28 (by kernel_rfl) (rec := frames_own.calls slices_Clone_int64_int64 slices_Clone_api_Pend_api_Pend) (fun g a h k hx => by
    rcases slices_Clone_int64_int64.look d (by omega) hx with hx | hx
    rotate_left
    · exact hx
    rcases slices_Clone_api_Pend_api_Pend.look d (by omega) hx with hx | hx
    rotate_left
    · exact hx
    cases hx) (loopf := frames_own.loops) (by
    have e : loopsOf (frames_own.loops) 0 (codeOf Try.f28) = [] := by kernel_rfl
    rw [e]
    intro p hp
    cases hp) ((frames_own.eq slices_Clone_int64_int64 slices_Clone_api_Pend_api_Pend t64 k).trans hx)
theorem frames_own.look (d : Nat) (hd : 2 ≤ d) {e : Option Bool} {g : FuncId} {a : List AV} {h : Heap} {k : KR} (hx : frames_own.get frames_own e g a h k = some true) : e = some true ∨ callK Try.prog ht d g a h k = some true := by
  unfold frames_own.get at hx
  split at hx
  · exact .inr (frames_own.ok d hd _ _ hx)
  · exact .inl hx
/-- function 16: sheerleg/frames.Next -/
noncomputable def frames_Next.body (frames_own : (Int × Int × (List Int) × (List (Int × Int × Unit)) × Int × Int × Bool × Bool × Unit) → (Int → Int → Int → Int → Bool → Bool → (List Int) → (List (Int × Int × Unit)) → Option Bool) → Option Bool) (t100 : Int × Int × (List Int) × (List (Int × Int × Unit)) × Int × Int × Bool × Bool × Unit) (k1 : (Int × Int × Unit) → (Int × Int × (List Int) × (List (Int × Int × Unit)) × Int × Int × Bool × Bool × Unit) → Bool → Option Bool) : Option Bool :=
  (frames_own t100
  (fun n101 n102 n103 n104 b105 b106 ns107 ts108 => (cond_ (decide ((IntKind.wrap .i64 ((((List.length t100.2.2.2.1) : Nat) : Int) - (1 : Int))) < (0 : Int))) (k1 ((0 : Int), ((0 : Int), ())) (n101, (n102, (ns107, (ts108, (n103, (n104, (b105, (b106, ())))))))) false) (cond_ ((decide ((0 : Int) ≤ (IntKind.wrap .i64 ((((List.length t100.2.2.2.1) : Nat) : Int) - (1 : Int))))) && (decide ((IntKind.wrap .i64 ((((List.length t100.2.2.2.1) : Nat) : Int) - (1 : Int))) < (((List.length ts108) : Nat) : Int)))) (cond_ (((true && (decide ((0 : Int) ≤ (IntKind.wrap .i64 ((((List.length t100.2.2.2.1) : Nat) : Int) - (1 : Int)))))) && (decide ((IntKind.wrap .i64 ((((List.length t100.2.2.2.1) : Nat) : Int) - (1 : Int))) ≤ (IntKind.wrap .i64 ((((List.length t100.2.2.2.1) : Nat) : Int) - (1 : Int)))))) && (decide ((IntKind.wrap .i64 ((((List.length t100.2.2.2.1) : Nat) : Int) - (1 : Int))) ≤ (((List.length ts108) : Nat) : Int)))) (k1 (List.getD ts108 (Int.toNat (IntKind.wrap .i64 ((((List.length t100.2.2.2.1) : Nat) : Int) - (1 : Int)))) ((0 : Int), ((0 : Int), ()))) (n101, (n102, (ns107, ((List.take (Int.toNat ((IntKind.wrap .i64 ((((List.length t100.2.2.2.1) : Nat) : Int) - (1 : Int))) - (0 : Int))) (List.drop (0 : Nat) ts108)), (n103, (n104, (b105, (b106, ())))))))) true) none) none))))
noncomputable def frames_Next (t100 : Int × Int × (List Int) × (List (Int × Int × Unit)) × Int × Int × Bool × Bool × Unit) (k1 : (Int × Int × Unit) → (Int × Int × (List Int) × (List (Int × Int × Unit)) × Int × Int × Bool × Bool × Unit) → Bool → Option Bool) : Option Bool := frames_Next.body frames_own t100 k1
noncomputable def frames_Next.get (F : (Int × Int × (List Int) × (List (Int × Int × Unit)) × Int × Int × Bool × Bool × Unit) → ((Int × Int × Unit) → (Int × Int × (List Int) × (List (Int × Int × Unit)) × Int × Int × Bool × Bool × Unit) → Bool → Option Bool) → Option Bool) (e : Option Bool) (g : FuncId) (a : List AV) (h : Heap) (k : KR) : Option Bool := match g, a, h with
  | 16, [(.d ⟨(.st [(.int .i64), (.int .i64), (.sl 2 (.int .i64)), (.sl 39 (.st [(.int .i64), (.int .i64)])), (.int .i64), (.int .i64), .bool, .bool]), t100⟩)], [] => F t100 (fun y0 y1 y2 => k (.tup [(.d ⟨(.st [(.int .i64), (.int .i64)]), y0⟩), (.d ⟨(.st [(.int .i64), (.int .i64), (.sl 2 (.int .i64)), (.sl 39 (.st [(.int .i64), (.int .i64)])), (.int .i64), (.int .i64), .bool, .bool]), y1⟩), (.d ⟨.bool, y2⟩)]) [])
  | _, _, _ => e
noncomputable def frames_Next.calls (F0 : (Int × Int × (List Int) × (List (Int × Int × Unit)) × Int × Int × Bool × Bool × Unit) → (Int → Int → Int → Int → Bool → Bool → (List Int) → (List (Int × Int × Unit)) → Option Bool) → Option Bool) : RecF := fun g a h k => (frames_own.get F0 none g a h k)
noncomputable def frames_Next.loops : LoopF := fun b => none
set_option maxRecDepth 100000 in
theorem frames_Next.eq (F0 : (Int × Int × (List Int) × (List (Int × Int × Unit)) × Int × Int × Bool × Bool × Unit) → (Int → Int → Int → Int → Bool → Bool → (List Int) → (List (Int × Int × Unit)) → Option Bool) → Option Bool) (t100 : Int × Int × (List Int) × (List (Int × Int × Unit)) × Int × Int × Bool × Bool × Unit) (k : KR) : execL Try.prog ht 16 (callfOf (frames_Next.calls F0)) (frames_Next.loops) 0 (codeOf Try.f16) ⟨[(.d ⟨(.st [(.int .i64), (.int .i64), (.sl 2 (.int .i64)), (.sl 39 (.st [(.int .i64), (.int .i64)])), (.int .i64), (.int .i64), .bool, .bool]), t100⟩)] ++ List.replicate (Try.f16.ntmps - ([(.d ⟨(.st [(.int .i64), (.int .i64), (.sl 2 (.int .i64)), (.sl 39 (.st [(.int .i64), (.int .i64)])), (.int .i64), (.int .i64), .bool, .bool]), t100⟩)] : List AV).length) .undef, [], 2⟩ (leave Try.prog Try.f16 k) = frames_Next.body F0 t100 (fun y0 y1 y2 => k (.tup [(.d ⟨(.st [(.int .i64), (.int .i64)]), y0⟩), (.d ⟨(.st [(.int .i64), (.int .i64), (.sl 2 (.int .i64)), (.sl 39 (.st [(.int .i64), (.int .i64)])), (.int .i64), (.int .i64), .bool, .bool]), y1⟩), (.d ⟨.bool, y2⟩)]) []) := by kernel_rfl
theorem frames_Next.ok (d : Nat) (hd : 3 ≤ d) (t100 : Int × Int × (List Int) × (List (Int × Int × Unit)) × Int × Int × Bool × Bool × Unit) (k : KR) (hx : frames_Next t100 (fun y0 y1 y2 => k (.tup [(.d ⟨(.st [(.int .i64), (.int .i64)]), y0⟩), (.d ⟨(.st [(.int .i64), (.int .i64), (.sl 2 (.int .i64)), (.sl 39 (.st [(.int .i64), (.int .i64)])), (.int .i64), (.int .i64), .bool, .bool]), y1⟩), (.d ⟨.bool, y2⟩)]) []) = some true) : callK Try.prog ht d 16 [(.d ⟨(.st [(.int .i64), (.int .i64), (.sl 2 (.int .i64)), (.sl 39 (.st [(.int .i64), (.int .i64)])), (.int .i64), (.int .i64), .bool, .bool]), t100⟩)] [] k = some true := by
  obtain ⟨d, rfl⟩ : ∃ e, d = e + 1 := ⟨d - 1, by omega⟩
  exact fn_ok (c := codeOf Try.f16) Try.func16 (by kernel_rfl) (rec := frames_Next.calls frames_own) (fun g a h k hx => by
    rcases frames_own.look d (by omega) hx with hx | hx
    rotate_left
    · exact hx
    cases hx) (loopf := frames_Next.loops) (by
    have e : loopsOf (frames_Next.loops) 0 (codeOf Try.f16) = [] := by kernel_rfl
    rw [e]
    intro p hp
    cases hp) ((frames_Next.eq frames_own t100 k).trans hx)
theorem frames_Next.look (d : Nat) (hd : 3 ≤ d) {e : Option Bool} {g : FuncId} {a : List AV} {h : Heap} {k : KR} (hx : frames_Next.get frames_Next e g a h k = some true) : e = some true ∨ callK Try.prog ht d g a h k = some true := by
  unfold frames_Next.get at hx
  split at hx
  · exact .inr (frames_Next.ok d hd _ _ hx)
  · exact .inl hx
/-- function 17: sheerleg/sheerlegref36.Next -/
noncomputable def ref36_Next.body (t139 : Int × Int × (List Int) × (List (Int × Int × Unit)) × Int × Int × Bool × Bool × Unit) (k1 : (Int × Int × Unit) → (Int × Int × (List Int) × (List (Int × Int × Unit)) × Int × Int × Bool × Bool × Unit) → Bool → Option Bool) : Option Bool :=
  (cond_ ((((List.length t139.2.2.2.1) : Nat) : Int) == (0 : Int)) (k1 ((0 : Int), ((0 : Int), ())) (t139.1, (t139.2.1, (t139.2.2.1, (t139.2.2.2.1, (t139.2.2.2.2.1, (t139.2.2.2.2.2.1, (t139.2.2.2.2.2.2.1, (t139.2.2.2.2.2.2.2.1, ())))))))) false) (cond_ ((decide ((0 : Int) ≤ (IntKind.wrap .i64 ((((List.length t139.2.2.2.1) : Nat) : Int) - (1 : Int))))) && (decide ((IntKind.wrap .i64 ((((List.length t139.2.2.2.1) : Nat) : Int) - (1 : Int))) < (((List.length t139.2.2.2.1) : Nat) : Int)))) (cond_ ((true && (decide ((0 : Int) ≤ (IntKind.wrap .i64 ((((List.length t139.2.2.2.1) : Nat) : Int) - (1 : Int)))))) && (decide ((IntKind.wrap .i64 ((((List.length t139.2.2.2.1) : Nat) : Int) - (1 : Int))) ≤ (((List.length t139.2.2.2.1) : Nat) : Int)))) (cond_ (Nat.ble ((List.length (List.take (Int.toNat ((IntKind.wrap .i64 ((((List.length t139.2.2.2.1) : Nat) : Int) - (1 : Int))) - (0 : Int))) (List.drop (0 : Nat) t139.2.2.2.1))) * (16 : Nat)) (140737488355328 : Nat)) (k1 (List.getD t139.2.2.2.1 (Int.toNat (IntKind.wrap .i64 ((((List.length t139.2.2.2.1) : Nat) : Int) - (1 : Int)))) ((0 : Int), ((0 : Int), ()))) (t139.1, (t139.2.1, (t139.2.2.1, ((List.take (Int.toNat ((IntKind.wrap .i64 ((((List.length t139.2.2.2.1) : Nat) : Int) - (1 : Int))) - (0 : Int))) (List.drop (0 : Nat) t139.2.2.2.1)), (t139.2.2.2.2.1, (t139.2.2.2.2.2.1, (t139.2.2.2.2.2.2.1, (t139.2.2.2.2.2.2.2.1, ())))))))) true) none) none) none))
noncomputable def ref36_Next (t139 : Int × Int × (List Int) × (List (Int × Int × Unit)) × Int × Int × Bool × Bool × Unit) (k1 : (Int × Int × Unit) → (Int × Int × (List Int) × (List (Int × Int × Unit)) × Int × Int × Bool × Bool × Unit) → Bool → Option Bool) : Option Bool := ref36_Next.body t139 k1
noncomputable def ref36_Next.get (F : (Int × Int × (List Int) × (List (Int × Int × Unit)) × Int × Int × Bool × Bool × Unit) → ((Int × Int × Unit) → (Int × Int × (List Int) × (List (Int × Int × Unit)) × Int × Int × Bool × Bool × Unit) → Bool → Option Bool) → Option Bool) (e : Option Bool) (g : FuncId) (a : List AV) (h : Heap) (k : KR) : Option Bool := match g, a, h with
  | 17, [(.d ⟨(.st [(.int .i64), (.int .i64), (.sl 2 (.int .i64)), (.sl 39 (.st [(.int .i64), (.int .i64)])), (.int .i64), (.int .i64), .bool, .bool]), t139⟩)], [] => F t139 (fun y0 y1 y2 => k (.tup [(.d ⟨(.st [(.int .i64), (.int .i64)]), y0⟩), (.d ⟨(.st [(.int .i64), (.int .i64), (.sl 2 (.int .i64)), (.sl 39 (.st [(.int .i64), (.int .i64)])), (.int .i64), (.int .i64), .bool, .bool]), y1⟩), (.d ⟨.bool, y2⟩)]) [])
  | _, _, _ => e
noncomputable def ref36_Next.calls : RecF := fun g a h k => none
noncomputable def ref36_Next.loops : LoopF := fun b => none
set_option maxRecDepth 100000 in
theorem ref36_Next.eq (t139 : Int × Int × (List Int) × (List (Int × Int × Unit)) × Int × Int × Bool × Bool × Unit) (k : KR) : execL Try.prog ht 17 (callfOf (ref36_Next.calls)) (ref36_Next.loops) 0 (codeOf Try.f17) ⟨[(.d ⟨(.st [(.int .i64), (.int .i64), (.sl 2 (.int .i64)), (.sl 39 (.st [(.int .i64), (.int .i64)])), (.int .i64), (.int .i64), .bool, .bool]), t139⟩)] ++ List.replicate (Try.f17.ntmps - ([(.d ⟨(.st [(.int .i64), (.int .i64), (.sl 2 (.int .i64)), (.sl 39 (.st [(.int .i64), (.int .i64)])), (.int .i64), (.int .i64), .bool, .bool]), t139⟩)] : List AV).length) .undef, [], 2⟩ (leave Try.prog Try.f17 k) = ref36_Next.body t139 (fun y0 y1 y2 => k (.tup [(.d ⟨(.st [(.int .i64), (.int .i64)]), y0⟩), (.d ⟨(.st [(.int .i64), (.int .i64), (.sl 2 (.int .i64)), (.sl 39 (.st [(.int .i64), (.int .i64)])), (.int .i64), (.int .i64), .bool, .bool]), y1⟩), (.d ⟨.bool, y2⟩)]) []) := by kernel_rfl
theorem ref36_Next.ok (d : Nat) (hd : 1 ≤ d) (t139 : Int × Int × (List Int) × (List (Int × Int × Unit)) × Int × Int × Bool × Bool × Unit) (k : KR) (hx : ref36_Next t139 (fun y0 y1 y2 => k (.tup [(.d ⟨(.st [(.int .i64), (.int .i64)]), y0⟩), (.d ⟨(.st [(.int .i64), (.int .i64), (.sl 2 (.int .i64)), (.sl 39 (.st [(.int .i64), (.int .i64)])), (.int .i64), (.int .i64), .bool, .bool]), y1⟩), (.d ⟨.bool, y2⟩)]) []) = some true) : callK Try.prog ht d 17 [(.d ⟨(.st [(.int .i64), (.int .i64), (.sl 2 (.int .i64)), (.sl 39 (.st [(.int .i64), (.int .i64)])), (.int .i64), (.int .i64), .bool, .bool]), t139⟩)] [] k = some true := by
  obtain ⟨d, rfl⟩ : ∃ e, d = e + 1 := ⟨d - 1, by omega⟩
  exact fn_ok (c := codeOf Try.f17) Try.func17 (by kernel_rfl) (rec := ref36_Next.calls) (fun g a h k hx => by
    cases hx) (loopf := ref36_Next.loops) (by
    have e : loopsOf (ref36_Next.loops) 0 (codeOf Try.f17) = [] := by kernel_rfl
    rw [e]
    intro p hp
    cases hp) ((ref36_Next.eq t139 k).trans hx)
theorem ref36_Next.look (d : Nat) (hd : 1 ≤ d) {e : Option Bool} {g : FuncId} {a : List AV} {h : Heap} {k : KR} (hx : ref36_Next.get ref36_Next e g a h k = some true) : e = some true ∨ callK Try.prog ht d g a h k = some true := by
  unfold ref36_Next.get at hx
  split at hx
  · exact .inr (ref36_Next.ok d hd _ _ hx)
  · exact .inl hx
/-- function 18: sheerleg/sheerlegref36.Get -/
noncomputable def ref36_Get.body (t144 : Int × Int × (List Int) × (List (Int × Int × Unit)) × Int × Int × Bool × Bool × Unit) (n145 : Int) (k1 : Int → Option Bool) : Option Bool :=
  (cond_ (! (decide (n145 < (0 : Int)))) (cond_ (decide (n145 ≥ (((List.length t144.2.2.1) : Nat) : Int))) (k1 (0 : Int)) (cond_ ((decide ((0 : Int) ≤ n145)) && (decide (n145 < (((List.length t144.2.2.1) : Nat) : Int)))) (k1 (List.getD t144.2.2.1 (Int.toNat n145) (0 : Int))) none)) (k1 (0 : Int)))
noncomputable def ref36_Get (t144 : Int × Int × (List Int) × (List (Int × Int × Unit)) × Int × Int × Bool × Bool × Unit) (n145 : Int) (k1 : Int → Option Bool) : Option Bool := ref36_Get.body t144 n145 k1
noncomputable def ref36_Get.get (F : (Int × Int × (List Int) × (List (Int × Int × Unit)) × Int × Int × Bool × Bool × Unit) → Int → (Int → Option Bool) → Option Bool) (e : Option Bool) (g : FuncId) (a : List AV) (h : Heap) (k : KR) : Option Bool := match g, a, h with
  | 18, [(.d ⟨(.st [(.int .i64), (.int .i64), (.sl 2 (.int .i64)), (.sl 39 (.st [(.int .i64), (.int .i64)])), (.int .i64), (.int .i64), .bool, .bool]), t144⟩), (.d ⟨(.int .i64), n145⟩)], [] => F t144 n145 (fun y0 => k (.d ⟨(.int .i64), y0⟩) [])
  | _, _, _ => e
noncomputable def ref36_Get.calls : RecF := fun g a h k => none
noncomputable def ref36_Get.loops : LoopF := fun b => none
set_option maxRecDepth 100000 in
theorem ref36_Get.eq (t144 : Int × Int × (List Int) × (List (Int × Int × Unit)) × Int × Int × Bool × Bool × Unit) (n145 : Int) (k : KR) : execL Try.prog ht 18 (callfOf (ref36_Get.calls)) (ref36_Get.loops) 0 (codeOf Try.f18) ⟨[(.d ⟨(.st [(.int .i64), (.int .i64), (.sl 2 (.int .i64)), (.sl 39 (.st [(.int .i64), (.int .i64)])), (.int .i64), (.int .i64), .bool, .bool]), t144⟩), (.d ⟨(.int .i64), n145⟩)] ++ List.replicate (Try.f18.ntmps - ([(.d ⟨(.st [(.int .i64), (.int .i64), (.sl 2 (.int .i64)), (.sl 39 (.st [(.int .i64), (.int .i64)])), (.int .i64), (.int .i64), .bool, .bool]), t144⟩), (.d ⟨(.int .i64), n145⟩)] : List AV).length) .undef, [], 2⟩ (leave Try.prog Try.f18 k) = ref36_Get.body t144 n145 (fun y0 => k (.d ⟨(.int .i64), y0⟩) []) := by kernel_rfl
theorem ref36_Get.ok (d : Nat) (hd : 1 ≤ d) (t144 : Int × Int × (List Int) × (List (Int × Int × Unit)) × Int × Int × Bool × Bool × Unit) (n145 : Int) (k : KR) (hx : ref36_Get t144 n145 (fun y0 => k (.d ⟨(.int .i64), y0⟩) []) = some true) : callK Try.prog ht d 18 [(.d ⟨(.st [(.int .i64), (.int .i64), (.sl 2 (.int .i64)), (.sl 39 (.st [(.int .i64), (.int .i64)])), (.int .i64), (.int .i64), .bool, .bool]), t144⟩), (.d ⟨(.int .i64), n145⟩)] [] k = some true := by
  obtain ⟨d, rfl⟩ : ∃ e, d = e + 1 := ⟨d - 1, by omega⟩
  exact fn_ok (c := codeOf Try.f18) Try.func18 (by kernel_rfl) (rec := ref36_Get.calls) (fun g a h k hx => by
    cases hx) (loopf := ref36_Get.loops) (by
    have e : loopsOf (ref36_Get.loops) 0 (codeOf Try.f18) = [] := by kernel_rfl
    rw [e]
    intro p hp
    cases hp) ((ref36_Get.eq t144 n145 k).trans hx)
theorem ref36_Get.look (d : Nat) (hd : 1 ≤ d) {e : Option Bool} {g : FuncId} {a : List AV} {h : Heap} {k : KR} (hx : ref36_Get.get ref36_Get e g a h k = some true) : e = some true ∨ callK Try.prog ht d g a h k = some true := by
  unfold ref36_Get.get at hx
  split at hx
  · exact .inr (ref36_Get.ok d hd _ _ _ hx)
  · exact .inl hx
/-- function 19: sheerleg/frames.Set -/
noncomputable def frames_Set.body (frames_own : (Int × Int × (List Int) × (List (Int × Int × Unit)) × Int × Int × Bool × Bool × Unit) → (Int → Int → Int → Int → Bool → Bool → (List Int) → (List (Int × Int × Unit)) → Option Bool) → Option Bool) (t147 : Int × Int × (List Int) × (List (Int × Int × Unit)) × Int × Int × Bool × Bool × Unit) (n148 : Int) (n149 : Int) (k1 : Int → Int → Int → Int → Bool → Bool → (List Int) → (List (Int × Int × Unit)) → Option Bool) : Option Bool :=
  (frames_own t147
  (fun n150 n151 n152 n153 b154 b155 ns156 ts157 => (cond_ (decide (n148 ≥ (0 : Int))) (cond_ (decide (n148 < (((List.length ns156) : Nat) : Int))) (cond_ ((decide ((0 : Int) ≤ n148)) && (decide (n148 < (((List.length ns156) : Nat) : Int)))) (k1 n150 n151 n152 n153 b154 b155 (List.set ns156 (Int.toNat n148) n149) ts157) none) (k1 n150 n151 n152 n153 b154 b155 ns156 ts157)) (k1 n150 n151 n152 n153 b154 b155 ns156 ts157))))
noncomputable def frames_Set (t147 : Int × Int × (List Int) × (List (Int × Int × Unit)) × Int × Int × Bool × Bool × Unit) (n148 : Int) (n149 : Int) (k1 : Int → Int → Int → Int → Bool → Bool → (List Int) → (List (Int × Int × Unit)) → Option Bool) : Option Bool := frames_Set.body frames_own t147 n148 n149 k1
noncomputable def frames_Set.get (F : (Int × Int × (List Int) × (List (Int × Int × Unit)) × Int × Int × Bool × Bool × Unit) → Int → Int → (Int → Int → Int → Int → Bool → Bool → (List Int) → (List (Int × Int × Unit)) → Option Bool) → Option Bool) (e : Option Bool) (g : FuncId) (a : List AV) (h : Heap) (k : KR) : Option Bool := match g, a, h with
  | 19, [(.d ⟨(.st [(.int .i64), (.int .i64), (.sl 2 (.int .i64)), (.sl 39 (.st [(.int .i64), (.int .i64)])), (.int .i64), (.int .i64), .bool, .bool]), t147⟩), (.d ⟨(.int .i64), n148⟩), (.d ⟨(.int .i64), n149⟩)], [] => F t147 n148 n149 (fun y0 y1 y2 y3 y4 y5 y6 y7 => k (.agg [(.d ⟨(.int .i64), y0⟩), (.d ⟨(.int .i64), y1⟩), (.ref [1, 0]), (.ref [1, 1]), (.d ⟨(.int .i64), y2⟩), (.d ⟨(.int .i64), y3⟩), (.d ⟨.bool, y4⟩), (.d ⟨.bool, y5⟩)]) [([1, 0], ⟨2, 1, (.data (.int .i64) y6)⟩), ([1, 1], ⟨39, 2, (.data (.st [(.int .i64), (.int .i64)]) y7)⟩)])
  | _, _, _ => e
noncomputable def frames_Set.calls (F0 : (Int × Int × (List Int) × (List (Int × Int × Unit)) × Int × Int × Bool × Bool × Unit) → (Int → Int → Int → Int → Bool → Bool → (List Int) → (List (Int × Int × Unit)) → Option Bool) → Option Bool) : RecF := fun g a h k => (frames_own.get F0 none g a h k)
noncomputable def frames_Set.loops : LoopF := fun b => none
set_option maxRecDepth 100000 in
theorem frames_Set.eq (F0 : (Int × Int × (List Int) × (List (Int × Int × Unit)) × Int × Int × Bool × Bool × Unit) → (Int → Int → Int → Int → Bool → Bool → (List Int) → (List (Int × Int × Unit)) → Option Bool) → Option Bool) (t147 : Int × Int × (List Int) × (List (Int × Int × Unit)) × Int × Int × Bool × Bool × Unit) (n148 : Int) (n149 : Int) (k : KR) : execL Try.prog ht 19 (callfOf (frames_Set.calls F0)) (frames_Set.loops) 0 (codeOf Try.f19) ⟨[(.d ⟨(.st [(.int .i64), (.int .i64), (.sl 2 (.int .i64)), (.sl 39 (.st [(.int .i64), (.int .i64)])), (.int .i64), (.int .i64), .bool, .bool]), t147⟩), (.d ⟨(.int .i64), n148⟩), (.d ⟨(.int .i64), n149⟩)] ++ List.replicate (Try.f19.ntmps - ([(.d ⟨(.st [(.int .i64), (.int .i64), (.sl 2 (.int .i64)), (.sl 39 (.st [(.int .i64), (.int .i64)])), (.int .i64), (.int .i64), .bool, .bool]), t147⟩), (.d ⟨(.int .i64), n148⟩), (.d ⟨(.int .i64), n149⟩)] : List AV).length) .undef, [], 2⟩ (leave Try.prog Try.f19 k) = frames_Set.body F0 t147 n148 n149 (fun y0 y1 y2 y3 y4 y5 y6 y7 => k (.agg [(.d ⟨(.int .i64), y0⟩), (.d ⟨(.int .i64), y1⟩), (.ref [1, 0]), (.ref [1, 1]), (.d ⟨(.int .i64), y2⟩), (.d ⟨(.int .i64), y3⟩), (.d ⟨.bool, y4⟩), (.d ⟨.bool, y5⟩)]) [([1, 0], ⟨2, 1, (.data (.int .i64) y6)⟩), ([1, 1], ⟨39, 2, (.data (.st [(.int .i64), (.int .i64)]) y7)⟩)]) := by kernel_rfl
theorem frames_Set.ok (d : Nat) (hd : 3 ≤ d) (t147 : Int × Int × (List Int) × (List (Int × Int × Unit)) × Int × Int × Bool × Bool × Unit) (n148 : Int) (n149 : Int) (k : KR) (hx : frames_Set t147 n148 n149 (fun y0 y1 y2 y3 y4 y5 y6 y7 => k (.agg [(.d ⟨(.int .i64), y0⟩), (.d ⟨(.int .i64), y1⟩), (.ref [1, 0]), (.ref [1, 1]), (.d ⟨(.int .i64), y2⟩), (.d ⟨(.int .i64), y3⟩), (.d ⟨.bool, y4⟩), (.d ⟨.bool, y5⟩)]) [([1, 0], ⟨2, 1, (.data (.int .i64) y6)⟩), ([1, 1], ⟨39, 2, (.data (.st [(.int .i64), (.int .i64)]) y7)⟩)]) = some true) : callK Try.prog ht d 19 [(.d ⟨(.st [(.int .i64), (.int .i64), (.sl 2 (.int .i64)), (.sl 39 (.st [(.int .i64), (.int .i64)])), (.int .i64), (.int .i64), .bool, .bool]), t147⟩), (.d ⟨(.int .i64), n148⟩), (.d ⟨(.int .i64), n149⟩)] [] k = some true := by
  obtain ⟨d, rfl⟩ : ∃ e, d = e + 1 := ⟨d - 1, by omega⟩
  exact fn_ok (c := codeOf Try.f19) Try.func19 (by kernel_rfl) (rec := frames_Set.calls frames_own) (fun g a h k hx => by
    rcases frames_own.look d (by omega) hx with hx | hx
    rotate_left
    · exact hx
    cases hx) (loopf := frames_Set.loops) (by
    have e : loopsOf (frames_Set.loops) 0 (codeOf Try.f19) = [] := by kernel_rfl
    rw [e]
    intro p hp
    cases hp) ((frames_Set.eq frames_own t147 n148 n149 k).trans hx)
theorem frames_Set.look (d : Nat) (hd : 3 ≤ d) {e : Option Bool} {g : FuncId} {a : List AV} {h : Heap} {k : KR} (hx : frames_Set.get frames_Set e g a h k = some true) : e = some true ∨ callK Try.prog ht d g a h k = some true := by
  unfold frames_Set.get at hx
  split at hx
  · exact .inr (frames_Set.ok d hd _ _ _ _ hx)
  · exact .inl hx
/-- function 13: sheerleg/sheerlegref36.Set -/
noncomputable def ref36_Setv1.body (t166 : Int × Int × (List Int) × (List (Int × Int × Unit)) × Int × Int × Bool × Bool × Unit) (n167 : Int) (n168 : Int) (k1 : (Int × Int × (List Int) × (List (Int × Int × Unit)) × Int × Int × Bool × Bool × Unit) → Option Bool) : Option Bool :=
  (cond_ (! (decide (n167 < (0 : Int)))) (cond_ (decide (n167 ≥ (((List.length t166.2.2.1) : Nat) : Int))) (k1 (t166.1, (t166.2.1, (t166.2.2.1, (t166.2.2.2.1, (t166.2.2.2.2.1, (t166.2.2.2.2.2.1, (t166.2.2.2.2.2.2.1, (t166.2.2.2.2.2.2.2.1, ()))))))))) (cond_ (Nat.ble ((List.length t166.2.2.1) * (8 : Nat)) (140737488355328 : Nat)) (cond_ ((decide ((0 : Int) ≤ n167)) && (decide (n167 < (((List.length t166.2.2.1) : Nat) : Int)))) (k1 (t166.1, (t166.2.1, ((List.set t166.2.2.1 (Int.toNat n167) n168), (t166.2.2.2.1, (t166.2.2.2.2.1, (t166.2.2.2.2.2.1, (t166.2.2.2.2.2.2.1, (t166.2.2.2.2.2.2.2.1, ()))))))))) none) none)) (k1 (t166.1, (t166.2.1, (t166.2.2.1, (t166.2.2.2.1, (t166.2.2.2.2.1, (t166.2.2.2.2.2.1, (t166.2.2.2.2.2.2.1, (t166.2.2.2.2.2.2.2.1, ()))))))))))
noncomputable def ref36_Setv1 (t166 : Int × Int × (List Int) × (List (Int × Int × Unit)) × Int × Int × Bool × Bool × Unit) (n167 : Int) (n168 : Int) (k1 : (Int × Int × (List Int) × (List (Int × Int × Unit)) × Int × Int × Bool × Bool × Unit) → Option Bool) : Option Bool := ref36_Setv1.body t166 n167 n168 k1
noncomputable def ref36_Setv1.get (F : (Int × Int × (List Int) × (List (Int × Int × Unit)) × Int × Int × Bool × Bool × Unit) → Int → Int → ((Int × Int × (List Int) × (List (Int × Int × Unit)) × Int × Int × Bool × Bool × Unit) → Option Bool) → Option Bool) (e : Option Bool) (g : FuncId) (a : List AV) (h : Heap) (k : KR) : Option Bool := match g, a, h with
  | 13, [(.d ⟨(.st [(.int .i64), (.int .i64), (.sl 2 (.int .i64)), (.sl 39 (.st [(.int .i64), (.int .i64)])), (.int .i64), (.int .i64), .bool, .bool]), t166⟩), (.d ⟨(.int .i64), n167⟩), (.d ⟨(.int .i64), n168⟩)], [] => F t166 n167 n168 (fun y0 => k (.d ⟨(.st [(.int .i64), (.int .i64), (.sl 2 (.int .i64)), (.sl 39 (.st [(.int .i64), (.int .i64)])), (.int .i64), (.int .i64), .bool, .bool]), y0⟩) [])
  | _, _, _ => e
noncomputable def ref36_Setv1.calls : RecF := fun g a h k => none
noncomputable def ref36_Setv1.loops : LoopF := fun b => none
set_option maxRecDepth 100000 in
theorem ref36_Setv1.eq (t166 : Int × Int × (List Int) × (List (Int × Int × Unit)) × Int × Int × Bool × Bool × Unit) (n167 : Int) (n168 : Int) (k : KR) : execL Try.prog ht 13 (callfOf (ref36_Setv1.calls)) (ref36_Setv1.loops) 0 (codeOf Try.f13) ⟨[(.d ⟨(.st [(.int .i64), (.int .i64), (.sl 2 (.int .i64)), (.sl 39 (.st [(.int .i64), (.int .i64)])), (.int .i64), (.int .i64), .bool, .bool]), t166⟩), (.d ⟨(.int .i64), n167⟩), (.d ⟨(.int .i64), n168⟩)] ++ List.replicate (Try.f13.ntmps - ([(.d ⟨(.st [(.int .i64), (.int .i64), (.sl 2 (.int .i64)), (.sl 39 (.st [(.int .i64), (.int .i64)])), (.int .i64), (.int .i64), .bool, .bool]), t166⟩), (.d ⟨(.int .i64), n167⟩), (.d ⟨(.int .i64), n168⟩)] : List AV).length) .undef, [], 2⟩ (leave Try.prog Try.f13 k) = ref36_Setv1.body t166 n167 n168 (fun y0 => k (.d ⟨(.st [(.int .i64), (.int .i64), (.sl 2 (.int .i64)), (.sl 39 (.st [(.int .i64), (.int .i64)])), (.int .i64), (.int .i64), .bool, .bool]), y0⟩) []) := by kernel_rfl
theorem ref36_Setv1.ok (d : Nat) (hd : 1 ≤ d) (t166 : Int × Int × (List Int) × (List (Int × Int × Unit)) × Int × Int × Bool × Bool × Unit) (n167 : Int) (n168 : Int) (k : KR) (hx : ref36_Setv1 t166 n167 n168 (fun y0 => k (.d ⟨(.st [(.int .i64), (.int .i64), (.sl 2 (.int .i64)), (.sl 39 (.st [(.int .i64), (.int .i64)])), (.int .i64), (.int .i64), .bool, .bool]), y0⟩) []) = some true) : callK Try.prog ht d 13 [(.d ⟨(.st [(.int .i64), (.int .i64), (.sl 2 (.int .i64)), (.sl 39 (.st [(.int .i64), (.int .i64)])), (.int .i64), (.int .i64), .bool, .bool]), t166⟩), (.d ⟨(.int .i64), n167⟩), (.d ⟨(.int .i64), n168⟩)] [] k = some true := by
  obtain ⟨d, rfl⟩ : ∃ e, d = e + 1 := ⟨d - 1, by omega⟩
  exact fn_ok (c := codeOf Try.f13) Try.func13 (by kernel_rfl) (rec := ref36_Setv1.calls) (fun g a h k hx => by
    cases hx) (loopf := ref36_Setv1.loops) (by
    have e : loopsOf (ref36_Setv1.loops) 0 (codeOf Try.f13) = [] := by kernel_rfl
    rw [e]
    intro p hp
    cases hp) ((ref36_Setv1.eq t166 n167 n168 k).trans hx)
theorem ref36_Setv1.look (d : Nat) (hd : 1 ≤ d) {e : Option Bool} {g : FuncId} {a : List AV} {h : Heap} {k : KR} (hx : ref36_Setv1.get ref36_Setv1 e g a h k = some true) : e = some true ∨ callK Try.prog ht d g a h k = some true := by
  unfold ref36_Setv1.get at hx
  split at hx
  · exact .inr (ref36_Setv1.ok d hd _ _ _ _ hx)
  · exact .inl hx
/-- function 21: the loop in block 0 -/
noncomputable def ref01_Longs_L0.body (ref01_Longs_L0 : (List Int) → (List Int) → Int → (Bool → Option Bool) → (Option Bool) → Option Bool) (ns181 : List Int) (ns182 : List Int) (n183 : Int) (k1 : Bool → Option Bool) (k2 : Option Bool) : Option Bool :=
  (cond_ (decide (n183 < (((List.length ns181) : Nat) : Int))) (cond_ ((decide ((0 : Int) ≤ n183)) && (decide (n183 < (((List.length ns181) : Nat) : Int)))) (cond_ ((decide ((0 : Int) ≤ n183)) && (decide (n183 < (((List.length ns182) : Nat) : Int)))) (cond_ ((List.getD ns181 (Int.toNat n183) (0 : Int)) != (List.getD ns182 (Int.toNat n183) (0 : Int))) (k1 false) (ref01_Longs_L0 ns181 ns182 (IntKind.wrap .i64 (n183 + (1 : Int))) k1 k2)) none) none) (k2))
noncomputable def ref01_Longs_L0 : Nat → (List Int) → (List Int) → Int → (Bool → Option Bool) → (Option Bool) → Option Bool
  | 0 => fun _ _ _ _ _ => none
  | n + 1 => ref01_Longs_L0.body (ref01_Longs_L0 n)
noncomputable def ref01_Longs_L0.get (F : (List Int) → (List Int) → Int → (Bool → Option Bool) → (Option Bool) → Option Bool) (e : Option Bool) (st : St) (k : KE) : Option Bool := match st with
  | ⟨sl, hp, m⟩ => match Nat.beq m 2, pickS 26 [0, 1, 5] sl, hp with
    | true, some [(.bv 1 2 (.int .i64) ns181), (.bv 0 2 (.int .i64) ns182), (.d ⟨(.int .i64), n183⟩)], [] => F ns181 ns182 n183 (fun y0 => k .ret ⟨fillS 26 [4] [(.d ⟨.bool, y0⟩)], [], 2⟩) (k (.exit 0) ⟨fillS 26 [] [], [], 2⟩)
    | _, _, _ => e
noncomputable def ref01_Longs_L0.calls : RecF := fun g a h k => none
noncomputable def ref01_Longs_L0.loops : LoopF := fun b => none
set_option maxRecDepth 100000 in
theorem ref01_Longs_L0.step (S : (List Int) → (List Int) → Int → (Bool → Option Bool) → (Option Bool) → Option Bool) (ns181 : List Int) (ns182 : List Int) (n183 : Int) (k : KE) : execL Try.prog ht 21 (callfOf (ref01_Longs_L0.calls)) (ref01_Longs_L0.loops) 0 (loopAt 0 (codeOf Try.f21)) ⟨fillS 26 [0, 1, 5] [(.bv 1 2 (.int .i64) ns181), (.bv 0 2 (.int .i64) ns182), (.d ⟨(.int .i64), n183⟩)], [], 2⟩ (again (ref01_Longs_L0.get S none) (plan Try.prog (ht 21 0)) k) = ref01_Longs_L0.body S ns181 ns182 n183 (fun y0 => k .ret ⟨fillS 26 [4] [(.d ⟨.bool, y0⟩)], [], 2⟩) (k (.exit 0) ⟨fillS 26 [] [], [], 2⟩) := by kernel_rfl
theorem ref01_Longs_L0.ok (d : Nat) (hd : 0 ≤ d) : ∀ n st k, ref01_Longs_L0.get (ref01_Longs_L0 n) none st k = some true → iter n (plan Try.prog (ht 21 0)) (fun st k => execK Try.prog ht 21 (callfOf (callK Try.prog ht d)) 0 (loopAt 0 (codeOf Try.f21)) st k) st k = some true :=
  loop_ok (lfn := fun n st k => ref01_Longs_L0.get (ref01_Longs_L0 n) none st k) (rec := ref01_Longs_L0.calls) (fun g a h k hx => by
    cases hx) (loopf := ref01_Longs_L0.loops) (by
    have e : loopsOf (ref01_Longs_L0.loops) 0 (loopAt 0 (codeOf Try.f21)) = [] := by kernel_rfl
    rw [e]
    intro p hp
    cases hp) (fun st k h => by
    obtain ⟨sl, hp, m⟩ := st
    unfold ref01_Longs_L0.get at h
    dsimp only at h
    split at h
    · have h' : (none : Option Bool) = some true := h
      cases h'
    · cases h) (fun n st k h => by
    obtain ⟨sl, hp, m⟩ := st
    unfold ref01_Longs_L0.get at h
    dsimp only at h
    split at h
    · rename_i h1 h2
      obtain rfl := pickS_ok h2
      obtain rfl := Nat.eq_of_beq_eq_true h1
      exact (ref01_Longs_L0.step (ref01_Longs_L0 n) _ _ _ k).trans h
    · cases h)
theorem ref01_Longs_L0.look {F : (List Int) → (List Int) → Int → (Bool → Option Bool) → (Option Bool) → Option Bool} {e : Option Bool} {st : St} {k : KE} (hx : ref01_Longs_L0.get F e st k = some true) : e = some true ∨ ref01_Longs_L0.get F none st k = some true := by
  obtain ⟨sl, hp, m⟩ := st
  unfold ref01_Longs_L0.get at hx ⊢
  dsimp only at hx ⊢
  split at hx
  · exact .inr hx
  · exact .inl hx
/-- function 21: sheerleg/sheerlegref01.Longs -/
noncomputable def ref01_Longs.body (ref01_Longs_L0 : (List Int) → (List Int) → Int → (Bool → Option Bool) → (Option Bool) → Option Bool) (ns179 : List Int) (ns180 : List Int) (k1 : Bool → Option Bool) : Option Bool :=
  (cond_ ((((List.length ns179) : Nat) : Int) != (((List.length ns180) : Nat) : Int)) (k1 false) (ref01_Longs_L0 ns179 ns180 (0 : Int)
  (fun b184 => (k1 b184))
  (k1 true)))
noncomputable def ref01_Longs (ns179 : List Int) (ns180 : List Int) (k1 : Bool → Option Bool) : Option Bool := ref01_Longs.body (ref01_Longs_L0 ROUNDS) ns179 ns180 k1
noncomputable def ref01_Longs.get (F : (List Int) → (List Int) → (Bool → Option Bool) → Option Bool) (e : Option Bool) (g : FuncId) (a : List AV) (h : Heap) (k : KR) : Option Bool := match g, a, h with
  | 21, [(.bv 1 2 (.int .i64) ns179), (.bv 0 2 (.int .i64) ns180)], [] => F ns179 ns180 (fun y0 => k (.d ⟨.bool, y0⟩) [])
  | _, _, _ => e
noncomputable def ref01_Longs.calls : RecF := fun g a h k => none
noncomputable def ref01_Longs.loops (L0 : (List Int) → (List Int) → Int → (Bool → Option Bool) → (Option Bool) → Option Bool) : LoopF := fun b => match Nat.beq b 0 with | true => some (fun st k => (ref01_Longs_L0.get L0 none st k)) | false => none
set_option maxRecDepth 100000 in
theorem ref01_Longs.eq (L0 : (List Int) → (List Int) → Int → (Bool → Option Bool) → (Option Bool) → Option Bool) (ns179 : List Int) (ns180 : List Int) (k : KR) : execL Try.prog ht 21 (callfOf (ref01_Longs.calls)) (ref01_Longs.loops L0) 0 (codeOf Try.f21) ⟨[(.bv 1 2 (.int .i64) ns179), (.bv 0 2 (.int .i64) ns180)] ++ List.replicate (Try.f21.ntmps - ([(.bv 1 2 (.int .i64) ns179), (.bv 0 2 (.int .i64) ns180)] : List AV).length) .undef, [], 2⟩ (leave Try.prog Try.f21 k) = ref01_Longs.body L0 ns179 ns180 (fun y0 => k (.d ⟨.bool, y0⟩) []) := by kernel_rfl
theorem ref01_Longs.ok (d : Nat) (hd : 1 ≤ d) (ns179 : List Int) (ns180 : List Int) (k : KR) (hx : ref01_Longs ns179 ns180 (fun y0 => k (.d ⟨.bool, y0⟩) []) = some true) : callK Try.prog ht d 21 [(.bv 1 2 (.int .i64) ns179), (.bv 0 2 (.int .i64) ns180)] [] k = some true := by
  obtain ⟨d, rfl⟩ : ∃ e, d = e + 1 := ⟨d - 1, by omega⟩
  exact fn_ok (c := codeOf Try.f21) Try.func21 (by kernel_rfl) (rec := ref01_Longs.calls) (fun g a h k hx => by
    cases hx) (loopf := ref01_Longs.loops (ref01_Longs_L0 ROUNDS)) (by
    have e : loopsOf (ref01_Longs.loops (ref01_Longs_L0 ROUNDS)) 0 (codeOf Try.f21) = [(0, loopAt 0 (codeOf Try.f21))] := by kernel_rfl
    rw [e]
    intro p hp
    simp only [List.mem_cons, List.not_mem_nil, or_false] at hp
    rcases hp with rfl
    · refine loopRef_of (callf := callfOf (callK Try.prog ht d)) (callfOf_ref (callK_mono d)) fun lf st k hb hx => ?_
      cases hb
      rcases ref01_Longs_L0.look hx with hx | hx
      rotate_left
      · exact ref01_Longs_L0.ok d (by omega) _ _ _ hx
      cases hx) ((ref01_Longs.eq (ref01_Longs_L0 ROUNDS) ns179 ns180 k).trans hx)
theorem ref01_Longs.look (d : Nat) (hd : 1 ≤ d) {e : Option Bool} {g : FuncId} {a : List AV} {h : Heap} {k : KR} (hx : ref01_Longs.get ref01_Longs e g a h k = some true) : e = some true ∨ callK Try.prog ht d g a h k = some true := by
  unfold ref01_Longs.get at hx
  split at hx
  · exact .inr (ref01_Longs.ok d hd _ _ _ hx)
  · exact .inl hx
/-- function 9: the loop in block 0 -/
noncomputable def ref36_Same_L0.body (ref36_Same_L0 : Int → Int → Int → (List Int) → (List (Int × Int × Unit)) → Int → Int → Bool → Bool → (Int × Int × (List Int) × (List (Int × Int × Unit)) × Int × Int × Bool × Bool × Unit) → (Bool → Option Bool) → (Option Bool) → Option Bool) (n186 : Int) (n187 : Int) (n188 : Int) (ns189 : List Int) (ts190 : List (Int × Int × Unit)) (n191 : Int) (n192 : Int) (b193 : Bool) (b194 : Bool) (t195 : Int × Int × (List Int) × (List (Int × Int × Unit)) × Int × Int × Bool × Bool × Unit) (k1 : Bool → Option Bool) (k2 : Option Bool) : Option Bool :=
  (cond_ (decide (n186 < (((List.length ts190) : Nat) : Int))) (cond_ ((decide ((0 : Int) ≤ n186)) && (decide (n186 < (((List.length ts190) : Nat) : Int)))) (cond_ ((decide ((0 : Int) ≤ n186)) && (decide (n186 < (((List.length t195.2.2.2.1) : Nat) : Int)))) (cond_ (! (((List.getD ts190 (Int.toNat n186) ((0 : Int), ((0 : Int), ()))).1 == (List.getD t195.2.2.2.1 (Int.toNat n186) ((0 : Int), ((0 : Int), ()))).1) && (((List.getD ts190 (Int.toNat n186) ((0 : Int), ((0 : Int), ()))).2.1 == (List.getD t195.2.2.2.1 (Int.toNat n186) ((0 : Int), ((0 : Int), ()))).2.1) && true))) (k1 false) (ref36_Same_L0 (IntKind.wrap .i64 (n186 + (1 : Int))) n187 n188 ns189 ts190 n191 n192 b193 b194 t195 k1 k2)) none) none) (k2))
noncomputable def ref36_Same_L0 : Nat → Int → Int → Int → (List Int) → (List (Int × Int × Unit)) → Int → Int → Bool → Bool → (Int × Int × (List Int) × (List (Int × Int × Unit)) × Int × Int × Bool × Bool × Unit) → (Bool → Option Bool) → (Option Bool) → Option Bool
  | 0 => fun _ _ _ _ _ _ _ _ _ _ _ _ => none
  | n + 1 => ref36_Same_L0.body (ref36_Same_L0 n)
noncomputable def ref36_Same_L0.get (F : Int → Int → Int → (List Int) → (List (Int × Int × Unit)) → Int → Int → Bool → Bool → (Int × Int × (List Int) × (List (Int × Int × Unit)) × Int × Int × Bool × Bool × Unit) → (Bool → Option Bool) → (Option Bool) → Option Bool) (e : Option Bool) (st : St) (k : KE) : Option Bool := match st with
  | ⟨sl, hp, m⟩ => match Nat.beq m 2, pickS 81 [2, 3, 5] sl, hp with
    | true, some [(.ptr [1, 0] 0 0), (.ptr [1, 1] 0 0), (.d ⟨(.int .i64), n186⟩)], [([1, 0], ⟨34, 8, (.mix [(.agg [(.d ⟨(.int .i64), n187⟩), (.d ⟨(.int .i64), n188⟩), (.bv 1 2 (.int .i64) ns189), (.bv 2 39 (.st [(.int .i64), (.int .i64)]) ts190), (.d ⟨(.int .i64), n191⟩), (.d ⟨(.int .i64), n192⟩), (.d ⟨.bool, b193⟩), (.d ⟨.bool, b194⟩)])])⟩), ([1, 1], ⟨34, 8, (.data (.st [(.int .i64), (.int .i64), (.sl 2 (.int .i64)), (.sl 39 (.st [(.int .i64), (.int .i64)])), (.int .i64), (.int .i64), .bool, .bool]) [t195])⟩)] => F n186 n187 n188 ns189 ts190 n191 n192 b193 b194 t195 (fun y0 => k .ret ⟨fillS 81 [4] [(.d ⟨.bool, y0⟩)], [], 2⟩) (k (.exit 0) ⟨fillS 81 [] [], [], 2⟩)
    | _, _, _ => e
noncomputable def ref36_Same_L0.calls : RecF := fun g a h k => none
noncomputable def ref36_Same_L0.loops : LoopF := fun b => none
set_option maxRecDepth 100000 in
theorem ref36_Same_L0.step (S : Int → Int → Int → (List Int) → (List (Int × Int × Unit)) → Int → Int → Bool → Bool → (Int × Int × (List Int) × (List (Int × Int × Unit)) × Int × Int × Bool × Bool × Unit) → (Bool → Option Bool) → (Option Bool) → Option Bool) (n186 : Int) (n187 : Int) (n188 : Int) (ns189 : List Int) (ts190 : List (Int × Int × Unit)) (n191 : Int) (n192 : Int) (b193 : Bool) (b194 : Bool) (t195 : Int × Int × (List Int) × (List (Int × Int × Unit)) × Int × Int × Bool × Bool × Unit) (k : KE) : execL Try.prog ht 9 (callfOf (ref36_Same_L0.calls)) (ref36_Same_L0.loops) 0 (loopAt 0 (codeOf Try.f9)) ⟨fillS 81 [2, 3, 5] [(.ptr [1, 0] 0 0), (.ptr [1, 1] 0 0), (.d ⟨(.int .i64), n186⟩)], [([1, 0], ⟨34, 8, (.mix [(.agg [(.d ⟨(.int .i64), n187⟩), (.d ⟨(.int .i64), n188⟩), (.bv 1 2 (.int .i64) ns189), (.bv 2 39 (.st [(.int .i64), (.int .i64)]) ts190), (.d ⟨(.int .i64), n191⟩), (.d ⟨(.int .i64), n192⟩), (.d ⟨.bool, b193⟩), (.d ⟨.bool, b194⟩)])])⟩), ([1, 1], ⟨34, 8, (.data (.st [(.int .i64), (.int .i64), (.sl 2 (.int .i64)), (.sl 39 (.st [(.int .i64), (.int .i64)])), (.int .i64), (.int .i64), .bool, .bool]) [t195])⟩)], 2⟩ (again (ref36_Same_L0.get S none) (plan Try.prog (ht 9 0)) k) = ref36_Same_L0.body S n186 n187 n188 ns189 ts190 n191 n192 b193 b194 t195 (fun y0 => k .ret ⟨fillS 81 [4] [(.d ⟨.bool, y0⟩)], [], 2⟩) (k (.exit 0) ⟨fillS 81 [] [], [], 2⟩) := by kernel_rfl
theorem ref36_Same_L0.ok (d : Nat) (hd : 0 ≤ d) : ∀ n st k, ref36_Same_L0.get (ref36_Same_L0 n) none st k = some true → iter n (plan Try.prog (ht 9 0)) (fun st k => execK Try.prog ht 9 (callfOf (callK Try.prog ht d)) 0 (loopAt 0 (codeOf Try.f9)) st k) st k = some true :=
  loop_ok (lfn := fun n st k => ref36_Same_L0.get (ref36_Same_L0 n) none st k) (rec := ref36_Same_L0.calls) (fun g a h k hx => by
    cases hx) (loopf := ref36_Same_L0.loops) (by
    have e : loopsOf (ref36_Same_L0.loops) 0 (loopAt 0 (codeOf Try.f9)) = [] := by kernel_rfl
    rw [e]
    intro p hp
    cases hp) (fun st k h => by
    obtain ⟨sl, hp, m⟩ := st
    unfold ref36_Same_L0.get at h
    dsimp only at h
    split at h
    · have h' : (none : Option Bool) = some true := h
      cases h'
    · cases h) (fun n st k h => by
    obtain ⟨sl, hp, m⟩ := st
    unfold ref36_Same_L0.get at h
    dsimp only at h
    split at h
    · rename_i h1 h2
      obtain rfl := pickS_ok h2
      obtain rfl := Nat.eq_of_beq_eq_true h1
      exact (ref36_Same_L0.step (ref36_Same_L0 n) _ _ _ _ _ _ _ _ _ _ k).trans h
    · cases h)
theorem ref36_Same_L0.look {F : Int → Int → Int → (List Int) → (List (Int × Int × Unit)) → Int → Int → Bool → Bool → (Int × Int × (List Int) × (List (Int × Int × Unit)) × Int × Int × Bool × Bool × Unit) → (Bool → Option Bool) → (Option Bool) → Option Bool} {e : Option Bool} {st : St} {k : KE} (hx : ref36_Same_L0.get F e st k = some true) : e = some true ∨ ref36_Same_L0.get F none st k = some true := by
  obtain ⟨sl, hp, m⟩ := st
  unfold ref36_Same_L0.get at hx ⊢
  dsimp only at hx ⊢
  split at hx
  · exact .inr hx
  · exact .inl hx
/-- function 9: sheerleg/sheerlegref36.Same -/
noncomputable def ref36_Same.body (ref01_Longs : (List Int) → (List Int) → (Bool → Option Bool) → Option Bool) (ref36_Same_L0 : Int → Int → Int → (List Int) → (List (Int × Int × Unit)) → Int → Int → Bool → Bool → (Int × Int × (List Int) × (List (Int × Int × Unit)) × Int × Int × Bool × Bool × Unit) → (Bool → Option Bool) → (Option Bool) → Option Bool) (n170 : Int) (n171 : Int) (ns172 : List Int) (ts173 : List (Int × Int × Unit)) (n174 : Int) (n175 : Int) (b176 : Bool) (b177 : Bool) (t178 : Int × Int × (List Int) × (List (Int × Int × Unit)) × Int × Int × Bool × Bool × Unit) (k1 : Bool → Option Bool) : Option Bool :=
  (cond_ (! (n170 != t178.1)) (cond_ (! (n171 != t178.2.1)) (ref01_Longs ns172 t178.2.2.1
  (fun b185 => (cond_ (! (! b185)) (cond_ (! (n174 != t178.2.2.2.2.1)) (cond_ (! (n175 != t178.2.2.2.2.2.1)) (cond_ (! (! (b176 == t178.2.2.2.2.2.2.1))) (cond_ (! (! (b177 == t178.2.2.2.2.2.2.2.1))) (cond_ ((((List.length ts173) : Nat) : Int) != (((List.length t178.2.2.2.1) : Nat) : Int)) (k1 false) (ref36_Same_L0 (0 : Int) n170 n171 ns172 ts173 n174 n175 b176 b177 t178
  (fun b196 => (k1 b196))
  (k1 true))) (k1 false)) (k1 false)) (k1 false)) (k1 false)) (k1 false)))) (k1 false)) (k1 false))
noncomputable def ref36_Same (n170 : Int) (n171 : Int) (ns172 : List Int) (ts173 : List (Int × Int × Unit)) (n174 : Int) (n175 : Int) (b176 : Bool) (b177 : Bool) (t178 : Int × Int × (List Int) × (List (Int × Int × Unit)) × Int × Int × Bool × Bool × Unit) (k1 : Bool → Option Bool) : Option Bool := ref36_Same.body ref01_Longs (ref36_Same_L0 ROUNDS) n170 n171 ns172 ts173 n174 n175 b176 b177 t178 k1
noncomputable def ref36_Same.get (F : Int → Int → (List Int) → (List (Int × Int × Unit)) → Int → Int → Bool → Bool → (Int × Int × (List Int) × (List (Int × Int × Unit)) × Int × Int × Bool × Bool × Unit) → (Bool → Option Bool) → Option Bool) (e : Option Bool) (g : FuncId) (a : List AV) (h : Heap) (k : KR) : Option Bool := match g, a, h with
  | 9, [(.agg [(.d ⟨(.int .i64), n170⟩), (.d ⟨(.int .i64), n171⟩), (.bv 1 2 (.int .i64) ns172), (.bv 2 39 (.st [(.int .i64), (.int .i64)]) ts173), (.d ⟨(.int .i64), n174⟩), (.d ⟨(.int .i64), n175⟩), (.d ⟨.bool, b176⟩), (.d ⟨.bool, b177⟩)]), (.d ⟨(.st [(.int .i64), (.int .i64), (.sl 2 (.int .i64)), (.sl 39 (.st [(.int .i64), (.int .i64)])), (.int .i64), (.int .i64), .bool, .bool]), t178⟩)], [] => F n170 n171 ns172 ts173 n174 n175 b176 b177 t178 (fun y0 => k (.d ⟨.bool, y0⟩) [])
  | _, _, _ => e
noncomputable def ref36_Same.calls (F0 : (List Int) → (List Int) → (Bool → Option Bool) → Option Bool) : RecF := fun g a h k => (ref01_Longs.get F0 none g a h k)
noncomputable def ref36_Same.loops (L0 : Int → Int → Int → (List Int) → (List (Int × Int × Unit)) → Int → Int → Bool → Bool → (Int × Int × (List Int) × (List (Int × Int × Unit)) × Int × Int × Bool × Bool × Unit) → (Bool → Option Bool) → (Option Bool) → Option Bool) : LoopF := fun b => match Nat.beq b 0 with | true => some (fun st k => (ref36_Same_L0.get L0 none st k)) | false => none
set_option maxRecDepth 100000 in
theorem ref36_Same.eq (F0 : (List Int) → (List Int) → (Bool → Option Bool) → Option Bool) (L0 : Int → Int → Int → (List Int) → (List (Int × Int × Unit)) → Int → Int → Bool → Bool → (Int × Int × (List Int) × (List (Int × Int × Unit)) × Int × Int × Bool × Bool × Unit) → (Bool → Option Bool) → (Option Bool) → Option Bool) (n170 : Int) (n171 : Int) (ns172 : List Int) (ts173 : List (Int × Int × Unit)) (n174 : Int) (n175 : Int) (b176 : Bool) (b177 : Bool) (t178 : Int × Int × (List Int) × (List (Int × Int × Unit)) × Int × Int × Bool × Bool × Unit) (k : KR) : execL Try.prog ht 9 (callfOf (ref36_Same.calls F0)) (ref36_Same.loops L0) 0 (codeOf Try.f9) ⟨[(.agg [(.d ⟨(.int .i64), n170⟩), (.d ⟨(.int .i64), n171⟩), (.bv 1 2 (.int .i64) ns172), (.bv 2 39 (.st [(.int .i64), (.int .i64)]) ts173), (.d ⟨(.int .i64), n174⟩), (.d ⟨(.int .i64), n175⟩), (.d ⟨.bool, b176⟩), (.d ⟨.bool, b177⟩)]), (.d ⟨(.st [(.int .i64), (.int .i64), (.sl 2 (.int .i64)), (.sl 39 (.st [(.int .i64), (.int .i64)])), (.int .i64), (.int .i64), .bool, .bool]), t178⟩)] ++ List.replicate (Try.f9.ntmps - ([(.agg [(.d ⟨(.int .i64), n170⟩), (.d ⟨(.int .i64), n171⟩), (.bv 1 2 (.int .i64) ns172), (.bv 2 39 (.st [(.int .i64), (.int .i64)]) ts173), (.d ⟨(.int .i64), n174⟩), (.d ⟨(.int .i64), n175⟩), (.d ⟨.bool, b176⟩), (.d ⟨.bool, b177⟩)]), (.d ⟨(.st [(.int .i64), (.int .i64), (.sl 2 (.int .i64)), (.sl 39 (.st [(.int .i64), (.int .i64)])), (.int .i64), (.int .i64), .bool, .bool]), t178⟩)] : List AV).length) .undef, [], 2⟩ (leave Try.prog Try.f9 k) = ref36_Same.body F0 L0 n170 n171 ns172 ts173 n174 n175 b176 b177 t178 (fun y0 => k (.d ⟨.bool, y0⟩) []) := by kernel_rfl
theorem ref36_Same.ok (d : Nat) (hd : 2 ≤ d) (n170 : Int) (n171 : Int) (ns172 : List Int) (ts173 : List (Int × Int × Unit)) (n174 : Int) (n175 : Int) (b176 : Bool) (b177 : Bool) (t178 : Int × Int × (List Int) × (List (Int × Int × Unit)) × Int × Int × Bool × Bool × Unit) (k : KR) (hx : ref36_Same n170 n171 ns172 ts173 n174 n175 b176 b177 t178 (fun y0 => k (.d ⟨.bool, y0⟩) []) = some true) : callK Try.prog ht d 9 [(.agg [(.d ⟨(.int .i64), n170⟩), (.d ⟨(.int .i64), n171⟩), (.bv 1 2 (.int .i64) ns172), (.bv 2 39 (.st [(.int .i64), (.int .i64)]) ts173), (.d ⟨(.int .i64), n174⟩), (.d ⟨(.int .i64), n175⟩), (.d ⟨.bool, b176⟩), (.d ⟨.bool, b177⟩)]), (.d ⟨(.st [(.int .i64), (.int .i64), (.sl 2 (.int .i64)), (.sl 39 (.st [(.int .i64), (.int .i64)])), (.int .i64), (.int .i64), .bool, .bool]), t178⟩)] [] k = some true := by
  obtain ⟨d, rfl⟩ : ∃ e, d = e + 1 := ⟨d - 1, by omega⟩
  exact fn_ok (c := codeOf Try.f9) Try.func9 (by kernel_rfl) (rec := ref36_Same.calls ref01_Longs) (fun g a h k hx => by
    rcases ref01_Longs.look d (by omega) hx with hx | hx
    rotate_left
    · exact hx
    cases hx) (loopf := ref36_Same.loops (ref36_Same_L0 ROUNDS)) (by
    have e : loopsOf (ref36_Same.loops (ref36_Same_L0 ROUNDS)) 0 (codeOf Try.f9) = [(0, loopAt 0 (codeOf Try.f9))] := by kernel_rfl
    rw [e]
    intro p hp
    simp only [List.mem_cons, List.not_mem_nil, or_false] at hp
    rcases hp with rfl
    · refine loopRef_of (callf := callfOf (callK Try.prog ht d)) (callfOf_ref (callK_mono d)) fun lf st k hb hx => ?_
      cases hb
      rcases ref36_Same_L0.look hx with hx | hx
      rotate_left
      · exact ref36_Same_L0.ok d (by omega) _ _ _ hx
      cases hx) ((ref36_Same.eq ref01_Longs (ref36_Same_L0 ROUNDS) n170 n171 ns172 ts173 n174 n175 b176 b177 t178 k).trans hx)
theorem ref36_Same.look (d : Nat) (hd : 2 ≤ d) {e : Option Bool} {g : FuncId} {a : List AV} {h : Heap} {k : KR} (hx : ref36_Same.get ref36_Same e g a h k = some true) : e = some true ∨ callK Try.prog ht d g a h k = some true := by
  unfold ref36_Same.get at hx
  split at hx
  · exact .inr (ref36_Same.ok d hd _ _ _ _ _ _ _ _ _ _ hx)
  · exact .inl hx
/-- function 20: sheerleg/frames.Defer -/
noncomputable def frames_Defer.body (frames_own : (Int × Int × (List Int) × (List (Int × Int × Unit)) × Int × Int × Bool × Bool × Unit) → (Int → Int → Int → Int → Bool → Bool → (List Int) → (List (Int × Int × Unit)) → Option Bool) → Option Bool) (t198 : Int × Int × (List Int) × (List (Int × Int × Unit)) × Int × Int × Bool × Bool × Unit) (t199 : Int × Int × Unit) (k1 : Int → Int → Int → Int → Bool → Bool → (List Int) → (List (Int × Int × Unit)) → Option Bool) : Option Bool :=
  (frames_own t198
  (fun n200 n201 n202 n203 b204 b205 ns206 ts207 => (cond_ (Nat.ble (((List.length ts207) + (List.length ((t199.1, (t199.2.1, ())) :: []))) * (16 : Nat)) (140737488355328 : Nat)) (k1 n200 n201 n202 n203 b204 b205 ns206 (ts207 ++ ((t199.1, (t199.2.1, ())) :: []))) none)))
noncomputable def frames_Defer (t198 : Int × Int × (List Int) × (List (Int × Int × Unit)) × Int × Int × Bool × Bool × Unit) (t199 : Int × Int × Unit) (k1 : Int → Int → Int → Int → Bool → Bool → (List Int) → (List (Int × Int × Unit)) → Option Bool) : Option Bool := frames_Defer.body frames_own t198 t199 k1
noncomputable def frames_Defer.get (F : (Int × Int × (List Int) × (List (Int × Int × Unit)) × Int × Int × Bool × Bool × Unit) → (Int × Int × Unit) → (Int → Int → Int → Int → Bool → Bool → (List Int) → (List (Int × Int × Unit)) → Option Bool) → Option Bool) (e : Option Bool) (g : FuncId) (a : List AV) (h : Heap) (k : KR) : Option Bool := match g, a, h with
  | 20, [(.d ⟨(.st [(.int .i64), (.int .i64), (.sl 2 (.int .i64)), (.sl 39 (.st [(.int .i64), (.int .i64)])), (.int .i64), (.int .i64), .bool, .bool]), t198⟩), (.d ⟨(.st [(.int .i64), (.int .i64)]), t199⟩)], [] => F t198 t199 (fun y0 y1 y2 y3 y4 y5 y6 y7 => k (.agg [(.d ⟨(.int .i64), y0⟩), (.d ⟨(.int .i64), y1⟩), (.ref [1, 0]), (.ref [1, 1]), (.d ⟨(.int .i64), y2⟩), (.d ⟨(.int .i64), y3⟩), (.d ⟨.bool, y4⟩), (.d ⟨.bool, y5⟩)]) [([1, 0], ⟨2, 1, (.data (.int .i64) y6)⟩), ([1, 1], ⟨39, 2, (.data (.st [(.int .i64), (.int .i64)]) y7)⟩)])
  | _, _, _ => e
noncomputable def frames_Defer.calls (F0 : (Int × Int × (List Int) × (List (Int × Int × Unit)) × Int × Int × Bool × Bool × Unit) → (Int → Int → Int → Int → Bool → Bool → (List Int) → (List (Int × Int × Unit)) → Option Bool) → Option Bool) : RecF := fun g a h k => (frames_own.get F0 none g a h k)
noncomputable def frames_Defer.loops : LoopF := fun b => none
set_option maxRecDepth 100000 in
theorem frames_Defer.eq (F0 : (Int × Int × (List Int) × (List (Int × Int × Unit)) × Int × Int × Bool × Bool × Unit) → (Int → Int → Int → Int → Bool → Bool → (List Int) → (List (Int × Int × Unit)) → Option Bool) → Option Bool) (t198 : Int × Int × (List Int) × (List (Int × Int × Unit)) × Int × Int × Bool × Bool × Unit) (t199 : Int × Int × Unit) (k : KR) : execL Try.prog ht 20 (callfOf (frames_Defer.calls F0)) (frames_Defer.loops) 0 (codeOf Try.f20) ⟨[(.d ⟨(.st [(.int .i64), (.int .i64), (.sl 2 (.int .i64)), (.sl 39 (.st [(.int .i64), (.int .i64)])), (.int .i64), (.int .i64), .bool, .bool]), t198⟩), (.d ⟨(.st [(.int .i64), (.int .i64)]), t199⟩)] ++ List.replicate (Try.f20.ntmps - ([(.d ⟨(.st [(.int .i64), (.int .i64), (.sl 2 (.int .i64)), (.sl 39 (.st [(.int .i64), (.int .i64)])), (.int .i64), (.int .i64), .bool, .bool]), t198⟩), (.d ⟨(.st [(.int .i64), (.int .i64)]), t199⟩)] : List AV).length) .undef, [], 2⟩ (leave Try.prog Try.f20 k) = frames_Defer.body F0 t198 t199 (fun y0 y1 y2 y3 y4 y5 y6 y7 => k (.agg [(.d ⟨(.int .i64), y0⟩), (.d ⟨(.int .i64), y1⟩), (.ref [1, 0]), (.ref [1, 1]), (.d ⟨(.int .i64), y2⟩), (.d ⟨(.int .i64), y3⟩), (.d ⟨.bool, y4⟩), (.d ⟨.bool, y5⟩)]) [([1, 0], ⟨2, 1, (.data (.int .i64) y6)⟩), ([1, 1], ⟨39, 2, (.data (.st [(.int .i64), (.int .i64)]) y7)⟩)]) := by kernel_rfl
theorem frames_Defer.ok (d : Nat) (hd : 3 ≤ d) (t198 : Int × Int × (List Int) × (List (Int × Int × Unit)) × Int × Int × Bool × Bool × Unit) (t199 : Int × Int × Unit) (k : KR) (hx : frames_Defer t198 t199 (fun y0 y1 y2 y3 y4 y5 y6 y7 => k (.agg [(.d ⟨(.int .i64), y0⟩), (.d ⟨(.int .i64), y1⟩), (.ref [1, 0]), (.ref [1, 1]), (.d ⟨(.int .i64), y2⟩), (.d ⟨(.int .i64), y3⟩), (.d ⟨.bool, y4⟩), (.d ⟨.bool, y5⟩)]) [([1, 0], ⟨2, 1, (.data (.int .i64) y6)⟩), ([1, 1], ⟨39, 2, (.data (.st [(.int .i64), (.int .i64)]) y7)⟩)]) = some true) : callK Try.prog ht d 20 [(.d ⟨(.st [(.int .i64), (.int .i64), (.sl 2 (.int .i64)), (.sl 39 (.st [(.int .i64), (.int .i64)])), (.int .i64), (.int .i64), .bool, .bool]), t198⟩), (.d ⟨(.st [(.int .i64), (.int .i64)]), t199⟩)] [] k = some true := by
  obtain ⟨d, rfl⟩ : ∃ e, d = e + 1 := ⟨d - 1, by omega⟩
  exact fn_ok (c := codeOf Try.f20) Try.func20 (by kernel_rfl) (rec := frames_Defer.calls frames_own) (fun g a h k hx => by
    rcases frames_own.look d (by omega) hx with hx | hx
    rotate_left
    · exact hx
    cases hx) (loopf := frames_Defer.loops) (by
    have e : loopsOf (frames_Defer.loops) 0 (codeOf Try.f20) = [] := by kernel_rfl
    rw [e]
    intro p hp
    cases hp) ((frames_Defer.eq frames_own t198 t199 k).trans hx)
theorem frames_Defer.look (d : Nat) (hd : 3 ≤ d) {e : Option Bool} {g : FuncId} {a : List AV} {h : Heap} {k : KR} (hx : frames_Defer.get frames_Defer e g a h k = some true) : e = some true ∨ callK Try.prog ht d g a h k = some true := by
  unfold frames_Defer.get at hx
  split at hx
  · exact .inr (frames_Defer.ok d hd _ _ _ hx)
  · exact .inl hx
/-- function 9: the loop in block 0 -/
noncomputable def ref36_Samev1_L0.body (ref36_Samev1_L0 : Int → Int → Int → (List Int) → (List (Int × Int × Unit)) → Int → Int → Bool → Bool → Int → Int → (List Int) → (List (Int × Int × Unit)) → Int → Int → Bool → Bool → (Bool → Option Bool) → (Option Bool) → Option Bool) (n241 : Int) (n242 : Int) (n243 : Int) (ns244 : List Int) (ts245 : List (Int × Int × Unit)) (n246 : Int) (n247 : Int) (b248 : Bool) (b249 : Bool) (n250 : Int) (n251 : Int) (ns252 : List Int) (ts253 : List (Int × Int × Unit)) (n254 : Int) (n255 : Int) (b256 : Bool) (b257 : Bool) (k1 : Bool → Option Bool) (k2 : Option Bool) : Option Bool :=
  (cond_ (decide (n241 < (((List.length ts245) : Nat) : Int))) (cond_ ((decide ((0 : Int) ≤ n241)) && (decide (n241 < (((List.length ts245) : Nat) : Int)))) (cond_ ((decide ((0 : Int) ≤ n241)) && (decide (n241 < (((List.length ts253) : Nat) : Int)))) (cond_ (! (((List.getD ts245 (Int.toNat n241) ((0 : Int), ((0 : Int), ()))).1 == (List.getD ts253 (Int.toNat n241) ((0 : Int), ((0 : Int), ()))).1) && (((List.getD ts245 (Int.toNat n241) ((0 : Int), ((0 : Int), ()))).2.1 == (List.getD ts253 (Int.toNat n241) ((0 : Int), ((0 : Int), ()))).2.1) && true))) (k1 false) (ref36_Samev1_L0 (IntKind.wrap .i64 (n241 + (1 : Int))) n242 n243 ns244 ts245 n246 n247 b248 b249 n250 n251 ns252 ts253 n254 n255 b256 b257 k1 k2)) none) none) (k2))
noncomputable def ref36_Samev1_L0 : Nat → Int → Int → Int → (List Int) → (List (Int × Int × Unit)) → Int → Int → Bool → Bool → Int → Int → (List Int) → (List (Int × Int × Unit)) → Int → Int → Bool → Bool → (Bool → Option Bool) → (Option Bool) → Option Bool
  | 0 => fun _ _ _ _ _ _ _ _ _ _ _ _ _ _ _ _ _ _ _ => none
  | n + 1 => ref36_Samev1_L0.body (ref36_Samev1_L0 n)
noncomputable def ref36_Samev1_L0.get (F : Int → Int → Int → (List Int) → (List (Int × Int × Unit)) → Int → Int → Bool → Bool → Int → Int → (List Int) → (List (Int × Int × Unit)) → Int → Int → Bool → Bool → (Bool → Option Bool) → (Option Bool) → Option Bool) (e : Option Bool) (st : St) (k : KE) : Option Bool := match st with
  | ⟨sl, hp, m⟩ => match Nat.beq m 2, pickS 81 [2, 3, 5] sl, hp with
    | true, some [(.ptr [1, 0] 0 0), (.ptr [1, 1] 0 0), (.d ⟨(.int .i64), n241⟩)], [([1, 0], ⟨34, 8, (.mix [(.agg [(.d ⟨(.int .i64), n242⟩), (.d ⟨(.int .i64), n243⟩), (.bv 1 2 (.int .i64) ns244), (.bv 2 39 (.st [(.int .i64), (.int .i64)]) ts245), (.d ⟨(.int .i64), n246⟩), (.d ⟨(.int .i64), n247⟩), (.d ⟨.bool, b248⟩), (.d ⟨.bool, b249⟩)])])⟩), ([1, 1], ⟨34, 8, (.mix [(.agg [(.d ⟨(.int .i64), n250⟩), (.d ⟨(.int .i64), n251⟩), (.bv 0 2 (.int .i64) ns252), (.bv 3 39 (.st [(.int .i64), (.int .i64)]) ts253), (.d ⟨(.int .i64), n254⟩), (.d ⟨(.int .i64), n255⟩), (.d ⟨.bool, b256⟩), (.d ⟨.bool, b257⟩)])])⟩)] => F n241 n242 n243 ns244 ts245 n246 n247 b248 b249 n250 n251 ns252 ts253 n254 n255 b256 b257 (fun y0 => k .ret ⟨fillS 81 [4] [(.d ⟨.bool, y0⟩)], [], 2⟩) (k (.exit 0) ⟨fillS 81 [] [], [], 2⟩)
    | _, _, _ => e
noncomputable def ref36_Samev1_L0.calls : RecF := fun g a h k => none
noncomputable def ref36_Samev1_L0.loops : LoopF := fun b => none
set_option maxRecDepth 100000 in
theorem ref36_Samev1_L0.step (S : Int → Int → Int → (List Int) → (List (Int × Int × Unit)) → Int → Int → Bool → Bool → Int → Int → (List Int) → (List (Int × Int × Unit)) → Int → Int → Bool → Bool → (Bool → Option Bool) → (Option Bool) → Option Bool) (n241 : Int) (n242 : Int) (n243 : Int) (ns244 : List Int) (ts245 : List (Int × Int × Unit)) (n246 : Int) (n247 : Int) (b248 : Bool) (b249 : Bool) (n250 : Int) (n251 : Int) (ns252 : List Int) (ts253 : List (Int × Int × Unit)) (n254 : Int) (n255 : Int) (b256 : Bool) (b257 : Bool) (k : KE) : execL Try.prog ht 9 (callfOf (ref36_Samev1_L0.calls)) (ref36_Samev1_L0.loops) 0 (loopAt 0 (codeOf Try.f9)) ⟨fillS 81 [2, 3, 5] [(.ptr [1, 0] 0 0), (.ptr [1, 1] 0 0), (.d ⟨(.int .i64), n241⟩)], [([1, 0], ⟨34, 8, (.mix [(.agg [(.d ⟨(.int .i64), n242⟩), (.d ⟨(.int .i64), n243⟩), (.bv 1 2 (.int .i64) ns244), (.bv 2 39 (.st [(.int .i64), (.int .i64)]) ts245), (.d ⟨(.int .i64), n246⟩), (.d ⟨(.int .i64), n247⟩), (.d ⟨.bool, b248⟩), (.d ⟨.bool, b249⟩)])])⟩), ([1, 1], ⟨34, 8, (.mix [(.agg [(.d ⟨(.int .i64), n250⟩), (.d ⟨(.int .i64), n251⟩), (.bv 0 2 (.int .i64) ns252), (.bv 3 39 (.st [(.int .i64), (.int .i64)]) ts253), (.d ⟨(.int .i64), n254⟩), (.d ⟨(.int .i64), n255⟩), (.d ⟨.bool, b256⟩), (.d ⟨.bool, b257⟩)])])⟩)], 2⟩ (again (ref36_Samev1_L0.get S none) (plan Try.prog (ht 9 0)) k) = ref36_Samev1_L0.body S n241 n242 n243 ns244 ts245 n246 n247 b248 b249 n250 n251 ns252 ts253 n254 n255 b256 b257 (fun y0 => k .ret ⟨fillS 81 [4] [(.d ⟨.bool, y0⟩)], [], 2⟩) (k (.exit 0) ⟨fillS 81 [] [], [], 2⟩) := by kernel_rfl
theorem ref36_Samev1_L0.ok (d : Nat) (hd : 0 ≤ d) : ∀ n st k, ref36_Samev1_L0.get (ref36_Samev1_L0 n) none st k = some true → iter n (plan Try.prog (ht 9 0)) (fun st k => execK Try.prog ht 9 (callfOf (callK Try.prog ht d)) 0 (loopAt 0 (codeOf Try.f9)) st k) st k = some true :=
  loop_ok (lfn := fun n st k => ref36_Samev1_L0.get (ref36_Samev1_L0 n) none st k) (rec := ref36_Samev1_L0.calls) (fun g a h k hx => by
    cases hx) (loopf := ref36_Samev1_L0.loops) (by
    have e : loopsOf (ref36_Samev1_L0.loops) 0 (loopAt 0 (codeOf Try.f9)) = [] := by kernel_rfl
    rw [e]
    intro p hp
    cases hp) (fun st k h => by
    obtain ⟨sl, hp, m⟩ := st
    unfold ref36_Samev1_L0.get at h
    dsimp only at h
    split at h
    · have h' : (none : Option Bool) = some true := h
      cases h'
    · cases h) (fun n st k h => by
    obtain ⟨sl, hp, m⟩ := st
    unfold ref36_Samev1_L0.get at h
    dsimp only at h
    split at h
    · rename_i h1 h2
      obtain rfl := pickS_ok h2
      obtain rfl := Nat.eq_of_beq_eq_true h1
      exact (ref36_Samev1_L0.step (ref36_Samev1_L0 n) _ _ _ _ _ _ _ _ _ _ _ _ _ _ _ _ _ k).trans h
    · cases h)
theorem ref36_Samev1_L0.look {F : Int → Int → Int → (List Int) → (List (Int × Int × Unit)) → Int → Int → Bool → Bool → Int → Int → (List Int) → (List (Int × Int × Unit)) → Int → Int → Bool → Bool → (Bool → Option Bool) → (Option Bool) → Option Bool} {e : Option Bool} {st : St} {k : KE} (hx : ref36_Samev1_L0.get F e st k = some true) : e = some true ∨ ref36_Samev1_L0.get F none st k = some true := by
  obtain ⟨sl, hp, m⟩ := st
  unfold ref36_Samev1_L0.get at hx ⊢
  dsimp only at hx ⊢
  split at hx
  · exact .inr hx
  · exact .inl hx
/-- function 9: sheerleg/sheerlegref36.Same -/
noncomputable def ref36_Samev1.body (ref01_Longs : (List Int) → (List Int) → (Bool → Option Bool) → Option Bool) (ref36_Samev1_L0 : Int → Int → Int → (List Int) → (List (Int × Int × Unit)) → Int → Int → Bool → Bool → Int → Int → (List Int) → (List (Int × Int × Unit)) → Int → Int → Bool → Bool → (Bool → Option Bool) → (Option Bool) → Option Bool) (n224 : Int) (n225 : Int) (ns226 : List Int) (ts227 : List (Int × Int × Unit)) (n228 : Int) (n229 : Int) (b230 : Bool) (b231 : Bool) (n232 : Int) (n233 : Int) (ns234 : List Int) (ts235 : List (Int × Int × Unit)) (n236 : Int) (n237 : Int) (b238 : Bool) (b239 : Bool) (k1 : Bool → Option Bool) : Option Bool :=
  (cond_ (! (n224 != n232)) (cond_ (! (n225 != n233)) (ref01_Longs ns226 ns234
  (fun b240 => (cond_ (! (! b240)) (cond_ (! (n228 != n236)) (cond_ (! (n229 != n237)) (cond_ (! (! (b230 == b238))) (cond_ (! (! (b231 == b239))) (cond_ ((((List.length ts227) : Nat) : Int) != (((List.length ts235) : Nat) : Int)) (k1 false) (ref36_Samev1_L0 (0 : Int) n224 n225 ns226 ts227 n228 n229 b230 b231 n232 n233 ns234 ts235 n236 n237 b238 b239
  (fun b258 => (k1 b258))
  (k1 true))) (k1 false)) (k1 false)) (k1 false)) (k1 false)) (k1 false)))) (k1 false)) (k1 false))
noncomputable def ref36_Samev1 (n224 : Int) (n225 : Int) (ns226 : List Int) (ts227 : List (Int × Int × Unit)) (n228 : Int) (n229 : Int) (b230 : Bool) (b231 : Bool) (n232 : Int) (n233 : Int) (ns234 : List Int) (ts235 : List (Int × Int × Unit)) (n236 : Int) (n237 : Int) (b238 : Bool) (b239 : Bool) (k1 : Bool → Option Bool) : Option Bool := ref36_Samev1.body ref01_Longs (ref36_Samev1_L0 ROUNDS) n224 n225 ns226 ts227 n228 n229 b230 b231 n232 n233 ns234 ts235 n236 n237 b238 b239 k1
noncomputable def ref36_Samev1.get (F : Int → Int → (List Int) → (List (Int × Int × Unit)) → Int → Int → Bool → Bool → Int → Int → (List Int) → (List (Int × Int × Unit)) → Int → Int → Bool → Bool → (Bool → Option Bool) → Option Bool) (e : Option Bool) (g : FuncId) (a : List AV) (h : Heap) (k : KR) : Option Bool := match g, a, h with
  | 9, [(.agg [(.d ⟨(.int .i64), n224⟩), (.d ⟨(.int .i64), n225⟩), (.bv 1 2 (.int .i64) ns226), (.bv 2 39 (.st [(.int .i64), (.int .i64)]) ts227), (.d ⟨(.int .i64), n228⟩), (.d ⟨(.int .i64), n229⟩), (.d ⟨.bool, b230⟩), (.d ⟨.bool, b231⟩)]), (.agg [(.d ⟨(.int .i64), n232⟩), (.d ⟨(.int .i64), n233⟩), (.bv 0 2 (.int .i64) ns234), (.bv 3 39 (.st [(.int .i64), (.int .i64)]) ts235), (.d ⟨(.int .i64), n236⟩), (.d ⟨(.int .i64), n237⟩), (.d ⟨.bool, b238⟩), (.d ⟨.bool, b239⟩)])], [] => F n224 n225 ns226 ts227 n228 n229 b230 b231 n232 n233 ns234 ts235 n236 n237 b238 b239 (fun y0 => k (.d ⟨.bool, y0⟩) [])
  | _, _, _ => e
noncomputable def ref36_Samev1.calls (F0 : (List Int) → (List Int) → (Bool → Option Bool) → Option Bool) : RecF := fun g a h k => (ref01_Longs.get F0 none g a h k)
noncomputable def ref36_Samev1.loops (L0 : Int → Int → Int → (List Int) → (List (Int × Int × Unit)) → Int → Int → Bool → Bool → Int → Int → (List Int) → (List (Int × Int × Unit)) → Int → Int → Bool → Bool → (Bool → Option Bool) → (Option Bool) → Option Bool) : LoopF := fun b => match Nat.beq b 0 with | true => some (fun st k => (ref36_Samev1_L0.get L0 none st k)) | false => none
set_option maxRecDepth 100000 in
theorem ref36_Samev1.eq (F0 : (List Int) → (List Int) → (Bool → Option Bool) → Option Bool) (L0 : Int → Int → Int → (List Int) → (List (Int × Int × Unit)) → Int → Int → Bool → Bool → Int → Int → (List Int) → (List (Int × Int × Unit)) → Int → Int → Bool → Bool → (Bool → Option Bool) → (Option Bool) → Option Bool) (n224 : Int) (n225 : Int) (ns226 : List Int) (ts227 : List (Int × Int × Unit)) (n228 : Int) (n229 : Int) (b230 : Bool) (b231 : Bool) (n232 : Int) (n233 : Int) (ns234 : List Int) (ts235 : List (Int × Int × Unit)) (n236 : Int) (n237 : Int) (b238 : Bool) (b239 : Bool) (k : KR) : execL Try.prog ht 9 (callfOf (ref36_Samev1.calls F0)) (ref36_Samev1.loops L0) 0 (codeOf Try.f9) ⟨[(.agg [(.d ⟨(.int .i64), n224⟩), (.d ⟨(.int .i64), n225⟩), (.bv 1 2 (.int .i64) ns226), (.bv 2 39 (.st [(.int .i64), (.int .i64)]) ts227), (.d ⟨(.int .i64), n228⟩), (.d ⟨(.int .i64), n229⟩), (.d ⟨.bool, b230⟩), (.d ⟨.bool, b231⟩)]), (.agg [(.d ⟨(.int .i64), n232⟩), (.d ⟨(.int .i64), n233⟩), (.bv 0 2 (.int .i64) ns234), (.bv 3 39 (.st [(.int .i64), (.int .i64)]) ts235), (.d ⟨(.int .i64), n236⟩), (.d ⟨(.int .i64), n237⟩), (.d ⟨.bool, b238⟩), (.d ⟨.bool, b239⟩)])] ++ List.replicate (Try.f9.ntmps - ([(.agg [(.d ⟨(.int .i64), n224⟩), (.d ⟨(.int .i64), n225⟩), (.bv 1 2 (.int .i64) ns226), (.bv 2 39 (.st [(.int .i64), (.int .i64)]) ts227), (.d ⟨(.int .i64), n228⟩), (.d ⟨(.int .i64), n229⟩), (.d ⟨.bool, b230⟩), (.d ⟨.bool, b231⟩)]), (.agg [(.d ⟨(.int .i64), n232⟩), (.d ⟨(.int .i64), n233⟩), (.bv 0 2 (.int .i64) ns234), (.bv 3 39 (.st [(.int .i64), (.int .i64)]) ts235), (.d ⟨(.int .i64), n236⟩), (.d ⟨(.int .i64), n237⟩), (.d ⟨.bool, b238⟩), (.d ⟨.bool, b239⟩)])] : List AV).length) .undef, [], 2⟩ (leave Try.prog Try.f9 k) = ref36_Samev1.body F0 L0 n224 n225 ns226 ts227 n228 n229 b230 b231 n232 n233 ns234 ts235 n236 n237 b238 b239 (fun y0 => k (.d ⟨.bool, y0⟩) []) := by kernel_rfl
theorem ref36_Samev1.ok (d : Nat) (hd : 2 ≤ d) (n224 : Int) (n225 : Int) (ns226 : List Int) (ts227 : List (Int × Int × Unit)) (n228 : Int) (n229 : Int) (b230 : Bool) (b231 : Bool) (n232 : Int) (n233 : Int) (ns234 : List Int) (ts235 : List (Int × Int × Unit)) (n236 : Int) (n237 : Int) (b238 : Bool) (b239 : Bool) (k : KR) (hx : ref36_Samev1 n224 n225 ns226 ts227 n228 n229 b230 b231 n232 n233 ns234 ts235 n236 n237 b238 b239 (fun y0 => k (.d ⟨.bool, y0⟩) []) = some true) : callK Try.prog ht d 9 [(.agg [(.d ⟨(.int .i64), n224⟩), (.d ⟨(.int .i64), n225⟩), (.bv 1 2 (.int .i64) ns226), (.bv 2 39 (.st [(.int .i64), (.int .i64)]) ts227), (.d ⟨(.int .i64), n228⟩), (.d ⟨(.int .i64), n229⟩), (.d ⟨.bool, b230⟩), (.d ⟨.bool, b231⟩)]), (.agg [(.d ⟨(.int .i64), n232⟩), (.d ⟨(.int .i64), n233⟩), (.bv 0 2 (.int .i64) ns234), (.bv 3 39 (.st [(.int .i64), (.int .i64)]) ts235), (.d ⟨(.int .i64), n236⟩), (.d ⟨(.int .i64), n237⟩), (.d ⟨.bool, b238⟩), (.d ⟨.bool, b239⟩)])] [] k = some true := by
  obtain ⟨d, rfl⟩ : ∃ e, d = e + 1 := ⟨d - 1, by omega⟩
  exact fn_ok (c := codeOf Try.f9) Try.func9 (by kernel_rfl) (rec := ref36_Samev1.calls ref01_Longs) (fun g a h k hx => by
    rcases ref01_Longs.look d (by omega) hx with hx | hx
    rotate_left
    · exact hx
    cases hx) (loopf := ref36_Samev1.loops (ref36_Samev1_L0 ROUNDS)) (by
    have e : loopsOf (ref36_Samev1.loops (ref36_Samev1_L0 ROUNDS)) 0 (codeOf Try.f9) = [(0, loopAt 0 (codeOf Try.f9))] := by kernel_rfl
    rw [e]
    intro p hp
    simp only [List.mem_cons, List.not_mem_nil, or_false] at hp
    rcases hp with rfl
    · refine loopRef_of (callf := callfOf (callK Try.prog ht d)) (callfOf_ref (callK_mono d)) fun lf st k hb hx => ?_
      cases hb
      rcases ref36_Samev1_L0.look hx with hx | hx
      rotate_left
      · exact ref36_Samev1_L0.ok d (by omega) _ _ _ hx
      cases hx) ((ref36_Samev1.eq ref01_Longs (ref36_Samev1_L0 ROUNDS) n224 n225 ns226 ts227 n228 n229 b230 b231 n232 n233 ns234 ts235 n236 n237 b238 b239 k).trans hx)
theorem ref36_Samev1.look (d : Nat) (hd : 2 ≤ d) {e : Option Bool} {g : FuncId} {a : List AV} {h : Heap} {k : KR} (hx : ref36_Samev1.get ref36_Samev1 e g a h k = some true) : e = some true ∨ callK Try.prog ht d g a h k = some true := by
  unfold ref36_Samev1.get at hx
  split at hx
  · exact .inr (ref36_Samev1.ok d hd _ _ _ _ _ _ _ _ _ _ _ _ _ _ _ _ _ hx)
  · exact .inl hx
/-- function 21: the loop in block 0 -/
noncomputable def ref01_Longsv1_L0.body (ref01_Longsv1_L0 : (List Int) → (List Int) → Int → (Bool → Option Bool) → (Option Bool) → Option Bool) (ns264 : List Int) (ns265 : List Int) (n266 : Int) (k1 : Bool → Option Bool) (k2 : Option Bool) : Option Bool :=
  (cond_ (decide (n266 < (((List.length ns264) : Nat) : Int))) (cond_ ((decide ((0 : Int) ≤ n266)) && (decide (n266 < (((List.length ns264) : Nat) : Int)))) (cond_ ((decide ((0 : Int) ≤ n266)) && (decide (n266 < (((List.length ns265) : Nat) : Int)))) (cond_ ((List.getD ns264 (Int.toNat n266) (0 : Int)) != (List.getD ns265 (Int.toNat n266) (0 : Int))) (k1 false) (ref01_Longsv1_L0 ns264 ns265 (IntKind.wrap .i64 (n266 + (1 : Int))) k1 k2)) none) none) (k2))
noncomputable def ref01_Longsv1_L0 : Nat → (List Int) → (List Int) → Int → (Bool → Option Bool) → (Option Bool) → Option Bool
  | 0 => fun _ _ _ _ _ => none
  | n + 1 => ref01_Longsv1_L0.body (ref01_Longsv1_L0 n)
noncomputable def ref01_Longsv1_L0.get (F : (List Int) → (List Int) → Int → (Bool → Option Bool) → (Option Bool) → Option Bool) (e : Option Bool) (st : St) (k : KE) : Option Bool := match st with
  | ⟨sl, hp, m⟩ => match Nat.beq m 2, pickS 26 [0, 1, 5] sl, hp with
    | true, some [(.bv 0 2 (.int .i64) ns264), (.bv 0 2 (.int .i64) ns265), (.d ⟨(.int .i64), n266⟩)], [] => F ns264 ns265 n266 (fun y0 => k .ret ⟨fillS 26 [4] [(.d ⟨.bool, y0⟩)], [], 2⟩) (k (.exit 0) ⟨fillS 26 [] [], [], 2⟩)
    | _, _, _ => e
noncomputable def ref01_Longsv1_L0.calls : RecF := fun g a h k => none
noncomputable def ref01_Longsv1_L0.loops : LoopF := fun b => none
set_option maxRecDepth 100000 in
theorem ref01_Longsv1_L0.step (S : (List Int) → (List Int) → Int → (Bool → Option Bool) → (Option Bool) → Option Bool) (ns264 : List Int) (ns265 : List Int) (n266 : Int) (k : KE) : execL Try.prog ht 21 (callfOf (ref01_Longsv1_L0.calls)) (ref01_Longsv1_L0.loops) 0 (loopAt 0 (codeOf Try.f21)) ⟨fillS 26 [0, 1, 5] [(.bv 0 2 (.int .i64) ns264), (.bv 0 2 (.int .i64) ns265), (.d ⟨(.int .i64), n266⟩)], [], 2⟩ (again (ref01_Longsv1_L0.get S none) (plan Try.prog (ht 21 0)) k) = ref01_Longsv1_L0.body S ns264 ns265 n266 (fun y0 => k .ret ⟨fillS 26 [4] [(.d ⟨.bool, y0⟩)], [], 2⟩) (k (.exit 0) ⟨fillS 26 [] [], [], 2⟩) := by kernel_rfl
theorem ref01_Longsv1_L0.ok (d : Nat) (hd : 0 ≤ d) : ∀ n st k, ref01_Longsv1_L0.get (ref01_Longsv1_L0 n) none st k = some true → iter n (plan Try.prog (ht 21 0)) (fun st k => execK Try.prog ht 21 (callfOf (callK Try.prog ht d)) 0 (loopAt 0 (codeOf Try.f21)) st k) st k = some true :=
  loop_ok (lfn := fun n st k => ref01_Longsv1_L0.get (ref01_Longsv1_L0 n) none st k) (rec := ref01_Longsv1_L0.calls) (fun g a h k hx => by
    cases hx) (loopf := ref01_Longsv1_L0.loops) (by
    have e : loopsOf (ref01_Longsv1_L0.loops) 0 (loopAt 0 (codeOf Try.f21)) = [] := by kernel_rfl
    rw [e]
    intro p hp
    cases hp) (fun st k h => by
    obtain ⟨sl, hp, m⟩ := st
    unfold ref01_Longsv1_L0.get at h
    dsimp only at h
    split at h
    · have h' : (none : Option Bool) = some true := h
      cases h'
    · cases h) (fun n st k h => by
    obtain ⟨sl, hp, m⟩ := st
    unfold ref01_Longsv1_L0.get at h
    dsimp only at h
    split at h
    · rename_i h1 h2
      obtain rfl := pickS_ok h2
      obtain rfl := Nat.eq_of_beq_eq_true h1
      exact (ref01_Longsv1_L0.step (ref01_Longsv1_L0 n) _ _ _ k).trans h
    · cases h)
theorem ref01_Longsv1_L0.look {F : (List Int) → (List Int) → Int → (Bool → Option Bool) → (Option Bool) → Option Bool} {e : Option Bool} {st : St} {k : KE} (hx : ref01_Longsv1_L0.get F e st k = some true) : e = some true ∨ ref01_Longsv1_L0.get F none st k = some true := by
  obtain ⟨sl, hp, m⟩ := st
  unfold ref01_Longsv1_L0.get at hx ⊢
  dsimp only at hx ⊢
  split at hx
  · exact .inr hx
  · exact .inl hx
/-- function 21: sheerleg/sheerlegref01.Longs -/
noncomputable def ref01_Longsv1.body (ref01_Longsv1_L0 : (List Int) → (List Int) → Int → (Bool → Option Bool) → (Option Bool) → Option Bool) (ns262 : List Int) (ns263 : List Int) (k1 : Bool → Option Bool) : Option Bool :=
  (cond_ ((((List.length ns262) : Nat) : Int) != (((List.length ns263) : Nat) : Int)) (k1 false) (ref01_Longsv1_L0 ns262 ns263 (0 : Int)
  (fun b267 => (k1 b267))
  (k1 true)))
noncomputable def ref01_Longsv1 (ns262 : List Int) (ns263 : List Int) (k1 : Bool → Option Bool) : Option Bool := ref01_Longsv1.body (ref01_Longsv1_L0 ROUNDS) ns262 ns263 k1
noncomputable def ref01_Longsv1.get (F : (List Int) → (List Int) → (Bool → Option Bool) → Option Bool) (e : Option Bool) (g : FuncId) (a : List AV) (h : Heap) (k : KR) : Option Bool := match g, a, h with
  | 21, [(.bv 0 2 (.int .i64) ns262), (.bv 0 2 (.int .i64) ns263)], [] => F ns262 ns263 (fun y0 => k (.d ⟨.bool, y0⟩) [])
  | _, _, _ => e
noncomputable def ref01_Longsv1.calls : RecF := fun g a h k => none
noncomputable def ref01_Longsv1.loops (L0 : (List Int) → (List Int) → Int → (Bool → Option Bool) → (Option Bool) → Option Bool) : LoopF := fun b => match Nat.beq b 0 with | true => some (fun st k => (ref01_Longsv1_L0.get L0 none st k)) | false => none
set_option maxRecDepth 100000 in
theorem ref01_Longsv1.eq (L0 : (List Int) → (List Int) → Int → (Bool → Option Bool) → (Option Bool) → Option Bool) (ns262 : List Int) (ns263 : List Int) (k : KR) : execL Try.prog ht 21 (callfOf (ref01_Longsv1.calls)) (ref01_Longsv1.loops L0) 0 (codeOf Try.f21) ⟨[(.bv 0 2 (.int .i64) ns262), (.bv 0 2 (.int .i64) ns263)] ++ List.replicate (Try.f21.ntmps - ([(.bv 0 2 (.int .i64) ns262), (.bv 0 2 (.int .i64) ns263)] : List AV).length) .undef, [], 2⟩ (leave Try.prog Try.f21 k) = ref01_Longsv1.body L0 ns262 ns263 (fun y0 => k (.d ⟨.bool, y0⟩) []) := by kernel_rfl
theorem ref01_Longsv1.ok (d : Nat) (hd : 1 ≤ d) (ns262 : List Int) (ns263 : List Int) (k : KR) (hx : ref01_Longsv1 ns262 ns263 (fun y0 => k (.d ⟨.bool, y0⟩) []) = some true) : callK Try.prog ht d 21 [(.bv 0 2 (.int .i64) ns262), (.bv 0 2 (.int .i64) ns263)] [] k = some true := by
  obtain ⟨d, rfl⟩ : ∃ e, d = e + 1 := ⟨d - 1, by omega⟩
  exact fn_ok (c := codeOf Try.f21) Try.func21 (by kernel_rfl) (rec := ref01_Longsv1.calls) (fun g a h k hx => by
    cases hx) (loopf := ref01_Longsv1.loops (ref01_Longsv1_L0 ROUNDS)) (by
    have e : loopsOf (ref01_Longsv1.loops (ref01_Longsv1_L0 ROUNDS)) 0 (codeOf Try.f21) = [(0, loopAt 0 (codeOf Try.f21))] := by kernel_rfl
    rw [e]
    intro p hp
    simp only [List.mem_cons, List.not_mem_nil, or_false] at hp
    rcases hp with rfl
    · refine loopRef_of (callf := callfOf (callK Try.prog ht d)) (callfOf_ref (callK_mono d)) fun lf st k hb hx => ?_
      cases hb
      rcases ref01_Longsv1_L0.look hx with hx | hx
      rotate_left
      · exact ref01_Longsv1_L0.ok d (by omega) _ _ _ hx
      cases hx) ((ref01_Longsv1.eq (ref01_Longsv1_L0 ROUNDS) ns262 ns263 k).trans hx)
theorem ref01_Longsv1.look (d : Nat) (hd : 1 ≤ d) {e : Option Bool} {g : FuncId} {a : List AV} {h : Heap} {k : KR} (hx : ref01_Longsv1.get ref01_Longsv1 e g a h k = some true) : e = some true ∨ callK Try.prog ht d g a h k = some true := by
  unfold ref01_Longsv1.get at hx
  split at hx
  · exact .inr (ref01_Longsv1.ok d hd _ _ _ hx)
  · exact .inl hx
/-- function 9: the loop in block 0 -/
noncomputable def ref36_Samev2_L0.body (ref36_Samev2_L0 : Int → (Int × Int × (List Int) × (List (Int × Int × Unit)) × Int × Int × Bool × Bool × Unit) → (Int × Int × (List Int) × (List (Int × Int × Unit)) × Int × Int × Bool × Bool × Unit) → (Bool → Option Bool) → (Option Bool) → Option Bool) (n269 : Int) (t270 : Int × Int × (List Int) × (List (Int × Int × Unit)) × Int × Int × Bool × Bool × Unit) (t271 : Int × Int × (List Int) × (List (Int × Int × Unit)) × Int × Int × Bool × Bool × Unit) (k1 : Bool → Option Bool) (k2 : Option Bool) : Option Bool :=
  (cond_ (decide (n269 < (((List.length t270.2.2.2.1) : Nat) : Int))) (cond_ ((decide ((0 : Int) ≤ n269)) && (decide (n269 < (((List.length t270.2.2.2.1) : Nat) : Int)))) (cond_ ((decide ((0 : Int) ≤ n269)) && (decide (n269 < (((List.length t271.2.2.2.1) : Nat) : Int)))) (cond_ (! (((List.getD t270.2.2.2.1 (Int.toNat n269) ((0 : Int), ((0 : Int), ()))).1 == (List.getD t271.2.2.2.1 (Int.toNat n269) ((0 : Int), ((0 : Int), ()))).1) && (((List.getD t270.2.2.2.1 (Int.toNat n269) ((0 : Int), ((0 : Int), ()))).2.1 == (List.getD t271.2.2.2.1 (Int.toNat n269) ((0 : Int), ((0 : Int), ()))).2.1) && true))) (k1 false) (ref36_Samev2_L0 (IntKind.wrap .i64 (n269 + (1 : Int))) t270 t271 k1 k2)) none) none) (k2))
noncomputable def ref36_Samev2_L0 : Nat → Int → (Int × Int × (List Int) × (List (Int × Int × Unit)) × Int × Int × Bool × Bool × Unit) → (Int × Int × (List Int) × (List (Int × Int × Unit)) × Int × Int × Bool × Bool × Unit) → (Bool → Option Bool) → (Option Bool) → Option Bool
  | 0 => fun _ _ _ _ _ => none
  | n + 1 => ref36_Samev2_L0.body (ref36_Samev2_L0 n)
noncomputable def ref36_Samev2_L0.get (F : Int → (Int × Int × (List Int) × (List (Int × Int × Unit)) × Int × Int × Bool × Bool × Unit) → (Int × Int × (List Int) × (List (Int × Int × Unit)) × Int × Int × Bool × Bool × Unit) → (Bool → Option Bool) → (Option Bool) → Option Bool) (e : Option Bool) (st : St) (k : KE) : Option Bool := match st with
  | ⟨sl, hp, m⟩ => match Nat.beq m 2, pickS 81 [2, 3, 5] sl, hp with
    | true, some [(.ptr [1, 0] 0 0), (.ptr [1, 1] 0 0), (.d ⟨(.int .i64), n269⟩)], [([1, 0], ⟨34, 8, (.data (.st [(.int .i64), (.int .i64), (.sl 2 (.int .i64)), (.sl 39 (.st [(.int .i64), (.int .i64)])), (.int .i64), (.int .i64), .bool, .bool]) [t270])⟩), ([1, 1], ⟨34, 8, (.data (.st [(.int .i64), (.int .i64), (.sl 2 (.int .i64)), (.sl 39 (.st [(.int .i64), (.int .i64)])), (.int .i64), (.int .i64), .bool, .bool]) [t271])⟩)] => F n269 t270 t271 (fun y0 => k .ret ⟨fillS 81 [4] [(.d ⟨.bool, y0⟩)], [], 2⟩) (k (.exit 0) ⟨fillS 81 [] [], [], 2⟩)
    | _, _, _ => e
noncomputable def ref36_Samev2_L0.calls : RecF := fun g a h k => none
noncomputable def ref36_Samev2_L0.loops : LoopF := fun b => none
set_option maxRecDepth 100000 in
theorem ref36_Samev2_L0.step (S : Int → (Int × Int × (List Int) × (List (Int × Int × Unit)) × Int × Int × Bool × Bool × Unit) → (Int × Int × (List Int) × (List (Int × Int × Unit)) × Int × Int × Bool × Bool × Unit) → (Bool → Option Bool) → (Option Bool) → Option Bool) (n269 : Int) (t270 : Int × Int × (List Int) × (List (Int × Int × Unit)) × Int × Int × Bool × Bool × Unit) (t271 : Int × Int × (List Int) × (List (Int × Int × Unit)) × Int × Int × Bool × Bool × Unit) (k : KE) : execL Try.prog ht 9 (callfOf (ref36_Samev2_L0.calls)) (ref36_Samev2_L0.loops) 0 (loopAt 0 (codeOf Try.f9)) ⟨fillS 81 [2, 3, 5] [(.ptr [1, 0] 0 0), (.ptr [1, 1] 0 0), (.d ⟨(.int .i64), n269⟩)], [([1, 0], ⟨34, 8, (.data (.st [(.int .i64), (.int .i64), (.sl 2 (.int .i64)), (.sl 39 (.st [(.int .i64), (.int .i64)])), (.int .i64), (.int .i64), .bool, .bool]) [t270])⟩), ([1, 1], ⟨34, 8, (.data (.st [(.int .i64), (.int .i64), (.sl 2 (.int .i64)), (.sl 39 (.st [(.int .i64), (.int .i64)])), (.int .i64), (.int .i64), .bool, .bool]) [t271])⟩)], 2⟩ (again (ref36_Samev2_L0.get S none) (plan Try.prog (ht 9 0)) k) = ref36_Samev2_L0.body S n269 t270 t271 (fun y0 => k .ret ⟨fillS 81 [4] [(.d ⟨.bool, y0⟩)], [], 2⟩) (k (.exit 0) ⟨fillS 81 [] [], [], 2⟩) := by kernel_rfl
theorem ref36_Samev2_L0.ok (d : Nat) (hd : 0 ≤ d) : ∀ n st k, ref36_Samev2_L0.get (ref36_Samev2_L0 n) none st k = some true → iter n (plan Try.prog (ht 9 0)) (fun st k => execK Try.prog ht 9 (callfOf (callK Try.prog ht d)) 0 (loopAt 0 (codeOf Try.f9)) st k) st k = some true :=
  loop_ok (lfn := fun n st k => ref36_Samev2_L0.get (ref36_Samev2_L0 n) none st k) (rec := ref36_Samev2_L0.calls) (fun g a h k hx => by
    cases hx) (loopf := ref36_Samev2_L0.loops) (by
    have e : loopsOf (ref36_Samev2_L0.loops) 0 (loopAt 0 (codeOf Try.f9)) = [] := by kernel_rfl
    rw [e]
    intro p hp
    cases hp) (fun st k h => by
    obtain ⟨sl, hp, m⟩ := st
    unfold ref36_Samev2_L0.get at h
    dsimp only at h
    split at h
    · have h' : (none : Option Bool) = some true := h
      cases h'
    · cases h) (fun n st k h => by
    obtain ⟨sl, hp, m⟩ := st
    unfold ref36_Samev2_L0.get at h
    dsimp only at h
    split at h
    · rename_i h1 h2
      obtain rfl := pickS_ok h2
      obtain rfl := Nat.eq_of_beq_eq_true h1
      exact (ref36_Samev2_L0.step (ref36_Samev2_L0 n) _ _ _ k).trans h
    · cases h)
theorem ref36_Samev2_L0.look {F : Int → (Int × Int × (List Int) × (List (Int × Int × Unit)) × Int × Int × Bool × Bool × Unit) → (Int × Int × (List Int) × (List (Int × Int × Unit)) × Int × Int × Bool × Bool × Unit) → (Bool → Option Bool) → (Option Bool) → Option Bool} {e : Option Bool} {st : St} {k : KE} (hx : ref36_Samev2_L0.get F e st k = some true) : e = some true ∨ ref36_Samev2_L0.get F none st k = some true := by
  obtain ⟨sl, hp, m⟩ := st
  unfold ref36_Samev2_L0.get at hx ⊢
  dsimp only at hx ⊢
  split at hx
  · exact .inr hx
  · exact .inl hx
/-- function 9: sheerleg/sheerlegref36.Same -/
noncomputable def ref36_Samev2.body (ref01_Longsv1 : (List Int) → (List Int) → (Bool → Option Bool) → Option Bool) (ref36_Samev2_L0 : Int → (Int × Int × (List Int) × (List (Int × Int × Unit)) × Int × Int × Bool × Bool × Unit) → (Int × Int × (List Int) × (List (Int × Int × Unit)) × Int × Int × Bool × Bool × Unit) → (Bool → Option Bool) → (Option Bool) → Option Bool) (t260 : Int × Int × (List Int) × (List (Int × Int × Unit)) × Int × Int × Bool × Bool × Unit) (t261 : Int × Int × (List Int) × (List (Int × Int × Unit)) × Int × Int × Bool × Bool × Unit) (k1 : Bool → Option Bool) : Option Bool :=
  (cond_ (! (t260.1 != t261.1)) (cond_ (! (t260.2.1 != t261.2.1)) (ref01_Longsv1 t260.2.2.1 t261.2.2.1
  (fun b268 => (cond_ (! (! b268)) (cond_ (! (t260.2.2.2.2.1 != t261.2.2.2.2.1)) (cond_ (! (t260.2.2.2.2.2.1 != t261.2.2.2.2.2.1)) (cond_ (! (! (t260.2.2.2.2.2.2.1 == t261.2.2.2.2.2.2.1))) (cond_ (! (! (t260.2.2.2.2.2.2.2.1 == t261.2.2.2.2.2.2.2.1))) (cond_ ((((List.length t260.2.2.2.1) : Nat) : Int) != (((List.length t261.2.2.2.1) : Nat) : Int)) (k1 false) (ref36_Samev2_L0 (0 : Int) t260 t261
  (fun b272 => (k1 b272))
  (k1 true))) (k1 false)) (k1 false)) (k1 false)) (k1 false)) (k1 false)))) (k1 false)) (k1 false))
noncomputable def ref36_Samev2 (t260 : Int × Int × (List Int) × (List (Int × Int × Unit)) × Int × Int × Bool × Bool × Unit) (t261 : Int × Int × (List Int) × (List (Int × Int × Unit)) × Int × Int × Bool × Bool × Unit) (k1 : Bool → Option Bool) : Option Bool := ref36_Samev2.body ref01_Longsv1 (ref36_Samev2_L0 ROUNDS) t260 t261 k1
noncomputable def ref36_Samev2.get (F : (Int × Int × (List Int) × (List (Int × Int × Unit)) × Int × Int × Bool × Bool × Unit) → (Int × Int × (List Int) × (List (Int × Int × Unit)) × Int × Int × Bool × Bool × Unit) → (Bool → Option Bool) → Option Bool) (e : Option Bool) (g : FuncId) (a : List AV) (h : Heap) (k : KR) : Option Bool := match g, a, h with
  | 9, [(.d ⟨(.st [(.int .i64), (.int .i64), (.sl 2 (.int .i64)), (.sl 39 (.st [(.int .i64), (.int .i64)])), (.int .i64), (.int .i64), .bool, .bool]), t260⟩), (.d ⟨(.st [(.int .i64), (.int .i64), (.sl 2 (.int .i64)), (.sl 39 (.st [(.int .i64), (.int .i64)])), (.int .i64), (.int .i64), .bool, .bool]), t261⟩)], [] => F t260 t261 (fun y0 => k (.d ⟨.bool, y0⟩) [])
  | _, _, _ => e
noncomputable def ref36_Samev2.calls (F0 : (List Int) → (List Int) → (Bool → Option Bool) → Option Bool) : RecF := fun g a h k => (ref01_Longsv1.get F0 none g a h k)
noncomputable def ref36_Samev2.loops (L0 : Int → (Int × Int × (List Int) × (List (Int × Int × Unit)) × Int × Int × Bool × Bool × Unit) → (Int × Int × (List Int) × (List (Int × Int × Unit)) × Int × Int × Bool × Bool × Unit) → (Bool → Option Bool) → (Option Bool) → Option Bool) : LoopF := fun b => match Nat.beq b 0 with | true => some (fun st k => (ref36_Samev2_L0.get L0 none st k)) | false => none
set_option maxRecDepth 100000 in
theorem ref36_Samev2.eq (F0 : (List Int) → (List Int) → (Bool → Option Bool) → Option Bool) (L0 : Int → (Int × Int × (List Int) × (List (Int × Int × Unit)) × Int × Int × Bool × Bool × Unit) → (Int × Int × (List Int) × (List (Int × Int × Unit)) × Int × Int × Bool × Bool × Unit) → (Bool → Option Bool) → (Option Bool) → Option Bool) (t260 : Int × Int × (List Int) × (List (Int × Int × Unit)) × Int × Int × Bool × Bool × Unit) (t261 : Int × Int × (List Int) × (List (Int × Int × Unit)) × Int × Int × Bool × Bool × Unit) (k : KR) : execL Try.prog ht 9 (callfOf (ref36_Samev2.calls F0)) (ref36_Samev2.loops L0) 0 (codeOf Try.f9) ⟨[(.d ⟨(.st [(.int .i64), (.int .i64), (.sl 2 (.int .i64)), (.sl 39 (.st [(.int .i64), (.int .i64)])), (.int .i64), (.int .i64), .bool, .bool]), t260⟩), (.d ⟨(.st [(.int .i64), (.int .i64), (.sl 2 (.int .i64)), (.sl 39 (.st [(.int .i64), (.int .i64)])), (.int .i64), (.int .i64), .bool, .bool]), t261⟩)] ++ List.replicate (Try.f9.ntmps - ([(.d ⟨(.st [(.int .i64), (.int .i64), (.sl 2 (.int .i64)), (.sl 39 (.st [(.int .i64), (.int .i64)])), (.int .i64), (.int .i64), .bool, .bool]), t260⟩), (.d ⟨(.st [(.int .i64), (.int .i64), (.sl 2 (.int .i64)), (.sl 39 (.st [(.int .i64), (.int .i64)])), (.int .i64), (.int .i64), .bool, .bool]), t261⟩)] : List AV).length) .undef, [], 2⟩ (leave Try.prog Try.f9 k) = ref36_Samev2.body F0 L0 t260 t261 (fun y0 => k (.d ⟨.bool, y0⟩) []) := by kernel_rfl
theorem ref36_Samev2.ok (d : Nat) (hd : 2 ≤ d) (t260 : Int × Int × (List Int) × (List (Int × Int × Unit)) × Int × Int × Bool × Bool × Unit) (t261 : Int × Int × (List Int) × (List (Int × Int × Unit)) × Int × Int × Bool × Bool × Unit) (k : KR) (hx : ref36_Samev2 t260 t261 (fun y0 => k (.d ⟨.bool, y0⟩) []) = some true) : callK Try.prog ht d 9 [(.d ⟨(.st [(.int .i64), (.int .i64), (.sl 2 (.int .i64)), (.sl 39 (.st [(.int .i64), (.int .i64)])), (.int .i64), (.int .i64), .bool, .bool]), t260⟩), (.d ⟨(.st [(.int .i64), (.int .i64), (.sl 2 (.int .i64)), (.sl 39 (.st [(.int .i64), (.int .i64)])), (.int .i64), (.int .i64), .bool, .bool]), t261⟩)] [] k = some true := by
  obtain ⟨d, rfl⟩ : ∃ e, d = e + 1 := ⟨d - 1, by omega⟩
  exact fn_ok (c := codeOf Try.f9) Try.func9 (by kernel_rfl) (rec := ref36_Samev2.calls ref01_Longsv1) (fun g a h k hx => by
    rcases ref01_Longsv1.look d (by omega) hx with hx | hx
    rotate_left
    · exact hx
    cases hx) (loopf := ref36_Samev2.loops (ref36_Samev2_L0 ROUNDS)) (by
    have e : loopsOf (ref36_Samev2.loops (ref36_Samev2_L0 ROUNDS)) 0 (codeOf Try.f9) = [(0, loopAt 0 (codeOf Try.f9))] := by kernel_rfl
    rw [e]
    intro p hp
    simp only [List.mem_cons, List.not_mem_nil, or_false] at hp
    rcases hp with rfl
    · refine loopRef_of (callf := callfOf (callK Try.prog ht d)) (callfOf_ref (callK_mono d)) fun lf st k hb hx => ?_
      cases hb
      rcases ref36_Samev2_L0.look hx with hx | hx
      rotate_left
      · exact ref36_Samev2_L0.ok d (by omega) _ _ _ hx
      cases hx) ((ref36_Samev2.eq ref01_Longsv1 (ref36_Samev2_L0 ROUNDS) t260 t261 k).trans hx)
theorem ref36_Samev2.look (d : Nat) (hd : 2 ≤ d) {e : Option Bool} {g : FuncId} {a : List AV} {h : Heap} {k : KR} (hx : ref36_Samev2.get ref36_Samev2 e g a h k = some true) : e = some true ∨ callK Try.prog ht d g a h k = some true := by
  unfold ref36_Samev2.get at hx
  split at hx
  · exact .inr (ref36_Samev2.ok d hd _ _ _ hx)
  · exact .inl hx
/-- function 29: sheerleg/sig.Is -/
noncomputable def sig_Is.body (n298 : Int) (k1 : Bool → Option Bool) : Option Bool :=
  (cond_ (decide (n298 ≥ (0 : Int))) (k1 (decide (n298 < (8 : Int)))) (k1 false))
noncomputable def sig_Is (n298 : Int) (k1 : Bool → Option Bool) : Option Bool := sig_Is.body n298 k1
noncomputable def sig_Is.get (F : Int → (Bool → Option Bool) → Option Bool) (e : Option Bool) (g : FuncId) (a : List AV) (h : Heap) (k : KR) : Option Bool := match g, a, h with
  | 29, [(.d ⟨(.int .i64), n298⟩)], [] => F n298 (fun y0 => k (.d ⟨.bool, y0⟩) [])
  | _, _, _ => e
noncomputable def sig_Is.calls : RecF := fun g a h k => none
noncomputable def sig_Is.loops : LoopF := fun b => none
set_option maxRecDepth 100000 in
theorem sig_Is.eq (n298 : Int) (k : KR) : execL Try.prog ht 29 (callfOf (sig_Is.calls)) (sig_Is.loops) 0 (codeOf Try.f29) ⟨[(.d ⟨(.int .i64), n298⟩)] ++ List.replicate (Try.f29.ntmps - ([(.d ⟨(.int .i64), n298⟩)] : List AV).length) .undef, [], 2⟩ (leave Try.prog Try.f29 k) = sig_Is.body n298 (fun y0 => k (.d ⟨.bool, y0⟩) []) := by kernel_rfl
theorem sig_Is.ok (d : Nat) (hd : 1 ≤ d) (n298 : Int) (k : KR) (hx : sig_Is n298 (fun y0 => k (.d ⟨.bool, y0⟩) []) = some true) : callK Try.prog ht d 29 [(.d ⟨(.int .i64), n298⟩)] [] k = some true := by
  obtain ⟨d, rfl⟩ : ∃ e, d = e + 1 := ⟨d - 1, by omega⟩
  exact fn_ok (c := codeOf Try.f29) Try.func29 (by kernel_rfl) (rec := sig_Is.calls) (fun g a h k hx => by
    cases hx) (loopf := sig_Is.loops) (by
    have e : loopsOf (sig_Is.loops) 0 (codeOf Try.f29) = [] := by kernel_rfl
    rw [e]
    intro p hp
    cases hp) ((sig_Is.eq n298 k).trans hx)
theorem sig_Is.look (d : Nat) (hd : 1 ≤ d) {e : Option Bool} {g : FuncId} {a : List AV} {h : Heap} {k : KR} (hx : sig_Is.get sig_Is e g a h k = some true) : e = some true ∨ callK Try.prog ht d g a h k = some true := by
  unfold sig_Is.get at hx
  split at hx
  · exact .inr (sig_Is.ok d hd _ _ hx)
  · exact .inl hx
/-- function 26: sheerleg/sig.Params -/
noncomputable def sig_Params.body (sig_Is : Int → (Bool → Option Bool) → Option Bool) (n297 : Int) (k1 : Int → Option Bool) : Option Bool :=
  (sig_Is n297
  (fun b299 => (cond_ (! b299) (k1 (0 : Int)) (k1 (Int.fdiv n297 (2 : Int))))))
noncomputable def sig_Params (n297 : Int) (k1 : Int → Option Bool) : Option Bool := sig_Params.body sig_Is n297 k1
noncomputable def sig_Params.get (F : Int → (Int → Option Bool) → Option Bool) (e : Option Bool) (g : FuncId) (a : List AV) (h : Heap) (k : KR) : Option Bool := match g, a, h with
  | 26, [(.d ⟨(.int .i64), n297⟩)], [] => F n297 (fun y0 => k (.d ⟨(.int .i64), y0⟩) [])
  | _, _, _ => e
noncomputable def sig_Params.calls (F0 : Int → (Bool → Option Bool) → Option Bool) : RecF := fun g a h k => (sig_Is.get F0 none g a h k)
noncomputable def sig_Params.loops : LoopF := fun b => none
set_option maxRecDepth 100000 in
theorem sig_Params.eq (F0 : Int → (Bool → Option Bool) → Option Bool) (n297 : Int) (k : KR) : execL Try.prog ht 26 (callfOf (sig_Params.calls F0)) (sig_Params.loops) 0 (codeOf Try.f26) ⟨[(.d ⟨(.int .i64), n297⟩)] ++ List.replicate (Try.f26.ntmps - ([(.d ⟨(.int .i64), n297⟩)] : List AV).length) .undef, [], 2⟩ (leave Try.prog Try.f26 k) = sig_Params.body F0 n297 (fun y0 => k (.d ⟨(.int .i64), y0⟩) []) := by kernel_rfl
theorem sig_Params.ok (d : Nat) (hd : 2 ≤ d) (n297 : Int) (k : KR) (hx : sig_Params n297 (fun y0 => k (.d ⟨(.int .i64), y0⟩) []) = some true) : callK Try.prog ht d 26 [(.d ⟨(.int .i64), n297⟩)] [] k = some true := by
  obtain ⟨d, rfl⟩ : ∃ e, d = e + 1 := ⟨d - 1, by omega⟩
  exact fn_ok (c := codeOf Try.f26) Try.func26 (by kernel_rfl) (rec := sig_Params.calls sig_Is) (fun g a h k hx => by
    rcases sig_Is.look d (by omega) hx with hx | hx
    rotate_left
    · exact hx
    cases hx) (loopf := sig_Params.loops) (by
    have e : loopsOf (sig_Params.loops) 0 (codeOf Try.f26) = [] := by kernel_rfl
    rw [e]
    intro p hp
    cases hp) ((sig_Params.eq sig_Is n297 k).trans hx)
theorem sig_Params.look (d : Nat) (hd : 2 ≤ d) {e : Option Bool} {g : FuncId} {a : List AV} {h : Heap} {k : KR} (hx : sig_Params.get sig_Params e g a h k = some true) : e = some true ∨ callK Try.prog ht d g a h k = some true := by
  unfold sig_Params.get at hx
  split at hx
  · exact .inr (sig_Params.ok d hd _ _ hx)
  · exact .inl hx
/-- function 22: the loop in block 0 -/
noncomputable def frames_Args_L0.body (frames_Args_L0 : Int → Int → Int → (Int × Int × (List Int) × (List (Int × Int × Unit)) × Int × Int × Bool × Bool × Unit) → (List Int) → ((List Int) → Option Bool) → Option Bool) (frames_Get : (Int × Int × (List Int) × (List (Int × Int × Unit)) × Int × Int × Bool × Bool × Unit) → Int → (Int → Option Bool) → Option Bool) (n389 : Int) (n390 : Int) (n391 : Int) (t392 : Int × Int × (List Int) × (List (Int × Int × Unit)) × Int × Int × Bool × Bool × Unit) (ns393 : List Int) (k1 : (List Int) → Option Bool) : Option Bool :=
  (cond_ (decide (n391 < n390)) (frames_Get t392 (IntKind.wrap .i64 (n389 + n391))
  (fun n394 => (cond_ (Nat.ble (((List.length ns393) + (List.length (n394 :: []))) * (8 : Nat)) (140737488355328 : Nat)) (frames_Args_L0 n389 n390 (IntKind.wrap .i64 (n391 + (1 : Int))) t392 (ns393 ++ (n394 :: [])) k1) none))) (k1 ns393))
noncomputable def frames_Args_L0 : Nat → Int → Int → Int → (Int × Int × (List Int) × (List (Int × Int × Unit)) × Int × Int × Bool × Bool × Unit) → (List Int) → ((List Int) → Option Bool) → Option Bool
  | 0 => fun _ _ _ _ _ _ => none
  | n + 1 => frames_Args_L0.body (frames_Args_L0 n) frames_Get
noncomputable def frames_Args_L0.get (F : Int → Int → Int → (Int × Int × (List Int) × (List (Int × Int × Unit)) × Int × Int × Bool × Bool × Unit) → (List Int) → ((List Int) → Option Bool) → Option Bool) (e : Option Bool) (st : St) (k : KE) : Option Bool := match st with
  | ⟨sl, hp, m⟩ => match Nat.beq m 2, pickS 24 [1, 3, 7, 10, 11] sl, hp with
    | true, some [(.d ⟨(.int .i64), n389⟩), (.ptr [1, 0] 0 0), (.ref [1, 1]), (.d ⟨(.int .i64), n390⟩), (.d ⟨(.int .i64), n391⟩)], [([1, 0], ⟨34, 8, (.data (.st [(.int .i64), (.int .i64), (.sl 2 (.int .i64)), (.sl 39 (.st [(.int .i64), (.int .i64)])), (.int .i64), (.int .i64), .bool, .bool]) [t392])⟩), ([1, 1], ⟨2, 1, (.data (.int .i64) ns393)⟩)] => F n389 n390 n391 t392 ns393 (fun y0 => k (.exit 0) ⟨fillS 24 [7] [(.ref [1, 0])], [([1, 0], ⟨2, 1, (.data (.int .i64) y0)⟩)], 2⟩)
    | _, _, _ => e
noncomputable def frames_Args_L0.calls (F0 : (Int × Int × (List Int) × (List (Int × Int × Unit)) × Int × Int × Bool × Bool × Unit) → Int → (Int → Option Bool) → Option Bool) : RecF := fun g a h k => (frames_Get.get F0 none g a h k)
noncomputable def frames_Args_L0.loops : LoopF := fun b => none
set_option maxRecDepth 100000 in
theorem frames_Args_L0.step (S : Int → Int → Int → (Int × Int × (List Int) × (List (Int × Int × Unit)) × Int × Int × Bool × Bool × Unit) → (List Int) → ((List Int) → Option Bool) → Option Bool) (F0 : (Int × Int × (List Int) × (List (Int × Int × Unit)) × Int × Int × Bool × Bool × Unit) → Int → (Int → Option Bool) → Option Bool) (n389 : Int) (n390 : Int) (n391 : Int) (t392 : Int × Int × (List Int) × (List (Int × Int × Unit)) × Int × Int × Bool × Bool × Unit) (ns393 : List Int) (k : KE) : execL Try.prog ht 22 (callfOf (frames_Args_L0.calls F0)) (frames_Args_L0.loops) 0 (loopAt 0 (codeOf Try.f22)) ⟨fillS 24 [1, 3, 7, 10, 11] [(.d ⟨(.int .i64), n389⟩), (.ptr [1, 0] 0 0), (.ref [1, 1]), (.d ⟨(.int .i64), n390⟩), (.d ⟨(.int .i64), n391⟩)], [([1, 0], ⟨34, 8, (.data (.st [(.int .i64), (.int .i64), (.sl 2 (.int .i64)), (.sl 39 (.st [(.int .i64), (.int .i64)])), (.int .i64), (.int .i64), .bool, .bool]) [t392])⟩), ([1, 1], ⟨2, 1, (.data (.int .i64) ns393)⟩)], 2⟩ (again (frames_Args_L0.get S none) (plan Try.prog (ht 22 0)) k) = frames_Args_L0.body S F0 n389 n390 n391 t392 ns393 (fun y0 => k (.exit 0) ⟨fillS 24 [7] [(.ref [1, 0])], [([1, 0], ⟨2, 1, (.data (.int .i64) y0)⟩)], 2⟩) := by kernel_rfl
theorem frames_Args_L0.ok (d : Nat) (hd : 1 ≤ d) : ∀ n st k, frames_Args_L0.get (frames_Args_L0 n) none st k = some true → iter n (plan Try.prog (ht 22 0)) (fun st k => execK Try.prog ht 22 (callfOf (callK Try.prog ht d)) 0 (loopAt 0 (codeOf Try.f22)) st k) st k = some true :=
  loop_ok (lfn := fun n st k => frames_Args_L0.get (frames_Args_L0 n) none st k) (rec := frames_Args_L0.calls frames_Get) (fun g a h k hx => by
    rcases frames_Get.look d (by omega) hx with hx | hx
    rotate_left
    · exact hx
    cases hx) (loopf := frames_Args_L0.loops) (by
    have e : loopsOf (frames_Args_L0.loops) 0 (loopAt 0 (codeOf Try.f22)) = [] := by kernel_rfl
    rw [e]
    intro p hp
    cases hp) (fun st k h => by
    obtain ⟨sl, hp, m⟩ := st
    unfold frames_Args_L0.get at h
    dsimp only at h
    split at h
    · have h' : (none : Option Bool) = some true := h
      cases h'
    · cases h) (fun n st k h => by
    obtain ⟨sl, hp, m⟩ := st
    unfold frames_Args_L0.get at h
    dsimp only at h
    split at h
    · rename_i h1 h2
      obtain rfl := pickS_ok h2
      obtain rfl := Nat.eq_of_beq_eq_true h1
      exact (frames_Args_L0.step (frames_Args_L0 n) frames_Get _ _ _ _ _ k).trans h
    · cases h)
theorem frames_Args_L0.look {F : Int → Int → Int → (Int × Int × (List Int) × (List (Int × Int × Unit)) × Int × Int × Bool × Bool × Unit) → (List Int) → ((List Int) → Option Bool) → Option Bool} {e : Option Bool} {st : St} {k : KE} (hx : frames_Args_L0.get F e st k = some true) : e = some true ∨ frames_Args_L0.get F none st k = some true := by
  obtain ⟨sl, hp, m⟩ := st
  unfold frames_Args_L0.get at hx ⊢
  dsimp only at hx ⊢
  split at hx
  · exact .inr hx
  · exact .inl hx
/-- function 22: sheerleg/frames.Args -/
noncomputable def frames_Args.body (sig_Params : Int → (Int → Option Bool) → Option Bool) (frames_Args_L0 : Int → Int → Int → (Int × Int × (List Int) × (List (Int × Int × Unit)) × Int × Int × Bool × Bool × Unit) → (List Int) → ((List Int) → Option Bool) → Option Bool) (t385 : Int × Int × (List Int) × (List (Int × Int × Unit)) × Int × Int × Bool × Bool × Unit) (n386 : Int) (n387 : Int) (k1 : (List Int) → Option Bool) : Option Bool :=
  (sig_Params n387
  (fun n388 => (frames_Args_L0 n386 n388 (0 : Int) t385 []
  (fun ns395 => (k1 ns395)))))
noncomputable def frames_Args (t385 : Int × Int × (List Int) × (List (Int × Int × Unit)) × Int × Int × Bool × Bool × Unit) (n386 : Int) (n387 : Int) (k1 : (List Int) → Option Bool) : Option Bool := frames_Args.body sig_Params (frames_Args_L0 ROUNDS) t385 n386 n387 k1
noncomputable def frames_Args.get (F : (Int × Int × (List Int) × (List (Int × Int × Unit)) × Int × Int × Bool × Bool × Unit) → Int → Int → ((List Int) → Option Bool) → Option Bool) (e : Option Bool) (g : FuncId) (a : List AV) (h : Heap) (k : KR) : Option Bool := match g, a, h with
  | 22, [(.d ⟨(.st [(.int .i64), (.int .i64), (.sl 2 (.int .i64)), (.sl 39 (.st [(.int .i64), (.int .i64)])), (.int .i64), (.int .i64), .bool, .bool]), t385⟩), (.d ⟨(.int .i64), n386⟩), (.d ⟨(.int .i64), n387⟩)], [] => F t385 n386 n387 (fun y0 => k (.ref [1, 0]) [([1, 0], ⟨2, 1, (.data (.int .i64) y0)⟩)])
  | _, _, _ => e
noncomputable def frames_Args.calls (F0 : Int → (Int → Option Bool) → Option Bool) : RecF := fun g a h k => (sig_Params.get F0 none g a h k)
noncomputable def frames_Args.loops (L0 : Int → Int → Int → (Int × Int × (List Int) × (List (Int × Int × Unit)) × Int × Int × Bool × Bool × Unit) → (List Int) → ((List Int) → Option Bool) → Option Bool) : LoopF := fun b => match Nat.beq b 0 with | true => some (fun st k => (frames_Args_L0.get L0 none st k)) | false => none
set_option maxRecDepth 100000 in
theorem frames_Args.eq (F0 : Int → (Int → Option Bool) → Option Bool) (L0 : Int → Int → Int → (Int × Int × (List Int) × (List (Int × Int × Unit)) × Int × Int × Bool × Bool × Unit) → (List Int) → ((List Int) → Option Bool) → Option Bool) (t385 : Int × Int × (List Int) × (List (Int × Int × Unit)) × Int × Int × Bool × Bool × Unit) (n386 : Int) (n387 : Int) (k : KR) : execL Try.prog ht 22 (callfOf (frames_Args.calls F0)) (frames_Args.loops L0) 0 (codeOf Try.f22) ⟨[(.d ⟨(.st [(.int .i64), (.int .i64), (.sl 2 (.int .i64)), (.sl 39 (.st [(.int .i64), (.int .i64)])), (.int .i64), (.int .i64), .bool, .bool]), t385⟩), (.d ⟨(.int .i64), n386⟩), (.d ⟨(.int .i64), n387⟩)] ++ List.replicate (Try.f22.ntmps - ([(.d ⟨(.st [(.int .i64), (.int .i64), (.sl 2 (.int .i64)), (.sl 39 (.st [(.int .i64), (.int .i64)])), (.int .i64), (.int .i64), .bool, .bool]), t385⟩), (.d ⟨(.int .i64), n386⟩), (.d ⟨(.int .i64), n387⟩)] : List AV).length) .undef, [], 2⟩ (leave Try.prog Try.f22 k) = frames_Args.body F0 L0 t385 n386 n387 (fun y0 => k (.ref [1, 0]) [([1, 0], ⟨2, 1, (.data (.int .i64) y0)⟩)]) := by kernel_rfl
theorem frames_Args.ok (d : Nat) (hd : 3 ≤ d) (t385 : Int × Int × (List Int) × (List (Int × Int × Unit)) × Int × Int × Bool × Bool × Unit) (n386 : Int) (n387 : Int) (k : KR) (hx : frames_Args t385 n386 n387 (fun y0 => k (.ref [1, 0]) [([1, 0], ⟨2, 1, (.data (.int .i64) y0)⟩)]) = some true) : callK Try.prog ht d 22 [(.d ⟨(.st [(.int .i64), (.int .i64), (.sl 2 (.int .i64)), (.sl 39 (.st [(.int .i64), (.int .i64)])), (.int .i64), (.int .i64), .bool, .bool]), t385⟩), (.d ⟨(.int .i64), n386⟩), (.d ⟨(.int .i64), n387⟩)] [] k = some true := by
  obtain ⟨d, rfl⟩ : ∃ e, d = e + 1 := ⟨d - 1, by omega⟩
  exact fn_ok (c := codeOf Try.f22) Try.func22 (by kernel_rfl) (rec := frames_Args.calls sig_Params) (fun g a h k hx => by
    rcases sig_Params.look d (by omega) hx with hx | hx
    rotate_left
    · exact hx
    cases hx) (loopf := frames_Args.loops (frames_Args_L0 ROUNDS)) (by
    have e : loopsOf (frames_Args.loops (frames_Args_L0 ROUNDS)) 0 (codeOf Try.f22) = [(0, loopAt 0 (codeOf Try.f22))] := by kernel_rfl
    rw [e]
    intro p hp
    simp only [List.mem_cons, List.not_mem_nil, or_false] at hp
    rcases hp with rfl
    · refine loopRef_of (callf := callfOf (callK Try.prog ht d)) (callfOf_ref (callK_mono d)) fun lf st k hb hx => ?_
      cases hb
      rcases frames_Args_L0.look hx with hx | hx
      rotate_left
      · exact frames_Args_L0.ok d (by omega) _ _ _ hx
      cases hx) ((frames_Args.eq sig_Params (frames_Args_L0 ROUNDS) t385 n386 n387 k).trans hx)
theorem frames_Args.look (d : Nat) (hd : 3 ≤ d) {e : Option Bool} {g : FuncId} {a : List AV} {h : Heap} {k : KR} (hx : frames_Args.get frames_Args e g a h k = some true) : e = some true ∨ callK Try.prog ht d g a h k = some true := by
  unfold frames_Args.get at hx
  split at hx
  · exact .inr (frames_Args.ok d hd _ _ _ _ hx)
  · exact .inl hx
/-- function 30: sheerleg/sheerlegref05.Is -/
noncomputable def ref05_Is.body (n405 : Int) (k1 : Bool → Option Bool) : Option Bool :=
  (cond_ (decide (n405 ≥ (0 : Int))) (k1 (decide (n405 ≤ (7 : Int)))) (k1 false))
noncomputable def ref05_Is (n405 : Int) (k1 : Bool → Option Bool) : Option Bool := ref05_Is.body n405 k1
noncomputable def ref05_Is.get (F : Int → (Bool → Option Bool) → Option Bool) (e : Option Bool) (g : FuncId) (a : List AV) (h : Heap) (k : KR) : Option Bool := match g, a, h with
  | 30, [(.d ⟨(.int .i64), n405⟩)], [] => F n405 (fun y0 => k (.d ⟨.bool, y0⟩) [])
  | _, _, _ => e
noncomputable def ref05_Is.calls : RecF := fun g a h k => none
noncomputable def ref05_Is.loops : LoopF := fun b => none
set_option maxRecDepth 100000 in
theorem ref05_Is.eq (n405 : Int) (k : KR) : execL Try.prog ht 30 (callfOf (ref05_Is.calls)) (ref05_Is.loops) 0 (codeOf Try.f30) ⟨[(.d ⟨(.int .i64), n405⟩)] ++ List.replicate (Try.f30.ntmps - ([(.d ⟨(.int .i64), n405⟩)] : List AV).length) .undef, [], 2⟩ (leave Try.prog Try.f30 k) = ref05_Is.body n405 (fun y0 => k (.d ⟨.bool, y0⟩) []) := by kernel_rfl
theorem ref05_Is.ok (d : Nat) (hd : 1 ≤ d) (n405 : Int) (k : KR) (hx : ref05_Is n405 (fun y0 => k (.d ⟨.bool, y0⟩) []) = some true) : callK Try.prog ht d 30 [(.d ⟨(.int .i64), n405⟩)] [] k = some true := by
  obtain ⟨d, rfl⟩ : ∃ e, d = e + 1 := ⟨d - 1, by omega⟩
  exact fn_ok (c := codeOf Try.f30) Try.func30 (by kernel_rfl) (rec := ref05_Is.calls) (fun g a h k hx => by
    cases hx) (loopf := ref05_Is.loops) (by
    have e : loopsOf (ref05_Is.loops) 0 (codeOf Try.f30) = [] := by kernel_rfl
    rw [e]
    intro p hp
    cases hp) ((ref05_Is.eq n405 k).trans hx)
theorem ref05_Is.look (d : Nat) (hd : 1 ≤ d) {e : Option Bool} {g : FuncId} {a : List AV} {h : Heap} {k : KR} (hx : ref05_Is.get ref05_Is e g a h k = some true) : e = some true ∨ callK Try.prog ht d g a h k = some true := by
  unfold ref05_Is.get at hx
  split at hx
  · exact .inr (ref05_Is.ok d hd _ _ hx)
  · exact .inl hx
/-- function 27: sheerleg/sheerlegref05.Params -/
noncomputable def ref05_Params.body (ref05_Is : Int → (Bool → Option Bool) → Option Bool) (n404 : Int) (k1 : Int → Option Bool) : Option Bool :=
  (ref05_Is n404
  (fun b406 => (cond_ (! b406) (k1 (0 : Int)) (k1 (IntKind.wrap .i64 (Int.tdiv n404 (2 : Int)))))))
noncomputable def ref05_Params (n404 : Int) (k1 : Int → Option Bool) : Option Bool := ref05_Params.body ref05_Is n404 k1
noncomputable def ref05_Params.get (F : Int → (Int → Option Bool) → Option Bool) (e : Option Bool) (g : FuncId) (a : List AV) (h : Heap) (k : KR) : Option Bool := match g, a, h with
  | 27, [(.d ⟨(.int .i64), n404⟩)], [] => F n404 (fun y0 => k (.d ⟨(.int .i64), y0⟩) [])
  | _, _, _ => e
noncomputable def ref05_Params.calls (F0 : Int → (Bool → Option Bool) → Option Bool) : RecF := fun g a h k => (ref05_Is.get F0 none g a h k)
noncomputable def ref05_Params.loops : LoopF := fun b => none
set_option maxRecDepth 100000 in
theorem ref05_Params.eq (F0 : Int → (Bool → Option Bool) → Option Bool) (n404 : Int) (k : KR) : execL Try.prog ht 27 (callfOf (ref05_Params.calls F0)) (ref05_Params.loops) 0 (codeOf Try.f27) ⟨[(.d ⟨(.int .i64), n404⟩)] ++ List.replicate (Try.f27.ntmps - ([(.d ⟨(.int .i64), n404⟩)] : List AV).length) .undef, [], 2⟩ (leave Try.prog Try.f27 k) = ref05_Params.body F0 n404 (fun y0 => k (.d ⟨(.int .i64), y0⟩) []) := by kernel_rfl
theorem ref05_Params.ok (d : Nat) (hd : 2 ≤ d) (n404 : Int) (k : KR) (hx : ref05_Params n404 (fun y0 => k (.d ⟨(.int .i64), y0⟩) []) = some true) : callK Try.prog ht d 27 [(.d ⟨(.int .i64), n404⟩)] [] k = some true := by
  obtain ⟨d, rfl⟩ : ∃ e, d = e + 1 := ⟨d - 1, by omega⟩
  exact fn_ok (c := codeOf Try.f27) Try.func27 (by kernel_rfl) (rec := ref05_Params.calls ref05_Is) (fun g a h k hx => by
    rcases ref05_Is.look d (by omega) hx with hx | hx
    rotate_left
    · exact hx
    cases hx) (loopf := ref05_Params.loops) (by
    have e : loopsOf (ref05_Params.loops) 0 (codeOf Try.f27) = [] := by kernel_rfl
    rw [e]
    intro p hp
    cases hp) ((ref05_Params.eq ref05_Is n404 k).trans hx)
theorem ref05_Params.look (d : Nat) (hd : 2 ≤ d) {e : Option Bool} {g : FuncId} {a : List AV} {h : Heap} {k : KR} (hx : ref05_Params.get ref05_Params e g a h k = some true) : e = some true ∨ callK Try.prog ht d g a h k = some true := by
  unfold ref05_Params.get at hx
  split at hx
  · exact .inr (ref05_Params.ok d hd _ _ hx)
  · exact .inl hx
/-- function 23: the loop in block 0 -/
noncomputable def ref36_Args_L0.body (ref36_Args_L0 : Int → Int → Int → (Int × Int × (List Int) × (List (Int × Int × Unit)) × Int × Int × Bool × Bool × Unit) → (List Int) → ((List Int) → Option Bool) → Option Bool) (ref05_Params : Int → (Int → Option Bool) → Option Bool) (ref36_Get : (Int × Int × (List Int) × (List (Int × Int × Unit)) × Int × Int × Bool × Bool × Unit) → Int → (Int → Option Bool) → Option Bool) (n492 : Int) (n493 : Int) (n494 : Int) (t495 : Int × Int × (List Int) × (List (Int × Int × Unit)) × Int × Int × Bool × Bool × Unit) (ns496 : List Int) (k1 : (List Int) → Option Bool) : Option Bool :=
  (ref05_Params n493
  (fun n497 => (cond_ (decide (n494 < n497)) (ref36_Get t495 (IntKind.wrap .i64 (n492 + n494))
  (fun n498 => (cond_ (Nat.ble (((List.length ns496) + (List.length (n498 :: []))) * (8 : Nat)) (140737488355328 : Nat)) (ref36_Args_L0 n492 n493 (IntKind.wrap .i64 (n494 + (1 : Int))) t495 (ns496 ++ (n498 :: [])) k1) none))) (k1 ns496))))
noncomputable def ref36_Args_L0 : Nat → Int → Int → Int → (Int × Int × (List Int) × (List (Int × Int × Unit)) × Int × Int × Bool × Bool × Unit) → (List Int) → ((List Int) → Option Bool) → Option Bool
  | 0 => fun _ _ _ _ _ _ => none
  | n + 1 => ref36_Args_L0.body (ref36_Args_L0 n) ref05_Params ref36_Get
noncomputable def ref36_Args_L0.get (F : Int → Int → Int → (Int × Int × (List Int) × (List (Int × Int × Unit)) × Int × Int × Bool × Bool × Unit) → (List Int) → ((List Int) → Option Bool) → Option Bool) (e : Option Bool) (st : St) (k : KE) : Option Bool := match st with
  | ⟨sl, hp, m⟩ => match Nat.beq m 2, pickS 24 [1, 2, 3, 7, 8] sl, hp with
    | true, some [(.d ⟨(.int .i64), n492⟩), (.d ⟨(.int .i64), n493⟩), (.ptr [1, 0] 0 0), (.ref [1, 1]), (.d ⟨(.int .i64), n494⟩)], [([1, 0], ⟨34, 8, (.data (.st [(.int .i64), (.int .i64), (.sl 2 (.int .i64)), (.sl 39 (.st [(.int .i64), (.int .i64)])), (.int .i64), (.int .i64), .bool, .bool]) [t495])⟩), ([1, 1], ⟨2, 1, (.data (.int .i64) ns496)⟩)] => F n492 n493 n494 t495 ns496 (fun y0 => k (.exit 0) ⟨fillS 24 [7] [(.ref [1, 0])], [([1, 0], ⟨2, 1, (.data (.int .i64) y0)⟩)], 2⟩)
    | _, _, _ => e
noncomputable def ref36_Args_L0.calls (F0 : Int → (Int → Option Bool) → Option Bool) (F1 : (Int × Int × (List Int) × (List (Int × Int × Unit)) × Int × Int × Bool × Bool × Unit) → Int → (Int → Option Bool) → Option Bool) : RecF := fun g a h k => (ref05_Params.get F0 (ref36_Get.get F1 none g a h k) g a h k)
noncomputable def ref36_Args_L0.loops : LoopF := fun b => none
set_option maxRecDepth 100000 in
theorem ref36_Args_L0.step (S : Int → Int → Int → (Int × Int × (List Int) × (List (Int × Int × Unit)) × Int × Int × Bool × Bool × Unit) → (List Int) → ((List Int) → Option Bool) → Option Bool) (F0 : Int → (Int → Option Bool) → Option Bool) (F1 : (Int × Int × (List Int) × (List (Int × Int × Unit)) × Int × Int × Bool × Bool × Unit) → Int → (Int → Option Bool) → Option Bool) (n492 : Int) (n493 : Int) (n494 : Int) (t495 : Int × Int × (List Int) × (List (Int × Int × Unit)) × Int × Int × Bool × Bool × Unit) (ns496 : List Int) (k : KE) : execL Try.prog ht 23 (callfOf (ref36_Args_L0.calls F0 F1)) (ref36_Args_L0.loops) 0 (loopAt 0 (codeOf Try.f23)) ⟨fillS 24 [1, 2, 3, 7, 8] [(.d ⟨(.int .i64), n492⟩), (.d ⟨(.int .i64), n493⟩), (.ptr [1, 0] 0 0), (.ref [1, 1]), (.d ⟨(.int .i64), n494⟩)], [([1, 0], ⟨34, 8, (.data (.st [(.int .i64), (.int .i64), (.sl 2 (.int .i64)), (.sl 39 (.st [(.int .i64), (.int .i64)])), (.int .i64), (.int .i64), .bool, .bool]) [t495])⟩), ([1, 1], ⟨2, 1, (.data (.int .i64) ns496)⟩)], 2⟩ (again (ref36_Args_L0.get S none) (plan Try.prog (ht 23 0)) k) = ref36_Args_L0.body S F0 F1 n492 n493 n494 t495 ns496 (fun y0 => k (.exit 0) ⟨fillS 24 [7] [(.ref [1, 0])], [([1, 0], ⟨2, 1, (.data (.int .i64) y0)⟩)], 2⟩) := by kernel_rfl
theorem ref36_Args_L0.ok (d : Nat) (hd : 2 ≤ d) : ∀ n st k, ref36_Args_L0.get (ref36_Args_L0 n) none st k = some true → iter n (plan Try.prog (ht 23 0)) (fun st k => execK Try.prog ht 23 (callfOf (callK Try.prog ht d)) 0 (loopAt 0 (codeOf Try.f23)) st k) st k = some true :=
  loop_ok (lfn := fun n st k => ref36_Args_L0.get (ref36_Args_L0 n) none st k) (rec := ref36_Args_L0.calls ref05_Params ref36_Get) (fun g a h k hx => by
    rcases ref05_Params.look d (by omega) hx with hx | hx
    rotate_left
    · exact hx
    rcases ref36_Get.look d (by omega) hx with hx | hx
    rotate_left
    · exact hx
    cases hx) (loopf := ref36_Args_L0.loops) (by
    have e : loopsOf (ref36_Args_L0.loops) 0 (loopAt 0 (codeOf Try.f23)) = [] := by kernel_rfl
    rw [e]
    intro p hp
    cases hp) (fun st k h => by
    obtain ⟨sl, hp, m⟩ := st
    unfold ref36_Args_L0.get at h
    dsimp only at h
    split at h
    · have h' : (none : Option Bool) = some true := h
      cases h'
    · cases h) (fun n st k h => by
    obtain ⟨sl, hp, m⟩ := st
    unfold ref36_Args_L0.get at h
    dsimp only at h
    split at h
    · rename_i h1 h2
      obtain rfl := pickS_ok h2
      obtain rfl := Nat.eq_of_beq_eq_true h1
      exact (ref36_Args_L0.step (ref36_Args_L0 n) ref05_Params ref36_Get _ _ _ _ _ k).trans h
    · cases h)
theorem ref36_Args_L0.look {F : Int → Int → Int → (Int × Int × (List Int) × (List (Int × Int × Unit)) × Int × Int × Bool × Bool × Unit) → (List Int) → ((List Int) → Option Bool) → Option Bool} {e : Option Bool} {st : St} {k : KE} (hx : ref36_Args_L0.get F e st k = some true) : e = some true ∨ ref36_Args_L0.get F none st k = some true := by
  obtain ⟨sl, hp, m⟩ := st
  unfold ref36_Args_L0.get at hx ⊢
  dsimp only at hx ⊢
  split at hx
  · exact .inr hx
  · exact .inl hx
/-- function 23: sheerleg/sheerlegref36.Args -/
noncomputable def ref36_Args.body (ref36_Args_L0 : Int → Int → Int → (Int × Int × (List Int) × (List (Int × Int × Unit)) × Int × Int × Bool × Bool × Unit) → (List Int) → ((List Int) → Option Bool) → Option Bool) (t489 : Int × Int × (List Int) × (List (Int × Int × Unit)) × Int × Int × Bool × Bool × Unit) (n490 : Int) (n491 : Int) (k1 : (List Int) → Option Bool) : Option Bool :=
  (ref36_Args_L0 n490 n491 (0 : Int) t489 []
  (fun ns499 => (k1 ns499)))
noncomputable def ref36_Args (t489 : Int × Int × (List Int) × (List (Int × Int × Unit)) × Int × Int × Bool × Bool × Unit) (n490 : Int) (n491 : Int) (k1 : (List Int) → Option Bool) : Option Bool := ref36_Args.body (ref36_Args_L0 ROUNDS) t489 n490 n491 k1
noncomputable def ref36_Args.get (F : (Int × Int × (List Int) × (List (Int × Int × Unit)) × Int × Int × Bool × Bool × Unit) → Int → Int → ((List Int) → Option Bool) → Option Bool) (e : Option Bool) (g : FuncId) (a : List AV) (h : Heap) (k : KR) : Option Bool := match g, a, h with
  | 23, [(.d ⟨(.st [(.int .i64), (.int .i64), (.sl 2 (.int .i64)), (.sl 39 (.st [(.int .i64), (.int .i64)])), (.int .i64), (.int .i64), .bool, .bool]), t489⟩), (.d ⟨(.int .i64), n490⟩), (.d ⟨(.int .i64), n491⟩)], [] => F t489 n490 n491 (fun y0 => k (.ref [1, 0]) [([1, 0], ⟨2, 1, (.data (.int .i64) y0)⟩)])
  | _, _, _ => e
noncomputable def ref36_Args.calls : RecF := fun g a h k => none
noncomputable def ref36_Args.loops (L0 : Int → Int → Int → (Int × Int × (List Int) × (List (Int × Int × Unit)) × Int × Int × Bool × Bool × Unit) → (List Int) → ((List Int) → Option Bool) → Option Bool) : LoopF := fun b => match Nat.beq b 0 with | true => some (fun st k => (ref36_Args_L0.get L0 none st k)) | false => none
set_option maxRecDepth 100000 in
theorem ref36_Args.eq (L0 : Int → Int → Int → (Int × Int × (List Int) × (List (Int × Int × Unit)) × Int × Int × Bool × Bool × Unit) → (List Int) → ((List Int) → Option Bool) → Option Bool) (t489 : Int × Int × (List Int) × (List (Int × Int × Unit)) × Int × Int × Bool × Bool × Unit) (n490 : Int) (n491 : Int) (k : KR) : execL Try.prog ht 23 (callfOf (ref36_Args.calls)) (ref36_Args.loops L0) 0 (codeOf Try.f23) ⟨[(.d ⟨(.st [(.int .i64), (.int .i64), (.sl 2 (.int .i64)), (.sl 39 (.st [(.int .i64), (.int .i64)])), (.int .i64), (.int .i64), .bool, .bool]), t489⟩), (.d ⟨(.int .i64), n490⟩), (.d ⟨(.int .i64), n491⟩)] ++ List.replicate (Try.f23.ntmps - ([(.d ⟨(.st [(.int .i64), (.int .i64), (.sl 2 (.int .i64)), (.sl 39 (.st [(.int .i64), (.int .i64)])), (.int .i64), (.int .i64), .bool, .bool]), t489⟩), (.d ⟨(.int .i64), n490⟩), (.d ⟨(.int .i64), n491⟩)] : List AV).length) .undef, [], 2⟩ (leave Try.prog Try.f23 k) = ref36_Args.body L0 t489 n490 n491 (fun y0 => k (.ref [1, 0]) [([1, 0], ⟨2, 1, (.data (.int .i64) y0)⟩)]) := by kernel_rfl
theorem ref36_Args.ok (d : Nat) (hd : 3 ≤ d) (t489 : Int × Int × (List Int) × (List (Int × Int × Unit)) × Int × Int × Bool × Bool × Unit) (n490 : Int) (n491 : Int) (k : KR) (hx : ref36_Args t489 n490 n491 (fun y0 => k (.ref [1, 0]) [([1, 0], ⟨2, 1, (.data (.int .i64) y0)⟩)]) = some true) : callK Try.prog ht d 23 [(.d ⟨(.st [(.int .i64), (.int .i64), (.sl 2 (.int .i64)), (.sl 39 (.st [(.int .i64), (.int .i64)])), (.int .i64), (.int .i64), .bool, .bool]), t489⟩), (.d ⟨(.int .i64), n490⟩), (.d ⟨(.int .i64), n491⟩)] [] k = some true := by
  obtain ⟨d, rfl⟩ : ∃ e, d = e + 1 := ⟨d - 1, by omega⟩
  exact fn_ok (c := codeOf Try.f23) Try.func23 (by kernel_rfl) (rec := ref36_Args.calls) (fun g a h k hx => by
    cases hx) (loopf := ref36_Args.loops (ref36_Args_L0 ROUNDS)) (by
    have e : loopsOf (ref36_Args.loops (ref36_Args_L0 ROUNDS)) 0 (codeOf Try.f23) = [(0, loopAt 0 (codeOf Try.f23))] := by kernel_rfl
    rw [e]
    intro p hp
    simp only [List.mem_cons, List.not_mem_nil, or_false] at hp
    rcases hp with rfl
    · refine loopRef_of (callf := callfOf (callK Try.prog ht d)) (callfOf_ref (callK_mono d)) fun lf st k hb hx => ?_
      cases hb
      rcases ref36_Args_L0.look hx with hx | hx
      rotate_left
      · exact ref36_Args_L0.ok d (by omega) _ _ _ hx
      cases hx) ((ref36_Args.eq (ref36_Args_L0 ROUNDS) t489 n490 n491 k).trans hx)
theorem ref36_Args.look (d : Nat) (hd : 3 ≤ d) {e : Option Bool} {g : FuncId} {a : List AV} {h : Heap} {k : KR} (hx : ref36_Args.get ref36_Args e g a h k = some true) : e = some true ∨ callK Try.prog ht d g a h k = some true := by
  unfold ref36_Args.get at hx
  split at hx
  · exact .inr (ref36_Args.ok d hd _ _ _ _ hx)
  · exact .inl hx
/-- function 21: the loop in block 0 -/
noncomputable def ref01_Longsv2_L0.body (ref01_Longsv2_L0 : (List Int) → (List Int) → Int → (Bool → Option Bool) → (Option Bool) → Option Bool) (ns503 : List Int) (ns504 : List Int) (n505 : Int) (k1 : Bool → Option Bool) (k2 : Option Bool) : Option Bool :=
  (cond_ (decide (n505 < (((List.length ns503) : Nat) : Int))) (cond_ ((decide ((0 : Int) ≤ n505)) && (decide (n505 < (((List.length ns503) : Nat) : Int)))) (cond_ ((decide ((0 : Int) ≤ n505)) && (decide (n505 < (((List.length ns504) : Nat) : Int)))) (cond_ ((List.getD ns503 (Int.toNat n505) (0 : Int)) != (List.getD ns504 (Int.toNat n505) (0 : Int))) (k1 false) (ref01_Longsv2_L0 ns503 ns504 (IntKind.wrap .i64 (n505 + (1 : Int))) k1 k2)) none) none) (k2))
noncomputable def ref01_Longsv2_L0 : Nat → (List Int) → (List Int) → Int → (Bool → Option Bool) → (Option Bool) → Option Bool
  | 0 => fun _ _ _ _ _ => none
  | n + 1 => ref01_Longsv2_L0.body (ref01_Longsv2_L0 n)
noncomputable def ref01_Longsv2_L0.get (F : (List Int) → (List Int) → Int → (Bool → Option Bool) → (Option Bool) → Option Bool) (e : Option Bool) (st : St) (k : KE) : Option Bool := match st with
  | ⟨sl, hp, m⟩ => match Nat.beq m 2, pickS 26 [0, 1, 5] sl, hp with
    | true, some [(.bv 1 2 (.int .i64) ns503), (.bv 2 2 (.int .i64) ns504), (.d ⟨(.int .i64), n505⟩)], [] => F ns503 ns504 n505 (fun y0 => k .ret ⟨fillS 26 [4] [(.d ⟨.bool, y0⟩)], [], 2⟩) (k (.exit 0) ⟨fillS 26 [] [], [], 2⟩)
    | _, _, _ => e
noncomputable def ref01_Longsv2_L0.calls : RecF := fun g a h k => none
noncomputable def ref01_Longsv2_L0.loops : LoopF := fun b => none
set_option maxRecDepth 100000 in
theorem ref01_Longsv2_L0.step (S : (List Int) → (List Int) → Int → (Bool → Option Bool) → (Option Bool) → Option Bool) (ns503 : List Int) (ns504 : List Int) (n505 : Int) (k : KE) : execL Try.prog ht 21 (callfOf (ref01_Longsv2_L0.calls)) (ref01_Longsv2_L0.loops) 0 (loopAt 0 (codeOf Try.f21)) ⟨fillS 26 [0, 1, 5] [(.bv 1 2 (.int .i64) ns503), (.bv 2 2 (.int .i64) ns504), (.d ⟨(.int .i64), n505⟩)], [], 2⟩ (again (ref01_Longsv2_L0.get S none) (plan Try.prog (ht 21 0)) k) = ref01_Longsv2_L0.body S ns503 ns504 n505 (fun y0 => k .ret ⟨fillS 26 [4] [(.d ⟨.bool, y0⟩)], [], 2⟩) (k (.exit 0) ⟨fillS 26 [] [], [], 2⟩) := by kernel_rfl
theorem ref01_Longsv2_L0.ok (d : Nat) (hd : 0 ≤ d) : ∀ n st k, ref01_Longsv2_L0.get (ref01_Longsv2_L0 n) none st k = some true → iter n (plan Try.prog (ht 21 0)) (fun st k => execK Try.prog ht 21 (callfOf (callK Try.prog ht d)) 0 (loopAt 0 (codeOf Try.f21)) st k) st k = some true :=
  loop_ok (lfn := fun n st k => ref01_Longsv2_L0.get (ref01_Longsv2_L0 n) none st k) (rec := ref01_Longsv2_L0.calls) (fun g a h k hx => by
    cases hx) (loopf := ref01_Longsv2_L0.loops) (by
    have e : loopsOf (ref01_Longsv2_L0.loops) 0 (loopAt 0 (codeOf Try.f21)) = [] := by kernel_rfl
    rw [e]
    intro p hp
    cases hp) (fun st k h => by
    obtain ⟨sl, hp, m⟩ := st
    unfold ref01_Longsv2_L0.get at h
    dsimp only at h
    split at h
    · have h' : (none : Option Bool) = some true := h
      cases h'
    · cases h) (fun n st k h => by
    obtain ⟨sl, hp, m⟩ := st
    unfold ref01_Longsv2_L0.get at h
    dsimp only at h
    split at h
    · rename_i h1 h2
      obtain rfl := pickS_ok h2
      obtain rfl := Nat.eq_of_beq_eq_true h1
      exact (ref01_Longsv2_L0.step (ref01_Longsv2_L0 n) _ _ _ k).trans h
    · cases h)
theorem ref01_Longsv2_L0.look {F : (List Int) → (List Int) → Int → (Bool → Option Bool) → (Option Bool) → Option Bool} {e : Option Bool} {st : St} {k : KE} (hx : ref01_Longsv2_L0.get F e st k = some true) : e = some true ∨ ref01_Longsv2_L0.get F none st k = some true := by
  obtain ⟨sl, hp, m⟩ := st
  unfold ref01_Longsv2_L0.get at hx ⊢
  dsimp only at hx ⊢
  split at hx
  · exact .inr hx
  · exact .inl hx
/-- function 21: sheerleg/sheerlegref01.Longs -/
noncomputable def ref01_Longsv2.body (ref01_Longsv2_L0 : (List Int) → (List Int) → Int → (Bool → Option Bool) → (Option Bool) → Option Bool) (ns501 : List Int) (ns502 : List Int) (k1 : Bool → Option Bool) : Option Bool :=
  (cond_ ((((List.length ns501) : Nat) : Int) != (((List.length ns502) : Nat) : Int)) (k1 false) (ref01_Longsv2_L0 ns501 ns502 (0 : Int)
  (fun b506 => (k1 b506))
  (k1 true)))
noncomputable def ref01_Longsv2 (ns501 : List Int) (ns502 : List Int) (k1 : Bool → Option Bool) : Option Bool := ref01_Longsv2.body (ref01_Longsv2_L0 ROUNDS) ns501 ns502 k1
noncomputable def ref01_Longsv2.get (F : (List Int) → (List Int) → (Bool → Option Bool) → Option Bool) (e : Option Bool) (g : FuncId) (a : List AV) (h : Heap) (k : KR) : Option Bool := match g, a, h with
  | 21, [(.bv 1 2 (.int .i64) ns501), (.bv 2 2 (.int .i64) ns502)], [] => F ns501 ns502 (fun y0 => k (.d ⟨.bool, y0⟩) [])
  | _, _, _ => e
noncomputable def ref01_Longsv2.calls : RecF := fun g a h k => none
noncomputable def ref01_Longsv2.loops (L0 : (List Int) → (List Int) → Int → (Bool → Option Bool) → (Option Bool) → Option Bool) : LoopF := fun b => match Nat.beq b 0 with | true => some (fun st k => (ref01_Longsv2_L0.get L0 none st k)) | false => none
set_option maxRecDepth 100000 in
theorem ref01_Longsv2.eq (L0 : (List Int) → (List Int) → Int → (Bool → Option Bool) → (Option Bool) → Option Bool) (ns501 : List Int) (ns502 : List Int) (k : KR) : execL Try.prog ht 21 (callfOf (ref01_Longsv2.calls)) (ref01_Longsv2.loops L0) 0 (codeOf Try.f21) ⟨[(.bv 1 2 (.int .i64) ns501), (.bv 2 2 (.int .i64) ns502)] ++ List.replicate (Try.f21.ntmps - ([(.bv 1 2 (.int .i64) ns501), (.bv 2 2 (.int .i64) ns502)] : List AV).length) .undef, [], 2⟩ (leave Try.prog Try.f21 k) = ref01_Longsv2.body L0 ns501 ns502 (fun y0 => k (.d ⟨.bool, y0⟩) []) := by kernel_rfl
theorem ref01_Longsv2.ok (d : Nat) (hd : 1 ≤ d) (ns501 : List Int) (ns502 : List Int) (k : KR) (hx : ref01_Longsv2 ns501 ns502 (fun y0 => k (.d ⟨.bool, y0⟩) []) = some true) : callK Try.prog ht d 21 [(.bv 1 2 (.int .i64) ns501), (.bv 2 2 (.int .i64) ns502)] [] k = some true := by
  obtain ⟨d, rfl⟩ : ∃ e, d = e + 1 := ⟨d - 1, by omega⟩
  exact fn_ok (c := codeOf Try.f21) Try.func21 (by kernel_rfl) (rec := ref01_Longsv2.calls) (fun g a h k hx => by
    cases hx) (loopf := ref01_Longsv2.loops (ref01_Longsv2_L0 ROUNDS)) (by
    have e : loopsOf (ref01_Longsv2.loops (ref01_Longsv2_L0 ROUNDS)) 0 (codeOf Try.f21) = [(0, loopAt 0 (codeOf Try.f21))] := by kernel_rfl
    rw [e]
    intro p hp
    simp only [List.mem_cons, List.not_mem_nil, or_false] at hp
    rcases hp with rfl
    · refine loopRef_of (callf := callfOf (callK Try.prog ht d)) (callfOf_ref (callK_mono d)) fun lf st k hb hx => ?_
      cases hb
      rcases ref01_Longsv2_L0.look hx with hx | hx
      rotate_left
      · exact ref01_Longsv2_L0.ok d (by omega) _ _ _ hx
      cases hx) ((ref01_Longsv2.eq (ref01_Longsv2_L0 ROUNDS) ns501 ns502 k).trans hx)
theorem ref01_Longsv2.look (d : Nat) (hd : 1 ≤ d) {e : Option Bool} {g : FuncId} {a : List AV} {h : Heap} {k : KR} (hx : ref01_Longsv2.get ref01_Longsv2 e g a h k = some true) : e = some true ∨ callK Try.prog ht d g a h k = some true := by
  unfold ref01_Longsv2.get at hx
  split at hx
  · exact .inr (ref01_Longsv2.ok d hd _ _ _ hx)
  · exact .inl hx
/-- function 4: the loop in block 0 -/
noncomputable def law36_FramesTell_L0.body (law36_FramesTell_L0 : Int → Int → (Int × Int × (List Int) × (List (Int × Int × Unit)) × Int × Int × Bool × Bool × Unit) → (Int × Int × Unit) → Int → Int → (List Int) → (List (Int × Int × Unit)) → Int → Int → Bool → Bool → Int → Int → (List Int) → (List (Int × Int × Unit)) → Int → Int → Bool → Bool → (Bool → Option Bool) → ((Int × Int × (List Int) × (List (Int × Int × Unit)) × Int × Int × Bool × Bool × Unit) → (Int × Int × Unit) → Int → Int → (List Int) → (List (Int × Int × Unit)) → Int → Int → Bool → Bool → Int → Int → (List Int) → (List (Int × Int × Unit)) → Int → Int → Bool → Bool → Option Bool) → Option Bool) (frames_Args : (Int × Int × (List Int) × (List (Int × Int × Unit)) × Int × Int × Bool × Bool × Unit) → Int → Int → ((List Int) → Option Bool) → Option Bool) (ref36_Args : (Int × Int × (List Int) × (List (Int × Int × Unit)) × Int × Int × Bool × Bool × Unit) → Int → Int → ((List Int) → Option Bool) → Option Bool) (ref01_Longsv2 : (List Int) → (List Int) → (Bool → Option Bool) → Option Bool) (n468 : Int) (n469 : Int) (t470 : Int × Int × (List Int) × (List (Int × Int × Unit)) × Int × Int × Bool × Bool × Unit) (t471 : Int × Int × Unit) (n472 : Int) (n473 : Int) (ns474 : List Int) (ts475 : List (Int × Int × Unit)) (n476 : Int) (n477 : Int) (b478 : Bool) (b479 : Bool) (n480 : Int) (n481 : Int) (l482 : List Int) (l483 : List (Int × Int × Unit)) (n484 : Int) (n485 : Int) (b486 : Bool) (b487 : Bool) (k1 : Bool → Option Bool) (k2 : (Int × Int × (List Int) × (List (Int × Int × Unit)) × Int × Int × Bool × Bool × Unit) → (Int × Int × Unit) → Int → Int → (List Int) → (List (Int × Int × Unit)) → Int → Int → Bool → Bool → Int → Int → (List Int) → (List (Int × Int × Unit)) → Int → Int → Bool → Bool → Option Bool) : Option Bool :=
  (cond_ (decide (n469 ≤ (8 : Int))) (frames_Args t470 n468 n469
  (fun ns488 => (ref36_Args t470 n468 n469
  (fun ns500 => (ref01_Longsv2 ns488 ns500
  (fun b507 => (cond_ (! b507) (k1 false) (law36_FramesTell_L0 n468 (IntKind.wrap .i64 (n469 + (1 : Int))) t470 t471 n472 n473 ns474 ts475 n476 n477 b478 b479 n480 n481 l482 l483 n484 n485 b486 b487 k1 k2)))))))) (k2 t470 t471 n472 n473 ns474 ts475 n476 n477 b478 b479 n480 n481 l482 l483 n484 n485 b486 b487))
noncomputable def law36_FramesTell_L0 : Nat → Int → Int → (Int × Int × (List Int) × (List (Int × Int × Unit)) × Int × Int × Bool × Bool × Unit) → (Int × Int × Unit) → Int → Int → (List Int) → (List (Int × Int × Unit)) → Int → Int → Bool → Bool → Int → Int → (List Int) → (List (Int × Int × Unit)) → Int → Int → Bool → Bool → (Bool → Option Bool) → ((Int × Int × (List Int) × (List (Int × Int × Unit)) × Int × Int × Bool × Bool × Unit) → (Int × Int × Unit) → Int → Int → (List Int) → (List (Int × Int × Unit)) → Int → Int → Bool → Bool → Int → Int → (List Int) → (List (Int × Int × Unit)) → Int → Int → Bool → Bool → Option Bool) → Option Bool
  | 0 => fun _ _ _ _ _ _ _ _ _ _ _ _ _ _ _ _ _ _ _ _ _ _ => none
  | n + 1 => law36_FramesTell_L0.body (law36_FramesTell_L0 n) frames_Args ref36_Args ref01_Longsv2
noncomputable def law36_FramesTell_L0.get (F : Int → Int → (Int × Int × (List Int) × (List (Int × Int × Unit)) × Int × Int × Bool × Bool × Unit) → (Int × Int × Unit) → Int → Int → (List Int) → (List (Int × Int × Unit)) → Int → Int → Bool → Bool → Int → Int → (List Int) → (List (Int × Int × Unit)) → Int → Int → Bool → Bool → (Bool → Option Bool) → ((Int × Int × (List Int) × (List (Int × Int × Unit)) × Int × Int × Bool × Bool × Unit) → (Int × Int × Unit) → Int → Int → (List Int) → (List (Int × Int × Unit)) → Int → Int → Bool → Bool → Int → Int → (List Int) → (List (Int × Int × Unit)) → Int → Int → Bool → Bool → Option Bool) → Option Bool) (e : Option Bool) (st : St) (k : KE) : Option Bool := match st with
  | ⟨sl, hp, m⟩ => match Nat.beq m 2, pickS 119 [1, 4, 7, 9, 11, 16] sl, hp with
    | true, some [(.d ⟨(.int .i64), n468⟩), (.ptr [1, 0] 0 0), (.ptr [1, 1] 0 0), (.ptr [1, 2] 0 0), (.ptr [1, 3] 0 0), (.d ⟨(.int .i64), n469⟩)], [([1, 0], ⟨34, 8, (.data (.st [(.int .i64), (.int .i64), (.sl 2 (.int .i64)), (.sl 39 (.st [(.int .i64), (.int .i64)])), (.int .i64), (.int .i64), .bool, .bool]) [t470])⟩), ([1, 1], ⟨39, 2, (.data (.st [(.int .i64), (.int .i64)]) [t471])⟩), ([1, 2], ⟨34, 8, (.mix [(.agg [(.d ⟨(.int .i64), n472⟩), (.d ⟨(.int .i64), n473⟩), (.bv 0 2 (.int .i64) ns474), (.bv 0 39 (.st [(.int .i64), (.int .i64)]) ts475), (.d ⟨(.int .i64), n476⟩), (.d ⟨(.int .i64), n477⟩), (.d ⟨.bool, b478⟩), (.d ⟨.bool, b479⟩)])])⟩), ([1, 3], ⟨34, 8, (.mix [(.agg [(.d ⟨(.int .i64), n480⟩), (.d ⟨(.int .i64), n481⟩), (.d ⟨(.sl 2 (.int .i64)), l482⟩), (.d ⟨(.sl 39 (.st [(.int .i64), (.int .i64)])), l483⟩), (.d ⟨(.int .i64), n484⟩), (.d ⟨(.int .i64), n485⟩), (.d ⟨.bool, b486⟩), (.d ⟨.bool, b487⟩)])])⟩)] => F n468 n469 t470 t471 n472 n473 ns474 ts475 n476 n477 b478 b479 n480 n481 l482 l483 n484 n485 b486 b487 (fun y0 => k .ret ⟨fillS 119 [8] [(.d ⟨.bool, y0⟩)], [], 2⟩) (fun y0 y1 y2 y3 y4 y5 y6 y7 y8 y9 y10 y11 y12 y13 y14 y15 y16 y17 => k (.exit 0) ⟨fillS 119 [4, 7, 9, 11] [(.ptr [1, 0] 0 0), (.ptr [1, 1] 0 0), (.ptr [1, 2] 0 0), (.ptr [1, 3] 0 0)], [([1, 0], ⟨34, 8, (.data (.st [(.int .i64), (.int .i64), (.sl 2 (.int .i64)), (.sl 39 (.st [(.int .i64), (.int .i64)])), (.int .i64), (.int .i64), .bool, .bool]) [y0])⟩), ([1, 1], ⟨39, 2, (.data (.st [(.int .i64), (.int .i64)]) [y1])⟩), ([1, 2], ⟨34, 8, (.mix [(.agg [(.d ⟨(.int .i64), y2⟩), (.d ⟨(.int .i64), y3⟩), (.bv 0 2 (.int .i64) y4), (.bv 0 39 (.st [(.int .i64), (.int .i64)]) y5), (.d ⟨(.int .i64), y6⟩), (.d ⟨(.int .i64), y7⟩), (.d ⟨.bool, y8⟩), (.d ⟨.bool, y9⟩)])])⟩), ([1, 3], ⟨34, 8, (.mix [(.agg [(.d ⟨(.int .i64), y10⟩), (.d ⟨(.int .i64), y11⟩), (.d ⟨(.sl 2 (.int .i64)), y12⟩), (.d ⟨(.sl 39 (.st [(.int .i64), (.int .i64)])), y13⟩), (.d ⟨(.int .i64), y14⟩), (.d ⟨(.int .i64), y15⟩), (.d ⟨.bool, y16⟩), (.d ⟨.bool, y17⟩)])])⟩)], 2⟩)
    | _, _, _ => e
noncomputable def law36_FramesTell_L0.calls (F0 : (Int × Int × (List Int) × (List (Int × Int × Unit)) × Int × Int × Bool × Bool × Unit) → Int → Int → ((List Int) → Option Bool) → Option Bool) (F1 : (Int × Int × (List Int) × (List (Int × Int × Unit)) × Int × Int × Bool × Bool × Unit) → Int → Int → ((List Int) → Option Bool) → Option Bool) (F2 : (List Int) → (List Int) → (Bool → Option Bool) → Option Bool) : RecF := fun g a h k => (frames_Args.get F0 (ref36_Args.get F1 (ref01_Longsv2.get F2 none g a h k) g a h k) g a h k)
noncomputable def law36_FramesTell_L0.loops : LoopF := fun b => none
set_option maxRecDepth 100000 in
theorem law36_FramesTell_L0.step (S : Int → Int → (Int × Int × (List Int) × (List (Int × Int × Unit)) × Int × Int × Bool × Bool × Unit) → (Int × Int × Unit) → Int → Int → (List Int) → (List (Int × Int × Unit)) → Int → Int → Bool → Bool → Int → Int → (List Int) → (List (Int × Int × Unit)) → Int → Int → Bool → Bool → (Bool → Option Bool) → ((Int × Int × (List Int) × (List (Int × Int × Unit)) × Int × Int × Bool × Bool × Unit) → (Int × Int × Unit) → Int → Int → (List Int) → (List (Int × Int × Unit)) → Int → Int → Bool → Bool → Int → Int → (List Int) → (List (Int × Int × Unit)) → Int → Int → Bool → Bool → Option Bool) → Option Bool) (F0 : (Int × Int × (List Int) × (List (Int × Int × Unit)) × Int × Int × Bool × Bool × Unit) → Int → Int → ((List Int) → Option Bool) → Option Bool) (F1 : (Int × Int × (List Int) × (List (Int × Int × Unit)) × Int × Int × Bool × Bool × Unit) → Int → Int → ((List Int) → Option Bool) → Option Bool) (F2 : (List Int) → (List Int) → (Bool → Option Bool) → Option Bool) (n468 : Int) (n469 : Int) (t470 : Int × Int × (List Int) × (List (Int × Int × Unit)) × Int × Int × Bool × Bool × Unit) (t471 : Int × Int × Unit) (n472 : Int) (n473 : Int) (ns474 : List Int) (ts475 : List (Int × Int × Unit)) (n476 : Int) (n477 : Int) (b478 : Bool) (b479 : Bool) (n480 : Int) (n481 : Int) (l482 : List Int) (l483 : List (Int × Int × Unit)) (n484 : Int) (n485 : Int) (b486 : Bool) (b487 : Bool) (k : KE) : execL Try.prog ht 4 (callfOf (law36_FramesTell_L0.calls F0 F1 F2)) (law36_FramesTell_L0.loops) 0 (loopAt 0 (codeOf Try.f4)) ⟨fillS 119 [1, 4, 7, 9, 11, 16] [(.d ⟨(.int .i64), n468⟩), (.ptr [1, 0] 0 0), (.ptr [1, 1] 0 0), (.ptr [1, 2] 0 0), (.ptr [1, 3] 0 0), (.d ⟨(.int .i64), n469⟩)], [([1, 0], ⟨34, 8, (.data (.st [(.int .i64), (.int .i64), (.sl 2 (.int .i64)), (.sl 39 (.st [(.int .i64), (.int .i64)])), (.int .i64), (.int .i64), .bool, .bool]) [t470])⟩), ([1, 1], ⟨39, 2, (.data (.st [(.int .i64), (.int .i64)]) [t471])⟩), ([1, 2], ⟨34, 8, (.mix [(.agg [(.d ⟨(.int .i64), n472⟩), (.d ⟨(.int .i64), n473⟩), (.bv 0 2 (.int .i64) ns474), (.bv 0 39 (.st [(.int .i64), (.int .i64)]) ts475), (.d ⟨(.int .i64), n476⟩), (.d ⟨(.int .i64), n477⟩), (.d ⟨.bool, b478⟩), (.d ⟨.bool, b479⟩)])])⟩), ([1, 3], ⟨34, 8, (.mix [(.agg [(.d ⟨(.int .i64), n480⟩), (.d ⟨(.int .i64), n481⟩), (.d ⟨(.sl 2 (.int .i64)), l482⟩), (.d ⟨(.sl 39 (.st [(.int .i64), (.int .i64)])), l483⟩), (.d ⟨(.int .i64), n484⟩), (.d ⟨(.int .i64), n485⟩), (.d ⟨.bool, b486⟩), (.d ⟨.bool, b487⟩)])])⟩)], 2⟩ (again (law36_FramesTell_L0.get S none) (plan Try.prog (ht 4 0)) k) = law36_FramesTell_L0.body S F0 F1 F2 n468 n469 t470 t471 n472 n473 ns474 ts475 n476 n477 b478 b479 n480 n481 l482 l483 n484 n485 b486 b487 (fun y0 => k .ret ⟨fillS 119 [8] [(.d ⟨.bool, y0⟩)], [], 2⟩) (fun y0 y1 y2 y3 y4 y5 y6 y7 y8 y9 y10 y11 y12 y13 y14 y15 y16 y17 => k (.exit 0) ⟨fillS 119 [4, 7, 9, 11] [(.ptr [1, 0] 0 0), (.ptr [1, 1] 0 0), (.ptr [1, 2] 0 0), (.ptr [1, 3] 0 0)], [([1, 0], ⟨34, 8, (.data (.st [(.int .i64), (.int .i64), (.sl 2 (.int .i64)), (.sl 39 (.st [(.int .i64), (.int .i64)])), (.int .i64), (.int .i64), .bool, .bool]) [y0])⟩), ([1, 1], ⟨39, 2, (.data (.st [(.int .i64), (.int .i64)]) [y1])⟩), ([1, 2], ⟨34, 8, (.mix [(.agg [(.d ⟨(.int .i64), y2⟩), (.d ⟨(.int .i64), y3⟩), (.bv 0 2 (.int .i64) y4), (.bv 0 39 (.st [(.int .i64), (.int .i64)]) y5), (.d ⟨(.int .i64), y6⟩), (.d ⟨(.int .i64), y7⟩), (.d ⟨.bool, y8⟩), (.d ⟨.bool, y9⟩)])])⟩), ([1, 3], ⟨34, 8, (.mix [(.agg [(.d ⟨(.int .i64), y10⟩), (.d ⟨(.int .i64), y11⟩), (.d ⟨(.sl 2 (.int .i64)), y12⟩), (.d ⟨(.sl 39 (.st [(.int .i64), (.int .i64)])), y13⟩), (.d ⟨(.int .i64), y14⟩), (.d ⟨(.int .i64), y15⟩), (.d ⟨.bool, y16⟩), (.d ⟨.bool, y17⟩)])])⟩)], 2⟩) := by kernel_rfl
theorem law36_FramesTell_L0.ok (d : Nat) (hd : 3 ≤ d) : ∀ n st k, law36_FramesTell_L0.get (law36_FramesTell_L0 n) none st k = some true → iter n (plan Try.prog (ht 4 0)) (fun st k => execK Try.prog ht 4 (callfOf (callK Try.prog ht d)) 0 (loopAt 0 (codeOf Try.f4)) st k) st k = some true :=
  loop_ok (lfn := fun n st k => law36_FramesTell_L0.get (law36_FramesTell_L0 n) none st k) (rec := law36_FramesTell_L0.calls frames_Args ref36_Args ref01_Longsv2) (fun g a h k hx => by
    rcases frames_Args.look d (by omega) hx with hx | hx
    rotate_left
    · exact hx
    rcases ref36_Args.look d (by omega) hx with hx | hx
    rotate_left
    · exact hx
    rcases ref01_Longsv2.look d (by omega) hx with hx | hx
    rotate_left
    · exact hx
    cases hx) (loopf := law36_FramesTell_L0.loops) (by
    have e : loopsOf (law36_FramesTell_L0.loops) 0 (loopAt 0 (codeOf Try.f4)) = [] := by kernel_rfl
    rw [e]
    intro p hp
    cases hp) (fun st k h => by
    obtain ⟨sl, hp, m⟩ := st
    unfold law36_FramesTell_L0.get at h
    dsimp only at h
    split at h
    · have h' : (none : Option Bool) = some true := h
      cases h'
    · cases h) (fun n st k h => by
    obtain ⟨sl, hp, m⟩ := st
    unfold law36_FramesTell_L0.get at h
    dsimp only at h
    split at h
    · rename_i h1 h2
      obtain rfl := pickS_ok h2
      obtain rfl := Nat.eq_of_beq_eq_true h1
      exact (law36_FramesTell_L0.step (law36_FramesTell_L0 n) frames_Args ref36_Args ref01_Longsv2 _ _ _ _ _ _ _ _ _ _ _ _ _ _ _ _ _ _ _ _ k).trans h
    · cases h)
theorem law36_FramesTell_L0.look {F : Int → Int → (Int × Int × (List Int) × (List (Int × Int × Unit)) × Int × Int × Bool × Bool × Unit) → (Int × Int × Unit) → Int → Int → (List Int) → (List (Int × Int × Unit)) → Int → Int → Bool → Bool → Int → Int → (List Int) → (List (Int × Int × Unit)) → Int → Int → Bool → Bool → (Bool → Option Bool) → ((Int × Int × (List Int) × (List (Int × Int × Unit)) × Int × Int × Bool × Bool × Unit) → (Int × Int × Unit) → Int → Int → (List Int) → (List (Int × Int × Unit)) → Int → Int → Bool → Bool → Int → Int → (List Int) → (List (Int × Int × Unit)) → Int → Int → Bool → Bool → Option Bool) → Option Bool} {e : Option Bool} {st : St} {k : KE} (hx : law36_FramesTell_L0.get F e st k = some true) : e = some true ∨ law36_FramesTell_L0.get F none st k = some true := by
  obtain ⟨sl, hp, m⟩ := st
  unfold law36_FramesTell_L0.get at hx ⊢
  dsimp only at hx ⊢
  split at hx
  · exact .inr hx
  · exact .inl hx
/-- function 24: the loop in block 0 -/
noncomputable def frames_Pending_L0.body (frames_Pending_L0 : Int → (List (Int × Int × (List Int) × (List (Int × Int × Unit)) × Int × Int × Bool × Bool × Unit)) → Int → Int → (Int → Option Bool) → Option Bool) (n528 : Int) (ts529 : List (Int × Int × (List Int) × (List (Int × Int × Unit)) × Int × Int × Bool × Bool × Unit)) (n530 : Int) (n531 : Int) (k1 : Int → Option Bool) : Option Bool :=
  (cond_ (decide (n531 < n530)) (cond_ ((decide ((0 : Int) ≤ n531)) && (decide (n531 < (((List.length ts529) : Nat) : Int)))) (frames_Pending_L0 (IntKind.wrap .i64 (n528 + (((List.length (List.getD ts529 (Int.toNat n531) ((0 : Int), ((0 : Int), ([], ([], ((0 : Int), ((0 : Int), (false, (false, ()))))))))).2.2.2.1) : Nat) : Int))) ts529 n530 (IntKind.wrap .i64 (n531 + (1 : Int))) k1) none) (k1 n528))
noncomputable def frames_Pending_L0 : Nat → Int → (List (Int × Int × (List Int) × (List (Int × Int × Unit)) × Int × Int × Bool × Bool × Unit)) → Int → Int → (Int → Option Bool) → Option Bool
  | 0 => fun _ _ _ _ _ => none
  | n + 1 => frames_Pending_L0.body (frames_Pending_L0 n)
noncomputable def frames_Pending_L0.get (F : Int → (List (Int × Int × (List Int) × (List (Int × Int × Unit)) × Int × Int × Bool × Bool × Unit)) → Int → Int → (Int → Option Bool) → Option Bool) (e : Option Bool) (st : St) (k : KE) : Option Bool := match st with
  | ⟨sl, hp, m⟩ => match Nat.beq m 2, pickS 19 [3, 6, 7, 8] sl, hp with
    | true, some [(.d ⟨(.int .i64), n528⟩), (.bv 1 34 (.st [(.int .i64), (.int .i64), (.sl 2 (.int .i64)), (.sl 39 (.st [(.int .i64), (.int .i64)])), (.int .i64), (.int .i64), .bool, .bool]) ts529), (.d ⟨(.int .i64), n530⟩), (.d ⟨(.int .i64), n531⟩)], [] => F n528 ts529 n530 n531 (fun y0 => k (.exit 0) ⟨fillS 19 [3] [(.d ⟨(.int .i64), y0⟩)], [], 2⟩)
    | _, _, _ => e
noncomputable def frames_Pending_L0.calls : RecF := fun g a h k => none
noncomputable def frames_Pending_L0.loops : LoopF := fun b => none
set_option maxRecDepth 100000 in
theorem frames_Pending_L0.step (S : Int → (List (Int × Int × (List Int) × (List (Int × Int × Unit)) × Int × Int × Bool × Bool × Unit)) → Int → Int → (Int → Option Bool) → Option Bool) (n528 : Int) (ts529 : List (Int × Int × (List Int) × (List (Int × Int × Unit)) × Int × Int × Bool × Bool × Unit)) (n530 : Int) (n531 : Int) (k : KE) : execL Try.prog ht 24 (callfOf (frames_Pending_L0.calls)) (frames_Pending_L0.loops) 0 (loopAt 0 (codeOf Try.f24)) ⟨fillS 19 [3, 6, 7, 8] [(.d ⟨(.int .i64), n528⟩), (.bv 1 34 (.st [(.int .i64), (.int .i64), (.sl 2 (.int .i64)), (.sl 39 (.st [(.int .i64), (.int .i64)])), (.int .i64), (.int .i64), .bool, .bool]) ts529), (.d ⟨(.int .i64), n530⟩), (.d ⟨(.int .i64), n531⟩)], [], 2⟩ (again (frames_Pending_L0.get S none) (plan Try.prog (ht 24 0)) k) = frames_Pending_L0.body S n528 ts529 n530 n531 (fun y0 => k (.exit 0) ⟨fillS 19 [3] [(.d ⟨(.int .i64), y0⟩)], [], 2⟩) := by kernel_rfl
theorem frames_Pending_L0.ok (d : Nat) (hd : 0 ≤ d) : ∀ n st k, frames_Pending_L0.get (frames_Pending_L0 n) none st k = some true → iter n (plan Try.prog (ht 24 0)) (fun st k => execK Try.prog ht 24 (callfOf (callK Try.prog ht d)) 0 (loopAt 0 (codeOf Try.f24)) st k) st k = some true :=
  loop_ok (lfn := fun n st k => frames_Pending_L0.get (frames_Pending_L0 n) none st k) (rec := frames_Pending_L0.calls) (fun g a h k hx => by
    cases hx) (loopf := frames_Pending_L0.loops) (by
    have e : loopsOf (frames_Pending_L0.loops) 0 (loopAt 0 (codeOf Try.f24)) = [] := by kernel_rfl
    rw [e]
    intro p hp
    cases hp) (fun st k h => by
    obtain ⟨sl, hp, m⟩ := st
    unfold frames_Pending_L0.get at h
    dsimp only at h
    split at h
    · have h' : (none : Option Bool) = some true := h
      cases h'
    · cases h) (fun n st k h => by
    obtain ⟨sl, hp, m⟩ := st
    unfold frames_Pending_L0.get at h
    dsimp only at h
    split at h
    · rename_i h1 h2
      obtain rfl := pickS_ok h2
      obtain rfl := Nat.eq_of_beq_eq_true h1
      exact (frames_Pending_L0.step (frames_Pending_L0 n) _ _ _ _ k).trans h
    · cases h)
theorem frames_Pending_L0.look {F : Int → (List (Int × Int × (List Int) × (List (Int × Int × Unit)) × Int × Int × Bool × Bool × Unit)) → Int → Int → (Int → Option Bool) → Option Bool} {e : Option Bool} {st : St} {k : KE} (hx : frames_Pending_L0.get F e st k = some true) : e = some true ∨ frames_Pending_L0.get F none st k = some true := by
  obtain ⟨sl, hp, m⟩ := st
  unfold frames_Pending_L0.get at hx ⊢
  dsimp only at hx ⊢
  split at hx
  · exact .inr hx
  · exact .inl hx
/-- function 24: sheerleg/frames.Pending -/
noncomputable def frames_Pending.body (frames_Pending_L0 : Int → (List (Int × Int × (List Int) × (List (Int × Int × Unit)) × Int × Int × Bool × Bool × Unit)) → Int → Int → (Int → Option Bool) → Option Bool) (ts527 : List (Int × Int × (List Int) × (List (Int × Int × Unit)) × Int × Int × Bool × Bool × Unit)) (k1 : Int → Option Bool) : Option Bool :=
  (frames_Pending_L0 (0 : Int) ts527 (((List.length ts527) : Nat) : Int) (0 : Int)
  (fun n532 => (k1 n532)))
noncomputable def frames_Pending (ts527 : List (Int × Int × (List Int) × (List (Int × Int × Unit)) × Int × Int × Bool × Bool × Unit)) (k1 : Int → Option Bool) : Option Bool := frames_Pending.body (frames_Pending_L0 ROUNDS) ts527 k1
noncomputable def frames_Pending.get (F : (List (Int × Int × (List Int) × (List (Int × Int × Unit)) × Int × Int × Bool × Bool × Unit)) → (Int → Option Bool) → Option Bool) (e : Option Bool) (g : FuncId) (a : List AV) (h : Heap) (k : KR) : Option Bool := match g, a, h with
  | 24, [(.bv 1 34 (.st [(.int .i64), (.int .i64), (.sl 2 (.int .i64)), (.sl 39 (.st [(.int .i64), (.int .i64)])), (.int .i64), (.int .i64), .bool, .bool]) ts527)], [] => F ts527 (fun y0 => k (.d ⟨(.int .i64), y0⟩) [])
  | _, _, _ => e
noncomputable def frames_Pending.calls : RecF := fun g a h k => none
noncomputable def frames_Pending.loops (L0 : Int → (List (Int × Int × (List Int) × (List (Int × Int × Unit)) × Int × Int × Bool × Bool × Unit)) → Int → Int → (Int → Option Bool) → Option Bool) : LoopF := fun b => match Nat.beq b 0 with | true => some (fun st k => (frames_Pending_L0.get L0 none st k)) | false => none
set_option maxRecDepth 100000 in
theorem frames_Pending.eq (L0 : Int → (List (Int × Int × (List Int) × (List (Int × Int × Unit)) × Int × Int × Bool × Bool × Unit)) → Int → Int → (Int → Option Bool) → Option Bool) (ts527 : List (Int × Int × (List Int) × (List (Int × Int × Unit)) × Int × Int × Bool × Bool × Unit)) (k : KR) : execL Try.prog ht 24 (callfOf (frames_Pending.calls)) (frames_Pending.loops L0) 0 (codeOf Try.f24) ⟨[(.bv 1 34 (.st [(.int .i64), (.int .i64), (.sl 2 (.int .i64)), (.sl 39 (.st [(.int .i64), (.int .i64)])), (.int .i64), (.int .i64), .bool, .bool]) ts527)] ++ List.replicate (Try.f24.ntmps - ([(.bv 1 34 (.st [(.int .i64), (.int .i64), (.sl 2 (.int .i64)), (.sl 39 (.st [(.int .i64), (.int .i64)])), (.int .i64), (.int .i64), .bool, .bool]) ts527)] : List AV).length) .undef, [], 2⟩ (leave Try.prog Try.f24 k) = frames_Pending.body L0 ts527 (fun y0 => k (.d ⟨(.int .i64), y0⟩) []) := by kernel_rfl
theorem frames_Pending.ok (d : Nat) (hd : 1 ≤ d) (ts527 : List (Int × Int × (List Int) × (List (Int × Int × Unit)) × Int × Int × Bool × Bool × Unit)) (k : KR) (hx : frames_Pending ts527 (fun y0 => k (.d ⟨(.int .i64), y0⟩) []) = some true) : callK Try.prog ht d 24 [(.bv 1 34 (.st [(.int .i64), (.int .i64), (.sl 2 (.int .i64)), (.sl 39 (.st [(.int .i64), (.int .i64)])), (.int .i64), (.int .i64), .bool, .bool]) ts527)] [] k = some true := by
  obtain ⟨d, rfl⟩ : ∃ e, d = e + 1 := ⟨d - 1, by omega⟩
  exact fn_ok (c := codeOf Try.f24) Try.func24 (by kernel_rfl) (rec := frames_Pending.calls) (fun g a h k hx => by
    cases hx) (loopf := frames_Pending.loops (frames_Pending_L0 ROUNDS)) (by
    have e : loopsOf (frames_Pending.loops (frames_Pending_L0 ROUNDS)) 0 (codeOf Try.f24) = [(0, loopAt 0 (codeOf Try.f24))] := by kernel_rfl
    rw [e]
    intro p hp
    simp only [List.mem_cons, List.not_mem_nil, or_false] at hp
    rcases hp with rfl
    · refine loopRef_of (callf := callfOf (callK Try.prog ht d)) (callfOf_ref (callK_mono d)) fun lf st k hb hx => ?_
      cases hb
      rcases frames_Pending_L0.look hx with hx | hx
      rotate_left
      · exact frames_Pending_L0.ok d (by omega) _ _ _ hx
      cases hx) ((frames_Pending.eq (frames_Pending_L0 ROUNDS) ts527 k).trans hx)
theorem frames_Pending.look (d : Nat) (hd : 1 ≤ d) {e : Option Bool} {g : FuncId} {a : List AV} {h : Heap} {k : KR} (hx : frames_Pending.get frames_Pending e g a h k = some true) : e = some true ∨ callK Try.prog ht d g a h k = some true := by
  unfold frames_Pending.get at hx
  split at hx
  · exact .inr (frames_Pending.ok d hd _ _ hx)
  · exact .inl hx
/-- function 25: the loop in block 0 -/
noncomputable def ref36_Pending_L0.body (ref36_Pending_L0 : (List (Int × Int × (List Int) × (List (Int × Int × Unit)) × Int × Int × Bool × Bool × Unit)) → Int → Int → (Int → Option Bool) → Option Bool) (ts535 : List (Int × Int × (List Int) × (List (Int × Int × Unit)) × Int × Int × Bool × Bool × Unit)) (n536 : Int) (n537 : Int) (k1 : Int → Option Bool) : Option Bool :=
  (cond_ (decide (n537 < (((List.length ts535) : Nat) : Int))) (cond_ ((decide ((0 : Int) ≤ n537)) && (decide (n537 < (((List.length ts535) : Nat) : Int)))) (ref36_Pending_L0 ts535 (IntKind.wrap .i64 (n536 + (((List.length (List.getD ts535 (Int.toNat n537) ((0 : Int), ((0 : Int), ([], ([], ((0 : Int), ((0 : Int), (false, (false, ()))))))))).2.2.2.1) : Nat) : Int))) (IntKind.wrap .i64 (n537 + (1 : Int))) k1) none) (k1 n536))
noncomputable def ref36_Pending_L0 : Nat → (List (Int × Int × (List Int) × (List (Int × Int × Unit)) × Int × Int × Bool × Bool × Unit)) → Int → Int → (Int → Option Bool) → Option Bool
  | 0 => fun _ _ _ _ => none
  | n + 1 => ref36_Pending_L0.body (ref36_Pending_L0 n)
noncomputable def ref36_Pending_L0.get (F : (List (Int × Int × (List Int) × (List (Int × Int × Unit)) × Int × Int × Bool × Bool × Unit)) → Int → Int → (Int → Option Bool) → Option Bool) (e : Option Bool) (st : St) (k : KE) : Option Bool := match st with
  | ⟨sl, hp, m⟩ => match Nat.beq m 2, pickS 20 [0, 3, 4] sl, hp with
    | true, some [(.bv 1 34 (.st [(.int .i64), (.int .i64), (.sl 2 (.int .i64)), (.sl 39 (.st [(.int .i64), (.int .i64)])), (.int .i64), (.int .i64), .bool, .bool]) ts535), (.d ⟨(.int .i64), n536⟩), (.d ⟨(.int .i64), n537⟩)], [] => F ts535 n536 n537 (fun y0 => k (.exit 0) ⟨fillS 20 [3] [(.d ⟨(.int .i64), y0⟩)], [], 2⟩)
    | _, _, _ => e
noncomputable def ref36_Pending_L0.calls : RecF := fun g a h k => none
noncomputable def ref36_Pending_L0.loops : LoopF := fun b => none
set_option maxRecDepth 100000 in
theorem ref36_Pending_L0.step (S : (List (Int × Int × (List Int) × (List (Int × Int × Unit)) × Int × Int × Bool × Bool × Unit)) → Int → Int → (Int → Option Bool) → Option Bool) (ts535 : List (Int × Int × (List Int) × (List (Int × Int × Unit)) × Int × Int × Bool × Bool × Unit)) (n536 : Int) (n537 : Int) (k : KE) : execL Try.prog ht 25 (callfOf (ref36_Pending_L0.calls)) (ref36_Pending_L0.loops) 0 (loopAt 0 (codeOf Try.f25)) ⟨fillS 20 [0, 3, 4] [(.bv 1 34 (.st [(.int .i64), (.int .i64), (.sl 2 (.int .i64)), (.sl 39 (.st [(.int .i64), (.int .i64)])), (.int .i64), (.int .i64), .bool, .bool]) ts535), (.d ⟨(.int .i64), n536⟩), (.d ⟨(.int .i64), n537⟩)], [], 2⟩ (again (ref36_Pending_L0.get S none) (plan Try.prog (ht 25 0)) k) = ref36_Pending_L0.body S ts535 n536 n537 (fun y0 => k (.exit 0) ⟨fillS 20 [3] [(.d ⟨(.int .i64), y0⟩)], [], 2⟩) := by kernel_rfl
theorem ref36_Pending_L0.ok (d : Nat) (hd : 0 ≤ d) : ∀ n st k, ref36_Pending_L0.get (ref36_Pending_L0 n) none st k = some true → iter n (plan Try.prog (ht 25 0)) (fun st k => execK Try.prog ht 25 (callfOf (callK Try.prog ht d)) 0 (loopAt 0 (codeOf Try.f25)) st k) st k = some true :=
  loop_ok (lfn := fun n st k => ref36_Pending_L0.get (ref36_Pending_L0 n) none st k) (rec := ref36_Pending_L0.calls) (fun g a h k hx => by
    cases hx) (loopf := ref36_Pending_L0.loops) (by
    have e : loopsOf (ref36_Pending_L0.loops) 0 (loopAt 0 (codeOf Try.f25)) = [] := by kernel_rfl
    rw [e]
    intro p hp
    cases hp) (fun st k h => by
    obtain ⟨sl, hp, m⟩ := st
    unfold ref36_Pending_L0.get at h
    dsimp only at h
    split at h
    · have h' : (none : Option Bool) = some true := h
      cases h'
    · cases h) (fun n st k h => by
    obtain ⟨sl, hp, m⟩ := st
    unfold ref36_Pending_L0.get at h
    dsimp only at h
    split at h
    · rename_i h1 h2
      obtain rfl := pickS_ok h2
      obtain rfl := Nat.eq_of_beq_eq_true h1
      exact (ref36_Pending_L0.step (ref36_Pending_L0 n) _ _ _ k).trans h
    · cases h)
theorem ref36_Pending_L0.look {F : (List (Int × Int × (List Int) × (List (Int × Int × Unit)) × Int × Int × Bool × Bool × Unit)) → Int → Int → (Int → Option Bool) → Option Bool} {e : Option Bool} {st : St} {k : KE} (hx : ref36_Pending_L0.get F e st k = some true) : e = some true ∨ ref36_Pending_L0.get F none st k = some true := by
  obtain ⟨sl, hp, m⟩ := st
  unfold ref36_Pending_L0.get at hx ⊢
  dsimp only at hx ⊢
  split at hx
  · exact .inr hx
  · exact .inl hx
/-- function 25: sheerleg/sheerlegref36.Pending -/
noncomputable def ref36_Pending.body (ref36_Pending_L0 : (List (Int × Int × (List Int) × (List (Int × Int × Unit)) × Int × Int × Bool × Bool × Unit)) → Int → Int → (Int → Option Bool) → Option Bool) (ts534 : List (Int × Int × (List Int) × (List (Int × Int × Unit)) × Int × Int × Bool × Bool × Unit)) (k1 : Int → Option Bool) : Option Bool :=
  (ref36_Pending_L0 ts534 (0 : Int) (0 : Int)
  (fun n538 => (k1 n538)))
noncomputable def ref36_Pending (ts534 : List (Int × Int × (List Int) × (List (Int × Int × Unit)) × Int × Int × Bool × Bool × Unit)) (k1 : Int → Option Bool) : Option Bool := ref36_Pending.body (ref36_Pending_L0 ROUNDS) ts534 k1
noncomputable def ref36_Pending.get (F : (List (Int × Int × (List Int) × (List (Int × Int × Unit)) × Int × Int × Bool × Bool × Unit)) → (Int → Option Bool) → Option Bool) (e : Option Bool) (g : FuncId) (a : List AV) (h : Heap) (k : KR) : Option Bool := match g, a, h with
  | 25, [(.bv 1 34 (.st [(.int .i64), (.int .i64), (.sl 2 (.int .i64)), (.sl 39 (.st [(.int .i64), (.int .i64)])), (.int .i64), (.int .i64), .bool, .bool]) ts534)], [] => F ts534 (fun y0 => k (.d ⟨(.int .i64), y0⟩) [])
  | _, _, _ => e
noncomputable def ref36_Pending.calls : RecF := fun g a h k => none
noncomputable def ref36_Pending.loops (L0 : (List (Int × Int × (List Int) × (List (Int × Int × Unit)) × Int × Int × Bool × Bool × Unit)) → Int → Int → (Int → Option Bool) → Option Bool) : LoopF := fun b => match Nat.beq b 0 with | true => some (fun st k => (ref36_Pending_L0.get L0 none st k)) | false => none
set_option maxRecDepth 100000 in
theorem ref36_Pending.eq (L0 : (List (Int × Int × (List Int) × (List (Int × Int × Unit)) × Int × Int × Bool × Bool × Unit)) → Int → Int → (Int → Option Bool) → Option Bool) (ts534 : List (Int × Int × (List Int) × (List (Int × Int × Unit)) × Int × Int × Bool × Bool × Unit)) (k : KR) : execL Try.prog ht 25 (callfOf (ref36_Pending.calls)) (ref36_Pending.loops L0) 0 (codeOf Try.f25) ⟨[(.bv 1 34 (.st [(.int .i64), (.int .i64), (.sl 2 (.int .i64)), (.sl 39 (.st [(.int .i64), (.int .i64)])), (.int .i64), (.int .i64), .bool, .bool]) ts534)] ++ List.replicate (Try.f25.ntmps - ([(.bv 1 34 (.st [(.int .i64), (.int .i64), (.sl 2 (.int .i64)), (.sl 39 (.st [(.int .i64), (.int .i64)])), (.int .i64), (.int .i64), .bool, .bool]) ts534)] : List AV).length) .undef, [], 2⟩ (leave Try.prog Try.f25 k) = ref36_Pending.body L0 ts534 (fun y0 => k (.d ⟨(.int .i64), y0⟩) []) := by kernel_rfl
theorem ref36_Pending.ok (d : Nat) (hd : 1 ≤ d) (ts534 : List (Int × Int × (List Int) × (List (Int × Int × Unit)) × Int × Int × Bool × Bool × Unit)) (k : KR) (hx : ref36_Pending ts534 (fun y0 => k (.d ⟨(.int .i64), y0⟩) []) = some true) : callK Try.prog ht d 25 [(.bv 1 34 (.st [(.int .i64), (.int .i64), (.sl 2 (.int .i64)), (.sl 39 (.st [(.int .i64), (.int .i64)])), (.int .i64), (.int .i64), .bool, .bool]) ts534)] [] k = some true := by
  obtain ⟨d, rfl⟩ : ∃ e, d = e + 1 := ⟨d - 1, by omega⟩
  exact fn_ok (c := codeOf Try.f25) Try.func25 (by kernel_rfl) (rec := ref36_Pending.calls) (fun g a h k hx => by
    cases hx) (loopf := ref36_Pending.loops (ref36_Pending_L0 ROUNDS)) (by
    have e : loopsOf (ref36_Pending.loops (ref36_Pending_L0 ROUNDS)) 0 (codeOf Try.f25) = [(0, loopAt 0 (codeOf Try.f25))] := by kernel_rfl
    rw [e]
    intro p hp
    simp only [List.mem_cons, List.not_mem_nil, or_false] at hp
    rcases hp with rfl
    · refine loopRef_of (callf := callfOf (callK Try.prog ht d)) (callfOf_ref (callK_mono d)) fun lf st k hb hx => ?_
      cases hb
      rcases ref36_Pending_L0.look hx with hx | hx
      rotate_left
      · exact ref36_Pending_L0.ok d (by omega) _ _ _ hx
      cases hx) ((ref36_Pending.eq (ref36_Pending_L0 ROUNDS) ts534 k).trans hx)
theorem ref36_Pending.look (d : Nat) (hd : 1 ≤ d) {e : Option Bool} {g : FuncId} {a : List AV} {h : Heap} {k : KR} (hx : ref36_Pending.get ref36_Pending e g a h k = some true) : e = some true ∨ callK Try.prog ht d g a h k = some true := by
  unfold ref36_Pending.get at hx
  split at hx
  · exact .inr (ref36_Pending.ok d hd _ _ hx)
  · exact .inl hx
/-- function 9: the loop in block 0 -/
noncomputable def ref36_Samev3_L0.body (ref36_Samev3_L0 : Int → Int → Int → (List Int) → (List (Int × Int × Unit)) → Int → Int → Bool → Bool → (Int × Int × (List Int) × (List (Int × Int × Unit)) × Int × Int × Bool × Bool × Unit) → (Bool → Option Bool) → (Option Bool) → Option Bool) (n558 : Int) (n559 : Int) (n560 : Int) (ns561 : List Int) (ts562 : List (Int × Int × Unit)) (n563 : Int) (n564 : Int) (b565 : Bool) (b566 : Bool) (t567 : Int × Int × (List Int) × (List (Int × Int × Unit)) × Int × Int × Bool × Bool × Unit) (k1 : Bool → Option Bool) (k2 : Option Bool) : Option Bool :=
  (cond_ (decide (n558 < (((List.length ts562) : Nat) : Int))) (cond_ ((decide ((0 : Int) ≤ n558)) && (decide (n558 < (((List.length ts562) : Nat) : Int)))) (cond_ ((decide ((0 : Int) ≤ n558)) && (decide (n558 < (((List.length t567.2.2.2.1) : Nat) : Int)))) (cond_ (! (((List.getD ts562 (Int.toNat n558) ((0 : Int), ((0 : Int), ()))).1 == (List.getD t567.2.2.2.1 (Int.toNat n558) ((0 : Int), ((0 : Int), ()))).1) && (((List.getD ts562 (Int.toNat n558) ((0 : Int), ((0 : Int), ()))).2.1 == (List.getD t567.2.2.2.1 (Int.toNat n558) ((0 : Int), ((0 : Int), ()))).2.1) && true))) (k1 false) (ref36_Samev3_L0 (IntKind.wrap .i64 (n558 + (1 : Int))) n559 n560 ns561 ts562 n563 n564 b565 b566 t567 k1 k2)) none) none) (k2))
noncomputable def ref36_Samev3_L0 : Nat → Int → Int → Int → (List Int) → (List (Int × Int × Unit)) → Int → Int → Bool → Bool → (Int × Int × (List Int) × (List (Int × Int × Unit)) × Int × Int × Bool × Bool × Unit) → (Bool → Option Bool) → (Option Bool) → Option Bool
  | 0 => fun _ _ _ _ _ _ _ _ _ _ _ _ => none
  | n + 1 => ref36_Samev3_L0.body (ref36_Samev3_L0 n)
noncomputable def ref36_Samev3_L0.get (F : Int → Int → Int → (List Int) → (List (Int × Int × Unit)) → Int → Int → Bool → Bool → (Int × Int × (List Int) × (List (Int × Int × Unit)) × Int × Int × Bool × Bool × Unit) → (Bool → Option Bool) → (Option Bool) → Option Bool) (e : Option Bool) (st : St) (k : KE) : Option Bool := match st with
  | ⟨sl, hp, m⟩ => match Nat.beq m 2, pickS 81 [2, 3, 5] sl, hp with
    | true, some [(.ptr [1, 0] 0 0), (.ptr [1, 1] 0 0), (.d ⟨(.int .i64), n558⟩)], [([1, 0], ⟨34, 8, (.mix [(.agg [(.d ⟨(.int .i64), n559⟩), (.d ⟨(.int .i64), n560⟩), (.bv 0 2 (.int .i64) ns561), (.bv 1 39 (.st [(.int .i64), (.int .i64)]) ts562), (.d ⟨(.int .i64), n563⟩), (.d ⟨(.int .i64), n564⟩), (.d ⟨.bool, b565⟩), (.d ⟨.bool, b566⟩)])])⟩), ([1, 1], ⟨34, 8, (.data (.st [(.int .i64), (.int .i64), (.sl 2 (.int .i64)), (.sl 39 (.st [(.int .i64), (.int .i64)])), (.int .i64), (.int .i64), .bool, .bool]) [t567])⟩)] => F n558 n559 n560 ns561 ts562 n563 n564 b565 b566 t567 (fun y0 => k .ret ⟨fillS 81 [4] [(.d ⟨.bool, y0⟩)], [], 2⟩) (k (.exit 0) ⟨fillS 81 [] [], [], 2⟩)
    | _, _, _ => e
noncomputable def ref36_Samev3_L0.calls : RecF := fun g a h k => none
noncomputable def ref36_Samev3_L0.loops : LoopF := fun b => none
set_option maxRecDepth 100000 in
theorem ref36_Samev3_L0.step (S : Int → Int → Int → (List Int) → (List (Int × Int × Unit)) → Int → Int → Bool → Bool → (Int × Int × (List Int) × (List (Int × Int × Unit)) × Int × Int × Bool × Bool × Unit) → (Bool → Option Bool) → (Option Bool) → Option Bool) (n558 : Int) (n559 : Int) (n560 : Int) (ns561 : List Int) (ts562 : List (Int × Int × Unit)) (n563 : Int) (n564 : Int) (b565 : Bool) (b566 : Bool) (t567 : Int × Int × (List Int) × (List (Int × Int × Unit)) × Int × Int × Bool × Bool × Unit) (k : KE) : execL Try.prog ht 9 (callfOf (ref36_Samev3_L0.calls)) (ref36_Samev3_L0.loops) 0 (loopAt 0 (codeOf Try.f9)) ⟨fillS 81 [2, 3, 5] [(.ptr [1, 0] 0 0), (.ptr [1, 1] 0 0), (.d ⟨(.int .i64), n558⟩)], [([1, 0], ⟨34, 8, (.mix [(.agg [(.d ⟨(.int .i64), n559⟩), (.d ⟨(.int .i64), n560⟩), (.bv 0 2 (.int .i64) ns561), (.bv 1 39 (.st [(.int .i64), (.int .i64)]) ts562), (.d ⟨(.int .i64), n563⟩), (.d ⟨(.int .i64), n564⟩), (.d ⟨.bool, b565⟩), (.d ⟨.bool, b566⟩)])])⟩), ([1, 1], ⟨34, 8, (.data (.st [(.int .i64), (.int .i64), (.sl 2 (.int .i64)), (.sl 39 (.st [(.int .i64), (.int .i64)])), (.int .i64), (.int .i64), .bool, .bool]) [t567])⟩)], 2⟩ (again (ref36_Samev3_L0.get S none) (plan Try.prog (ht 9 0)) k) = ref36_Samev3_L0.body S n558 n559 n560 ns561 ts562 n563 n564 b565 b566 t567 (fun y0 => k .ret ⟨fillS 81 [4] [(.d ⟨.bool, y0⟩)], [], 2⟩) (k (.exit 0) ⟨fillS 81 [] [], [], 2⟩) := by kernel_rfl
theorem ref36_Samev3_L0.ok (d : Nat) (hd : 0 ≤ d) : ∀ n st k, ref36_Samev3_L0.get (ref36_Samev3_L0 n) none st k = some true → iter n (plan Try.prog (ht 9 0)) (fun st k => execK Try.prog ht 9 (callfOf (callK Try.prog ht d)) 0 (loopAt 0 (codeOf Try.f9)) st k) st k = some true :=
  loop_ok (lfn := fun n st k => ref36_Samev3_L0.get (ref36_Samev3_L0 n) none st k) (rec := ref36_Samev3_L0.calls) (fun g a h k hx => by
    cases hx) (loopf := ref36_Samev3_L0.loops) (by
    have e : loopsOf (ref36_Samev3_L0.loops) 0 (loopAt 0 (codeOf Try.f9)) = [] := by kernel_rfl
    rw [e]
    intro p hp
    cases hp) (fun st k h => by
    obtain ⟨sl, hp, m⟩ := st
    unfold ref36_Samev3_L0.get at h
    dsimp only at h
    split at h
    · have h' : (none : Option Bool) = some true := h
      cases h'
    · cases h) (fun n st k h => by
    obtain ⟨sl, hp, m⟩ := st
    unfold ref36_Samev3_L0.get at h
    dsimp only at h
    split at h
    · rename_i h1 h2
      obtain rfl := pickS_ok h2
      obtain rfl := Nat.eq_of_beq_eq_true h1
      exact (ref36_Samev3_L0.step (ref36_Samev3_L0 n) _ _ _ _ _ _ _ _ _ _ k).trans h
    · cases h)
theorem ref36_Samev3_L0.look {F : Int → Int → Int → (List Int) → (List (Int × Int × Unit)) → Int → Int → Bool → Bool → (Int × Int × (List Int) × (List (Int × Int × Unit)) × Int × Int × Bool × Bool × Unit) → (Bool → Option Bool) → (Option Bool) → Option Bool} {e : Option Bool} {st : St} {k : KE} (hx : ref36_Samev3_L0.get F e st k = some true) : e = some true ∨ ref36_Samev3_L0.get F none st k = some true := by
  obtain ⟨sl, hp, m⟩ := st
  unfold ref36_Samev3_L0.get at hx ⊢
  dsimp only at hx ⊢
  split at hx
  · exact .inr hx
  · exact .inl hx
/-- function 9: sheerleg/sheerlegref36.Same -/
noncomputable def ref36_Samev3.body (ref01_Longsv1 : (List Int) → (List Int) → (Bool → Option Bool) → Option Bool) (ref36_Samev3_L0 : Int → Int → Int → (List Int) → (List (Int × Int × Unit)) → Int → Int → Bool → Bool → (Int × Int × (List Int) × (List (Int × Int × Unit)) × Int × Int × Bool × Bool × Unit) → (Bool → Option Bool) → (Option Bool) → Option Bool) (n548 : Int) (n549 : Int) (ns550 : List Int) (ts551 : List (Int × Int × Unit)) (n552 : Int) (n553 : Int) (b554 : Bool) (b555 : Bool) (t556 : Int × Int × (List Int) × (List (Int × Int × Unit)) × Int × Int × Bool × Bool × Unit) (k1 : Bool → Option Bool) : Option Bool :=
  (cond_ (! (n548 != t556.1)) (cond_ (! (n549 != t556.2.1)) (ref01_Longsv1 ns550 t556.2.2.1
  (fun b557 => (cond_ (! (! b557)) (cond_ (! (n552 != t556.2.2.2.2.1)) (cond_ (! (n553 != t556.2.2.2.2.2.1)) (cond_ (! (! (b554 == t556.2.2.2.2.2.2.1))) (cond_ (! (! (b555 == t556.2.2.2.2.2.2.2.1))) (cond_ ((((List.length ts551) : Nat) : Int) != (((List.length t556.2.2.2.1) : Nat) : Int)) (k1 false) (ref36_Samev3_L0 (0 : Int) n548 n549 ns550 ts551 n552 n553 b554 b555 t556
  (fun b568 => (k1 b568))
  (k1 true))) (k1 false)) (k1 false)) (k1 false)) (k1 false)) (k1 false)))) (k1 false)) (k1 false))
noncomputable def ref36_Samev3 (n548 : Int) (n549 : Int) (ns550 : List Int) (ts551 : List (Int × Int × Unit)) (n552 : Int) (n553 : Int) (b554 : Bool) (b555 : Bool) (t556 : Int × Int × (List Int) × (List (Int × Int × Unit)) × Int × Int × Bool × Bool × Unit) (k1 : Bool → Option Bool) : Option Bool := ref36_Samev3.body ref01_Longsv1 (ref36_Samev3_L0 ROUNDS) n548 n549 ns550 ts551 n552 n553 b554 b555 t556 k1
noncomputable def ref36_Samev3.get (F : Int → Int → (List Int) → (List (Int × Int × Unit)) → Int → Int → Bool → Bool → (Int × Int × (List Int) × (List (Int × Int × Unit)) × Int × Int × Bool × Bool × Unit) → (Bool → Option Bool) → Option Bool) (e : Option Bool) (g : FuncId) (a : List AV) (h : Heap) (k : KR) : Option Bool := match g, a, h with
  | 9, [(.agg [(.d ⟨(.int .i64), n548⟩), (.d ⟨(.int .i64), n549⟩), (.bv 0 2 (.int .i64) ns550), (.bv 1 39 (.st [(.int .i64), (.int .i64)]) ts551), (.d ⟨(.int .i64), n552⟩), (.d ⟨(.int .i64), n553⟩), (.d ⟨.bool, b554⟩), (.d ⟨.bool, b555⟩)]), (.d ⟨(.st [(.int .i64), (.int .i64), (.sl 2 (.int .i64)), (.sl 39 (.st [(.int .i64), (.int .i64)])), (.int .i64), (.int .i64), .bool, .bool]), t556⟩)], [] => F n548 n549 ns550 ts551 n552 n553 b554 b555 t556 (fun y0 => k (.d ⟨.bool, y0⟩) [])
  | _, _, _ => e
noncomputable def ref36_Samev3.calls (F0 : (List Int) → (List Int) → (Bool → Option Bool) → Option Bool) : RecF := fun g a h k => (ref01_Longsv1.get F0 none g a h k)
noncomputable def ref36_Samev3.loops (L0 : Int → Int → Int → (List Int) → (List (Int × Int × Unit)) → Int → Int → Bool → Bool → (Int × Int × (List Int) × (List (Int × Int × Unit)) × Int × Int × Bool × Bool × Unit) → (Bool → Option Bool) → (Option Bool) → Option Bool) : LoopF := fun b => match Nat.beq b 0 with | true => some (fun st k => (ref36_Samev3_L0.get L0 none st k)) | false => none
set_option maxRecDepth 100000 in
theorem ref36_Samev3.eq (F0 : (List Int) → (List Int) → (Bool → Option Bool) → Option Bool) (L0 : Int → Int → Int → (List Int) → (List (Int × Int × Unit)) → Int → Int → Bool → Bool → (Int × Int × (List Int) × (List (Int × Int × Unit)) × Int × Int × Bool × Bool × Unit) → (Bool → Option Bool) → (Option Bool) → Option Bool) (n548 : Int) (n549 : Int) (ns550 : List Int) (ts551 : List (Int × Int × Unit)) (n552 : Int) (n553 : Int) (b554 : Bool) (b555 : Bool) (t556 : Int × Int × (List Int) × (List (Int × Int × Unit)) × Int × Int × Bool × Bool × Unit) (k : KR) : execL Try.prog ht 9 (callfOf (ref36_Samev3.calls F0)) (ref36_Samev3.loops L0) 0 (codeOf Try.f9) ⟨[(.agg [(.d ⟨(.int .i64), n548⟩), (.d ⟨(.int .i64), n549⟩), (.bv 0 2 (.int .i64) ns550), (.bv 1 39 (.st [(.int .i64), (.int .i64)]) ts551), (.d ⟨(.int .i64), n552⟩), (.d ⟨(.int .i64), n553⟩), (.d ⟨.bool, b554⟩), (.d ⟨.bool, b555⟩)]), (.d ⟨(.st [(.int .i64), (.int .i64), (.sl 2 (.int .i64)), (.sl 39 (.st [(.int .i64), (.int .i64)])), (.int .i64), (.int .i64), .bool, .bool]), t556⟩)] ++ List.replicate (Try.f9.ntmps - ([(.agg [(.d ⟨(.int .i64), n548⟩), (.d ⟨(.int .i64), n549⟩), (.bv 0 2 (.int .i64) ns550), (.bv 1 39 (.st [(.int .i64), (.int .i64)]) ts551), (.d ⟨(.int .i64), n552⟩), (.d ⟨(.int .i64), n553⟩), (.d ⟨.bool, b554⟩), (.d ⟨.bool, b555⟩)]), (.d ⟨(.st [(.int .i64), (.int .i64), (.sl 2 (.int .i64)), (.sl 39 (.st [(.int .i64), (.int .i64)])), (.int .i64), (.int .i64), .bool, .bool]), t556⟩)] : List AV).length) .undef, [], 2⟩ (leave Try.prog Try.f9 k) = ref36_Samev3.body F0 L0 n548 n549 ns550 ts551 n552 n553 b554 b555 t556 (fun y0 => k (.d ⟨.bool, y0⟩) []) := by kernel_rfl
theorem ref36_Samev3.ok (d : Nat) (hd : 2 ≤ d) (n548 : Int) (n549 : Int) (ns550 : List Int) (ts551 : List (Int × Int × Unit)) (n552 : Int) (n553 : Int) (b554 : Bool) (b555 : Bool) (t556 : Int × Int × (List Int) × (List (Int × Int × Unit)) × Int × Int × Bool × Bool × Unit) (k : KR) (hx : ref36_Samev3 n548 n549 ns550 ts551 n552 n553 b554 b555 t556 (fun y0 => k (.d ⟨.bool, y0⟩) []) = some true) : callK Try.prog ht d 9 [(.agg [(.d ⟨(.int .i64), n548⟩), (.d ⟨(.int .i64), n549⟩), (.bv 0 2 (.int .i64) ns550), (.bv 1 39 (.st [(.int .i64), (.int .i64)]) ts551), (.d ⟨(.int .i64), n552⟩), (.d ⟨(.int .i64), n553⟩), (.d ⟨.bool, b554⟩), (.d ⟨.bool, b555⟩)]), (.d ⟨(.st [(.int .i64), (.int .i64), (.sl 2 (.int .i64)), (.sl 39 (.st [(.int .i64), (.int .i64)])), (.int .i64), (.int .i64), .bool, .bool]), t556⟩)] [] k = some true := by
  obtain ⟨d, rfl⟩ : ∃ e, d = e + 1 := ⟨d - 1, by omega⟩
  exact fn_ok (c := codeOf Try.f9) Try.func9 (by kernel_rfl) (rec := ref36_Samev3.calls ref01_Longsv1) (fun g a h k hx => by
    rcases ref01_Longsv1.look d (by omega) hx with hx | hx
    rotate_left
    · exact hx
    cases hx) (loopf := ref36_Samev3.loops (ref36_Samev3_L0 ROUNDS)) (by
    have e : loopsOf (ref36_Samev3.loops (ref36_Samev3_L0 ROUNDS)) 0 (codeOf Try.f9) = [(0, loopAt 0 (codeOf Try.f9))] := by kernel_rfl
    rw [e]
    intro p hp
    simp only [List.mem_cons, List.not_mem_nil, or_false] at hp
    rcases hp with rfl
    · refine loopRef_of (callf := callfOf (callK Try.prog ht d)) (callfOf_ref (callK_mono d)) fun lf st k hb hx => ?_
      cases hb
      rcases ref36_Samev3_L0.look hx with hx | hx
      rotate_left
      · exact ref36_Samev3_L0.ok d (by omega) _ _ _ hx
      cases hx) ((ref36_Samev3.eq ref01_Longsv1 (ref36_Samev3_L0 ROUNDS) n548 n549 ns550 ts551 n552 n553 b554 b555 t556 k).trans hx)
theorem ref36_Samev3.look (d : Nat) (hd : 2 ≤ d) {e : Option Bool} {g : FuncId} {a : List AV} {h : Heap} {k : KR} (hx : ref36_Samev3.get ref36_Samev3 e g a h k = some true) : e = some true ∨ callK Try.prog ht d g a h k = some true := by
  unfold ref36_Samev3.get at hx
  split at hx
  · exact .inr (ref36_Samev3.ok d hd _ _ _ _ _ _ _ _ _ _ hx)
  · exact .inl hx
/-- function 4: sheerleg/sheerleglaw36.FramesTell -/
noncomputable def law36_FramesTell.body (law36_few : (Int × Int × (List Int) × (List (Int × Int × Unit)) × Int × Int × Bool × Bool × Unit) → (Bool → Option Bool) → Option Bool) (law36_known : (Bool → Option Bool) → Option Bool) (ref36_Defer : (Int × Int × (List Int) × (List (Int × Int × Unit)) × Int × Int × Bool × Bool × Unit) → (Int × Int × Unit) → (Int → Int → (List Int) → Int → Int → Bool → Bool → (List (Int × Int × Unit)) → Option Bool) → Option Bool) (frames_Get : (Int × Int × (List Int) × (List (Int × Int × Unit)) × Int × Int × Bool × Bool × Unit) → Int → (Int → Option Bool) → Option Bool) (ref36_Set : Int → Int → (List Int) → (List (Int × Int × Unit)) → Int → Int → Bool → Bool → Int → Int → (Int → Int → (List Int) → (List (Int × Int × Unit)) → Int → Int → Bool → Bool → Option Bool) → Option Bool) (frames_Next : (Int × Int × (List Int) × (List (Int × Int × Unit)) × Int × Int × Bool × Bool × Unit) → ((Int × Int × Unit) → (Int × Int × (List Int) × (List (Int × Int × Unit)) × Int × Int × Bool × Bool × Unit) → Bool → Option Bool) → Option Bool) (ref36_Next : (Int × Int × (List Int) × (List (Int × Int × Unit)) × Int × Int × Bool × Bool × Unit) → ((Int × Int × Unit) → (Int × Int × (List Int) × (List (Int × Int × Unit)) × Int × Int × Bool × Bool × Unit) → Bool → Option Bool) → Option Bool) (ref36_Get : (Int × Int × (List Int) × (List (Int × Int × Unit)) × Int × Int × Bool × Bool × Unit) → Int → (Int → Option Bool) → Option Bool) (frames_Set : (Int × Int × (List Int) × (List (Int × Int × Unit)) × Int × Int × Bool × Bool × Unit) → Int → Int → (Int → Int → Int → Int → Bool → Bool → (List Int) → (List (Int × Int × Unit)) → Option Bool) → Option Bool) (ref36_Setv1 : (Int × Int × (List Int) × (List (Int × Int × Unit)) × Int × Int × Bool × Bool × Unit) → Int → Int → ((Int × Int × (List Int) × (List (Int × Int × Unit)) × Int × Int × Bool × Bool × Unit) → Option Bool) → Option Bool) (ref36_Same : Int → Int → (List Int) → (List (Int × Int × Unit)) → Int → Int → Bool → Bool → (Int × Int × (List Int) × (List (Int × Int × Unit)) × Int × Int × Bool × Bool × Unit) → (Bool → Option Bool) → Option Bool) (frames_Defer : (Int × Int × (List Int) × (List (Int × Int × Unit)) × Int × Int × Bool × Bool × Unit) → (Int × Int × Unit) → (Int → Int → Int → Int → Bool → Bool → (List Int) → (List (Int × Int × Unit)) → Option Bool) → Option Bool) (ref36_Samev1 : Int → Int → (List Int) → (List (Int × Int × Unit)) → Int → Int → Bool → Bool → Int → Int → (List Int) → (List (Int × Int × Unit)) → Int → Int → Bool → Bool → (Bool → Option Bool) → Option Bool) (ref36_Samev2 : (Int × Int × (List Int) × (List (Int × Int × Unit)) × Int × Int × Bool × Bool × Unit) → (Int × Int × (List Int) × (List (Int × Int × Unit)) × Int × Int × Bool × Bool × Unit) → (Bool → Option Bool) → Option Bool) (frames_Pending : (List (Int × Int × (List Int) × (List (Int × Int × Unit)) × Int × Int × Bool × Bool × Unit)) → (Int → Option Bool) → Option Bool) (ref36_Pending : (List (Int × Int × (List Int) × (List (Int × Int × Unit)) × Int × Int × Bool × Bool × Unit)) → (Int → Option Bool) → Option Bool) (ref36_Samev3 : Int → Int → (List Int) → (List (Int × Int × Unit)) → Int → Int → Bool → Bool → (Int × Int × (List Int) × (List (Int × Int × Unit)) × Int × Int × Bool × Bool × Unit) → (Bool → Option Bool) → Option Bool) (law36_FramesTell_L0 : Int → Int → (Int × Int × (List Int) × (List (Int × Int × Unit)) × Int × Int × Bool × Bool × Unit) → (Int × Int × Unit) → Int → Int → (List Int) → (List (Int × Int × Unit)) → Int → Int → Bool → Bool → Int → Int → (List Int) → (List (Int × Int × Unit)) → Int → Int → Bool → Bool → (Bool → Option Bool) → ((Int × Int × (List Int) × (List (Int × Int × Unit)) × Int × Int × Bool × Bool × Unit) → (Int × Int × Unit) → Int → Int → (List Int) → (List (Int × Int × Unit)) → Int → Int → Bool → Bool → Int → Int → (List Int) → (List (Int × Int × Unit)) → Int → Int → Bool → Bool → Option Bool) → Option Bool) (t409 : Int × Int × (List Int) × (List (Int × Int × Unit)) × Int × Int × Bool × Bool × Unit) (n410 : Int) (n411 : Int) (t412 : Int × Int × Unit) (k1 : Bool → Option Bool) : Option Bool :=
  (law36_few t409
  (fun b413 => (cond_ (! b413) (law36_known
  (fun b414 => (k1 b414))) (ref36_Defer t409 t412
  (fun n415 n416 l417 n418 n419 b420 b421 ts422 => (frames_Get t409 n410
  (fun n423 => (ref36_Set n415 n416 l417 ts422 n418 n419 b420 b421 n410 n423
  (fun n424 n425 ns426 ts427 n428 n429 b430 b431 => (frames_Next t409
  (fun t432 t433 b434 => (ref36_Next t409
  (fun t435 t436 b437 => (frames_Get t409 n410
  (fun n438 => (ref36_Get t409 n410
  (fun n439 => (cond_ (! (n438 != n439)) (frames_Set t409 n410 n411
  (fun n440 n441 n442 n443 b444 b445 ns446 ts447 => (ref36_Setv1 t409 n410 n411
  (fun t448 => (ref36_Same n440 n441 ns446 ts447 n442 n443 b444 b445 t448
  (fun b449 => (cond_ (! (! b449)) (frames_Defer t409 t412
  (fun n450 n451 n452 n453 b454 b455 ns456 ts457 => (ref36_Defer t409 t412
  (fun n458 n459 l460 n461 n462 b463 b464 ts465 => (ref36_Samev1 n450 n451 ns456 ts457 n452 n453 b454 b455 n458 n459 l460 ts465 n461 n462 b463 b464
  (fun b466 => (cond_ (! (! b466)) (cond_ (! (! ((t432.1 == t435.1) && ((t432.2.1 == t435.2.1) && true)))) (cond_ (! (! (b434 == b437))) (ref36_Samev2 (t433.1, (t433.2.1, (t433.2.2.1, (t433.2.2.2.1, (t433.2.2.2.2.1, (t433.2.2.2.2.2.1, (t433.2.2.2.2.2.2.1, (t433.2.2.2.2.2.2.2.1, ())))))))) (t436.1, (t436.2.1, (t436.2.2.1, (t436.2.2.2.1, (t436.2.2.2.2.1, (t436.2.2.2.2.2.1, (t436.2.2.2.2.2.2.1, (t436.2.2.2.2.2.2.2.1, ()))))))))
  (fun b467 => (cond_ (! b467) (k1 false) (law36_FramesTell_L0 n410 (-1 : Int) t409 t412 n424 n425 ns426 ts427 n428 n429 b430 b431 t433.1 t433.2.1 t433.2.2.1 t433.2.2.2.1 t433.2.2.2.2.1 t433.2.2.2.2.2.1 t433.2.2.2.2.2.2.1 t433.2.2.2.2.2.2.2.1
  (fun b508 => (k1 b508))
  (fun t509 t510 n511 n512 ns513 ts514 n515 n516 b517 b518 n519 n520 l521 l522 n523 n524 b525 b526 => (frames_Pending [(t509.1, (t509.2.1, (t509.2.2.1, (t509.2.2.2.1, (t509.2.2.2.2.1, (t509.2.2.2.2.2.1, (t509.2.2.2.2.2.2.1, (t509.2.2.2.2.2.2.2.1, ())))))))), (n519, (n520, (l521, (l522, (n523, (n524, (b525, (b526, ()))))))))]
  (fun n533 => (ref36_Pending [(t509.1, (t509.2.1, (t509.2.2.1, (t509.2.2.2.1, (t509.2.2.2.2.1, (t509.2.2.2.2.2.1, (t509.2.2.2.2.2.2.1, (t509.2.2.2.2.2.2.2.1, ())))))))), (n519, (n520, (l521, (l522, (n523, (n524, (b525, (b526, ()))))))))]
  (fun n539 => (cond_ (n533 == n539) (ref36_Defer t509 t510
  (fun n540 n541 l542 n543 n544 b545 b546 ts547 => (ref36_Samev3 n540 n541 l542 ts547 n543 n544 b545 b546 (n511, (n512, (ns513, (ts514, (n515, (n516, (b517, (b518, ()))))))))
  (fun b569 => (cond_ b569 (law36_known
  (fun b570 => (k1 b570))) (k1 false)))))) (k1 false))))))))))) (k1 false)) (k1 false)) (k1 false)))))))) (k1 false)))))))) (k1 false)))))))))))))))))))
noncomputable def law36_FramesTell (t409 : Int × Int × (List Int) × (List (Int × Int × Unit)) × Int × Int × Bool × Bool × Unit) (n410 : Int) (n411 : Int) (t412 : Int × Int × Unit) (k1 : Bool → Option Bool) : Option Bool := law36_FramesTell.body law36_few law36_known ref36_Defer frames_Get ref36_Set frames_Next ref36_Next ref36_Get frames_Set ref36_Setv1 ref36_Same frames_Defer ref36_Samev1 ref36_Samev2 frames_Pending ref36_Pending ref36_Samev3 (law36_FramesTell_L0 ROUNDS) t409 n410 n411 t412 k1
noncomputable def law36_FramesTell.get (F : (Int × Int × (List Int) × (List (Int × Int × Unit)) × Int × Int × Bool × Bool × Unit) → Int → Int → (Int × Int × Unit) → (Bool → Option Bool) → Option Bool) (e : Option Bool) (g : FuncId) (a : List AV) (h : Heap) (k : KR) : Option Bool := match g, a, h with
  | 4, [(.d ⟨(.st [(.int .i64), (.int .i64), (.sl 2 (.int .i64)), (.sl 39 (.st [(.int .i64), (.int .i64)])), (.int .i64), (.int .i64), .bool, .bool]), t409⟩), (.d ⟨(.int .i64), n410⟩), (.d ⟨(.int .i64), n411⟩), (.d ⟨(.st [(.int .i64), (.int .i64)]), t412⟩)], [] => F t409 n410 n411 t412 (fun y0 => k (.d ⟨.bool, y0⟩) [])
  | _, _, _ => e
noncomputable def law36_FramesTell.calls (F0 : (Int × Int × (List Int) × (List (Int × Int × Unit)) × Int × Int × Bool × Bool × Unit) → (Bool → Option Bool) → Option Bool) (F1 : (Bool → Option Bool) → Option Bool) (F2 : (Int × Int × (List Int) × (List (Int × Int × Unit)) × Int × Int × Bool × Bool × Unit) → (Int × Int × Unit) → (Int → Int → (List Int) → Int → Int → Bool → Bool → (List (Int × Int × Unit)) → Option Bool) → Option Bool) (F3 : (Int × Int × (List Int) × (List (Int × Int × Unit)) × Int × Int × Bool × Bool × Unit) → Int → (Int → Option Bool) → Option Bool) (F4 : Int → Int → (List Int) → (List (Int × Int × Unit)) → Int → Int → Bool → Bool → Int → Int → (Int → Int → (List Int) → (List (Int × Int × Unit)) → Int → Int → Bool → Bool → Option Bool) → Option Bool) (F5 : (Int × Int × (List Int) × (List (Int × Int × Unit)) × Int × Int × Bool × Bool × Unit) → ((Int × Int × Unit) → (Int × Int × (List Int) × (List (Int × Int × Unit)) × Int × Int × Bool × Bool × Unit) → Bool → Option Bool) → Option Bool) (F6 : (Int × Int × (List Int) × (List (Int × Int × Unit)) × Int × Int × Bool × Bool × Unit) → ((Int × Int × Unit) → (Int × Int × (List Int) × (List (Int × Int × Unit)) × Int × Int × Bool × Bool × Unit) → Bool → Option Bool) → Option Bool) (F7 : (Int × Int × (List Int) × (List (Int × Int × Unit)) × Int × Int × Bool × Bool × Unit) → Int → (Int → Option Bool) → Option Bool) (F8 : (Int × Int × (List Int) × (List (Int × Int × Unit)) × Int × Int × Bool × Bool × Unit) → Int → Int → (Int → Int → Int → Int → Bool → Bool → (List Int) → (List (Int × Int × Unit)) → Option Bool) → Option Bool) (F9 : (Int × Int × (List Int) × (List (Int × Int × Unit)) × Int × Int × Bool × Bool × Unit) → Int → Int → ((Int × Int × (List Int) × (List (Int × Int × Unit)) × Int × Int × Bool × Bool × Unit) → Option Bool) → Option Bool) (F10 : Int → Int → (List Int) → (List (Int × Int × Unit)) → Int → Int → Bool → Bool → (Int × Int × (List Int) × (List (Int × Int × Unit)) × Int × Int × Bool × Bool × Unit) → (Bool → Option Bool) → Option Bool) (F11 : (Int × Int × (List Int) × (List (Int × Int × Unit)) × Int × Int × Bool × Bool × Unit) → (Int × Int × Unit) → (Int → Int → Int → Int → Bool → Bool → (List Int) → (List (Int × Int × Unit)) → Option Bool) → Option Bool) (F12 : Int → Int → (List Int) → (List (Int × Int × Unit)) → Int → Int → Bool → Bool → Int → Int → (List Int) → (List (Int × Int × Unit)) → Int → Int → Bool → Bool → (Bool → Option Bool) → Option Bool) (F13 : (Int × Int × (List Int) × (List (Int × Int × Unit)) × Int × Int × Bool × Bool × Unit) → (Int × Int × (List Int) × (List (Int × Int × Unit)) × Int × Int × Bool × Bool × Unit) → (Bool → Option Bool) → Option Bool) (F14 : (List (Int × Int × (List Int) × (List (Int × Int × Unit)) × Int × Int × Bool × Bool × Unit)) → (Int → Option Bool) → Option Bool) (F15 : (List (Int × Int × (List Int) × (List (Int × Int × Unit)) × Int × Int × Bool × Bool × Unit)) → (Int → Option Bool) → Option Bool) (F16 : Int → Int → (List Int) → (List (Int × Int × Unit)) → Int → Int → Bool → Bool → (Int × Int × (List Int) × (List (Int × Int × Unit)) × Int × Int × Bool × Bool × Unit) → (Bool → Option Bool) → Option Bool) : RecF := fun g a h k => (law36_few.get F0 (law36_known.get F1 (ref36_Defer.get F2 (frames_Get.get F3 (ref36_Set.get F4 (frames_Next.get F5 (ref36_Next.get F6 (ref36_Get.get F7 (frames_Set.get F8 (ref36_Setv1.get F9 (ref36_Same.get F10 (frames_Defer.get F11 (ref36_Samev1.get F12 (ref36_Samev2.get F13 (frames_Pending.get F14 (ref36_Pending.get F15 (ref36_Samev3.get F16 none g a h k) g a h k) g a h k) g a h k) g a h k) g a h k) g a h k) g a h k) g a h k) g a h k) g a h k) g a h k) g a h k) g a h k) g a h k) g a h k) g a h k)
noncomputable def law36_FramesTell.loops (L0 : Int → Int → (Int × Int × (List Int) × (List (Int × Int × Unit)) × Int × Int × Bool × Bool × Unit) → (Int × Int × Unit) → Int → Int → (List Int) → (List (Int × Int × Unit)) → Int → Int → Bool → Bool → Int → Int → (List Int) → (List (Int × Int × Unit)) → Int → Int → Bool → Bool → (Bool → Option Bool) → ((Int × Int × (List Int) × (List (Int × Int × Unit)) × Int × Int × Bool × Bool × Unit) → (Int × Int × Unit) → Int → Int → (List Int) → (List (Int × Int × Unit)) → Int → Int → Bool → Bool → Int → Int → (List Int) → (List (Int × Int × Unit)) → Int → Int → Bool → Bool → Option Bool) → Option Bool) : LoopF := fun b => match Nat.beq b 0 with | true => some (fun st k => (law36_FramesTell_L0.get L0 none st k)) | false => none
set_option maxRecDepth 100000 in
theorem law36_FramesTell.eq (F0 : (Int × Int × (List Int) × (List (Int × Int × Unit)) × Int × Int × Bool × Bool × Unit) → (Bool → Option Bool) → Option Bool) (F1 : (Bool → Option Bool) → Option Bool) (F2 : (Int × Int × (List Int) × (List (Int × Int × Unit)) × Int × Int × Bool × Bool × Unit) → (Int × Int × Unit) → (Int → Int → (List Int) → Int → Int → Bool → Bool → (List (Int × Int × Unit)) → Option Bool) → Option Bool) (F3 : (Int × Int × (List Int) × (List (Int × Int × Unit)) × Int × Int × Bool × Bool × Unit) → Int → (Int → Option Bool) → Option Bool) (F4 : Int → Int → (List Int) → (List (Int × Int × Unit)) → Int → Int → Bool → Bool → Int → Int → (Int → Int → (List Int) → (List (Int × Int × Unit)) → Int → Int → Bool → Bool → Option Bool) → Option Bool) (F5 : (Int × Int × (List Int) × (List (Int × Int × Unit)) × Int × Int × Bool × Bool × Unit) → ((Int × Int × Unit) → (Int × Int × (List Int) × (List (Int × Int × Unit)) × Int × Int × Bool × Bool × Unit) → Bool → Option Bool) → Option Bool) (F6 : (Int × Int × (List Int) × (List (Int × Int × Unit)) × Int × Int × Bool × Bool × Unit) → ((Int × Int × Unit) → (Int × Int × (List Int) × (List (Int × Int × Unit)) × Int × Int × Bool × Bool × Unit) → Bool → Option Bool) → Option Bool) (F7 : (Int × Int × (List Int) × (List (Int × Int × Unit)) × Int × Int × Bool × Bool × Unit) → Int → (Int → Option Bool) → Option Bool) (F8 : (Int × Int × (List Int) × (List (Int × Int × Unit)) × Int × Int × Bool × Bool × Unit) → Int → Int → (Int → Int → Int → Int → Bool → Bool → (List Int) → (List (Int × Int × Unit)) → Option Bool) → Option Bool) (F9 : (Int × Int × (List Int) × (List (Int × Int × Unit)) × Int × Int × Bool × Bool × Unit) → Int → Int → ((Int × Int × (List Int) × (List (Int × Int × Unit)) × Int × Int × Bool × Bool × Unit) → Option Bool) → Option Bool) (F10 : Int → Int → (List Int) → (List (Int × Int × Unit)) → Int → Int → Bool → Bool → (Int × Int × (List Int) × (List (Int × Int × Unit)) × Int × Int × Bool × Bool × Unit) → (Bool → Option Bool) → Option Bool) (F11 : (Int × Int × (List Int) × (List (Int × Int × Unit)) × Int × Int × Bool × Bool × Unit) → (Int × Int × Unit) → (Int → Int → Int → Int → Bool → Bool → (List Int) → (List (Int × Int × Unit)) → Option Bool) → Option Bool) (F12 : Int → Int → (List Int) → (List (Int × Int × Unit)) → Int → Int → Bool → Bool → Int → Int → (List Int) → (List (Int × Int × Unit)) → Int → Int → Bool → Bool → (Bool → Option Bool) → Option Bool) (F13 : (Int × Int × (List Int) × (List (Int × Int × Unit)) × Int × Int × Bool × Bool × Unit) → (Int × Int × (List Int) × (List (Int × Int × Unit)) × Int × Int × Bool × Bool × Unit) → (Bool → Option Bool) → Option Bool) (F14 : (List (Int × Int × (List Int) × (List (Int × Int × Unit)) × Int × Int × Bool × Bool × Unit)) → (Int → Option Bool) → Option Bool) (F15 : (List (Int × Int × (List Int) × (List (Int × Int × Unit)) × Int × Int × Bool × Bool × Unit)) → (Int → Option Bool) → Option Bool) (F16 : Int → Int → (List Int) → (List (Int × Int × Unit)) → Int → Int → Bool → Bool → (Int × Int × (List Int) × (List (Int × Int × Unit)) × Int × Int × Bool × Bool × Unit) → (Bool → Option Bool) → Option Bool) (L0 : Int → Int → (Int × Int × (List Int) × (List (Int × Int × Unit)) × Int × Int × Bool × Bool × Unit) → (Int × Int × Unit) → Int → Int → (List Int) → (List (Int × Int × Unit)) → Int → Int → Bool → Bool → Int → Int → (List Int) → (List (Int × Int × Unit)) → Int → Int → Bool → Bool → (Bool → Option Bool) → ((Int × Int × (List Int) × (List (Int × Int × Unit)) × Int × Int × Bool × Bool × Unit) → (Int × Int × Unit) → Int → Int → (List Int) → (List (Int × Int × Unit)) → Int → Int → Bool → Bool → Int → Int → (List Int) → (List (Int × Int × Unit)) → Int → Int → Bool → Bool → Option Bool) → Option Bool) (t409 : Int × Int × (List Int) × (List (Int × Int × Unit)) × Int × Int × Bool × Bool × Unit) (n410 : Int) (n411 : Int) (t412 : Int × Int × Unit) (k : KR) : execL Try.prog ht 4 (callfOf (law36_FramesTell.calls F0 F1 F2 F3 F4 F5 F6 F7 F8 F9 F10 F11 F12 F13 F14 F15 F16)) (law36_FramesTell.loops L0) 0 (codeOf Try.f4) ⟨[(.d ⟨(.st [(.int .i64), (.int .i64), (.sl 2 (.int .i64)), (.sl 39 (.st [(.int .i64), (.int .i64)])), (.int .i64), (.int .i64), .bool, .bool]), t409⟩), (.d ⟨(.int .i64), n410⟩), (.d ⟨(.int .i64), n411⟩), (.d ⟨(.st [(.int .i64), (.int .i64)]), t412⟩)] ++ List.replicate (Try.f4.ntmps - ([(.d ⟨(.st [(.int .i64), (.int .i64), (.sl 2 (.int .i64)), (.sl 39 (.st [(.int .i64), (.int .i64)])), (.int .i64), (.int .i64), .bool, .bool]), t409⟩), (.d ⟨(.int .i64), n410⟩), (.d ⟨(.int .i64), n411⟩), (.d ⟨(.st [(.int .i64), (.int .i64)]), t412⟩)] : List AV).length) .undef, [], 2⟩ (leave Try.prog Try.f4 k) = law36_FramesTell.body F0 F1 F2 F3 F4 F5 F6 F7 F8 F9 F10 F11 F12 F13 F14 F15 F16 L0 t409 n410 n411 t412 (fun y0 => k (.d ⟨.bool, y0⟩) []) := by kernel_rfl
theorem law36_FramesTell.ok (d : Nat) (hd : 61 ≤ d) (t409 : Int × Int × (List Int) × (List (Int × Int × Unit)) × Int × Int × Bool × Bool × Unit) (n410 : Int) (n411 : Int) (t412 : Int × Int × Unit) (k : KR) (hx : law36_FramesTell t409 n410 n411 t412 (fun y0 => k (.d ⟨.bool, y0⟩) []) = some true) : callK Try.prog ht d 4 [(.d ⟨(.st [(.int .i64), (.int .i64), (.sl 2 (.int .i64)), (.sl 39 (.st [(.int .i64), (.int .i64)])), (.int .i64), (.int .i64), .bool, .bool]), t409⟩), (.d ⟨(.int .i64), n410⟩), (.d ⟨(.int .i64), n411⟩), (.d ⟨(.st [(.int .i64), (.int .i64)]), t412⟩)] [] k = some true := by
  obtain ⟨d, rfl⟩ : ∃ e, d = e + 1 := ⟨d - 1, by omega⟩
  exact fn_ok (c := codeOf Try.f4) Try.func4 (by kernel_rfl) (rec := law36_FramesTell.calls law36_few law36_known ref36_Defer frames_Get ref36_Set frames_Next ref36_Next ref36_Get frames_Set ref36_Setv1 ref36_Same frames_Defer ref36_Samev1 ref36_Samev2 frames_Pending ref36_Pending ref36_Samev3) (fun g a h k hx => by
    rcases law36_few.look d (by omega) hx with hx | hx
    rotate_left
    · exact hx
    rcases law36_known.look d (by omega) hx with hx | hx
    rotate_left
    · exact hx
    rcases ref36_Defer.look d (by omega) hx with hx | hx
    rotate_left
    · exact hx
    rcases frames_Get.look d (by omega) hx with hx | hx
    rotate_left
    · exact hx
    rcases ref36_Set.look d (by omega) hx with hx | hx
    rotate_left
    · exact hx
    rcases frames_Next.look d (by omega) hx with hx | hx
    rotate_left
    · exact hx
    rcases ref36_Next.look d (by omega) hx with hx | hx
    rotate_left
    · exact hx
    rcases ref36_Get.look d (by omega) hx with hx | hx
    rotate_left
    · exact hx
    rcases frames_Set.look d (by omega) hx with hx | hx
    rotate_left
    · exact hx
    rcases ref36_Setv1.look d (by omega) hx with hx | hx
    rotate_left
    · exact hx
    rcases ref36_Same.look d (by omega) hx with hx | hx
    rotate_left
    · exact hx
    rcases frames_Defer.look d (by omega) hx with hx | hx
    rotate_left
    · exact hx
    rcases ref36_Samev1.look d (by omega) hx with hx | hx
    rotate_left
    · exact hx
    rcases ref36_Samev2.look d (by omega) hx with hx | hx
    rotate_left
    · exact hx
    rcases frames_Pending.look d (by omega) hx with hx | hx
    rotate_left
    · exact hx
    rcases ref36_Pending.look d (by omega) hx with hx | hx
    rotate_left
    · exact hx
    rcases ref36_Samev3.look d (by omega) hx with hx | hx
    rotate_left
    · exact hx
    cases hx) (loopf := law36_FramesTell.loops (law36_FramesTell_L0 ROUNDS)) (by
    have e : loopsOf (law36_FramesTell.loops (law36_FramesTell_L0 ROUNDS)) 0 (codeOf Try.f4) = [(0, loopAt 0 (codeOf Try.f4))] := by kernel_rfl
    rw [e]
    intro p hp
    simp only [List.mem_cons, List.not_mem_nil, or_false] at hp
    rcases hp with rfl
    · refine loopRef_of (callf := callfOf (callK Try.prog ht d)) (callfOf_ref (callK_mono d)) fun lf st k hb hx => ?_
      cases hb
      rcases law36_FramesTell_L0.look hx with hx | hx
      rotate_left
      · exact law36_FramesTell_L0.ok d (by omega) _ _ _ hx
      cases hx) ((law36_FramesTell.eq law36_few law36_known ref36_Defer frames_Get ref36_Set frames_Next ref36_Next ref36_Get frames_Set ref36_Setv1 ref36_Same frames_Defer ref36_Samev1 ref36_Samev2 frames_Pending ref36_Pending ref36_Samev3 (law36_FramesTell_L0 ROUNDS) t409 n410 n411 t412 k).trans hx)
theorem law36_FramesTell.look (d : Nat) (hd : 61 ≤ d) {e : Option Bool} {g : FuncId} {a : List AV} {h : Heap} {k : KR} (hx : law36_FramesTell.get law36_FramesTell e g a h k = some true) : e = some true ∨ callK Try.prog ht d g a h k = some true := by
  unfold law36_FramesTell.get at hx
  split at hx
  · exact .inr (law36_FramesTell.ok d hd _ _ _ _ _ hx)
  · exact .inl hx
end Go.Proofs.Ytbbpdfogfcffbaa.gB
