/- What the functions come to that GA reaches, as plain functions; written by a program of this work, each told by Lean. -/
import Derived.Test.YtbbpdfogfcffbaaA3
import Derived.Test.YtbbpdfogfcffbaaChecked
namespace Go.Proofs.Ytbbpdfogfcffbaa.gA
open Go.AX
set_option linter.unusedVariables false
set_option maxRecDepth 100000
set_option maxHeartbeats 4000000
def ht : Hints := hintsOf [(9, [(0, ⟨[2, 3, 5], []⟩), (2000000, ⟨[4], []⟩), (1000000, ⟨[], []⟩)]),
  (21, [(0, ⟨[0, 1, 5], []⟩), (2000000, ⟨[4], []⟩), (1000000, ⟨[], []⟩)])]
/-- function 12: sheerleg/sheerleglaw36.few -/
noncomputable def law36_few.body (t3 : Int × Int × (List Int) × (List (Int × Int × Unit)) × Int × Int × Bool × Bool × Unit) (k1 : Bool → Option Bool) : Option Bool :=
  (cond_ (decide ((((List.length t3.2.2.1) : Nat) : Int) ≤ (60 : Int))) (k1 (decide ((((List.length t3.2.2.2.1) : Nat) : Int) ≤ (60 : Int)))) (k1 false))
noncomputable def law36_few (t3 : Int × Int × (List Int) × (List (Int × Int × Unit)) × Int × Int × Bool × Bool × Unit) (k1 : Bool → Option Bool) : Option Bool := law36_few.body t3 k1
noncomputable def law36_few.get (F : (Int × Int × (List Int) × (List (Int × Int × Unit)) × Int × Int × Bool × Bool × Unit) → (Bool → Option Bool) → Option Bool) (e : Option Bool) (g : FuncId) (a : List AV) (h : Heap) (k : KR) : Option Bool := match g, a, h with
  | 12, [(.d ⟨(.st [(.int .i64), (.int .i64), (.sl 2 (.int .i64)), (.sl 39 (.st [(.int .i64), (.int .i64)])), (.int .i64), (.int .i64), .bool, .bool]), t3⟩)], [] => F t3 (fun y0 => k (.d ⟨.bool, y0⟩) [])
  | _, _, _ => e
noncomputable def law36_few.calls : RecF := fun g a h k => none
noncomputable def law36_few.loops : LoopF := fun b => none
set_option maxRecDepth 100000 in
theorem law36_few.eq (t3 : Int × Int × (List Int) × (List (Int × Int × Unit)) × Int × Int × Bool × Bool × Unit) (k : KR) : execL Try.prog ht 12 (callfOf (law36_few.calls)) (law36_few.loops) 0 (codeOf Try.f12) ⟨[(.d ⟨(.st [(.int .i64), (.int .i64), (.sl 2 (.int .i64)), (.sl 39 (.st [(.int .i64), (.int .i64)])), (.int .i64), (.int .i64), .bool, .bool]), t3⟩)] ++ List.replicate (Try.f12.ntmps - ([(.d ⟨(.st [(.int .i64), (.int .i64), (.sl 2 (.int .i64)), (.sl 39 (.st [(.int .i64), (.int .i64)])), (.int .i64), (.int .i64), .bool, .bool]), t3⟩)] : List AV).length) .undef, [], 2⟩ (leave Try.prog Try.f12 k) = law36_few.body t3 (fun y0 => k (.d ⟨.bool, y0⟩) []) := by kernel_rfl
theorem law36_few.ok (d : Nat) (hd : 1 ≤ d) (t3 : Int × Int × (List Int) × (List (Int × Int × Unit)) × Int × Int × Bool × Bool × Unit) (k : KR) (hx : law36_few t3 (fun y0 => k (.d ⟨.bool, y0⟩) []) = some true) : callK Try.prog ht d 12 [(.d ⟨(.st [(.int .i64), (.int .i64), (.sl 2 (.int .i64)), (.sl 39 (.st [(.int .i64), (.int .i64)])), (.int .i64), (.int .i64), .bool, .bool]), t3⟩)] [] k = some true := by
  obtain ⟨d, rfl⟩ : ∃ e, d = e + 1 := ⟨d - 1, by omega⟩
  exact fn_ok (c := codeOf Try.f12) Try.func12 (by kernel_rfl) (rec := law36_few.calls) (fun g a h k hx => by
    cases hx) (loopf := law36_few.loops) (by
    have e : loopsOf (law36_few.loops) 0 (codeOf Try.f12) = [] := by kernel_rfl
    rw [e]
    intro p hp
    cases hp) ((law36_few.eq t3 k).trans hx)
theorem law36_few.look (d : Nat) (hd : 1 ≤ d) {e : Option Bool} {g : FuncId} {a : List AV} {h : Heap} {k : KR} (hx : law36_few.get law36_few e g a h k = some true) : e = some true ∨ callK Try.prog ht d g a h k = some true := by
  unfold law36_few.get at hx
  split at hx
  · exact .inr (law36_few.ok d hd _ _ hx)
  · exact .inl hx
/-- function 8: sheerleg/sheerleglaw36.known, all of it at once -/
def law36_known (k1 : Bool → Option Bool) : Option Bool := k1 true
def law36_known.get (F : (Bool → Option Bool) → Option Bool) (e : Option Bool) (g : FuncId) (a : List AV) (h : Heap) (k : KR) : Option Bool := match g, a, h with
  | 8, [], [] => F (fun y => k (.d ⟨.bool, y⟩) [])
  | _, _, _ => e
set_option maxRecDepth 100000 in
theorem law36_known.all (k : KR) : callK Try.prog ht 60 8 [] [] k = k (.d ⟨.bool, true⟩) [] := by kernel_rfl
theorem law36_known.look (d : Nat) (hd : 60 ≤ d) {e : Option Bool} {g : FuncId} {a : List AV} {h : Heap} {k : KR} (hx : law36_known.get law36_known e g a h k = some true) : e = some true ∨ callK Try.prog ht d g a h k = some true := by
  unfold law36_known.get at hx
  split at hx
  · exact .inr (callK_le hd _ _ _ _ _ (fun _ _ h => h) ((law36_known.all _).trans hx))
  · exact .inl hx
/-- function 31: slices.Clone[[]int64,int64] -/
noncomputable def slices_Clone_int64_int64.body (ns9 : List Int) (k1 : (List Int) → Option Bool) : Option Bool :=
  (cond_ (List.isEmpty ns9) (meet (k1 []) (cond_ (Nat.ble (((0 : Nat) + (List.length ns9)) * (8 : Nat)) (140737488355328 : Nat)) (k1 ([] ++ ns9)) none)) (cond_ (Nat.ble (((0 : Nat) + (List.length ns9)) * (8 : Nat)) (140737488355328 : Nat)) (k1 ([] ++ ns9)) none))
noncomputable def slices_Clone_int64_int64 (ns9 : List Int) (k1 : (List Int) → Option Bool) : Option Bool := slices_Clone_int64_int64.body ns9 k1
noncomputable def slices_Clone_int64_int64.get (F : (List Int) → ((List Int) → Option Bool) → Option Bool) (e : Option Bool) (g : FuncId) (a : List AV) (h : Heap) (k : KR) : Option Bool := match g, a, h with
  | 31, [(.bv 0 2 (.int .i64) ns9)], [] => F ns9 (fun y0 => k (.ref [1, 0]) [([1, 0], ⟨2, 1, (.data (.int .i64) y0)⟩)])
  | _, _, _ => e
noncomputable def slices_Clone_int64_int64.calls : RecF := fun g a h k => none
noncomputable def slices_Clone_int64_int64.loops : LoopF := fun b => none
set_option maxRecDepth 100000 in
theorem slices_Clone_int64_int64.eq (ns9 : List Int) (k : KR) : execL Try.prog ht 31 (callfOf (slices_Clone_int64_int64.calls)) (slices_Clone_int64_int64.loops) 0 (codeOf Try.f31) ⟨[(.bv 0 2 (.int .i64) ns9)] ++ List.replicate (Try.f31.ntmps - ([(.bv 0 2 (.int .i64) ns9)] : List AV).length) .undef, [], 2⟩ (leave Try.prog Try.f31 k) = slices_Clone_int64_int64.body ns9 (fun y0 => k (.ref [1, 0]) [([1, 0], ⟨2, 1, (.data (.int .i64) y0)⟩)]) := by kernel_rfl
theorem slices_Clone_int64_int64.ok (d : Nat) (hd : 1 ≤ d) (ns9 : List Int) (k : KR) (hx : slices_Clone_int64_int64 ns9 (fun y0 => k (.ref [1, 0]) [([1, 0], ⟨2, 1, (.data (.int .i64) y0)⟩)]) = some true) : callK Try.prog ht d 31 [(.bv 0 2 (.int .i64) ns9)] [] k = some true := by
  obtain ⟨d, rfl⟩ : ∃ e, d = e + 1 := ⟨d - 1, by omega⟩
  exact fn_ok (c := codeOf Try.f31) Try.func31 (by kernel_rfl) (rec := slices_Clone_int64_int64.calls) (fun g a h k hx => by
    cases hx) (loopf := slices_Clone_int64_int64.loops) (by
    have e : loopsOf (slices_Clone_int64_int64.loops) 0 (codeOf Try.f31) = [] := by kernel_rfl
    rw [e]
    intro p hp
    cases hp) ((slices_Clone_int64_int64.eq ns9 k).trans hx)
theorem slices_Clone_int64_int64.look (d : Nat) (hd : 1 ≤ d) {e : Option Bool} {g : FuncId} {a : List AV} {h : Heap} {k : KR} (hx : slices_Clone_int64_int64.get slices_Clone_int64_int64 e g a h k = some true) : e = some true ∨ callK Try.prog ht d g a h k = some true := by
  unfold slices_Clone_int64_int64.get at hx
  split at hx
  · exact .inr (slices_Clone_int64_int64.ok d hd _ _ hx)
  · exact .inl hx
/-- function 32: slices.Clone[[]sheerleg/api.Pend,sheerleg/api.Pend] -/
noncomputable def slices_Clone_api_Pend_api_Pend.body (ts11 : List (Int × Int × Unit)) (k1 : (List (Int × Int × Unit)) → Option Bool) : Option Bool :=
  (cond_ (List.isEmpty ts11) (meet (k1 []) (cond_ (Nat.ble (((0 : Nat) + (List.length ts11)) * (16 : Nat)) (140737488355328 : Nat)) (k1 ([] ++ ts11)) none)) (cond_ (Nat.ble (((0 : Nat) + (List.length ts11)) * (16 : Nat)) (140737488355328 : Nat)) (k1 ([] ++ ts11)) none))
noncomputable def slices_Clone_api_Pend_api_Pend (ts11 : List (Int × Int × Unit)) (k1 : (List (Int × Int × Unit)) → Option Bool) : Option Bool := slices_Clone_api_Pend_api_Pend.body ts11 k1
noncomputable def slices_Clone_api_Pend_api_Pend.get (F : (List (Int × Int × Unit)) → ((List (Int × Int × Unit)) → Option Bool) → Option Bool) (e : Option Bool) (g : FuncId) (a : List AV) (h : Heap) (k : KR) : Option Bool := match g, a, h with
  | 32, [(.bv 0 39 (.st [(.int .i64), (.int .i64)]) ts11)], [] => F ts11 (fun y0 => k (.ref [1, 0]) [([1, 0], ⟨39, 2, (.data (.st [(.int .i64), (.int .i64)]) y0)⟩)])
  | _, _, _ => e
noncomputable def slices_Clone_api_Pend_api_Pend.calls : RecF := fun g a h k => none
noncomputable def slices_Clone_api_Pend_api_Pend.loops : LoopF := fun b => none
set_option maxRecDepth 100000 in
theorem slices_Clone_api_Pend_api_Pend.eq (ts11 : List (Int × Int × Unit)) (k : KR) : execL Try.prog ht 32 (callfOf (slices_Clone_api_Pend_api_Pend.calls)) (slices_Clone_api_Pend_api_Pend.loops) 0 (codeOf Try.f32) ⟨[(.bv 0 39 (.st [(.int .i64), (.int .i64)]) ts11)] ++ List.replicate (Try.f32.ntmps - ([(.bv 0 39 (.st [(.int .i64), (.int .i64)]) ts11)] : List AV).length) .undef, [], 2⟩ (leave Try.prog Try.f32 k) = slices_Clone_api_Pend_api_Pend.body ts11 (fun y0 => k (.ref [1, 0]) [([1, 0], ⟨39, 2, (.data (.st [(.int .i64), (.int .i64)]) y0)⟩)]) := by kernel_rfl
theorem slices_Clone_api_Pend_api_Pend.ok (d : Nat) (hd : 1 ≤ d) (ts11 : List (Int × Int × Unit)) (k : KR) (hx : slices_Clone_api_Pend_api_Pend ts11 (fun y0 => k (.ref [1, 0]) [([1, 0], ⟨39, 2, (.data (.st [(.int .i64), (.int .i64)]) y0)⟩)]) = some true) : callK Try.prog ht d 32 [(.bv 0 39 (.st [(.int .i64), (.int .i64)]) ts11)] [] k = some true := by
  obtain ⟨d, rfl⟩ : ∃ e, d = e + 1 := ⟨d - 1, by omega⟩
  exact fn_ok (c := codeOf Try.f32) Try.func32 (by kernel_rfl) (rec := slices_Clone_api_Pend_api_Pend.calls) (fun g a h k hx => by
    cases hx) (loopf := slices_Clone_api_Pend_api_Pend.loops) (by
    have e : loopsOf (slices_Clone_api_Pend_api_Pend.loops) 0 (codeOf Try.f32) = [] := by kernel_rfl
    rw [e]
    intro p hp
    cases hp) ((slices_Clone_api_Pend_api_Pend.eq ts11 k).trans hx)
theorem slices_Clone_api_Pend_api_Pend.look (d : Nat) (hd : 1 ≤ d) {e : Option Bool} {g : FuncId} {a : List AV} {h : Heap} {k : KR} (hx : slices_Clone_api_Pend_api_Pend.get slices_Clone_api_Pend_api_Pend e g a h k = some true) : e = some true ∨ callK Try.prog ht d g a h k = some true := by
  unfold slices_Clone_api_Pend_api_Pend.get at hx
  split at hx
  · exact .inr (slices_Clone_api_Pend_api_Pend.ok d hd _ _ hx)
  · exact .inl hx
/-- function 28: sheerleg/frames.own -/
noncomputable def frames_own.body (slices_Clone_int64_int64 : (List Int) → ((List Int) → Option Bool) → Option Bool) (slices_Clone_api_Pend_api_Pend : (List (Int × Int × Unit)) → ((List (Int × Int × Unit)) → Option Bool) → Option Bool) (t8 : Int × Int × (List Int) × (List (Int × Int × Unit)) × Int × Int × Bool × Bool × Unit) (k1 : Int → Int → Int → Int → Bool → Bool → (List Int) → (List (Int × Int × Unit)) → Option Bool) : Option Bool :=
  (slices_Clone_int64_int64 t8.2.2.1
  (fun ns10 => (slices_Clone_api_Pend_api_Pend t8.2.2.2.1
  (fun ts12 => (k1 t8.1 t8.2.1 t8.2.2.2.2.1 t8.2.2.2.2.2.1 t8.2.2.2.2.2.2.1 t8.2.2.2.2.2.2.2.1 ns10 ts12)))))
noncomputable def frames_own (t8 : Int × Int × (List Int) × (List (Int × Int × Unit)) × Int × Int × Bool × Bool × Unit) (k1 : Int → Int → Int → Int → Bool → Bool → (List Int) → (List (Int × Int × Unit)) → Option Bool) : Option Bool := frames_own.body slices_Clone_int64_int64 slices_Clone_api_Pend_api_Pend t8 k1
noncomputable def frames_own.get (F : (Int × Int × (List Int) × (List (Int × Int × Unit)) × Int × Int × Bool × Bool × Unit) → (Int → Int → Int → Int → Bool → Bool → (List Int) → (List (Int × Int × Unit)) → Option Bool) → Option Bool) (e : Option Bool) (g : FuncId) (a : List AV) (h : Heap) (k : KR) : Option Bool := match g, a, h with
  | 28, [(.d ⟨(.st [(.int .i64), (.int .i64), (.sl 2 (.int .i64)), (.sl 39 (.st [(.int .i64), (.int .i64)])), (.int .i64), (.int .i64), .bool, .bool]), t8⟩)], [] => F t8 (fun y0 y1 y2 y3 y4 y5 y6 y7 => k (.agg [(.d ⟨(.int .i64), y0⟩), (.d ⟨(.int .i64), y1⟩), (.ref [1, 0]), (.ref [1, 1]), (.d ⟨(.int .i64), y2⟩), (.d ⟨(.int .i64), y3⟩), (.d ⟨.bool, y4⟩), (.d ⟨.bool, y5⟩)]) [([1, 0], ⟨2, 1, (.data (.int .i64) y6)⟩), ([1, 1], ⟨39, 2, (.data (.st [(.int .i64), (.int .i64)]) y7)⟩)])
  | _, _, _ => e
noncomputable def frames_own.calls (F0 : (List Int) → ((List Int) → Option Bool) → Option Bool) (F1 : (List (Int × Int × Unit)) → ((List (Int × Int × Unit)) → Option Bool) → Option Bool) : RecF := fun g a h k => (slices_Clone_int64_int64.get F0 (slices_Clone_api_Pend_api_Pend.get F1 none g a h k) g a h k)
noncomputable def frames_own.loops : LoopF := fun b => none
set_option maxRecDepth 100000 in
theorem frames_own.eq (F0 : (List Int) → ((List Int) → Option Bool) → Option Bool) (F1 : (List (Int × Int × Unit)) → ((List (Int × Int × Unit)) → Option Bool) → Option Bool) (t8 : Int × Int × (List Int) × (List (Int × Int × Unit)) × Int × Int × Bool × Bool × Unit) (k : KR) : execL Try.prog ht 28 (callfOf (frames_own.calls F0 F1)) (frames_own.loops) 0 (codeOf Try.f28) ⟨[(.d ⟨(.st [(.int .i64), (.int .i64), (.sl 2 (.int .i64)), (.sl 39 (.st [(.int .i64), (.int .i64)])), (.int .i64), (.int .i64), .bool, .bool]), t8⟩)] ++ List.replicate (Try.f28.ntmps - ([(.d ⟨(.st [(.int .i64), (.int .i64), (.sl 2 (.int .i64)), (.sl 39 (.st [(.int .i64), (.int .i64)])), (.int .i64), (.int .i64), .bool, .bool]), t8⟩)] : List AV).length) .undef, [], 2⟩ (leave Try.prog Try.f28 k) = frames_own.body F0 F1 t8 (fun y0 y1 y2 y3 y4 y5 y6 y7 => k (.agg [(.d ⟨(.int .i64), y0⟩), (.d ⟨(.int .i64), y1⟩), (.ref [1, 0]), (.ref [1, 1]), (.d ⟨(.int .i64), y2⟩), (.d ⟨(.int .i64), y3⟩), (.d ⟨.bool, y4⟩), (.d ⟨.bool, y5⟩)]) [([1, 0], ⟨2, 1, (.data (.int .i64) y6)⟩), ([1, 1], ⟨39, 2, (.data (.st [(.int .i64), (.int .i64)]) y7)⟩)]) := by kernel_rfl
theorem frames_own.ok (d : Nat) (hd : 2 ≤ d) (t8 : Int × Int × (List Int) × (List (Int × Int × Unit)) × Int × Int × Bool × Bool × Unit) (k : KR) (hx : frames_own t8 (fun y0 y1 y2 y3 y4 y5 y6 y7 => k (.agg [(.d ⟨(.int .i64), y0⟩), (.d ⟨(.int .i64), y1⟩), (.ref [1, 0]), (.ref [1, 1]), (.d ⟨(.int .i64), y2⟩), (.d ⟨(.int .i64), y3⟩), (.d ⟨.bool, y4⟩), (.d ⟨.bool, y5⟩)]) [([1, 0], ⟨2, 1, (.data (.int .i64) y6)⟩), ([1, 1], ⟨39, 2, (.data (.st [(.int .i64), (.int .i64)]) y7)⟩)]) = some true) : callK Try.prog ht d 28 [(.d ⟨(.st [(.int .i64), (.int .i64), (.sl 2 (.int .i64)), (.sl 39 (.st [(.int .i64), (.int .i64)])), (.int .i64), (.int .i64), .bool, .bool]), t8⟩)] [] k = some true := by
  obtain ⟨d, rfl⟩ : ∃ e, d = e + 1 := ⟨d - 1, by omega⟩
  exact fn_ok (c := codeOf Try.f28) Try.func28 (by kernel_rfl) (rec := frames_own.calls slices_Clone_int64_int64 slices_Clone_api_Pend_api_Pend) (fun g a h k hx => by
    rcases slices_Clone_int64_int64.look d (by omega) hx with hx | hx
    rotate_left
    · exact hx
    rcases slices_Clone_api_Pend_api_Pend.look d (by omega) hx with hx | hx
    rotate_left
    · exact hx
    cases hx) (loopf := frames_own.loops) (by
    have e : loopsOf (frames_own.loops) 0 (codeOf Try.f28) = [] := by kernel_rfl
    rw [e]
    intro p hp
    cases hp) ((frames_own.eq slices_Clone_int64_int64 slices_Clone_api_Pend_api_Pend t8 k).trans hx)
theorem frames_own.look (d : Nat) (hd : 2 ≤ d) {e : Option Bool} {g : FuncId} {a : List AV} {h : Heap} {k : KR} (hx : frames_own.get frames_own e g a h k = some true) : e = some true ∨ callK Try.prog ht d g a h k = some true := by
  unfold frames_own.get at hx
  split at hx
  · exact .inr (frames_own.ok d hd _ _ hx)
  · exact .inl hx
/-- function 20: sheerleg/frames.Defer -/
noncomputable def frames_Defer.body (frames_own : (Int × Int × (List Int) × (List (Int × Int × Unit)) × Int × Int × Bool × Bool × Unit) → (Int → Int → Int → Int → Bool → Bool → (List Int) → (List (Int × Int × Unit)) → Option Bool) → Option Bool) (t6 : Int × Int × (List Int) × (List (Int × Int × Unit)) × Int × Int × Bool × Bool × Unit) (t7 : Int × Int × Unit) (k1 : Int → Int → Int → Int → Bool → Bool → (List Int) → (List (Int × Int × Unit)) → Option Bool) : Option Bool :=
  (frames_own t6
  (fun n13 n14 n15 n16 b17 b18 ns19 ts20 => (cond_ (Nat.ble (((List.length ts20) + (List.length ((t7.1, (t7.2.1, ())) :: []))) * (16 : Nat)) (140737488355328 : Nat)) (k1 n13 n14 n15 n16 b17 b18 ns19 (ts20 ++ ((t7.1, (t7.2.1, ())) :: []))) none)))
noncomputable def frames_Defer (t6 : Int × Int × (List Int) × (List (Int × Int × Unit)) × Int × Int × Bool × Bool × Unit) (t7 : Int × Int × Unit) (k1 : Int → Int → Int → Int → Bool → Bool → (List Int) → (List (Int × Int × Unit)) → Option Bool) : Option Bool := frames_Defer.body frames_own t6 t7 k1
noncomputable def frames_Defer.get (F : (Int × Int × (List Int) × (List (Int × Int × Unit)) × Int × Int × Bool × Bool × Unit) → (Int × Int × Unit) → (Int → Int → Int → Int → Bool → Bool → (List Int) → (List (Int × Int × Unit)) → Option Bool) → Option Bool) (e : Option Bool) (g : FuncId) (a : List AV) (h : Heap) (k : KR) : Option Bool := match g, a, h with
  | 20, [(.d ⟨(.st [(.int .i64), (.int .i64), (.sl 2 (.int .i64)), (.sl 39 (.st [(.int .i64), (.int .i64)])), (.int .i64), (.int .i64), .bool, .bool]), t6⟩), (.d ⟨(.st [(.int .i64), (.int .i64)]), t7⟩)], [] => F t6 t7 (fun y0 y1 y2 y3 y4 y5 y6 y7 => k (.agg [(.d ⟨(.int .i64), y0⟩), (.d ⟨(.int .i64), y1⟩), (.ref [1, 0]), (.ref [1, 1]), (.d ⟨(.int .i64), y2⟩), (.d ⟨(.int .i64), y3⟩), (.d ⟨.bool, y4⟩), (.d ⟨.bool, y5⟩)]) [([1, 0], ⟨2, 1, (.data (.int .i64) y6)⟩), ([1, 1], ⟨39, 2, (.data (.st [(.int .i64), (.int .i64)]) y7)⟩)])
  | _, _, _ => e
noncomputable def frames_Defer.calls (F0 : (Int × Int × (List Int) × (List (Int × Int × Unit)) × Int × Int × Bool × Bool × Unit) → (Int → Int → Int → Int → Bool → Bool → (List Int) → (List (Int × Int × Unit)) → Option Bool) → Option Bool) : RecF := fun g a h k => (frames_own.get F0 none g a h k)
noncomputable def frames_Defer.loops : LoopF := fun b => none
set_option maxRecDepth 100000 in
theorem frames_Defer.eq (F0 : (Int × Int × (List Int) × (List (Int × Int × Unit)) × Int × Int × Bool × Bool × Unit) → (Int → Int → Int → Int → Bool → Bool → (List Int) → (List (Int × Int × Unit)) → Option Bool) → Option Bool) (t6 : Int × Int × (List Int) × (List (Int × Int × Unit)) × Int × Int × Bool × Bool × Unit) (t7 : Int × Int × Unit) (k : KR) : execL Try.prog ht 20 (callfOf (frames_Defer.calls F0)) (frames_Defer.loops) 0 (codeOf Try.f20) ⟨[(.d ⟨(.st [(.int .i64), (.int .i64), (.sl 2 (.int .i64)), (.sl 39 (.st [(.int .i64), (.int .i64)])), (.int .i64), (.int .i64), .bool, .bool]), t6⟩), (.d ⟨(.st [(.int .i64), (.int .i64)]), t7⟩)] ++ List.replicate (Try.f20.ntmps - ([(.d ⟨(.st [(.int .i64), (.int .i64), (.sl 2 (.int .i64)), (.sl 39 (.st [(.int .i64), (.int .i64)])), (.int .i64), (.int .i64), .bool, .bool]), t6⟩), (.d ⟨(.st [(.int .i64), (.int .i64)]), t7⟩)] : List AV).length) .undef, [], 2⟩ (leave Try.prog Try.f20 k) = frames_Defer.body F0 t6 t7 (fun y0 y1 y2 y3 y4 y5 y6 y7 => k (.agg [(.d ⟨(.int .i64), y0⟩), (.d ⟨(.int .i64), y1⟩), (.ref [1, 0]), (.ref [1, 1]), (.d ⟨(.int .i64), y2⟩), (.d ⟨(.int .i64), y3⟩), (.d ⟨.bool, y4⟩), (.d ⟨.bool, y5⟩)]) [([1, 0], ⟨2, 1, (.data (.int .i64) y6)⟩), ([1, 1], ⟨39, 2, (.data (.st [(.int .i64), (.int .i64)]) y7)⟩)]) := by kernel_rfl
theorem frames_Defer.ok (d : Nat) (hd : 3 ≤ d) (t6 : Int × Int × (List Int) × (List (Int × Int × Unit)) × Int × Int × Bool × Bool × Unit) (t7 : Int × Int × Unit) (k : KR) (hx : frames_Defer t6 t7 (fun y0 y1 y2 y3 y4 y5 y6 y7 => k (.agg [(.d ⟨(.int .i64), y0⟩), (.d ⟨(.int .i64), y1⟩), (.ref [1, 0]), (.ref [1, 1]), (.d ⟨(.int .i64), y2⟩), (.d ⟨(.int .i64), y3⟩), (.d ⟨.bool, y4⟩), (.d ⟨.bool, y5⟩)]) [([1, 0], ⟨2, 1, (.data (.int .i64) y6)⟩), ([1, 1], ⟨39, 2, (.data (.st [(.int .i64), (.int .i64)]) y7)⟩)]) = some true) : callK Try.prog ht d 20 [(.d ⟨(.st [(.int .i64), (.int .i64), (.sl 2 (.int .i64)), (.sl 39 (.st [(.int .i64), (.int .i64)])), (.int .i64), (.int .i64), .bool, .bool]), t6⟩), (.d ⟨(.st [(.int .i64), (.int .i64)]), t7⟩)] [] k = some true := by
  obtain ⟨d, rfl⟩ : ∃ e, d = e + 1 := ⟨d - 1, by omega⟩
  exact fn_ok (c := codeOf Try.f20) Try.func20 (by kernel_rfl) (rec := frames_Defer.calls frames_own) (fun g a h k hx => by
    rcases frames_own.look d (by omega) hx with hx | hx
    rotate_left
    · exact hx
    cases hx) (loopf := frames_Defer.loops) (by
    have e : loopsOf (frames_Defer.loops) 0 (codeOf Try.f20) = [] := by kernel_rfl
    rw [e]
    intro p hp
    cases hp) ((frames_Defer.eq frames_own t6 t7 k).trans hx)
theorem frames_Defer.look (d : Nat) (hd : 3 ≤ d) {e : Option Bool} {g : FuncId} {a : List AV} {h : Heap} {k : KR} (hx : frames_Defer.get frames_Defer e g a h k = some true) : e = some true ∨ callK Try.prog ht d g a h k = some true := by
  unfold frames_Defer.get at hx
  split at hx
  · exact .inr (frames_Defer.ok d hd _ _ _ hx)
  · exact .inl hx
/-- function 31: slices.Clone[[]int64,int64] -/
noncomputable def slices_Clone_int64_int64v1.body (ns54 : List Int) (k1 : (List Int) → Option Bool) : Option Bool :=
  (cond_ (List.isEmpty ns54) (meet (k1 []) (cond_ (Nat.ble (((0 : Nat) + (List.length ns54)) * (8 : Nat)) (140737488355328 : Nat)) (k1 ([] ++ ns54)) none)) (cond_ (Nat.ble (((0 : Nat) + (List.length ns54)) * (8 : Nat)) (140737488355328 : Nat)) (k1 ([] ++ ns54)) none))
noncomputable def slices_Clone_int64_int64v1 (ns54 : List Int) (k1 : (List Int) → Option Bool) : Option Bool := slices_Clone_int64_int64v1.body ns54 k1
noncomputable def slices_Clone_int64_int64v1.get (F : (List Int) → ((List Int) → Option Bool) → Option Bool) (e : Option Bool) (g : FuncId) (a : List AV) (h : Heap) (k : KR) : Option Bool := match g, a, h with
  | 31, [(.bv 1 2 (.int .i64) ns54)], [] => F ns54 (fun y0 => k (.ref [1, 0]) [([1, 0], ⟨2, 1, (.data (.int .i64) y0)⟩)])
  | _, _, _ => e
noncomputable def slices_Clone_int64_int64v1.calls : RecF := fun g a h k => none
noncomputable def slices_Clone_int64_int64v1.loops : LoopF := fun b => none
set_option maxRecDepth 100000 in
theorem slices_Clone_int64_int64v1.eq (ns54 : List Int) (k : KR) : execL Try.prog ht 31 (callfOf (slices_Clone_int64_int64v1.calls)) (slices_Clone_int64_int64v1.loops) 0 (codeOf Try.f31) ⟨[(.bv 1 2 (.int .i64) ns54)] ++ List.replicate (Try.f31.ntmps - ([(.bv 1 2 (.int .i64) ns54)] : List AV).length) .undef, [], 2⟩ (leave Try.prog Try.f31 k) = slices_Clone_int64_int64v1.body ns54 (fun y0 => k (.ref [1, 0]) [([1, 0], ⟨2, 1, (.data (.int .i64) y0)⟩)]) := by kernel_rfl
theorem slices_Clone_int64_int64v1.ok (d : Nat) (hd : 1 ≤ d) (ns54 : List Int) (k : KR) (hx : slices_Clone_int64_int64v1 ns54 (fun y0 => k (.ref [1, 0]) [([1, 0], ⟨2, 1, (.data (.int .i64) y0)⟩)]) = some true) : callK Try.prog ht d 31 [(.bv 1 2 (.int .i64) ns54)] [] k = some true := by
  obtain ⟨d, rfl⟩ : ∃ e, d = e + 1 := ⟨d - 1, by omega⟩
  exact fn_ok (c := codeOf Try.f31) Try.func31 (by kernel_rfl) (rec := slices_Clone_int64_int64v1.calls) (fun g a h k hx => by
    cases hx) (loopf := slices_Clone_int64_int64v1.loops) (by
    have e : loopsOf (slices_Clone_int64_int64v1.loops) 0 (codeOf Try.f31) = [] := by kernel_rfl
    rw [e]
    intro p hp
    cases hp) ((slices_Clone_int64_int64v1.eq ns54 k).trans hx)
theorem slices_Clone_int64_int64v1.look (d : Nat) (hd : 1 ≤ d) {e : Option Bool} {g : FuncId} {a : List AV} {h : Heap} {k : KR} (hx : slices_Clone_int64_int64v1.get slices_Clone_int64_int64v1 e g a h k = some true) : e = some true ∨ callK Try.prog ht d g a h k = some true := by
  unfold slices_Clone_int64_int64v1.get at hx
  split at hx
  · exact .inr (slices_Clone_int64_int64v1.ok d hd _ _ hx)
  · exact .inl hx
/-- function 32: slices.Clone[[]sheerleg/api.Pend,sheerleg/api.Pend] -/
noncomputable def slices_Clone_api_Pend_api_Pendv1.body (ts56 : List (Int × Int × Unit)) (k1 : (List (Int × Int × Unit)) → Option Bool) : Option Bool :=
  (cond_ (List.isEmpty ts56) (meet (k1 []) (cond_ (Nat.ble (((0 : Nat) + (List.length ts56)) * (16 : Nat)) (140737488355328 : Nat)) (k1 ([] ++ ts56)) none)) (cond_ (Nat.ble (((0 : Nat) + (List.length ts56)) * (16 : Nat)) (140737488355328 : Nat)) (k1 ([] ++ ts56)) none))
noncomputable def slices_Clone_api_Pend_api_Pendv1 (ts56 : List (Int × Int × Unit)) (k1 : (List (Int × Int × Unit)) → Option Bool) : Option Bool := slices_Clone_api_Pend_api_Pendv1.body ts56 k1
noncomputable def slices_Clone_api_Pend_api_Pendv1.get (F : (List (Int × Int × Unit)) → ((List (Int × Int × Unit)) → Option Bool) → Option Bool) (e : Option Bool) (g : FuncId) (a : List AV) (h : Heap) (k : KR) : Option Bool := match g, a, h with
  | 32, [(.bv 1 39 (.st [(.int .i64), (.int .i64)]) ts56)], [] => F ts56 (fun y0 => k (.ref [1, 0]) [([1, 0], ⟨39, 2, (.data (.st [(.int .i64), (.int .i64)]) y0)⟩)])
  | _, _, _ => e
noncomputable def slices_Clone_api_Pend_api_Pendv1.calls : RecF := fun g a h k => none
noncomputable def slices_Clone_api_Pend_api_Pendv1.loops : LoopF := fun b => none
set_option maxRecDepth 100000 in
theorem slices_Clone_api_Pend_api_Pendv1.eq (ts56 : List (Int × Int × Unit)) (k : KR) : execL Try.prog ht 32 (callfOf (slices_Clone_api_Pend_api_Pendv1.calls)) (slices_Clone_api_Pend_api_Pendv1.loops) 0 (codeOf Try.f32) ⟨[(.bv 1 39 (.st [(.int .i64), (.int .i64)]) ts56)] ++ List.replicate (Try.f32.ntmps - ([(.bv 1 39 (.st [(.int .i64), (.int .i64)]) ts56)] : List AV).length) .undef, [], 2⟩ (leave Try.prog Try.f32 k) = slices_Clone_api_Pend_api_Pendv1.body ts56 (fun y0 => k (.ref [1, 0]) [([1, 0], ⟨39, 2, (.data (.st [(.int .i64), (.int .i64)]) y0)⟩)]) := by kernel_rfl
theorem slices_Clone_api_Pend_api_Pendv1.ok (d : Nat) (hd : 1 ≤ d) (ts56 : List (Int × Int × Unit)) (k : KR) (hx : slices_Clone_api_Pend_api_Pendv1 ts56 (fun y0 => k (.ref [1, 0]) [([1, 0], ⟨39, 2, (.data (.st [(.int .i64), (.int .i64)]) y0)⟩)]) = some true) : callK Try.prog ht d 32 [(.bv 1 39 (.st [(.int .i64), (.int .i64)]) ts56)] [] k = some true := by
  obtain ⟨d, rfl⟩ : ∃ e, d = e + 1 := ⟨d - 1, by omega⟩
  exact fn_ok (c := codeOf Try.f32) Try.func32 (by kernel_rfl) (rec := slices_Clone_api_Pend_api_Pendv1.calls) (fun g a h k hx => by
    cases hx) (loopf := slices_Clone_api_Pend_api_Pendv1.loops) (by
    have e : loopsOf (slices_Clone_api_Pend_api_Pendv1.loops) 0 (codeOf Try.f32) = [] := by kernel_rfl
    rw [e]
    intro p hp
    cases hp) ((slices_Clone_api_Pend_api_Pendv1.eq ts56 k).trans hx)
theorem slices_Clone_api_Pend_api_Pendv1.look (d : Nat) (hd : 1 ≤ d) {e : Option Bool} {g : FuncId} {a : List AV} {h : Heap} {k : KR} (hx : slices_Clone_api_Pend_api_Pendv1.get slices_Clone_api_Pend_api_Pendv1 e g a h k = some true) : e = some true ∨ callK Try.prog ht d g a h k = some true := by
  unfold slices_Clone_api_Pend_api_Pendv1.get at hx
  split at hx
  · exact .inr (slices_Clone_api_Pend_api_Pendv1.ok d hd _ _ hx)
  · exact .inl hx
/-- function 28: sheerleg/frames.own -/
noncomputable def frames_ownv1.body (slices_Clone_int64_int64v1 : (List Int) → ((List Int) → Option Bool) → Option Bool) (slices_Clone_api_Pend_api_Pendv1 : (List (Int × Int × Unit)) → ((List (Int × Int × Unit)) → Option Bool) → Option Bool) (n46 : Int) (n47 : Int) (ns48 : List Int) (ts49 : List (Int × Int × Unit)) (n50 : Int) (n51 : Int) (b52 : Bool) (b53 : Bool) (k1 : Int → Int → Int → Int → Bool → Bool → (List Int) → (List (Int × Int × Unit)) → Option Bool) : Option Bool :=
  (slices_Clone_int64_int64v1 ns48
  (fun ns55 => (slices_Clone_api_Pend_api_Pendv1 ts49
  (fun ts57 => (k1 n46 n47 n50 n51 b52 b53 ns55 ts57)))))
noncomputable def frames_ownv1 (n46 : Int) (n47 : Int) (ns48 : List Int) (ts49 : List (Int × Int × Unit)) (n50 : Int) (n51 : Int) (b52 : Bool) (b53 : Bool) (k1 : Int → Int → Int → Int → Bool → Bool → (List Int) → (List (Int × Int × Unit)) → Option Bool) : Option Bool := frames_ownv1.body slices_Clone_int64_int64v1 slices_Clone_api_Pend_api_Pendv1 n46 n47 ns48 ts49 n50 n51 b52 b53 k1
noncomputable def frames_ownv1.get (F : Int → Int → (List Int) → (List (Int × Int × Unit)) → Int → Int → Bool → Bool → (Int → Int → Int → Int → Bool → Bool → (List Int) → (List (Int × Int × Unit)) → Option Bool) → Option Bool) (e : Option Bool) (g : FuncId) (a : List AV) (h : Heap) (k : KR) : Option Bool := match g, a, h with
  | 28, [(.agg [(.d ⟨(.int .i64), n46⟩), (.d ⟨(.int .i64), n47⟩), (.bv 1 2 (.int .i64) ns48), (.bv 2 39 (.st [(.int .i64), (.int .i64)]) ts49), (.d ⟨(.int .i64), n50⟩), (.d ⟨(.int .i64), n51⟩), (.d ⟨.bool, b52⟩), (.d ⟨.bool, b53⟩)])], [] => F n46 n47 ns48 ts49 n50 n51 b52 b53 (fun y0 y1 y2 y3 y4 y5 y6 y7 => k (.agg [(.d ⟨(.int .i64), y0⟩), (.d ⟨(.int .i64), y1⟩), (.ref [1, 0]), (.ref [1, 1]), (.d ⟨(.int .i64), y2⟩), (.d ⟨(.int .i64), y3⟩), (.d ⟨.bool, y4⟩), (.d ⟨.bool, y5⟩)]) [([1, 0], ⟨2, 1, (.data (.int .i64) y6)⟩), ([1, 1], ⟨39, 2, (.data (.st [(.int .i64), (.int .i64)]) y7)⟩)])
  | _, _, _ => e
noncomputable def frames_ownv1.calls (F0 : (List Int) → ((List Int) → Option Bool) → Option Bool) (F1 : (List (Int × Int × Unit)) → ((List (Int × Int × Unit)) → Option Bool) → Option Bool) : RecF := fun g a h k => (slices_Clone_int64_int64v1.get F0 (slices_Clone_api_Pend_api_Pendv1.get F1 none g a h k) g a h k)
noncomputable def frames_ownv1.loops : LoopF := fun b => none
set_option maxRecDepth 100000 in
theorem frames_ownv1.eq (F0 : (List Int) → ((List Int) → Option Bool) → Option Bool) (F1 : (List (Int × Int × Unit)) → ((List (Int × Int × Unit)) → Option Bool) → Option Bool) (n46 : Int) (n47 : Int) (ns48 : List Int) (ts49 : List (Int × Int × Unit)) (n50 : Int) (n51 : Int) (b52 : Bool) (b53 : Bool) (k : KR) : execL Try.prog ht 28 (callfOf (frames_ownv1.calls F0 F1)) (frames_ownv1.loops) 0 (codeOf Try.f28) ⟨[(.agg [(.d ⟨(.int .i64), n46⟩), (.d ⟨(.int .i64), n47⟩), (.bv 1 2 (.int .i64) ns48), (.bv 2 39 (.st [(.int .i64), (.int .i64)]) ts49), (.d ⟨(.int .i64), n50⟩), (.d ⟨(.int .i64), n51⟩), (.d ⟨.bool, b52⟩), (.d ⟨.bool, b53⟩)])] ++ List.replicate (Try.f28.ntmps - ([(.agg [(.d ⟨(.int .i64), n46⟩), (.d ⟨(.int .i64), n47⟩), (.bv 1 2 (.int .i64) ns48), (.bv 2 39 (.st [(.int .i64), (.int .i64)]) ts49), (.d ⟨(.int .i64), n50⟩), (.d ⟨(.int .i64), n51⟩), (.d ⟨.bool, b52⟩), (.d ⟨.bool, b53⟩)])] : List AV).length) .undef, [], 2⟩ (leave Try.prog Try.f28 k) = frames_ownv1.body F0 F1 n46 n47 ns48 ts49 n50 n51 b52 b53 (fun y0 y1 y2 y3 y4 y5 y6 y7 => k (.agg [(.d ⟨(.int .i64), y0⟩), (.d ⟨(.int .i64), y1⟩), (.ref [1, 0]), (.ref [1, 1]), (.d ⟨(.int .i64), y2⟩), (.d ⟨(.int .i64), y3⟩), (.d ⟨.bool, y4⟩), (.d ⟨.bool, y5⟩)]) [([1, 0], ⟨2, 1, (.data (.int .i64) y6)⟩), ([1, 1], ⟨39, 2, (.data (.st [(.int .i64), (.int .i64)]) y7)⟩)]) := by kernel_rfl
theorem frames_ownv1.ok (d : Nat) (hd : 2 ≤ d) (n46 : Int) (n47 : Int) (ns48 : List Int) (ts49 : List (Int × Int × Unit)) (n50 : Int) (n51 : Int) (b52 : Bool) (b53 : Bool) (k : KR) (hx : frames_ownv1 n46 n47 ns48 ts49 n50 n51 b52 b53 (fun y0 y1 y2 y3 y4 y5 y6 y7 => k (.agg [(.d ⟨(.int .i64), y0⟩), (.d ⟨(.int .i64), y1⟩), (.ref [1, 0]), (.ref [1, 1]), (.d ⟨(.int .i64), y2⟩), (.d ⟨(.int .i64), y3⟩), (.d ⟨.bool, y4⟩), (.d ⟨.bool, y5⟩)]) [([1, 0], ⟨2, 1, (.data (.int .i64) y6)⟩), ([1, 1], ⟨39, 2, (.data (.st [(.int .i64), (.int .i64)]) y7)⟩)]) = some true) : callK Try.prog ht d 28 [(.agg [(.d ⟨(.int .i64), n46⟩), (.d ⟨(.int .i64), n47⟩), (.bv 1 2 (.int .i64) ns48), (.bv 2 39 (.st [(.int .i64), (.int .i64)]) ts49), (.d ⟨(.int .i64), n50⟩), (.d ⟨(.int .i64), n51⟩), (.d ⟨.bool, b52⟩), (.d ⟨.bool, b53⟩)])] [] k = some true := by
  obtain ⟨d, rfl⟩ : ∃ e, d = e + 1 := ⟨d - 1, by omega⟩
  exact fn_ok (c := codeOf Try.f28) Try.func28 (by kernel_rfl) (rec := frames_ownv1.calls slices_Clone_int64_int64v1 slices_Clone_api_Pend_api_Pendv1) (fun g a h k hx => by
    rcases slices_Clone_int64_int64v1.look d (by omega) hx with hx | hx
    rotate_left
    · exact hx
    rcases slices_Clone_api_Pend_api_Pendv1.look d (by omega) hx with hx | hx
    rotate_left
    · exact hx
    cases hx) (loopf := frames_ownv1.loops) (by
    have e : loopsOf (frames_ownv1.loops) 0 (codeOf Try.f28) = [] := by kernel_rfl
    rw [e]
    intro p hp
    cases hp) ((frames_ownv1.eq slices_Clone_int64_int64v1 slices_Clone_api_Pend_api_Pendv1 n46 n47 ns48 ts49 n50 n51 b52 b53 k).trans hx)
theorem frames_ownv1.look (d : Nat) (hd : 2 ≤ d) {e : Option Bool} {g : FuncId} {a : List AV} {h : Heap} {k : KR} (hx : frames_ownv1.get frames_ownv1 e g a h k = some true) : e = some true ∨ callK Try.prog ht d g a h k = some true := by
  unfold frames_ownv1.get at hx
  split at hx
  · exact .inr (frames_ownv1.ok d hd _ _ _ _ _ _ _ _ _ hx)
  · exact .inl hx
/-- function 20: sheerleg/frames.Defer -/
noncomputable def frames_Deferv1.body (frames_ownv1 : Int → Int → (List Int) → (List (Int × Int × Unit)) → Int → Int → Bool → Bool → (Int → Int → Int → Int → Bool → Bool → (List Int) → (List (Int × Int × Unit)) → Option Bool) → Option Bool) (n37 : Int) (n38 : Int) (ns39 : List Int) (ts40 : List (Int × Int × Unit)) (n41 : Int) (n42 : Int) (b43 : Bool) (b44 : Bool) (t45 : Int × Int × Unit) (k1 : Int → Int → Int → Int → Bool → Bool → (List Int) → (List (Int × Int × Unit)) → Option Bool) : Option Bool :=
  (frames_ownv1 n37 n38 ns39 ts40 n41 n42 b43 b44
  (fun n58 n59 n60 n61 b62 b63 ns64 ts65 => (cond_ (Nat.ble (((List.length ts65) + (List.length ((t45.1, (t45.2.1, ())) :: []))) * (16 : Nat)) (140737488355328 : Nat)) (k1 n58 n59 n60 n61 b62 b63 ns64 (ts65 ++ ((t45.1, (t45.2.1, ())) :: []))) none)))
noncomputable def frames_Deferv1 (n37 : Int) (n38 : Int) (ns39 : List Int) (ts40 : List (Int × Int × Unit)) (n41 : Int) (n42 : Int) (b43 : Bool) (b44 : Bool) (t45 : Int × Int × Unit) (k1 : Int → Int → Int → Int → Bool → Bool → (List Int) → (List (Int × Int × Unit)) → Option Bool) : Option Bool := frames_Deferv1.body frames_ownv1 n37 n38 ns39 ts40 n41 n42 b43 b44 t45 k1
noncomputable def frames_Deferv1.get (F : Int → Int → (List Int) → (List (Int × Int × Unit)) → Int → Int → Bool → Bool → (Int × Int × Unit) → (Int → Int → Int → Int → Bool → Bool → (List Int) → (List (Int × Int × Unit)) → Option Bool) → Option Bool) (e : Option Bool) (g : FuncId) (a : List AV) (h : Heap) (k : KR) : Option Bool := match g, a, h with
  | 20, [(.agg [(.d ⟨(.int .i64), n37⟩), (.d ⟨(.int .i64), n38⟩), (.bv 1 2 (.int .i64) ns39), (.bv 2 39 (.st [(.int .i64), (.int .i64)]) ts40), (.d ⟨(.int .i64), n41⟩), (.d ⟨(.int .i64), n42⟩), (.d ⟨.bool, b43⟩), (.d ⟨.bool, b44⟩)]), (.d ⟨(.st [(.int .i64), (.int .i64)]), t45⟩)], [] => F n37 n38 ns39 ts40 n41 n42 b43 b44 t45 (fun y0 y1 y2 y3 y4 y5 y6 y7 => k (.agg [(.d ⟨(.int .i64), y0⟩), (.d ⟨(.int .i64), y1⟩), (.ref [1, 0]), (.ref [1, 1]), (.d ⟨(.int .i64), y2⟩), (.d ⟨(.int .i64), y3⟩), (.d ⟨.bool, y4⟩), (.d ⟨.bool, y5⟩)]) [([1, 0], ⟨2, 1, (.data (.int .i64) y6)⟩), ([1, 1], ⟨39, 2, (.data (.st [(.int .i64), (.int .i64)]) y7)⟩)])
  | _, _, _ => e
noncomputable def frames_Deferv1.calls (F0 : Int → Int → (List Int) → (List (Int × Int × Unit)) → Int → Int → Bool → Bool → (Int → Int → Int → Int → Bool → Bool → (List Int) → (List (Int × Int × Unit)) → Option Bool) → Option Bool) : RecF := fun g a h k => (frames_ownv1.get F0 none g a h k)
noncomputable def frames_Deferv1.loops : LoopF := fun b => none
set_option maxRecDepth 100000 in
theorem frames_Deferv1.eq (F0 : Int → Int → (List Int) → (List (Int × Int × Unit)) → Int → Int → Bool → Bool → (Int → Int → Int → Int → Bool → Bool → (List Int) → (List (Int × Int × Unit)) → Option Bool) → Option Bool) (n37 : Int) (n38 : Int) (ns39 : List Int) (ts40 : List (Int × Int × Unit)) (n41 : Int) (n42 : Int) (b43 : Bool) (b44 : Bool) (t45 : Int × Int × Unit) (k : KR) : execL Try.prog ht 20 (callfOf (frames_Deferv1.calls F0)) (frames_Deferv1.loops) 0 (codeOf Try.f20) ⟨[(.agg [(.d ⟨(.int .i64), n37⟩), (.d ⟨(.int .i64), n38⟩), (.bv 1 2 (.int .i64) ns39), (.bv 2 39 (.st [(.int .i64), (.int .i64)]) ts40), (.d ⟨(.int .i64), n41⟩), (.d ⟨(.int .i64), n42⟩), (.d ⟨.bool, b43⟩), (.d ⟨.bool, b44⟩)]), (.d ⟨(.st [(.int .i64), (.int .i64)]), t45⟩)] ++ List.replicate (Try.f20.ntmps - ([(.agg [(.d ⟨(.int .i64), n37⟩), (.d ⟨(.int .i64), n38⟩), (.bv 1 2 (.int .i64) ns39), (.bv 2 39 (.st [(.int .i64), (.int .i64)]) ts40), (.d ⟨(.int .i64), n41⟩), (.d ⟨(.int .i64), n42⟩), (.d ⟨.bool, b43⟩), (.d ⟨.bool, b44⟩)]), (.d ⟨(.st [(.int .i64), (.int .i64)]), t45⟩)] : List AV).length) .undef, [], 2⟩ (leave Try.prog Try.f20 k) = frames_Deferv1.body F0 n37 n38 ns39 ts40 n41 n42 b43 b44 t45 (fun y0 y1 y2 y3 y4 y5 y6 y7 => k (.agg [(.d ⟨(.int .i64), y0⟩), (.d ⟨(.int .i64), y1⟩), (.ref [1, 0]), (.ref [1, 1]), (.d ⟨(.int .i64), y2⟩), (.d ⟨(.int .i64), y3⟩), (.d ⟨.bool, y4⟩), (.d ⟨.bool, y5⟩)]) [([1, 0], ⟨2, 1, (.data (.int .i64) y6)⟩), ([1, 1], ⟨39, 2, (.data (.st [(.int .i64), (.int .i64)]) y7)⟩)]) := by kernel_rfl
theorem frames_Deferv1.ok (d : Nat) (hd : 3 ≤ d) (n37 : Int) (n38 : Int) (ns39 : List Int) (ts40 : List (Int × Int × Unit)) (n41 : Int) (n42 : Int) (b43 : Bool) (b44 : Bool) (t45 : Int × Int × Unit) (k : KR) (hx : frames_Deferv1 n37 n38 ns39 ts40 n41 n42 b43 b44 t45 (fun y0 y1 y2 y3 y4 y5 y6 y7 => k (.agg [(.d ⟨(.int .i64), y0⟩), (.d ⟨(.int .i64), y1⟩), (.ref [1, 0]), (.ref [1, 1]), (.d ⟨(.int .i64), y2⟩), (.d ⟨(.int .i64), y3⟩), (.d ⟨.bool, y4⟩), (.d ⟨.bool, y5⟩)]) [([1, 0], ⟨2, 1, (.data (.int .i64) y6)⟩), ([1, 1], ⟨39, 2, (.data (.st [(.int .i64), (.int .i64)]) y7)⟩)]) = some true) : callK Try.prog ht d 20 [(.agg [(.d ⟨(.int .i64), n37⟩), (.d ⟨(.int .i64), n38⟩), (.bv 1 2 (.int .i64) ns39), (.bv 2 39 (.st [(.int .i64), (.int .i64)]) ts40), (.d ⟨(.int .i64), n41⟩), (.d ⟨(.int .i64), n42⟩), (.d ⟨.bool, b43⟩), (.d ⟨.bool, b44⟩)]), (.d ⟨(.st [(.int .i64), (.int .i64)]), t45⟩)] [] k = some true := by
  obtain ⟨d, rfl⟩ : ∃ e, d = e + 1 := ⟨d - 1, by omega⟩
  exact fn_ok (c := codeOf Try.f20) Try.func20 (by kernel_rfl) (rec := frames_Deferv1.calls frames_ownv1) (fun g a h k hx => by
    rcases frames_ownv1.look d (by omega) hx with hx | hx
    rotate_left
    · exact hx
    cases hx) (loopf := frames_Deferv1.loops) (by
    have e : loopsOf (frames_Deferv1.loops) 0 (codeOf Try.f20) = [] := by kernel_rfl
    rw [e]
    intro p hp
    cases hp) ((frames_Deferv1.eq frames_ownv1 n37 n38 ns39 ts40 n41 n42 b43 b44 t45 k).trans hx)
theorem frames_Deferv1.look (d : Nat) (hd : 3 ≤ d) {e : Option Bool} {g : FuncId} {a : List AV} {h : Heap} {k : KR} (hx : frames_Deferv1.get frames_Deferv1 e g a h k = some true) : e = some true ∨ callK Try.prog ht d g a h k = some true := by
  unfold frames_Deferv1.get at hx
  split at hx
  · exact .inr (frames_Deferv1.ok d hd _ _ _ _ _ _ _ _ _ _ hx)
  · exact .inl hx
/-- function 16: sheerleg/frames.Next -/
noncomputable def frames_Next.body (frames_ownv1 : Int → Int → (List Int) → (List (Int × Int × Unit)) → Int → Int → Bool → Bool → (Int → Int → Int → Int → Bool → Bool → (List Int) → (List (Int × Int × Unit)) → Option Bool) → Option Bool) (n74 : Int) (n75 : Int) (ns76 : List Int) (ts77 : List (Int × Int × Unit)) (n78 : Int) (n79 : Int) (b80 : Bool) (b81 : Bool) (k1 : (Int × Int × Unit) → Int → Int → Int → Int → Bool → Bool → Bool → (List Int) → (List (Int × Int × Unit)) → Option Bool) (k2 : (Int × Int × Unit) → Int → Int → Nat → Int → Int → Bool → Bool → Bool → (List Int) → (List (Int × Int × Unit)) → Option Bool) : Option Bool :=
  (frames_ownv1 n74 n75 ns76 ts77 n78 n79 b80 b81
  (fun n82 n83 n84 n85 b86 b87 ns88 ts89 => (cond_ (decide ((IntKind.wrap .i64 ((((List.length ts77) : Nat) : Int) - (1 : Int))) < (0 : Int))) (k1 ((0 : Int), ((0 : Int), ())) n82 n83 n84 n85 b86 b87 false ns88 ts89) (cond_ ((decide ((0 : Int) ≤ (IntKind.wrap .i64 ((((List.length ts77) : Nat) : Int) - (1 : Int))))) && (decide ((IntKind.wrap .i64 ((((List.length ts77) : Nat) : Int) - (1 : Int))) < (((List.length ts89) : Nat) : Int)))) (cond_ (((true && (decide ((0 : Int) ≤ (IntKind.wrap .i64 ((((List.length ts77) : Nat) : Int) - (1 : Int)))))) && (decide ((IntKind.wrap .i64 ((((List.length ts77) : Nat) : Int) - (1 : Int))) ≤ (IntKind.wrap .i64 ((((List.length ts77) : Nat) : Int) - (1 : Int)))))) && (decide ((IntKind.wrap .i64 ((((List.length ts77) : Nat) : Int) - (1 : Int))) ≤ (((List.length ts89) : Nat) : Int)))) (k2 (List.getD ts89 (Int.toNat (IntKind.wrap .i64 ((((List.length ts77) : Nat) : Int) - (1 : Int)))) ((0 : Int), ((0 : Int), ()))) n82 n83 (Int.toNat ((IntKind.wrap .i64 ((((List.length ts77) : Nat) : Int) - (1 : Int))) - (0 : Int))) n84 n85 b86 b87 true ns88 ts89) none) none))))
noncomputable def frames_Next (n74 : Int) (n75 : Int) (ns76 : List Int) (ts77 : List (Int × Int × Unit)) (n78 : Int) (n79 : Int) (b80 : Bool) (b81 : Bool) (k1 : (Int × Int × Unit) → Int → Int → Int → Int → Bool → Bool → Bool → (List Int) → (List (Int × Int × Unit)) → Option Bool) (k2 : (Int × Int × Unit) → Int → Int → Nat → Int → Int → Bool → Bool → Bool → (List Int) → (List (Int × Int × Unit)) → Option Bool) : Option Bool := frames_Next.body frames_ownv1 n74 n75 ns76 ts77 n78 n79 b80 b81 k1 k2
noncomputable def frames_Next.get (F : Int → Int → (List Int) → (List (Int × Int × Unit)) → Int → Int → Bool → Bool → ((Int × Int × Unit) → Int → Int → Int → Int → Bool → Bool → Bool → (List Int) → (List (Int × Int × Unit)) → Option Bool) → ((Int × Int × Unit) → Int → Int → Nat → Int → Int → Bool → Bool → Bool → (List Int) → (List (Int × Int × Unit)) → Option Bool) → Option Bool) (e : Option Bool) (g : FuncId) (a : List AV) (h : Heap) (k : KR) : Option Bool := match g, a, h with
  | 16, [(.agg [(.d ⟨(.int .i64), n74⟩), (.d ⟨(.int .i64), n75⟩), (.bv 1 2 (.int .i64) ns76), (.bv 2 39 (.st [(.int .i64), (.int .i64)]) ts77), (.d ⟨(.int .i64), n78⟩), (.d ⟨(.int .i64), n79⟩), (.d ⟨.bool, b80⟩), (.d ⟨.bool, b81⟩)])], [] => F n74 n75 ns76 ts77 n78 n79 b80 b81 (fun y0 y1 y2 y3 y4 y5 y6 y7 y8 y9 => k (.tup [(.d ⟨(.st [(.int .i64), (.int .i64)]), y0⟩), (.agg [(.d ⟨(.int .i64), y1⟩), (.d ⟨(.int .i64), y2⟩), (.ref [1, 0]), (.ref [1, 1]), (.d ⟨(.int .i64), y3⟩), (.d ⟨(.int .i64), y4⟩), (.d ⟨.bool, y5⟩), (.d ⟨.bool, y6⟩)]), (.d ⟨.bool, y7⟩)]) [([1, 0], ⟨2, 1, (.data (.int .i64) y8)⟩), ([1, 1], ⟨39, 2, (.data (.st [(.int .i64), (.int .i64)]) y9)⟩)]) (fun y0 y1 y2 y3 y4 y5 y6 y7 y8 y9 y10 => k (.tup [(.d ⟨(.st [(.int .i64), (.int .i64)]), y0⟩), (.agg [(.d ⟨(.int .i64), y1⟩), (.d ⟨(.int .i64), y2⟩), (.ref [1, 0]), (.cut [1, 1] 0 y3), (.d ⟨(.int .i64), y4⟩), (.d ⟨(.int .i64), y5⟩), (.d ⟨.bool, y6⟩), (.d ⟨.bool, y7⟩)]), (.d ⟨.bool, y8⟩)]) [([1, 0], ⟨2, 1, (.data (.int .i64) y9)⟩), ([1, 1], ⟨39, 2, (.data (.st [(.int .i64), (.int .i64)]) y10)⟩)])
  | _, _, _ => e
noncomputable def frames_Next.calls (F0 : Int → Int → (List Int) → (List (Int × Int × Unit)) → Int → Int → Bool → Bool → (Int → Int → Int → Int → Bool → Bool → (List Int) → (List (Int × Int × Unit)) → Option Bool) → Option Bool) : RecF := fun g a h k => (frames_ownv1.get F0 none g a h k)
noncomputable def frames_Next.loops : LoopF := fun b => none
set_option maxRecDepth 100000 in
theorem frames_Next.eq (F0 : Int → Int → (List Int) → (List (Int × Int × Unit)) → Int → Int → Bool → Bool → (Int → Int → Int → Int → Bool → Bool → (List Int) → (List (Int × Int × Unit)) → Option Bool) → Option Bool) (n74 : Int) (n75 : Int) (ns76 : List Int) (ts77 : List (Int × Int × Unit)) (n78 : Int) (n79 : Int) (b80 : Bool) (b81 : Bool) (k : KR) : execL Try.prog ht 16 (callfOf (frames_Next.calls F0)) (frames_Next.loops) 0 (codeOf Try.f16) ⟨[(.agg [(.d ⟨(.int .i64), n74⟩), (.d ⟨(.int .i64), n75⟩), (.bv 1 2 (.int .i64) ns76), (.bv 2 39 (.st [(.int .i64), (.int .i64)]) ts77), (.d ⟨(.int .i64), n78⟩), (.d ⟨(.int .i64), n79⟩), (.d ⟨.bool, b80⟩), (.d ⟨.bool, b81⟩)])] ++ List.replicate (Try.f16.ntmps - ([(.agg [(.d ⟨(.int .i64), n74⟩), (.d ⟨(.int .i64), n75⟩), (.bv 1 2 (.int .i64) ns76), (.bv 2 39 (.st [(.int .i64), (.int .i64)]) ts77), (.d ⟨(.int .i64), n78⟩), (.d ⟨(.int .i64), n79⟩), (.d ⟨.bool, b80⟩), (.d ⟨.bool, b81⟩)])] : List AV).length) .undef, [], 2⟩ (leave Try.prog Try.f16 k) = frames_Next.body F0 n74 n75 ns76 ts77 n78 n79 b80 b81 (fun y0 y1 y2 y3 y4 y5 y6 y7 y8 y9 => k (.tup [(.d ⟨(.st [(.int .i64), (.int .i64)]), y0⟩), (.agg [(.d ⟨(.int .i64), y1⟩), (.d ⟨(.int .i64), y2⟩), (.ref [1, 0]), (.ref [1, 1]), (.d ⟨(.int .i64), y3⟩), (.d ⟨(.int .i64), y4⟩), (.d ⟨.bool, y5⟩), (.d ⟨.bool, y6⟩)]), (.d ⟨.bool, y7⟩)]) [([1, 0], ⟨2, 1, (.data (.int .i64) y8)⟩), ([1, 1], ⟨39, 2, (.data (.st [(.int .i64), (.int .i64)]) y9)⟩)]) (fun y0 y1 y2 y3 y4 y5 y6 y7 y8 y9 y10 => k (.tup [(.d ⟨(.st [(.int .i64), (.int .i64)]), y0⟩), (.agg [(.d ⟨(.int .i64), y1⟩), (.d ⟨(.int .i64), y2⟩), (.ref [1, 0]), (.cut [1, 1] 0 y3), (.d ⟨(.int .i64), y4⟩), (.d ⟨(.int .i64), y5⟩), (.d ⟨.bool, y6⟩), (.d ⟨.bool, y7⟩)]), (.d ⟨.bool, y8⟩)]) [([1, 0], ⟨2, 1, (.data (.int .i64) y9)⟩), ([1, 1], ⟨39, 2, (.data (.st [(.int .i64), (.int .i64)]) y10)⟩)]) := by kernel_rfl
theorem frames_Next.ok (d : Nat) (hd : 3 ≤ d) (n74 : Int) (n75 : Int) (ns76 : List Int) (ts77 : List (Int × Int × Unit)) (n78 : Int) (n79 : Int) (b80 : Bool) (b81 : Bool) (k : KR) (hx : frames_Next n74 n75 ns76 ts77 n78 n79 b80 b81 (fun y0 y1 y2 y3 y4 y5 y6 y7 y8 y9 => k (.tup [(.d ⟨(.st [(.int .i64), (.int .i64)]), y0⟩), (.agg [(.d ⟨(.int .i64), y1⟩), (.d ⟨(.int .i64), y2⟩), (.ref [1, 0]), (.ref [1, 1]), (.d ⟨(.int .i64), y3⟩), (.d ⟨(.int .i64), y4⟩), (.d ⟨.bool, y5⟩), (.d ⟨.bool, y6⟩)]), (.d ⟨.bool, y7⟩)]) [([1, 0], ⟨2, 1, (.data (.int .i64) y8)⟩), ([1, 1], ⟨39, 2, (.data (.st [(.int .i64), (.int .i64)]) y9)⟩)]) (fun y0 y1 y2 y3 y4 y5 y6 y7 y8 y9 y10 => k (.tup [(.d ⟨(.st [(.int .i64), (.int .i64)]), y0⟩), (.agg [(.d ⟨(.int .i64), y1⟩), (.d ⟨(.int .i64), y2⟩), (.ref [1, 0]), (.cut [1, 1] 0 y3), (.d ⟨(.int .i64), y4⟩), (.d ⟨(.int .i64), y5⟩), (.d ⟨.bool, y6⟩), (.d ⟨.bool, y7⟩)]), (.d ⟨.bool, y8⟩)]) [([1, 0], ⟨2, 1, (.data (.int .i64) y9)⟩), ([1, 1], ⟨39, 2, (.data (.st [(.int .i64), (.int .i64)]) y10)⟩)]) = some true) : callK Try.prog ht d 16 [(.agg [(.d ⟨(.int .i64), n74⟩), (.d ⟨(.int .i64), n75⟩), (.bv 1 2 (.int .i64) ns76), (.bv 2 39 (.st [(.int .i64), (.int .i64)]) ts77), (.d ⟨(.int .i64), n78⟩), (.d ⟨(.int .i64), n79⟩), (.d ⟨.bool, b80⟩), (.d ⟨.bool, b81⟩)])] [] k = some true := by
  obtain ⟨d, rfl⟩ : ∃ e, d = e + 1 := ⟨d - 1, by omega⟩
  exact fn_ok (c := codeOf Try.f16) Try.func16 (by kernel_rfl) (rec := frames_Next.calls frames_ownv1) (fun g a h k hx => by
    rcases frames_ownv1.look d (by omega) hx with hx | hx
    rotate_left
    · exact hx
    cases hx) (loopf := frames_Next.loops) (by
    have e : loopsOf (frames_Next.loops) 0 (codeOf Try.f16) = [] := by kernel_rfl
    rw [e]
    intro p hp
    cases hp) ((frames_Next.eq frames_ownv1 n74 n75 ns76 ts77 n78 n79 b80 b81 k).trans hx)
theorem frames_Next.look (d : Nat) (hd : 3 ≤ d) {e : Option Bool} {g : FuncId} {a : List AV} {h : Heap} {k : KR} (hx : frames_Next.get frames_Next e g a h k = some true) : e = some true ∨ callK Try.prog ht d g a h k = some true := by
  unfold frames_Next.get at hx
  split at hx
  · exact .inr (frames_Next.ok d hd _ _ _ _ _ _ _ _ _ hx)
  · exact .inl hx
/-- function 21: the loop in block 0 -/
noncomputable def ref01_Longs_L0.body (ref01_Longs_L0 : (List Int) → (List Int) → Int → (Bool → Option Bool) → (Option Bool) → Option Bool) (ns146 : List Int) (ns147 : List Int) (n148 : Int) (k1 : Bool → Option Bool) (k2 : Option Bool) : Option Bool :=
  (cond_ (decide (n148 < (((List.length ns146) : Nat) : Int))) (cond_ ((decide ((0 : Int) ≤ n148)) && (decide (n148 < (((List.length ns146) : Nat) : Int)))) (cond_ ((decide ((0 : Int) ≤ n148)) && (decide (n148 < (((List.length ns147) : Nat) : Int)))) (cond_ ((List.getD ns146 (Int.toNat n148) (0 : Int)) != (List.getD ns147 (Int.toNat n148) (0 : Int))) (k1 false) (ref01_Longs_L0 ns146 ns147 (IntKind.wrap .i64 (n148 + (1 : Int))) k1 k2)) none) none) (k2))
noncomputable def ref01_Longs_L0 : Nat → (List Int) → (List Int) → Int → (Bool → Option Bool) → (Option Bool) → Option Bool
  | 0 => fun _ _ _ _ _ => none
  | n + 1 => ref01_Longs_L0.body (ref01_Longs_L0 n)
noncomputable def ref01_Longs_L0.get (F : (List Int) → (List Int) → Int → (Bool → Option Bool) → (Option Bool) → Option Bool) (e : Option Bool) (st : St) (k : KE) : Option Bool := match st with
  | ⟨sl, hp, m⟩ => match Nat.beq m 2, pickS 26 [0, 1, 5] sl, hp with
    | true, some [(.bv 1 2 (.int .i64) ns146), (.bv 2 2 (.int .i64) ns147), (.d ⟨(.int .i64), n148⟩)], [] => F ns146 ns147 n148 (fun y0 => k .ret ⟨fillS 26 [4] [(.d ⟨.bool, y0⟩)], [], 2⟩) (k (.exit 0) ⟨fillS 26 [] [], [], 2⟩)
    | _, _, _ => e
noncomputable def ref01_Longs_L0.calls : RecF := fun g a h k => none
noncomputable def ref01_Longs_L0.loops : LoopF := fun b => none
set_option maxRecDepth 100000 in
theorem ref01_Longs_L0.step (S : (List Int) → (List Int) → Int → (Bool → Option Bool) → (Option Bool) → Option Bool) (ns146 : List Int) (ns147 : List Int) (n148 : Int) (k : KE) : execL Try.prog ht 21 (callfOf (ref01_Longs_L0.calls)) (ref01_Longs_L0.loops) 0 (loopAt 0 (codeOf Try.f21)) ⟨fillS 26 [0, 1, 5] [(.bv 1 2 (.int .i64) ns146), (.bv 2 2 (.int .i64) ns147), (.d ⟨(.int .i64), n148⟩)], [], 2⟩ (again (ref01_Longs_L0.get S none) (plan Try.prog (ht 21 0)) k) = ref01_Longs_L0.body S ns146 ns147 n148 (fun y0 => k .ret ⟨fillS 26 [4] [(.d ⟨.bool, y0⟩)], [], 2⟩) (k (.exit 0) ⟨fillS 26 [] [], [], 2⟩) := by kernel_rfl
theorem ref01_Longs_L0.ok (d : Nat) (hd : 0 ≤ d) : ∀ n st k, ref01_Longs_L0.get (ref01_Longs_L0 n) none st k = some true → iter n (plan Try.prog (ht 21 0)) (fun st k => execK Try.prog ht 21 (callfOf (callK Try.prog ht d)) 0 (loopAt 0 (codeOf Try.f21)) st k) st k = some true :=
  loop_ok (lfn := fun n st k => ref01_Longs_L0.get (ref01_Longs_L0 n) none st k) (rec := ref01_Longs_L0.calls) (fun g a h k hx => by
    cases hx) (loopf := ref01_Longs_L0.loops) (by
    have e : loopsOf (ref01_Longs_L0.loops) 0 (loopAt 0 (codeOf Try.f21)) = [] := by kernel_rfl
    rw [e]
    intro p hp
    cases hp) (fun st k h => by
    obtain ⟨sl, hp, m⟩ := st
    unfold ref01_Longs_L0.get at h
    dsimp only at h
    split at h
    · have h' : (none : Option Bool) = some true := h
      cases h'
    · cases h) (fun n st k h => by
    obtain ⟨sl, hp, m⟩ := st
    unfold ref01_Longs_L0.get at h
    dsimp only at h
    split at h
    · rename_i h1 h2
      obtain rfl := pickS_ok h2
      obtain rfl := Nat.eq_of_beq_eq_true h1
      exact (ref01_Longs_L0.step (ref01_Longs_L0 n) _ _ _ k).trans h
    · cases h)
theorem ref01_Longs_L0.look {F : (List Int) → (List Int) → Int → (Bool → Option Bool) → (Option Bool) → Option Bool} {e : Option Bool} {st : St} {k : KE} (hx : ref01_Longs_L0.get F e st k = some true) : e = some true ∨ ref01_Longs_L0.get F none st k = some true := by
  obtain ⟨sl, hp, m⟩ := st
  unfold ref01_Longs_L0.get at hx ⊢
  dsimp only at hx ⊢
  split at hx
  · exact .inr hx
  · exact .inl hx
/-- function 21: sheerleg/sheerlegref01.Longs -/
noncomputable def ref01_Longs.body (ref01_Longs_L0 : (List Int) → (List Int) → Int → (Bool → Option Bool) → (Option Bool) → Option Bool) (ns144 : List Int) (ns145 : List Int) (k1 : Bool → Option Bool) : Option Bool :=
  (cond_ ((((List.length ns144) : Nat) : Int) != (((List.length ns145) : Nat) : Int)) (k1 false) (ref01_Longs_L0 ns144 ns145 (0 : Int)
  (fun b149 => (k1 b149))
  (k1 true)))
noncomputable def ref01_Longs (ns144 : List Int) (ns145 : List Int) (k1 : Bool → Option Bool) : Option Bool := ref01_Longs.body (ref01_Longs_L0 ROUNDS) ns144 ns145 k1
noncomputable def ref01_Longs.get (F : (List Int) → (List Int) → (Bool → Option Bool) → Option Bool) (e : Option Bool) (g : FuncId) (a : List AV) (h : Heap) (k : KR) : Option Bool := match g, a, h with
  | 21, [(.bv 1 2 (.int .i64) ns144), (.bv 2 2 (.int .i64) ns145)], [] => F ns144 ns145 (fun y0 => k (.d ⟨.bool, y0⟩) [])
  | _, _, _ => e
noncomputable def ref01_Longs.calls : RecF := fun g a h k => none
noncomputable def ref01_Longs.loops (L0 : (List Int) → (List Int) → Int → (Bool → Option Bool) → (Option Bool) → Option Bool) : LoopF := fun b => match Nat.beq b 0 with | true => some (fun st k => (ref01_Longs_L0.get L0 none st k)) | false => none
set_option maxRecDepth 100000 in
theorem ref01_Longs.eq (L0 : (List Int) → (List Int) → Int → (Bool → Option Bool) → (Option Bool) → Option Bool) (ns144 : List Int) (ns145 : List Int) (k : KR) : execL Try.prog ht 21 (callfOf (ref01_Longs.calls)) (ref01_Longs.loops L0) 0 (codeOf Try.f21) ⟨[(.bv 1 2 (.int .i64) ns144), (.bv 2 2 (.int .i64) ns145)] ++ List.replicate (Try.f21.ntmps - ([(.bv 1 2 (.int .i64) ns144), (.bv 2 2 (.int .i64) ns145)] : List AV).length) .undef, [], 2⟩ (leave Try.prog Try.f21 k) = ref01_Longs.body L0 ns144 ns145 (fun y0 => k (.d ⟨.bool, y0⟩) []) := by kernel_rfl
theorem ref01_Longs.ok (d : Nat) (hd : 1 ≤ d) (ns144 : List Int) (ns145 : List Int) (k : KR) (hx : ref01_Longs ns144 ns145 (fun y0 => k (.d ⟨.bool, y0⟩) []) = some true) : callK Try.prog ht d 21 [(.bv 1 2 (.int .i64) ns144), (.bv 2 2 (.int .i64) ns145)] [] k = some true := by
  obtain ⟨d, rfl⟩ : ∃ e, d = e + 1 := ⟨d - 1, by omega⟩
  exact fn_ok (c := codeOf Try.f21) Try.func21 (by kernel_rfl) (rec := ref01_Longs.calls) (fun g a h k hx => by
    cases hx) (loopf := ref01_Longs.loops (ref01_Longs_L0 ROUNDS)) (by
    have e : loopsOf (ref01_Longs.loops (ref01_Longs_L0 ROUNDS)) 0 (codeOf Try.f21) = [(0, loopAt 0 (codeOf Try.f21))] := by kernel_rfl
    rw [e]
    intro p hp
    simp only [List.mem_cons, List.not_mem_nil, or_false] at hp
    rcases hp with rfl
    · refine loopRef_of (callf := callfOf (callK Try.prog ht d)) (callfOf_ref (callK_mono d)) fun lf st k hb hx => ?_
      cases hb
      rcases ref01_Longs_L0.look hx with hx | hx
      rotate_left
      · exact ref01_Longs_L0.ok d (by omega) _ _ _ hx
      cases hx) ((ref01_Longs.eq (ref01_Longs_L0 ROUNDS) ns144 ns145 k).trans hx)
theorem ref01_Longs.look (d : Nat) (hd : 1 ≤ d) {e : Option Bool} {g : FuncId} {a : List AV} {h : Heap} {k : KR} (hx : ref01_Longs.get ref01_Longs e g a h k = some true) : e = some true ∨ callK Try.prog ht d g a h k = some true := by
  unfold ref01_Longs.get at hx
  split at hx
  · exact .inr (ref01_Longs.ok d hd _ _ _ hx)
  · exact .inl hx
/-- function 9: the loop in block 0 -/
noncomputable def ref36_Same_L0.body (ref36_Same_L0 : Int → Int → Int → (List Int) → (List (Int × Int × Unit)) → Int → Int → Bool → Bool → Int → Int → (List Int) → (List (Int × Int × Unit)) → Int → Int → Bool → Bool → (Bool → Option Bool) → (Option Bool) → Option Bool) (n151 : Int) (n152 : Int) (n153 : Int) (ns154 : List Int) (ts155 : List (Int × Int × Unit)) (n156 : Int) (n157 : Int) (b158 : Bool) (b159 : Bool) (n160 : Int) (n161 : Int) (ns162 : List Int) (ts163 : List (Int × Int × Unit)) (n164 : Int) (n165 : Int) (b166 : Bool) (b167 : Bool) (k1 : Bool → Option Bool) (k2 : Option Bool) : Option Bool :=
  (cond_ (decide (n151 < (((List.length ts155) : Nat) : Int))) (cond_ ((decide ((0 : Int) ≤ n151)) && (decide (n151 < (((List.length ts155) : Nat) : Int)))) (cond_ ((decide ((0 : Int) ≤ n151)) && (decide (n151 < (((List.length ts163) : Nat) : Int)))) (cond_ (! (((List.getD ts155 (Int.toNat n151) ((0 : Int), ((0 : Int), ()))).1 == (List.getD ts163 (Int.toNat n151) ((0 : Int), ((0 : Int), ()))).1) && (((List.getD ts155 (Int.toNat n151) ((0 : Int), ((0 : Int), ()))).2.1 == (List.getD ts163 (Int.toNat n151) ((0 : Int), ((0 : Int), ()))).2.1) && true))) (k1 false) (ref36_Same_L0 (IntKind.wrap .i64 (n151 + (1 : Int))) n152 n153 ns154 ts155 n156 n157 b158 b159 n160 n161 ns162 ts163 n164 n165 b166 b167 k1 k2)) none) none) (k2))
noncomputable def ref36_Same_L0 : Nat → Int → Int → Int → (List Int) → (List (Int × Int × Unit)) → Int → Int → Bool → Bool → Int → Int → (List Int) → (List (Int × Int × Unit)) → Int → Int → Bool → Bool → (Bool → Option Bool) → (Option Bool) → Option Bool
  | 0 => fun _ _ _ _ _ _ _ _ _ _ _ _ _ _ _ _ _ _ _ => none
  | n + 1 => ref36_Same_L0.body (ref36_Same_L0 n)
noncomputable def ref36_Same_L0.get (F : Int → Int → Int → (List Int) → (List (Int × Int × Unit)) → Int → Int → Bool → Bool → Int → Int → (List Int) → (List (Int × Int × Unit)) → Int → Int → Bool → Bool → (Bool → Option Bool) → (Option Bool) → Option Bool) (e : Option Bool) (st : St) (k : KE) : Option Bool := match st with
  | ⟨sl, hp, m⟩ => match Nat.beq m 2, pickS 81 [2, 3, 5] sl, hp with
    | true, some [(.ptr [1, 0] 0 0), (.ptr [1, 1] 0 0), (.d ⟨(.int .i64), n151⟩)], [([1, 0], ⟨34, 8, (.mix [(.agg [(.d ⟨(.int .i64), n152⟩), (.d ⟨(.int .i64), n153⟩), (.bv 1 2 (.int .i64) ns154), (.bv 2 39 (.st [(.int .i64), (.int .i64)]) ts155), (.d ⟨(.int .i64), n156⟩), (.d ⟨(.int .i64), n157⟩), (.d ⟨.bool, b158⟩), (.d ⟨.bool, b159⟩)])])⟩), ([1, 1], ⟨34, 8, (.mix [(.agg [(.d ⟨(.int .i64), n160⟩), (.d ⟨(.int .i64), n161⟩), (.bv 3 2 (.int .i64) ns162), (.bv 4 39 (.st [(.int .i64), (.int .i64)]) ts163), (.d ⟨(.int .i64), n164⟩), (.d ⟨(.int .i64), n165⟩), (.d ⟨.bool, b166⟩), (.d ⟨.bool, b167⟩)])])⟩)] => F n151 n152 n153 ns154 ts155 n156 n157 b158 b159 n160 n161 ns162 ts163 n164 n165 b166 b167 (fun y0 => k .ret ⟨fillS 81 [4] [(.d ⟨.bool, y0⟩)], [], 2⟩) (k (.exit 0) ⟨fillS 81 [] [], [], 2⟩)
    | _, _, _ => e
noncomputable def ref36_Same_L0.calls : RecF := fun g a h k => none
noncomputable def ref36_Same_L0.loops : LoopF := fun b => none
set_option maxRecDepth 100000 in
theorem ref36_Same_L0.step (S : Int → Int → Int → (List Int) → (List (Int × Int × Unit)) → Int → Int → Bool → Bool → Int → Int → (List Int) → (List (Int × Int × Unit)) → Int → Int → Bool → Bool → (Bool → Option Bool) → (Option Bool) → Option Bool) (n151 : Int) (n152 : Int) (n153 : Int) (ns154 : List Int) (ts155 : List (Int × Int × Unit)) (n156 : Int) (n157 : Int) (b158 : Bool) (b159 : Bool) (n160 : Int) (n161 : Int) (ns162 : List Int) (ts163 : List (Int × Int × Unit)) (n164 : Int) (n165 : Int) (b166 : Bool) (b167 : Bool) (k : KE) : execL Try.prog ht 9 (callfOf (ref36_Same_L0.calls)) (ref36_Same_L0.loops) 0 (loopAt 0 (codeOf Try.f9)) ⟨fillS 81 [2, 3, 5] [(.ptr [1, 0] 0 0), (.ptr [1, 1] 0 0), (.d ⟨(.int .i64), n151⟩)], [([1, 0], ⟨34, 8, (.mix [(.agg [(.d ⟨(.int .i64), n152⟩), (.d ⟨(.int .i64), n153⟩), (.bv 1 2 (.int .i64) ns154), (.bv 2 39 (.st [(.int .i64), (.int .i64)]) ts155), (.d ⟨(.int .i64), n156⟩), (.d ⟨(.int .i64), n157⟩), (.d ⟨.bool, b158⟩), (.d ⟨.bool, b159⟩)])])⟩), ([1, 1], ⟨34, 8, (.mix [(.agg [(.d ⟨(.int .i64), n160⟩), (.d ⟨(.int .i64), n161⟩), (.bv 3 2 (.int .i64) ns162), (.bv 4 39 (.st [(.int .i64), (.int .i64)]) ts163), (.d ⟨(.int .i64), n164⟩), (.d ⟨(.int .i64), n165⟩), (.d ⟨.bool, b166⟩), (.d ⟨.bool, b167⟩)])])⟩)], 2⟩ (again (ref36_Same_L0.get S none) (plan Try.prog (ht 9 0)) k) = ref36_Same_L0.body S n151 n152 n153 ns154 ts155 n156 n157 b158 b159 n160 n161 ns162 ts163 n164 n165 b166 b167 (fun y0 => k .ret ⟨fillS 81 [4] [(.d ⟨.bool, y0⟩)], [], 2⟩) (k (.exit 0) ⟨fillS 81 [] [], [], 2⟩) := by kernel_rfl
theorem ref36_Same_L0.ok (d : Nat) (hd : 0 ≤ d) : ∀ n st k, ref36_Same_L0.get (ref36_Same_L0 n) none st k = some true → iter n (plan Try.prog (ht 9 0)) (fun st k => execK Try.prog ht 9 (callfOf (callK Try.prog ht d)) 0 (loopAt 0 (codeOf Try.f9)) st k) st k = some true :=
  loop_ok (lfn := fun n st k => ref36_Same_L0.get (ref36_Same_L0 n) none st k) (rec := ref36_Same_L0.calls) (fun g a h k hx => by
    cases hx) (loopf := ref36_Same_L0.loops) (by
    have e : loopsOf (ref36_Same_L0.loops) 0 (loopAt 0 (codeOf Try.f9)) = [] := by kernel_rfl
    rw [e]
    intro p hp
    cases hp) (fun st k h => by
    obtain ⟨sl, hp, m⟩ := st
    unfold ref36_Same_L0.get at h
    dsimp only at h
    split at h
    · have h' : (none : Option Bool) = some true := h
      cases h'
    · cases h) (fun n st k h => by
    obtain ⟨sl, hp, m⟩ := st
    unfold ref36_Same_L0.get at h
    dsimp only at h
    split at h
    · rename_i h1 h2
      obtain rfl := pickS_ok h2
      obtain rfl := Nat.eq_of_beq_eq_true h1
      exact (ref36_Same_L0.step (ref36_Same_L0 n) _ _ _ _ _ _ _ _ _ _ _ _ _ _ _ _ _ k).trans h
    · cases h)
theorem ref36_Same_L0.look {F : Int → Int → Int → (List Int) → (List (Int × Int × Unit)) → Int → Int → Bool → Bool → Int → Int → (List Int) → (List (Int × Int × Unit)) → Int → Int → Bool → Bool → (Bool → Option Bool) → (Option Bool) → Option Bool} {e : Option Bool} {st : St} {k : KE} (hx : ref36_Same_L0.get F e st k = some true) : e = some true ∨ ref36_Same_L0.get F none st k = some true := by
  obtain ⟨sl, hp, m⟩ := st
  unfold ref36_Same_L0.get at hx ⊢
  dsimp only at hx ⊢
  split at hx
  · exact .inr hx
  · exact .inl hx
/-- function 9: sheerleg/sheerlegref36.Same -/
noncomputable def ref36_Same.body (ref01_Longs : (List Int) → (List Int) → (Bool → Option Bool) → Option Bool) (ref36_Same_L0 : Int → Int → Int → (List Int) → (List (Int × Int × Unit)) → Int → Int → Bool → Bool → Int → Int → (List Int) → (List (Int × Int × Unit)) → Int → Int → Bool → Bool → (Bool → Option Bool) → (Option Bool) → Option Bool) (n128 : Int) (n129 : Int) (ns130 : List Int) (ts131 : List (Int × Int × Unit)) (n132 : Int) (n133 : Int) (b134 : Bool) (b135 : Bool) (n136 : Int) (n137 : Int) (ns138 : List Int) (ts139 : List (Int × Int × Unit)) (n140 : Int) (n141 : Int) (b142 : Bool) (b143 : Bool) (k1 : Bool → Option Bool) : Option Bool :=
  (cond_ (! (n128 != n136)) (cond_ (! (n129 != n137)) (ref01_Longs ns130 ns138
  (fun b150 => (cond_ (! (! b150)) (cond_ (! (n132 != n140)) (cond_ (! (n133 != n141)) (cond_ (! (! (b134 == b142))) (cond_ (! (! (b135 == b143))) (cond_ ((((List.length ts131) : Nat) : Int) != (((List.length ts139) : Nat) : Int)) (k1 false) (ref36_Same_L0 (0 : Int) n128 n129 ns130 ts131 n132 n133 b134 b135 n136 n137 ns138 ts139 n140 n141 b142 b143
  (fun b168 => (k1 b168))
  (k1 true))) (k1 false)) (k1 false)) (k1 false)) (k1 false)) (k1 false)))) (k1 false)) (k1 false))
noncomputable def ref36_Same (n128 : Int) (n129 : Int) (ns130 : List Int) (ts131 : List (Int × Int × Unit)) (n132 : Int) (n133 : Int) (b134 : Bool) (b135 : Bool) (n136 : Int) (n137 : Int) (ns138 : List Int) (ts139 : List (Int × Int × Unit)) (n140 : Int) (n141 : Int) (b142 : Bool) (b143 : Bool) (k1 : Bool → Option Bool) : Option Bool := ref36_Same.body ref01_Longs (ref36_Same_L0 ROUNDS) n128 n129 ns130 ts131 n132 n133 b134 b135 n136 n137 ns138 ts139 n140 n141 b142 b143 k1
noncomputable def ref36_Same.get (F : Int → Int → (List Int) → (List (Int × Int × Unit)) → Int → Int → Bool → Bool → Int → Int → (List Int) → (List (Int × Int × Unit)) → Int → Int → Bool → Bool → (Bool → Option Bool) → Option Bool) (e : Option Bool) (g : FuncId) (a : List AV) (h : Heap) (k : KR) : Option Bool := match g, a, h with
  | 9, [(.agg [(.d ⟨(.int .i64), n128⟩), (.d ⟨(.int .i64), n129⟩), (.bv 1 2 (.int .i64) ns130), (.bv 2 39 (.st [(.int .i64), (.int .i64)]) ts131), (.d ⟨(.int .i64), n132⟩), (.d ⟨(.int .i64), n133⟩), (.d ⟨.bool, b134⟩), (.d ⟨.bool, b135⟩)]), (.agg [(.d ⟨(.int .i64), n136⟩), (.d ⟨(.int .i64), n137⟩), (.bv 3 2 (.int .i64) ns138), (.bv 4 39 (.st [(.int .i64), (.int .i64)]) ts139), (.d ⟨(.int .i64), n140⟩), (.d ⟨(.int .i64), n141⟩), (.d ⟨.bool, b142⟩), (.d ⟨.bool, b143⟩)])], [] => F n128 n129 ns130 ts131 n132 n133 b134 b135 n136 n137 ns138 ts139 n140 n141 b142 b143 (fun y0 => k (.d ⟨.bool, y0⟩) [])
  | _, _, _ => e
noncomputable def ref36_Same.calls (F0 : (List Int) → (List Int) → (Bool → Option Bool) → Option Bool) : RecF := fun g a h k => (ref01_Longs.get F0 none g a h k)
noncomputable def ref36_Same.loops (L0 : Int → Int → Int → (List Int) → (List (Int × Int × Unit)) → Int → Int → Bool → Bool → Int → Int → (List Int) → (List (Int × Int × Unit)) → Int → Int → Bool → Bool → (Bool → Option Bool) → (Option Bool) → Option Bool) : LoopF := fun b => match Nat.beq b 0 with | true => some (fun st k => (ref36_Same_L0.get L0 none st k)) | false => none
set_option maxRecDepth 100000 in
theorem ref36_Same.eq (F0 : (List Int) → (List Int) → (Bool → Option Bool) → Option Bool) (L0 : Int → Int → Int → (List Int) → (List (Int × Int × Unit)) → Int → Int → Bool → Bool → Int → Int → (List Int) → (List (Int × Int × Unit)) → Int → Int → Bool → Bool → (Bool → Option Bool) → (Option Bool) → Option Bool) (n128 : Int) (n129 : Int) (ns130 : List Int) (ts131 : List (Int × Int × Unit)) (n132 : Int) (n133 : Int) (b134 : Bool) (b135 : Bool) (n136 : Int) (n137 : Int) (ns138 : List Int) (ts139 : List (Int × Int × Unit)) (n140 : Int) (n141 : Int) (b142 : Bool) (b143 : Bool) (k : KR) : execL Try.prog ht 9 (callfOf (ref36_Same.calls F0)) (ref36_Same.loops L0) 0 (codeOf Try.f9) ⟨[(.agg [(.d ⟨(.int .i64), n128⟩), (.d ⟨(.int .i64), n129⟩), (.bv 1 2 (.int .i64) ns130), (.bv 2 39 (.st [(.int .i64), (.int .i64)]) ts131), (.d ⟨(.int .i64), n132⟩), (.d ⟨(.int .i64), n133⟩), (.d ⟨.bool, b134⟩), (.d ⟨.bool, b135⟩)]), (.agg [(.d ⟨(.int .i64), n136⟩), (.d ⟨(.int .i64), n137⟩), (.bv 3 2 (.int .i64) ns138), (.bv 4 39 (.st [(.int .i64), (.int .i64)]) ts139), (.d ⟨(.int .i64), n140⟩), (.d ⟨(.int .i64), n141⟩), (.d ⟨.bool, b142⟩), (.d ⟨.bool, b143⟩)])] ++ List.replicate (Try.f9.ntmps - ([(.agg [(.d ⟨(.int .i64), n128⟩), (.d ⟨(.int .i64), n129⟩), (.bv 1 2 (.int .i64) ns130), (.bv 2 39 (.st [(.int .i64), (.int .i64)]) ts131), (.d ⟨(.int .i64), n132⟩), (.d ⟨(.int .i64), n133⟩), (.d ⟨.bool, b134⟩), (.d ⟨.bool, b135⟩)]), (.agg [(.d ⟨(.int .i64), n136⟩), (.d ⟨(.int .i64), n137⟩), (.bv 3 2 (.int .i64) ns138), (.bv 4 39 (.st [(.int .i64), (.int .i64)]) ts139), (.d ⟨(.int .i64), n140⟩), (.d ⟨(.int .i64), n141⟩), (.d ⟨.bool, b142⟩), (.d ⟨.bool, b143⟩)])] : List AV).length) .undef, [], 2⟩ (leave Try.prog Try.f9 k) = ref36_Same.body F0 L0 n128 n129 ns130 ts131 n132 n133 b134 b135 n136 n137 ns138 ts139 n140 n141 b142 b143 (fun y0 => k (.d ⟨.bool, y0⟩) []) := by kernel_rfl
theorem ref36_Same.ok (d : Nat) (hd : 2 ≤ d) (n128 : Int) (n129 : Int) (ns130 : List Int) (ts131 : List (Int × Int × Unit)) (n132 : Int) (n133 : Int) (b134 : Bool) (b135 : Bool) (n136 : Int) (n137 : Int) (ns138 : List Int) (ts139 : List (Int × Int × Unit)) (n140 : Int) (n141 : Int) (b142 : Bool) (b143 : Bool) (k : KR) (hx : ref36_Same n128 n129 ns130 ts131 n132 n133 b134 b135 n136 n137 ns138 ts139 n140 n141 b142 b143 (fun y0 => k (.d ⟨.bool, y0⟩) []) = some true) : callK Try.prog ht d 9 [(.agg [(.d ⟨(.int .i64), n128⟩), (.d ⟨(.int .i64), n129⟩), (.bv 1 2 (.int .i64) ns130), (.bv 2 39 (.st [(.int .i64), (.int .i64)]) ts131), (.d ⟨(.int .i64), n132⟩), (.d ⟨(.int .i64), n133⟩), (.d ⟨.bool, b134⟩), (.d ⟨.bool, b135⟩)]), (.agg [(.d ⟨(.int .i64), n136⟩), (.d ⟨(.int .i64), n137⟩), (.bv 3 2 (.int .i64) ns138), (.bv 4 39 (.st [(.int .i64), (.int .i64)]) ts139), (.d ⟨(.int .i64), n140⟩), (.d ⟨(.int .i64), n141⟩), (.d ⟨.bool, b142⟩), (.d ⟨.bool, b143⟩)])] [] k = some true := by
  obtain ⟨d, rfl⟩ : ∃ e, d = e + 1 := ⟨d - 1, by omega⟩
  exact fn_ok (c := codeOf Try.f9) Try.func9 (by kernel_rfl) (rec := ref36_Same.calls ref01_Longs) (fun g a h k hx => by
    rcases ref01_Longs.look d (by omega) hx with hx | hx
    rotate_left
    · exact hx
    cases hx) (loopf := ref36_Same.loops (ref36_Same_L0 ROUNDS)) (by
    have e : loopsOf (ref36_Same.loops (ref36_Same_L0 ROUNDS)) 0 (codeOf Try.f9) = [(0, loopAt 0 (codeOf Try.f9))] := by kernel_rfl
    rw [e]
    intro p hp
    simp only [List.mem_cons, List.not_mem_nil, or_false] at hp
    rcases hp with rfl
    · refine loopRef_of (callf := callfOf (callK Try.prog ht d)) (callfOf_ref (callK_mono d)) fun lf st k hb hx => ?_
      cases hb
      rcases ref36_Same_L0.look hx with hx | hx
      rotate_left
      · exact ref36_Same_L0.ok d (by omega) _ _ _ hx
      cases hx) ((ref36_Same.eq ref01_Longs (ref36_Same_L0 ROUNDS) n128 n129 ns130 ts131 n132 n133 b134 b135 n136 n137 ns138 ts139 n140 n141 b142 b143 k).trans hx)
theorem ref36_Same.look (d : Nat) (hd : 2 ≤ d) {e : Option Bool} {g : FuncId} {a : List AV} {h : Heap} {k : KR} (hx : ref36_Same.get ref36_Same e g a h k = some true) : e = some true ∨ callK Try.prog ht d g a h k = some true := by
  unfold ref36_Same.get at hx
  split at hx
  · exact .inr (ref36_Same.ok d hd _ _ _ _ _ _ _ _ _ _ _ _ _ _ _ _ _ hx)
  · exact .inl hx
/-- function 5: sheerleg/sheerleglaw36.FramesApart -/
noncomputable def law36_FramesApart.body (law36_few : (Int × Int × (List Int) × (List (Int × Int × Unit)) × Int × Int × Bool × Bool × Unit) → (Bool → Option Bool) → Option Bool) (law36_known : (Bool → Option Bool) → Option Bool) (frames_Defer : (Int × Int × (List Int) × (List (Int × Int × Unit)) × Int × Int × Bool × Bool × Unit) → (Int × Int × Unit) → (Int → Int → Int → Int → Bool → Bool → (List Int) → (List (Int × Int × Unit)) → Option Bool) → Option Bool) (frames_Deferv1 : Int → Int → (List Int) → (List (Int × Int × Unit)) → Int → Int → Bool → Bool → (Int × Int × Unit) → (Int → Int → Int → Int → Bool → Bool → (List Int) → (List (Int × Int × Unit)) → Option Bool) → Option Bool) (frames_Next : Int → Int → (List Int) → (List (Int × Int × Unit)) → Int → Int → Bool → Bool → ((Int × Int × Unit) → Int → Int → Int → Int → Bool → Bool → Bool → (List Int) → (List (Int × Int × Unit)) → Option Bool) → ((Int × Int × Unit) → Int → Int → Nat → Int → Int → Bool → Bool → Bool → (List Int) → (List (Int × Int × Unit)) → Option Bool) → Option Bool) (ref36_Same : Int → Int → (List Int) → (List (Int × Int × Unit)) → Int → Int → Bool → Bool → Int → Int → (List Int) → (List (Int × Int × Unit)) → Int → Int → Bool → Bool → (Bool → Option Bool) → Option Bool) (t0 : Int × Int × (List Int) × (List (Int × Int × Unit)) × Int × Int × Bool × Bool × Unit) (t1 : Int × Int × Unit) (t2 : Int × Int × Unit) (k1 : Bool → Option Bool) : Option Bool :=
  (law36_few t0
  (fun b4 => (cond_ (! b4) (law36_known
  (fun b5 => (k1 b5))) (frames_Defer t0 t1
  (fun n21 n22 n23 n24 b25 b26 ns27 ts28 => (frames_Defer t0 t2
  (fun n29 n30 n31 n32 b33 b34 ns35 ts36 => (frames_Deferv1 n21 n22 ns27 ts28 n23 n24 b25 b26 t2
  (fun n66 n67 n68 n69 b70 b71 ns72 ts73 => (frames_Next n21 n22 ns27 ts28 n23 n24 b25 b26
  (fun t90 n91 n92 n93 n94 b95 b96 b97 ns98 ts99 => (frames_Next n29 n30 ns35 ts36 n31 n32 b33 b34
  (fun t100 n101 n102 n103 n104 b105 b106 b107 ns108 ts109 => (frames_Next n66 n67 ns72 ts73 n68 n69 b70 b71
  (fun t110 n111 n112 n113 n114 b115 b116 b117 ns118 ts119 => (frames_Deferv1 n111 n112 ns118 ts119 n113 n114 b115 b116 t2
  (fun n120 n121 n122 n123 b124 b125 ns126 ts127 => (cond_ ((t90.1 == t1.1) && ((t90.2.1 == t1.2.1) && true)) (cond_ ((t100.1 == t2.1) && ((t100.2.1 == t2.2.1) && true)) (cond_ ((t110.1 == t2.1) && ((t110.2.1 == t2.2.1) && true)) (ref36_Same n111 n112 ns118 ts119 n113 n114 b115 b116 n21 n22 ns27 ts28 n23 n24 b25 b26
  (fun b169 => (cond_ b169 (ref36_Same n120 n121 ns126 ts127 n122 n123 b124 b125 n66 n67 ns72 ts73 n68 n69 b70 b71
  (fun b170 => (cond_ b170 (law36_known
  (fun b171 => (k1 b171))) (k1 false)))) (k1 false)))) (k1 false)) (k1 false)) (k1 false)))))
  (fun t172 n173 n174 m175 n176 n177 b178 b179 b180 ns181 ts182 => (frames_Deferv1 n173 n174 ns181 (List.take m175 (List.drop (0 : Nat) ts182)) n176 n177 b178 b179 t2
  (fun n183 n184 n185 n186 b187 b188 ns189 ts190 => (cond_ ((t90.1 == t1.1) && ((t90.2.1 == t1.2.1) && true)) (cond_ ((t100.1 == t2.1) && ((t100.2.1 == t2.2.1) && true)) (cond_ ((t172.1 == t2.1) && ((t172.2.1 == t2.2.1) && true)) (ref36_Same n173 n174 ns181 (List.take m175 (List.drop (0 : Nat) ts182)) n176 n177 b178 b179 n21 n22 ns27 ts28 n23 n24 b25 b26
  (fun b191 => (cond_ b191 (ref36_Same n183 n184 ns189 ts190 n185 n186 b187 b188 n66 n67 ns72 ts73 n68 n69 b70 b71
  (fun b192 => (cond_ b192 (law36_known
  (fun b193 => (k1 b193))) (k1 false)))) (k1 false)))) (k1 false)) (k1 false)) (k1 false)))))))
  (fun t194 n195 n196 m197 n198 n199 b200 b201 b202 ns203 ts204 => (frames_Next n66 n67 ns72 ts73 n68 n69 b70 b71
  (fun t205 n206 n207 n208 n209 b210 b211 b212 ns213 ts214 => (frames_Deferv1 n206 n207 ns213 ts214 n208 n209 b210 b211 t2
  (fun n215 n216 n217 n218 b219 b220 ns221 ts222 => (cond_ ((t90.1 == t1.1) && ((t90.2.1 == t1.2.1) && true)) (cond_ ((t194.1 == t2.1) && ((t194.2.1 == t2.2.1) && true)) (cond_ ((t205.1 == t2.1) && ((t205.2.1 == t2.2.1) && true)) (ref36_Same n206 n207 ns213 ts214 n208 n209 b210 b211 n21 n22 ns27 ts28 n23 n24 b25 b26
  (fun b223 => (cond_ b223 (ref36_Same n215 n216 ns221 ts222 n217 n218 b219 b220 n66 n67 ns72 ts73 n68 n69 b70 b71
  (fun b224 => (cond_ b224 (law36_known
  (fun b225 => (k1 b225))) (k1 false)))) (k1 false)))) (k1 false)) (k1 false)) (k1 false)))))
  (fun t226 n227 n228 m229 n230 n231 b232 b233 b234 ns235 ts236 => (frames_Deferv1 n227 n228 ns235 (List.take m229 (List.drop (0 : Nat) ts236)) n230 n231 b232 b233 t2
  (fun n237 n238 n239 n240 b241 b242 ns243 ts244 => (cond_ ((t90.1 == t1.1) && ((t90.2.1 == t1.2.1) && true)) (cond_ ((t194.1 == t2.1) && ((t194.2.1 == t2.2.1) && true)) (cond_ ((t226.1 == t2.1) && ((t226.2.1 == t2.2.1) && true)) (ref36_Same n227 n228 ns235 (List.take m229 (List.drop (0 : Nat) ts236)) n230 n231 b232 b233 n21 n22 ns27 ts28 n23 n24 b25 b26
  (fun b245 => (cond_ b245 (ref36_Same n237 n238 ns243 ts244 n239 n240 b241 b242 n66 n67 ns72 ts73 n68 n69 b70 b71
  (fun b246 => (cond_ b246 (law36_known
  (fun b247 => (k1 b247))) (k1 false)))) (k1 false)))) (k1 false)) (k1 false)) (k1 false)))))))))
  (fun t248 n249 n250 m251 n252 n253 b254 b255 b256 ns257 ts258 => (frames_Next n29 n30 ns35 ts36 n31 n32 b33 b34
  (fun t259 n260 n261 n262 n263 b264 b265 b266 ns267 ts268 => (frames_Next n66 n67 ns72 ts73 n68 n69 b70 b71
  (fun t269 n270 n271 n272 n273 b274 b275 b276 ns277 ts278 => (frames_Deferv1 n270 n271 ns277 ts278 n272 n273 b274 b275 t2
  (fun n279 n280 n281 n282 b283 b284 ns285 ts286 => (cond_ ((t248.1 == t1.1) && ((t248.2.1 == t1.2.1) && true)) (cond_ ((t259.1 == t2.1) && ((t259.2.1 == t2.2.1) && true)) (cond_ ((t269.1 == t2.1) && ((t269.2.1 == t2.2.1) && true)) (ref36_Same n270 n271 ns277 ts278 n272 n273 b274 b275 n21 n22 ns27 ts28 n23 n24 b25 b26
  (fun b287 => (cond_ b287 (ref36_Same n279 n280 ns285 ts286 n281 n282 b283 b284 n66 n67 ns72 ts73 n68 n69 b70 b71
  (fun b288 => (cond_ b288 (law36_known
  (fun b289 => (k1 b289))) (k1 false)))) (k1 false)))) (k1 false)) (k1 false)) (k1 false)))))
  (fun t290 n291 n292 m293 n294 n295 b296 b297 b298 ns299 ts300 => (frames_Deferv1 n291 n292 ns299 (List.take m293 (List.drop (0 : Nat) ts300)) n294 n295 b296 b297 t2
  (fun n301 n302 n303 n304 b305 b306 ns307 ts308 => (cond_ ((t248.1 == t1.1) && ((t248.2.1 == t1.2.1) && true)) (cond_ ((t259.1 == t2.1) && ((t259.2.1 == t2.2.1) && true)) (cond_ ((t290.1 == t2.1) && ((t290.2.1 == t2.2.1) && true)) (ref36_Same n291 n292 ns299 (List.take m293 (List.drop (0 : Nat) ts300)) n294 n295 b296 b297 n21 n22 ns27 ts28 n23 n24 b25 b26
  (fun b309 => (cond_ b309 (ref36_Same n301 n302 ns307 ts308 n303 n304 b305 b306 n66 n67 ns72 ts73 n68 n69 b70 b71
  (fun b310 => (cond_ b310 (law36_known
  (fun b311 => (k1 b311))) (k1 false)))) (k1 false)))) (k1 false)) (k1 false)) (k1 false)))))))
  (fun t312 n313 n314 m315 n316 n317 b318 b319 b320 ns321 ts322 => (frames_Next n66 n67 ns72 ts73 n68 n69 b70 b71
  (fun t323 n324 n325 n326 n327 b328 b329 b330 ns331 ts332 => (frames_Deferv1 n324 n325 ns331 ts332 n326 n327 b328 b329 t2
  (fun n333 n334 n335 n336 b337 b338 ns339 ts340 => (cond_ ((t248.1 == t1.1) && ((t248.2.1 == t1.2.1) && true)) (cond_ ((t312.1 == t2.1) && ((t312.2.1 == t2.2.1) && true)) (cond_ ((t323.1 == t2.1) && ((t323.2.1 == t2.2.1) && true)) (ref36_Same n324 n325 ns331 ts332 n326 n327 b328 b329 n21 n22 ns27 ts28 n23 n24 b25 b26
  (fun b341 => (cond_ b341 (ref36_Same n333 n334 ns339 ts340 n335 n336 b337 b338 n66 n67 ns72 ts73 n68 n69 b70 b71
  (fun b342 => (cond_ b342 (law36_known
  (fun b343 => (k1 b343))) (k1 false)))) (k1 false)))) (k1 false)) (k1 false)) (k1 false)))))
  (fun t344 n345 n346 m347 n348 n349 b350 b351 b352 ns353 ts354 => (frames_Deferv1 n345 n346 ns353 (List.take m347 (List.drop (0 : Nat) ts354)) n348 n349 b350 b351 t2
  (fun n355 n356 n357 n358 b359 b360 ns361 ts362 => (cond_ ((t248.1 == t1.1) && ((t248.2.1 == t1.2.1) && true)) (cond_ ((t312.1 == t2.1) && ((t312.2.1 == t2.2.1) && true)) (cond_ ((t344.1 == t2.1) && ((t344.2.1 == t2.2.1) && true)) (ref36_Same n345 n346 ns353 (List.take m347 (List.drop (0 : Nat) ts354)) n348 n349 b350 b351 n21 n22 ns27 ts28 n23 n24 b25 b26
  (fun b363 => (cond_ b363 (ref36_Same n355 n356 ns361 ts362 n357 n358 b359 b360 n66 n67 ns72 ts73 n68 n69 b70 b71
  (fun b364 => (cond_ b364 (law36_known
  (fun b365 => (k1 b365))) (k1 false)))) (k1 false)))) (k1 false)) (k1 false)) (k1 false)))))))))))))))))))
noncomputable def law36_FramesApart (t0 : Int × Int × (List Int) × (List (Int × Int × Unit)) × Int × Int × Bool × Bool × Unit) (t1 : Int × Int × Unit) (t2 : Int × Int × Unit) (k1 : Bool → Option Bool) : Option Bool := law36_FramesApart.body law36_few law36_known frames_Defer frames_Deferv1 frames_Next ref36_Same t0 t1 t2 k1
noncomputable def law36_FramesApart.get (F : (Int × Int × (List Int) × (List (Int × Int × Unit)) × Int × Int × Bool × Bool × Unit) → (Int × Int × Unit) → (Int × Int × Unit) → (Bool → Option Bool) → Option Bool) (e : Option Bool) (g : FuncId) (a : List AV) (h : Heap) (k : KR) : Option Bool := match g, a, h with
  | 5, [(.d ⟨(.st [(.int .i64), (.int .i64), (.sl 2 (.int .i64)), (.sl 39 (.st [(.int .i64), (.int .i64)])), (.int .i64), (.int .i64), .bool, .bool]), t0⟩), (.d ⟨(.st [(.int .i64), (.int .i64)]), t1⟩), (.d ⟨(.st [(.int .i64), (.int .i64)]), t2⟩)], [] => F t0 t1 t2 (fun y0 => k (.d ⟨.bool, y0⟩) [])
  | _, _, _ => e
noncomputable def law36_FramesApart.calls (F0 : (Int × Int × (List Int) × (List (Int × Int × Unit)) × Int × Int × Bool × Bool × Unit) → (Bool → Option Bool) → Option Bool) (F1 : (Bool → Option Bool) → Option Bool) (F2 : (Int × Int × (List Int) × (List (Int × Int × Unit)) × Int × Int × Bool × Bool × Unit) → (Int × Int × Unit) → (Int → Int → Int → Int → Bool → Bool → (List Int) → (List (Int × Int × Unit)) → Option Bool) → Option Bool) (F3 : Int → Int → (List Int) → (List (Int × Int × Unit)) → Int → Int → Bool → Bool → (Int × Int × Unit) → (Int → Int → Int → Int → Bool → Bool → (List Int) → (List (Int × Int × Unit)) → Option Bool) → Option Bool) (F4 : Int → Int → (List Int) → (List (Int × Int × Unit)) → Int → Int → Bool → Bool → ((Int × Int × Unit) → Int → Int → Int → Int → Bool → Bool → Bool → (List Int) → (List (Int × Int × Unit)) → Option Bool) → ((Int × Int × Unit) → Int → Int → Nat → Int → Int → Bool → Bool → Bool → (List Int) → (List (Int × Int × Unit)) → Option Bool) → Option Bool) (F5 : Int → Int → (List Int) → (List (Int × Int × Unit)) → Int → Int → Bool → Bool → Int → Int → (List Int) → (List (Int × Int × Unit)) → Int → Int → Bool → Bool → (Bool → Option Bool) → Option Bool) : RecF := fun g a h k => (law36_few.get F0 (law36_known.get F1 (frames_Defer.get F2 (frames_Deferv1.get F3 (frames_Next.get F4 (ref36_Same.get F5 none g a h k) g a h k) g a h k) g a h k) g a h k) g a h k)
noncomputable def law36_FramesApart.loops : LoopF := fun b => none
set_option maxRecDepth 100000 in
theorem law36_FramesApart.eq (F0 : (Int × Int × (List Int) × (List (Int × Int × Unit)) × Int × Int × Bool × Bool × Unit) → (Bool → Option Bool) → Option Bool) (F1 : (Bool → Option Bool) → Option Bool) (F2 : (Int × Int × (List Int) × (List (Int × Int × Unit)) × Int × Int × Bool × Bool × Unit) → (Int × Int × Unit) → (Int → Int → Int → Int → Bool → Bool → (List Int) → (List (Int × Int × Unit)) → Option Bool) → Option Bool) (F3 : Int → Int → (List Int) → (List (Int × Int × Unit)) → Int → Int → Bool → Bool → (Int × Int × Unit) → (Int → Int → Int → Int → Bool → Bool → (List Int) → (List (Int × Int × Unit)) → Option Bool) → Option Bool) (F4 : Int → Int → (List Int) → (List (Int × Int × Unit)) → Int → Int → Bool → Bool → ((Int × Int × Unit) → Int → Int → Int → Int → Bool → Bool → Bool → (List Int) → (List (Int × Int × Unit)) → Option Bool) → ((Int × Int × Unit) → Int → Int → Nat → Int → Int → Bool → Bool → Bool → (List Int) → (List (Int × Int × Unit)) → Option Bool) → Option Bool) (F5 : Int → Int → (List Int) → (List (Int × Int × Unit)) → Int → Int → Bool → Bool → Int → Int → (List Int) → (List (Int × Int × Unit)) → Int → Int → Bool → Bool → (Bool → Option Bool) → Option Bool) (t0 : Int × Int × (List Int) × (List (Int × Int × Unit)) × Int × Int × Bool × Bool × Unit) (t1 : Int × Int × Unit) (t2 : Int × Int × Unit) (k : KR) : execL Try.prog ht 5 (callfOf (law36_FramesApart.calls F0 F1 F2 F3 F4 F5)) (law36_FramesApart.loops) 0 (codeOf Try.f5) ⟨[(.d ⟨(.st [(.int .i64), (.int .i64), (.sl 2 (.int .i64)), (.sl 39 (.st [(.int .i64), (.int .i64)])), (.int .i64), (.int .i64), .bool, .bool]), t0⟩), (.d ⟨(.st [(.int .i64), (.int .i64)]), t1⟩), (.d ⟨(.st [(.int .i64), (.int .i64)]), t2⟩)] ++ List.replicate (Try.f5.ntmps - ([(.d ⟨(.st [(.int .i64), (.int .i64), (.sl 2 (.int .i64)), (.sl 39 (.st [(.int .i64), (.int .i64)])), (.int .i64), (.int .i64), .bool, .bool]), t0⟩), (.d ⟨(.st [(.int .i64), (.int .i64)]), t1⟩), (.d ⟨(.st [(.int .i64), (.int .i64)]), t2⟩)] : List AV).length) .undef, [], 2⟩ (leave Try.prog Try.f5 k) = law36_FramesApart.body F0 F1 F2 F3 F4 F5 t0 t1 t2 (fun y0 => k (.d ⟨.bool, y0⟩) []) := by kernel_rfl
theorem law36_FramesApart.ok (d : Nat) (hd : 61 ≤ d) (t0 : Int × Int × (List Int) × (List (Int × Int × Unit)) × Int × Int × Bool × Bool × Unit) (t1 : Int × Int × Unit) (t2 : Int × Int × Unit) (k : KR) (hx : law36_FramesApart t0 t1 t2 (fun y0 => k (.d ⟨.bool, y0⟩) []) = some true) : callK Try.prog ht d 5 [(.d ⟨(.st [(.int .i64), (.int .i64), (.sl 2 (.int .i64)), (.sl 39 (.st [(.int .i64), (.int .i64)])), (.int .i64), (.int .i64), .bool, .bool]), t0⟩), (.d ⟨(.st [(.int .i64), (.int .i64)]), t1⟩), (.d ⟨(.st [(.int .i64), (.int .i64)]), t2⟩)] [] k = some true := by
  obtain ⟨d, rfl⟩ : ∃ e, d = e + 1 := ⟨d - 1, by omega⟩
  exact fn_ok (c := codeOf Try.f5) Try.func5 (by kernel_rfl) (rec := law36_FramesApart.calls law36_few law36_known frames_Defer frames_Deferv1 frames_Next ref36_Same) (fun g a h k hx => by
    rcases law36_few.look d (by omega) hx with hx | hx
    rotate_left
    · exact hx
    rcases law36_known.look d (by omega) hx with hx | hx
    rotate_left
    · exact hx
    rcases frames_Defer.look d (by omega) hx with hx | hx
    rotate_left
    · exact hx
    rcases frames_Deferv1.look d (by omega) hx with hx | hx
    rotate_left
    · exact hx
    rcases frames_Next.look d (by omega) hx with hx | hx
    rotate_left
    · exact hx
    rcases ref36_Same.look d (by omega) hx with hx | hx
    rotate_left
    · exact hx
    cases hx) (loopf := law36_FramesApart.loops) (by
    have e : loopsOf (law36_FramesApart.loops) 0 (codeOf Try.f5) = [] := by kernel_rfl
    rw [e]
    intro p hp
    cases hp) ((law36_FramesApart.eq law36_few law36_known frames_Defer frames_Deferv1 frames_Next ref36_Same t0 t1 t2 k).trans hx)
theorem law36_FramesApart.look (d : Nat) (hd : 61 ≤ d) {e : Option Bool} {g : FuncId} {a : List AV} {h : Heap} {k : KR} (hx : law36_FramesApart.get law36_FramesApart e g a h k = some true) : e = some true ∨ callK Try.prog ht d g a h k = some true := by
  unfold law36_FramesApart.get at hx
  split at hx
  · exact .inr (law36_FramesApart.ok d hd _ _ _ _ hx)
  · exact .inl hx
end Go.Proofs.Ytbbpdfogfcffbaa.gA
