/- What the functions come to that G reaches, as plain functions; written by a program of this work, each told by Lean. -/
import Derived.Test.YtbedajhajmkapaaA3
import Derived.Test.YtbedajhajmkapaaChecked
namespace Go.Proofs.Ytbedajhajmkapaa.g
open Go.AX
set_option linter.unusedVariables false
set_option maxRecDepth 100000
set_option maxHeartbeats 4000000
def ht : Hints := hintsOf [(15, [(0, ⟨[0, 3, 19, 20, 21], []⟩), (2, ⟨[0, 35, 36, 37], []⟩), (2000000, ⟨[4], []⟩), (1000000, ⟨[0, 3], []⟩), (1000002, ⟨[0], []⟩)]),
  (29, [(0, ⟨[0, 1, 2, 7, 10], []⟩), (2000000, ⟨[6], []⟩), (1000000, ⟨[0, 2, 7], []⟩)]),
  (18, [(0, ⟨[0, 2, 4, 11, 12], [(.virtP 4 1 2 1)]⟩), (2, ⟨[0, 2, 4, 23, 24], [(.virtP 4 2 51 3)]⟩), (2000000, ⟨[2, 3], [(.giveP 2)]⟩), (1000000, ⟨[0, 2, 4], []⟩), (1000002, ⟨[0, 2, 4], []⟩)]),
  (50, [(0, ⟨[6, 7, 19, 20, 21], []⟩), (2000000, ⟨[4, 5], []⟩), (1000000, ⟨[6, 7], []⟩)]),
  (20, [(0, ⟨[2, 3, 5], []⟩), (2000000, ⟨[4], []⟩), (1000000, ⟨[], []⟩)]),
  (38, [(0, ⟨[0, 1, 5], []⟩), (2000000, ⟨[4], []⟩), (1000000, ⟨[], []⟩)]),
  (19, [(0, ⟨[1, 2, 3, 5, 6, 7], [(.virtP 6 1 2 1)]⟩), (2000000, ⟨[2, 3, 4], [(.giveP 3)]⟩), (1000000, ⟨[1, 2, 3, 6], []⟩)]),
  (37, [(0, ⟨[1, 2, 5, 6, 7], [(.virt 6 51 3)]⟩), (2000000, ⟨[2, 3, 4], []⟩), (1000000, ⟨[1, 2, 6], []⟩)]),
  (35, [(0, ⟨[1, 2, 4, 6, 7], [(.virt 6 2 1)]⟩), (2000000, ⟨[4, 5], []⟩), (1000000, ⟨[2, 4, 6], []⟩)]),
  (36, [(0, ⟨[1, 2, 3, 6, 8, 9], []⟩), (2, ⟨[1, 3, 6, 8, 10, 11], []⟩), (2000000, ⟨[6, 7], []⟩), (1000000, ⟨[1, 2, 3, 6, 8], []⟩), (1000002, ⟨[1, 3, 6, 8, 10], []⟩)]),
  (16, [(0, ⟨[0, 3, 5], []⟩), (2000000, ⟨[4], []⟩), (1000000, ⟨[0, 3], []⟩)]),
  (32, [(0, ⟨[0, 1, 5], []⟩), (2000000, ⟨[4], []⟩), (1000000, ⟨[0], []⟩)]),
  (31, [(0, ⟨[7, 8, 9], []⟩), (2, ⟨[7, 8, 9, 10, 11], []⟩), (2000000, ⟨[6], []⟩), (1000002, ⟨[7, 8, 9, 10], []⟩), (1000001, ⟨[7, 8, 9], []⟩), (1000000, ⟨[7], []⟩)]),
  (10, [(0, ⟨[0, 1, 5], []⟩), (2000000, ⟨[4], []⟩), (1000000, ⟨[], []⟩)]),
  (12, [(0, ⟨[1, 3, 4], []⟩), (2000000, ⟨[2], []⟩), (1000000, ⟨[3], []⟩)]),
  (14, [(0, ⟨[0, 1, 5, 6], [(.virt 5 3 1)]⟩), (2, ⟨[0, 1, 5, 6, 7, 8], []⟩), (2000000, ⟨[4], []⟩), (1000002, ⟨[0, 1, 5, 6, 7], []⟩), (1000001, ⟨[0, 1, 5, 6], []⟩), (1000000, ⟨[5], []⟩)]),
  (11, [(0, ⟨[1, 3, 12, 13, 14], []⟩), (2000000, ⟨[2], []⟩), (1000000, ⟨[3], []⟩)]),
  (13, [(0, ⟨[0, 5, 9, 10], [(.virt 5 3 1)]⟩), (2000000, ⟨[4], []⟩), (1000000, ⟨[5], []⟩)]),
  (27, [(0, ⟨[0, 1, 7, 8], []⟩), (2000000, ⟨[4], []⟩), (1000000, ⟨[], []⟩)]),
  (9, [(0, ⟨[1, 2, 5], []⟩), (2, ⟨[1, 2, 6], []⟩), (2000000, ⟨[4], []⟩), (1000000, ⟨[1, 2], []⟩), (1000002, ⟨[], []⟩)]),
  (48, [(0, ⟨[0, 3, 4], []⟩), (2000000, ⟨[2], []⟩), (1000000, ⟨[0, 3], []⟩)]),
  (8, [(1, ⟨[5, 33, 34, 35], []⟩), (3, ⟨[5, 6, 7, 33, 34, 35, 40, 41, 42], []⟩), (2000000, ⟨[4], []⟩), (1000003, ⟨[5, 33, 34, 35], []⟩), (1000002, ⟨[5, 33, 34, 35], []⟩), (1000001, ⟨[], []⟩)]),
  (40, [(0, ⟨[0, 1, 7, 8], []⟩), (2000000, ⟨[4], []⟩), (1000000, ⟨[], []⟩)])]
abbrev Tc0 : Type := List (Int × Int × Bool × Unit)
abbrev Tc1 : Type := (List Int) × Int × Bool × Unit
abbrev Tc2 : Type := ByteArray × Bool × Int × Int × Int × Unit
abbrev Tc3 : Type := List Tc2
abbrev Tc4 : Type := Int × (List Int) × Tc0 × Unit
/-- function 6: sheerleg/sheerlegref15.Few -/
noncomputable def ref15_Few.body (t3 : Tc4) (k1 : Bool → Option Bool) : Option Bool :=
  (cond_ (decide ((((List.length t3.2.1) : Nat) : Int) ≤ (100 : Int))) (k1 (decide ((((List.length t3.2.2.1) : Nat) : Int) ≤ (100 : Int)))) (k1 false))
noncomputable def ref15_Few (t3 : Tc4) (k1 : Bool → Option Bool) : Option Bool := ref15_Few.body t3 k1
noncomputable def ref15_Few.get (F : Tc4 → (Bool → Option Bool) → Option Bool) (e : Option Bool) (g : FuncId) (a : List AV) (h : Heap) (k : KR) : Option Bool := match g, a, h with
  | 6, [(.d ⟨(.st [(.int .i64), (.sl 2 (.int .i64)), (.sl 51 (.st [(.int .i64), (.int .i64), .bool]))]), t3⟩)], [] => F t3 (fun y0 => k (.d ⟨.bool, y0⟩) [])
  | _, _, _ => e
noncomputable def ref15_Few.calls : RecF := fun g a h k => none
noncomputable def ref15_Few.loops : LoopF := fun b => none
set_option maxRecDepth 100000 in
theorem ref15_Few.eq (t3 : Tc4) (k : KR) : execL Try.prog ht 6 (callfOf (ref15_Few.calls)) (ref15_Few.loops) 0 (codeOf Try.f6) ⟨[(.d ⟨(.st [(.int .i64), (.sl 2 (.int .i64)), (.sl 51 (.st [(.int .i64), (.int .i64), .bool]))]), t3⟩)] ++ List.replicate (Try.f6.ntmps - ([(.d ⟨(.st [(.int .i64), (.sl 2 (.int .i64)), (.sl 51 (.st [(.int .i64), (.int .i64), .bool]))]), t3⟩)] : List AV).length) .undef, [], 2⟩ (leave Try.prog Try.f6 k) = ref15_Few.body t3 (fun y0 => k (.d ⟨.bool, y0⟩) []) := by kernel_rfl
theorem ref15_Few.ok (d : Nat) (hd : 1 ≤ d) (t3 : Tc4) (k : KR) (hx : ref15_Few t3 (fun y0 => k (.d ⟨.bool, y0⟩) []) = some true) : callK Try.prog ht d 6 [(.d ⟨(.st [(.int .i64), (.sl 2 (.int .i64)), (.sl 51 (.st [(.int .i64), (.int .i64), .bool]))]), t3⟩)] [] k = some true := by
  obtain ⟨d, rfl⟩ : ∃ e, d = e + 1 := ⟨d - 1, by omega⟩
  exact fn_ok (c := codeOf Try.f6) Try.func6 (by kernel_rfl) (rec := ref15_Few.calls) (fun g a h k hx => by
    cases hx) (loopf := ref15_Few.loops) (by
    have e : loopsOf (ref15_Few.loops) 0 (codeOf Try.f6) = [] := by kernel_rfl
    rw [e]
    intro p hp
    cases hp) ((ref15_Few.eq t3 k).trans hx)
theorem ref15_Few.look (d : Nat) (hd : 1 ≤ d) {e : Option Bool} {g : FuncId} {a : List AV} {h : Heap} {k : KR} (hx : ref15_Few.get ref15_Few e g a h k = some true) : e = some true ∨ callK Try.prog ht d g a h k = some true := by
  unfold ref15_Few.get at hx
  split at hx
  · exact .inr (ref15_Few.ok d hd _ _ hx)
  · exact .inl hx
/-- function 7: sheerleg/sheerleglaw15.known, all of it at once -/
def law15_known (k1 : Bool → Option Bool) : Option Bool := k1 true
def law15_known.get (F : (Bool → Option Bool) → Option Bool) (e : Option Bool) (g : FuncId) (a : List AV) (h : Heap) (k : KR) : Option Bool := match g, a, h with
  | 7, [], [] => F (fun y => k (.d ⟨.bool, y⟩) [])
  | _, _, _ => e
set_option maxRecDepth 100000 in
theorem law15_known.all (k : KR) : callK Try.prog ht 60 7 [] [] k = k (.d ⟨.bool, true⟩) [] := by kernel_rfl
theorem law15_known.look (d : Nat) (hd : 60 ≤ d) {e : Option Bool} {g : FuncId} {a : List AV} {h : Heap} {k : KR} (hx : law15_known.get law15_known e g a h k = some true) : e = some true ∨ callK Try.prog ht d g a h k = some true := by
  unfold law15_known.get at hx
  split at hx
  · exact .inr (callK_le hd _ _ _ _ _ (fun _ _ h => h) ((law15_known.all _).trans hx))
  · exact .inl hx
/-- function 39: sheerleg/sig.texts -/
noncomputable def sig_texts.body (k1 : (List ByteArray) → Option Bool) : Option Bool :=
  (k1 [(⟨#[110]⟩ : ByteArray), (⟨#[102, 48]⟩ : ByteArray), (⟨#[102, 48, 114]⟩ : ByteArray), (⟨#[102, 49]⟩ : ByteArray), (⟨#[102, 49, 114]⟩ : ByteArray), (⟨#[102, 50]⟩ : ByteArray), (⟨#[102, 50, 114]⟩ : ByteArray), (⟨#[102, 51]⟩ : ByteArray), (⟨#[102, 51, 114]⟩ : ByteArray)])
noncomputable def sig_texts (k1 : (List ByteArray) → Option Bool) : Option Bool := sig_texts.body k1
noncomputable def sig_texts.get (F : ((List ByteArray) → Option Bool) → Option Bool) (e : Option Bool) (g : FuncId) (a : List AV) (h : Heap) (k : KR) : Option Bool := match g, a, h with
  | 39, [], [] => F (fun y0 => k (.ref [1, 0]) [([1, 0], ⟨9, 1, (.data .str y0)⟩)])
  | _, _, _ => e
noncomputable def sig_texts.calls : RecF := fun g a h k => none
noncomputable def sig_texts.loops : LoopF := fun b => none
set_option maxRecDepth 100000 in
theorem sig_texts.eq (k : KR) : execL Try.prog ht 39 (callfOf (sig_texts.calls)) (sig_texts.loops) 0 (codeOf Try.f39) ⟨[] ++ List.replicate (Try.f39.ntmps - ([] : List AV).length) .undef, [], 2⟩ (leave Try.prog Try.f39 k) = sig_texts.body (fun y0 => k (.ref [1, 0]) [([1, 0], ⟨9, 1, (.data .str y0)⟩)]) := by kernel_rfl
theorem sig_texts.ok (d : Nat) (hd : 1 ≤ d) (k : KR) (hx : sig_texts (fun y0 => k (.ref [1, 0]) [([1, 0], ⟨9, 1, (.data .str y0)⟩)]) = some true) : callK Try.prog ht d 39 [] [] k = some true := by
  obtain ⟨d, rfl⟩ : ∃ e, d = e + 1 := ⟨d - 1, by omega⟩
  exact fn_ok (c := codeOf Try.f39) Try.func39 (by kernel_rfl) (rec := sig_texts.calls) (fun g a h k hx => by
    cases hx) (loopf := sig_texts.loops) (by
    have e : loopsOf (sig_texts.loops) 0 (codeOf Try.f39) = [] := by kernel_rfl
    rw [e]
    intro p hp
    cases hp) ((sig_texts.eq k).trans hx)
theorem sig_texts.look (d : Nat) (hd : 1 ≤ d) {e : Option Bool} {g : FuncId} {a : List AV} {h : Heap} {k : KR} (hx : sig_texts.get sig_texts e g a h k = some true) : e = some true ∨ callK Try.prog ht d g a h k = some true := by
  unfold sig_texts.get at hx
  split at hx
  · exact .inr (sig_texts.ok d hd _ hx)
  · exact .inl hx
/-- function 22: sheerleg/sig.Text -/
noncomputable def sig_Text.body (sig_texts : ((List ByteArray) → Option Bool) → Option Bool) (n8 : Int) (k1 : ByteArray → Option Bool) : Option Bool :=
  (sig_texts
  (fun ss9 => (cond_ (! (decide (n8 < (0 : Int)))) (cond_ (decide (n8 ≥ (((List.length ss9) : Nat) : Int))) (k1 (⟨#[]⟩ : ByteArray)) (cond_ ((decide ((0 : Int) ≤ n8)) && (decide (n8 < (((List.length ss9) : Nat) : Int)))) (k1 (List.getD ss9 (Int.toNat n8) (⟨#[]⟩ : ByteArray))) none)) (k1 (⟨#[]⟩ : ByteArray)))))
noncomputable def sig_Text (n8 : Int) (k1 : ByteArray → Option Bool) : Option Bool := sig_Text.body sig_texts n8 k1
noncomputable def sig_Text.get (F : Int → (ByteArray → Option Bool) → Option Bool) (e : Option Bool) (g : FuncId) (a : List AV) (h : Heap) (k : KR) : Option Bool := match g, a, h with
  | 22, [(.d ⟨(.int .i64), n8⟩)], [] => F n8 (fun y0 => k (.d ⟨.str, y0⟩) [])
  | _, _, _ => e
noncomputable def sig_Text.calls (F0 : ((List ByteArray) → Option Bool) → Option Bool) : RecF := fun g a h k => (sig_texts.get F0 none g a h k)
noncomputable def sig_Text.loops : LoopF := fun b => none
set_option maxRecDepth 100000 in
theorem sig_Text.eq (F0 : ((List ByteArray) → Option Bool) → Option Bool) (n8 : Int) (k : KR) : execL Try.prog ht 22 (callfOf (sig_Text.calls F0)) (sig_Text.loops) 0 (codeOf Try.f22) ⟨[(.d ⟨(.int .i64), n8⟩)] ++ List.replicate (Try.f22.ntmps - ([(.d ⟨(.int .i64), n8⟩)] : List AV).length) .undef, [], 2⟩ (leave Try.prog Try.f22 k) = sig_Text.body F0 n8 (fun y0 => k (.d ⟨.str, y0⟩) []) := by kernel_rfl
theorem sig_Text.ok (d : Nat) (hd : 2 ≤ d) (n8 : Int) (k : KR) (hx : sig_Text n8 (fun y0 => k (.d ⟨.str, y0⟩) []) = some true) : callK Try.prog ht d 22 [(.d ⟨(.int .i64), n8⟩)] [] k = some true := by
  obtain ⟨d, rfl⟩ : ∃ e, d = e + 1 := ⟨d - 1, by omega⟩
  exact fn_ok (c := codeOf Try.f22) Try.func22 (by kernel_rfl) (rec := sig_Text.calls sig_texts) (fun g a h k hx => by
    rcases sig_texts.look d (by omega) hx with hx | hx
    rotate_left
    · exact hx
    cases hx) (loopf := sig_Text.loops) (by
    have e : loopsOf (sig_Text.loops) 0 (codeOf Try.f22) = [] := by kernel_rfl
    rw [e]
    intro p hp
    cases hp) ((sig_Text.eq sig_texts n8 k).trans hx)
theorem sig_Text.look (d : Nat) (hd : 2 ≤ d) {e : Option Bool} {g : FuncId} {a : List AV} {h : Heap} {k : KR} (hx : sig_Text.get sig_Text e g a h k = some true) : e = some true ∨ callK Try.prog ht d g a h k = some true := by
  unfold sig_Text.get at hx
  split at hx
  · exact .inr (sig_Text.ok d hd _ _ hx)
  · exact .inl hx
/-- function 24: sheerleg/data.Check$1 -/
noncomputable def data_Checkfn1.body (n16 : Int) (k1 : Bool → Option Bool) : Option Bool :=
  (k1 (n16 != (0 : Int)))
noncomputable def data_Checkfn1 (n16 : Int) (k1 : Bool → Option Bool) : Option Bool := data_Checkfn1.body n16 k1
noncomputable def data_Checkfn1.get (F : Int → (Bool → Option Bool) → Option Bool) (e : Option Bool) (g : FuncId) (a : List AV) (h : Heap) (k : KR) : Option Bool := match g, a, h with
  | 24, [(.d ⟨(.int .i64), n16⟩)], [] => F n16 (fun y0 => k (.d ⟨.bool, y0⟩) [])
  | _, _, _ => e
noncomputable def data_Checkfn1.calls : RecF := fun g a h k => none
noncomputable def data_Checkfn1.loops : LoopF := fun b => none
set_option maxRecDepth 100000 in
theorem data_Checkfn1.eq (n16 : Int) (k : KR) : execL Try.prog ht 24 (callfOf (data_Checkfn1.calls)) (data_Checkfn1.loops) 0 (codeOf Try.f24) ⟨[(.d ⟨(.int .i64), n16⟩)] ++ List.replicate (Try.f24.ntmps - ([(.d ⟨(.int .i64), n16⟩)] : List AV).length) .undef, [], 2⟩ (leave Try.prog Try.f24 k) = data_Checkfn1.body n16 (fun y0 => k (.d ⟨.bool, y0⟩) []) := by kernel_rfl
theorem data_Checkfn1.ok (d : Nat) (hd : 1 ≤ d) (n16 : Int) (k : KR) (hx : data_Checkfn1 n16 (fun y0 => k (.d ⟨.bool, y0⟩) []) = some true) : callK Try.prog ht d 24 [(.d ⟨(.int .i64), n16⟩)] [] k = some true := by
  obtain ⟨d, rfl⟩ : ∃ e, d = e + 1 := ⟨d - 1, by omega⟩
  exact fn_ok (c := codeOf Try.f24) Try.func24 (by kernel_rfl) (rec := data_Checkfn1.calls) (fun g a h k hx => by
    cases hx) (loopf := data_Checkfn1.loops) (by
    have e : loopsOf (data_Checkfn1.loops) 0 (codeOf Try.f24) = [] := by kernel_rfl
    rw [e]
    intro p hp
    cases hp) ((data_Checkfn1.eq n16 k).trans hx)
theorem data_Checkfn1.look (d : Nat) (hd : 1 ≤ d) {e : Option Bool} {g : FuncId} {a : List AV} {h : Heap} {k : KR} (hx : data_Checkfn1.get data_Checkfn1 e g a h k = some true) : e = some true ∨ callK Try.prog ht d g a h k = some true := by
  unfold data_Checkfn1.get at hx
  split at hx
  · exact .inr (data_Checkfn1.ok d hd _ _ hx)
  · exact .inl hx
/-- function 40: the loop in block 0 -/
noncomputable def slices_IndexFunc_int64_int64_L0.body (slices_IndexFunc_int64_int64_L0 : (List Int) → Int → Int → (Int → Option Bool) → (Option Bool) → Option Bool) (data_Checkfn1 : Int → (Bool → Option Bool) → Option Bool) (ns13 : List Int) (n14 : Int) (n15 : Int) (k1 : Int → Option Bool) (k2 : Option Bool) : Option Bool :=
  (cond_ (decide (n15 < n14)) (cond_ ((decide ((0 : Int) ≤ n15)) && (decide (n15 < (((List.length ns13) : Nat) : Int)))) (data_Checkfn1 (List.getD ns13 (Int.toNat n15) (0 : Int))
  (fun b17 => (cond_ b17 (k1 n15) (slices_IndexFunc_int64_int64_L0 ns13 n14 (IntKind.wrap .i64 (n15 + (1 : Int))) k1 k2)))) none) (k2))
noncomputable def slices_IndexFunc_int64_int64_L0 : Nat → (List Int) → Int → Int → (Int → Option Bool) → (Option Bool) → Option Bool
  | 0 => fun _ _ _ _ _ => none
  | n + 1 => slices_IndexFunc_int64_int64_L0.body (slices_IndexFunc_int64_int64_L0 n) data_Checkfn1
noncomputable def slices_IndexFunc_int64_int64_L0.get (F : (List Int) → Int → Int → (Int → Option Bool) → (Option Bool) → Option Bool) (e : Option Bool) (st : St) (k : KE) : Option Bool := match st with
  | ⟨sl, hp, m⟩ => match Nat.beq m 2, pickS 19 [0, 1, 7, 8] sl, hp with
    | true, some [(.bv 0 2 (.int .i64) ns13), (.fn (.func 24) [] []), (.d ⟨(.int .i64), n14⟩), (.d ⟨(.int .i64), n15⟩)], [] => F ns13 n14 n15 (fun y0 => k .ret ⟨fillS 19 [4] [(.d ⟨(.int .i64), y0⟩)], [], 2⟩) (k (.exit 0) ⟨fillS 19 [] [], [], 2⟩)
    | _, _, _ => e
noncomputable def slices_IndexFunc_int64_int64_L0.calls (F0 : Int → (Bool → Option Bool) → Option Bool) : RecF := fun g a h k => (data_Checkfn1.get F0 none g a h k)
noncomputable def slices_IndexFunc_int64_int64_L0.loops : LoopF := fun b => none
set_option maxRecDepth 100000 in
theorem slices_IndexFunc_int64_int64_L0.step (S : (List Int) → Int → Int → (Int → Option Bool) → (Option Bool) → Option Bool) (F0 : Int → (Bool → Option Bool) → Option Bool) (ns13 : List Int) (n14 : Int) (n15 : Int) (k : KE) : execL Try.prog ht 40 (callfOf (slices_IndexFunc_int64_int64_L0.calls F0)) (slices_IndexFunc_int64_int64_L0.loops) 0 (loopAt 0 (codeOf Try.f40)) ⟨fillS 19 [0, 1, 7, 8] [(.bv 0 2 (.int .i64) ns13), (.fn (.func 24) [] []), (.d ⟨(.int .i64), n14⟩), (.d ⟨(.int .i64), n15⟩)], [], 2⟩ (again (slices_IndexFunc_int64_int64_L0.get S none) (plan Try.prog (ht 40 0)) k) = slices_IndexFunc_int64_int64_L0.body S F0 ns13 n14 n15 (fun y0 => k .ret ⟨fillS 19 [4] [(.d ⟨(.int .i64), y0⟩)], [], 2⟩) (k (.exit 0) ⟨fillS 19 [] [], [], 2⟩) := by kernel_rfl
theorem slices_IndexFunc_int64_int64_L0.ok (d : Nat) (hd : 1 ≤ d) : ∀ n st k, slices_IndexFunc_int64_int64_L0.get (slices_IndexFunc_int64_int64_L0 n) none st k = some true → iter n (plan Try.prog (ht 40 0)) (fun st k => execK Try.prog ht 40 (callfOf (callK Try.prog ht d)) 0 (loopAt 0 (codeOf Try.f40)) st k) st k = some true :=
  loop_ok (lfn := fun n st k => slices_IndexFunc_int64_int64_L0.get (slices_IndexFunc_int64_int64_L0 n) none st k) (rec := slices_IndexFunc_int64_int64_L0.calls data_Checkfn1) (fun g a h k hx => by
    rcases data_Checkfn1.look d (by omega) hx with hx | hx
    rotate_left
    · exact hx
    cases hx) (loopf := slices_IndexFunc_int64_int64_L0.loops) (by
    have e : loopsOf (slices_IndexFunc_int64_int64_L0.loops) 0 (loopAt 0 (codeOf Try.f40)) = [] := by kernel_rfl
    rw [e]
    intro p hp
    cases hp) (fun st k h => by
    obtain ⟨sl, hp, m⟩ := st
    unfold slices_IndexFunc_int64_int64_L0.get at h
    dsimp only at h
    split at h
    · have h' : (none : Option Bool) = some true := h
      cases h'
    · cases h) (fun n st k h => by
    obtain ⟨sl, hp, m⟩ := st
    unfold slices_IndexFunc_int64_int64_L0.get at h
    dsimp only at h
    split at h
    · rename_i h1 h2
      obtain rfl := pickS_ok h2
      obtain rfl := Nat.eq_of_beq_eq_true h1
      exact (slices_IndexFunc_int64_int64_L0.step (slices_IndexFunc_int64_int64_L0 n) data_Checkfn1 _ _ _ k).trans h
    · cases h)
theorem slices_IndexFunc_int64_int64_L0.look {F : (List Int) → Int → Int → (Int → Option Bool) → (Option Bool) → Option Bool} {e : Option Bool} {st : St} {k : KE} (hx : slices_IndexFunc_int64_int64_L0.get F e st k = some true) : e = some true ∨ slices_IndexFunc_int64_int64_L0.get F none st k = some true := by
  obtain ⟨sl, hp, m⟩ := st
  unfold slices_IndexFunc_int64_int64_L0.get at hx ⊢
  dsimp only at hx ⊢
  split at hx
  · exact .inr hx
  · exact .inl hx
/-- function 40: slices.IndexFunc[[]int64,int64] -/
noncomputable def slices_IndexFunc_int64_int64.body (slices_IndexFunc_int64_int64_L0 : (List Int) → Int → Int → (Int → Option Bool) → (Option Bool) → Option Bool) (ns12 : List Int) (k1 : Int → Option Bool) : Option Bool :=
  (slices_IndexFunc_int64_int64_L0 ns12 (((List.length ns12) : Nat) : Int) (0 : Int)
  (fun n18 => (k1 n18))
  (k1 (-1 : Int)))
noncomputable def slices_IndexFunc_int64_int64 (ns12 : List Int) (k1 : Int → Option Bool) : Option Bool := slices_IndexFunc_int64_int64.body (slices_IndexFunc_int64_int64_L0 ROUNDS) ns12 k1
noncomputable def slices_IndexFunc_int64_int64.get (F : (List Int) → (Int → Option Bool) → Option Bool) (e : Option Bool) (g : FuncId) (a : List AV) (h : Heap) (k : KR) : Option Bool := match g, a, h with
  | 40, [(.bv 0 2 (.int .i64) ns12), (.fn (.func 24) [] [])], [] => F ns12 (fun y0 => k (.d ⟨(.int .i64), y0⟩) [])
  | _, _, _ => e
noncomputable def slices_IndexFunc_int64_int64.calls : RecF := fun g a h k => none
noncomputable def slices_IndexFunc_int64_int64.loops (L0 : (List Int) → Int → Int → (Int → Option Bool) → (Option Bool) → Option Bool) : LoopF := fun b => match Nat.beq b 0 with | true => some (fun st k => (slices_IndexFunc_int64_int64_L0.get L0 none st k)) | false => none
set_option maxRecDepth 100000 in
theorem slices_IndexFunc_int64_int64.eq (L0 : (List Int) → Int → Int → (Int → Option Bool) → (Option Bool) → Option Bool) (ns12 : List Int) (k : KR) : execL Try.prog ht 40 (callfOf (slices_IndexFunc_int64_int64.calls)) (slices_IndexFunc_int64_int64.loops L0) 0 (codeOf Try.f40) ⟨[(.bv 0 2 (.int .i64) ns12), (.fn (.func 24) [] [])] ++ List.replicate (Try.f40.ntmps - ([(.bv 0 2 (.int .i64) ns12), (.fn (.func 24) [] [])] : List AV).length) .undef, [], 2⟩ (leave Try.prog Try.f40 k) = slices_IndexFunc_int64_int64.body L0 ns12 (fun y0 => k (.d ⟨(.int .i64), y0⟩) []) := by kernel_rfl
theorem slices_IndexFunc_int64_int64.ok (d : Nat) (hd : 2 ≤ d) (ns12 : List Int) (k : KR) (hx : slices_IndexFunc_int64_int64 ns12 (fun y0 => k (.d ⟨(.int .i64), y0⟩) []) = some true) : callK Try.prog ht d 40 [(.bv 0 2 (.int .i64) ns12), (.fn (.func 24) [] [])] [] k = some true := by
  obtain ⟨d, rfl⟩ : ∃ e, d = e + 1 := ⟨d - 1, by omega⟩
  exact fn_ok (c := codeOf Try.f40) Try.func40 (by kernel_rfl) (rec := slices_IndexFunc_int64_int64.calls) (fun g a h k hx => by
    cases hx) (loopf := slices_IndexFunc_int64_int64.loops (slices_IndexFunc_int64_int64_L0 ROUNDS)) (by
    have e : loopsOf (slices_IndexFunc_int64_int64.loops (slices_IndexFunc_int64_int64_L0 ROUNDS)) 0 (codeOf Try.f40) = [(0, loopAt 0 (codeOf Try.f40))] := by kernel_rfl
    rw [e]
    intro p hp
    simp only [List.mem_cons, List.not_mem_nil, or_false] at hp
    rcases hp with rfl
    · refine loopRef_of (callf := callfOf (callK Try.prog ht d)) (callfOf_ref (callK_mono d)) fun lf st k hb hx => ?_
      cases hb
      rcases slices_IndexFunc_int64_int64_L0.look hx with hx | hx
      rotate_left
      · exact slices_IndexFunc_int64_int64_L0.ok d (by omega) _ _ _ hx
      cases hx) ((slices_IndexFunc_int64_int64.eq (slices_IndexFunc_int64_int64_L0 ROUNDS) ns12 k).trans hx)
theorem slices_IndexFunc_int64_int64.look (d : Nat) (hd : 2 ≤ d) {e : Option Bool} {g : FuncId} {a : List AV} {h : Heap} {k : KR} (hx : slices_IndexFunc_int64_int64.get slices_IndexFunc_int64_int64 e g a h k = some true) : e = some true ∨ callK Try.prog ht d g a h k = some true := by
  unfold slices_IndexFunc_int64_int64.get at hx
  split at hx
  · exact .inr (slices_IndexFunc_int64_int64.ok d hd _ _ hx)
  · exact .inl hx
/-- function 23: slices.ContainsFunc[[]int64,int64] -/
noncomputable def slices_ContainsFunc_int64_int64.body (slices_IndexFunc_int64_int64 : (List Int) → (Int → Option Bool) → Option Bool) (ns11 : List Int) (k1 : Bool → Option Bool) : Option Bool :=
  (slices_IndexFunc_int64_int64 ns11
  (fun n19 => (k1 (decide (n19 ≥ (0 : Int))))))
noncomputable def slices_ContainsFunc_int64_int64 (ns11 : List Int) (k1 : Bool → Option Bool) : Option Bool := slices_ContainsFunc_int64_int64.body slices_IndexFunc_int64_int64 ns11 k1
noncomputable def slices_ContainsFunc_int64_int64.get (F : (List Int) → (Bool → Option Bool) → Option Bool) (e : Option Bool) (g : FuncId) (a : List AV) (h : Heap) (k : KR) : Option Bool := match g, a, h with
  | 23, [(.bv 0 2 (.int .i64) ns11), (.fn (.func 24) [] [])], [] => F ns11 (fun y0 => k (.d ⟨.bool, y0⟩) [])
  | _, _, _ => e
noncomputable def slices_ContainsFunc_int64_int64.calls (F0 : (List Int) → (Int → Option Bool) → Option Bool) : RecF := fun g a h k => (slices_IndexFunc_int64_int64.get F0 none g a h k)
noncomputable def slices_ContainsFunc_int64_int64.loops : LoopF := fun b => none
set_option maxRecDepth 100000 in
theorem slices_ContainsFunc_int64_int64.eq (F0 : (List Int) → (Int → Option Bool) → Option Bool) (ns11 : List Int) (k : KR) : execL Try.prog ht 23 (callfOf (slices_ContainsFunc_int64_int64.calls F0)) (slices_ContainsFunc_int64_int64.loops) 0 (codeOf Try.f23) ⟨[(.bv 0 2 (.int .i64) ns11), (.fn (.func 24) [] [])] ++ List.replicate (Try.f23.ntmps - ([(.bv 0 2 (.int .i64) ns11), (.fn (.func 24) [] [])] : List AV).length) .undef, [], 2⟩ (leave Try.prog Try.f23 k) = slices_ContainsFunc_int64_int64.body F0 ns11 (fun y0 => k (.d ⟨.bool, y0⟩) []) := by kernel_rfl
theorem slices_ContainsFunc_int64_int64.ok (d : Nat) (hd : 3 ≤ d) (ns11 : List Int) (k : KR) (hx : slices_ContainsFunc_int64_int64 ns11 (fun y0 => k (.d ⟨.bool, y0⟩) []) = some true) : callK Try.prog ht d 23 [(.bv 0 2 (.int .i64) ns11), (.fn (.func 24) [] [])] [] k = some true := by
  obtain ⟨d, rfl⟩ : ∃ e, d = e + 1 := ⟨d - 1, by omega⟩
  exact fn_ok (c := codeOf Try.f23) Try.func23 (by kernel_rfl) (rec := slices_ContainsFunc_int64_int64.calls slices_IndexFunc_int64_int64) (fun g a h k hx => by
    rcases slices_IndexFunc_int64_int64.look d (by omega) hx with hx | hx
    rotate_left
    · exact hx
    cases hx) (loopf := slices_ContainsFunc_int64_int64.loops) (by
    have e : loopsOf (slices_ContainsFunc_int64_int64.loops) 0 (codeOf Try.f23) = [] := by kernel_rfl
    rw [e]
    intro p hp
    cases hp) ((slices_ContainsFunc_int64_int64.eq slices_IndexFunc_int64_int64 ns11 k).trans hx)
theorem slices_ContainsFunc_int64_int64.look (d : Nat) (hd : 3 ≤ d) {e : Option Bool} {g : FuncId} {a : List AV} {h : Heap} {k : KR} (hx : slices_ContainsFunc_int64_int64.get slices_ContainsFunc_int64_int64 e g a h k = some true) : e = some true ∨ callK Try.prog ht d g a h k = some true := by
  unfold slices_ContainsFunc_int64_int64.get at hx
  split at hx
  · exact .inr (slices_ContainsFunc_int64_int64.ok d hd _ _ hx)
  · exact .inl hx
/-- function 52: sheerleg/sig.Is -/
noncomputable def sig_Is.body (n24 : Int) (k1 : Bool → Option Bool) : Option Bool :=
  (cond_ (decide (n24 ≥ (0 : Int))) (k1 (decide (n24 < (8 : Int)))) (k1 false))
noncomputable def sig_Is (n24 : Int) (k1 : Bool → Option Bool) : Option Bool := sig_Is.body n24 k1
noncomputable def sig_Is.get (F : Int → (Bool → Option Bool) → Option Bool) (e : Option Bool) (g : FuncId) (a : List AV) (h : Heap) (k : KR) : Option Bool := match g, a, h with
  | 52, [(.d ⟨(.int .i64), n24⟩)], [] => F n24 (fun y0 => k (.d ⟨.bool, y0⟩) [])
  | _, _, _ => e
noncomputable def sig_Is.calls : RecF := fun g a h k => none
noncomputable def sig_Is.loops : LoopF := fun b => none
set_option maxRecDepth 100000 in
theorem sig_Is.eq (n24 : Int) (k : KR) : execL Try.prog ht 52 (callfOf (sig_Is.calls)) (sig_Is.loops) 0 (codeOf Try.f52) ⟨[(.d ⟨(.int .i64), n24⟩)] ++ List.replicate (Try.f52.ntmps - ([(.d ⟨(.int .i64), n24⟩)] : List AV).length) .undef, [], 2⟩ (leave Try.prog Try.f52 k) = sig_Is.body n24 (fun y0 => k (.d ⟨.bool, y0⟩) []) := by kernel_rfl
theorem sig_Is.ok (d : Nat) (hd : 1 ≤ d) (n24 : Int) (k : KR) (hx : sig_Is n24 (fun y0 => k (.d ⟨.bool, y0⟩) []) = some true) : callK Try.prog ht d 52 [(.d ⟨(.int .i64), n24⟩)] [] k = some true := by
  obtain ⟨d, rfl⟩ : ∃ e, d = e + 1 := ⟨d - 1, by omega⟩
  exact fn_ok (c := codeOf Try.f52) Try.func52 (by kernel_rfl) (rec := sig_Is.calls) (fun g a h k hx => by
    cases hx) (loopf := sig_Is.loops) (by
    have e : loopsOf (sig_Is.loops) 0 (codeOf Try.f52) = [] := by kernel_rfl
    rw [e]
    intro p hp
    cases hp) ((sig_Is.eq n24 k).trans hx)
theorem sig_Is.look (d : Nat) (hd : 1 ≤ d) {e : Option Bool} {g : FuncId} {a : List AV} {h : Heap} {k : KR} (hx : sig_Is.get sig_Is e g a h k = some true) : e = some true ∨ callK Try.prog ht d g a h k = some true := by
  unfold sig_Is.get at hx
  split at hx
  · exact .inr (sig_Is.ok d hd _ _ hx)
  · exact .inl hx
/-- function 41: sheerleg/sig.Class -/
noncomputable def sig_Class.body (sig_Is : Int → (Bool → Option Bool) → Option Bool) (n23 : Int) (k1 : Int → Bool → Option Bool) : Option Bool :=
  (sig_Is (IntKind.wrap .i64 (n23 - (1 : Int)))
  (fun b25 => (cond_ (! b25) (k1 (0 : Int) false) (k1 (IntKind.wrap .i64 (n23 - (1 : Int))) true))))
noncomputable def sig_Class (n23 : Int) (k1 : Int → Bool → Option Bool) : Option Bool := sig_Class.body sig_Is n23 k1
noncomputable def sig_Class.get (F : Int → (Int → Bool → Option Bool) → Option Bool) (e : Option Bool) (g : FuncId) (a : List AV) (h : Heap) (k : KR) : Option Bool := match g, a, h with
  | 41, [(.d ⟨(.int .i64), n23⟩)], [] => F n23 (fun y0 y1 => k (.tup [(.d ⟨(.int .i64), y0⟩), (.d ⟨.bool, y1⟩)]) [])
  | _, _, _ => e
noncomputable def sig_Class.calls (F0 : Int → (Bool → Option Bool) → Option Bool) : RecF := fun g a h k => (sig_Is.get F0 none g a h k)
noncomputable def sig_Class.loops : LoopF := fun b => none
set_option maxRecDepth 100000 in
theorem sig_Class.eq (F0 : Int → (Bool → Option Bool) → Option Bool) (n23 : Int) (k : KR) : execL Try.prog ht 41 (callfOf (sig_Class.calls F0)) (sig_Class.loops) 0 (codeOf Try.f41) ⟨[(.d ⟨(.int .i64), n23⟩)] ++ List.replicate (Try.f41.ntmps - ([(.d ⟨(.int .i64), n23⟩)] : List AV).length) .undef, [], 2⟩ (leave Try.prog Try.f41 k) = sig_Class.body F0 n23 (fun y0 y1 => k (.tup [(.d ⟨(.int .i64), y0⟩), (.d ⟨.bool, y1⟩)]) []) := by kernel_rfl
theorem sig_Class.ok (d : Nat) (hd : 2 ≤ d) (n23 : Int) (k : KR) (hx : sig_Class n23 (fun y0 y1 => k (.tup [(.d ⟨(.int .i64), y0⟩), (.d ⟨.bool, y1⟩)]) []) = some true) : callK Try.prog ht d 41 [(.d ⟨(.int .i64), n23⟩)] [] k = some true := by
  obtain ⟨d, rfl⟩ : ∃ e, d = e + 1 := ⟨d - 1, by omega⟩
  exact fn_ok (c := codeOf Try.f41) Try.func41 (by kernel_rfl) (rec := sig_Class.calls sig_Is) (fun g a h k hx => by
    rcases sig_Is.look d (by omega) hx with hx | hx
    rotate_left
    · exact hx
    cases hx) (loopf := sig_Class.loops) (by
    have e : loopsOf (sig_Class.loops) 0 (codeOf Try.f41) = [] := by kernel_rfl
    rw [e]
    intro p hp
    cases hp) ((sig_Class.eq sig_Is n23 k).trans hx)
theorem sig_Class.look (d : Nat) (hd : 2 ≤ d) {e : Option Bool} {g : FuncId} {a : List AV} {h : Heap} {k : KR} (hx : sig_Class.get sig_Class e g a h k = some true) : e = some true ∨ callK Try.prog ht d g a h k = some true := by
  unfold sig_Class.get at hx
  split at hx
  · exact .inr (sig_Class.ok d hd _ _ hx)
  · exact .inl hx
/-- function 25: sheerleg/data.rules -/
noncomputable def data_rules.body (sig_Class : Int → (Int → Bool → Option Bool) → Option Bool) (t21 : Tc4) (ts22 : Tc3) (k1 : Int → Int → Int → Int → Int → Tc4 → Tc3 → Int → Option Bool) : Option Bool :=
  (sig_Class t21.1
  (fun n26 b27 => (k1 (11 : Int) (11 : Int) (11 : Int) (11 : Int) (8 : Int) t21 ts22 n26)))
noncomputable def data_rules (t21 : Tc4) (ts22 : Tc3) (k1 : Int → Int → Int → Int → Int → Tc4 → Tc3 → Int → Option Bool) : Option Bool := data_rules.body sig_Class t21 ts22 k1
noncomputable def data_rules.get (F : Tc4 → Tc3 → (Int → Int → Int → Int → Int → Tc4 → Tc3 → Int → Option Bool) → Option Bool) (e : Option Bool) (g : FuncId) (a : List AV) (h : Heap) (k : KR) : Option Bool := match g, a, h with
  | 25, [(.d ⟨(.st [(.int .i64), (.sl 2 (.int .i64)), (.sl 51 (.st [(.int .i64), (.int .i64), .bool]))]), t21⟩), (.bv 0 53 (.st [.str, .bool, (.int .i64), (.int .i64), (.int .i64)]) ts22)], [] => F t21 ts22 (fun y0 y1 y2 y3 y4 y5 y6 y7 => k (.ref [1, 0]) [([1, 0], ⟨61, 2, (.mix [(.agg [(.fn (.func 42) [] [(.ptr [1, 1] 0 0)]), (.d ⟨(.int .i64), y0⟩)]), (.agg [(.fn (.func 43) [] [(.ptr [1, 1] 0 0)]), (.d ⟨(.int .i64), y1⟩)]), (.agg [(.fn (.func 44) [] [(.ptr [1, 1] 0 0)]), (.d ⟨(.int .i64), y2⟩)]), (.agg [(.fn (.func 45) [] [(.ptr [1, 2] 0 0)]), (.d ⟨(.int .i64), y3⟩)]), (.agg [(.fn (.func 46) [] [(.ptr [1, 2] 0 0), (.ptr [1, 3] 0 0)]), (.d ⟨(.int .i64), y4⟩)])])⟩), ([1, 1], ⟨25, 3, (.data (.st [(.int .i64), (.sl 2 (.int .i64)), (.sl 51 (.st [(.int .i64), (.int .i64), .bool]))]) [y5])⟩), ([1, 2], ⟨26, 1, (.data (.sl 53 (.st [.str, .bool, (.int .i64), (.int .i64), (.int .i64)])) [y6])⟩), ([1, 3], ⟨3, 1, (.data (.int .i64) [y7])⟩)])
  | _, _, _ => e
noncomputable def data_rules.calls (F0 : Int → (Int → Bool → Option Bool) → Option Bool) : RecF := fun g a h k => (sig_Class.get F0 none g a h k)
noncomputable def data_rules.loops : LoopF := fun b => none
set_option maxRecDepth 100000 in
theorem data_rules.eq (F0 : Int → (Int → Bool → Option Bool) → Option Bool) (t21 : Tc4) (ts22 : Tc3) (k : KR) : execL Try.prog ht 25 (callfOf (data_rules.calls F0)) (data_rules.loops) 0 (codeOf Try.f25) ⟨[(.d ⟨(.st [(.int .i64), (.sl 2 (.int .i64)), (.sl 51 (.st [(.int .i64), (.int .i64), .bool]))]), t21⟩), (.bv 0 53 (.st [.str, .bool, (.int .i64), (.int .i64), (.int .i64)]) ts22)] ++ List.replicate (Try.f25.ntmps - ([(.d ⟨(.st [(.int .i64), (.sl 2 (.int .i64)), (.sl 51 (.st [(.int .i64), (.int .i64), .bool]))]), t21⟩), (.bv 0 53 (.st [.str, .bool, (.int .i64), (.int .i64), (.int .i64)]) ts22)] : List AV).length) .undef, [], 2⟩ (leave Try.prog Try.f25 k) = data_rules.body F0 t21 ts22 (fun y0 y1 y2 y3 y4 y5 y6 y7 => k (.ref [1, 0]) [([1, 0], ⟨61, 2, (.mix [(.agg [(.fn (.func 42) [] [(.ptr [1, 1] 0 0)]), (.d ⟨(.int .i64), y0⟩)]), (.agg [(.fn (.func 43) [] [(.ptr [1, 1] 0 0)]), (.d ⟨(.int .i64), y1⟩)]), (.agg [(.fn (.func 44) [] [(.ptr [1, 1] 0 0)]), (.d ⟨(.int .i64), y2⟩)]), (.agg [(.fn (.func 45) [] [(.ptr [1, 2] 0 0)]), (.d ⟨(.int .i64), y3⟩)]), (.agg [(.fn (.func 46) [] [(.ptr [1, 2] 0 0), (.ptr [1, 3] 0 0)]), (.d ⟨(.int .i64), y4⟩)])])⟩), ([1, 1], ⟨25, 3, (.data (.st [(.int .i64), (.sl 2 (.int .i64)), (.sl 51 (.st [(.int .i64), (.int .i64), .bool]))]) [y5])⟩), ([1, 2], ⟨26, 1, (.data (.sl 53 (.st [.str, .bool, (.int .i64), (.int .i64), (.int .i64)])) [y6])⟩), ([1, 3], ⟨3, 1, (.data (.int .i64) [y7])⟩)]) := by kernel_rfl
theorem data_rules.ok (d : Nat) (hd : 3 ≤ d) (t21 : Tc4) (ts22 : Tc3) (k : KR) (hx : data_rules t21 ts22 (fun y0 y1 y2 y3 y4 y5 y6 y7 => k (.ref [1, 0]) [([1, 0], ⟨61, 2, (.mix [(.agg [(.fn (.func 42) [] [(.ptr [1, 1] 0 0)]), (.d ⟨(.int .i64), y0⟩)]), (.agg [(.fn (.func 43) [] [(.ptr [1, 1] 0 0)]), (.d ⟨(.int .i64), y1⟩)]), (.agg [(.fn (.func 44) [] [(.ptr [1, 1] 0 0)]), (.d ⟨(.int .i64), y2⟩)]), (.agg [(.fn (.func 45) [] [(.ptr [1, 2] 0 0)]), (.d ⟨(.int .i64), y3⟩)]), (.agg [(.fn (.func 46) [] [(.ptr [1, 2] 0 0), (.ptr [1, 3] 0 0)]), (.d ⟨(.int .i64), y4⟩)])])⟩), ([1, 1], ⟨25, 3, (.data (.st [(.int .i64), (.sl 2 (.int .i64)), (.sl 51 (.st [(.int .i64), (.int .i64), .bool]))]) [y5])⟩), ([1, 2], ⟨26, 1, (.data (.sl 53 (.st [.str, .bool, (.int .i64), (.int .i64), (.int .i64)])) [y6])⟩), ([1, 3], ⟨3, 1, (.data (.int .i64) [y7])⟩)]) = some true) : callK Try.prog ht d 25 [(.d ⟨(.st [(.int .i64), (.sl 2 (.int .i64)), (.sl 51 (.st [(.int .i64), (.int .i64), .bool]))]), t21⟩), (.bv 0 53 (.st [.str, .bool, (.int .i64), (.int .i64), (.int .i64)]) ts22)] [] k = some true := by
  obtain ⟨d, rfl⟩ : ∃ e, d = e + 1 := ⟨d - 1, by omega⟩
  exact fn_ok (c := codeOf Try.f25) Try.func25 (by kernel_rfl) (rec := data_rules.calls sig_Class) (fun g a h k hx => by
    rcases sig_Class.look d (by omega) hx with hx | hx
    rotate_left
    · exact hx
    cases hx) (loopf := data_rules.loops) (by
    have e : loopsOf (data_rules.loops) 0 (codeOf Try.f25) = [] := by kernel_rfl
    rw [e]
    intro p hp
    cases hp) ((data_rules.eq sig_Class t21 ts22 k).trans hx)
theorem data_rules.look (d : Nat) (hd : 3 ≤ d) {e : Option Bool} {g : FuncId} {a : List AV} {h : Heap} {k : KR} (hx : data_rules.get data_rules e g a h k = some true) : e = some true ∨ callK Try.prog ht d g a h k = some true := by
  unfold data_rules.get at hx
  split at hx
  · exact .inr (data_rules.ok d hd _ _ _ hx)
  · exact .inl hx
/-- function 42: sheerleg/data.rules$1 -/
noncomputable def data_rulesfn1.body (n62 : Int) (t63 : Int × Int × Bool × Unit) (t64 : Tc4) (k1 : Bool → Tc4 → Option Bool) : Option Bool :=
  (k1 (t64.1 == (0 : Int)) t64)
noncomputable def data_rulesfn1 (n62 : Int) (t63 : Int × Int × Bool × Unit) (t64 : Tc4) (k1 : Bool → Tc4 → Option Bool) : Option Bool := data_rulesfn1.body n62 t63 t64 k1
noncomputable def data_rulesfn1.get (F : Int → (Int × Int × Bool × Unit) → Tc4 → (Bool → Tc4 → Option Bool) → Option Bool) (e : Option Bool) (g : FuncId) (a : List AV) (h : Heap) (k : KR) : Option Bool := match g, a, h with
  | 42, [(.d ⟨(.int .i64), n62⟩), (.d ⟨(.st [(.int .i64), (.int .i64), .bool]), t63⟩), (.ptr [0, 0] 0 0)], [([0, 0], ⟨25, 3, (.data (.st [(.int .i64), (.sl 2 (.int .i64)), (.sl 51 (.st [(.int .i64), (.int .i64), .bool]))]) [t64])⟩)] => F n62 t63 t64 (fun y0 y1 => k (.d ⟨.bool, y0⟩) [([0, 0], ⟨25, 3, (.data (.st [(.int .i64), (.sl 2 (.int .i64)), (.sl 51 (.st [(.int .i64), (.int .i64), .bool]))]) [y1])⟩)])
  | _, _, _ => e
noncomputable def data_rulesfn1.calls : RecF := fun g a h k => none
noncomputable def data_rulesfn1.loops : LoopF := fun b => none
set_option maxRecDepth 100000 in
theorem data_rulesfn1.eq (n62 : Int) (t63 : Int × Int × Bool × Unit) (t64 : Tc4) (k : KR) : execL Try.prog ht 42 (callfOf (data_rulesfn1.calls)) (data_rulesfn1.loops) 0 (codeOf Try.f42) ⟨[(.d ⟨(.int .i64), n62⟩), (.d ⟨(.st [(.int .i64), (.int .i64), .bool]), t63⟩), (.ptr [0, 0] 0 0)] ++ List.replicate (Try.f42.ntmps - ([(.d ⟨(.int .i64), n62⟩), (.d ⟨(.st [(.int .i64), (.int .i64), .bool]), t63⟩), (.ptr [0, 0] 0 0)] : List AV).length) .undef, [([0, 0], ⟨25, 3, (.data (.st [(.int .i64), (.sl 2 (.int .i64)), (.sl 51 (.st [(.int .i64), (.int .i64), .bool]))]) [t64])⟩)], 2⟩ (leave Try.prog Try.f42 k) = data_rulesfn1.body n62 t63 t64 (fun y0 y1 => k (.d ⟨.bool, y0⟩) [([0, 0], ⟨25, 3, (.data (.st [(.int .i64), (.sl 2 (.int .i64)), (.sl 51 (.st [(.int .i64), (.int .i64), .bool]))]) [y1])⟩)]) := by kernel_rfl
theorem data_rulesfn1.ok (d : Nat) (hd : 1 ≤ d) (n62 : Int) (t63 : Int × Int × Bool × Unit) (t64 : Tc4) (k : KR) (hx : data_rulesfn1 n62 t63 t64 (fun y0 y1 => k (.d ⟨.bool, y0⟩) [([0, 0], ⟨25, 3, (.data (.st [(.int .i64), (.sl 2 (.int .i64)), (.sl 51 (.st [(.int .i64), (.int .i64), .bool]))]) [y1])⟩)]) = some true) : callK Try.prog ht d 42 [(.d ⟨(.int .i64), n62⟩), (.d ⟨(.st [(.int .i64), (.int .i64), .bool]), t63⟩), (.ptr [0, 0] 0 0)] [([0, 0], ⟨25, 3, (.data (.st [(.int .i64), (.sl 2 (.int .i64)), (.sl 51 (.st [(.int .i64), (.int .i64), .bool]))]) [t64])⟩)] k = some true := by
  obtain ⟨d, rfl⟩ : ∃ e, d = e + 1 := ⟨d - 1, by omega⟩
  exact fn_ok (c := codeOf Try.f42) Try.func42 (by kernel_rfl) (rec := data_rulesfn1.calls) (fun g a h k hx => by
    cases hx) (loopf := data_rulesfn1.loops) (by
    have e : loopsOf (data_rulesfn1.loops) 0 (codeOf Try.f42) = [] := by kernel_rfl
    rw [e]
    intro p hp
    cases hp) ((data_rulesfn1.eq n62 t63 t64 k).trans hx)
theorem data_rulesfn1.look (d : Nat) (hd : 1 ≤ d) {e : Option Bool} {g : FuncId} {a : List AV} {h : Heap} {k : KR} (hx : data_rulesfn1.get data_rulesfn1 e g a h k = some true) : e = some true ∨ callK Try.prog ht d g a h k = some true := by
  unfold data_rulesfn1.get at hx
  split at hx
  · exact .inr (data_rulesfn1.ok d hd _ _ _ _ hx)
  · exact .inl hx
/-- function 43: sheerleg/data.rules$2 -/
noncomputable def data_rulesfn2.body (n67 : Int) (t68 : Int × Int × Bool × Unit) (t69 : Tc4) (k1 : Bool → Tc4 → Option Bool) : Option Bool :=
  (cond_ (! (decide (t68.1 < (0 : Int)))) (k1 (decide (t68.1 ≥ (((List.length t69.2.1) : Nat) : Int))) t69) (k1 true t69))
noncomputable def data_rulesfn2 (n67 : Int) (t68 : Int × Int × Bool × Unit) (t69 : Tc4) (k1 : Bool → Tc4 → Option Bool) : Option Bool := data_rulesfn2.body n67 t68 t69 k1
noncomputable def data_rulesfn2.get (F : Int → (Int × Int × Bool × Unit) → Tc4 → (Bool → Tc4 → Option Bool) → Option Bool) (e : Option Bool) (g : FuncId) (a : List AV) (h : Heap) (k : KR) : Option Bool := match g, a, h with
  | 43, [(.d ⟨(.int .i64), n67⟩), (.d ⟨(.st [(.int .i64), (.int .i64), .bool]), t68⟩), (.ptr [0, 0] 0 0)], [([0, 0], ⟨25, 3, (.data (.st [(.int .i64), (.sl 2 (.int .i64)), (.sl 51 (.st [(.int .i64), (.int .i64), .bool]))]) [t69])⟩)] => F n67 t68 t69 (fun y0 y1 => k (.d ⟨.bool, y0⟩) [([0, 0], ⟨25, 3, (.data (.st [(.int .i64), (.sl 2 (.int .i64)), (.sl 51 (.st [(.int .i64), (.int .i64), .bool]))]) [y1])⟩)])
  | _, _, _ => e
noncomputable def data_rulesfn2.calls : RecF := fun g a h k => none
noncomputable def data_rulesfn2.loops : LoopF := fun b => none
set_option maxRecDepth 100000 in
theorem data_rulesfn2.eq (n67 : Int) (t68 : Int × Int × Bool × Unit) (t69 : Tc4) (k : KR) : execL Try.prog ht 43 (callfOf (data_rulesfn2.calls)) (data_rulesfn2.loops) 0 (codeOf Try.f43) ⟨[(.d ⟨(.int .i64), n67⟩), (.d ⟨(.st [(.int .i64), (.int .i64), .bool]), t68⟩), (.ptr [0, 0] 0 0)] ++ List.replicate (Try.f43.ntmps - ([(.d ⟨(.int .i64), n67⟩), (.d ⟨(.st [(.int .i64), (.int .i64), .bool]), t68⟩), (.ptr [0, 0] 0 0)] : List AV).length) .undef, [([0, 0], ⟨25, 3, (.data (.st [(.int .i64), (.sl 2 (.int .i64)), (.sl 51 (.st [(.int .i64), (.int .i64), .bool]))]) [t69])⟩)], 2⟩ (leave Try.prog Try.f43 k) = data_rulesfn2.body n67 t68 t69 (fun y0 y1 => k (.d ⟨.bool, y0⟩) [([0, 0], ⟨25, 3, (.data (.st [(.int .i64), (.sl 2 (.int .i64)), (.sl 51 (.st [(.int .i64), (.int .i64), .bool]))]) [y1])⟩)]) := by kernel_rfl
theorem data_rulesfn2.ok (d : Nat) (hd : 1 ≤ d) (n67 : Int) (t68 : Int × Int × Bool × Unit) (t69 : Tc4) (k : KR) (hx : data_rulesfn2 n67 t68 t69 (fun y0 y1 => k (.d ⟨.bool, y0⟩) [([0, 0], ⟨25, 3, (.data (.st [(.int .i64), (.sl 2 (.int .i64)), (.sl 51 (.st [(.int .i64), (.int .i64), .bool]))]) [y1])⟩)]) = some true) : callK Try.prog ht d 43 [(.d ⟨(.int .i64), n67⟩), (.d ⟨(.st [(.int .i64), (.int .i64), .bool]), t68⟩), (.ptr [0, 0] 0 0)] [([0, 0], ⟨25, 3, (.data (.st [(.int .i64), (.sl 2 (.int .i64)), (.sl 51 (.st [(.int .i64), (.int .i64), .bool]))]) [t69])⟩)] k = some true := by
  obtain ⟨d, rfl⟩ : ∃ e, d = e + 1 := ⟨d - 1, by omega⟩
  exact fn_ok (c := codeOf Try.f43) Try.func43 (by kernel_rfl) (rec := data_rulesfn2.calls) (fun g a h k hx => by
    cases hx) (loopf := data_rulesfn2.loops) (by
    have e : loopsOf (data_rulesfn2.loops) 0 (codeOf Try.f43) = [] := by kernel_rfl
    rw [e]
    intro p hp
    cases hp) ((data_rulesfn2.eq n67 t68 t69 k).trans hx)
theorem data_rulesfn2.look (d : Nat) (hd : 1 ≤ d) {e : Option Bool} {g : FuncId} {a : List AV} {h : Heap} {k : KR} (hx : data_rulesfn2.get data_rulesfn2 e g a h k = some true) : e = some true ∨ callK Try.prog ht d g a h k = some true := by
  unfold data_rulesfn2.get at hx
  split at hx
  · exact .inr (data_rulesfn2.ok d hd _ _ _ _ hx)
  · exact .inl hx
/-- function 44: sheerleg/data.rules$3 -/
noncomputable def data_rulesfn3.body (n72 : Int) (t73 : Int × Int × Bool × Unit) (t74 : Tc4) (k1 : Bool → Tc4 → Option Bool) : Option Bool :=
  (cond_ (decide (n72 > (0 : Int))) (cond_ ((decide ((0 : Int) ≤ (IntKind.wrap .i64 (n72 - (1 : Int))))) && (decide ((IntKind.wrap .i64 (n72 - (1 : Int))) < (((List.length t74.2.2.1) : Nat) : Int)))) (k1 (decide (t73.1 ≤ (List.getD t74.2.2.1 (Int.toNat (IntKind.wrap .i64 (n72 - (1 : Int)))) ((0 : Int), ((0 : Int), (false, ())))).1)) t74) none) (k1 false t74))
noncomputable def data_rulesfn3 (n72 : Int) (t73 : Int × Int × Bool × Unit) (t74 : Tc4) (k1 : Bool → Tc4 → Option Bool) : Option Bool := data_rulesfn3.body n72 t73 t74 k1
noncomputable def data_rulesfn3.get (F : Int → (Int × Int × Bool × Unit) → Tc4 → (Bool → Tc4 → Option Bool) → Option Bool) (e : Option Bool) (g : FuncId) (a : List AV) (h : Heap) (k : KR) : Option Bool := match g, a, h with
  | 44, [(.d ⟨(.int .i64), n72⟩), (.d ⟨(.st [(.int .i64), (.int .i64), .bool]), t73⟩), (.ptr [0, 0] 0 0)], [([0, 0], ⟨25, 3, (.data (.st [(.int .i64), (.sl 2 (.int .i64)), (.sl 51 (.st [(.int .i64), (.int .i64), .bool]))]) [t74])⟩)] => F n72 t73 t74 (fun y0 y1 => k (.d ⟨.bool, y0⟩) [([0, 0], ⟨25, 3, (.data (.st [(.int .i64), (.sl 2 (.int .i64)), (.sl 51 (.st [(.int .i64), (.int .i64), .bool]))]) [y1])⟩)])
  | _, _, _ => e
noncomputable def data_rulesfn3.calls : RecF := fun g a h k => none
noncomputable def data_rulesfn3.loops : LoopF := fun b => none
set_option maxRecDepth 100000 in
theorem data_rulesfn3.eq (n72 : Int) (t73 : Int × Int × Bool × Unit) (t74 : Tc4) (k : KR) : execL Try.prog ht 44 (callfOf (data_rulesfn3.calls)) (data_rulesfn3.loops) 0 (codeOf Try.f44) ⟨[(.d ⟨(.int .i64), n72⟩), (.d ⟨(.st [(.int .i64), (.int .i64), .bool]), t73⟩), (.ptr [0, 0] 0 0)] ++ List.replicate (Try.f44.ntmps - ([(.d ⟨(.int .i64), n72⟩), (.d ⟨(.st [(.int .i64), (.int .i64), .bool]), t73⟩), (.ptr [0, 0] 0 0)] : List AV).length) .undef, [([0, 0], ⟨25, 3, (.data (.st [(.int .i64), (.sl 2 (.int .i64)), (.sl 51 (.st [(.int .i64), (.int .i64), .bool]))]) [t74])⟩)], 2⟩ (leave Try.prog Try.f44 k) = data_rulesfn3.body n72 t73 t74 (fun y0 y1 => k (.d ⟨.bool, y0⟩) [([0, 0], ⟨25, 3, (.data (.st [(.int .i64), (.sl 2 (.int .i64)), (.sl 51 (.st [(.int .i64), (.int .i64), .bool]))]) [y1])⟩)]) := by kernel_rfl
theorem data_rulesfn3.ok (d : Nat) (hd : 1 ≤ d) (n72 : Int) (t73 : Int × Int × Bool × Unit) (t74 : Tc4) (k : KR) (hx : data_rulesfn3 n72 t73 t74 (fun y0 y1 => k (.d ⟨.bool, y0⟩) [([0, 0], ⟨25, 3, (.data (.st [(.int .i64), (.sl 2 (.int .i64)), (.sl 51 (.st [(.int .i64), (.int .i64), .bool]))]) [y1])⟩)]) = some true) : callK Try.prog ht d 44 [(.d ⟨(.int .i64), n72⟩), (.d ⟨(.st [(.int .i64), (.int .i64), .bool]), t73⟩), (.ptr [0, 0] 0 0)] [([0, 0], ⟨25, 3, (.data (.st [(.int .i64), (.sl 2 (.int .i64)), (.sl 51 (.st [(.int .i64), (.int .i64), .bool]))]) [t74])⟩)] k = some true := by
  obtain ⟨d, rfl⟩ : ∃ e, d = e + 1 := ⟨d - 1, by omega⟩
  exact fn_ok (c := codeOf Try.f44) Try.func44 (by kernel_rfl) (rec := data_rulesfn3.calls) (fun g a h k hx => by
    cases hx) (loopf := data_rulesfn3.loops) (by
    have e : loopsOf (data_rulesfn3.loops) 0 (codeOf Try.f44) = [] := by kernel_rfl
    rw [e]
    intro p hp
    cases hp) ((data_rulesfn3.eq n72 t73 t74 k).trans hx)
theorem data_rulesfn3.look (d : Nat) (hd : 1 ≤ d) {e : Option Bool} {g : FuncId} {a : List AV} {h : Heap} {k : KR} (hx : data_rulesfn3.get data_rulesfn3 e g a h k = some true) : e = some true ∨ callK Try.prog ht d g a h k = some true := by
  unfold data_rulesfn3.get at hx
  split at hx
  · exact .inr (data_rulesfn3.ok d hd _ _ _ _ hx)
  · exact .inl hx
/-- function 45: sheerleg/data.rules$4 -/
noncomputable def data_rulesfn4.body (n77 : Int) (t78 : Int × Int × Bool × Unit) (l79 : Tc3) (k1 : Bool → Tc3 → Option Bool) : Option Bool :=
  (cond_ (! (decide (t78.2.1 < (0 : Int)))) (k1 (decide (t78.2.1 ≥ (((List.length l79) : Nat) : Int))) l79) (k1 true l79))
noncomputable def data_rulesfn4 (n77 : Int) (t78 : Int × Int × Bool × Unit) (l79 : Tc3) (k1 : Bool → Tc3 → Option Bool) : Option Bool := data_rulesfn4.body n77 t78 l79 k1
noncomputable def data_rulesfn4.get (F : Int → (Int × Int × Bool × Unit) → Tc3 → (Bool → Tc3 → Option Bool) → Option Bool) (e : Option Bool) (g : FuncId) (a : List AV) (h : Heap) (k : KR) : Option Bool := match g, a, h with
  | 45, [(.d ⟨(.int .i64), n77⟩), (.d ⟨(.st [(.int .i64), (.int .i64), .bool]), t78⟩), (.ptr [0, 0] 0 0)], [([0, 0], ⟨26, 1, (.data (.sl 53 (.st [.str, .bool, (.int .i64), (.int .i64), (.int .i64)])) [l79])⟩)] => F n77 t78 l79 (fun y0 y1 => k (.d ⟨.bool, y0⟩) [([0, 0], ⟨26, 1, (.data (.sl 53 (.st [.str, .bool, (.int .i64), (.int .i64), (.int .i64)])) [y1])⟩)])
  | _, _, _ => e
noncomputable def data_rulesfn4.calls : RecF := fun g a h k => none
noncomputable def data_rulesfn4.loops : LoopF := fun b => none
set_option maxRecDepth 100000 in
theorem data_rulesfn4.eq (n77 : Int) (t78 : Int × Int × Bool × Unit) (l79 : Tc3) (k : KR) : execL Try.prog ht 45 (callfOf (data_rulesfn4.calls)) (data_rulesfn4.loops) 0 (codeOf Try.f45) ⟨[(.d ⟨(.int .i64), n77⟩), (.d ⟨(.st [(.int .i64), (.int .i64), .bool]), t78⟩), (.ptr [0, 0] 0 0)] ++ List.replicate (Try.f45.ntmps - ([(.d ⟨(.int .i64), n77⟩), (.d ⟨(.st [(.int .i64), (.int .i64), .bool]), t78⟩), (.ptr [0, 0] 0 0)] : List AV).length) .undef, [([0, 0], ⟨26, 1, (.data (.sl 53 (.st [.str, .bool, (.int .i64), (.int .i64), (.int .i64)])) [l79])⟩)], 2⟩ (leave Try.prog Try.f45 k) = data_rulesfn4.body n77 t78 l79 (fun y0 y1 => k (.d ⟨.bool, y0⟩) [([0, 0], ⟨26, 1, (.data (.sl 53 (.st [.str, .bool, (.int .i64), (.int .i64), (.int .i64)])) [y1])⟩)]) := by kernel_rfl
theorem data_rulesfn4.ok (d : Nat) (hd : 1 ≤ d) (n77 : Int) (t78 : Int × Int × Bool × Unit) (l79 : Tc3) (k : KR) (hx : data_rulesfn4 n77 t78 l79 (fun y0 y1 => k (.d ⟨.bool, y0⟩) [([0, 0], ⟨26, 1, (.data (.sl 53 (.st [.str, .bool, (.int .i64), (.int .i64), (.int .i64)])) [y1])⟩)]) = some true) : callK Try.prog ht d 45 [(.d ⟨(.int .i64), n77⟩), (.d ⟨(.st [(.int .i64), (.int .i64), .bool]), t78⟩), (.ptr [0, 0] 0 0)] [([0, 0], ⟨26, 1, (.data (.sl 53 (.st [.str, .bool, (.int .i64), (.int .i64), (.int .i64)])) [l79])⟩)] k = some true := by
  obtain ⟨d, rfl⟩ : ∃ e, d = e + 1 := ⟨d - 1, by omega⟩
  exact fn_ok (c := codeOf Try.f45) Try.func45 (by kernel_rfl) (rec := data_rulesfn4.calls) (fun g a h k hx => by
    cases hx) (loopf := data_rulesfn4.loops) (by
    have e : loopsOf (data_rulesfn4.loops) 0 (codeOf Try.f45) = [] := by kernel_rfl
    rw [e]
    intro p hp
    cases hp) ((data_rulesfn4.eq n77 t78 l79 k).trans hx)
theorem data_rulesfn4.look (d : Nat) (hd : 1 ≤ d) {e : Option Bool} {g : FuncId} {a : List AV} {h : Heap} {k : KR} (hx : data_rulesfn4.get data_rulesfn4 e g a h k = some true) : e = some true ∨ callK Try.prog ht d g a h k = some true := by
  unfold data_rulesfn4.get at hx
  split at hx
  · exact .inr (data_rulesfn4.ok d hd _ _ _ _ hx)
  · exact .inl hx
/-- function 46: sheerleg/data.rules$5 -/
noncomputable def data_rulesfn5.body (n82 : Int) (t83 : Int × Int × Bool × Unit) (l84 : Tc3) (n85 : Int) (k1 : Bool → Tc3 → Int → Option Bool) : Option Bool :=
  (cond_ ((decide ((0 : Int) ≤ t83.2.1)) && (decide (t83.2.1 < (((List.length l84) : Nat) : Int)))) (cond_ (! ((List.getD l84 (Int.toNat t83.2.1) ((⟨#[]⟩ : ByteArray), (false, ((0 : Int), ((0 : Int), ((0 : Int), ())))))).2.2.1 != (1 : Int))) (cond_ ((decide ((0 : Int) ≤ t83.2.1)) && (decide (t83.2.1 < (((List.length l84) : Nat) : Int)))) (k1 ((List.getD l84 (Int.toNat t83.2.1) ((⟨#[]⟩ : ByteArray), (false, ((0 : Int), ((0 : Int), ((0 : Int), ())))))).2.2.2.1 != n85) l84 n85) none) (k1 true l84 n85)) none)
noncomputable def data_rulesfn5 (n82 : Int) (t83 : Int × Int × Bool × Unit) (l84 : Tc3) (n85 : Int) (k1 : Bool → Tc3 → Int → Option Bool) : Option Bool := data_rulesfn5.body n82 t83 l84 n85 k1
noncomputable def data_rulesfn5.get (F : Int → (Int × Int × Bool × Unit) → Tc3 → Int → (Bool → Tc3 → Int → Option Bool) → Option Bool) (e : Option Bool) (g : FuncId) (a : List AV) (h : Heap) (k : KR) : Option Bool := match g, a, h with
  | 46, [(.d ⟨(.int .i64), n82⟩), (.d ⟨(.st [(.int .i64), (.int .i64), .bool]), t83⟩), (.ptr [0, 0] 0 0), (.ptr [0, 1] 0 0)], [([0, 0], ⟨26, 1, (.data (.sl 53 (.st [.str, .bool, (.int .i64), (.int .i64), (.int .i64)])) [l84])⟩), ([0, 1], ⟨3, 1, (.data (.int .i64) [n85])⟩)] => F n82 t83 l84 n85 (fun y0 y1 y2 => k (.d ⟨.bool, y0⟩) [([0, 0], ⟨26, 1, (.data (.sl 53 (.st [.str, .bool, (.int .i64), (.int .i64), (.int .i64)])) [y1])⟩), ([0, 1], ⟨3, 1, (.data (.int .i64) [y2])⟩)])
  | _, _, _ => e
noncomputable def data_rulesfn5.calls : RecF := fun g a h k => none
noncomputable def data_rulesfn5.loops : LoopF := fun b => none
set_option maxRecDepth 100000 in
theorem data_rulesfn5.eq (n82 : Int) (t83 : Int × Int × Bool × Unit) (l84 : Tc3) (n85 : Int) (k : KR) : execL Try.prog ht 46 (callfOf (data_rulesfn5.calls)) (data_rulesfn5.loops) 0 (codeOf Try.f46) ⟨[(.d ⟨(.int .i64), n82⟩), (.d ⟨(.st [(.int .i64), (.int .i64), .bool]), t83⟩), (.ptr [0, 0] 0 0), (.ptr [0, 1] 0 0)] ++ List.replicate (Try.f46.ntmps - ([(.d ⟨(.int .i64), n82⟩), (.d ⟨(.st [(.int .i64), (.int .i64), .bool]), t83⟩), (.ptr [0, 0] 0 0), (.ptr [0, 1] 0 0)] : List AV).length) .undef, [([0, 0], ⟨26, 1, (.data (.sl 53 (.st [.str, .bool, (.int .i64), (.int .i64), (.int .i64)])) [l84])⟩), ([0, 1], ⟨3, 1, (.data (.int .i64) [n85])⟩)], 2⟩ (leave Try.prog Try.f46 k) = data_rulesfn5.body n82 t83 l84 n85 (fun y0 y1 y2 => k (.d ⟨.bool, y0⟩) [([0, 0], ⟨26, 1, (.data (.sl 53 (.st [.str, .bool, (.int .i64), (.int .i64), (.int .i64)])) [y1])⟩), ([0, 1], ⟨3, 1, (.data (.int .i64) [y2])⟩)]) := by kernel_rfl
theorem data_rulesfn5.ok (d : Nat) (hd : 1 ≤ d) (n82 : Int) (t83 : Int × Int × Bool × Unit) (l84 : Tc3) (n85 : Int) (k : KR) (hx : data_rulesfn5 n82 t83 l84 n85 (fun y0 y1 y2 => k (.d ⟨.bool, y0⟩) [([0, 0], ⟨26, 1, (.data (.sl 53 (.st [.str, .bool, (.int .i64), (.int .i64), (.int .i64)])) [y1])⟩), ([0, 1], ⟨3, 1, (.data (.int .i64) [y2])⟩)]) = some true) : callK Try.prog ht d 46 [(.d ⟨(.int .i64), n82⟩), (.d ⟨(.st [(.int .i64), (.int .i64), .bool]), t83⟩), (.ptr [0, 0] 0 0), (.ptr [0, 1] 0 0)] [([0, 0], ⟨26, 1, (.data (.sl 53 (.st [.str, .bool, (.int .i64), (.int .i64), (.int .i64)])) [l84])⟩), ([0, 1], ⟨3, 1, (.data (.int .i64) [n85])⟩)] k = some true := by
  obtain ⟨d, rfl⟩ : ∃ e, d = e + 1 := ⟨d - 1, by omega⟩
  exact fn_ok (c := codeOf Try.f46) Try.func46 (by kernel_rfl) (rec := data_rulesfn5.calls) (fun g a h k hx => by
    cases hx) (loopf := data_rulesfn5.loops) (by
    have e : loopsOf (data_rulesfn5.loops) 0 (codeOf Try.f46) = [] := by kernel_rfl
    rw [e]
    intro p hp
    cases hp) ((data_rulesfn5.eq n82 t83 l84 n85 k).trans hx)
theorem data_rulesfn5.look (d : Nat) (hd : 1 ≤ d) {e : Option Bool} {g : FuncId} {a : List AV} {h : Heap} {k : KR} (hx : data_rulesfn5.get data_rulesfn5 e g a h k = some true) : e = some true ∨ callK Try.prog ht d g a h k = some true := by
  unfold data_rulesfn5.get at hx
  split at hx
  · exact .inr (data_rulesfn5.ok d hd _ _ _ _ _ hx)
  · exact .inl hx
/-- function 8: the loop in block 3 -/
noncomputable def data_Check_L1_L3.body (data_Check_L1_L3 : Int → Tc0 → Int → Int → Int → Int → Int → Int → Int → Int → Int → Tc4 → Tc3 → Int → (Int × Int × Bool × Unit) → (Int → Option Bool) → (Tc0 → Int → Int → Int → Int → Int → Int → Int → Tc4 → Tc3 → Int → Option Bool) → Option Bool) (data_rulesfn1 : Int → (Int × Int × Bool × Unit) → Tc4 → (Bool → Tc4 → Option Bool) → Option Bool) (data_rulesfn2 : Int → (Int × Int × Bool × Unit) → Tc4 → (Bool → Tc4 → Option Bool) → Option Bool) (data_rulesfn3 : Int → (Int × Int × Bool × Unit) → Tc4 → (Bool → Tc4 → Option Bool) → Option Bool) (data_rulesfn4 : Int → (Int × Int × Bool × Unit) → Tc3 → (Bool → Tc3 → Option Bool) → Option Bool) (data_rulesfn5 : Int → (Int × Int × Bool × Unit) → Tc3 → Int → (Bool → Tc3 → Int → Option Bool) → Option Bool) (n47 : Int) (l48 : Tc0) (n49 : Int) (n50 : Int) (n51 : Int) (n52 : Int) (n53 : Int) (n54 : Int) (n55 : Int) (n56 : Int) (n57 : Int) (t58 : Tc4) (l59 : Tc3) (n60 : Int) (t61 : Int × Int × Bool × Unit) (k1 : Int → Option Bool) (k2 : Tc0 → Int → Int → Int → Int → Int → Int → Int → Tc4 → Tc3 → Int → Option Bool) : Option Bool :=
  (cond_ (decide (n52 < n51)) (cond_ (n52 == (0 : Int)) (data_rulesfn1 n47 t61 t58
  (fun b65 t66 => (cond_ b65 (k1 n53) (data_Check_L1_L3 n47 l48 n49 n50 n51 (IntKind.wrap .i64 (n52 + (1 : Int))) n53 n54 n55 n56 n57 t66 l59 n60 t61 k1 k2)))) (cond_ (n52 == (1 : Int)) (data_rulesfn2 n47 t61 t58
  (fun b70 t71 => (cond_ b70 (k1 n54) (data_Check_L1_L3 n47 l48 n49 n50 n51 (IntKind.wrap .i64 (n52 + (1 : Int))) n53 n54 n55 n56 n57 t71 l59 n60 t61 k1 k2)))) (cond_ (n52 == (2 : Int)) (data_rulesfn3 n47 t61 t58
  (fun b75 t76 => (cond_ b75 (k1 n55) (data_Check_L1_L3 n47 l48 n49 n50 n51 (IntKind.wrap .i64 (n52 + (1 : Int))) n53 n54 n55 n56 n57 t76 l59 n60 t61 k1 k2)))) (cond_ (n52 == (3 : Int)) (data_rulesfn4 n47 t61 l59
  (fun b80 l81 => (cond_ b80 (k1 n56) (data_Check_L1_L3 n47 l48 n49 n50 n51 (IntKind.wrap .i64 (n52 + (1 : Int))) n53 n54 n55 n56 n57 t58 l81 n60 t61 k1 k2)))) (cond_ (n52 == (4 : Int)) (data_rulesfn5 n47 t61 l59 n60
  (fun b86 l87 n88 => (cond_ b86 (k1 n57) (data_Check_L1_L3 n47 l48 n49 n50 n51 (IntKind.wrap .i64 (n52 + (1 : Int))) n53 n54 n55 n56 n57 t58 l87 n88 t61 k1 k2)))) none))))) (k2 l48 n49 n50 n53 n54 n55 n56 n57 t58 l59 n60))
noncomputable def data_Check_L1_L3 : Nat → Int → Tc0 → Int → Int → Int → Int → Int → Int → Int → Int → Int → Tc4 → Tc3 → Int → (Int × Int × Bool × Unit) → (Int → Option Bool) → (Tc0 → Int → Int → Int → Int → Int → Int → Int → Tc4 → Tc3 → Int → Option Bool) → Option Bool
  | 0 => fun _ _ _ _ _ _ _ _ _ _ _ _ _ _ _ _ _ => none
  | n + 1 => data_Check_L1_L3.body (data_Check_L1_L3 n) data_rulesfn1 data_rulesfn2 data_rulesfn3 data_rulesfn4 data_rulesfn5
noncomputable def data_Check_L1_L3.get (F : Int → Tc0 → Int → Int → Int → Int → Int → Int → Int → Int → Int → Tc4 → Tc3 → Int → (Int × Int × Bool × Unit) → (Int → Option Bool) → (Tc0 → Int → Int → Int → Int → Int → Int → Int → Tc4 → Tc3 → Int → Option Bool) → Option Bool) (e : Option Bool) (st : St) (k : KE) : Option Bool := match st with
  | ⟨sl, hp, m⟩ => match Nat.beq m 2, pickS 55 [5, 6, 7, 33, 34, 35, 40, 41, 42] sl, hp with
    | true, some [(.ref [1, 0]), (.d ⟨(.int .i64), n47⟩), (.ptr [1, 4] 0 0), (.d ⟨(.sl 51 (.st [(.int .i64), (.int .i64), .bool])), l48⟩), (.d ⟨(.int .i64), n49⟩), (.d ⟨(.int .i64), n50⟩), (.ref [1, 0]), (.d ⟨(.int .i64), n51⟩), (.d ⟨(.int .i64), n52⟩)], [([1, 0], ⟨61, 2, (.mix [(.agg [(.fn (.func 42) [] [(.ptr [1, 1] 0 0)]), (.d ⟨(.int .i64), n53⟩)]), (.agg [(.fn (.func 43) [] [(.ptr [1, 1] 0 0)]), (.d ⟨(.int .i64), n54⟩)]), (.agg [(.fn (.func 44) [] [(.ptr [1, 1] 0 0)]), (.d ⟨(.int .i64), n55⟩)]), (.agg [(.fn (.func 45) [] [(.ptr [1, 2] 0 0)]), (.d ⟨(.int .i64), n56⟩)]), (.agg [(.fn (.func 46) [] [(.ptr [1, 2] 0 0), (.ptr [1, 3] 0 0)]), (.d ⟨(.int .i64), n57⟩)])])⟩), ([1, 1], ⟨25, 3, (.data (.st [(.int .i64), (.sl 2 (.int .i64)), (.sl 51 (.st [(.int .i64), (.int .i64), .bool]))]) [t58])⟩), ([1, 2], ⟨26, 1, (.data (.sl 53 (.st [.str, .bool, (.int .i64), (.int .i64), (.int .i64)])) [l59])⟩), ([1, 3], ⟨3, 1, (.data (.int .i64) [n60])⟩), ([1, 4], ⟨51, 3, (.data (.st [(.int .i64), (.int .i64), .bool]) [t61])⟩)] => F n47 l48 n49 n50 n51 n52 n53 n54 n55 n56 n57 t58 l59 n60 t61 (fun y0 => k .ret ⟨fillS 55 [4] [(.d ⟨(.int .i64), y0⟩)], [], 2⟩) (fun y0 y1 y2 y3 y4 y5 y6 y7 y8 y9 y10 => k (.exit 3) ⟨fillS 55 [5, 33, 34, 35] [(.ref [1, 0]), (.d ⟨(.sl 51 (.st [(.int .i64), (.int .i64), .bool])), y0⟩), (.d ⟨(.int .i64), y1⟩), (.d ⟨(.int .i64), y2⟩)], [([1, 0], ⟨61, 2, (.mix [(.agg [(.fn (.func 42) [] [(.ptr [1, 1] 0 0)]), (.d ⟨(.int .i64), y3⟩)]), (.agg [(.fn (.func 43) [] [(.ptr [1, 1] 0 0)]), (.d ⟨(.int .i64), y4⟩)]), (.agg [(.fn (.func 44) [] [(.ptr [1, 1] 0 0)]), (.d ⟨(.int .i64), y5⟩)]), (.agg [(.fn (.func 45) [] [(.ptr [1, 2] 0 0)]), (.d ⟨(.int .i64), y6⟩)]), (.agg [(.fn (.func 46) [] [(.ptr [1, 2] 0 0), (.ptr [1, 3] 0 0)]), (.d ⟨(.int .i64), y7⟩)])])⟩), ([1, 1], ⟨25, 3, (.data (.st [(.int .i64), (.sl 2 (.int .i64)), (.sl 51 (.st [(.int .i64), (.int .i64), .bool]))]) [y8])⟩), ([1, 2], ⟨26, 1, (.data (.sl 53 (.st [.str, .bool, (.int .i64), (.int .i64), (.int .i64)])) [y9])⟩), ([1, 3], ⟨3, 1, (.data (.int .i64) [y10])⟩)], 2⟩)
    | _, _, _ => e
noncomputable def data_Check_L1_L3.calls (F0 : Int → (Int × Int × Bool × Unit) → Tc4 → (Bool → Tc4 → Option Bool) → Option Bool) (F1 : Int → (Int × Int × Bool × Unit) → Tc4 → (Bool → Tc4 → Option Bool) → Option Bool) (F2 : Int → (Int × Int × Bool × Unit) → Tc4 → (Bool → Tc4 → Option Bool) → Option Bool) (F3 : Int → (Int × Int × Bool × Unit) → Tc3 → (Bool → Tc3 → Option Bool) → Option Bool) (F4 : Int → (Int × Int × Bool × Unit) → Tc3 → Int → (Bool → Tc3 → Int → Option Bool) → Option Bool) : RecF := fun g a h k => (data_rulesfn1.get F0 (data_rulesfn2.get F1 (data_rulesfn3.get F2 (data_rulesfn4.get F3 (data_rulesfn5.get F4 none g a h k) g a h k) g a h k) g a h k) g a h k)
noncomputable def data_Check_L1_L3.loops : LoopF := fun b => none
set_option maxRecDepth 100000 in
theorem data_Check_L1_L3.step (S : Int → Tc0 → Int → Int → Int → Int → Int → Int → Int → Int → Int → Tc4 → Tc3 → Int → (Int × Int × Bool × Unit) → (Int → Option Bool) → (Tc0 → Int → Int → Int → Int → Int → Int → Int → Tc4 → Tc3 → Int → Option Bool) → Option Bool) (F0 : Int → (Int × Int × Bool × Unit) → Tc4 → (Bool → Tc4 → Option Bool) → Option Bool) (F1 : Int → (Int × Int × Bool × Unit) → Tc4 → (Bool → Tc4 → Option Bool) → Option Bool) (F2 : Int → (Int × Int × Bool × Unit) → Tc4 → (Bool → Tc4 → Option Bool) → Option Bool) (F3 : Int → (Int × Int × Bool × Unit) → Tc3 → (Bool → Tc3 → Option Bool) → Option Bool) (F4 : Int → (Int × Int × Bool × Unit) → Tc3 → Int → (Bool → Tc3 → Int → Option Bool) → Option Bool) (n47 : Int) (l48 : Tc0) (n49 : Int) (n50 : Int) (n51 : Int) (n52 : Int) (n53 : Int) (n54 : Int) (n55 : Int) (n56 : Int) (n57 : Int) (t58 : Tc4) (l59 : Tc3) (n60 : Int) (t61 : Int × Int × Bool × Unit) (k : KE) : execL Try.prog ht 8 (callfOf (data_Check_L1_L3.calls F0 F1 F2 F3 F4)) (data_Check_L1_L3.loops) 3 (loopAt 3 (codeOf Try.f8)) ⟨fillS 55 [5, 6, 7, 33, 34, 35, 40, 41, 42] [(.ref [1, 0]), (.d ⟨(.int .i64), n47⟩), (.ptr [1, 4] 0 0), (.d ⟨(.sl 51 (.st [(.int .i64), (.int .i64), .bool])), l48⟩), (.d ⟨(.int .i64), n49⟩), (.d ⟨(.int .i64), n50⟩), (.ref [1, 0]), (.d ⟨(.int .i64), n51⟩), (.d ⟨(.int .i64), n52⟩)], [([1, 0], ⟨61, 2, (.mix [(.agg [(.fn (.func 42) [] [(.ptr [1, 1] 0 0)]), (.d ⟨(.int .i64), n53⟩)]), (.agg [(.fn (.func 43) [] [(.ptr [1, 1] 0 0)]), (.d ⟨(.int .i64), n54⟩)]), (.agg [(.fn (.func 44) [] [(.ptr [1, 1] 0 0)]), (.d ⟨(.int .i64), n55⟩)]), (.agg [(.fn (.func 45) [] [(.ptr [1, 2] 0 0)]), (.d ⟨(.int .i64), n56⟩)]), (.agg [(.fn (.func 46) [] [(.ptr [1, 2] 0 0), (.ptr [1, 3] 0 0)]), (.d ⟨(.int .i64), n57⟩)])])⟩), ([1, 1], ⟨25, 3, (.data (.st [(.int .i64), (.sl 2 (.int .i64)), (.sl 51 (.st [(.int .i64), (.int .i64), .bool]))]) [t58])⟩), ([1, 2], ⟨26, 1, (.data (.sl 53 (.st [.str, .bool, (.int .i64), (.int .i64), (.int .i64)])) [l59])⟩), ([1, 3], ⟨3, 1, (.data (.int .i64) [n60])⟩), ([1, 4], ⟨51, 3, (.data (.st [(.int .i64), (.int .i64), .bool]) [t61])⟩)], 2⟩ (again (data_Check_L1_L3.get S none) (plan Try.prog (ht 8 3)) k) = data_Check_L1_L3.body S F0 F1 F2 F3 F4 n47 l48 n49 n50 n51 n52 n53 n54 n55 n56 n57 t58 l59 n60 t61 (fun y0 => k .ret ⟨fillS 55 [4] [(.d ⟨(.int .i64), y0⟩)], [], 2⟩) (fun y0 y1 y2 y3 y4 y5 y6 y7 y8 y9 y10 => k (.exit 3) ⟨fillS 55 [5, 33, 34, 35] [(.ref [1, 0]), (.d ⟨(.sl 51 (.st [(.int .i64), (.int .i64), .bool])), y0⟩), (.d ⟨(.int .i64), y1⟩), (.d ⟨(.int .i64), y2⟩)], [([1, 0], ⟨61, 2, (.mix [(.agg [(.fn (.func 42) [] [(.ptr [1, 1] 0 0)]), (.d ⟨(.int .i64), y3⟩)]), (.agg [(.fn (.func 43) [] [(.ptr [1, 1] 0 0)]), (.d ⟨(.int .i64), y4⟩)]), (.agg [(.fn (.func 44) [] [(.ptr [1, 1] 0 0)]), (.d ⟨(.int .i64), y5⟩)]), (.agg [(.fn (.func 45) [] [(.ptr [1, 2] 0 0)]), (.d ⟨(.int .i64), y6⟩)]), (.agg [(.fn (.func 46) [] [(.ptr [1, 2] 0 0), (.ptr [1, 3] 0 0)]), (.d ⟨(.int .i64), y7⟩)])])⟩), ([1, 1], ⟨25, 3, (.data (.st [(.int .i64), (.sl 2 (.int .i64)), (.sl 51 (.st [(.int .i64), (.int .i64), .bool]))]) [y8])⟩), ([1, 2], ⟨26, 1, (.data (.sl 53 (.st [.str, .bool, (.int .i64), (.int .i64), (.int .i64)])) [y9])⟩), ([1, 3], ⟨3, 1, (.data (.int .i64) [y10])⟩)], 2⟩) := by kernel_rfl
theorem data_Check_L1_L3.ok (d : Nat) (hd : 1 ≤ d) : ∀ n st k, data_Check_L1_L3.get (data_Check_L1_L3 n) none st k = some true → iter n (plan Try.prog (ht 8 3)) (fun st k => execK Try.prog ht 8 (callfOf (callK Try.prog ht d)) 3 (loopAt 3 (codeOf Try.f8)) st k) st k = some true :=
  loop_ok (lfn := fun n st k => data_Check_L1_L3.get (data_Check_L1_L3 n) none st k) (rec := data_Check_L1_L3.calls data_rulesfn1 data_rulesfn2 data_rulesfn3 data_rulesfn4 data_rulesfn5) (fun g a h k hx => by
    rcases data_rulesfn1.look d (by omega) hx with hx | hx
    rotate_left
    · exact hx
    rcases data_rulesfn2.look d (by omega) hx with hx | hx
    rotate_left
    · exact hx
    rcases data_rulesfn3.look d (by omega) hx with hx | hx
    rotate_left
    · exact hx
    rcases data_rulesfn4.look d (by omega) hx with hx | hx
    rotate_left
    · exact hx
    rcases data_rulesfn5.look d (by omega) hx with hx | hx
    rotate_left
    · exact hx
    cases hx) (loopf := data_Check_L1_L3.loops) (by
    have e : loopsOf (data_Check_L1_L3.loops) 3 (loopAt 3 (codeOf Try.f8)) = [] := by kernel_rfl
    rw [e]
    intro p hp
    cases hp) (fun st k h => by
    obtain ⟨sl, hp, m⟩ := st
    unfold data_Check_L1_L3.get at h
    dsimp only at h
    split at h
    · have h' : (none : Option Bool) = some true := h
      cases h'
    · cases h) (fun n st k h => by
    obtain ⟨sl, hp, m⟩ := st
    unfold data_Check_L1_L3.get at h
    dsimp only at h
    split at h
    · rename_i h1 h2
      obtain rfl := pickS_ok h2
      obtain rfl := Nat.eq_of_beq_eq_true h1
      exact (data_Check_L1_L3.step (data_Check_L1_L3 n) data_rulesfn1 data_rulesfn2 data_rulesfn3 data_rulesfn4 data_rulesfn5 _ _ _ _ _ _ _ _ _ _ _ _ _ _ _ k).trans h
    · cases h)
theorem data_Check_L1_L3.look {F : Int → Tc0 → Int → Int → Int → Int → Int → Int → Int → Int → Int → Tc4 → Tc3 → Int → (Int × Int × Bool × Unit) → (Int → Option Bool) → (Tc0 → Int → Int → Int → Int → Int → Int → Int → Tc4 → Tc3 → Int → Option Bool) → Option Bool} {e : Option Bool} {st : St} {k : KE} (hx : data_Check_L1_L3.get F e st k = some true) : e = some true ∨ data_Check_L1_L3.get F none st k = some true := by
  obtain ⟨sl, hp, m⟩ := st
  unfold data_Check_L1_L3.get at hx ⊢
  dsimp only at hx ⊢
  split at hx
  · exact .inr hx
  · exact .inl hx
/-- function 8: the loop in block 1 -/
noncomputable def data_Check_L1.body (data_Check_L1 : Tc0 → Int → Int → Int → Int → Int → Int → Int → Tc4 → Tc3 → Int → (Int → Option Bool) → (Option Bool) → Option Bool) (data_Check_L1_L3 : Int → Tc0 → Int → Int → Int → Int → Int → Int → Int → Int → Int → Tc4 → Tc3 → Int → (Int × Int × Bool × Unit) → (Int → Option Bool) → (Tc0 → Int → Int → Int → Int → Int → Int → Int → Tc4 → Tc3 → Int → Option Bool) → Option Bool) (l36 : Tc0) (n37 : Int) (n38 : Int) (n39 : Int) (n40 : Int) (n41 : Int) (n42 : Int) (n43 : Int) (t44 : Tc4) (l45 : Tc3) (n46 : Int) (k1 : Int → Option Bool) (k2 : Option Bool) : Option Bool :=
  (cond_ (decide (n38 < n37)) (cond_ ((decide ((0 : Int) ≤ n38)) && (decide (n38 < (((List.length l36) : Nat) : Int)))) (data_Check_L1_L3 n38 l36 n37 n38 (((List.length ((@Go.AX.AV.agg ((@Go.AX.AV.fn (@Go.Fn.func (42 : Nat)) [] ((@Go.AX.AV.ptr ((1 : Nat) :: ((1 : Nat) :: [])) (0 : Nat) (0 : Nat)) :: [])) :: ((@Go.AX.AV.d (@Go.AX.DV.mk (@Go.AX.Ty.int @Go.IntKind.i64) n39)) :: []))) :: ((@Go.AX.AV.agg ((@Go.AX.AV.fn (@Go.Fn.func (43 : Nat)) [] ((@Go.AX.AV.ptr ((1 : Nat) :: ((1 : Nat) :: [])) (0 : Nat) (0 : Nat)) :: [])) :: ((@Go.AX.AV.d (@Go.AX.DV.mk (@Go.AX.Ty.int @Go.IntKind.i64) n40)) :: []))) :: ((@Go.AX.AV.agg ((@Go.AX.AV.fn (@Go.Fn.func (44 : Nat)) [] ((@Go.AX.AV.ptr ((1 : Nat) :: ((1 : Nat) :: [])) (0 : Nat) (0 : Nat)) :: [])) :: ((@Go.AX.AV.d (@Go.AX.DV.mk (@Go.AX.Ty.int @Go.IntKind.i64) n41)) :: []))) :: ((@Go.AX.AV.agg ((@Go.AX.AV.fn (@Go.Fn.func (45 : Nat)) [] ((@Go.AX.AV.ptr ((1 : Nat) :: ((2 : Nat) :: [])) (0 : Nat) (0 : Nat)) :: [])) :: ((@Go.AX.AV.d (@Go.AX.DV.mk (@Go.AX.Ty.int @Go.IntKind.i64) n42)) :: []))) :: ((@Go.AX.AV.agg ((@Go.AX.AV.fn (@Go.Fn.func (46 : Nat)) [] ((@Go.AX.AV.ptr ((1 : Nat) :: ((2 : Nat) :: [])) (0 : Nat) (0 : Nat)) :: ((@Go.AX.AV.ptr ((1 : Nat) :: ((3 : Nat) :: [])) (0 : Nat) (0 : Nat)) :: []))) :: ((@Go.AX.AV.d (@Go.AX.DV.mk (@Go.AX.Ty.int @Go.IntKind.i64) n43)) :: []))) :: [])))))) : Nat) : Int) (0 : Int) n39 n40 n41 n42 n43 t44 l45 n46 (List.getD l36 (Int.toNat n38) ((0 : Int), ((0 : Int), (false, ()))))
  (fun n89 => (k1 n89))
  (fun l90 n91 n92 n93 n94 n95 n96 n97 t98 l99 n100 => (data_Check_L1 l90 n91 (IntKind.wrap .i64 (n92 + (1 : Int))) n93 n94 n95 n96 n97 t98 l99 n100 k1 k2))) none) (k2))
noncomputable def data_Check_L1 : Nat → Tc0 → Int → Int → Int → Int → Int → Int → Int → Tc4 → Tc3 → Int → (Int → Option Bool) → (Option Bool) → Option Bool
  | 0 => fun _ _ _ _ _ _ _ _ _ _ _ _ _ => none
  | n + 1 => data_Check_L1.body (data_Check_L1 n) (data_Check_L1_L3 ROUNDS)
noncomputable def data_Check_L1.get (F : Tc0 → Int → Int → Int → Int → Int → Int → Int → Tc4 → Tc3 → Int → (Int → Option Bool) → (Option Bool) → Option Bool) (e : Option Bool) (st : St) (k : KE) : Option Bool := match st with
  | ⟨sl, hp, m⟩ => match Nat.beq m 2, pickS 55 [5, 33, 34, 35] sl, hp with
    | true, some [(.ref [1, 0]), (.d ⟨(.sl 51 (.st [(.int .i64), (.int .i64), .bool])), l36⟩), (.d ⟨(.int .i64), n37⟩), (.d ⟨(.int .i64), n38⟩)], [([1, 0], ⟨61, 2, (.mix [(.agg [(.fn (.func 42) [] [(.ptr [1, 1] 0 0)]), (.d ⟨(.int .i64), n39⟩)]), (.agg [(.fn (.func 43) [] [(.ptr [1, 1] 0 0)]), (.d ⟨(.int .i64), n40⟩)]), (.agg [(.fn (.func 44) [] [(.ptr [1, 1] 0 0)]), (.d ⟨(.int .i64), n41⟩)]), (.agg [(.fn (.func 45) [] [(.ptr [1, 2] 0 0)]), (.d ⟨(.int .i64), n42⟩)]), (.agg [(.fn (.func 46) [] [(.ptr [1, 2] 0 0), (.ptr [1, 3] 0 0)]), (.d ⟨(.int .i64), n43⟩)])])⟩), ([1, 1], ⟨25, 3, (.data (.st [(.int .i64), (.sl 2 (.int .i64)), (.sl 51 (.st [(.int .i64), (.int .i64), .bool]))]) [t44])⟩), ([1, 2], ⟨26, 1, (.data (.sl 53 (.st [.str, .bool, (.int .i64), (.int .i64), (.int .i64)])) [l45])⟩), ([1, 3], ⟨3, 1, (.data (.int .i64) [n46])⟩)] => F l36 n37 n38 n39 n40 n41 n42 n43 t44 l45 n46 (fun y0 => k .ret ⟨fillS 55 [4] [(.d ⟨(.int .i64), y0⟩)], [], 2⟩) (k (.exit 1) ⟨fillS 55 [] [], [], 2⟩)
    | _, _, _ => e
noncomputable def data_Check_L1.calls : RecF := fun g a h k => none
noncomputable def data_Check_L1.loops (L0 : Int → Tc0 → Int → Int → Int → Int → Int → Int → Int → Int → Int → Tc4 → Tc3 → Int → (Int × Int × Bool × Unit) → (Int → Option Bool) → (Tc0 → Int → Int → Int → Int → Int → Int → Int → Tc4 → Tc3 → Int → Option Bool) → Option Bool) : LoopF := fun b => match Nat.beq b 3 with | true => some (fun st k => (data_Check_L1_L3.get L0 none st k)) | false => none
set_option maxRecDepth 100000 in
theorem data_Check_L1.step (S : Tc0 → Int → Int → Int → Int → Int → Int → Int → Tc4 → Tc3 → Int → (Int → Option Bool) → (Option Bool) → Option Bool) (L0 : Int → Tc0 → Int → Int → Int → Int → Int → Int → Int → Int → Int → Tc4 → Tc3 → Int → (Int × Int × Bool × Unit) → (Int → Option Bool) → (Tc0 → Int → Int → Int → Int → Int → Int → Int → Tc4 → Tc3 → Int → Option Bool) → Option Bool) (l36 : Tc0) (n37 : Int) (n38 : Int) (n39 : Int) (n40 : Int) (n41 : Int) (n42 : Int) (n43 : Int) (t44 : Tc4) (l45 : Tc3) (n46 : Int) (k : KE) : execL Try.prog ht 8 (callfOf (data_Check_L1.calls)) (data_Check_L1.loops L0) 1 (loopAt 1 (codeOf Try.f8)) ⟨fillS 55 [5, 33, 34, 35] [(.ref [1, 0]), (.d ⟨(.sl 51 (.st [(.int .i64), (.int .i64), .bool])), l36⟩), (.d ⟨(.int .i64), n37⟩), (.d ⟨(.int .i64), n38⟩)], [([1, 0], ⟨61, 2, (.mix [(.agg [(.fn (.func 42) [] [(.ptr [1, 1] 0 0)]), (.d ⟨(.int .i64), n39⟩)]), (.agg [(.fn (.func 43) [] [(.ptr [1, 1] 0 0)]), (.d ⟨(.int .i64), n40⟩)]), (.agg [(.fn (.func 44) [] [(.ptr [1, 1] 0 0)]), (.d ⟨(.int .i64), n41⟩)]), (.agg [(.fn (.func 45) [] [(.ptr [1, 2] 0 0)]), (.d ⟨(.int .i64), n42⟩)]), (.agg [(.fn (.func 46) [] [(.ptr [1, 2] 0 0), (.ptr [1, 3] 0 0)]), (.d ⟨(.int .i64), n43⟩)])])⟩), ([1, 1], ⟨25, 3, (.data (.st [(.int .i64), (.sl 2 (.int .i64)), (.sl 51 (.st [(.int .i64), (.int .i64), .bool]))]) [t44])⟩), ([1, 2], ⟨26, 1, (.data (.sl 53 (.st [.str, .bool, (.int .i64), (.int .i64), (.int .i64)])) [l45])⟩), ([1, 3], ⟨3, 1, (.data (.int .i64) [n46])⟩)], 2⟩ (again (data_Check_L1.get S none) (plan Try.prog (ht 8 1)) k) = data_Check_L1.body S L0 l36 n37 n38 n39 n40 n41 n42 n43 t44 l45 n46 (fun y0 => k .ret ⟨fillS 55 [4] [(.d ⟨(.int .i64), y0⟩)], [], 2⟩) (k (.exit 1) ⟨fillS 55 [] [], [], 2⟩) := by kernel_rfl
theorem data_Check_L1.ok (d : Nat) (hd : 1 ≤ d) : ∀ n st k, data_Check_L1.get (data_Check_L1 n) none st k = some true → iter n (plan Try.prog (ht 8 1)) (fun st k => execK Try.prog ht 8 (callfOf (callK Try.prog ht d)) 1 (loopAt 1 (codeOf Try.f8)) st k) st k = some true :=
  loop_ok (lfn := fun n st k => data_Check_L1.get (data_Check_L1 n) none st k) (rec := data_Check_L1.calls) (fun g a h k hx => by
    cases hx) (loopf := data_Check_L1.loops (data_Check_L1_L3 ROUNDS)) (by
    have e : loopsOf (data_Check_L1.loops (data_Check_L1_L3 ROUNDS)) 1 (loopAt 1 (codeOf Try.f8)) = [(3, loopAt 3 (codeOf Try.f8))] := by kernel_rfl
    rw [e]
    intro p hp
    simp only [List.mem_cons, List.not_mem_nil, or_false] at hp
    rcases hp with rfl
    · refine loopRef_of (callf := callfOf (callK Try.prog ht d)) (callfOf_ref (callK_mono d)) fun lf st k hb hx => ?_
      cases hb
      rcases data_Check_L1_L3.look hx with hx | hx
      rotate_left
      · exact data_Check_L1_L3.ok d (by omega) _ _ _ hx
      cases hx) (fun st k h => by
    obtain ⟨sl, hp, m⟩ := st
    unfold data_Check_L1.get at h
    dsimp only at h
    split at h
    · have h' : (none : Option Bool) = some true := h
      cases h'
    · cases h) (fun n st k h => by
    obtain ⟨sl, hp, m⟩ := st
    unfold data_Check_L1.get at h
    dsimp only at h
    split at h
    · rename_i h1 h2
      obtain rfl := pickS_ok h2
      obtain rfl := Nat.eq_of_beq_eq_true h1
      exact (data_Check_L1.step (data_Check_L1 n) (data_Check_L1_L3 ROUNDS) _ _ _ _ _ _ _ _ _ _ _ k).trans h
    · cases h)
theorem data_Check_L1.look {F : Tc0 → Int → Int → Int → Int → Int → Int → Int → Tc4 → Tc3 → Int → (Int → Option Bool) → (Option Bool) → Option Bool} {e : Option Bool} {st : St} {k : KE} (hx : data_Check_L1.get F e st k = some true) : e = some true ∨ data_Check_L1.get F none st k = some true := by
  obtain ⟨sl, hp, m⟩ := st
  unfold data_Check_L1.get at hx ⊢
  dsimp only at hx ⊢
  split at hx
  · exact .inr hx
  · exact .inl hx
/-- function 8: sheerleg/data.Check -/
noncomputable def data_Check.body (sig_Text : Int → (ByteArray → Option Bool) → Option Bool) (slices_ContainsFunc_int64_int64 : (List Int) → (Bool → Option Bool) → Option Bool) (data_rules : Tc4 → Tc3 → (Int → Int → Int → Int → Int → Tc4 → Tc3 → Int → Option Bool) → Option Bool) (data_Check_L1 : Tc0 → Int → Int → Int → Int → Int → Int → Int → Tc4 → Tc3 → Int → (Int → Option Bool) → (Option Bool) → Option Bool) (t6 : Tc4) (ts7 : Tc3) (k1 : Int → Option Bool) : Option Bool :=
  (sig_Text t6.1
  (fun s10 => (cond_ ((ByteArray.toList s10) == (ByteArray.toList (⟨#[]⟩ : ByteArray))) (k1 (8 : Int)) (cond_ (decide ((((List.length t6.2.1) : Nat) : Int) > (32 : Int))) (k1 (6 : Int)) (cond_ (t6.1 != (0 : Int)) (slices_ContainsFunc_int64_int64 t6.2.1
  (fun b20 => (cond_ b20 (k1 (2 : Int)) (data_rules t6 ts7
  (fun n28 n29 n30 n31 n32 t33 l34 n35 => (data_Check_L1 t6.2.2.1 (((List.length t6.2.2.1) : Nat) : Int) (0 : Int) n28 n29 n30 n31 n32 t33 l34 n35
  (fun n101 => (k1 n101))
  (k1 (0 : Int)))))))) (data_rules t6 ts7
  (fun n102 n103 n104 n105 n106 t107 l108 n109 => (data_Check_L1 t6.2.2.1 (((List.length t6.2.2.1) : Nat) : Int) (0 : Int) n102 n103 n104 n105 n106 t107 l108 n109
  (fun n110 => (k1 n110))
  (k1 (0 : Int))))))))))
noncomputable def data_Check (t6 : Tc4) (ts7 : Tc3) (k1 : Int → Option Bool) : Option Bool := data_Check.body sig_Text slices_ContainsFunc_int64_int64 data_rules (data_Check_L1 ROUNDS) t6 ts7 k1
noncomputable def data_Check.get (F : Tc4 → Tc3 → (Int → Option Bool) → Option Bool) (e : Option Bool) (g : FuncId) (a : List AV) (h : Heap) (k : KR) : Option Bool := match g, a, h with
  | 8, [(.d ⟨(.st [(.int .i64), (.sl 2 (.int .i64)), (.sl 51 (.st [(.int .i64), (.int .i64), .bool]))]), t6⟩), (.bv 0 53 (.st [.str, .bool, (.int .i64), (.int .i64), (.int .i64)]) ts7)], [] => F t6 ts7 (fun y0 => k (.d ⟨(.int .i64), y0⟩) [])
  | _, _, _ => e
noncomputable def data_Check.calls (F0 : Int → (ByteArray → Option Bool) → Option Bool) (F1 : (List Int) → (Bool → Option Bool) → Option Bool) (F2 : Tc4 → Tc3 → (Int → Int → Int → Int → Int → Tc4 → Tc3 → Int → Option Bool) → Option Bool) : RecF := fun g a h k => (sig_Text.get F0 (slices_ContainsFunc_int64_int64.get F1 (data_rules.get F2 none g a h k) g a h k) g a h k)
noncomputable def data_Check.loops (L0 : Tc0 → Int → Int → Int → Int → Int → Int → Int → Tc4 → Tc3 → Int → (Int → Option Bool) → (Option Bool) → Option Bool) : LoopF := fun b => match Nat.beq b 1 with | true => some (fun st k => (data_Check_L1.get L0 none st k)) | false => none
set_option maxRecDepth 100000 in
theorem data_Check.eq (F0 : Int → (ByteArray → Option Bool) → Option Bool) (F1 : (List Int) → (Bool → Option Bool) → Option Bool) (F2 : Tc4 → Tc3 → (Int → Int → Int → Int → Int → Tc4 → Tc3 → Int → Option Bool) → Option Bool) (L0 : Tc0 → Int → Int → Int → Int → Int → Int → Int → Tc4 → Tc3 → Int → (Int → Option Bool) → (Option Bool) → Option Bool) (t6 : Tc4) (ts7 : Tc3) (k : KR) : execL Try.prog ht 8 (callfOf (data_Check.calls F0 F1 F2)) (data_Check.loops L0) 0 (codeOf Try.f8) ⟨[(.d ⟨(.st [(.int .i64), (.sl 2 (.int .i64)), (.sl 51 (.st [(.int .i64), (.int .i64), .bool]))]), t6⟩), (.bv 0 53 (.st [.str, .bool, (.int .i64), (.int .i64), (.int .i64)]) ts7)] ++ List.replicate (Try.f8.ntmps - ([(.d ⟨(.st [(.int .i64), (.sl 2 (.int .i64)), (.sl 51 (.st [(.int .i64), (.int .i64), .bool]))]), t6⟩), (.bv 0 53 (.st [.str, .bool, (.int .i64), (.int .i64), (.int .i64)]) ts7)] : List AV).length) .undef, [], 2⟩ (leave Try.prog Try.f8 k) = data_Check.body F0 F1 F2 L0 t6 ts7 (fun y0 => k (.d ⟨(.int .i64), y0⟩) []) := by kernel_rfl
theorem data_Check.ok (d : Nat) (hd : 4 ≤ d) (t6 : Tc4) (ts7 : Tc3) (k : KR) (hx : data_Check t6 ts7 (fun y0 => k (.d ⟨(.int .i64), y0⟩) []) = some true) : callK Try.prog ht d 8 [(.d ⟨(.st [(.int .i64), (.sl 2 (.int .i64)), (.sl 51 (.st [(.int .i64), (.int .i64), .bool]))]), t6⟩), (.bv 0 53 (.st [.str, .bool, (.int .i64), (.int .i64), (.int .i64)]) ts7)] [] k = some true := by
  obtain ⟨d, rfl⟩ : ∃ e, d = e + 1 := ⟨d - 1, by omega⟩
  exact fn_ok (c := codeOf Try.f8) Try.func8 (by kernel_rfl) (rec := data_Check.calls sig_Text slices_ContainsFunc_int64_int64 data_rules) (fun g a h k hx => by
    rcases sig_Text.look d (by omega) hx with hx | hx
    rotate_left
    · exact hx
    rcases slices_ContainsFunc_int64_int64.look d (by omega) hx with hx | hx
    rotate_left
    · exact hx
    rcases data_rules.look d (by omega) hx with hx | hx
    rotate_left
    · exact hx
    cases hx) (loopf := data_Check.loops (data_Check_L1 ROUNDS)) (by
    have e : loopsOf (data_Check.loops (data_Check_L1 ROUNDS)) 0 (codeOf Try.f8) = [(1, loopAt 1 (codeOf Try.f8))] := by kernel_rfl
    rw [e]
    intro p hp
    simp only [List.mem_cons, List.not_mem_nil, or_false] at hp
    rcases hp with rfl
    · refine loopRef_of (callf := callfOf (callK Try.prog ht d)) (callfOf_ref (callK_mono d)) fun lf st k hb hx => ?_
      cases hb
      rcases data_Check_L1.look hx with hx | hx
      rotate_left
      · exact data_Check_L1.ok d (by omega) _ _ _ hx
      cases hx) ((data_Check.eq sig_Text slices_ContainsFunc_int64_int64 data_rules (data_Check_L1 ROUNDS) t6 ts7 k).trans hx)
theorem data_Check.look (d : Nat) (hd : 4 ≤ d) {e : Option Bool} {g : FuncId} {a : List AV} {h : Heap} {k : KR} (hx : data_Check.get data_Check e g a h k = some true) : e = some true ∨ callK Try.prog ht d g a h k = some true := by
  unfold data_Check.get at hx
  split at hx
  · exact .inr (data_Check.ok d hd _ _ _ hx)
  · exact .inl hx
/-- function 53: sheerleg/sheerlegref05.Is -/
noncomputable def ref05_Is.body (n116 : Int) (k1 : Bool → Option Bool) : Option Bool :=
  (cond_ (decide (n116 ≥ (0 : Int))) (k1 (decide (n116 ≤ (7 : Int)))) (k1 false))
noncomputable def ref05_Is (n116 : Int) (k1 : Bool → Option Bool) : Option Bool := ref05_Is.body n116 k1
noncomputable def ref05_Is.get (F : Int → (Bool → Option Bool) → Option Bool) (e : Option Bool) (g : FuncId) (a : List AV) (h : Heap) (k : KR) : Option Bool := match g, a, h with
  | 53, [(.d ⟨(.int .i64), n116⟩)], [] => F n116 (fun y0 => k (.d ⟨.bool, y0⟩) [])
  | _, _, _ => e
noncomputable def ref05_Is.calls : RecF := fun g a h k => none
noncomputable def ref05_Is.loops : LoopF := fun b => none
set_option maxRecDepth 100000 in
theorem ref05_Is.eq (n116 : Int) (k : KR) : execL Try.prog ht 53 (callfOf (ref05_Is.calls)) (ref05_Is.loops) 0 (codeOf Try.f53) ⟨[(.d ⟨(.int .i64), n116⟩)] ++ List.replicate (Try.f53.ntmps - ([(.d ⟨(.int .i64), n116⟩)] : List AV).length) .undef, [], 2⟩ (leave Try.prog Try.f53 k) = ref05_Is.body n116 (fun y0 => k (.d ⟨.bool, y0⟩) []) := by kernel_rfl
theorem ref05_Is.ok (d : Nat) (hd : 1 ≤ d) (n116 : Int) (k : KR) (hx : ref05_Is n116 (fun y0 => k (.d ⟨.bool, y0⟩) []) = some true) : callK Try.prog ht d 53 [(.d ⟨(.int .i64), n116⟩)] [] k = some true := by
  obtain ⟨d, rfl⟩ : ∃ e, d = e + 1 := ⟨d - 1, by omega⟩
  exact fn_ok (c := codeOf Try.f53) Try.func53 (by kernel_rfl) (rec := ref05_Is.calls) (fun g a h k hx => by
    cases hx) (loopf := ref05_Is.loops) (by
    have e : loopsOf (ref05_Is.loops) 0 (codeOf Try.f53) = [] := by kernel_rfl
    rw [e]
    intro p hp
    cases hp) ((ref05_Is.eq n116 k).trans hx)
theorem ref05_Is.look (d : Nat) (hd : 1 ≤ d) {e : Option Bool} {g : FuncId} {a : List AV} {h : Heap} {k : KR} (hx : ref05_Is.get ref05_Is e g a h k = some true) : e = some true ∨ callK Try.prog ht d g a h k = some true := by
  unfold ref05_Is.get at hx
  split at hx
  · exact .inr (ref05_Is.ok d hd _ _ hx)
  · exact .inl hx
/-- function 47: sheerleg/sheerlegref05.Class -/
noncomputable def ref05_Class.body (ref05_Is : Int → (Bool → Option Bool) → Option Bool) (n115 : Int) (k1 : Int → Bool → Option Bool) : Option Bool :=
  (ref05_Is (IntKind.wrap .i64 (n115 - (1 : Int)))
  (fun b117 => (cond_ (! b117) (k1 (0 : Int) false) (k1 (IntKind.wrap .i64 (n115 - (1 : Int))) true))))
noncomputable def ref05_Class (n115 : Int) (k1 : Int → Bool → Option Bool) : Option Bool := ref05_Class.body ref05_Is n115 k1
noncomputable def ref05_Class.get (F : Int → (Int → Bool → Option Bool) → Option Bool) (e : Option Bool) (g : FuncId) (a : List AV) (h : Heap) (k : KR) : Option Bool := match g, a, h with
  | 47, [(.d ⟨(.int .i64), n115⟩)], [] => F n115 (fun y0 y1 => k (.tup [(.d ⟨(.int .i64), y0⟩), (.d ⟨.bool, y1⟩)]) [])
  | _, _, _ => e
noncomputable def ref05_Class.calls (F0 : Int → (Bool → Option Bool) → Option Bool) : RecF := fun g a h k => (ref05_Is.get F0 none g a h k)
noncomputable def ref05_Class.loops : LoopF := fun b => none
set_option maxRecDepth 100000 in
theorem ref05_Class.eq (F0 : Int → (Bool → Option Bool) → Option Bool) (n115 : Int) (k : KR) : execL Try.prog ht 47 (callfOf (ref05_Class.calls F0)) (ref05_Class.loops) 0 (codeOf Try.f47) ⟨[(.d ⟨(.int .i64), n115⟩)] ++ List.replicate (Try.f47.ntmps - ([(.d ⟨(.int .i64), n115⟩)] : List AV).length) .undef, [], 2⟩ (leave Try.prog Try.f47 k) = ref05_Class.body F0 n115 (fun y0 y1 => k (.tup [(.d ⟨(.int .i64), y0⟩), (.d ⟨.bool, y1⟩)]) []) := by kernel_rfl
theorem ref05_Class.ok (d : Nat) (hd : 2 ≤ d) (n115 : Int) (k : KR) (hx : ref05_Class n115 (fun y0 y1 => k (.tup [(.d ⟨(.int .i64), y0⟩), (.d ⟨.bool, y1⟩)]) []) = some true) : callK Try.prog ht d 47 [(.d ⟨(.int .i64), n115⟩)] [] k = some true := by
  obtain ⟨d, rfl⟩ : ∃ e, d = e + 1 := ⟨d - 1, by omega⟩
  exact fn_ok (c := codeOf Try.f47) Try.func47 (by kernel_rfl) (rec := ref05_Class.calls ref05_Is) (fun g a h k hx => by
    rcases ref05_Is.look d (by omega) hx with hx | hx
    rotate_left
    · exact hx
    cases hx) (loopf := ref05_Class.loops) (by
    have e : loopsOf (ref05_Class.loops) 0 (codeOf Try.f47) = [] := by kernel_rfl
    rw [e]
    intro p hp
    cases hp) ((ref05_Class.eq ref05_Is n115 k).trans hx)
theorem ref05_Class.look (d : Nat) (hd : 2 ≤ d) {e : Option Bool} {g : FuncId} {a : List AV} {h : Heap} {k : KR} (hx : ref05_Class.get ref05_Class e g a h k = some true) : e = some true ∨ callK Try.prog ht d g a h k = some true := by
  unfold ref05_Class.get at hx
  split at hx
  · exact .inr (ref05_Class.ok d hd _ _ hx)
  · exact .inl hx
/-- function 48: the loop in block 0 -/
noncomputable def ref01_Digits_L0.body (ref01_Digits_L0 : Int → ByteArray → Int → (Int → ByteArray → Option Bool) → Option Bool) (n121 : Int) (s122 : ByteArray) (n123 : Int) (k1 : Int → ByteArray → Option Bool) : Option Bool :=
  (cond_ (n123 != (0 : Int)) (cond_ (decide ((Int.tmod n123 (10 : Int)) < (0 : Int))) (cond_ (Nat.ble ((ByteArray.size (strOf ((IntKind.wrap .u8 (IntKind.wrap .i64 ((48 : Int) + (IntKind.wrap .i64 ((0 : Int) - (Int.tmod n123 (10 : Int))))))) :: []))) + (ByteArray.size s122)) (9223372036854775807 : Nat)) (ref01_Digits_L0 n121 ((strOf ((IntKind.wrap .u8 (IntKind.wrap .i64 ((48 : Int) + (IntKind.wrap .i64 ((0 : Int) - (Int.tmod n123 (10 : Int))))))) :: [])) ++ s122) (IntKind.wrap .i64 (Int.tdiv n123 (10 : Int))) k1) none) (cond_ (Nat.ble ((ByteArray.size (strOf ((IntKind.wrap .u8 (IntKind.wrap .i64 ((48 : Int) + (Int.tmod n123 (10 : Int))))) :: []))) + (ByteArray.size s122)) (9223372036854775807 : Nat)) (ref01_Digits_L0 n121 ((strOf ((IntKind.wrap .u8 (IntKind.wrap .i64 ((48 : Int) + (Int.tmod n123 (10 : Int))))) :: [])) ++ s122) (IntKind.wrap .i64 (Int.tdiv n123 (10 : Int))) k1) none)) (k1 n121 s122))
noncomputable def ref01_Digits_L0 : Nat → Int → ByteArray → Int → (Int → ByteArray → Option Bool) → Option Bool
  | 0 => fun _ _ _ _ => none
  | n + 1 => ref01_Digits_L0.body (ref01_Digits_L0 n)
noncomputable def ref01_Digits_L0.get (F : Int → ByteArray → Int → (Int → ByteArray → Option Bool) → Option Bool) (e : Option Bool) (st : St) (k : KE) : Option Bool := match st with
  | ⟨sl, hp, m⟩ => match Nat.beq m 2, pickS 31 [0, 3, 4] sl, hp with
    | true, some [(.d ⟨(.int .i64), n121⟩), (.d ⟨.str, s122⟩), (.d ⟨(.int .i64), n123⟩)], [] => F n121 s122 n123 (fun y0 y1 => k (.exit 0) ⟨fillS 31 [0, 3] [(.d ⟨(.int .i64), y0⟩), (.d ⟨.str, y1⟩)], [], 2⟩)
    | _, _, _ => e
noncomputable def ref01_Digits_L0.calls : RecF := fun g a h k => none
noncomputable def ref01_Digits_L0.loops : LoopF := fun b => none
set_option maxRecDepth 100000 in
theorem ref01_Digits_L0.step (S : Int → ByteArray → Int → (Int → ByteArray → Option Bool) → Option Bool) (n121 : Int) (s122 : ByteArray) (n123 : Int) (k : KE) : execL Try.prog ht 48 (callfOf (ref01_Digits_L0.calls)) (ref01_Digits_L0.loops) 0 (loopAt 0 (codeOf Try.f48)) ⟨fillS 31 [0, 3, 4] [(.d ⟨(.int .i64), n121⟩), (.d ⟨.str, s122⟩), (.d ⟨(.int .i64), n123⟩)], [], 2⟩ (again (ref01_Digits_L0.get S none) (plan Try.prog (ht 48 0)) k) = ref01_Digits_L0.body S n121 s122 n123 (fun y0 y1 => k (.exit 0) ⟨fillS 31 [0, 3] [(.d ⟨(.int .i64), y0⟩), (.d ⟨.str, y1⟩)], [], 2⟩) := by kernel_rfl
theorem ref01_Digits_L0.ok (d : Nat) (hd : 0 ≤ d) : ∀ n st k, ref01_Digits_L0.get (ref01_Digits_L0 n) none st k = some true → iter n (plan Try.prog (ht 48 0)) (fun st k => execK Try.prog ht 48 (callfOf (callK Try.prog ht d)) 0 (loopAt 0 (codeOf Try.f48)) st k) st k = some true :=
  loop_ok (lfn := fun n st k => ref01_Digits_L0.get (ref01_Digits_L0 n) none st k) (rec := ref01_Digits_L0.calls) (fun g a h k hx => by
    cases hx) (loopf := ref01_Digits_L0.loops) (by
    have e : loopsOf (ref01_Digits_L0.loops) 0 (loopAt 0 (codeOf Try.f48)) = [] := by kernel_rfl
    rw [e]
    intro p hp
    cases hp) (fun st k h => by
    obtain ⟨sl, hp, m⟩ := st
    unfold ref01_Digits_L0.get at h
    dsimp only at h
    split at h
    · have h' : (none : Option Bool) = some true := h
      cases h'
    · cases h) (fun n st k h => by
    obtain ⟨sl, hp, m⟩ := st
    unfold ref01_Digits_L0.get at h
    dsimp only at h
    split at h
    · rename_i h1 h2
      obtain rfl := pickS_ok h2
      obtain rfl := Nat.eq_of_beq_eq_true h1
      exact (ref01_Digits_L0.step (ref01_Digits_L0 n) _ _ _ k).trans h
    · cases h)
theorem ref01_Digits_L0.look {F : Int → ByteArray → Int → (Int → ByteArray → Option Bool) → Option Bool} {e : Option Bool} {st : St} {k : KE} (hx : ref01_Digits_L0.get F e st k = some true) : e = some true ∨ ref01_Digits_L0.get F none st k = some true := by
  obtain ⟨sl, hp, m⟩ := st
  unfold ref01_Digits_L0.get at hx ⊢
  dsimp only at hx ⊢
  split at hx
  · exact .inr hx
  · exact .inl hx
/-- function 48: sheerleg/sheerlegref01.Digits -/
noncomputable def ref01_Digits.body (ref01_Digits_L0 : Int → ByteArray → Int → (Int → ByteArray → Option Bool) → Option Bool) (n120 : Int) (k1 : ByteArray → Option Bool) : Option Bool :=
  (cond_ (n120 == (0 : Int)) (k1 (⟨#[48]⟩ : ByteArray)) (ref01_Digits_L0 n120 (⟨#[]⟩ : ByteArray) n120
  (fun n124 s125 => (cond_ (decide (n124 < (0 : Int))) (cond_ (Nat.ble ((1 : Nat) + (ByteArray.size s125)) (9223372036854775807 : Nat)) (k1 ((⟨#[45]⟩ : ByteArray) ++ s125)) none) (k1 s125)))))
noncomputable def ref01_Digits (n120 : Int) (k1 : ByteArray → Option Bool) : Option Bool := ref01_Digits.body (ref01_Digits_L0 ROUNDS) n120 k1
noncomputable def ref01_Digits.get (F : Int → (ByteArray → Option Bool) → Option Bool) (e : Option Bool) (g : FuncId) (a : List AV) (h : Heap) (k : KR) : Option Bool := match g, a, h with
  | 48, [(.d ⟨(.int .i64), n120⟩)], [] => F n120 (fun y0 => k (.d ⟨.str, y0⟩) [])
  | _, _, _ => e
noncomputable def ref01_Digits.calls : RecF := fun g a h k => none
noncomputable def ref01_Digits.loops (L0 : Int → ByteArray → Int → (Int → ByteArray → Option Bool) → Option Bool) : LoopF := fun b => match Nat.beq b 0 with | true => some (fun st k => (ref01_Digits_L0.get L0 none st k)) | false => none
set_option maxRecDepth 100000 in
theorem ref01_Digits.eq (L0 : Int → ByteArray → Int → (Int → ByteArray → Option Bool) → Option Bool) (n120 : Int) (k : KR) : execL Try.prog ht 48 (callfOf (ref01_Digits.calls)) (ref01_Digits.loops L0) 0 (codeOf Try.f48) ⟨[(.d ⟨(.int .i64), n120⟩)] ++ List.replicate (Try.f48.ntmps - ([(.d ⟨(.int .i64), n120⟩)] : List AV).length) .undef, [], 2⟩ (leave Try.prog Try.f48 k) = ref01_Digits.body L0 n120 (fun y0 => k (.d ⟨.str, y0⟩) []) := by kernel_rfl
theorem ref01_Digits.ok (d : Nat) (hd : 1 ≤ d) (n120 : Int) (k : KR) (hx : ref01_Digits n120 (fun y0 => k (.d ⟨.str, y0⟩) []) = some true) : callK Try.prog ht d 48 [(.d ⟨(.int .i64), n120⟩)] [] k = some true := by
  obtain ⟨d, rfl⟩ : ∃ e, d = e + 1 := ⟨d - 1, by omega⟩
  exact fn_ok (c := codeOf Try.f48) Try.func48 (by kernel_rfl) (rec := ref01_Digits.calls) (fun g a h k hx => by
    cases hx) (loopf := ref01_Digits.loops (ref01_Digits_L0 ROUNDS)) (by
    have e : loopsOf (ref01_Digits.loops (ref01_Digits_L0 ROUNDS)) 0 (codeOf Try.f48) = [(0, loopAt 0 (codeOf Try.f48))] := by kernel_rfl
    rw [e]
    intro p hp
    simp only [List.mem_cons, List.not_mem_nil, or_false] at hp
    rcases hp with rfl
    · refine loopRef_of (callf := callfOf (callK Try.prog ht d)) (callfOf_ref (callK_mono d)) fun lf st k hb hx => ?_
      cases hb
      rcases ref01_Digits_L0.look hx with hx | hx
      rotate_left
      · exact ref01_Digits_L0.ok d (by omega) _ _ _ hx
      cases hx) ((ref01_Digits.eq (ref01_Digits_L0 ROUNDS) n120 k).trans hx)
theorem ref01_Digits.look (d : Nat) (hd : 1 ≤ d) {e : Option Bool} {g : FuncId} {a : List AV} {h : Heap} {k : KR} (hx : ref01_Digits.get ref01_Digits e g a h k = some true) : e = some true ∨ callK Try.prog ht d g a h k = some true := by
  unfold ref01_Digits.get at hx
  split at hx
  · exact .inr (ref01_Digits.ok d hd _ _ hx)
  · exact .inl hx
/-- function 26: sheerleg/sheerlegref05.Text -/
noncomputable def ref05_Text.body (ref05_Class : Int → (Int → Bool → Option Bool) → Option Bool) (ref01_Digits : Int → (ByteArray → Option Bool) → Option Bool) (n114 : Int) (k1 : ByteArray → Option Bool) : Option Bool :=
  (cond_ (n114 == (0 : Int)) (k1 (⟨#[110]⟩ : ByteArray)) (ref05_Class n114
  (fun n118 b119 => (cond_ (! b119) (k1 (⟨#[]⟩ : ByteArray)) (ref01_Digits (IntKind.wrap .i64 (Int.tdiv n118 (2 : Int)))
  (fun s126 => (cond_ (Nat.ble ((1 : Nat) + (ByteArray.size s126)) (9223372036854775807 : Nat)) (cond_ ((Int.tmod n118 (2 : Int)) == (1 : Int)) (cond_ (Nat.ble ((ByteArray.size ((⟨#[102]⟩ : ByteArray) ++ s126)) + (1 : Nat)) (9223372036854775807 : Nat)) (k1 (((⟨#[102]⟩ : ByteArray) ++ s126) ++ (⟨#[114]⟩ : ByteArray))) none) (k1 ((⟨#[102]⟩ : ByteArray) ++ s126))) none)))))))
noncomputable def ref05_Text (n114 : Int) (k1 : ByteArray → Option Bool) : Option Bool := ref05_Text.body ref05_Class ref01_Digits n114 k1
noncomputable def ref05_Text.get (F : Int → (ByteArray → Option Bool) → Option Bool) (e : Option Bool) (g : FuncId) (a : List AV) (h : Heap) (k : KR) : Option Bool := match g, a, h with
  | 26, [(.d ⟨(.int .i64), n114⟩)], [] => F n114 (fun y0 => k (.d ⟨.str, y0⟩) [])
  | _, _, _ => e
noncomputable def ref05_Text.calls (F0 : Int → (Int → Bool → Option Bool) → Option Bool) (F1 : Int → (ByteArray → Option Bool) → Option Bool) : RecF := fun g a h k => (ref05_Class.get F0 (ref01_Digits.get F1 none g a h k) g a h k)
noncomputable def ref05_Text.loops : LoopF := fun b => none
set_option maxRecDepth 100000 in
theorem ref05_Text.eq (F0 : Int → (Int → Bool → Option Bool) → Option Bool) (F1 : Int → (ByteArray → Option Bool) → Option Bool) (n114 : Int) (k : KR) : execL Try.prog ht 26 (callfOf (ref05_Text.calls F0 F1)) (ref05_Text.loops) 0 (codeOf Try.f26) ⟨[(.d ⟨(.int .i64), n114⟩)] ++ List.replicate (Try.f26.ntmps - ([(.d ⟨(.int .i64), n114⟩)] : List AV).length) .undef, [], 2⟩ (leave Try.prog Try.f26 k) = ref05_Text.body F0 F1 n114 (fun y0 => k (.d ⟨.str, y0⟩) []) := by kernel_rfl
theorem ref05_Text.ok (d : Nat) (hd : 3 ≤ d) (n114 : Int) (k : KR) (hx : ref05_Text n114 (fun y0 => k (.d ⟨.str, y0⟩) []) = some true) : callK Try.prog ht d 26 [(.d ⟨(.int .i64), n114⟩)] [] k = some true := by
  obtain ⟨d, rfl⟩ : ∃ e, d = e + 1 := ⟨d - 1, by omega⟩
  exact fn_ok (c := codeOf Try.f26) Try.func26 (by kernel_rfl) (rec := ref05_Text.calls ref05_Class ref01_Digits) (fun g a h k hx => by
    rcases ref05_Class.look d (by omega) hx with hx | hx
    rotate_left
    · exact hx
    rcases ref01_Digits.look d (by omega) hx with hx | hx
    rotate_left
    · exact hx
    cases hx) (loopf := ref05_Text.loops) (by
    have e : loopsOf (ref05_Text.loops) 0 (codeOf Try.f26) = [] := by kernel_rfl
    rw [e]
    intro p hp
    cases hp) ((ref05_Text.eq ref05_Class ref01_Digits n114 k).trans hx)
theorem ref05_Text.look (d : Nat) (hd : 3 ≤ d) {e : Option Bool} {g : FuncId} {a : List AV} {h : Heap} {k : KR} (hx : ref05_Text.get ref05_Text e g a h k = some true) : e = some true ∨ callK Try.prog ht d g a h k = some true := by
  unfold ref05_Text.get at hx
  split at hx
  · exact .inr (ref05_Text.ok d hd _ _ hx)
  · exact .inl hx
/-- function 9: the loop in block 0 -/
noncomputable def ref15_Check_L0.body (ref15_Check_L0 : Tc3 → Int → Tc4 → (Int → Option Bool) → (Tc3 → Tc4 → Option Bool) → Option Bool) (ts128 : Tc3) (n129 : Int) (t130 : Tc4) (k1 : Int → Option Bool) (k2 : Tc3 → Tc4 → Option Bool) : Option Bool :=
  (cond_ (decide (n129 < (((List.length t130.2.1) : Nat) : Int))) (cond_ (t130.1 != (0 : Int)) (cond_ ((decide ((0 : Int) ≤ n129)) && (decide (n129 < (((List.length t130.2.1) : Nat) : Int)))) (cond_ ((List.getD t130.2.1 (Int.toNat n129) (0 : Int)) != (0 : Int)) (k1 (2 : Int)) (ref15_Check_L0 ts128 (IntKind.wrap .i64 (n129 + (1 : Int))) t130 k1 k2)) none) (ref15_Check_L0 ts128 (IntKind.wrap .i64 (n129 + (1 : Int))) t130 k1 k2)) (k2 ts128 t130))
noncomputable def ref15_Check_L0 : Nat → Tc3 → Int → Tc4 → (Int → Option Bool) → (Tc3 → Tc4 → Option Bool) → Option Bool
  | 0 => fun _ _ _ _ _ => none
  | n + 1 => ref15_Check_L0.body (ref15_Check_L0 n)
noncomputable def ref15_Check_L0.get (F : Tc3 → Int → Tc4 → (Int → Option Bool) → (Tc3 → Tc4 → Option Bool) → Option Bool) (e : Option Bool) (st : St) (k : KE) : Option Bool := match st with
  | ⟨sl, hp, m⟩ => match Nat.beq m 2, pickS 109 [1, 2, 5] sl, hp with
    | true, some [(.bv 0 53 (.st [.str, .bool, (.int .i64), (.int .i64), (.int .i64)]) ts128), (.ptr [1, 0] 0 0), (.d ⟨(.int .i64), n129⟩)], [([1, 0], ⟨25, 3, (.data (.st [(.int .i64), (.sl 2 (.int .i64)), (.sl 51 (.st [(.int .i64), (.int .i64), .bool]))]) [t130])⟩)] => F ts128 n129 t130 (fun y0 => k .ret ⟨fillS 109 [4] [(.d ⟨(.int .i64), y0⟩)], [], 2⟩) (fun y0 y1 => k (.exit 0) ⟨fillS 109 [1, 2] [(.bv 0 53 (.st [.str, .bool, (.int .i64), (.int .i64), (.int .i64)]) y0), (.ptr [1, 0] 0 0)], [([1, 0], ⟨25, 3, (.data (.st [(.int .i64), (.sl 2 (.int .i64)), (.sl 51 (.st [(.int .i64), (.int .i64), .bool]))]) [y1])⟩)], 2⟩)
    | _, _, _ => e
noncomputable def ref15_Check_L0.calls : RecF := fun g a h k => none
noncomputable def ref15_Check_L0.loops : LoopF := fun b => none
set_option maxRecDepth 100000 in
theorem ref15_Check_L0.step (S : Tc3 → Int → Tc4 → (Int → Option Bool) → (Tc3 → Tc4 → Option Bool) → Option Bool) (ts128 : Tc3) (n129 : Int) (t130 : Tc4) (k : KE) : execL Try.prog ht 9 (callfOf (ref15_Check_L0.calls)) (ref15_Check_L0.loops) 0 (loopAt 0 (codeOf Try.f9)) ⟨fillS 109 [1, 2, 5] [(.bv 0 53 (.st [.str, .bool, (.int .i64), (.int .i64), (.int .i64)]) ts128), (.ptr [1, 0] 0 0), (.d ⟨(.int .i64), n129⟩)], [([1, 0], ⟨25, 3, (.data (.st [(.int .i64), (.sl 2 (.int .i64)), (.sl 51 (.st [(.int .i64), (.int .i64), .bool]))]) [t130])⟩)], 2⟩ (again (ref15_Check_L0.get S none) (plan Try.prog (ht 9 0)) k) = ref15_Check_L0.body S ts128 n129 t130 (fun y0 => k .ret ⟨fillS 109 [4] [(.d ⟨(.int .i64), y0⟩)], [], 2⟩) (fun y0 y1 => k (.exit 0) ⟨fillS 109 [1, 2] [(.bv 0 53 (.st [.str, .bool, (.int .i64), (.int .i64), (.int .i64)]) y0), (.ptr [1, 0] 0 0)], [([1, 0], ⟨25, 3, (.data (.st [(.int .i64), (.sl 2 (.int .i64)), (.sl 51 (.st [(.int .i64), (.int .i64), .bool]))]) [y1])⟩)], 2⟩) := by kernel_rfl
theorem ref15_Check_L0.ok (d : Nat) (hd : 0 ≤ d) : ∀ n st k, ref15_Check_L0.get (ref15_Check_L0 n) none st k = some true → iter n (plan Try.prog (ht 9 0)) (fun st k => execK Try.prog ht 9 (callfOf (callK Try.prog ht d)) 0 (loopAt 0 (codeOf Try.f9)) st k) st k = some true :=
  loop_ok (lfn := fun n st k => ref15_Check_L0.get (ref15_Check_L0 n) none st k) (rec := ref15_Check_L0.calls) (fun g a h k hx => by
    cases hx) (loopf := ref15_Check_L0.loops) (by
    have e : loopsOf (ref15_Check_L0.loops) 0 (loopAt 0 (codeOf Try.f9)) = [] := by kernel_rfl
    rw [e]
    intro p hp
    cases hp) (fun st k h => by
    obtain ⟨sl, hp, m⟩ := st
    unfold ref15_Check_L0.get at h
    dsimp only at h
    split at h
    · have h' : (none : Option Bool) = some true := h
      cases h'
    · cases h) (fun n st k h => by
    obtain ⟨sl, hp, m⟩ := st
    unfold ref15_Check_L0.get at h
    dsimp only at h
    split at h
    · rename_i h1 h2
      obtain rfl := pickS_ok h2
      obtain rfl := Nat.eq_of_beq_eq_true h1
      exact (ref15_Check_L0.step (ref15_Check_L0 n) _ _ _ k).trans h
    · cases h)
theorem ref15_Check_L0.look {F : Tc3 → Int → Tc4 → (Int → Option Bool) → (Tc3 → Tc4 → Option Bool) → Option Bool} {e : Option Bool} {st : St} {k : KE} (hx : ref15_Check_L0.get F e st k = some true) : e = some true ∨ ref15_Check_L0.get F none st k = some true := by
  obtain ⟨sl, hp, m⟩ := st
  unfold ref15_Check_L0.get at hx ⊢
  dsimp only at hx ⊢
  split at hx
  · exact .inr hx
  · exact .inl hx
/-- function 9: the loop in block 2 -/
noncomputable def ref15_Check_L2.body (ref15_Check_L2 : Tc3 → Int → Tc4 → (Int → Option Bool) → (Option Bool) → Option Bool) (ts134 : Tc3) (n135 : Int) (t136 : Tc4) (k1 : Int → Option Bool) (k2 : Option Bool) : Option Bool :=
  (cond_ (decide (n135 < (((List.length t136.2.2.1) : Nat) : Int))) (cond_ ((decide ((0 : Int) ≤ n135)) && (decide (n135 < (((List.length t136.2.2.1) : Nat) : Int)))) (cond_ (! (t136.1 == (0 : Int))) (cond_ (! (decide ((List.getD t136.2.2.1 (Int.toNat n135) ((0 : Int), ((0 : Int), (false, ())))).1 < (0 : Int)))) (cond_ (! (decide ((List.getD t136.2.2.1 (Int.toNat n135) ((0 : Int), ((0 : Int), (false, ())))).1 ≥ (((List.length t136.2.1) : Nat) : Int)))) (cond_ (decide (n135 > (0 : Int))) (cond_ ((decide ((0 : Int) ≤ (IntKind.wrap .i64 (n135 - (1 : Int))))) && (decide ((IntKind.wrap .i64 (n135 - (1 : Int))) < (((List.length t136.2.2.1) : Nat) : Int)))) (cond_ (! (decide ((List.getD t136.2.2.1 (Int.toNat n135) ((0 : Int), ((0 : Int), (false, ())))).1 ≤ (List.getD t136.2.2.1 (Int.toNat (IntKind.wrap .i64 (n135 - (1 : Int)))) ((0 : Int), ((0 : Int), (false, ())))).1))) (cond_ (! (decide ((List.getD t136.2.2.1 (Int.toNat n135) ((0 : Int), ((0 : Int), (false, ())))).2.1 < (0 : Int)))) (cond_ (decide ((List.getD t136.2.2.1 (Int.toNat n135) ((0 : Int), ((0 : Int), (false, ())))).2.1 ≥ (((List.length ts134) : Nat) : Int))) (k1 (11 : Int)) (cond_ ((decide ((0 : Int) ≤ (List.getD t136.2.2.1 (Int.toNat n135) ((0 : Int), ((0 : Int), (false, ())))).2.1)) && (decide ((List.getD t136.2.2.1 (Int.toNat n135) ((0 : Int), ((0 : Int), (false, ())))).2.1 < (((List.length ts134) : Nat) : Int)))) (cond_ (! ((List.getD ts134 (Int.toNat (List.getD t136.2.2.1 (Int.toNat n135) ((0 : Int), ((0 : Int), (false, ())))).2.1) ((⟨#[]⟩ : ByteArray), (false, ((0 : Int), ((0 : Int), ((0 : Int), ())))))).2.2.1 != (1 : Int))) (cond_ ((decide ((0 : Int) ≤ (List.getD t136.2.2.1 (Int.toNat n135) ((0 : Int), ((0 : Int), (false, ())))).2.1)) && (decide ((List.getD t136.2.2.1 (Int.toNat n135) ((0 : Int), ((0 : Int), (false, ())))).2.1 < (((List.length ts134) : Nat) : Int)))) (cond_ ((List.getD ts134 (Int.toNat (List.getD t136.2.2.1 (Int.toNat n135) ((0 : Int), ((0 : Int), (false, ())))).2.1) ((⟨#[]⟩ : ByteArray), (false, ((0 : Int), ((0 : Int), ((0 : Int), ())))))).2.2.2.1 != (IntKind.wrap .i64 (t136.1 - (1 : Int)))) (k1 (8 : Int)) (ref15_Check_L2 ts134 (IntKind.wrap .i64 (n135 + (1 : Int))) t136 k1 k2)) none) (k1 (8 : Int))) none)) (k1 (11 : Int))) (k1 (11 : Int))) none) (cond_ (! (decide ((List.getD t136.2.2.1 (Int.toNat n135) ((0 : Int), ((0 : Int), (false, ())))).2.1 < (0 : Int)))) (cond_ (decide ((List.getD t136.2.2.1 (Int.toNat n135) ((0 : Int), ((0 : Int), (false, ())))).2.1 ≥ (((List.length ts134) : Nat) : Int))) (k1 (11 : Int)) (cond_ ((decide ((0 : Int) ≤ (List.getD t136.2.2.1 (Int.toNat n135) ((0 : Int), ((0 : Int), (false, ())))).2.1)) && (decide ((List.getD t136.2.2.1 (Int.toNat n135) ((0 : Int), ((0 : Int), (false, ())))).2.1 < (((List.length ts134) : Nat) : Int)))) (cond_ (! ((List.getD ts134 (Int.toNat (List.getD t136.2.2.1 (Int.toNat n135) ((0 : Int), ((0 : Int), (false, ())))).2.1) ((⟨#[]⟩ : ByteArray), (false, ((0 : Int), ((0 : Int), ((0 : Int), ())))))).2.2.1 != (1 : Int))) (cond_ ((decide ((0 : Int) ≤ (List.getD t136.2.2.1 (Int.toNat n135) ((0 : Int), ((0 : Int), (false, ())))).2.1)) && (decide ((List.getD t136.2.2.1 (Int.toNat n135) ((0 : Int), ((0 : Int), (false, ())))).2.1 < (((List.length ts134) : Nat) : Int)))) (cond_ ((List.getD ts134 (Int.toNat (List.getD t136.2.2.1 (Int.toNat n135) ((0 : Int), ((0 : Int), (false, ())))).2.1) ((⟨#[]⟩ : ByteArray), (false, ((0 : Int), ((0 : Int), ((0 : Int), ())))))).2.2.2.1 != (IntKind.wrap .i64 (t136.1 - (1 : Int)))) (k1 (8 : Int)) (ref15_Check_L2 ts134 (IntKind.wrap .i64 (n135 + (1 : Int))) t136 k1 k2)) none) (k1 (8 : Int))) none)) (k1 (11 : Int)))) (k1 (11 : Int))) (k1 (11 : Int))) (k1 (11 : Int))) none) (k2))
noncomputable def ref15_Check_L2 : Nat → Tc3 → Int → Tc4 → (Int → Option Bool) → (Option Bool) → Option Bool
  | 0 => fun _ _ _ _ _ => none
  | n + 1 => ref15_Check_L2.body (ref15_Check_L2 n)
noncomputable def ref15_Check_L2.get (F : Tc3 → Int → Tc4 → (Int → Option Bool) → (Option Bool) → Option Bool) (e : Option Bool) (st : St) (k : KE) : Option Bool := match st with
  | ⟨sl, hp, m⟩ => match Nat.beq m 2, pickS 109 [1, 2, 6] sl, hp with
    | true, some [(.bv 0 53 (.st [.str, .bool, (.int .i64), (.int .i64), (.int .i64)]) ts134), (.ptr [1, 0] 0 0), (.d ⟨(.int .i64), n135⟩)], [([1, 0], ⟨25, 3, (.data (.st [(.int .i64), (.sl 2 (.int .i64)), (.sl 51 (.st [(.int .i64), (.int .i64), .bool]))]) [t136])⟩)] => F ts134 n135 t136 (fun y0 => k .ret ⟨fillS 109 [4] [(.d ⟨(.int .i64), y0⟩)], [], 2⟩) (k (.exit 2) ⟨fillS 109 [] [], [], 2⟩)
    | _, _, _ => e
noncomputable def ref15_Check_L2.calls : RecF := fun g a h k => none
noncomputable def ref15_Check_L2.loops : LoopF := fun b => none
set_option maxRecDepth 100000 in
theorem ref15_Check_L2.step (S : Tc3 → Int → Tc4 → (Int → Option Bool) → (Option Bool) → Option Bool) (ts134 : Tc3) (n135 : Int) (t136 : Tc4) (k : KE) : execL Try.prog ht 9 (callfOf (ref15_Check_L2.calls)) (ref15_Check_L2.loops) 2 (loopAt 2 (codeOf Try.f9)) ⟨fillS 109 [1, 2, 6] [(.bv 0 53 (.st [.str, .bool, (.int .i64), (.int .i64), (.int .i64)]) ts134), (.ptr [1, 0] 0 0), (.d ⟨(.int .i64), n135⟩)], [([1, 0], ⟨25, 3, (.data (.st [(.int .i64), (.sl 2 (.int .i64)), (.sl 51 (.st [(.int .i64), (.int .i64), .bool]))]) [t136])⟩)], 2⟩ (again (ref15_Check_L2.get S none) (plan Try.prog (ht 9 2)) k) = ref15_Check_L2.body S ts134 n135 t136 (fun y0 => k .ret ⟨fillS 109 [4] [(.d ⟨(.int .i64), y0⟩)], [], 2⟩) (k (.exit 2) ⟨fillS 109 [] [], [], 2⟩) := by kernel_rfl
theorem ref15_Check_L2.ok (d : Nat) (hd : 0 ≤ d) : ∀ n st k, ref15_Check_L2.get (ref15_Check_L2 n) none st k = some true → iter n (plan Try.prog (ht 9 2)) (fun st k => execK Try.prog ht 9 (callfOf (callK Try.prog ht d)) 2 (loopAt 2 (codeOf Try.f9)) st k) st k = some true :=
  loop_ok (lfn := fun n st k => ref15_Check_L2.get (ref15_Check_L2 n) none st k) (rec := ref15_Check_L2.calls) (fun g a h k hx => by
    cases hx) (loopf := ref15_Check_L2.loops) (by
    have e : loopsOf (ref15_Check_L2.loops) 2 (loopAt 2 (codeOf Try.f9)) = [] := by kernel_rfl
    rw [e]
    intro p hp
    cases hp) (fun st k h => by
    obtain ⟨sl, hp, m⟩ := st
    unfold ref15_Check_L2.get at h
    dsimp only at h
    split at h
    · have h' : (none : Option Bool) = some true := h
      cases h'
    · cases h) (fun n st k h => by
    obtain ⟨sl, hp, m⟩ := st
    unfold ref15_Check_L2.get at h
    dsimp only at h
    split at h
    · rename_i h1 h2
      obtain rfl := pickS_ok h2
      obtain rfl := Nat.eq_of_beq_eq_true h1
      exact (ref15_Check_L2.step (ref15_Check_L2 n) _ _ _ k).trans h
    · cases h)
theorem ref15_Check_L2.look {F : Tc3 → Int → Tc4 → (Int → Option Bool) → (Option Bool) → Option Bool} {e : Option Bool} {st : St} {k : KE} (hx : ref15_Check_L2.get F e st k = some true) : e = some true ∨ ref15_Check_L2.get F none st k = some true := by
  obtain ⟨sl, hp, m⟩ := st
  unfold ref15_Check_L2.get at hx ⊢
  dsimp only at hx ⊢
  split at hx
  · exact .inr hx
  · exact .inl hx
/-- function 9: sheerleg/sheerlegref15.Check -/
noncomputable def ref15_Check.body (ref05_Text : Int → (ByteArray → Option Bool) → Option Bool) (ref15_Check_L0 : Tc3 → Int → Tc4 → (Int → Option Bool) → (Tc3 → Tc4 → Option Bool) → Option Bool) (ref15_Check_L2 : Tc3 → Int → Tc4 → (Int → Option Bool) → (Option Bool) → Option Bool) (t112 : Tc4) (ts113 : Tc3) (k1 : Int → Option Bool) : Option Bool :=
  (ref05_Text t112.1
  (fun s127 => (cond_ ((ByteArray.toList s127) == (ByteArray.toList (⟨#[]⟩ : ByteArray))) (k1 (8 : Int)) (cond_ (decide ((((List.length t112.2.1) : Nat) : Int) > (32 : Int))) (k1 (6 : Int)) (ref15_Check_L0 ts113 (0 : Int) t112
  (fun n131 => (k1 n131))
  (fun ts132 t133 => (ref15_Check_L2 ts132 (0 : Int) t133
  (fun n137 => (k1 n137))
  (k1 (0 : Int)))))))))
noncomputable def ref15_Check (t112 : Tc4) (ts113 : Tc3) (k1 : Int → Option Bool) : Option Bool := ref15_Check.body ref05_Text (ref15_Check_L0 ROUNDS) (ref15_Check_L2 ROUNDS) t112 ts113 k1
noncomputable def ref15_Check.get (F : Tc4 → Tc3 → (Int → Option Bool) → Option Bool) (e : Option Bool) (g : FuncId) (a : List AV) (h : Heap) (k : KR) : Option Bool := match g, a, h with
  | 9, [(.d ⟨(.st [(.int .i64), (.sl 2 (.int .i64)), (.sl 51 (.st [(.int .i64), (.int .i64), .bool]))]), t112⟩), (.bv 0 53 (.st [.str, .bool, (.int .i64), (.int .i64), (.int .i64)]) ts113)], [] => F t112 ts113 (fun y0 => k (.d ⟨(.int .i64), y0⟩) [])
  | _, _, _ => e
noncomputable def ref15_Check.calls (F0 : Int → (ByteArray → Option Bool) → Option Bool) : RecF := fun g a h k => (ref05_Text.get F0 none g a h k)
noncomputable def ref15_Check.loops (L0 : Tc3 → Int → Tc4 → (Int → Option Bool) → (Tc3 → Tc4 → Option Bool) → Option Bool) (L1 : Tc3 → Int → Tc4 → (Int → Option Bool) → (Option Bool) → Option Bool) : LoopF := fun b => match Nat.beq b 0 with | true => some (fun st k => (ref15_Check_L0.get L0 none st k)) | false => match Nat.beq b 2 with | true => some (fun st k => (ref15_Check_L2.get L1 none st k)) | false => none
set_option maxRecDepth 100000 in
theorem ref15_Check.eq (F0 : Int → (ByteArray → Option Bool) → Option Bool) (L0 : Tc3 → Int → Tc4 → (Int → Option Bool) → (Tc3 → Tc4 → Option Bool) → Option Bool) (L1 : Tc3 → Int → Tc4 → (Int → Option Bool) → (Option Bool) → Option Bool) (t112 : Tc4) (ts113 : Tc3) (k : KR) : execL Try.prog ht 9 (callfOf (ref15_Check.calls F0)) (ref15_Check.loops L0 L1) 0 (codeOf Try.f9) ⟨[(.d ⟨(.st [(.int .i64), (.sl 2 (.int .i64)), (.sl 51 (.st [(.int .i64), (.int .i64), .bool]))]), t112⟩), (.bv 0 53 (.st [.str, .bool, (.int .i64), (.int .i64), (.int .i64)]) ts113)] ++ List.replicate (Try.f9.ntmps - ([(.d ⟨(.st [(.int .i64), (.sl 2 (.int .i64)), (.sl 51 (.st [(.int .i64), (.int .i64), .bool]))]), t112⟩), (.bv 0 53 (.st [.str, .bool, (.int .i64), (.int .i64), (.int .i64)]) ts113)] : List AV).length) .undef, [], 2⟩ (leave Try.prog Try.f9 k) = ref15_Check.body F0 L0 L1 t112 ts113 (fun y0 => k (.d ⟨(.int .i64), y0⟩) []) := by kernel_rfl
theorem ref15_Check.ok (d : Nat) (hd : 4 ≤ d) (t112 : Tc4) (ts113 : Tc3) (k : KR) (hx : ref15_Check t112 ts113 (fun y0 => k (.d ⟨(.int .i64), y0⟩) []) = some true) : callK Try.prog ht d 9 [(.d ⟨(.st [(.int .i64), (.sl 2 (.int .i64)), (.sl 51 (.st [(.int .i64), (.int .i64), .bool]))]), t112⟩), (.bv 0 53 (.st [.str, .bool, (.int .i64), (.int .i64), (.int .i64)]) ts113)] [] k = some true := by
  obtain ⟨d, rfl⟩ : ∃ e, d = e + 1 := ⟨d - 1, by omega⟩
  exact fn_ok (c := codeOf Try.f9) Try.func9 (by kernel_rfl) (rec := ref15_Check.calls ref05_Text) (fun g a h k hx => by
    rcases ref05_Text.look d (by omega) hx with hx | hx
    rotate_left
    · exact hx
    cases hx) (loopf := ref15_Check.loops (ref15_Check_L0 ROUNDS) (ref15_Check_L2 ROUNDS)) (by
    have e : loopsOf (ref15_Check.loops (ref15_Check_L0 ROUNDS) (ref15_Check_L2 ROUNDS)) 0 (codeOf Try.f9) = [(0, loopAt 0 (codeOf Try.f9)), (2, loopAt 2 (codeOf Try.f9))] := by kernel_rfl
    rw [e]
    intro p hp
    simp only [List.mem_cons, List.not_mem_nil, or_false] at hp
    rcases hp with rfl | rfl
    · refine loopRef_of (callf := callfOf (callK Try.prog ht d)) (callfOf_ref (callK_mono d)) fun lf st k hb hx => ?_
      cases hb
      rcases ref15_Check_L0.look hx with hx | hx
      rotate_left
      · exact ref15_Check_L0.ok d (by omega) _ _ _ hx
      cases hx
    · refine loopRef_of (callf := callfOf (callK Try.prog ht d)) (callfOf_ref (callK_mono d)) fun lf st k hb hx => ?_
      cases hb
      rcases ref15_Check_L2.look hx with hx | hx
      rotate_left
      · exact ref15_Check_L2.ok d (by omega) _ _ _ hx
      cases hx) ((ref15_Check.eq ref05_Text (ref15_Check_L0 ROUNDS) (ref15_Check_L2 ROUNDS) t112 ts113 k).trans hx)
theorem ref15_Check.look (d : Nat) (hd : 4 ≤ d) {e : Option Bool} {g : FuncId} {a : List AV} {h : Heap} {k : KR} (hx : ref15_Check.get ref15_Check e g a h k = some true) : e = some true ∨ callK Try.prog ht d g a h k = some true := by
  unfold ref15_Check.get at hx
  split at hx
  · exact .inr (ref15_Check.ok d hd _ _ _ hx)
  · exact .inl hx
/-- function 28: sheerleg/data.Marks$1 -/
noncomputable def data_Marksfn1.body (t151 : Int × Int × Bool × Unit) (n152 : Int) (k1 : Bool → Int → Option Bool) : Option Bool :=
  (k1 (t151.1 == n152) n152)
noncomputable def data_Marksfn1 (t151 : Int × Int × Bool × Unit) (n152 : Int) (k1 : Bool → Int → Option Bool) : Option Bool := data_Marksfn1.body t151 n152 k1
noncomputable def data_Marksfn1.get (F : (Int × Int × Bool × Unit) → Int → (Bool → Int → Option Bool) → Option Bool) (e : Option Bool) (g : FuncId) (a : List AV) (h : Heap) (k : KR) : Option Bool := match g, a, h with
  | 28, [(.d ⟨(.st [(.int .i64), (.int .i64), .bool]), t151⟩), (.ptr [0, 0] 0 0)], [([0, 0], ⟨3, 1, (.data (.int .i64) [n152])⟩)] => F t151 n152 (fun y0 y1 => k (.d ⟨.bool, y0⟩) [([0, 0], ⟨3, 1, (.data (.int .i64) [y1])⟩)])
  | _, _, _ => e
noncomputable def data_Marksfn1.calls : RecF := fun g a h k => none
noncomputable def data_Marksfn1.loops : LoopF := fun b => none
set_option maxRecDepth 100000 in
theorem data_Marksfn1.eq (t151 : Int × Int × Bool × Unit) (n152 : Int) (k : KR) : execL Try.prog ht 28 (callfOf (data_Marksfn1.calls)) (data_Marksfn1.loops) 0 (codeOf Try.f28) ⟨[(.d ⟨(.st [(.int .i64), (.int .i64), .bool]), t151⟩), (.ptr [0, 0] 0 0)] ++ List.replicate (Try.f28.ntmps - ([(.d ⟨(.st [(.int .i64), (.int .i64), .bool]), t151⟩), (.ptr [0, 0] 0 0)] : List AV).length) .undef, [([0, 0], ⟨3, 1, (.data (.int .i64) [n152])⟩)], 2⟩ (leave Try.prog Try.f28 k) = data_Marksfn1.body t151 n152 (fun y0 y1 => k (.d ⟨.bool, y0⟩) [([0, 0], ⟨3, 1, (.data (.int .i64) [y1])⟩)]) := by kernel_rfl
theorem data_Marksfn1.ok (d : Nat) (hd : 1 ≤ d) (t151 : Int × Int × Bool × Unit) (n152 : Int) (k : KR) (hx : data_Marksfn1 t151 n152 (fun y0 y1 => k (.d ⟨.bool, y0⟩) [([0, 0], ⟨3, 1, (.data (.int .i64) [y1])⟩)]) = some true) : callK Try.prog ht d 28 [(.d ⟨(.st [(.int .i64), (.int .i64), .bool]), t151⟩), (.ptr [0, 0] 0 0)] [([0, 0], ⟨3, 1, (.data (.int .i64) [n152])⟩)] k = some true := by
  obtain ⟨d, rfl⟩ : ∃ e, d = e + 1 := ⟨d - 1, by omega⟩
  exact fn_ok (c := codeOf Try.f28) Try.func28 (by kernel_rfl) (rec := data_Marksfn1.calls) (fun g a h k hx => by
    cases hx) (loopf := data_Marksfn1.loops) (by
    have e : loopsOf (data_Marksfn1.loops) 0 (codeOf Try.f28) = [] := by kernel_rfl
    rw [e]
    intro p hp
    cases hp) ((data_Marksfn1.eq t151 n152 k).trans hx)
theorem data_Marksfn1.look (d : Nat) (hd : 1 ≤ d) {e : Option Bool} {g : FuncId} {a : List AV} {h : Heap} {k : KR} (hx : data_Marksfn1.get data_Marksfn1 e g a h k = some true) : e = some true ∨ callK Try.prog ht d g a h k = some true := by
  unfold data_Marksfn1.get at hx
  split at hx
  · exact .inr (data_Marksfn1.ok d hd _ _ _ hx)
  · exact .inl hx
/-- function 27: the loop in block 0 -/
noncomputable def slices_IndexFunc_api_Reloc_api_Reloc_L0.body (slices_IndexFunc_api_Reloc_api_Reloc_L0 : Tc0 → Int → Int → Int → (Int → Int → Option Bool) → (Int → Option Bool) → Option Bool) (data_Marksfn1 : (Int × Int × Bool × Unit) → Int → (Bool → Int → Option Bool) → Option Bool) (ts147 : Tc0) (n148 : Int) (n149 : Int) (n150 : Int) (k1 : Int → Int → Option Bool) (k2 : Int → Option Bool) : Option Bool :=
  (cond_ (decide (n149 < n148)) (cond_ ((decide ((0 : Int) ≤ n149)) && (decide (n149 < (((List.length ts147) : Nat) : Int)))) (data_Marksfn1 (List.getD ts147 (Int.toNat n149) ((0 : Int), ((0 : Int), (false, ())))) n150
  (fun b153 n154 => (cond_ b153 (k1 n149 n154) (slices_IndexFunc_api_Reloc_api_Reloc_L0 ts147 n148 (IntKind.wrap .i64 (n149 + (1 : Int))) n154 k1 k2)))) none) (k2 n150))
noncomputable def slices_IndexFunc_api_Reloc_api_Reloc_L0 : Nat → Tc0 → Int → Int → Int → (Int → Int → Option Bool) → (Int → Option Bool) → Option Bool
  | 0 => fun _ _ _ _ _ _ => none
  | n + 1 => slices_IndexFunc_api_Reloc_api_Reloc_L0.body (slices_IndexFunc_api_Reloc_api_Reloc_L0 n) data_Marksfn1
noncomputable def slices_IndexFunc_api_Reloc_api_Reloc_L0.get (F : Tc0 → Int → Int → Int → (Int → Int → Option Bool) → (Int → Option Bool) → Option Bool) (e : Option Bool) (st : St) (k : KE) : Option Bool := match st with
  | ⟨sl, hp, m⟩ => match Nat.beq m 2, pickS 19 [0, 1, 7, 8] sl, hp with
    | true, some [(.bv 0 51 (.st [(.int .i64), (.int .i64), .bool]) ts147), (.fn (.func 28) [] [(.ptr [0, 0] 0 0)]), (.d ⟨(.int .i64), n148⟩), (.d ⟨(.int .i64), n149⟩)], [([0, 0], ⟨3, 1, (.data (.int .i64) [n150])⟩)] => F ts147 n148 n149 n150 (fun y0 y1 => k .ret ⟨fillS 19 [4] [(.d ⟨(.int .i64), y0⟩)], [([0, 0], ⟨3, 1, (.data (.int .i64) [y1])⟩)], 2⟩) (fun y0 => k (.exit 0) ⟨fillS 19 [] [], [([0, 0], ⟨3, 1, (.data (.int .i64) [y0])⟩)], 2⟩)
    | _, _, _ => e
noncomputable def slices_IndexFunc_api_Reloc_api_Reloc_L0.calls (F0 : (Int × Int × Bool × Unit) → Int → (Bool → Int → Option Bool) → Option Bool) : RecF := fun g a h k => (data_Marksfn1.get F0 none g a h k)
noncomputable def slices_IndexFunc_api_Reloc_api_Reloc_L0.loops : LoopF := fun b => none
set_option maxRecDepth 100000 in
theorem slices_IndexFunc_api_Reloc_api_Reloc_L0.step (S : Tc0 → Int → Int → Int → (Int → Int → Option Bool) → (Int → Option Bool) → Option Bool) (F0 : (Int × Int × Bool × Unit) → Int → (Bool → Int → Option Bool) → Option Bool) (ts147 : Tc0) (n148 : Int) (n149 : Int) (n150 : Int) (k : KE) : execL Try.prog ht 27 (callfOf (slices_IndexFunc_api_Reloc_api_Reloc_L0.calls F0)) (slices_IndexFunc_api_Reloc_api_Reloc_L0.loops) 0 (loopAt 0 (codeOf Try.f27)) ⟨fillS 19 [0, 1, 7, 8] [(.bv 0 51 (.st [(.int .i64), (.int .i64), .bool]) ts147), (.fn (.func 28) [] [(.ptr [0, 0] 0 0)]), (.d ⟨(.int .i64), n148⟩), (.d ⟨(.int .i64), n149⟩)], [([0, 0], ⟨3, 1, (.data (.int .i64) [n150])⟩)], 2⟩ (again (slices_IndexFunc_api_Reloc_api_Reloc_L0.get S none) (plan Try.prog (ht 27 0)) k) = slices_IndexFunc_api_Reloc_api_Reloc_L0.body S F0 ts147 n148 n149 n150 (fun y0 y1 => k .ret ⟨fillS 19 [4] [(.d ⟨(.int .i64), y0⟩)], [([0, 0], ⟨3, 1, (.data (.int .i64) [y1])⟩)], 2⟩) (fun y0 => k (.exit 0) ⟨fillS 19 [] [], [([0, 0], ⟨3, 1, (.data (.int .i64) [y0])⟩)], 2⟩) := by kernel_rfl
theorem slices_IndexFunc_api_Reloc_api_Reloc_L0.ok (d : Nat) (hd : 1 ≤ d) : ∀ n st k, slices_IndexFunc_api_Reloc_api_Reloc_L0.get (slices_IndexFunc_api_Reloc_api_Reloc_L0 n) none st k = some true → iter n (plan Try.prog (ht 27 0)) (fun st k => execK Try.prog ht 27 (callfOf (callK Try.prog ht d)) 0 (loopAt 0 (codeOf Try.f27)) st k) st k = some true :=
  loop_ok (lfn := fun n st k => slices_IndexFunc_api_Reloc_api_Reloc_L0.get (slices_IndexFunc_api_Reloc_api_Reloc_L0 n) none st k) (rec := slices_IndexFunc_api_Reloc_api_Reloc_L0.calls data_Marksfn1) (fun g a h k hx => by
    rcases data_Marksfn1.look d (by omega) hx with hx | hx
    rotate_left
    · exact hx
    cases hx) (loopf := slices_IndexFunc_api_Reloc_api_Reloc_L0.loops) (by
    have e : loopsOf (slices_IndexFunc_api_Reloc_api_Reloc_L0.loops) 0 (loopAt 0 (codeOf Try.f27)) = [] := by kernel_rfl
    rw [e]
    intro p hp
    cases hp) (fun st k h => by
    obtain ⟨sl, hp, m⟩ := st
    unfold slices_IndexFunc_api_Reloc_api_Reloc_L0.get at h
    dsimp only at h
    split at h
    · have h' : (none : Option Bool) = some true := h
      cases h'
    · cases h) (fun n st k h => by
    obtain ⟨sl, hp, m⟩ := st
    unfold slices_IndexFunc_api_Reloc_api_Reloc_L0.get at h
    dsimp only at h
    split at h
    · rename_i h1 h2
      obtain rfl := pickS_ok h2
      obtain rfl := Nat.eq_of_beq_eq_true h1
      exact (slices_IndexFunc_api_Reloc_api_Reloc_L0.step (slices_IndexFunc_api_Reloc_api_Reloc_L0 n) data_Marksfn1 _ _ _ _ k).trans h
    · cases h)
theorem slices_IndexFunc_api_Reloc_api_Reloc_L0.look {F : Tc0 → Int → Int → Int → (Int → Int → Option Bool) → (Int → Option Bool) → Option Bool} {e : Option Bool} {st : St} {k : KE} (hx : slices_IndexFunc_api_Reloc_api_Reloc_L0.get F e st k = some true) : e = some true ∨ slices_IndexFunc_api_Reloc_api_Reloc_L0.get F none st k = some true := by
  obtain ⟨sl, hp, m⟩ := st
  unfold slices_IndexFunc_api_Reloc_api_Reloc_L0.get at hx ⊢
  dsimp only at hx ⊢
  split at hx
  · exact .inr hx
  · exact .inl hx
/-- function 27: slices.IndexFunc[[]sheerleg/api.Reloc,sheerleg/api.Reloc] -/
noncomputable def slices_IndexFunc_api_Reloc_api_Reloc.body (slices_IndexFunc_api_Reloc_api_Reloc_L0 : Tc0 → Int → Int → Int → (Int → Int → Option Bool) → (Int → Option Bool) → Option Bool) (ts145 : Tc0) (n146 : Int) (k1 : Int → Int → Option Bool) : Option Bool :=
  (slices_IndexFunc_api_Reloc_api_Reloc_L0 ts145 (((List.length ts145) : Nat) : Int) (0 : Int) n146
  (fun n155 n156 => (k1 n155 n156))
  (fun n157 => (k1 (-1 : Int) n157)))
noncomputable def slices_IndexFunc_api_Reloc_api_Reloc (ts145 : Tc0) (n146 : Int) (k1 : Int → Int → Option Bool) : Option Bool := slices_IndexFunc_api_Reloc_api_Reloc.body (slices_IndexFunc_api_Reloc_api_Reloc_L0 ROUNDS) ts145 n146 k1
noncomputable def slices_IndexFunc_api_Reloc_api_Reloc.get (F : Tc0 → Int → (Int → Int → Option Bool) → Option Bool) (e : Option Bool) (g : FuncId) (a : List AV) (h : Heap) (k : KR) : Option Bool := match g, a, h with
  | 27, [(.bv 0 51 (.st [(.int .i64), (.int .i64), .bool]) ts145), (.fn (.func 28) [] [(.ptr [0, 0] 0 0)])], [([0, 0], ⟨3, 1, (.data (.int .i64) [n146])⟩)] => F ts145 n146 (fun y0 y1 => k (.d ⟨(.int .i64), y0⟩) [([0, 0], ⟨3, 1, (.data (.int .i64) [y1])⟩)])
  | _, _, _ => e
noncomputable def slices_IndexFunc_api_Reloc_api_Reloc.calls : RecF := fun g a h k => none
noncomputable def slices_IndexFunc_api_Reloc_api_Reloc.loops (L0 : Tc0 → Int → Int → Int → (Int → Int → Option Bool) → (Int → Option Bool) → Option Bool) : LoopF := fun b => match Nat.beq b 0 with | true => some (fun st k => (slices_IndexFunc_api_Reloc_api_Reloc_L0.get L0 none st k)) | false => none
set_option maxRecDepth 100000 in
theorem slices_IndexFunc_api_Reloc_api_Reloc.eq (L0 : Tc0 → Int → Int → Int → (Int → Int → Option Bool) → (Int → Option Bool) → Option Bool) (ts145 : Tc0) (n146 : Int) (k : KR) : execL Try.prog ht 27 (callfOf (slices_IndexFunc_api_Reloc_api_Reloc.calls)) (slices_IndexFunc_api_Reloc_api_Reloc.loops L0) 0 (codeOf Try.f27) ⟨[(.bv 0 51 (.st [(.int .i64), (.int .i64), .bool]) ts145), (.fn (.func 28) [] [(.ptr [0, 0] 0 0)])] ++ List.replicate (Try.f27.ntmps - ([(.bv 0 51 (.st [(.int .i64), (.int .i64), .bool]) ts145), (.fn (.func 28) [] [(.ptr [0, 0] 0 0)])] : List AV).length) .undef, [([0, 0], ⟨3, 1, (.data (.int .i64) [n146])⟩)], 2⟩ (leave Try.prog Try.f27 k) = slices_IndexFunc_api_Reloc_api_Reloc.body L0 ts145 n146 (fun y0 y1 => k (.d ⟨(.int .i64), y0⟩) [([0, 0], ⟨3, 1, (.data (.int .i64) [y1])⟩)]) := by kernel_rfl
theorem slices_IndexFunc_api_Reloc_api_Reloc.ok (d : Nat) (hd : 2 ≤ d) (ts145 : Tc0) (n146 : Int) (k : KR) (hx : slices_IndexFunc_api_Reloc_api_Reloc ts145 n146 (fun y0 y1 => k (.d ⟨(.int .i64), y0⟩) [([0, 0], ⟨3, 1, (.data (.int .i64) [y1])⟩)]) = some true) : callK Try.prog ht d 27 [(.bv 0 51 (.st [(.int .i64), (.int .i64), .bool]) ts145), (.fn (.func 28) [] [(.ptr [0, 0] 0 0)])] [([0, 0], ⟨3, 1, (.data (.int .i64) [n146])⟩)] k = some true := by
  obtain ⟨d, rfl⟩ : ∃ e, d = e + 1 := ⟨d - 1, by omega⟩
  exact fn_ok (c := codeOf Try.f27) Try.func27 (by kernel_rfl) (rec := slices_IndexFunc_api_Reloc_api_Reloc.calls) (fun g a h k hx => by
    cases hx) (loopf := slices_IndexFunc_api_Reloc_api_Reloc.loops (slices_IndexFunc_api_Reloc_api_Reloc_L0 ROUNDS)) (by
    have e : loopsOf (slices_IndexFunc_api_Reloc_api_Reloc.loops (slices_IndexFunc_api_Reloc_api_Reloc_L0 ROUNDS)) 0 (codeOf Try.f27) = [(0, loopAt 0 (codeOf Try.f27))] := by kernel_rfl
    rw [e]
    intro p hp
    simp only [List.mem_cons, List.not_mem_nil, or_false] at hp
    rcases hp with rfl
    · refine loopRef_of (callf := callfOf (callK Try.prog ht d)) (callfOf_ref (callK_mono d)) fun lf st k hb hx => ?_
      cases hb
      rcases slices_IndexFunc_api_Reloc_api_Reloc_L0.look hx with hx | hx
      rotate_left
      · exact slices_IndexFunc_api_Reloc_api_Reloc_L0.ok d (by omega) _ _ _ hx
      cases hx) ((slices_IndexFunc_api_Reloc_api_Reloc.eq (slices_IndexFunc_api_Reloc_api_Reloc_L0 ROUNDS) ts145 n146 k).trans hx)
theorem slices_IndexFunc_api_Reloc_api_Reloc.look (d : Nat) (hd : 2 ≤ d) {e : Option Bool} {g : FuncId} {a : List AV} {h : Heap} {k : KR} (hx : slices_IndexFunc_api_Reloc_api_Reloc.get slices_IndexFunc_api_Reloc_api_Reloc e g a h k = some true) : e = some true ∨ callK Try.prog ht d g a h k = some true := by
  unfold slices_IndexFunc_api_Reloc_api_Reloc.get at hx
  split at hx
  · exact .inr (slices_IndexFunc_api_Reloc_api_Reloc.ok d hd _ _ _ hx)
  · exact .inl hx
/-- function 13: the loop in block 0 -/
noncomputable def data_Marks_L0.body (data_Marks_L0 : Tc0 → Int → Int → (List Int) → ((List Int) → Option Bool) → Option Bool) (slices_IndexFunc_api_Reloc_api_Reloc : Tc0 → Int → (Int → Int → Option Bool) → Option Bool) (ts170 : Tc0) (n171 : Int) (n172 : Int) (ns173 : List Int) (k1 : (List Int) → Option Bool) : Option Bool :=
  (cond_ (decide (n172 < n171)) (slices_IndexFunc_api_Reloc_api_Reloc ts170 n172
  (fun n174 n175 => (cond_ (Nat.ble (((List.length ns173) + (List.length (n174 :: []))) * (8 : Nat)) (140737488355328 : Nat)) (data_Marks_L0 ts170 n171 (IntKind.wrap .i64 (n172 + (1 : Int))) (ns173 ++ (n174 :: [])) k1) none))) (k1 ns173))
noncomputable def data_Marks_L0 : Nat → Tc0 → Int → Int → (List Int) → ((List Int) → Option Bool) → Option Bool
  | 0 => fun _ _ _ _ _ => none
  | n + 1 => data_Marks_L0.body (data_Marks_L0 n) slices_IndexFunc_api_Reloc_api_Reloc
noncomputable def data_Marks_L0.get (F : Tc0 → Int → Int → (List Int) → ((List Int) → Option Bool) → Option Bool) (e : Option Bool) (st : St) (k : KE) : Option Bool := match st with
  | ⟨sl, hp, m⟩ => match Nat.beq m 2, pickS 21 [0, 5, 9, 10] sl, hp with
    | true, some [(.bv 0 51 (.st [(.int .i64), (.int .i64), .bool]) ts170), (.ref [1, 0]), (.d ⟨(.int .i64), n171⟩), (.d ⟨(.int .i64), n172⟩)], [([1, 0], ⟨3, 1, (.data (.int .i64) ns173)⟩)] => F ts170 n171 n172 ns173 (fun y0 => k (.exit 0) ⟨fillS 21 [5] [(.ref [1, 0])], [([1, 0], ⟨3, 1, (.data (.int .i64) y0)⟩)], 2⟩)
    | _, _, _ => e
noncomputable def data_Marks_L0.calls (F0 : Tc0 → Int → (Int → Int → Option Bool) → Option Bool) : RecF := fun g a h k => (slices_IndexFunc_api_Reloc_api_Reloc.get F0 none g a h k)
noncomputable def data_Marks_L0.loops : LoopF := fun b => none
set_option maxRecDepth 100000 in
theorem data_Marks_L0.step (S : Tc0 → Int → Int → (List Int) → ((List Int) → Option Bool) → Option Bool) (F0 : Tc0 → Int → (Int → Int → Option Bool) → Option Bool) (ts170 : Tc0) (n171 : Int) (n172 : Int) (ns173 : List Int) (k : KE) : execL Try.prog ht 13 (callfOf (data_Marks_L0.calls F0)) (data_Marks_L0.loops) 0 (loopAt 0 (codeOf Try.f13)) ⟨fillS 21 [0, 5, 9, 10] [(.bv 0 51 (.st [(.int .i64), (.int .i64), .bool]) ts170), (.ref [1, 0]), (.d ⟨(.int .i64), n171⟩), (.d ⟨(.int .i64), n172⟩)], [([1, 0], ⟨3, 1, (.data (.int .i64) ns173)⟩)], 2⟩ (again (data_Marks_L0.get S none) (plan Try.prog (ht 13 0)) k) = data_Marks_L0.body S F0 ts170 n171 n172 ns173 (fun y0 => k (.exit 0) ⟨fillS 21 [5] [(.ref [1, 0])], [([1, 0], ⟨3, 1, (.data (.int .i64) y0)⟩)], 2⟩) := by kernel_rfl
theorem data_Marks_L0.ok (d : Nat) (hd : 2 ≤ d) : ∀ n st k, data_Marks_L0.get (data_Marks_L0 n) none st k = some true → iter n (plan Try.prog (ht 13 0)) (fun st k => execK Try.prog ht 13 (callfOf (callK Try.prog ht d)) 0 (loopAt 0 (codeOf Try.f13)) st k) st k = some true :=
  loop_ok (lfn := fun n st k => data_Marks_L0.get (data_Marks_L0 n) none st k) (rec := data_Marks_L0.calls slices_IndexFunc_api_Reloc_api_Reloc) (fun g a h k hx => by
    rcases slices_IndexFunc_api_Reloc_api_Reloc.look d (by omega) hx with hx | hx
    rotate_left
    · exact hx
    cases hx) (loopf := data_Marks_L0.loops) (by
    have e : loopsOf (data_Marks_L0.loops) 0 (loopAt 0 (codeOf Try.f13)) = [] := by kernel_rfl
    rw [e]
    intro p hp
    cases hp) (fun st k h => by
    obtain ⟨sl, hp, m⟩ := st
    unfold data_Marks_L0.get at h
    dsimp only at h
    split at h
    · have h' : (none : Option Bool) = some true := h
      cases h'
    · cases h) (fun n st k h => by
    obtain ⟨sl, hp, m⟩ := st
    unfold data_Marks_L0.get at h
    dsimp only at h
    split at h
    · rename_i h1 h2
      obtain rfl := pickS_ok h2
      obtain rfl := Nat.eq_of_beq_eq_true h1
      exact (data_Marks_L0.step (data_Marks_L0 n) slices_IndexFunc_api_Reloc_api_Reloc _ _ _ _ k).trans h
    · cases h)
theorem data_Marks_L0.look {F : Tc0 → Int → Int → (List Int) → ((List Int) → Option Bool) → Option Bool} {e : Option Bool} {st : St} {k : KE} (hx : data_Marks_L0.get F e st k = some true) : e = some true ∨ data_Marks_L0.get F none st k = some true := by
  obtain ⟨sl, hp, m⟩ := st
  unfold data_Marks_L0.get at hx ⊢
  dsimp only at hx ⊢
  split at hx
  · exact .inr hx
  · exact .inl hx
/-- function 13: sheerleg/data.Marks -/
noncomputable def data_Marks.body (data_Marks_L0 : Tc0 → Int → Int → (List Int) → ((List Int) → Option Bool) → Option Bool) (ts168 : Tc0) (n169 : Int) (k1 : (List Int) → Option Bool) : Option Bool :=
  (data_Marks_L0 ts168 (if ((0 : Int) < (if ((4096 : Int) < n169) then (4096 : Int) else n169)) then (if ((4096 : Int) < n169) then (4096 : Int) else n169) else (0 : Int)) (0 : Int) []
  (fun ns176 => (k1 ns176)))
noncomputable def data_Marks (ts168 : Tc0) (n169 : Int) (k1 : (List Int) → Option Bool) : Option Bool := data_Marks.body (data_Marks_L0 ROUNDS) ts168 n169 k1
noncomputable def data_Marks.get (F : Tc0 → Int → ((List Int) → Option Bool) → Option Bool) (e : Option Bool) (g : FuncId) (a : List AV) (h : Heap) (k : KR) : Option Bool := match g, a, h with
  | 13, [(.bv 0 51 (.st [(.int .i64), (.int .i64), .bool]) ts168), (.d ⟨(.int .i64), n169⟩)], [] => F ts168 n169 (fun y0 => k (.ref [1, 0]) [([1, 0], ⟨3, 1, (.data (.int .i64) y0)⟩)])
  | _, _, _ => e
noncomputable def data_Marks.calls : RecF := fun g a h k => none
noncomputable def data_Marks.loops (L0 : Tc0 → Int → Int → (List Int) → ((List Int) → Option Bool) → Option Bool) : LoopF := fun b => match Nat.beq b 0 with | true => some (fun st k => (data_Marks_L0.get L0 none st k)) | false => none
set_option maxRecDepth 100000 in
theorem data_Marks.eq (L0 : Tc0 → Int → Int → (List Int) → ((List Int) → Option Bool) → Option Bool) (ts168 : Tc0) (n169 : Int) (k : KR) : execL Try.prog ht 13 (callfOf (data_Marks.calls)) (data_Marks.loops L0) 0 (codeOf Try.f13) ⟨[(.bv 0 51 (.st [(.int .i64), (.int .i64), .bool]) ts168), (.d ⟨(.int .i64), n169⟩)] ++ List.replicate (Try.f13.ntmps - ([(.bv 0 51 (.st [(.int .i64), (.int .i64), .bool]) ts168), (.d ⟨(.int .i64), n169⟩)] : List AV).length) .undef, [], 2⟩ (leave Try.prog Try.f13 k) = data_Marks.body L0 ts168 n169 (fun y0 => k (.ref [1, 0]) [([1, 0], ⟨3, 1, (.data (.int .i64) y0)⟩)]) := by kernel_rfl
theorem data_Marks.ok (d : Nat) (hd : 3 ≤ d) (ts168 : Tc0) (n169 : Int) (k : KR) (hx : data_Marks ts168 n169 (fun y0 => k (.ref [1, 0]) [([1, 0], ⟨3, 1, (.data (.int .i64) y0)⟩)]) = some true) : callK Try.prog ht d 13 [(.bv 0 51 (.st [(.int .i64), (.int .i64), .bool]) ts168), (.d ⟨(.int .i64), n169⟩)] [] k = some true := by
  obtain ⟨d, rfl⟩ : ∃ e, d = e + 1 := ⟨d - 1, by omega⟩
  exact fn_ok (c := codeOf Try.f13) Try.func13 (by kernel_rfl) (rec := data_Marks.calls) (fun g a h k hx => by
    cases hx) (loopf := data_Marks.loops (data_Marks_L0 ROUNDS)) (by
    have e : loopsOf (data_Marks.loops (data_Marks_L0 ROUNDS)) 0 (codeOf Try.f13) = [(0, loopAt 0 (codeOf Try.f13))] := by kernel_rfl
    rw [e]
    intro p hp
    simp only [List.mem_cons, List.not_mem_nil, or_false] at hp
    rcases hp with rfl
    · refine loopRef_of (callf := callfOf (callK Try.prog ht d)) (callfOf_ref (callK_mono d)) fun lf st k hb hx => ?_
      cases hb
      rcases data_Marks_L0.look hx with hx | hx
      rotate_left
      · exact data_Marks_L0.ok d (by omega) _ _ _ hx
      cases hx) ((data_Marks.eq (data_Marks_L0 ROUNDS) ts168 n169 k).trans hx)
theorem data_Marks.look (d : Nat) (hd : 3 ≤ d) {e : Option Bool} {g : FuncId} {a : List AV} {h : Heap} {k : KR} (hx : data_Marks.get data_Marks e g a h k = some true) : e = some true ∨ callK Try.prog ht d g a h k = some true := by
  unfold data_Marks.get at hx
  split at hx
  · exact .inr (data_Marks.ok d hd _ _ _ hx)
  · exact .inl hx
/-- function 11: the loop in block 0 -/
noncomputable def data_Refs_L0.body (data_Refs_L0 : Int → Int → Tc4 → (List Int) → ((List Int) → Option Bool) → Option Bool) (n178 : Int) (n179 : Int) (t180 : Tc4) (ns181 : List Int) (k1 : (List Int) → Option Bool) : Option Bool :=
  (cond_ (decide (n179 < n178)) (cond_ ((decide ((0 : Int) ≤ n179)) && (decide (n179 < (((List.length ns181) : Nat) : Int)))) (cond_ (decide ((List.getD ns181 (Int.toNat n179) (0 : Int)) ≥ (0 : Int))) (cond_ ((decide ((0 : Int) ≤ (List.getD ns181 (Int.toNat n179) (0 : Int)))) && (decide ((List.getD ns181 (Int.toNat n179) (0 : Int)) < (((List.length t180.2.2.1) : Nat) : Int)))) (cond_ ((decide ((0 : Int) ≤ n179)) && (decide (n179 < (((List.length ns181) : Nat) : Int)))) (data_Refs_L0 n178 (IntKind.wrap .i64 (n179 + (1 : Int))) t180 (List.set ns181 (Int.toNat n179) (List.getD t180.2.2.1 (Int.toNat (List.getD ns181 (Int.toNat n179) (0 : Int))) ((0 : Int), ((0 : Int), (false, ())))).2.1) k1) none) none) (data_Refs_L0 n178 (IntKind.wrap .i64 (n179 + (1 : Int))) t180 ns181 k1)) none) (k1 ns181))
noncomputable def data_Refs_L0 : Nat → Int → Int → Tc4 → (List Int) → ((List Int) → Option Bool) → Option Bool
  | 0 => fun _ _ _ _ _ => none
  | n + 1 => data_Refs_L0.body (data_Refs_L0 n)
noncomputable def data_Refs_L0.get (F : Int → Int → Tc4 → (List Int) → ((List Int) → Option Bool) → Option Bool) (e : Option Bool) (st : St) (k : KE) : Option Bool := match st with
  | ⟨sl, hp, m⟩ => match Nat.beq m 2, pickS 32 [1, 3, 12, 13, 14] sl, hp with
    | true, some [(.ptr [1, 0] 0 0), (.ref [1, 1]), (.ref [1, 1]), (.d ⟨(.int .i64), n178⟩), (.d ⟨(.int .i64), n179⟩)], [([1, 0], ⟨25, 3, (.data (.st [(.int .i64), (.sl 2 (.int .i64)), (.sl 51 (.st [(.int .i64), (.int .i64), .bool]))]) [t180])⟩), ([1, 1], ⟨3, 1, (.data (.int .i64) ns181)⟩)] => F n178 n179 t180 ns181 (fun y0 => k (.exit 0) ⟨fillS 32 [3] [(.ref [1, 0])], [([1, 0], ⟨3, 1, (.data (.int .i64) y0)⟩)], 2⟩)
    | _, _, _ => e
noncomputable def data_Refs_L0.calls : RecF := fun g a h k => none
noncomputable def data_Refs_L0.loops : LoopF := fun b => none
set_option maxRecDepth 100000 in
theorem data_Refs_L0.step (S : Int → Int → Tc4 → (List Int) → ((List Int) → Option Bool) → Option Bool) (n178 : Int) (n179 : Int) (t180 : Tc4) (ns181 : List Int) (k : KE) : execL Try.prog ht 11 (callfOf (data_Refs_L0.calls)) (data_Refs_L0.loops) 0 (loopAt 0 (codeOf Try.f11)) ⟨fillS 32 [1, 3, 12, 13, 14] [(.ptr [1, 0] 0 0), (.ref [1, 1]), (.ref [1, 1]), (.d ⟨(.int .i64), n178⟩), (.d ⟨(.int .i64), n179⟩)], [([1, 0], ⟨25, 3, (.data (.st [(.int .i64), (.sl 2 (.int .i64)), (.sl 51 (.st [(.int .i64), (.int .i64), .bool]))]) [t180])⟩), ([1, 1], ⟨3, 1, (.data (.int .i64) ns181)⟩)], 2⟩ (again (data_Refs_L0.get S none) (plan Try.prog (ht 11 0)) k) = data_Refs_L0.body S n178 n179 t180 ns181 (fun y0 => k (.exit 0) ⟨fillS 32 [3] [(.ref [1, 0])], [([1, 0], ⟨3, 1, (.data (.int .i64) y0)⟩)], 2⟩) := by kernel_rfl
theorem data_Refs_L0.ok (d : Nat) (hd : 0 ≤ d) : ∀ n st k, data_Refs_L0.get (data_Refs_L0 n) none st k = some true → iter n (plan Try.prog (ht 11 0)) (fun st k => execK Try.prog ht 11 (callfOf (callK Try.prog ht d)) 0 (loopAt 0 (codeOf Try.f11)) st k) st k = some true :=
  loop_ok (lfn := fun n st k => data_Refs_L0.get (data_Refs_L0 n) none st k) (rec := data_Refs_L0.calls) (fun g a h k hx => by
    cases hx) (loopf := data_Refs_L0.loops) (by
    have e : loopsOf (data_Refs_L0.loops) 0 (loopAt 0 (codeOf Try.f11)) = [] := by kernel_rfl
    rw [e]
    intro p hp
    cases hp) (fun st k h => by
    obtain ⟨sl, hp, m⟩ := st
    unfold data_Refs_L0.get at h
    dsimp only at h
    split at h
    · have h' : (none : Option Bool) = some true := h
      cases h'
    · cases h) (fun n st k h => by
    obtain ⟨sl, hp, m⟩ := st
    unfold data_Refs_L0.get at h
    dsimp only at h
    split at h
    · rename_i h1 h2
      obtain rfl := pickS_ok h2
      obtain rfl := Nat.eq_of_beq_eq_true h1
      exact (data_Refs_L0.step (data_Refs_L0 n) _ _ _ _ k).trans h
    · cases h)
theorem data_Refs_L0.look {F : Int → Int → Tc4 → (List Int) → ((List Int) → Option Bool) → Option Bool} {e : Option Bool} {st : St} {k : KE} (hx : data_Refs_L0.get F e st k = some true) : e = some true ∨ data_Refs_L0.get F none st k = some true := by
  obtain ⟨sl, hp, m⟩ := st
  unfold data_Refs_L0.get at hx ⊢
  dsimp only at hx ⊢
  split at hx
  · exact .inr hx
  · exact .inl hx
/-- function 11: sheerleg/data.Refs -/
noncomputable def data_Refs.body (data_Marks : Tc0 → Int → ((List Int) → Option Bool) → Option Bool) (data_Refs_L0 : Int → Int → Tc4 → (List Int) → ((List Int) → Option Bool) → Option Bool) (t167 : Tc4) (k1 : (List Int) → Option Bool) : Option Bool :=
  (data_Marks t167.2.2.1 (((List.length t167.2.1) : Nat) : Int)
  (fun ns177 => (data_Refs_L0 (((List.length ns177) : Nat) : Int) (0 : Int) t167 ns177
  (fun ns182 => (k1 ns182)))))
noncomputable def data_Refs (t167 : Tc4) (k1 : (List Int) → Option Bool) : Option Bool := data_Refs.body data_Marks (data_Refs_L0 ROUNDS) t167 k1
noncomputable def data_Refs.get (F : Tc4 → ((List Int) → Option Bool) → Option Bool) (e : Option Bool) (g : FuncId) (a : List AV) (h : Heap) (k : KR) : Option Bool := match g, a, h with
  | 11, [(.d ⟨(.st [(.int .i64), (.sl 2 (.int .i64)), (.sl 51 (.st [(.int .i64), (.int .i64), .bool]))]), t167⟩)], [] => F t167 (fun y0 => k (.ref [1, 0]) [([1, 0], ⟨3, 1, (.data (.int .i64) y0)⟩)])
  | _, _, _ => e
noncomputable def data_Refs.calls (F0 : Tc0 → Int → ((List Int) → Option Bool) → Option Bool) : RecF := fun g a h k => (data_Marks.get F0 none g a h k)
noncomputable def data_Refs.loops (L0 : Int → Int → Tc4 → (List Int) → ((List Int) → Option Bool) → Option Bool) : LoopF := fun b => match Nat.beq b 0 with | true => some (fun st k => (data_Refs_L0.get L0 none st k)) | false => none
set_option maxRecDepth 100000 in
theorem data_Refs.eq (F0 : Tc0 → Int → ((List Int) → Option Bool) → Option Bool) (L0 : Int → Int → Tc4 → (List Int) → ((List Int) → Option Bool) → Option Bool) (t167 : Tc4) (k : KR) : execL Try.prog ht 11 (callfOf (data_Refs.calls F0)) (data_Refs.loops L0) 0 (codeOf Try.f11) ⟨[(.d ⟨(.st [(.int .i64), (.sl 2 (.int .i64)), (.sl 51 (.st [(.int .i64), (.int .i64), .bool]))]), t167⟩)] ++ List.replicate (Try.f11.ntmps - ([(.d ⟨(.st [(.int .i64), (.sl 2 (.int .i64)), (.sl 51 (.st [(.int .i64), (.int .i64), .bool]))]), t167⟩)] : List AV).length) .undef, [], 2⟩ (leave Try.prog Try.f11 k) = data_Refs.body F0 L0 t167 (fun y0 => k (.ref [1, 0]) [([1, 0], ⟨3, 1, (.data (.int .i64) y0)⟩)]) := by kernel_rfl
theorem data_Refs.ok (d : Nat) (hd : 4 ≤ d) (t167 : Tc4) (k : KR) (hx : data_Refs t167 (fun y0 => k (.ref [1, 0]) [([1, 0], ⟨3, 1, (.data (.int .i64) y0)⟩)]) = some true) : callK Try.prog ht d 11 [(.d ⟨(.st [(.int .i64), (.sl 2 (.int .i64)), (.sl 51 (.st [(.int .i64), (.int .i64), .bool]))]), t167⟩)] [] k = some true := by
  obtain ⟨d, rfl⟩ : ∃ e, d = e + 1 := ⟨d - 1, by omega⟩
  exact fn_ok (c := codeOf Try.f11) Try.func11 (by kernel_rfl) (rec := data_Refs.calls data_Marks) (fun g a h k hx => by
    rcases data_Marks.look d (by omega) hx with hx | hx
    rotate_left
    · exact hx
    cases hx) (loopf := data_Refs.loops (data_Refs_L0 ROUNDS)) (by
    have e : loopsOf (data_Refs.loops (data_Refs_L0 ROUNDS)) 0 (codeOf Try.f11) = [(0, loopAt 0 (codeOf Try.f11))] := by kernel_rfl
    rw [e]
    intro p hp
    simp only [List.mem_cons, List.not_mem_nil, or_false] at hp
    rcases hp with rfl
    · refine loopRef_of (callf := callfOf (callK Try.prog ht d)) (callfOf_ref (callK_mono d)) fun lf st k hb hx => ?_
      cases hb
      rcases data_Refs_L0.look hx with hx | hx
      rotate_left
      · exact data_Refs_L0.ok d (by omega) _ _ _ hx
      cases hx) ((data_Refs.eq data_Marks (data_Refs_L0 ROUNDS) t167 k).trans hx)
theorem data_Refs.look (d : Nat) (hd : 4 ≤ d) {e : Option Bool} {g : FuncId} {a : List AV} {h : Heap} {k : KR} (hx : data_Refs.get data_Refs e g a h k = some true) : e = some true ∨ callK Try.prog ht d g a h k = some true := by
  unfold data_Refs.get at hx
  split at hx
  · exact .inr (data_Refs.ok d hd _ _ hx)
  · exact .inl hx
/-- function 14: the loop in block 2 -/
noncomputable def ref15_Marks_L0_L2.body (ref15_Marks_L0_L2 : Tc0 → Int → Int → Int → Int → (List Int) → (Tc0 → Int → Int → Int → (List Int) → Option Bool) → Option Bool) (ts214 : Tc0) (n215 : Int) (n216 : Int) (n217 : Int) (n218 : Int) (ns219 : List Int) (k1 : Tc0 → Int → Int → Int → (List Int) → Option Bool) : Option Bool :=
  (cond_ (decide (n218 ≥ (0 : Int))) (cond_ ((decide ((0 : Int) ≤ n218)) && (decide (n218 < (((List.length ts214) : Nat) : Int)))) (cond_ ((List.getD ts214 (Int.toNat n218) ((0 : Int), ((0 : Int), (false, ())))).1 == n216) (ref15_Marks_L0_L2 ts214 n215 n216 n218 (IntKind.wrap .i64 (n218 - (1 : Int))) ns219 k1) (ref15_Marks_L0_L2 ts214 n215 n216 n217 (IntKind.wrap .i64 (n218 - (1 : Int))) ns219 k1)) none) (k1 ts214 n215 n216 n217 ns219))
noncomputable def ref15_Marks_L0_L2 : Nat → Tc0 → Int → Int → Int → Int → (List Int) → (Tc0 → Int → Int → Int → (List Int) → Option Bool) → Option Bool
  | 0 => fun _ _ _ _ _ _ _ => none
  | n + 1 => ref15_Marks_L0_L2.body (ref15_Marks_L0_L2 n)
noncomputable def ref15_Marks_L0_L2.get (F : Tc0 → Int → Int → Int → Int → (List Int) → (Tc0 → Int → Int → Int → (List Int) → Option Bool) → Option Bool) (e : Option Bool) (st : St) (k : KE) : Option Bool := match st with
  | ⟨sl, hp, m⟩ => match Nat.beq m 2, pickS 38 [0, 1, 5, 6, 7, 8] sl, hp with
    | true, some [(.bv 0 51 (.st [(.int .i64), (.int .i64), .bool]) ts214), (.d ⟨(.int .i64), n215⟩), (.ref [1, 0]), (.d ⟨(.int .i64), n216⟩), (.d ⟨(.int .i64), n217⟩), (.d ⟨(.int .i64), n218⟩)], [([1, 0], ⟨3, 1, (.data (.int .i64) ns219)⟩)] => F ts214 n215 n216 n217 n218 ns219 (fun y0 y1 y2 y3 y4 => k (.exit 2) ⟨fillS 38 [0, 1, 5, 6, 7] [(.bv 0 51 (.st [(.int .i64), (.int .i64), .bool]) y0), (.d ⟨(.int .i64), y1⟩), (.ref [1, 0]), (.d ⟨(.int .i64), y2⟩), (.d ⟨(.int .i64), y3⟩)], [([1, 0], ⟨3, 1, (.data (.int .i64) y4)⟩)], 2⟩)
    | _, _, _ => e
noncomputable def ref15_Marks_L0_L2.calls : RecF := fun g a h k => none
noncomputable def ref15_Marks_L0_L2.loops : LoopF := fun b => none
set_option maxRecDepth 100000 in
theorem ref15_Marks_L0_L2.step (S : Tc0 → Int → Int → Int → Int → (List Int) → (Tc0 → Int → Int → Int → (List Int) → Option Bool) → Option Bool) (ts214 : Tc0) (n215 : Int) (n216 : Int) (n217 : Int) (n218 : Int) (ns219 : List Int) (k : KE) : execL Try.prog ht 14 (callfOf (ref15_Marks_L0_L2.calls)) (ref15_Marks_L0_L2.loops) 2 (loopAt 2 (codeOf Try.f14)) ⟨fillS 38 [0, 1, 5, 6, 7, 8] [(.bv 0 51 (.st [(.int .i64), (.int .i64), .bool]) ts214), (.d ⟨(.int .i64), n215⟩), (.ref [1, 0]), (.d ⟨(.int .i64), n216⟩), (.d ⟨(.int .i64), n217⟩), (.d ⟨(.int .i64), n218⟩)], [([1, 0], ⟨3, 1, (.data (.int .i64) ns219)⟩)], 2⟩ (again (ref15_Marks_L0_L2.get S none) (plan Try.prog (ht 14 2)) k) = ref15_Marks_L0_L2.body S ts214 n215 n216 n217 n218 ns219 (fun y0 y1 y2 y3 y4 => k (.exit 2) ⟨fillS 38 [0, 1, 5, 6, 7] [(.bv 0 51 (.st [(.int .i64), (.int .i64), .bool]) y0), (.d ⟨(.int .i64), y1⟩), (.ref [1, 0]), (.d ⟨(.int .i64), y2⟩), (.d ⟨(.int .i64), y3⟩)], [([1, 0], ⟨3, 1, (.data (.int .i64) y4)⟩)], 2⟩) := by kernel_rfl
theorem ref15_Marks_L0_L2.ok (d : Nat) (hd : 0 ≤ d) : ∀ n st k, ref15_Marks_L0_L2.get (ref15_Marks_L0_L2 n) none st k = some true → iter n (plan Try.prog (ht 14 2)) (fun st k => execK Try.prog ht 14 (callfOf (callK Try.prog ht d)) 2 (loopAt 2 (codeOf Try.f14)) st k) st k = some true :=
  loop_ok (lfn := fun n st k => ref15_Marks_L0_L2.get (ref15_Marks_L0_L2 n) none st k) (rec := ref15_Marks_L0_L2.calls) (fun g a h k hx => by
    cases hx) (loopf := ref15_Marks_L0_L2.loops) (by
    have e : loopsOf (ref15_Marks_L0_L2.loops) 2 (loopAt 2 (codeOf Try.f14)) = [] := by kernel_rfl
    rw [e]
    intro p hp
    cases hp) (fun st k h => by
    obtain ⟨sl, hp, m⟩ := st
    unfold ref15_Marks_L0_L2.get at h
    dsimp only at h
    split at h
    · have h' : (none : Option Bool) = some true := h
      cases h'
    · cases h) (fun n st k h => by
    obtain ⟨sl, hp, m⟩ := st
    unfold ref15_Marks_L0_L2.get at h
    dsimp only at h
    split at h
    · rename_i h1 h2
      obtain rfl := pickS_ok h2
      obtain rfl := Nat.eq_of_beq_eq_true h1
      exact (ref15_Marks_L0_L2.step (ref15_Marks_L0_L2 n) _ _ _ _ _ _ k).trans h
    · cases h)
theorem ref15_Marks_L0_L2.look {F : Tc0 → Int → Int → Int → Int → (List Int) → (Tc0 → Int → Int → Int → (List Int) → Option Bool) → Option Bool} {e : Option Bool} {st : St} {k : KE} (hx : ref15_Marks_L0_L2.get F e st k = some true) : e = some true ∨ ref15_Marks_L0_L2.get F none st k = some true := by
  obtain ⟨sl, hp, m⟩ := st
  unfold ref15_Marks_L0_L2.get at hx ⊢
  dsimp only at hx ⊢
  split at hx
  · exact .inr hx
  · exact .inl hx
/-- function 14: the loop in block 0 -/
noncomputable def ref15_Marks_L0.body (ref15_Marks_L0 : Tc0 → Int → Int → (List Int) → ((List Int) → Option Bool) → Option Bool) (ref15_Marks_L0_L2 : Tc0 → Int → Int → Int → Int → (List Int) → (Tc0 → Int → Int → Int → (List Int) → Option Bool) → Option Bool) (ts210 : Tc0) (n211 : Int) (n212 : Int) (ns213 : List Int) (k1 : (List Int) → Option Bool) : Option Bool :=
  (cond_ (decide (n212 < n211)) (cond_ (decide (n212 < (4096 : Int))) (ref15_Marks_L0_L2 ts210 n211 n212 (-1 : Int) (IntKind.wrap .i64 ((((List.length ts210) : Nat) : Int) - (1 : Int))) ns213
  (fun ts220 n221 n222 n223 ns224 => (cond_ (Nat.ble (((List.length ns224) + (List.length (n223 :: []))) * (8 : Nat)) (140737488355328 : Nat)) (ref15_Marks_L0 ts220 n221 (IntKind.wrap .i64 (n222 + (1 : Int))) (ns224 ++ (n223 :: [])) k1) none))) (k1 ns213)) (k1 ns213))
noncomputable def ref15_Marks_L0 : Nat → Tc0 → Int → Int → (List Int) → ((List Int) → Option Bool) → Option Bool
  | 0 => fun _ _ _ _ _ => none
  | n + 1 => ref15_Marks_L0.body (ref15_Marks_L0 n) (ref15_Marks_L0_L2 ROUNDS)
noncomputable def ref15_Marks_L0.get (F : Tc0 → Int → Int → (List Int) → ((List Int) → Option Bool) → Option Bool) (e : Option Bool) (st : St) (k : KE) : Option Bool := match st with
  | ⟨sl, hp, m⟩ => match Nat.beq m 2, pickS 38 [0, 1, 5, 6] sl, hp with
    | true, some [(.bv 0 51 (.st [(.int .i64), (.int .i64), .bool]) ts210), (.d ⟨(.int .i64), n211⟩), (.ref [1, 0]), (.d ⟨(.int .i64), n212⟩)], [([1, 0], ⟨3, 1, (.data (.int .i64) ns213)⟩)] => F ts210 n211 n212 ns213 (fun y0 => k (.exit 0) ⟨fillS 38 [5] [(.ref [1, 0])], [([1, 0], ⟨3, 1, (.data (.int .i64) y0)⟩)], 2⟩)
    | _, _, _ => e
noncomputable def ref15_Marks_L0.calls : RecF := fun g a h k => none
noncomputable def ref15_Marks_L0.loops (L0 : Tc0 → Int → Int → Int → Int → (List Int) → (Tc0 → Int → Int → Int → (List Int) → Option Bool) → Option Bool) : LoopF := fun b => match Nat.beq b 2 with | true => some (fun st k => (ref15_Marks_L0_L2.get L0 none st k)) | false => none
set_option maxRecDepth 100000 in
theorem ref15_Marks_L0.step (S : Tc0 → Int → Int → (List Int) → ((List Int) → Option Bool) → Option Bool) (L0 : Tc0 → Int → Int → Int → Int → (List Int) → (Tc0 → Int → Int → Int → (List Int) → Option Bool) → Option Bool) (ts210 : Tc0) (n211 : Int) (n212 : Int) (ns213 : List Int) (k : KE) : execL Try.prog ht 14 (callfOf (ref15_Marks_L0.calls)) (ref15_Marks_L0.loops L0) 0 (loopAt 0 (codeOf Try.f14)) ⟨fillS 38 [0, 1, 5, 6] [(.bv 0 51 (.st [(.int .i64), (.int .i64), .bool]) ts210), (.d ⟨(.int .i64), n211⟩), (.ref [1, 0]), (.d ⟨(.int .i64), n212⟩)], [([1, 0], ⟨3, 1, (.data (.int .i64) ns213)⟩)], 2⟩ (again (ref15_Marks_L0.get S none) (plan Try.prog (ht 14 0)) k) = ref15_Marks_L0.body S L0 ts210 n211 n212 ns213 (fun y0 => k (.exit 0) ⟨fillS 38 [5] [(.ref [1, 0])], [([1, 0], ⟨3, 1, (.data (.int .i64) y0)⟩)], 2⟩) := by kernel_rfl
theorem ref15_Marks_L0.ok (d : Nat) (hd : 0 ≤ d) : ∀ n st k, ref15_Marks_L0.get (ref15_Marks_L0 n) none st k = some true → iter n (plan Try.prog (ht 14 0)) (fun st k => execK Try.prog ht 14 (callfOf (callK Try.prog ht d)) 0 (loopAt 0 (codeOf Try.f14)) st k) st k = some true :=
  loop_ok (lfn := fun n st k => ref15_Marks_L0.get (ref15_Marks_L0 n) none st k) (rec := ref15_Marks_L0.calls) (fun g a h k hx => by
    cases hx) (loopf := ref15_Marks_L0.loops (ref15_Marks_L0_L2 ROUNDS)) (by
    have e : loopsOf (ref15_Marks_L0.loops (ref15_Marks_L0_L2 ROUNDS)) 0 (loopAt 0 (codeOf Try.f14)) = [(2, loopAt 2 (codeOf Try.f14))] := by kernel_rfl
    rw [e]
    intro p hp
    simp only [List.mem_cons, List.not_mem_nil, or_false] at hp
    rcases hp with rfl
    · refine loopRef_of (callf := callfOf (callK Try.prog ht d)) (callfOf_ref (callK_mono d)) fun lf st k hb hx => ?_
      cases hb
      rcases ref15_Marks_L0_L2.look hx with hx | hx
      rotate_left
      · exact ref15_Marks_L0_L2.ok d (by omega) _ _ _ hx
      cases hx) (fun st k h => by
    obtain ⟨sl, hp, m⟩ := st
    unfold ref15_Marks_L0.get at h
    dsimp only at h
    split at h
    · have h' : (none : Option Bool) = some true := h
      cases h'
    · cases h) (fun n st k h => by
    obtain ⟨sl, hp, m⟩ := st
    unfold ref15_Marks_L0.get at h
    dsimp only at h
    split at h
    · rename_i h1 h2
      obtain rfl := pickS_ok h2
      obtain rfl := Nat.eq_of_beq_eq_true h1
      exact (ref15_Marks_L0.step (ref15_Marks_L0 n) (ref15_Marks_L0_L2 ROUNDS) _ _ _ _ k).trans h
    · cases h)
theorem ref15_Marks_L0.look {F : Tc0 → Int → Int → (List Int) → ((List Int) → Option Bool) → Option Bool} {e : Option Bool} {st : St} {k : KE} (hx : ref15_Marks_L0.get F e st k = some true) : e = some true ∨ ref15_Marks_L0.get F none st k = some true := by
  obtain ⟨sl, hp, m⟩ := st
  unfold ref15_Marks_L0.get at hx ⊢
  dsimp only at hx ⊢
  split at hx
  · exact .inr hx
  · exact .inl hx
/-- function 14: sheerleg/sheerlegref15.Marks -/
noncomputable def ref15_Marks.body (ref15_Marks_L0 : Tc0 → Int → Int → (List Int) → ((List Int) → Option Bool) → Option Bool) (ts208 : Tc0) (n209 : Int) (k1 : (List Int) → Option Bool) : Option Bool :=
  (ref15_Marks_L0 ts208 n209 (0 : Int) []
  (fun ns225 => (k1 ns225)))
noncomputable def ref15_Marks (ts208 : Tc0) (n209 : Int) (k1 : (List Int) → Option Bool) : Option Bool := ref15_Marks.body (ref15_Marks_L0 ROUNDS) ts208 n209 k1
noncomputable def ref15_Marks.get (F : Tc0 → Int → ((List Int) → Option Bool) → Option Bool) (e : Option Bool) (g : FuncId) (a : List AV) (h : Heap) (k : KR) : Option Bool := match g, a, h with
  | 14, [(.bv 0 51 (.st [(.int .i64), (.int .i64), .bool]) ts208), (.d ⟨(.int .i64), n209⟩)], [] => F ts208 n209 (fun y0 => k (.ref [1, 0]) [([1, 0], ⟨3, 1, (.data (.int .i64) y0)⟩)])
  | _, _, _ => e
noncomputable def ref15_Marks.calls : RecF := fun g a h k => none
noncomputable def ref15_Marks.loops (L0 : Tc0 → Int → Int → (List Int) → ((List Int) → Option Bool) → Option Bool) : LoopF := fun b => match Nat.beq b 0 with | true => some (fun st k => (ref15_Marks_L0.get L0 none st k)) | false => none
set_option maxRecDepth 100000 in
theorem ref15_Marks.eq (L0 : Tc0 → Int → Int → (List Int) → ((List Int) → Option Bool) → Option Bool) (ts208 : Tc0) (n209 : Int) (k : KR) : execL Try.prog ht 14 (callfOf (ref15_Marks.calls)) (ref15_Marks.loops L0) 0 (codeOf Try.f14) ⟨[(.bv 0 51 (.st [(.int .i64), (.int .i64), .bool]) ts208), (.d ⟨(.int .i64), n209⟩)] ++ List.replicate (Try.f14.ntmps - ([(.bv 0 51 (.st [(.int .i64), (.int .i64), .bool]) ts208), (.d ⟨(.int .i64), n209⟩)] : List AV).length) .undef, [], 2⟩ (leave Try.prog Try.f14 k) = ref15_Marks.body L0 ts208 n209 (fun y0 => k (.ref [1, 0]) [([1, 0], ⟨3, 1, (.data (.int .i64) y0)⟩)]) := by kernel_rfl
theorem ref15_Marks.ok (d : Nat) (hd : 1 ≤ d) (ts208 : Tc0) (n209 : Int) (k : KR) (hx : ref15_Marks ts208 n209 (fun y0 => k (.ref [1, 0]) [([1, 0], ⟨3, 1, (.data (.int .i64) y0)⟩)]) = some true) : callK Try.prog ht d 14 [(.bv 0 51 (.st [(.int .i64), (.int .i64), .bool]) ts208), (.d ⟨(.int .i64), n209⟩)] [] k = some true := by
  obtain ⟨d, rfl⟩ : ∃ e, d = e + 1 := ⟨d - 1, by omega⟩
  exact fn_ok (c := codeOf Try.f14) Try.func14 (by kernel_rfl) (rec := ref15_Marks.calls) (fun g a h k hx => by
    cases hx) (loopf := ref15_Marks.loops (ref15_Marks_L0 ROUNDS)) (by
    have e : loopsOf (ref15_Marks.loops (ref15_Marks_L0 ROUNDS)) 0 (codeOf Try.f14) = [(0, loopAt 0 (codeOf Try.f14))] := by kernel_rfl
    rw [e]
    intro p hp
    simp only [List.mem_cons, List.not_mem_nil, or_false] at hp
    rcases hp with rfl
    · refine loopRef_of (callf := callfOf (callK Try.prog ht d)) (callfOf_ref (callK_mono d)) fun lf st k hb hx => ?_
      cases hb
      rcases ref15_Marks_L0.look hx with hx | hx
      rotate_left
      · exact ref15_Marks_L0.ok d (by omega) _ _ _ hx
      cases hx) ((ref15_Marks.eq (ref15_Marks_L0 ROUNDS) ts208 n209 k).trans hx)
theorem ref15_Marks.look (d : Nat) (hd : 1 ≤ d) {e : Option Bool} {g : FuncId} {a : List AV} {h : Heap} {k : KR} (hx : ref15_Marks.get ref15_Marks e g a h k = some true) : e = some true ∨ callK Try.prog ht d g a h k = some true := by
  unfold ref15_Marks.get at hx
  split at hx
  · exact .inr (ref15_Marks.ok d hd _ _ _ hx)
  · exact .inl hx
/-- function 12: the loop in block 0 -/
noncomputable def ref15_Refs_L0.body (ref15_Refs_L0 : Int → Tc4 → (List Int) → ((List Int) → Option Bool) → Option Bool) (n227 : Int) (t228 : Tc4) (ns229 : List Int) (k1 : (List Int) → Option Bool) : Option Bool :=
  (cond_ (decide (n227 < (((List.length ns229) : Nat) : Int))) (cond_ ((decide ((0 : Int) ≤ n227)) && (decide (n227 < (((List.length ns229) : Nat) : Int)))) (cond_ (decide ((List.getD ns229 (Int.toNat n227) (0 : Int)) ≥ (0 : Int))) (cond_ ((decide ((0 : Int) ≤ n227)) && (decide (n227 < (((List.length ns229) : Nat) : Int)))) (cond_ ((decide ((0 : Int) ≤ (List.getD ns229 (Int.toNat n227) (0 : Int)))) && (decide ((List.getD ns229 (Int.toNat n227) (0 : Int)) < (((List.length t228.2.2.1) : Nat) : Int)))) (cond_ ((decide ((0 : Int) ≤ n227)) && (decide (n227 < (((List.length ns229) : Nat) : Int)))) (ref15_Refs_L0 (IntKind.wrap .i64 (n227 + (1 : Int))) t228 (List.set ns229 (Int.toNat n227) (List.getD t228.2.2.1 (Int.toNat (List.getD ns229 (Int.toNat n227) (0 : Int))) ((0 : Int), ((0 : Int), (false, ())))).2.1) k1) none) none) none) (ref15_Refs_L0 (IntKind.wrap .i64 (n227 + (1 : Int))) t228 ns229 k1)) none) (k1 ns229))
noncomputable def ref15_Refs_L0 : Nat → Int → Tc4 → (List Int) → ((List Int) → Option Bool) → Option Bool
  | 0 => fun _ _ _ _ => none
  | n + 1 => ref15_Refs_L0.body (ref15_Refs_L0 n)
noncomputable def ref15_Refs_L0.get (F : Int → Tc4 → (List Int) → ((List Int) → Option Bool) → Option Bool) (e : Option Bool) (st : St) (k : KE) : Option Bool := match st with
  | ⟨sl, hp, m⟩ => match Nat.beq m 2, pickS 35 [1, 3, 4] sl, hp with
    | true, some [(.ptr [1, 0] 0 0), (.ref [1, 1]), (.d ⟨(.int .i64), n227⟩)], [([1, 0], ⟨25, 3, (.data (.st [(.int .i64), (.sl 2 (.int .i64)), (.sl 51 (.st [(.int .i64), (.int .i64), .bool]))]) [t228])⟩), ([1, 1], ⟨3, 1, (.data (.int .i64) ns229)⟩)] => F n227 t228 ns229 (fun y0 => k (.exit 0) ⟨fillS 35 [3] [(.ref [1, 0])], [([1, 0], ⟨3, 1, (.data (.int .i64) y0)⟩)], 2⟩)
    | _, _, _ => e
noncomputable def ref15_Refs_L0.calls : RecF := fun g a h k => none
noncomputable def ref15_Refs_L0.loops : LoopF := fun b => none
set_option maxRecDepth 100000 in
theorem ref15_Refs_L0.step (S : Int → Tc4 → (List Int) → ((List Int) → Option Bool) → Option Bool) (n227 : Int) (t228 : Tc4) (ns229 : List Int) (k : KE) : execL Try.prog ht 12 (callfOf (ref15_Refs_L0.calls)) (ref15_Refs_L0.loops) 0 (loopAt 0 (codeOf Try.f12)) ⟨fillS 35 [1, 3, 4] [(.ptr [1, 0] 0 0), (.ref [1, 1]), (.d ⟨(.int .i64), n227⟩)], [([1, 0], ⟨25, 3, (.data (.st [(.int .i64), (.sl 2 (.int .i64)), (.sl 51 (.st [(.int .i64), (.int .i64), .bool]))]) [t228])⟩), ([1, 1], ⟨3, 1, (.data (.int .i64) ns229)⟩)], 2⟩ (again (ref15_Refs_L0.get S none) (plan Try.prog (ht 12 0)) k) = ref15_Refs_L0.body S n227 t228 ns229 (fun y0 => k (.exit 0) ⟨fillS 35 [3] [(.ref [1, 0])], [([1, 0], ⟨3, 1, (.data (.int .i64) y0)⟩)], 2⟩) := by kernel_rfl
theorem ref15_Refs_L0.ok (d : Nat) (hd : 0 ≤ d) : ∀ n st k, ref15_Refs_L0.get (ref15_Refs_L0 n) none st k = some true → iter n (plan Try.prog (ht 12 0)) (fun st k => execK Try.prog ht 12 (callfOf (callK Try.prog ht d)) 0 (loopAt 0 (codeOf Try.f12)) st k) st k = some true :=
  loop_ok (lfn := fun n st k => ref15_Refs_L0.get (ref15_Refs_L0 n) none st k) (rec := ref15_Refs_L0.calls) (fun g a h k hx => by
    cases hx) (loopf := ref15_Refs_L0.loops) (by
    have e : loopsOf (ref15_Refs_L0.loops) 0 (loopAt 0 (codeOf Try.f12)) = [] := by kernel_rfl
    rw [e]
    intro p hp
    cases hp) (fun st k h => by
    obtain ⟨sl, hp, m⟩ := st
    unfold ref15_Refs_L0.get at h
    dsimp only at h
    split at h
    · have h' : (none : Option Bool) = some true := h
      cases h'
    · cases h) (fun n st k h => by
    obtain ⟨sl, hp, m⟩ := st
    unfold ref15_Refs_L0.get at h
    dsimp only at h
    split at h
    · rename_i h1 h2
      obtain rfl := pickS_ok h2
      obtain rfl := Nat.eq_of_beq_eq_true h1
      exact (ref15_Refs_L0.step (ref15_Refs_L0 n) _ _ _ k).trans h
    · cases h)
theorem ref15_Refs_L0.look {F : Int → Tc4 → (List Int) → ((List Int) → Option Bool) → Option Bool} {e : Option Bool} {st : St} {k : KE} (hx : ref15_Refs_L0.get F e st k = some true) : e = some true ∨ ref15_Refs_L0.get F none st k = some true := by
  obtain ⟨sl, hp, m⟩ := st
  unfold ref15_Refs_L0.get at hx ⊢
  dsimp only at hx ⊢
  split at hx
  · exact .inr hx
  · exact .inl hx
/-- function 12: sheerleg/sheerlegref15.Refs -/
noncomputable def ref15_Refs.body (ref15_Marks : Tc0 → Int → ((List Int) → Option Bool) → Option Bool) (ref15_Refs_L0 : Int → Tc4 → (List Int) → ((List Int) → Option Bool) → Option Bool) (t207 : Tc4) (k1 : (List Int) → Option Bool) : Option Bool :=
  (ref15_Marks t207.2.2.1 (((List.length t207.2.1) : Nat) : Int)
  (fun ns226 => (ref15_Refs_L0 (0 : Int) t207 ns226
  (fun ns230 => (k1 ns230)))))
noncomputable def ref15_Refs (t207 : Tc4) (k1 : (List Int) → Option Bool) : Option Bool := ref15_Refs.body ref15_Marks (ref15_Refs_L0 ROUNDS) t207 k1
noncomputable def ref15_Refs.get (F : Tc4 → ((List Int) → Option Bool) → Option Bool) (e : Option Bool) (g : FuncId) (a : List AV) (h : Heap) (k : KR) : Option Bool := match g, a, h with
  | 12, [(.d ⟨(.st [(.int .i64), (.sl 2 (.int .i64)), (.sl 51 (.st [(.int .i64), (.int .i64), .bool]))]), t207⟩)], [] => F t207 (fun y0 => k (.ref [1, 0]) [([1, 0], ⟨3, 1, (.data (.int .i64) y0)⟩)])
  | _, _, _ => e
noncomputable def ref15_Refs.calls (F0 : Tc0 → Int → ((List Int) → Option Bool) → Option Bool) : RecF := fun g a h k => (ref15_Marks.get F0 none g a h k)
noncomputable def ref15_Refs.loops (L0 : Int → Tc4 → (List Int) → ((List Int) → Option Bool) → Option Bool) : LoopF := fun b => match Nat.beq b 0 with | true => some (fun st k => (ref15_Refs_L0.get L0 none st k)) | false => none
set_option maxRecDepth 100000 in
theorem ref15_Refs.eq (F0 : Tc0 → Int → ((List Int) → Option Bool) → Option Bool) (L0 : Int → Tc4 → (List Int) → ((List Int) → Option Bool) → Option Bool) (t207 : Tc4) (k : KR) : execL Try.prog ht 12 (callfOf (ref15_Refs.calls F0)) (ref15_Refs.loops L0) 0 (codeOf Try.f12) ⟨[(.d ⟨(.st [(.int .i64), (.sl 2 (.int .i64)), (.sl 51 (.st [(.int .i64), (.int .i64), .bool]))]), t207⟩)] ++ List.replicate (Try.f12.ntmps - ([(.d ⟨(.st [(.int .i64), (.sl 2 (.int .i64)), (.sl 51 (.st [(.int .i64), (.int .i64), .bool]))]), t207⟩)] : List AV).length) .undef, [], 2⟩ (leave Try.prog Try.f12 k) = ref15_Refs.body F0 L0 t207 (fun y0 => k (.ref [1, 0]) [([1, 0], ⟨3, 1, (.data (.int .i64) y0)⟩)]) := by kernel_rfl
theorem ref15_Refs.ok (d : Nat) (hd : 2 ≤ d) (t207 : Tc4) (k : KR) (hx : ref15_Refs t207 (fun y0 => k (.ref [1, 0]) [([1, 0], ⟨3, 1, (.data (.int .i64) y0)⟩)]) = some true) : callK Try.prog ht d 12 [(.d ⟨(.st [(.int .i64), (.sl 2 (.int .i64)), (.sl 51 (.st [(.int .i64), (.int .i64), .bool]))]), t207⟩)] [] k = some true := by
  obtain ⟨d, rfl⟩ : ∃ e, d = e + 1 := ⟨d - 1, by omega⟩
  exact fn_ok (c := codeOf Try.f12) Try.func12 (by kernel_rfl) (rec := ref15_Refs.calls ref15_Marks) (fun g a h k hx => by
    rcases ref15_Marks.look d (by omega) hx with hx | hx
    rotate_left
    · exact hx
    cases hx) (loopf := ref15_Refs.loops (ref15_Refs_L0 ROUNDS)) (by
    have e : loopsOf (ref15_Refs.loops (ref15_Refs_L0 ROUNDS)) 0 (codeOf Try.f12) = [(0, loopAt 0 (codeOf Try.f12))] := by kernel_rfl
    rw [e]
    intro p hp
    simp only [List.mem_cons, List.not_mem_nil, or_false] at hp
    rcases hp with rfl
    · refine loopRef_of (callf := callfOf (callK Try.prog ht d)) (callfOf_ref (callK_mono d)) fun lf st k hb hx => ?_
      cases hb
      rcases ref15_Refs_L0.look hx with hx | hx
      rotate_left
      · exact ref15_Refs_L0.ok d (by omega) _ _ _ hx
      cases hx) ((ref15_Refs.eq ref15_Marks (ref15_Refs_L0 ROUNDS) t207 k).trans hx)
theorem ref15_Refs.look (d : Nat) (hd : 2 ≤ d) {e : Option Bool} {g : FuncId} {a : List AV} {h : Heap} {k : KR} (hx : ref15_Refs.get ref15_Refs e g a h k = some true) : e = some true ∨ callK Try.prog ht d g a h k = some true := by
  unfold ref15_Refs.get at hx
  split at hx
  · exact .inr (ref15_Refs.ok d hd _ _ hx)
  · exact .inl hx
/-- function 10: the loop in block 0 -/
noncomputable def ref01_Ints_L0.body (ref01_Ints_L0 : (List Int) → (List Int) → Int → (Bool → Option Bool) → (Option Bool) → Option Bool) (ns234 : List Int) (ns235 : List Int) (n236 : Int) (k1 : Bool → Option Bool) (k2 : Option Bool) : Option Bool :=
  (cond_ (decide (n236 < (((List.length ns234) : Nat) : Int))) (cond_ ((decide ((0 : Int) ≤ n236)) && (decide (n236 < (((List.length ns234) : Nat) : Int)))) (cond_ ((decide ((0 : Int) ≤ n236)) && (decide (n236 < (((List.length ns235) : Nat) : Int)))) (cond_ ((List.getD ns234 (Int.toNat n236) (0 : Int)) != (List.getD ns235 (Int.toNat n236) (0 : Int))) (k1 false) (ref01_Ints_L0 ns234 ns235 (IntKind.wrap .i64 (n236 + (1 : Int))) k1 k2)) none) none) (k2))
noncomputable def ref01_Ints_L0 : Nat → (List Int) → (List Int) → Int → (Bool → Option Bool) → (Option Bool) → Option Bool
  | 0 => fun _ _ _ _ _ => none
  | n + 1 => ref01_Ints_L0.body (ref01_Ints_L0 n)
noncomputable def ref01_Ints_L0.get (F : (List Int) → (List Int) → Int → (Bool → Option Bool) → (Option Bool) → Option Bool) (e : Option Bool) (st : St) (k : KE) : Option Bool := match st with
  | ⟨sl, hp, m⟩ => match Nat.beq m 2, pickS 26 [0, 1, 5] sl, hp with
    | true, some [(.bv 1 3 (.int .i64) ns234), (.bv 2 3 (.int .i64) ns235), (.d ⟨(.int .i64), n236⟩)], [] => F ns234 ns235 n236 (fun y0 => k .ret ⟨fillS 26 [4] [(.d ⟨.bool, y0⟩)], [], 2⟩) (k (.exit 0) ⟨fillS 26 [] [], [], 2⟩)
    | _, _, _ => e
noncomputable def ref01_Ints_L0.calls : RecF := fun g a h k => none
noncomputable def ref01_Ints_L0.loops : LoopF := fun b => none
set_option maxRecDepth 100000 in
theorem ref01_Ints_L0.step (S : (List Int) → (List Int) → Int → (Bool → Option Bool) → (Option Bool) → Option Bool) (ns234 : List Int) (ns235 : List Int) (n236 : Int) (k : KE) : execL Try.prog ht 10 (callfOf (ref01_Ints_L0.calls)) (ref01_Ints_L0.loops) 0 (loopAt 0 (codeOf Try.f10)) ⟨fillS 26 [0, 1, 5] [(.bv 1 3 (.int .i64) ns234), (.bv 2 3 (.int .i64) ns235), (.d ⟨(.int .i64), n236⟩)], [], 2⟩ (again (ref01_Ints_L0.get S none) (plan Try.prog (ht 10 0)) k) = ref01_Ints_L0.body S ns234 ns235 n236 (fun y0 => k .ret ⟨fillS 26 [4] [(.d ⟨.bool, y0⟩)], [], 2⟩) (k (.exit 0) ⟨fillS 26 [] [], [], 2⟩) := by kernel_rfl
theorem ref01_Ints_L0.ok (d : Nat) (hd : 0 ≤ d) : ∀ n st k, ref01_Ints_L0.get (ref01_Ints_L0 n) none st k = some true → iter n (plan Try.prog (ht 10 0)) (fun st k => execK Try.prog ht 10 (callfOf (callK Try.prog ht d)) 0 (loopAt 0 (codeOf Try.f10)) st k) st k = some true :=
  loop_ok (lfn := fun n st k => ref01_Ints_L0.get (ref01_Ints_L0 n) none st k) (rec := ref01_Ints_L0.calls) (fun g a h k hx => by
    cases hx) (loopf := ref01_Ints_L0.loops) (by
    have e : loopsOf (ref01_Ints_L0.loops) 0 (loopAt 0 (codeOf Try.f10)) = [] := by kernel_rfl
    rw [e]
    intro p hp
    cases hp) (fun st k h => by
    obtain ⟨sl, hp, m⟩ := st
    unfold ref01_Ints_L0.get at h
    dsimp only at h
    split at h
    · have h' : (none : Option Bool) = some true := h
      cases h'
    · cases h) (fun n st k h => by
    obtain ⟨sl, hp, m⟩ := st
    unfold ref01_Ints_L0.get at h
    dsimp only at h
    split at h
    · rename_i h1 h2
      obtain rfl := pickS_ok h2
      obtain rfl := Nat.eq_of_beq_eq_true h1
      exact (ref01_Ints_L0.step (ref01_Ints_L0 n) _ _ _ k).trans h
    · cases h)
theorem ref01_Ints_L0.look {F : (List Int) → (List Int) → Int → (Bool → Option Bool) → (Option Bool) → Option Bool} {e : Option Bool} {st : St} {k : KE} (hx : ref01_Ints_L0.get F e st k = some true) : e = some true ∨ ref01_Ints_L0.get F none st k = some true := by
  obtain ⟨sl, hp, m⟩ := st
  unfold ref01_Ints_L0.get at hx ⊢
  dsimp only at hx ⊢
  split at hx
  · exact .inr hx
  · exact .inl hx
/-- function 10: sheerleg/sheerlegref01.Ints -/
noncomputable def ref01_Ints.body (ref01_Ints_L0 : (List Int) → (List Int) → Int → (Bool → Option Bool) → (Option Bool) → Option Bool) (ns232 : List Int) (ns233 : List Int) (k1 : Bool → Option Bool) : Option Bool :=
  (cond_ ((((List.length ns232) : Nat) : Int) != (((List.length ns233) : Nat) : Int)) (k1 false) (ref01_Ints_L0 ns232 ns233 (0 : Int)
  (fun b237 => (k1 b237))
  (k1 true)))
noncomputable def ref01_Ints (ns232 : List Int) (ns233 : List Int) (k1 : Bool → Option Bool) : Option Bool := ref01_Ints.body (ref01_Ints_L0 ROUNDS) ns232 ns233 k1
noncomputable def ref01_Ints.get (F : (List Int) → (List Int) → (Bool → Option Bool) → Option Bool) (e : Option Bool) (g : FuncId) (a : List AV) (h : Heap) (k : KR) : Option Bool := match g, a, h with
  | 10, [(.bv 1 3 (.int .i64) ns232), (.bv 2 3 (.int .i64) ns233)], [] => F ns232 ns233 (fun y0 => k (.d ⟨.bool, y0⟩) [])
  | _, _, _ => e
noncomputable def ref01_Ints.calls : RecF := fun g a h k => none
noncomputable def ref01_Ints.loops (L0 : (List Int) → (List Int) → Int → (Bool → Option Bool) → (Option Bool) → Option Bool) : LoopF := fun b => match Nat.beq b 0 with | true => some (fun st k => (ref01_Ints_L0.get L0 none st k)) | false => none
set_option maxRecDepth 100000 in
theorem ref01_Ints.eq (L0 : (List Int) → (List Int) → Int → (Bool → Option Bool) → (Option Bool) → Option Bool) (ns232 : List Int) (ns233 : List Int) (k : KR) : execL Try.prog ht 10 (callfOf (ref01_Ints.calls)) (ref01_Ints.loops L0) 0 (codeOf Try.f10) ⟨[(.bv 1 3 (.int .i64) ns232), (.bv 2 3 (.int .i64) ns233)] ++ List.replicate (Try.f10.ntmps - ([(.bv 1 3 (.int .i64) ns232), (.bv 2 3 (.int .i64) ns233)] : List AV).length) .undef, [], 2⟩ (leave Try.prog Try.f10 k) = ref01_Ints.body L0 ns232 ns233 (fun y0 => k (.d ⟨.bool, y0⟩) []) := by kernel_rfl
theorem ref01_Ints.ok (d : Nat) (hd : 1 ≤ d) (ns232 : List Int) (ns233 : List Int) (k : KR) (hx : ref01_Ints ns232 ns233 (fun y0 => k (.d ⟨.bool, y0⟩) []) = some true) : callK Try.prog ht d 10 [(.bv 1 3 (.int .i64) ns232), (.bv 2 3 (.int .i64) ns233)] [] k = some true := by
  obtain ⟨d, rfl⟩ : ∃ e, d = e + 1 := ⟨d - 1, by omega⟩
  exact fn_ok (c := codeOf Try.f10) Try.func10 (by kernel_rfl) (rec := ref01_Ints.calls) (fun g a h k hx => by
    cases hx) (loopf := ref01_Ints.loops (ref01_Ints_L0 ROUNDS)) (by
    have e : loopsOf (ref01_Ints.loops (ref01_Ints_L0 ROUNDS)) 0 (codeOf Try.f10) = [(0, loopAt 0 (codeOf Try.f10))] := by kernel_rfl
    rw [e]
    intro p hp
    simp only [List.mem_cons, List.not_mem_nil, or_false] at hp
    rcases hp with rfl
    · refine loopRef_of (callf := callfOf (callK Try.prog ht d)) (callfOf_ref (callK_mono d)) fun lf st k hb hx => ?_
      cases hb
      rcases ref01_Ints_L0.look hx with hx | hx
      rotate_left
      · exact ref01_Ints_L0.ok d (by omega) _ _ _ hx
      cases hx) ((ref01_Ints.eq (ref01_Ints_L0 ROUNDS) ns232 ns233 k).trans hx)
theorem ref01_Ints.look (d : Nat) (hd : 1 ≤ d) {e : Option Bool} {g : FuncId} {a : List AV} {h : Heap} {k : KR} (hx : ref01_Ints.get ref01_Ints e g a h k = some true) : e = some true ∨ callK Try.prog ht d g a h k = some true := by
  unfold ref01_Ints.get at hx
  split at hx
  · exact .inr (ref01_Ints.ok d hd _ _ _ hx)
  · exact .inl hx
/-- function 3: sheerleg/sheerleglaw15.DataChecks -/
noncomputable def law15_DataChecks.body (ref15_Few : Tc4 → (Bool → Option Bool) → Option Bool) (law15_known : (Bool → Option Bool) → Option Bool) (data_Check : Tc4 → Tc3 → (Int → Option Bool) → Option Bool) (ref15_Check : Tc4 → Tc3 → (Int → Option Bool) → Option Bool) (data_Refs : Tc4 → ((List Int) → Option Bool) → Option Bool) (ref15_Refs : Tc4 → ((List Int) → Option Bool) → Option Bool) (ref01_Ints : (List Int) → (List Int) → (Bool → Option Bool) → Option Bool) (data_Marks : Tc0 → Int → ((List Int) → Option Bool) → Option Bool) (ref15_Marks : Tc0 → Int → ((List Int) → Option Bool) → Option Bool) (t199 : Tc4) (ts200 : Tc3) (n201 : Int) (k1 : Bool → Option Bool) : Option Bool :=
  (ref15_Few t199
  (fun b202 => (cond_ (! (! b202)) (cond_ (decide ((((List.length ts200) : Nat) : Int) > (60 : Int))) (law15_known
  (fun b203 => (k1 b203))) (data_Check t199 ts200
  (fun n204 => (ref15_Check t199 ts200
  (fun n205 => (cond_ (n204 == n205) (data_Refs t199
  (fun ns206 => (ref15_Refs t199
  (fun ns231 => (ref01_Ints ns206 ns231
  (fun b238 => (cond_ b238 (data_Marks t199.2.2.1 n201
  (fun ns239 => (ref15_Marks t199.2.2.1 n201
  (fun ns240 => (ref01_Ints ns239 ns240
  (fun b241 => (cond_ b241 (law15_known
  (fun b242 => (k1 b242))) (k1 false)))))))) (k1 false)))))))) (k1 false))))))) (law15_known
  (fun b243 => (k1 b243))))))
noncomputable def law15_DataChecks (t199 : Tc4) (ts200 : Tc3) (n201 : Int) (k1 : Bool → Option Bool) : Option Bool := law15_DataChecks.body ref15_Few law15_known data_Check ref15_Check data_Refs ref15_Refs ref01_Ints data_Marks ref15_Marks t199 ts200 n201 k1
noncomputable def law15_DataChecks.get (F : Tc4 → Tc3 → Int → (Bool → Option Bool) → Option Bool) (e : Option Bool) (g : FuncId) (a : List AV) (h : Heap) (k : KR) : Option Bool := match g, a, h with
  | 3, [(.d ⟨(.st [(.int .i64), (.sl 2 (.int .i64)), (.sl 51 (.st [(.int .i64), (.int .i64), .bool]))]), t199⟩), (.bv 0 53 (.st [.str, .bool, (.int .i64), (.int .i64), (.int .i64)]) ts200), (.d ⟨(.int .i64), n201⟩)], [] => F t199 ts200 n201 (fun y0 => k (.d ⟨.bool, y0⟩) [])
  | _, _, _ => e
noncomputable def law15_DataChecks.calls (F0 : Tc4 → (Bool → Option Bool) → Option Bool) (F1 : (Bool → Option Bool) → Option Bool) (F2 : Tc4 → Tc3 → (Int → Option Bool) → Option Bool) (F3 : Tc4 → Tc3 → (Int → Option Bool) → Option Bool) (F4 : Tc4 → ((List Int) → Option Bool) → Option Bool) (F5 : Tc4 → ((List Int) → Option Bool) → Option Bool) (F6 : (List Int) → (List Int) → (Bool → Option Bool) → Option Bool) (F7 : Tc0 → Int → ((List Int) → Option Bool) → Option Bool) (F8 : Tc0 → Int → ((List Int) → Option Bool) → Option Bool) : RecF := fun g a h k => (ref15_Few.get F0 (law15_known.get F1 (data_Check.get F2 (ref15_Check.get F3 (data_Refs.get F4 (ref15_Refs.get F5 (ref01_Ints.get F6 (data_Marks.get F7 (ref15_Marks.get F8 none g a h k) g a h k) g a h k) g a h k) g a h k) g a h k) g a h k) g a h k) g a h k)
noncomputable def law15_DataChecks.loops : LoopF := fun b => none
set_option maxRecDepth 100000 in
theorem law15_DataChecks.eq (F0 : Tc4 → (Bool → Option Bool) → Option Bool) (F1 : (Bool → Option Bool) → Option Bool) (F2 : Tc4 → Tc3 → (Int → Option Bool) → Option Bool) (F3 : Tc4 → Tc3 → (Int → Option Bool) → Option Bool) (F4 : Tc4 → ((List Int) → Option Bool) → Option Bool) (F5 : Tc4 → ((List Int) → Option Bool) → Option Bool) (F6 : (List Int) → (List Int) → (Bool → Option Bool) → Option Bool) (F7 : Tc0 → Int → ((List Int) → Option Bool) → Option Bool) (F8 : Tc0 → Int → ((List Int) → Option Bool) → Option Bool) (t199 : Tc4) (ts200 : Tc3) (n201 : Int) (k : KR) : execL Try.prog ht 3 (callfOf (law15_DataChecks.calls F0 F1 F2 F3 F4 F5 F6 F7 F8)) (law15_DataChecks.loops) 0 (codeOf Try.f3) ⟨[(.d ⟨(.st [(.int .i64), (.sl 2 (.int .i64)), (.sl 51 (.st [(.int .i64), (.int .i64), .bool]))]), t199⟩), (.bv 0 53 (.st [.str, .bool, (.int .i64), (.int .i64), (.int .i64)]) ts200), (.d ⟨(.int .i64), n201⟩)] ++ List.replicate (Try.f3.ntmps - ([(.d ⟨(.st [(.int .i64), (.sl 2 (.int .i64)), (.sl 51 (.st [(.int .i64), (.int .i64), .bool]))]), t199⟩), (.bv 0 53 (.st [.str, .bool, (.int .i64), (.int .i64), (.int .i64)]) ts200), (.d ⟨(.int .i64), n201⟩)] : List AV).length) .undef, [], 2⟩ (leave Try.prog Try.f3 k) = law15_DataChecks.body F0 F1 F2 F3 F4 F5 F6 F7 F8 t199 ts200 n201 (fun y0 => k (.d ⟨.bool, y0⟩) []) := by kernel_rfl
theorem law15_DataChecks.ok (d : Nat) (hd : 61 ≤ d) (t199 : Tc4) (ts200 : Tc3) (n201 : Int) (k : KR) (hx : law15_DataChecks t199 ts200 n201 (fun y0 => k (.d ⟨.bool, y0⟩) []) = some true) : callK Try.prog ht d 3 [(.d ⟨(.st [(.int .i64), (.sl 2 (.int .i64)), (.sl 51 (.st [(.int .i64), (.int .i64), .bool]))]), t199⟩), (.bv 0 53 (.st [.str, .bool, (.int .i64), (.int .i64), (.int .i64)]) ts200), (.d ⟨(.int .i64), n201⟩)] [] k = some true := by
  obtain ⟨d, rfl⟩ : ∃ e, d = e + 1 := ⟨d - 1, by omega⟩
  exact fn_ok (c := codeOf Try.f3) Try.func3 (by kernel_rfl) (rec := law15_DataChecks.calls ref15_Few law15_known data_Check ref15_Check data_Refs ref15_Refs ref01_Ints data_Marks ref15_Marks) (fun g a h k hx => by
    rcases ref15_Few.look d (by omega) hx with hx | hx
    rotate_left
    · exact hx
    rcases law15_known.look d (by omega) hx with hx | hx
    rotate_left
    · exact hx
    rcases data_Check.look d (by omega) hx with hx | hx
    rotate_left
    · exact hx
    rcases ref15_Check.look d (by omega) hx with hx | hx
    rotate_left
    · exact hx
    rcases data_Refs.look d (by omega) hx with hx | hx
    rotate_left
    · exact hx
    rcases ref15_Refs.look d (by omega) hx with hx | hx
    rotate_left
    · exact hx
    rcases ref01_Ints.look d (by omega) hx with hx | hx
    rotate_left
    · exact hx
    rcases data_Marks.look d (by omega) hx with hx | hx
    rotate_left
    · exact hx
    rcases ref15_Marks.look d (by omega) hx with hx | hx
    rotate_left
    · exact hx
    cases hx) (loopf := law15_DataChecks.loops) (by
    have e : loopsOf (law15_DataChecks.loops) 0 (codeOf Try.f3) = [] := by kernel_rfl
    rw [e]
    intro p hp
    cases hp) ((law15_DataChecks.eq ref15_Few law15_known data_Check ref15_Check data_Refs ref15_Refs ref01_Ints data_Marks ref15_Marks t199 ts200 n201 k).trans hx)
theorem law15_DataChecks.look (d : Nat) (hd : 61 ≤ d) {e : Option Bool} {g : FuncId} {a : List AV} {h : Heap} {k : KR} (hx : law15_DataChecks.get law15_DataChecks e g a h k = some true) : e = some true ∨ callK Try.prog ht d g a h k = some true := by
  unfold law15_DataChecks.get at hx
  split at hx
  · exact .inr (law15_DataChecks.ok d hd _ _ _ _ hx)
  · exact .inl hx
/-- function 30: sheerleg/data.flag -/
noncomputable def data_flag.body (b319 : Bool) (k1 : Int → Option Bool) : Option Bool :=
  (cond_ b319 (k1 (1 : Int)) (k1 (0 : Int)))
noncomputable def data_flag (b319 : Bool) (k1 : Int → Option Bool) : Option Bool := data_flag.body b319 k1
noncomputable def data_flag.get (F : Bool → (Int → Option Bool) → Option Bool) (e : Option Bool) (g : FuncId) (a : List AV) (h : Heap) (k : KR) : Option Bool := match g, a, h with
  | 30, [(.d ⟨.bool, b319⟩)], [] => F b319 (fun y0 => k (.d ⟨(.int .i64), y0⟩) [])
  | _, _, _ => e
noncomputable def data_flag.calls : RecF := fun g a h k => none
noncomputable def data_flag.loops : LoopF := fun b => none
set_option maxRecDepth 100000 in
theorem data_flag.eq (b319 : Bool) (k : KR) : execL Try.prog ht 30 (callfOf (data_flag.calls)) (data_flag.loops) 0 (codeOf Try.f30) ⟨[(.d ⟨.bool, b319⟩)] ++ List.replicate (Try.f30.ntmps - ([(.d ⟨.bool, b319⟩)] : List AV).length) .undef, [], 2⟩ (leave Try.prog Try.f30 k) = data_flag.body b319 (fun y0 => k (.d ⟨(.int .i64), y0⟩) []) := by kernel_rfl
theorem data_flag.ok (d : Nat) (hd : 1 ≤ d) (b319 : Bool) (k : KR) (hx : data_flag b319 (fun y0 => k (.d ⟨(.int .i64), y0⟩) []) = some true) : callK Try.prog ht d 30 [(.d ⟨.bool, b319⟩)] [] k = some true := by
  obtain ⟨d, rfl⟩ : ∃ e, d = e + 1 := ⟨d - 1, by omega⟩
  exact fn_ok (c := codeOf Try.f30) Try.func30 (by kernel_rfl) (rec := data_flag.calls) (fun g a h k hx => by
    cases hx) (loopf := data_flag.loops) (by
    have e : loopsOf (data_flag.loops) 0 (codeOf Try.f30) = [] := by kernel_rfl
    rw [e]
    intro p hp
    cases hp) ((data_flag.eq b319 k).trans hx)
theorem data_flag.look (d : Nat) (hd : 1 ≤ d) {e : Option Bool} {g : FuncId} {a : List AV} {h : Heap} {k : KR} (hx : data_flag.get data_flag e g a h k = some true) : e = some true ∨ callK Try.prog ht d g a h k = some true := by
  unfold data_flag.get at hx
  split at hx
  · exact .inr (data_flag.ok d hd _ _ hx)
  · exact .inl hx
/-- function 31: the loop in block 2 -/
noncomputable def ref02_Put_L0_L2.body (ref02_Put_L0_L2 : Int → Int → Int → Int → (List Int) → (Int → Int → Int → (List Int) → Option Bool) → Option Bool) (n332 : Int) (n333 : Int) (n334 : Int) (n335 : Int) (ns336 : List Int) (k1 : Int → Int → Int → (List Int) → Option Bool) : Option Bool :=
  (cond_ (decide (n335 < n333)) (ref02_Put_L0_L2 n332 n333 (IntKind.wrap .u64 (Int.tdiv n334 (256 : Int))) (IntKind.wrap .i64 (n335 + (1 : Int))) ns336 k1) (k1 n332 n333 n334 ns336))
noncomputable def ref02_Put_L0_L2 : Nat → Int → Int → Int → Int → (List Int) → (Int → Int → Int → (List Int) → Option Bool) → Option Bool
  | 0 => fun _ _ _ _ _ _ => none
  | n + 1 => ref02_Put_L0_L2.body (ref02_Put_L0_L2 n)
noncomputable def ref02_Put_L0_L2.get (F : Int → Int → Int → Int → (List Int) → (Int → Int → Int → (List Int) → Option Bool) → Option Bool) (e : Option Bool) (st : St) (k : KE) : Option Bool := match st with
  | ⟨sl, hp, m⟩ => match Nat.beq m 2, pickS 45 [7, 8, 9, 10, 11] sl, hp with
    | true, some [(.ref [1, 0]), (.d ⟨(.int .u64), n332⟩), (.d ⟨(.int .i64), n333⟩), (.d ⟨(.int .u64), n334⟩), (.d ⟨(.int .i64), n335⟩)], [([1, 0], ⟨5, 1, (.data (.int .u8) ns336)⟩)] => F n332 n333 n334 n335 ns336 (fun y0 y1 y2 y3 => k (.exit 2) ⟨fillS 45 [7, 8, 9, 10] [(.ref [1, 0]), (.d ⟨(.int .u64), y0⟩), (.d ⟨(.int .i64), y1⟩), (.d ⟨(.int .u64), y2⟩)], [([1, 0], ⟨5, 1, (.data (.int .u8) y3)⟩)], 2⟩)
    | _, _, _ => e
noncomputable def ref02_Put_L0_L2.calls : RecF := fun g a h k => none
noncomputable def ref02_Put_L0_L2.loops : LoopF := fun b => none
set_option maxRecDepth 100000 in
theorem ref02_Put_L0_L2.step (S : Int → Int → Int → Int → (List Int) → (Int → Int → Int → (List Int) → Option Bool) → Option Bool) (n332 : Int) (n333 : Int) (n334 : Int) (n335 : Int) (ns336 : List Int) (k : KE) : execL Try.prog ht 31 (callfOf (ref02_Put_L0_L2.calls)) (ref02_Put_L0_L2.loops) 2 (loopAt 2 (codeOf Try.f31)) ⟨fillS 45 [7, 8, 9, 10, 11] [(.ref [1, 0]), (.d ⟨(.int .u64), n332⟩), (.d ⟨(.int .i64), n333⟩), (.d ⟨(.int .u64), n334⟩), (.d ⟨(.int .i64), n335⟩)], [([1, 0], ⟨5, 1, (.data (.int .u8) ns336)⟩)], 2⟩ (again (ref02_Put_L0_L2.get S none) (plan Try.prog (ht 31 2)) k) = ref02_Put_L0_L2.body S n332 n333 n334 n335 ns336 (fun y0 y1 y2 y3 => k (.exit 2) ⟨fillS 45 [7, 8, 9, 10] [(.ref [1, 0]), (.d ⟨(.int .u64), y0⟩), (.d ⟨(.int .i64), y1⟩), (.d ⟨(.int .u64), y2⟩)], [([1, 0], ⟨5, 1, (.data (.int .u8) y3)⟩)], 2⟩) := by kernel_rfl
theorem ref02_Put_L0_L2.ok (d : Nat) (hd : 0 ≤ d) : ∀ n st k, ref02_Put_L0_L2.get (ref02_Put_L0_L2 n) none st k = some true → iter n (plan Try.prog (ht 31 2)) (fun st k => execK Try.prog ht 31 (callfOf (callK Try.prog ht d)) 2 (loopAt 2 (codeOf Try.f31)) st k) st k = some true :=
  loop_ok (lfn := fun n st k => ref02_Put_L0_L2.get (ref02_Put_L0_L2 n) none st k) (rec := ref02_Put_L0_L2.calls) (fun g a h k hx => by
    cases hx) (loopf := ref02_Put_L0_L2.loops) (by
    have e : loopsOf (ref02_Put_L0_L2.loops) 2 (loopAt 2 (codeOf Try.f31)) = [] := by kernel_rfl
    rw [e]
    intro p hp
    cases hp) (fun st k h => by
    obtain ⟨sl, hp, m⟩ := st
    unfold ref02_Put_L0_L2.get at h
    dsimp only at h
    split at h
    · have h' : (none : Option Bool) = some true := h
      cases h'
    · cases h) (fun n st k h => by
    obtain ⟨sl, hp, m⟩ := st
    unfold ref02_Put_L0_L2.get at h
    dsimp only at h
    split at h
    · rename_i h1 h2
      obtain rfl := pickS_ok h2
      obtain rfl := Nat.eq_of_beq_eq_true h1
      exact (ref02_Put_L0_L2.step (ref02_Put_L0_L2 n) _ _ _ _ _ k).trans h
    · cases h)
theorem ref02_Put_L0_L2.look {F : Int → Int → Int → Int → (List Int) → (Int → Int → Int → (List Int) → Option Bool) → Option Bool} {e : Option Bool} {st : St} {k : KE} (hx : ref02_Put_L0_L2.get F e st k = some true) : e = some true ∨ ref02_Put_L0_L2.get F none st k = some true := by
  obtain ⟨sl, hp, m⟩ := st
  unfold ref02_Put_L0_L2.get at hx ⊢
  dsimp only at hx ⊢
  split at hx
  · exact .inr hx
  · exact .inl hx
/-- function 31: the loop in block 0 -/
noncomputable def ref02_Put_L0.body (ref02_Put_L0 : Int → Int → (List Int) → ((List Int) → Option Bool) → Option Bool) (ref02_Put_L0_L2 : Int → Int → Int → Int → (List Int) → (Int → Int → Int → (List Int) → Option Bool) → Option Bool) (n329 : Int) (n330 : Int) (ns331 : List Int) (k1 : (List Int) → Option Bool) : Option Bool :=
  (cond_ (decide (n330 ≥ (0 : Int))) (ref02_Put_L0_L2 n329 n330 n329 (0 : Int) ns331
  (fun n337 n338 n339 ns340 => (cond_ (Nat.ble (((List.length ns340) + (List.length ((IntKind.wrap .u8 (Int.tmod n339 (256 : Int))) :: []))) * (1 : Nat)) (140737488355328 : Nat)) (ref02_Put_L0 n337 (IntKind.wrap .i64 (n338 - (1 : Int))) (ns340 ++ ((IntKind.wrap .u8 (Int.tmod n339 (256 : Int))) :: [])) k1) none))) (k1 ns331))
noncomputable def ref02_Put_L0 : Nat → Int → Int → (List Int) → ((List Int) → Option Bool) → Option Bool
  | 0 => fun _ _ _ _ => none
  | n + 1 => ref02_Put_L0.body (ref02_Put_L0 n) (ref02_Put_L0_L2 ROUNDS)
noncomputable def ref02_Put_L0.get (F : Int → Int → (List Int) → ((List Int) → Option Bool) → Option Bool) (e : Option Bool) (st : St) (k : KE) : Option Bool := match st with
  | ⟨sl, hp, m⟩ => match Nat.beq m 2, pickS 45 [7, 8, 9] sl, hp with
    | true, some [(.ref [1, 0]), (.d ⟨(.int .u64), n329⟩), (.d ⟨(.int .i64), n330⟩)], [([1, 0], ⟨5, 1, (.data (.int .u8) ns331)⟩)] => F n329 n330 ns331 (fun y0 => k (.exit 0) ⟨fillS 45 [7] [(.ref [1, 0])], [([1, 0], ⟨5, 1, (.data (.int .u8) y0)⟩)], 2⟩)
    | _, _, _ => e
noncomputable def ref02_Put_L0.calls : RecF := fun g a h k => none
noncomputable def ref02_Put_L0.loops (L0 : Int → Int → Int → Int → (List Int) → (Int → Int → Int → (List Int) → Option Bool) → Option Bool) : LoopF := fun b => match Nat.beq b 2 with | true => some (fun st k => (ref02_Put_L0_L2.get L0 none st k)) | false => none
set_option maxRecDepth 100000 in
theorem ref02_Put_L0.step (S : Int → Int → (List Int) → ((List Int) → Option Bool) → Option Bool) (L0 : Int → Int → Int → Int → (List Int) → (Int → Int → Int → (List Int) → Option Bool) → Option Bool) (n329 : Int) (n330 : Int) (ns331 : List Int) (k : KE) : execL Try.prog ht 31 (callfOf (ref02_Put_L0.calls)) (ref02_Put_L0.loops L0) 0 (loopAt 0 (codeOf Try.f31)) ⟨fillS 45 [7, 8, 9] [(.ref [1, 0]), (.d ⟨(.int .u64), n329⟩), (.d ⟨(.int .i64), n330⟩)], [([1, 0], ⟨5, 1, (.data (.int .u8) ns331)⟩)], 2⟩ (again (ref02_Put_L0.get S none) (plan Try.prog (ht 31 0)) k) = ref02_Put_L0.body S L0 n329 n330 ns331 (fun y0 => k (.exit 0) ⟨fillS 45 [7] [(.ref [1, 0])], [([1, 0], ⟨5, 1, (.data (.int .u8) y0)⟩)], 2⟩) := by kernel_rfl
theorem ref02_Put_L0.ok (d : Nat) (hd : 0 ≤ d) : ∀ n st k, ref02_Put_L0.get (ref02_Put_L0 n) none st k = some true → iter n (plan Try.prog (ht 31 0)) (fun st k => execK Try.prog ht 31 (callfOf (callK Try.prog ht d)) 0 (loopAt 0 (codeOf Try.f31)) st k) st k = some true :=
  loop_ok (lfn := fun n st k => ref02_Put_L0.get (ref02_Put_L0 n) none st k) (rec := ref02_Put_L0.calls) (fun g a h k hx => by
    cases hx) (loopf := ref02_Put_L0.loops (ref02_Put_L0_L2 ROUNDS)) (by
    have e : loopsOf (ref02_Put_L0.loops (ref02_Put_L0_L2 ROUNDS)) 0 (loopAt 0 (codeOf Try.f31)) = [(2, loopAt 2 (codeOf Try.f31))] := by kernel_rfl
    rw [e]
    intro p hp
    simp only [List.mem_cons, List.not_mem_nil, or_false] at hp
    rcases hp with rfl
    · refine loopRef_of (callf := callfOf (callK Try.prog ht d)) (callfOf_ref (callK_mono d)) fun lf st k hb hx => ?_
      cases hb
      rcases ref02_Put_L0_L2.look hx with hx | hx
      rotate_left
      · exact ref02_Put_L0_L2.ok d (by omega) _ _ _ hx
      cases hx) (fun st k h => by
    obtain ⟨sl, hp, m⟩ := st
    unfold ref02_Put_L0.get at h
    dsimp only at h
    split at h
    · have h' : (none : Option Bool) = some true := h
      cases h'
    · cases h) (fun n st k h => by
    obtain ⟨sl, hp, m⟩ := st
    unfold ref02_Put_L0.get at h
    dsimp only at h
    split at h
    · rename_i h1 h2
      obtain rfl := pickS_ok h2
      obtain rfl := Nat.eq_of_beq_eq_true h1
      exact (ref02_Put_L0.step (ref02_Put_L0 n) (ref02_Put_L0_L2 ROUNDS) _ _ _ k).trans h
    · cases h)
theorem ref02_Put_L0.look {F : Int → Int → (List Int) → ((List Int) → Option Bool) → Option Bool} {e : Option Bool} {st : St} {k : KE} (hx : ref02_Put_L0.get F e st k = some true) : e = some true ∨ ref02_Put_L0.get F none st k = some true := by
  obtain ⟨sl, hp, m⟩ := st
  unfold ref02_Put_L0.get at hx ⊢
  dsimp only at hx ⊢
  split at hx
  · exact .inr hx
  · exact .inl hx
/-- function 31: sheerleg/sheerlegref02.Put -/
noncomputable def ref02_Put.body (ref02_Put_L0 : Int → Int → (List Int) → ((List Int) → Option Bool) → Option Bool) (ns326 : List Int) (n327 : Int) (n328 : Int) (k1 : (List Int) → Option Bool) : Option Bool :=
  (cond_ (Nat.ble ((List.length ns326) * (1 : Nat)) (140737488355328 : Nat)) (cond_ (! (decide (n328 < (1 : Int)))) (cond_ (decide (n328 > (8 : Int))) (k1 ns326) (ref02_Put_L0 (IntKind.wrap .u64 n327) (IntKind.wrap .i64 (n328 - (1 : Int))) ns326
  (fun ns341 => (k1 ns341)))) (k1 ns326)) none)
noncomputable def ref02_Put (ns326 : List Int) (n327 : Int) (n328 : Int) (k1 : (List Int) → Option Bool) : Option Bool := ref02_Put.body (ref02_Put_L0 ROUNDS) ns326 n327 n328 k1
noncomputable def ref02_Put.get (F : (List Int) → Int → Int → ((List Int) → Option Bool) → Option Bool) (e : Option Bool) (g : FuncId) (a : List AV) (h : Heap) (k : KR) : Option Bool := match g, a, h with
  | 31, [(.bv 0 5 (.int .u8) ns326), (.d ⟨(.int .i64), n327⟩), (.d ⟨(.int .i64), n328⟩)], [] => F ns326 n327 n328 (fun y0 => k (.ref [1, 0]) [([1, 0], ⟨5, 1, (.data (.int .u8) y0)⟩)])
  | _, _, _ => e
noncomputable def ref02_Put.calls : RecF := fun g a h k => none
noncomputable def ref02_Put.loops (L0 : Int → Int → (List Int) → ((List Int) → Option Bool) → Option Bool) : LoopF := fun b => match Nat.beq b 0 with | true => some (fun st k => (ref02_Put_L0.get L0 none st k)) | false => none
set_option maxRecDepth 100000 in
theorem ref02_Put.eq (L0 : Int → Int → (List Int) → ((List Int) → Option Bool) → Option Bool) (ns326 : List Int) (n327 : Int) (n328 : Int) (k : KR) : execL Try.prog ht 31 (callfOf (ref02_Put.calls)) (ref02_Put.loops L0) 0 (codeOf Try.f31) ⟨[(.bv 0 5 (.int .u8) ns326), (.d ⟨(.int .i64), n327⟩), (.d ⟨(.int .i64), n328⟩)] ++ List.replicate (Try.f31.ntmps - ([(.bv 0 5 (.int .u8) ns326), (.d ⟨(.int .i64), n327⟩), (.d ⟨(.int .i64), n328⟩)] : List AV).length) .undef, [], 2⟩ (leave Try.prog Try.f31 k) = ref02_Put.body L0 ns326 n327 n328 (fun y0 => k (.ref [1, 0]) [([1, 0], ⟨5, 1, (.data (.int .u8) y0)⟩)]) := by kernel_rfl
theorem ref02_Put.ok (d : Nat) (hd : 1 ≤ d) (ns326 : List Int) (n327 : Int) (n328 : Int) (k : KR) (hx : ref02_Put ns326 n327 n328 (fun y0 => k (.ref [1, 0]) [([1, 0], ⟨5, 1, (.data (.int .u8) y0)⟩)]) = some true) : callK Try.prog ht d 31 [(.bv 0 5 (.int .u8) ns326), (.d ⟨(.int .i64), n327⟩), (.d ⟨(.int .i64), n328⟩)] [] k = some true := by
  obtain ⟨d, rfl⟩ : ∃ e, d = e + 1 := ⟨d - 1, by omega⟩
  exact fn_ok (c := codeOf Try.f31) Try.func31 (by kernel_rfl) (rec := ref02_Put.calls) (fun g a h k hx => by
    cases hx) (loopf := ref02_Put.loops (ref02_Put_L0 ROUNDS)) (by
    have e : loopsOf (ref02_Put.loops (ref02_Put_L0 ROUNDS)) 0 (codeOf Try.f31) = [(0, loopAt 0 (codeOf Try.f31))] := by kernel_rfl
    rw [e]
    intro p hp
    simp only [List.mem_cons, List.not_mem_nil, or_false] at hp
    rcases hp with rfl
    · refine loopRef_of (callf := callfOf (callK Try.prog ht d)) (callfOf_ref (callK_mono d)) fun lf st k hb hx => ?_
      cases hb
      rcases ref02_Put_L0.look hx with hx | hx
      rotate_left
      · exact ref02_Put_L0.ok d (by omega) _ _ _ hx
      cases hx) ((ref02_Put.eq (ref02_Put_L0 ROUNDS) ns326 n327 n328 k).trans hx)
theorem ref02_Put.look (d : Nat) (hd : 1 ≤ d) {e : Option Bool} {g : FuncId} {a : List AV} {h : Heap} {k : KR} (hx : ref02_Put.get ref02_Put e g a h k = some true) : e = some true ∨ callK Try.prog ht d g a h k = some true := by
  unfold ref02_Put.get at hx
  split at hx
  · exact .inr (ref02_Put.ok d hd _ _ _ _ hx)
  · exact .inl hx
/-- function 31: the loop in block 2 -/
noncomputable def ref02_Putv1_L0_L2.body (ref02_Putv1_L0_L2 : Int → Int → Int → Int → (List Int) → (Int → Int → Int → (List Int) → Option Bool) → Option Bool) (n349 : Int) (n350 : Int) (n351 : Int) (n352 : Int) (ns353 : List Int) (k1 : Int → Int → Int → (List Int) → Option Bool) : Option Bool :=
  (cond_ (decide (n352 < n350)) (ref02_Putv1_L0_L2 n349 n350 (IntKind.wrap .u64 (Int.tdiv n351 (256 : Int))) (IntKind.wrap .i64 (n352 + (1 : Int))) ns353 k1) (k1 n349 n350 n351 ns353))
noncomputable def ref02_Putv1_L0_L2 : Nat → Int → Int → Int → Int → (List Int) → (Int → Int → Int → (List Int) → Option Bool) → Option Bool
  | 0 => fun _ _ _ _ _ _ => none
  | n + 1 => ref02_Putv1_L0_L2.body (ref02_Putv1_L0_L2 n)
noncomputable def ref02_Putv1_L0_L2.get (F : Int → Int → Int → Int → (List Int) → (Int → Int → Int → (List Int) → Option Bool) → Option Bool) (e : Option Bool) (st : St) (k : KE) : Option Bool := match st with
  | ⟨sl, hp, m⟩ => match Nat.beq m 2, pickS 45 [7, 8, 9, 10, 11] sl, hp with
    | true, some [(.ref [1, 0]), (.d ⟨(.int .u64), n349⟩), (.d ⟨(.int .i64), n350⟩), (.d ⟨(.int .u64), n351⟩), (.d ⟨(.int .i64), n352⟩)], [([1, 0], ⟨5, 1, (.data (.int .u8) ns353)⟩)] => F n349 n350 n351 n352 ns353 (fun y0 y1 y2 y3 => k (.exit 2) ⟨fillS 45 [7, 8, 9, 10] [(.ref [1, 0]), (.d ⟨(.int .u64), y0⟩), (.d ⟨(.int .i64), y1⟩), (.d ⟨(.int .u64), y2⟩)], [([1, 0], ⟨5, 1, (.data (.int .u8) y3)⟩)], 2⟩)
    | _, _, _ => e
noncomputable def ref02_Putv1_L0_L2.calls : RecF := fun g a h k => none
noncomputable def ref02_Putv1_L0_L2.loops : LoopF := fun b => none
set_option maxRecDepth 100000 in
theorem ref02_Putv1_L0_L2.step (S : Int → Int → Int → Int → (List Int) → (Int → Int → Int → (List Int) → Option Bool) → Option Bool) (n349 : Int) (n350 : Int) (n351 : Int) (n352 : Int) (ns353 : List Int) (k : KE) : execL Try.prog ht 31 (callfOf (ref02_Putv1_L0_L2.calls)) (ref02_Putv1_L0_L2.loops) 2 (loopAt 2 (codeOf Try.f31)) ⟨fillS 45 [7, 8, 9, 10, 11] [(.ref [1, 0]), (.d ⟨(.int .u64), n349⟩), (.d ⟨(.int .i64), n350⟩), (.d ⟨(.int .u64), n351⟩), (.d ⟨(.int .i64), n352⟩)], [([1, 0], ⟨5, 1, (.data (.int .u8) ns353)⟩)], 2⟩ (again (ref02_Putv1_L0_L2.get S none) (plan Try.prog (ht 31 2)) k) = ref02_Putv1_L0_L2.body S n349 n350 n351 n352 ns353 (fun y0 y1 y2 y3 => k (.exit 2) ⟨fillS 45 [7, 8, 9, 10] [(.ref [1, 0]), (.d ⟨(.int .u64), y0⟩), (.d ⟨(.int .i64), y1⟩), (.d ⟨(.int .u64), y2⟩)], [([1, 0], ⟨5, 1, (.data (.int .u8) y3)⟩)], 2⟩) := by kernel_rfl
theorem ref02_Putv1_L0_L2.ok (d : Nat) (hd : 0 ≤ d) : ∀ n st k, ref02_Putv1_L0_L2.get (ref02_Putv1_L0_L2 n) none st k = some true → iter n (plan Try.prog (ht 31 2)) (fun st k => execK Try.prog ht 31 (callfOf (callK Try.prog ht d)) 2 (loopAt 2 (codeOf Try.f31)) st k) st k = some true :=
  loop_ok (lfn := fun n st k => ref02_Putv1_L0_L2.get (ref02_Putv1_L0_L2 n) none st k) (rec := ref02_Putv1_L0_L2.calls) (fun g a h k hx => by
    cases hx) (loopf := ref02_Putv1_L0_L2.loops) (by
    have e : loopsOf (ref02_Putv1_L0_L2.loops) 2 (loopAt 2 (codeOf Try.f31)) = [] := by kernel_rfl
    rw [e]
    intro p hp
    cases hp) (fun st k h => by
    obtain ⟨sl, hp, m⟩ := st
    unfold ref02_Putv1_L0_L2.get at h
    dsimp only at h
    split at h
    · have h' : (none : Option Bool) = some true := h
      cases h'
    · cases h) (fun n st k h => by
    obtain ⟨sl, hp, m⟩ := st
    unfold ref02_Putv1_L0_L2.get at h
    dsimp only at h
    split at h
    · rename_i h1 h2
      obtain rfl := pickS_ok h2
      obtain rfl := Nat.eq_of_beq_eq_true h1
      exact (ref02_Putv1_L0_L2.step (ref02_Putv1_L0_L2 n) _ _ _ _ _ k).trans h
    · cases h)
theorem ref02_Putv1_L0_L2.look {F : Int → Int → Int → Int → (List Int) → (Int → Int → Int → (List Int) → Option Bool) → Option Bool} {e : Option Bool} {st : St} {k : KE} (hx : ref02_Putv1_L0_L2.get F e st k = some true) : e = some true ∨ ref02_Putv1_L0_L2.get F none st k = some true := by
  obtain ⟨sl, hp, m⟩ := st
  unfold ref02_Putv1_L0_L2.get at hx ⊢
  dsimp only at hx ⊢
  split at hx
  · exact .inr hx
  · exact .inl hx
/-- function 31: the loop in block 0 -/
noncomputable def ref02_Putv1_L0.body (ref02_Putv1_L0 : Int → Int → (List Int) → ((List Int) → Option Bool) → Option Bool) (ref02_Putv1_L0_L2 : Int → Int → Int → Int → (List Int) → (Int → Int → Int → (List Int) → Option Bool) → Option Bool) (n346 : Int) (n347 : Int) (ns348 : List Int) (k1 : (List Int) → Option Bool) : Option Bool :=
  (cond_ (decide (n347 ≥ (0 : Int))) (ref02_Putv1_L0_L2 n346 n347 n346 (0 : Int) ns348
  (fun n354 n355 n356 ns357 => (cond_ (Nat.ble (((List.length ns357) + (List.length ((IntKind.wrap .u8 (Int.tmod n356 (256 : Int))) :: []))) * (1 : Nat)) (140737488355328 : Nat)) (ref02_Putv1_L0 n354 (IntKind.wrap .i64 (n355 - (1 : Int))) (ns357 ++ ((IntKind.wrap .u8 (Int.tmod n356 (256 : Int))) :: [])) k1) none))) (k1 ns348))
noncomputable def ref02_Putv1_L0 : Nat → Int → Int → (List Int) → ((List Int) → Option Bool) → Option Bool
  | 0 => fun _ _ _ _ => none
  | n + 1 => ref02_Putv1_L0.body (ref02_Putv1_L0 n) (ref02_Putv1_L0_L2 ROUNDS)
noncomputable def ref02_Putv1_L0.get (F : Int → Int → (List Int) → ((List Int) → Option Bool) → Option Bool) (e : Option Bool) (st : St) (k : KE) : Option Bool := match st with
  | ⟨sl, hp, m⟩ => match Nat.beq m 2, pickS 45 [7, 8, 9] sl, hp with
    | true, some [(.ref [1, 0]), (.d ⟨(.int .u64), n346⟩), (.d ⟨(.int .i64), n347⟩)], [([1, 0], ⟨5, 1, (.data (.int .u8) ns348)⟩)] => F n346 n347 ns348 (fun y0 => k (.exit 0) ⟨fillS 45 [7] [(.ref [1, 0])], [([1, 0], ⟨5, 1, (.data (.int .u8) y0)⟩)], 2⟩)
    | _, _, _ => e
noncomputable def ref02_Putv1_L0.calls : RecF := fun g a h k => none
noncomputable def ref02_Putv1_L0.loops (L0 : Int → Int → Int → Int → (List Int) → (Int → Int → Int → (List Int) → Option Bool) → Option Bool) : LoopF := fun b => match Nat.beq b 2 with | true => some (fun st k => (ref02_Putv1_L0_L2.get L0 none st k)) | false => none
set_option maxRecDepth 100000 in
theorem ref02_Putv1_L0.step (S : Int → Int → (List Int) → ((List Int) → Option Bool) → Option Bool) (L0 : Int → Int → Int → Int → (List Int) → (Int → Int → Int → (List Int) → Option Bool) → Option Bool) (n346 : Int) (n347 : Int) (ns348 : List Int) (k : KE) : execL Try.prog ht 31 (callfOf (ref02_Putv1_L0.calls)) (ref02_Putv1_L0.loops L0) 0 (loopAt 0 (codeOf Try.f31)) ⟨fillS 45 [7, 8, 9] [(.ref [1, 0]), (.d ⟨(.int .u64), n346⟩), (.d ⟨(.int .i64), n347⟩)], [([1, 0], ⟨5, 1, (.data (.int .u8) ns348)⟩)], 2⟩ (again (ref02_Putv1_L0.get S none) (plan Try.prog (ht 31 0)) k) = ref02_Putv1_L0.body S L0 n346 n347 ns348 (fun y0 => k (.exit 0) ⟨fillS 45 [7] [(.ref [1, 0])], [([1, 0], ⟨5, 1, (.data (.int .u8) y0)⟩)], 2⟩) := by kernel_rfl
theorem ref02_Putv1_L0.ok (d : Nat) (hd : 0 ≤ d) : ∀ n st k, ref02_Putv1_L0.get (ref02_Putv1_L0 n) none st k = some true → iter n (plan Try.prog (ht 31 0)) (fun st k => execK Try.prog ht 31 (callfOf (callK Try.prog ht d)) 0 (loopAt 0 (codeOf Try.f31)) st k) st k = some true :=
  loop_ok (lfn := fun n st k => ref02_Putv1_L0.get (ref02_Putv1_L0 n) none st k) (rec := ref02_Putv1_L0.calls) (fun g a h k hx => by
    cases hx) (loopf := ref02_Putv1_L0.loops (ref02_Putv1_L0_L2 ROUNDS)) (by
    have e : loopsOf (ref02_Putv1_L0.loops (ref02_Putv1_L0_L2 ROUNDS)) 0 (loopAt 0 (codeOf Try.f31)) = [(2, loopAt 2 (codeOf Try.f31))] := by kernel_rfl
    rw [e]
    intro p hp
    simp only [List.mem_cons, List.not_mem_nil, or_false] at hp
    rcases hp with rfl
    · refine loopRef_of (callf := callfOf (callK Try.prog ht d)) (callfOf_ref (callK_mono d)) fun lf st k hb hx => ?_
      cases hb
      rcases ref02_Putv1_L0_L2.look hx with hx | hx
      rotate_left
      · exact ref02_Putv1_L0_L2.ok d (by omega) _ _ _ hx
      cases hx) (fun st k h => by
    obtain ⟨sl, hp, m⟩ := st
    unfold ref02_Putv1_L0.get at h
    dsimp only at h
    split at h
    · have h' : (none : Option Bool) = some true := h
      cases h'
    · cases h) (fun n st k h => by
    obtain ⟨sl, hp, m⟩ := st
    unfold ref02_Putv1_L0.get at h
    dsimp only at h
    split at h
    · rename_i h1 h2
      obtain rfl := pickS_ok h2
      obtain rfl := Nat.eq_of_beq_eq_true h1
      exact (ref02_Putv1_L0.step (ref02_Putv1_L0 n) (ref02_Putv1_L0_L2 ROUNDS) _ _ _ k).trans h
    · cases h)
theorem ref02_Putv1_L0.look {F : Int → Int → (List Int) → ((List Int) → Option Bool) → Option Bool} {e : Option Bool} {st : St} {k : KE} (hx : ref02_Putv1_L0.get F e st k = some true) : e = some true ∨ ref02_Putv1_L0.get F none st k = some true := by
  obtain ⟨sl, hp, m⟩ := st
  unfold ref02_Putv1_L0.get at hx ⊢
  dsimp only at hx ⊢
  split at hx
  · exact .inr hx
  · exact .inl hx
/-- function 31: sheerleg/sheerlegref02.Put -/
noncomputable def ref02_Putv1.body (ref02_Putv1_L0 : Int → Int → (List Int) → ((List Int) → Option Bool) → Option Bool) (ns343 : List Int) (n344 : Int) (n345 : Int) (k1 : (List Int) → Option Bool) : Option Bool :=
  (cond_ (Nat.ble ((List.length ns343) * (1 : Nat)) (140737488355328 : Nat)) (cond_ (! (decide (n345 < (1 : Int)))) (cond_ (decide (n345 > (8 : Int))) (k1 ns343) (ref02_Putv1_L0 (IntKind.wrap .u64 n344) (IntKind.wrap .i64 (n345 - (1 : Int))) ns343
  (fun ns358 => (k1 ns358)))) (k1 ns343)) none)
noncomputable def ref02_Putv1 (ns343 : List Int) (n344 : Int) (n345 : Int) (k1 : (List Int) → Option Bool) : Option Bool := ref02_Putv1.body (ref02_Putv1_L0 ROUNDS) ns343 n344 n345 k1
noncomputable def ref02_Putv1.get (F : (List Int) → Int → Int → ((List Int) → Option Bool) → Option Bool) (e : Option Bool) (g : FuncId) (a : List AV) (h : Heap) (k : KR) : Option Bool := match g, a, h with
  | 31, [(.bv 1 5 (.int .u8) ns343), (.d ⟨(.int .i64), n344⟩), (.d ⟨(.int .i64), n345⟩)], [] => F ns343 n344 n345 (fun y0 => k (.ref [1, 0]) [([1, 0], ⟨5, 1, (.data (.int .u8) y0)⟩)])
  | _, _, _ => e
noncomputable def ref02_Putv1.calls : RecF := fun g a h k => none
noncomputable def ref02_Putv1.loops (L0 : Int → Int → (List Int) → ((List Int) → Option Bool) → Option Bool) : LoopF := fun b => match Nat.beq b 0 with | true => some (fun st k => (ref02_Putv1_L0.get L0 none st k)) | false => none
set_option maxRecDepth 100000 in
theorem ref02_Putv1.eq (L0 : Int → Int → (List Int) → ((List Int) → Option Bool) → Option Bool) (ns343 : List Int) (n344 : Int) (n345 : Int) (k : KR) : execL Try.prog ht 31 (callfOf (ref02_Putv1.calls)) (ref02_Putv1.loops L0) 0 (codeOf Try.f31) ⟨[(.bv 1 5 (.int .u8) ns343), (.d ⟨(.int .i64), n344⟩), (.d ⟨(.int .i64), n345⟩)] ++ List.replicate (Try.f31.ntmps - ([(.bv 1 5 (.int .u8) ns343), (.d ⟨(.int .i64), n344⟩), (.d ⟨(.int .i64), n345⟩)] : List AV).length) .undef, [], 2⟩ (leave Try.prog Try.f31 k) = ref02_Putv1.body L0 ns343 n344 n345 (fun y0 => k (.ref [1, 0]) [([1, 0], ⟨5, 1, (.data (.int .u8) y0)⟩)]) := by kernel_rfl
theorem ref02_Putv1.ok (d : Nat) (hd : 1 ≤ d) (ns343 : List Int) (n344 : Int) (n345 : Int) (k : KR) (hx : ref02_Putv1 ns343 n344 n345 (fun y0 => k (.ref [1, 0]) [([1, 0], ⟨5, 1, (.data (.int .u8) y0)⟩)]) = some true) : callK Try.prog ht d 31 [(.bv 1 5 (.int .u8) ns343), (.d ⟨(.int .i64), n344⟩), (.d ⟨(.int .i64), n345⟩)] [] k = some true := by
  obtain ⟨d, rfl⟩ : ∃ e, d = e + 1 := ⟨d - 1, by omega⟩
  exact fn_ok (c := codeOf Try.f31) Try.func31 (by kernel_rfl) (rec := ref02_Putv1.calls) (fun g a h k hx => by
    cases hx) (loopf := ref02_Putv1.loops (ref02_Putv1_L0 ROUNDS)) (by
    have e : loopsOf (ref02_Putv1.loops (ref02_Putv1_L0 ROUNDS)) 0 (codeOf Try.f31) = [(0, loopAt 0 (codeOf Try.f31))] := by kernel_rfl
    rw [e]
    intro p hp
    simp only [List.mem_cons, List.not_mem_nil, or_false] at hp
    rcases hp with rfl
    · refine loopRef_of (callf := callfOf (callK Try.prog ht d)) (callfOf_ref (callK_mono d)) fun lf st k hb hx => ?_
      cases hb
      rcases ref02_Putv1_L0.look hx with hx | hx
      rotate_left
      · exact ref02_Putv1_L0.ok d (by omega) _ _ _ hx
      cases hx) ((ref02_Putv1.eq (ref02_Putv1_L0 ROUNDS) ns343 n344 n345 k).trans hx)
theorem ref02_Putv1.look (d : Nat) (hd : 1 ≤ d) {e : Option Bool} {g : FuncId} {a : List AV} {h : Heap} {k : KR} (hx : ref02_Putv1.get ref02_Putv1 e g a h k = some true) : e = some true ∨ callK Try.prog ht d g a h k = some true := by
  unfold ref02_Putv1.get at hx
  split at hx
  · exact .inr (ref02_Putv1.ok d hd _ _ _ _ hx)
  · exact .inl hx
/-- function 16: the loop in block 0 -/
noncomputable def ref15_Put_L0.body (ref15_Put_L0 : Int → (List Int) → Tc4 → ((List Int) → Tc4 → Option Bool) → Option Bool) (ref02_Putv1 : (List Int) → Int → Int → ((List Int) → Option Bool) → Option Bool) (n360 : Int) (ns361 : List Int) (t362 : Tc4) (k1 : (List Int) → Tc4 → Option Bool) : Option Bool :=
  (cond_ (decide (n360 < (((List.length t362.2.1) : Nat) : Int))) (cond_ ((decide ((0 : Int) ≤ n360)) && (decide (n360 < (((List.length t362.2.1) : Nat) : Int)))) (ref02_Putv1 ns361 (List.getD t362.2.1 (Int.toNat n360) (0 : Int)) (8 : Int)
  (fun ns363 => (ref15_Put_L0 (IntKind.wrap .i64 (n360 + (1 : Int))) ns363 t362 k1))) none) (k1 ns361 t362))
noncomputable def ref15_Put_L0 : Nat → Int → (List Int) → Tc4 → ((List Int) → Tc4 → Option Bool) → Option Bool
  | 0 => fun _ _ _ _ => none
  | n + 1 => ref15_Put_L0.body (ref15_Put_L0 n) ref02_Putv1
noncomputable def ref15_Put_L0.get (F : Int → (List Int) → Tc4 → ((List Int) → Tc4 → Option Bool) → Option Bool) (e : Option Bool) (st : St) (k : KE) : Option Bool := match st with
  | ⟨sl, hp, m⟩ => match Nat.beq m 2, pickS 33 [0, 3, 5] sl, hp with
    | true, some [(.ref [1, 0]), (.ptr [1, 1] 0 0), (.d ⟨(.int .i64), n360⟩)], [([1, 0], ⟨5, 1, (.data (.int .u8) ns361)⟩), ([1, 1], ⟨25, 3, (.data (.st [(.int .i64), (.sl 2 (.int .i64)), (.sl 51 (.st [(.int .i64), (.int .i64), .bool]))]) [t362])⟩)] => F n360 ns361 t362 (fun y0 y1 => k (.exit 0) ⟨fillS 33 [0, 3] [(.ref [1, 0]), (.ptr [1, 1] 0 0)], [([1, 0], ⟨5, 1, (.data (.int .u8) y0)⟩), ([1, 1], ⟨25, 3, (.data (.st [(.int .i64), (.sl 2 (.int .i64)), (.sl 51 (.st [(.int .i64), (.int .i64), .bool]))]) [y1])⟩)], 2⟩)
    | _, _, _ => e
noncomputable def ref15_Put_L0.calls (F0 : (List Int) → Int → Int → ((List Int) → Option Bool) → Option Bool) : RecF := fun g a h k => (ref02_Putv1.get F0 none g a h k)
noncomputable def ref15_Put_L0.loops : LoopF := fun b => none
set_option maxRecDepth 100000 in
theorem ref15_Put_L0.step (S : Int → (List Int) → Tc4 → ((List Int) → Tc4 → Option Bool) → Option Bool) (F0 : (List Int) → Int → Int → ((List Int) → Option Bool) → Option Bool) (n360 : Int) (ns361 : List Int) (t362 : Tc4) (k : KE) : execL Try.prog ht 16 (callfOf (ref15_Put_L0.calls F0)) (ref15_Put_L0.loops) 0 (loopAt 0 (codeOf Try.f16)) ⟨fillS 33 [0, 3, 5] [(.ref [1, 0]), (.ptr [1, 1] 0 0), (.d ⟨(.int .i64), n360⟩)], [([1, 0], ⟨5, 1, (.data (.int .u8) ns361)⟩), ([1, 1], ⟨25, 3, (.data (.st [(.int .i64), (.sl 2 (.int .i64)), (.sl 51 (.st [(.int .i64), (.int .i64), .bool]))]) [t362])⟩)], 2⟩ (again (ref15_Put_L0.get S none) (plan Try.prog (ht 16 0)) k) = ref15_Put_L0.body S F0 n360 ns361 t362 (fun y0 y1 => k (.exit 0) ⟨fillS 33 [0, 3] [(.ref [1, 0]), (.ptr [1, 1] 0 0)], [([1, 0], ⟨5, 1, (.data (.int .u8) y0)⟩), ([1, 1], ⟨25, 3, (.data (.st [(.int .i64), (.sl 2 (.int .i64)), (.sl 51 (.st [(.int .i64), (.int .i64), .bool]))]) [y1])⟩)], 2⟩) := by kernel_rfl
theorem ref15_Put_L0.ok (d : Nat) (hd : 1 ≤ d) : ∀ n st k, ref15_Put_L0.get (ref15_Put_L0 n) none st k = some true → iter n (plan Try.prog (ht 16 0)) (fun st k => execK Try.prog ht 16 (callfOf (callK Try.prog ht d)) 0 (loopAt 0 (codeOf Try.f16)) st k) st k = some true :=
  loop_ok (lfn := fun n st k => ref15_Put_L0.get (ref15_Put_L0 n) none st k) (rec := ref15_Put_L0.calls ref02_Putv1) (fun g a h k hx => by
    rcases ref02_Putv1.look d (by omega) hx with hx | hx
    rotate_left
    · exact hx
    cases hx) (loopf := ref15_Put_L0.loops) (by
    have e : loopsOf (ref15_Put_L0.loops) 0 (loopAt 0 (codeOf Try.f16)) = [] := by kernel_rfl
    rw [e]
    intro p hp
    cases hp) (fun st k h => by
    obtain ⟨sl, hp, m⟩ := st
    unfold ref15_Put_L0.get at h
    dsimp only at h
    split at h
    · have h' : (none : Option Bool) = some true := h
      cases h'
    · cases h) (fun n st k h => by
    obtain ⟨sl, hp, m⟩ := st
    unfold ref15_Put_L0.get at h
    dsimp only at h
    split at h
    · rename_i h1 h2
      obtain rfl := pickS_ok h2
      obtain rfl := Nat.eq_of_beq_eq_true h1
      exact (ref15_Put_L0.step (ref15_Put_L0 n) ref02_Putv1 _ _ _ k).trans h
    · cases h)
theorem ref15_Put_L0.look {F : Int → (List Int) → Tc4 → ((List Int) → Tc4 → Option Bool) → Option Bool} {e : Option Bool} {st : St} {k : KE} (hx : ref15_Put_L0.get F e st k = some true) : e = some true ∨ ref15_Put_L0.get F none st k = some true := by
  obtain ⟨sl, hp, m⟩ := st
  unfold ref15_Put_L0.get at hx ⊢
  dsimp only at hx ⊢
  split at hx
  · exact .inr hx
  · exact .inl hx
/-- function 49: sheerleg/sheerlegref13.Flag -/
noncomputable def ref13_Flag.body (b374 : Bool) (k1 : Int → Option Bool) : Option Bool :=
  (cond_ b374 (k1 (1 : Int)) (k1 (0 : Int)))
noncomputable def ref13_Flag (b374 : Bool) (k1 : Int → Option Bool) : Option Bool := ref13_Flag.body b374 k1
noncomputable def ref13_Flag.get (F : Bool → (Int → Option Bool) → Option Bool) (e : Option Bool) (g : FuncId) (a : List AV) (h : Heap) (k : KR) : Option Bool := match g, a, h with
  | 49, [(.d ⟨.bool, b374⟩)], [] => F b374 (fun y0 => k (.d ⟨(.int .i64), y0⟩) [])
  | _, _, _ => e
noncomputable def ref13_Flag.calls : RecF := fun g a h k => none
noncomputable def ref13_Flag.loops : LoopF := fun b => none
set_option maxRecDepth 100000 in
theorem ref13_Flag.eq (b374 : Bool) (k : KR) : execL Try.prog ht 49 (callfOf (ref13_Flag.calls)) (ref13_Flag.loops) 0 (codeOf Try.f49) ⟨[(.d ⟨.bool, b374⟩)] ++ List.replicate (Try.f49.ntmps - ([(.d ⟨.bool, b374⟩)] : List AV).length) .undef, [], 2⟩ (leave Try.prog Try.f49 k) = ref13_Flag.body b374 (fun y0 => k (.d ⟨(.int .i64), y0⟩) []) := by kernel_rfl
theorem ref13_Flag.ok (d : Nat) (hd : 1 ≤ d) (b374 : Bool) (k : KR) (hx : ref13_Flag b374 (fun y0 => k (.d ⟨(.int .i64), y0⟩) []) = some true) : callK Try.prog ht d 49 [(.d ⟨.bool, b374⟩)] [] k = some true := by
  obtain ⟨d, rfl⟩ : ∃ e, d = e + 1 := ⟨d - 1, by omega⟩
  exact fn_ok (c := codeOf Try.f49) Try.func49 (by kernel_rfl) (rec := ref13_Flag.calls) (fun g a h k hx => by
    cases hx) (loopf := ref13_Flag.loops) (by
    have e : loopsOf (ref13_Flag.loops) 0 (codeOf Try.f49) = [] := by kernel_rfl
    rw [e]
    intro p hp
    cases hp) ((ref13_Flag.eq b374 k).trans hx)
theorem ref13_Flag.look (d : Nat) (hd : 1 ≤ d) {e : Option Bool} {g : FuncId} {a : List AV} {h : Heap} {k : KR} (hx : ref13_Flag.get ref13_Flag e g a h k = some true) : e = some true ∨ callK Try.prog ht d g a h k = some true := by
  unfold ref13_Flag.get at hx
  split at hx
  · exact .inr (ref13_Flag.ok d hd _ _ hx)
  · exact .inl hx
/-- function 32: the loop in block 0 -/
noncomputable def ref15_PutRelocs_L0.body (ref15_PutRelocs_L0 : Tc0 → Int → (List Int) → ((List Int) → Option Bool) → Option Bool) (ref02_Putv1 : (List Int) → Int → Int → ((List Int) → Option Bool) → Option Bool) (ref13_Flag : Bool → (Int → Option Bool) → Option Bool) (ts369 : Tc0) (n370 : Int) (ns371 : List Int) (k1 : (List Int) → Option Bool) : Option Bool :=
  (cond_ (decide (n370 < (((List.length ts369) : Nat) : Int))) (cond_ ((decide ((0 : Int) ≤ n370)) && (decide (n370 < (((List.length ts369) : Nat) : Int)))) (ref02_Putv1 ns371 (List.getD ts369 (Int.toNat n370) ((0 : Int), ((0 : Int), (false, ())))).1 (1 : Int)
  (fun ns372 => (cond_ ((decide ((0 : Int) ≤ n370)) && (decide (n370 < (((List.length ts369) : Nat) : Int)))) (ref02_Putv1 ns372 (List.getD ts369 (Int.toNat n370) ((0 : Int), ((0 : Int), (false, ())))).2.1 (1 : Int)
  (fun ns373 => (cond_ ((decide ((0 : Int) ≤ n370)) && (decide (n370 < (((List.length ts369) : Nat) : Int)))) (ref13_Flag (List.getD ts369 (Int.toNat n370) ((0 : Int), ((0 : Int), (false, ())))).2.2.1
  (fun n375 => (ref02_Putv1 ns373 n375 (1 : Int)
  (fun ns376 => (ref15_PutRelocs_L0 ts369 (IntKind.wrap .i64 (n370 + (1 : Int))) ns376 k1))))) none))) none))) none) (k1 ns371))
noncomputable def ref15_PutRelocs_L0 : Nat → Tc0 → Int → (List Int) → ((List Int) → Option Bool) → Option Bool
  | 0 => fun _ _ _ _ => none
  | n + 1 => ref15_PutRelocs_L0.body (ref15_PutRelocs_L0 n) ref02_Putv1 ref13_Flag
noncomputable def ref15_PutRelocs_L0.get (F : Tc0 → Int → (List Int) → ((List Int) → Option Bool) → Option Bool) (e : Option Bool) (st : St) (k : KE) : Option Bool := match st with
  | ⟨sl, hp, m⟩ => match Nat.beq m 2, pickS 39 [0, 1, 5] sl, hp with
    | true, some [(.ref [1, 0]), (.bv 0 51 (.st [(.int .i64), (.int .i64), .bool]) ts369), (.d ⟨(.int .i64), n370⟩)], [([1, 0], ⟨5, 1, (.data (.int .u8) ns371)⟩)] => F ts369 n370 ns371 (fun y0 => k (.exit 0) ⟨fillS 39 [0] [(.ref [1, 0])], [([1, 0], ⟨5, 1, (.data (.int .u8) y0)⟩)], 2⟩)
    | _, _, _ => e
noncomputable def ref15_PutRelocs_L0.calls (F0 : (List Int) → Int → Int → ((List Int) → Option Bool) → Option Bool) (F1 : Bool → (Int → Option Bool) → Option Bool) : RecF := fun g a h k => (ref02_Putv1.get F0 (ref13_Flag.get F1 none g a h k) g a h k)
noncomputable def ref15_PutRelocs_L0.loops : LoopF := fun b => none
set_option maxRecDepth 100000 in
theorem ref15_PutRelocs_L0.step (S : Tc0 → Int → (List Int) → ((List Int) → Option Bool) → Option Bool) (F0 : (List Int) → Int → Int → ((List Int) → Option Bool) → Option Bool) (F1 : Bool → (Int → Option Bool) → Option Bool) (ts369 : Tc0) (n370 : Int) (ns371 : List Int) (k : KE) : execL Try.prog ht 32 (callfOf (ref15_PutRelocs_L0.calls F0 F1)) (ref15_PutRelocs_L0.loops) 0 (loopAt 0 (codeOf Try.f32)) ⟨fillS 39 [0, 1, 5] [(.ref [1, 0]), (.bv 0 51 (.st [(.int .i64), (.int .i64), .bool]) ts369), (.d ⟨(.int .i64), n370⟩)], [([1, 0], ⟨5, 1, (.data (.int .u8) ns371)⟩)], 2⟩ (again (ref15_PutRelocs_L0.get S none) (plan Try.prog (ht 32 0)) k) = ref15_PutRelocs_L0.body S F0 F1 ts369 n370 ns371 (fun y0 => k (.exit 0) ⟨fillS 39 [0] [(.ref [1, 0])], [([1, 0], ⟨5, 1, (.data (.int .u8) y0)⟩)], 2⟩) := by kernel_rfl
theorem ref15_PutRelocs_L0.ok (d : Nat) (hd : 1 ≤ d) : ∀ n st k, ref15_PutRelocs_L0.get (ref15_PutRelocs_L0 n) none st k = some true → iter n (plan Try.prog (ht 32 0)) (fun st k => execK Try.prog ht 32 (callfOf (callK Try.prog ht d)) 0 (loopAt 0 (codeOf Try.f32)) st k) st k = some true :=
  loop_ok (lfn := fun n st k => ref15_PutRelocs_L0.get (ref15_PutRelocs_L0 n) none st k) (rec := ref15_PutRelocs_L0.calls ref02_Putv1 ref13_Flag) (fun g a h k hx => by
    rcases ref02_Putv1.look d (by omega) hx with hx | hx
    rotate_left
    · exact hx
    rcases ref13_Flag.look d (by omega) hx with hx | hx
    rotate_left
    · exact hx
    cases hx) (loopf := ref15_PutRelocs_L0.loops) (by
    have e : loopsOf (ref15_PutRelocs_L0.loops) 0 (loopAt 0 (codeOf Try.f32)) = [] := by kernel_rfl
    rw [e]
    intro p hp
    cases hp) (fun st k h => by
    obtain ⟨sl, hp, m⟩ := st
    unfold ref15_PutRelocs_L0.get at h
    dsimp only at h
    split at h
    · have h' : (none : Option Bool) = some true := h
      cases h'
    · cases h) (fun n st k h => by
    obtain ⟨sl, hp, m⟩ := st
    unfold ref15_PutRelocs_L0.get at h
    dsimp only at h
    split at h
    · rename_i h1 h2
      obtain rfl := pickS_ok h2
      obtain rfl := Nat.eq_of_beq_eq_true h1
      exact (ref15_PutRelocs_L0.step (ref15_PutRelocs_L0 n) ref02_Putv1 ref13_Flag _ _ _ k).trans h
    · cases h)
theorem ref15_PutRelocs_L0.look {F : Tc0 → Int → (List Int) → ((List Int) → Option Bool) → Option Bool} {e : Option Bool} {st : St} {k : KE} (hx : ref15_PutRelocs_L0.get F e st k = some true) : e = some true ∨ ref15_PutRelocs_L0.get F none st k = some true := by
  obtain ⟨sl, hp, m⟩ := st
  unfold ref15_PutRelocs_L0.get at hx ⊢
  dsimp only at hx ⊢
  split at hx
  · exact .inr hx
  · exact .inl hx
/-- function 32: sheerleg/sheerlegref15.PutRelocs -/
noncomputable def ref15_PutRelocs.body (ref02_Putv1 : (List Int) → Int → Int → ((List Int) → Option Bool) → Option Bool) (ref15_PutRelocs_L0 : Tc0 → Int → (List Int) → ((List Int) → Option Bool) → Option Bool) (ns366 : List Int) (ts367 : Tc0) (k1 : (List Int) → Option Bool) : Option Bool :=
  (ref02_Putv1 ns366 (((List.length ts367) : Nat) : Int) (1 : Int)
  (fun ns368 => (ref15_PutRelocs_L0 ts367 (0 : Int) ns368
  (fun ns377 => (k1 ns377)))))
noncomputable def ref15_PutRelocs (ns366 : List Int) (ts367 : Tc0) (k1 : (List Int) → Option Bool) : Option Bool := ref15_PutRelocs.body ref02_Putv1 (ref15_PutRelocs_L0 ROUNDS) ns366 ts367 k1
noncomputable def ref15_PutRelocs.get (F : (List Int) → Tc0 → ((List Int) → Option Bool) → Option Bool) (e : Option Bool) (g : FuncId) (a : List AV) (h : Heap) (k : KR) : Option Bool := match g, a, h with
  | 32, [(.bv 1 5 (.int .u8) ns366), (.bv 0 51 (.st [(.int .i64), (.int .i64), .bool]) ts367)], [] => F ns366 ts367 (fun y0 => k (.ref [1, 0]) [([1, 0], ⟨5, 1, (.data (.int .u8) y0)⟩)])
  | _, _, _ => e
noncomputable def ref15_PutRelocs.calls (F0 : (List Int) → Int → Int → ((List Int) → Option Bool) → Option Bool) : RecF := fun g a h k => (ref02_Putv1.get F0 none g a h k)
noncomputable def ref15_PutRelocs.loops (L0 : Tc0 → Int → (List Int) → ((List Int) → Option Bool) → Option Bool) : LoopF := fun b => match Nat.beq b 0 with | true => some (fun st k => (ref15_PutRelocs_L0.get L0 none st k)) | false => none
set_option maxRecDepth 100000 in
theorem ref15_PutRelocs.eq (F0 : (List Int) → Int → Int → ((List Int) → Option Bool) → Option Bool) (L0 : Tc0 → Int → (List Int) → ((List Int) → Option Bool) → Option Bool) (ns366 : List Int) (ts367 : Tc0) (k : KR) : execL Try.prog ht 32 (callfOf (ref15_PutRelocs.calls F0)) (ref15_PutRelocs.loops L0) 0 (codeOf Try.f32) ⟨[(.bv 1 5 (.int .u8) ns366), (.bv 0 51 (.st [(.int .i64), (.int .i64), .bool]) ts367)] ++ List.replicate (Try.f32.ntmps - ([(.bv 1 5 (.int .u8) ns366), (.bv 0 51 (.st [(.int .i64), (.int .i64), .bool]) ts367)] : List AV).length) .undef, [], 2⟩ (leave Try.prog Try.f32 k) = ref15_PutRelocs.body F0 L0 ns366 ts367 (fun y0 => k (.ref [1, 0]) [([1, 0], ⟨5, 1, (.data (.int .u8) y0)⟩)]) := by kernel_rfl
theorem ref15_PutRelocs.ok (d : Nat) (hd : 2 ≤ d) (ns366 : List Int) (ts367 : Tc0) (k : KR) (hx : ref15_PutRelocs ns366 ts367 (fun y0 => k (.ref [1, 0]) [([1, 0], ⟨5, 1, (.data (.int .u8) y0)⟩)]) = some true) : callK Try.prog ht d 32 [(.bv 1 5 (.int .u8) ns366), (.bv 0 51 (.st [(.int .i64), (.int .i64), .bool]) ts367)] [] k = some true := by
  obtain ⟨d, rfl⟩ : ∃ e, d = e + 1 := ⟨d - 1, by omega⟩
  exact fn_ok (c := codeOf Try.f32) Try.func32 (by kernel_rfl) (rec := ref15_PutRelocs.calls ref02_Putv1) (fun g a h k hx => by
    rcases ref02_Putv1.look d (by omega) hx with hx | hx
    rotate_left
    · exact hx
    cases hx) (loopf := ref15_PutRelocs.loops (ref15_PutRelocs_L0 ROUNDS)) (by
    have e : loopsOf (ref15_PutRelocs.loops (ref15_PutRelocs_L0 ROUNDS)) 0 (codeOf Try.f32) = [(0, loopAt 0 (codeOf Try.f32))] := by kernel_rfl
    rw [e]
    intro p hp
    simp only [List.mem_cons, List.not_mem_nil, or_false] at hp
    rcases hp with rfl
    · refine loopRef_of (callf := callfOf (callK Try.prog ht d)) (callfOf_ref (callK_mono d)) fun lf st k hb hx => ?_
      cases hb
      rcases ref15_PutRelocs_L0.look hx with hx | hx
      rotate_left
      · exact ref15_PutRelocs_L0.ok d (by omega) _ _ _ hx
      cases hx) ((ref15_PutRelocs.eq ref02_Putv1 (ref15_PutRelocs_L0 ROUNDS) ns366 ts367 k).trans hx)
theorem ref15_PutRelocs.look (d : Nat) (hd : 2 ≤ d) {e : Option Bool} {g : FuncId} {a : List AV} {h : Heap} {k : KR} (hx : ref15_PutRelocs.get ref15_PutRelocs e g a h k = some true) : e = some true ∨ callK Try.prog ht d g a h k = some true := by
  unfold ref15_PutRelocs.get at hx
  split at hx
  · exact .inr (ref15_PutRelocs.ok d hd _ _ _ hx)
  · exact .inl hx
/-- function 16: sheerleg/sheerlegref15.Put -/
noncomputable def ref15_Put.body (ref02_Put : (List Int) → Int → Int → ((List Int) → Option Bool) → Option Bool) (ref02_Putv1 : (List Int) → Int → Int → ((List Int) → Option Bool) → Option Bool) (ref15_PutRelocs : (List Int) → Tc0 → ((List Int) → Option Bool) → Option Bool) (ref15_Put_L0 : Int → (List Int) → Tc4 → ((List Int) → Tc4 → Option Bool) → Option Bool) (ns324 : List Int) (t325 : Tc4) (k1 : (List Int) → Option Bool) : Option Bool :=
  (ref02_Put ns324 t325.1 (1 : Int)
  (fun ns342 => (ref02_Putv1 ns342 (((List.length t325.2.1) : Nat) : Int) (1 : Int)
  (fun ns359 => (ref15_Put_L0 (0 : Int) ns359 t325
  (fun ns364 t365 => (ref15_PutRelocs ns364 t365.2.2.1
  (fun ns378 => (k1 ns378)))))))))
noncomputable def ref15_Put (ns324 : List Int) (t325 : Tc4) (k1 : (List Int) → Option Bool) : Option Bool := ref15_Put.body ref02_Put ref02_Putv1 ref15_PutRelocs (ref15_Put_L0 ROUNDS) ns324 t325 k1
noncomputable def ref15_Put.get (F : (List Int) → Tc4 → ((List Int) → Option Bool) → Option Bool) (e : Option Bool) (g : FuncId) (a : List AV) (h : Heap) (k : KR) : Option Bool := match g, a, h with
  | 16, [(.bv 0 5 (.int .u8) ns324), (.d ⟨(.st [(.int .i64), (.sl 2 (.int .i64)), (.sl 51 (.st [(.int .i64), (.int .i64), .bool]))]), t325⟩)], [] => F ns324 t325 (fun y0 => k (.ref [1, 0]) [([1, 0], ⟨5, 1, (.data (.int .u8) y0)⟩)])
  | _, _, _ => e
noncomputable def ref15_Put.calls (F0 : (List Int) → Int → Int → ((List Int) → Option Bool) → Option Bool) (F1 : (List Int) → Int → Int → ((List Int) → Option Bool) → Option Bool) (F2 : (List Int) → Tc0 → ((List Int) → Option Bool) → Option Bool) : RecF := fun g a h k => (ref02_Put.get F0 (ref02_Putv1.get F1 (ref15_PutRelocs.get F2 none g a h k) g a h k) g a h k)
noncomputable def ref15_Put.loops (L0 : Int → (List Int) → Tc4 → ((List Int) → Tc4 → Option Bool) → Option Bool) : LoopF := fun b => match Nat.beq b 0 with | true => some (fun st k => (ref15_Put_L0.get L0 none st k)) | false => none
set_option maxRecDepth 100000 in
theorem ref15_Put.eq (F0 : (List Int) → Int → Int → ((List Int) → Option Bool) → Option Bool) (F1 : (List Int) → Int → Int → ((List Int) → Option Bool) → Option Bool) (F2 : (List Int) → Tc0 → ((List Int) → Option Bool) → Option Bool) (L0 : Int → (List Int) → Tc4 → ((List Int) → Tc4 → Option Bool) → Option Bool) (ns324 : List Int) (t325 : Tc4) (k : KR) : execL Try.prog ht 16 (callfOf (ref15_Put.calls F0 F1 F2)) (ref15_Put.loops L0) 0 (codeOf Try.f16) ⟨[(.bv 0 5 (.int .u8) ns324), (.d ⟨(.st [(.int .i64), (.sl 2 (.int .i64)), (.sl 51 (.st [(.int .i64), (.int .i64), .bool]))]), t325⟩)] ++ List.replicate (Try.f16.ntmps - ([(.bv 0 5 (.int .u8) ns324), (.d ⟨(.st [(.int .i64), (.sl 2 (.int .i64)), (.sl 51 (.st [(.int .i64), (.int .i64), .bool]))]), t325⟩)] : List AV).length) .undef, [], 2⟩ (leave Try.prog Try.f16 k) = ref15_Put.body F0 F1 F2 L0 ns324 t325 (fun y0 => k (.ref [1, 0]) [([1, 0], ⟨5, 1, (.data (.int .u8) y0)⟩)]) := by kernel_rfl
theorem ref15_Put.ok (d : Nat) (hd : 3 ≤ d) (ns324 : List Int) (t325 : Tc4) (k : KR) (hx : ref15_Put ns324 t325 (fun y0 => k (.ref [1, 0]) [([1, 0], ⟨5, 1, (.data (.int .u8) y0)⟩)]) = some true) : callK Try.prog ht d 16 [(.bv 0 5 (.int .u8) ns324), (.d ⟨(.st [(.int .i64), (.sl 2 (.int .i64)), (.sl 51 (.st [(.int .i64), (.int .i64), .bool]))]), t325⟩)] [] k = some true := by
  obtain ⟨d, rfl⟩ : ∃ e, d = e + 1 := ⟨d - 1, by omega⟩
  exact fn_ok (c := codeOf Try.f16) Try.func16 (by kernel_rfl) (rec := ref15_Put.calls ref02_Put ref02_Putv1 ref15_PutRelocs) (fun g a h k hx => by
    rcases ref02_Put.look d (by omega) hx with hx | hx
    rotate_left
    · exact hx
    rcases ref02_Putv1.look d (by omega) hx with hx | hx
    rotate_left
    · exact hx
    rcases ref15_PutRelocs.look d (by omega) hx with hx | hx
    rotate_left
    · exact hx
    cases hx) (loopf := ref15_Put.loops (ref15_Put_L0 ROUNDS)) (by
    have e : loopsOf (ref15_Put.loops (ref15_Put_L0 ROUNDS)) 0 (codeOf Try.f16) = [(0, loopAt 0 (codeOf Try.f16))] := by kernel_rfl
    rw [e]
    intro p hp
    simp only [List.mem_cons, List.not_mem_nil, or_false] at hp
    rcases hp with rfl
    · refine loopRef_of (callf := callfOf (callK Try.prog ht d)) (callfOf_ref (callK_mono d)) fun lf st k hb hx => ?_
      cases hb
      rcases ref15_Put_L0.look hx with hx | hx
      rotate_left
      · exact ref15_Put_L0.ok d (by omega) _ _ _ hx
      cases hx) ((ref15_Put.eq ref02_Put ref02_Putv1 ref15_PutRelocs (ref15_Put_L0 ROUNDS) ns324 t325 k).trans hx)
theorem ref15_Put.look (d : Nat) (hd : 3 ≤ d) {e : Option Bool} {g : FuncId} {a : List AV} {h : Heap} {k : KR} (hx : ref15_Put.get ref15_Put e g a h k = some true) : e = some true ∨ callK Try.prog ht d g a h k = some true := by
  unfold ref15_Put.get at hx
  split at hx
  · exact .inr (ref15_Put.ok d hd _ _ _ hx)
  · exact .inl hx
/-- function 17: sheerleg/octet.New -/
noncomputable def octet_New.body (ns380 : List Int) (k1 : Int → Bool → Bool → (List Int) → Option Bool) : Option Bool :=
  (cond_ (Nat.ble (((0 : Nat) + (List.length ns380)) * (1 : Nat)) (140737488355328 : Nat)) (k1 (0 : Int) true false ([] ++ ns380)) none)
noncomputable def octet_New (ns380 : List Int) (k1 : Int → Bool → Bool → (List Int) → Option Bool) : Option Bool := octet_New.body ns380 k1
noncomputable def octet_New.get (F : (List Int) → (Int → Bool → Bool → (List Int) → Option Bool) → Option Bool) (e : Option Bool) (g : FuncId) (a : List AV) (h : Heap) (k : KR) : Option Bool := match g, a, h with
  | 17, [(.bv 0 5 (.int .u8) ns380)], [] => F ns380 (fun y0 y1 y2 y3 => k (.ptr [1, 0] 0 0) [([1, 0], ⟨68, 4, (.mix [(.agg [(.ref [1, 1]), (.d ⟨(.int .i64), y0⟩), (.d ⟨.bool, y1⟩), (.d ⟨.bool, y2⟩)])])⟩), ([1, 1], ⟨5, 1, (.data (.int .u8) y3)⟩)])
  | _, _, _ => e
noncomputable def octet_New.calls : RecF := fun g a h k => none
noncomputable def octet_New.loops : LoopF := fun b => none
set_option maxRecDepth 100000 in
theorem octet_New.eq (ns380 : List Int) (k : KR) : execL Try.prog ht 17 (callfOf (octet_New.calls)) (octet_New.loops) 0 (codeOf Try.f17) ⟨[(.bv 0 5 (.int .u8) ns380)] ++ List.replicate (Try.f17.ntmps - ([(.bv 0 5 (.int .u8) ns380)] : List AV).length) .undef, [], 2⟩ (leave Try.prog Try.f17 k) = octet_New.body ns380 (fun y0 y1 y2 y3 => k (.ptr [1, 0] 0 0) [([1, 0], ⟨68, 4, (.mix [(.agg [(.ref [1, 1]), (.d ⟨(.int .i64), y0⟩), (.d ⟨.bool, y1⟩), (.d ⟨.bool, y2⟩)])])⟩), ([1, 1], ⟨5, 1, (.data (.int .u8) y3)⟩)]) := by kernel_rfl
theorem octet_New.ok (d : Nat) (hd : 1 ≤ d) (ns380 : List Int) (k : KR) (hx : octet_New ns380 (fun y0 y1 y2 y3 => k (.ptr [1, 0] 0 0) [([1, 0], ⟨68, 4, (.mix [(.agg [(.ref [1, 1]), (.d ⟨(.int .i64), y0⟩), (.d ⟨.bool, y1⟩), (.d ⟨.bool, y2⟩)])])⟩), ([1, 1], ⟨5, 1, (.data (.int .u8) y3)⟩)]) = some true) : callK Try.prog ht d 17 [(.bv 0 5 (.int .u8) ns380)] [] k = some true := by
  obtain ⟨d, rfl⟩ : ∃ e, d = e + 1 := ⟨d - 1, by omega⟩
  exact fn_ok (c := codeOf Try.f17) Try.func17 (by kernel_rfl) (rec := octet_New.calls) (fun g a h k hx => by
    cases hx) (loopf := octet_New.loops) (by
    have e : loopsOf (octet_New.loops) 0 (codeOf Try.f17) = [] := by kernel_rfl
    rw [e]
    intro p hp
    cases hp) ((octet_New.eq ns380 k).trans hx)
theorem octet_New.look (d : Nat) (hd : 1 ≤ d) {e : Option Bool} {g : FuncId} {a : List AV} {h : Heap} {k : KR} (hx : octet_New.get octet_New e g a h k = some true) : e = some true ∨ callK Try.prog ht d g a h k = some true := by
  unfold octet_New.get at hx
  split at hx
  · exact .inr (octet_New.ok d hd _ _ hx)
  · exact .inl hx
/-- function 34: (*sheerleg/octet.Reader).Bad -/
noncomputable def octet_Reader_Bad.body (n404 : Int) (b405 : Bool) (b406 : Bool) (ns407 : List Int) (k1 : Bool → Int → Bool → Bool → (List Int) → Option Bool) : Option Bool :=
  (cond_ (! (! b405)) (k1 b406 n404 b405 b406 ns407) (k1 true n404 b405 b406 ns407))
noncomputable def octet_Reader_Bad (n404 : Int) (b405 : Bool) (b406 : Bool) (ns407 : List Int) (k1 : Bool → Int → Bool → Bool → (List Int) → Option Bool) : Option Bool := octet_Reader_Bad.body n404 b405 b406 ns407 k1
noncomputable def octet_Reader_Bad.get (F : Int → Bool → Bool → (List Int) → (Bool → Int → Bool → Bool → (List Int) → Option Bool) → Option Bool) (e : Option Bool) (g : FuncId) (a : List AV) (h : Heap) (k : KR) : Option Bool := match g, a, h with
  | 34, [(.ptr [0, 0] 0 0)], [([0, 0], ⟨68, 4, (.mix [(.agg [(.ref [0, 1]), (.d ⟨(.int .i64), n404⟩), (.d ⟨.bool, b405⟩), (.d ⟨.bool, b406⟩)])])⟩), ([0, 1], ⟨5, 1, (.data (.int .u8) ns407)⟩)] => F n404 b405 b406 ns407 (fun y0 y1 y2 y3 y4 => k (.d ⟨.bool, y0⟩) [([0, 0], ⟨68, 4, (.mix [(.agg [(.ref [0, 1]), (.d ⟨(.int .i64), y1⟩), (.d ⟨.bool, y2⟩), (.d ⟨.bool, y3⟩)])])⟩), ([0, 1], ⟨5, 1, (.data (.int .u8) y4)⟩)])
  | _, _, _ => e
noncomputable def octet_Reader_Bad.calls : RecF := fun g a h k => none
noncomputable def octet_Reader_Bad.loops : LoopF := fun b => none
set_option maxRecDepth 100000 in
theorem octet_Reader_Bad.eq (n404 : Int) (b405 : Bool) (b406 : Bool) (ns407 : List Int) (k : KR) : execL Try.prog ht 34 (callfOf (octet_Reader_Bad.calls)) (octet_Reader_Bad.loops) 0 (codeOf Try.f34) ⟨[(.ptr [0, 0] 0 0)] ++ List.replicate (Try.f34.ntmps - ([(.ptr [0, 0] 0 0)] : List AV).length) .undef, [([0, 0], ⟨68, 4, (.mix [(.agg [(.ref [0, 1]), (.d ⟨(.int .i64), n404⟩), (.d ⟨.bool, b405⟩), (.d ⟨.bool, b406⟩)])])⟩), ([0, 1], ⟨5, 1, (.data (.int .u8) ns407)⟩)], 2⟩ (leave Try.prog Try.f34 k) = octet_Reader_Bad.body n404 b405 b406 ns407 (fun y0 y1 y2 y3 y4 => k (.d ⟨.bool, y0⟩) [([0, 0], ⟨68, 4, (.mix [(.agg [(.ref [0, 1]), (.d ⟨(.int .i64), y1⟩), (.d ⟨.bool, y2⟩), (.d ⟨.bool, y3⟩)])])⟩), ([0, 1], ⟨5, 1, (.data (.int .u8) y4)⟩)]) := by kernel_rfl
theorem octet_Reader_Bad.ok (d : Nat) (hd : 1 ≤ d) (n404 : Int) (b405 : Bool) (b406 : Bool) (ns407 : List Int) (k : KR) (hx : octet_Reader_Bad n404 b405 b406 ns407 (fun y0 y1 y2 y3 y4 => k (.d ⟨.bool, y0⟩) [([0, 0], ⟨68, 4, (.mix [(.agg [(.ref [0, 1]), (.d ⟨(.int .i64), y1⟩), (.d ⟨.bool, y2⟩), (.d ⟨.bool, y3⟩)])])⟩), ([0, 1], ⟨5, 1, (.data (.int .u8) y4)⟩)]) = some true) : callK Try.prog ht d 34 [(.ptr [0, 0] 0 0)] [([0, 0], ⟨68, 4, (.mix [(.agg [(.ref [0, 1]), (.d ⟨(.int .i64), n404⟩), (.d ⟨.bool, b405⟩), (.d ⟨.bool, b406⟩)])])⟩), ([0, 1], ⟨5, 1, (.data (.int .u8) ns407)⟩)] k = some true := by
  obtain ⟨d, rfl⟩ : ∃ e, d = e + 1 := ⟨d - 1, by omega⟩
  exact fn_ok (c := codeOf Try.f34) Try.func34 (by kernel_rfl) (rec := octet_Reader_Bad.calls) (fun g a h k hx => by
    cases hx) (loopf := octet_Reader_Bad.loops) (by
    have e : loopsOf (octet_Reader_Bad.loops) 0 (codeOf Try.f34) = [] := by kernel_rfl
    rw [e]
    intro p hp
    cases hp) ((octet_Reader_Bad.eq n404 b405 b406 ns407 k).trans hx)
theorem octet_Reader_Bad.look (d : Nat) (hd : 1 ≤ d) {e : Option Bool} {g : FuncId} {a : List AV} {h : Heap} {k : KR} (hx : octet_Reader_Bad.get octet_Reader_Bad e g a h k = some true) : e = some true ∨ callK Try.prog ht d g a h k = some true := by
  unfold octet_Reader_Bad.get at hx
  split at hx
  · exact .inr (octet_Reader_Bad.ok d hd _ _ _ _ _ hx)
  · exact .inl hx
/-- function 54: (*sheerleg/octet.Reader).Left -/
noncomputable def octet_Reader_Left.body (n413 : Int) (b414 : Bool) (b415 : Bool) (ns416 : List Int) (k1 : Int → Int → Bool → Bool → (List Int) → Option Bool) : Option Bool :=
  (k1 (IntKind.wrap .i64 ((((List.length ns416) : Nat) : Int) - n413)) n413 b414 b415 ns416)
noncomputable def octet_Reader_Left (n413 : Int) (b414 : Bool) (b415 : Bool) (ns416 : List Int) (k1 : Int → Int → Bool → Bool → (List Int) → Option Bool) : Option Bool := octet_Reader_Left.body n413 b414 b415 ns416 k1
noncomputable def octet_Reader_Left.get (F : Int → Bool → Bool → (List Int) → (Int → Int → Bool → Bool → (List Int) → Option Bool) → Option Bool) (e : Option Bool) (g : FuncId) (a : List AV) (h : Heap) (k : KR) : Option Bool := match g, a, h with
  | 54, [(.ptr [0, 0] 0 0)], [([0, 0], ⟨68, 4, (.mix [(.agg [(.ref [0, 1]), (.d ⟨(.int .i64), n413⟩), (.d ⟨.bool, b414⟩), (.d ⟨.bool, b415⟩)])])⟩), ([0, 1], ⟨5, 1, (.data (.int .u8) ns416)⟩)] => F n413 b414 b415 ns416 (fun y0 y1 y2 y3 y4 => k (.d ⟨(.int .i64), y0⟩) [([0, 0], ⟨68, 4, (.mix [(.agg [(.ref [0, 1]), (.d ⟨(.int .i64), y1⟩), (.d ⟨.bool, y2⟩), (.d ⟨.bool, y3⟩)])])⟩), ([0, 1], ⟨5, 1, (.data (.int .u8) y4)⟩)])
  | _, _, _ => e
noncomputable def octet_Reader_Left.calls : RecF := fun g a h k => none
noncomputable def octet_Reader_Left.loops : LoopF := fun b => none
set_option maxRecDepth 100000 in
theorem octet_Reader_Left.eq (n413 : Int) (b414 : Bool) (b415 : Bool) (ns416 : List Int) (k : KR) : execL Try.prog ht 54 (callfOf (octet_Reader_Left.calls)) (octet_Reader_Left.loops) 0 (codeOf Try.f54) ⟨[(.ptr [0, 0] 0 0)] ++ List.replicate (Try.f54.ntmps - ([(.ptr [0, 0] 0 0)] : List AV).length) .undef, [([0, 0], ⟨68, 4, (.mix [(.agg [(.ref [0, 1]), (.d ⟨(.int .i64), n413⟩), (.d ⟨.bool, b414⟩), (.d ⟨.bool, b415⟩)])])⟩), ([0, 1], ⟨5, 1, (.data (.int .u8) ns416)⟩)], 2⟩ (leave Try.prog Try.f54 k) = octet_Reader_Left.body n413 b414 b415 ns416 (fun y0 y1 y2 y3 y4 => k (.d ⟨(.int .i64), y0⟩) [([0, 0], ⟨68, 4, (.mix [(.agg [(.ref [0, 1]), (.d ⟨(.int .i64), y1⟩), (.d ⟨.bool, y2⟩), (.d ⟨.bool, y3⟩)])])⟩), ([0, 1], ⟨5, 1, (.data (.int .u8) y4)⟩)]) := by kernel_rfl
theorem octet_Reader_Left.ok (d : Nat) (hd : 1 ≤ d) (n413 : Int) (b414 : Bool) (b415 : Bool) (ns416 : List Int) (k : KR) (hx : octet_Reader_Left n413 b414 b415 ns416 (fun y0 y1 y2 y3 y4 => k (.d ⟨(.int .i64), y0⟩) [([0, 0], ⟨68, 4, (.mix [(.agg [(.ref [0, 1]), (.d ⟨(.int .i64), y1⟩), (.d ⟨.bool, y2⟩), (.d ⟨.bool, y3⟩)])])⟩), ([0, 1], ⟨5, 1, (.data (.int .u8) y4)⟩)]) = some true) : callK Try.prog ht d 54 [(.ptr [0, 0] 0 0)] [([0, 0], ⟨68, 4, (.mix [(.agg [(.ref [0, 1]), (.d ⟨(.int .i64), n413⟩), (.d ⟨.bool, b414⟩), (.d ⟨.bool, b415⟩)])])⟩), ([0, 1], ⟨5, 1, (.data (.int .u8) ns416)⟩)] k = some true := by
  obtain ⟨d, rfl⟩ : ∃ e, d = e + 1 := ⟨d - 1, by omega⟩
  exact fn_ok (c := codeOf Try.f54) Try.func54 (by kernel_rfl) (rec := octet_Reader_Left.calls) (fun g a h k hx => by
    cases hx) (loopf := octet_Reader_Left.loops) (by
    have e : loopsOf (octet_Reader_Left.loops) 0 (codeOf Try.f54) = [] := by kernel_rfl
    rw [e]
    intro p hp
    cases hp) ((octet_Reader_Left.eq n413 b414 b415 ns416 k).trans hx)
theorem octet_Reader_Left.look (d : Nat) (hd : 1 ≤ d) {e : Option Bool} {g : FuncId} {a : List AV} {h : Heap} {k : KR} (hx : octet_Reader_Left.get octet_Reader_Left e g a h k = some true) : e = some true ∨ callK Try.prog ht d g a h k = some true := by
  unfold octet_Reader_Left.get at hx
  split at hx
  · exact .inr (octet_Reader_Left.ok d hd _ _ _ _ _ hx)
  · exact .inl hx
/-- function 55: (*sheerleg/octet.Reader).spoil -/
noncomputable def octet_Reader_spoil.body (n422 : Int) (b423 : Bool) (b424 : Bool) (ns425 : List Int) (k1 : Int → Bool → Bool → (List Int) → Option Bool) : Option Bool :=
  (k1 n422 b423 true ns425)
noncomputable def octet_Reader_spoil (n422 : Int) (b423 : Bool) (b424 : Bool) (ns425 : List Int) (k1 : Int → Bool → Bool → (List Int) → Option Bool) : Option Bool := octet_Reader_spoil.body n422 b423 b424 ns425 k1
noncomputable def octet_Reader_spoil.get (F : Int → Bool → Bool → (List Int) → (Int → Bool → Bool → (List Int) → Option Bool) → Option Bool) (e : Option Bool) (g : FuncId) (a : List AV) (h : Heap) (k : KR) : Option Bool := match g, a, h with
  | 55, [(.ptr [0, 0] 0 0)], [([0, 0], ⟨68, 4, (.mix [(.agg [(.ref [0, 1]), (.d ⟨(.int .i64), n422⟩), (.d ⟨.bool, b423⟩), (.d ⟨.bool, b424⟩)])])⟩), ([0, 1], ⟨5, 1, (.data (.int .u8) ns425)⟩)] => F n422 b423 b424 ns425 (fun y0 y1 y2 y3 => k (.tup []) [([0, 0], ⟨68, 4, (.mix [(.agg [(.ref [0, 1]), (.d ⟨(.int .i64), y0⟩), (.d ⟨.bool, y1⟩), (.d ⟨.bool, y2⟩)])])⟩), ([0, 1], ⟨5, 1, (.data (.int .u8) y3)⟩)])
  | _, _, _ => e
noncomputable def octet_Reader_spoil.calls : RecF := fun g a h k => none
noncomputable def octet_Reader_spoil.loops : LoopF := fun b => none
set_option maxRecDepth 100000 in
theorem octet_Reader_spoil.eq (n422 : Int) (b423 : Bool) (b424 : Bool) (ns425 : List Int) (k : KR) : execL Try.prog ht 55 (callfOf (octet_Reader_spoil.calls)) (octet_Reader_spoil.loops) 0 (codeOf Try.f55) ⟨[(.ptr [0, 0] 0 0)] ++ List.replicate (Try.f55.ntmps - ([(.ptr [0, 0] 0 0)] : List AV).length) .undef, [([0, 0], ⟨68, 4, (.mix [(.agg [(.ref [0, 1]), (.d ⟨(.int .i64), n422⟩), (.d ⟨.bool, b423⟩), (.d ⟨.bool, b424⟩)])])⟩), ([0, 1], ⟨5, 1, (.data (.int .u8) ns425)⟩)], 2⟩ (leave Try.prog Try.f55 k) = octet_Reader_spoil.body n422 b423 b424 ns425 (fun y0 y1 y2 y3 => k (.tup []) [([0, 0], ⟨68, 4, (.mix [(.agg [(.ref [0, 1]), (.d ⟨(.int .i64), y0⟩), (.d ⟨.bool, y1⟩), (.d ⟨.bool, y2⟩)])])⟩), ([0, 1], ⟨5, 1, (.data (.int .u8) y3)⟩)]) := by kernel_rfl
theorem octet_Reader_spoil.ok (d : Nat) (hd : 1 ≤ d) (n422 : Int) (b423 : Bool) (b424 : Bool) (ns425 : List Int) (k : KR) (hx : octet_Reader_spoil n422 b423 b424 ns425 (fun y0 y1 y2 y3 => k (.tup []) [([0, 0], ⟨68, 4, (.mix [(.agg [(.ref [0, 1]), (.d ⟨(.int .i64), y0⟩), (.d ⟨.bool, y1⟩), (.d ⟨.bool, y2⟩)])])⟩), ([0, 1], ⟨5, 1, (.data (.int .u8) y3)⟩)]) = some true) : callK Try.prog ht d 55 [(.ptr [0, 0] 0 0)] [([0, 0], ⟨68, 4, (.mix [(.agg [(.ref [0, 1]), (.d ⟨(.int .i64), n422⟩), (.d ⟨.bool, b423⟩), (.d ⟨.bool, b424⟩)])])⟩), ([0, 1], ⟨5, 1, (.data (.int .u8) ns425)⟩)] k = some true := by
  obtain ⟨d, rfl⟩ : ∃ e, d = e + 1 := ⟨d - 1, by omega⟩
  exact fn_ok (c := codeOf Try.f55) Try.func55 (by kernel_rfl) (rec := octet_Reader_spoil.calls) (fun g a h k hx => by
    cases hx) (loopf := octet_Reader_spoil.loops) (by
    have e : loopsOf (octet_Reader_spoil.loops) 0 (codeOf Try.f55) = [] := by kernel_rfl
    rw [e]
    intro p hp
    cases hp) ((octet_Reader_spoil.eq n422 b423 b424 ns425 k).trans hx)
theorem octet_Reader_spoil.look (d : Nat) (hd : 1 ≤ d) {e : Option Bool} {g : FuncId} {a : List AV} {h : Heap} {k : KR} (hx : octet_Reader_spoil.get octet_Reader_spoil e g a h k = some true) : e = some true ∨ callK Try.prog ht d g a h k = some true := by
  unfold octet_Reader_spoil.get at hx
  split at hx
  · exact .inr (octet_Reader_spoil.ok d hd _ _ _ _ _ hx)
  · exact .inl hx
/-- function 51: (*sheerleg/octet.Reader).take -/
noncomputable def octet_Reader_take.body (octet_Reader_Bad : Int → Bool → Bool → (List Int) → (Bool → Int → Bool → Bool → (List Int) → Option Bool) → Option Bool) (octet_Reader_Left : Int → Bool → Bool → (List Int) → (Int → Int → Bool → Bool → (List Int) → Option Bool) → Option Bool) (octet_Reader_spoil : Int → Bool → Bool → (List Int) → (Int → Bool → Bool → (List Int) → Option Bool) → Option Bool) (n399 : Int) (n400 : Int) (b401 : Bool) (b402 : Bool) (ns403 : List Int) (k1 : Int → Bool → Bool → (List Int) → (List Int) → Option Bool) (k2 : Nat → Nat → Int → Bool → Bool → (List Int) → Option Bool) : Option Bool :=
  (octet_Reader_Bad n400 b401 b402 ns403
  (fun b408 n409 b410 b411 ns412 => (cond_ (! b408) (cond_ (! (decide (n399 < (0 : Int)))) (octet_Reader_Left n409 b410 b411 ns412
  (fun n417 n418 b419 b420 ns421 => (cond_ (decide (n399 > n417)) (octet_Reader_spoil n418 b419 b420 ns421
  (fun n426 b427 b428 ns429 => (k1 n426 b427 b428 ns429 []))) (cond_ (((decide ((0 : Int) ≤ (IntKind.wrap .i64 ((IntKind.wrap .i64 (n418 + n399)) - n399)))) && (decide ((IntKind.wrap .i64 ((IntKind.wrap .i64 (n418 + n399)) - n399)) ≤ (IntKind.wrap .i64 (n418 + n399))))) && (decide ((IntKind.wrap .i64 (n418 + n399)) ≤ (((List.length ns421) : Nat) : Int)))) (k2 (Int.toNat (IntKind.wrap .i64 ((IntKind.wrap .i64 (n418 + n399)) - n399))) (Int.toNat ((IntKind.wrap .i64 (n418 + n399)) - (IntKind.wrap .i64 ((IntKind.wrap .i64 (n418 + n399)) - n399)))) (IntKind.wrap .i64 (n418 + n399)) b419 b420 ns421) none)))) (octet_Reader_spoil n409 b410 b411 ns412
  (fun n430 b431 b432 ns433 => (k1 n430 b431 b432 ns433 [])))) (octet_Reader_spoil n409 b410 b411 ns412
  (fun n434 b435 b436 ns437 => (k1 n434 b435 b436 ns437 []))))))
noncomputable def octet_Reader_take (n399 : Int) (n400 : Int) (b401 : Bool) (b402 : Bool) (ns403 : List Int) (k1 : Int → Bool → Bool → (List Int) → (List Int) → Option Bool) (k2 : Nat → Nat → Int → Bool → Bool → (List Int) → Option Bool) : Option Bool := octet_Reader_take.body octet_Reader_Bad octet_Reader_Left octet_Reader_spoil n399 n400 b401 b402 ns403 k1 k2
noncomputable def octet_Reader_take.get (F : Int → Int → Bool → Bool → (List Int) → (Int → Bool → Bool → (List Int) → (List Int) → Option Bool) → (Nat → Nat → Int → Bool → Bool → (List Int) → Option Bool) → Option Bool) (e : Option Bool) (g : FuncId) (a : List AV) (h : Heap) (k : KR) : Option Bool := match g, a, h with
  | 51, [(.ptr [0, 0] 0 0), (.d ⟨(.int .i64), n399⟩)], [([0, 0], ⟨68, 4, (.mix [(.agg [(.ref [0, 1]), (.d ⟨(.int .i64), n400⟩), (.d ⟨.bool, b401⟩), (.d ⟨.bool, b402⟩)])])⟩), ([0, 1], ⟨5, 1, (.data (.int .u8) ns403)⟩)] => F n399 n400 b401 b402 ns403 (fun y0 y1 y2 y3 y4 => k (.ref [1, 0]) [([0, 0], ⟨68, 4, (.mix [(.agg [(.ref [0, 1]), (.d ⟨(.int .i64), y0⟩), (.d ⟨.bool, y1⟩), (.d ⟨.bool, y2⟩)])])⟩), ([0, 1], ⟨5, 1, (.data (.int .u8) y3)⟩), ([1, 0], ⟨5, 1, (.data (.int .u8) y4)⟩)]) (fun y0 y1 y2 y3 y4 y5 => k (.cut [0, 1] y0 y1) [([0, 0], ⟨68, 4, (.mix [(.agg [(.ref [0, 1]), (.d ⟨(.int .i64), y2⟩), (.d ⟨.bool, y3⟩), (.d ⟨.bool, y4⟩)])])⟩), ([0, 1], ⟨5, 1, (.data (.int .u8) y5)⟩)])
  | _, _, _ => e
noncomputable def octet_Reader_take.calls (F0 : Int → Bool → Bool → (List Int) → (Bool → Int → Bool → Bool → (List Int) → Option Bool) → Option Bool) (F1 : Int → Bool → Bool → (List Int) → (Int → Int → Bool → Bool → (List Int) → Option Bool) → Option Bool) (F2 : Int → Bool → Bool → (List Int) → (Int → Bool → Bool → (List Int) → Option Bool) → Option Bool) : RecF := fun g a h k => (octet_Reader_Bad.get F0 (octet_Reader_Left.get F1 (octet_Reader_spoil.get F2 none g a h k) g a h k) g a h k)
noncomputable def octet_Reader_take.loops : LoopF := fun b => none
set_option maxRecDepth 100000 in
theorem octet_Reader_take.eq (F0 : Int → Bool → Bool → (List Int) → (Bool → Int → Bool → Bool → (List Int) → Option Bool) → Option Bool) (F1 : Int → Bool → Bool → (List Int) → (Int → Int → Bool → Bool → (List Int) → Option Bool) → Option Bool) (F2 : Int → Bool → Bool → (List Int) → (Int → Bool → Bool → (List Int) → Option Bool) → Option Bool) (n399 : Int) (n400 : Int) (b401 : Bool) (b402 : Bool) (ns403 : List Int) (k : KR) : execL Try.prog ht 51 (callfOf (octet_Reader_take.calls F0 F1 F2)) (octet_Reader_take.loops) 0 (codeOf Try.f51) ⟨[(.ptr [0, 0] 0 0), (.d ⟨(.int .i64), n399⟩)] ++ List.replicate (Try.f51.ntmps - ([(.ptr [0, 0] 0 0), (.d ⟨(.int .i64), n399⟩)] : List AV).length) .undef, [([0, 0], ⟨68, 4, (.mix [(.agg [(.ref [0, 1]), (.d ⟨(.int .i64), n400⟩), (.d ⟨.bool, b401⟩), (.d ⟨.bool, b402⟩)])])⟩), ([0, 1], ⟨5, 1, (.data (.int .u8) ns403)⟩)], 2⟩ (leave Try.prog Try.f51 k) = octet_Reader_take.body F0 F1 F2 n399 n400 b401 b402 ns403 (fun y0 y1 y2 y3 y4 => k (.ref [1, 0]) [([0, 0], ⟨68, 4, (.mix [(.agg [(.ref [0, 1]), (.d ⟨(.int .i64), y0⟩), (.d ⟨.bool, y1⟩), (.d ⟨.bool, y2⟩)])])⟩), ([0, 1], ⟨5, 1, (.data (.int .u8) y3)⟩), ([1, 0], ⟨5, 1, (.data (.int .u8) y4)⟩)]) (fun y0 y1 y2 y3 y4 y5 => k (.cut [0, 1] y0 y1) [([0, 0], ⟨68, 4, (.mix [(.agg [(.ref [0, 1]), (.d ⟨(.int .i64), y2⟩), (.d ⟨.bool, y3⟩), (.d ⟨.bool, y4⟩)])])⟩), ([0, 1], ⟨5, 1, (.data (.int .u8) y5)⟩)]) := by kernel_rfl
theorem octet_Reader_take.ok (d : Nat) (hd : 2 ≤ d) (n399 : Int) (n400 : Int) (b401 : Bool) (b402 : Bool) (ns403 : List Int) (k : KR) (hx : octet_Reader_take n399 n400 b401 b402 ns403 (fun y0 y1 y2 y3 y4 => k (.ref [1, 0]) [([0, 0], ⟨68, 4, (.mix [(.agg [(.ref [0, 1]), (.d ⟨(.int .i64), y0⟩), (.d ⟨.bool, y1⟩), (.d ⟨.bool, y2⟩)])])⟩), ([0, 1], ⟨5, 1, (.data (.int .u8) y3)⟩), ([1, 0], ⟨5, 1, (.data (.int .u8) y4)⟩)]) (fun y0 y1 y2 y3 y4 y5 => k (.cut [0, 1] y0 y1) [([0, 0], ⟨68, 4, (.mix [(.agg [(.ref [0, 1]), (.d ⟨(.int .i64), y2⟩), (.d ⟨.bool, y3⟩), (.d ⟨.bool, y4⟩)])])⟩), ([0, 1], ⟨5, 1, (.data (.int .u8) y5)⟩)]) = some true) : callK Try.prog ht d 51 [(.ptr [0, 0] 0 0), (.d ⟨(.int .i64), n399⟩)] [([0, 0], ⟨68, 4, (.mix [(.agg [(.ref [0, 1]), (.d ⟨(.int .i64), n400⟩), (.d ⟨.bool, b401⟩), (.d ⟨.bool, b402⟩)])])⟩), ([0, 1], ⟨5, 1, (.data (.int .u8) ns403)⟩)] k = some true := by
  obtain ⟨d, rfl⟩ : ∃ e, d = e + 1 := ⟨d - 1, by omega⟩
  exact fn_ok (c := codeOf Try.f51) Try.func51 (by kernel_rfl) (rec := octet_Reader_take.calls octet_Reader_Bad octet_Reader_Left octet_Reader_spoil) (fun g a h k hx => by
    rcases octet_Reader_Bad.look d (by omega) hx with hx | hx
    rotate_left
    · exact hx
    rcases octet_Reader_Left.look d (by omega) hx with hx | hx
    rotate_left
    · exact hx
    rcases octet_Reader_spoil.look d (by omega) hx with hx | hx
    rotate_left
    · exact hx
    cases hx) (loopf := octet_Reader_take.loops) (by
    have e : loopsOf (octet_Reader_take.loops) 0 (codeOf Try.f51) = [] := by kernel_rfl
    rw [e]
    intro p hp
    cases hp) ((octet_Reader_take.eq octet_Reader_Bad octet_Reader_Left octet_Reader_spoil n399 n400 b401 b402 ns403 k).trans hx)
theorem octet_Reader_take.look (d : Nat) (hd : 2 ≤ d) {e : Option Bool} {g : FuncId} {a : List AV} {h : Heap} {k : KR} (hx : octet_Reader_take.get octet_Reader_take e g a h k = some true) : e = some true ∨ callK Try.prog ht d g a h k = some true := by
  unfold octet_Reader_take.get at hx
  split at hx
  · exact .inr (octet_Reader_take.ok d hd _ _ _ _ _ _ hx)
  · exact .inl hx
/-- function 50: the loop in block 0 -/
noncomputable def octet_number_L0.body (octet_number_L0 : Int → Int → Int → Int → Bool → Bool → (List Int) → (List Int) → (Int → Int → Bool → Bool → (List Int) → (List Int) → Option Bool) → Option Bool) (n443 : Int) (n444 : Int) (n445 : Int) (n446 : Int) (b447 : Bool) (b448 : Bool) (ns449 : List Int) (ns450 : List Int) (k1 : Int → Int → Bool → Bool → (List Int) → (List Int) → Option Bool) : Option Bool :=
  (cond_ (decide (n445 < n444)) (cond_ ((decide ((0 : Int) ≤ n445)) && (decide (n445 < (((List.length ns450) : Nat) : Int)))) (octet_number_L0 (IntKind.wrap .i64 (((@BitVec.toNat (64 : Nat) ((@BitVec.ofInt (64 : Nat) (IntKind.wrap .i64 (n443 * (256 : Int)))) ||| (@BitVec.ofInt (64 : Nat) (IntKind.wrap .i64 (List.getD ns450 (Int.toNat n445) (0 : Int)))))) : Nat) : Int)) n444 (IntKind.wrap .i64 (n445 + (1 : Int))) n446 b447 b448 ns449 ns450 k1) none) (k1 n443 n446 b447 b448 ns449 ns450))
noncomputable def octet_number_L0 : Nat → Int → Int → Int → Int → Bool → Bool → (List Int) → (List Int) → (Int → Int → Bool → Bool → (List Int) → (List Int) → Option Bool) → Option Bool
  | 0 => fun _ _ _ _ _ _ _ _ _ => none
  | n + 1 => octet_number_L0.body (octet_number_L0 n)
noncomputable def octet_number_L0.get (F : Int → Int → Int → Int → Bool → Bool → (List Int) → (List Int) → (Int → Int → Bool → Bool → (List Int) → (List Int) → Option Bool) → Option Bool) (e : Option Bool) (st : St) (k : KE) : Option Bool := match st with
  | ⟨sl, hp, m⟩ => match Nat.beq m 2, pickS 33 [6, 7, 19, 20, 21] sl, hp with
    | true, some [(.d ⟨(.int .i64), n443⟩), (.ref [1, 0]), (.ref [1, 0]), (.d ⟨(.int .i64), n444⟩), (.d ⟨(.int .i64), n445⟩)], [([0, 0], ⟨68, 4, (.mix [(.agg [(.ref [0, 1]), (.d ⟨(.int .i64), n446⟩), (.d ⟨.bool, b447⟩), (.d ⟨.bool, b448⟩)])])⟩), ([0, 1], ⟨5, 1, (.data (.int .u8) ns449)⟩), ([1, 0], ⟨5, 1, (.data (.int .u8) ns450)⟩)] => F n443 n444 n445 n446 b447 b448 ns449 ns450 (fun y0 y1 y2 y3 y4 y5 => k (.exit 0) ⟨fillS 33 [6, 7] [(.d ⟨(.int .i64), y0⟩), (.ref [1, 0])], [([0, 0], ⟨68, 4, (.mix [(.agg [(.ref [0, 1]), (.d ⟨(.int .i64), y1⟩), (.d ⟨.bool, y2⟩), (.d ⟨.bool, y3⟩)])])⟩), ([0, 1], ⟨5, 1, (.data (.int .u8) y4)⟩), ([1, 0], ⟨5, 1, (.data (.int .u8) y5)⟩)], 2⟩)
    | _, _, _ => e
noncomputable def octet_number_L0.calls : RecF := fun g a h k => none
noncomputable def octet_number_L0.loops : LoopF := fun b => none
set_option maxRecDepth 100000 in
theorem octet_number_L0.step (S : Int → Int → Int → Int → Bool → Bool → (List Int) → (List Int) → (Int → Int → Bool → Bool → (List Int) → (List Int) → Option Bool) → Option Bool) (n443 : Int) (n444 : Int) (n445 : Int) (n446 : Int) (b447 : Bool) (b448 : Bool) (ns449 : List Int) (ns450 : List Int) (k : KE) : execL Try.prog ht 50 (callfOf (octet_number_L0.calls)) (octet_number_L0.loops) 0 (loopAt 0 (codeOf Try.f50)) ⟨fillS 33 [6, 7, 19, 20, 21] [(.d ⟨(.int .i64), n443⟩), (.ref [1, 0]), (.ref [1, 0]), (.d ⟨(.int .i64), n444⟩), (.d ⟨(.int .i64), n445⟩)], [([0, 0], ⟨68, 4, (.mix [(.agg [(.ref [0, 1]), (.d ⟨(.int .i64), n446⟩), (.d ⟨.bool, b447⟩), (.d ⟨.bool, b448⟩)])])⟩), ([0, 1], ⟨5, 1, (.data (.int .u8) ns449)⟩), ([1, 0], ⟨5, 1, (.data (.int .u8) ns450)⟩)], 2⟩ (again (octet_number_L0.get S none) (plan Try.prog (ht 50 0)) k) = octet_number_L0.body S n443 n444 n445 n446 b447 b448 ns449 ns450 (fun y0 y1 y2 y3 y4 y5 => k (.exit 0) ⟨fillS 33 [6, 7] [(.d ⟨(.int .i64), y0⟩), (.ref [1, 0])], [([0, 0], ⟨68, 4, (.mix [(.agg [(.ref [0, 1]), (.d ⟨(.int .i64), y1⟩), (.d ⟨.bool, y2⟩), (.d ⟨.bool, y3⟩)])])⟩), ([0, 1], ⟨5, 1, (.data (.int .u8) y4)⟩), ([1, 0], ⟨5, 1, (.data (.int .u8) y5)⟩)], 2⟩) := by kernel_rfl
theorem octet_number_L0.ok (d : Nat) (hd : 0 ≤ d) : ∀ n st k, octet_number_L0.get (octet_number_L0 n) none st k = some true → iter n (plan Try.prog (ht 50 0)) (fun st k => execK Try.prog ht 50 (callfOf (callK Try.prog ht d)) 0 (loopAt 0 (codeOf Try.f50)) st k) st k = some true :=
  loop_ok (lfn := fun n st k => octet_number_L0.get (octet_number_L0 n) none st k) (rec := octet_number_L0.calls) (fun g a h k hx => by
    cases hx) (loopf := octet_number_L0.loops) (by
    have e : loopsOf (octet_number_L0.loops) 0 (loopAt 0 (codeOf Try.f50)) = [] := by kernel_rfl
    rw [e]
    intro p hp
    cases hp) (fun st k h => by
    obtain ⟨sl, hp, m⟩ := st
    unfold octet_number_L0.get at h
    dsimp only at h
    split at h
    · have h' : (none : Option Bool) = some true := h
      cases h'
    · cases h) (fun n st k h => by
    obtain ⟨sl, hp, m⟩ := st
    unfold octet_number_L0.get at h
    dsimp only at h
    split at h
    · rename_i h1 h2
      obtain rfl := pickS_ok h2
      obtain rfl := Nat.eq_of_beq_eq_true h1
      exact (octet_number_L0.step (octet_number_L0 n) _ _ _ _ _ _ _ _ k).trans h
    · cases h)
theorem octet_number_L0.look {F : Int → Int → Int → Int → Bool → Bool → (List Int) → (List Int) → (Int → Int → Bool → Bool → (List Int) → (List Int) → Option Bool) → Option Bool} {e : Option Bool} {st : St} {k : KE} (hx : octet_number_L0.get F e st k = some true) : e = some true ∨ octet_number_L0.get F none st k = some true := by
  obtain ⟨sl, hp, m⟩ := st
  unfold octet_number_L0.get at hx ⊢
  dsimp only at hx ⊢
  split at hx
  · exact .inr hx
  · exact .inl hx
/-- function 50: the loop in block 0 -/
noncomputable def octet_number_L0v1.body (octet_number_L0v1 : Int → Nat → Nat → Nat → Nat → Int → Int → Int → Bool → Bool → (List Int) → (Int → Nat → Nat → Int → Bool → Bool → (List Int) → Option Bool) → Option Bool) (n463 : Int) (m464 : Nat) (m465 : Nat) (m466 : Nat) (m467 : Nat) (n468 : Int) (n469 : Int) (n470 : Int) (b471 : Bool) (b472 : Bool) (ns473 : List Int) (k1 : Int → Nat → Nat → Int → Bool → Bool → (List Int) → Option Bool) : Option Bool :=
  (cond_ (decide (n469 < n468)) (cond_ ((decide ((0 : Int) ≤ n469)) && (decide (n469 < ((m467 : Nat) : Int)))) (octet_number_L0v1 (IntKind.wrap .i64 (((@BitVec.toNat (64 : Nat) ((@BitVec.ofInt (64 : Nat) (IntKind.wrap .i64 (n463 * (256 : Int)))) ||| (@BitVec.ofInt (64 : Nat) (IntKind.wrap .i64 (List.getD ns473 (m466 + (Int.toNat n469)) (0 : Int)))))) : Nat) : Int)) m464 m465 m466 m467 n468 (IntKind.wrap .i64 (n469 + (1 : Int))) n470 b471 b472 ns473 k1) none) (k1 n463 m464 m465 n470 b471 b472 ns473))
noncomputable def octet_number_L0v1 : Nat → Int → Nat → Nat → Nat → Nat → Int → Int → Int → Bool → Bool → (List Int) → (Int → Nat → Nat → Int → Bool → Bool → (List Int) → Option Bool) → Option Bool
  | 0 => fun _ _ _ _ _ _ _ _ _ _ _ _ => none
  | n + 1 => octet_number_L0v1.body (octet_number_L0v1 n)
noncomputable def octet_number_L0v1.get (F : Int → Nat → Nat → Nat → Nat → Int → Int → Int → Bool → Bool → (List Int) → (Int → Nat → Nat → Int → Bool → Bool → (List Int) → Option Bool) → Option Bool) (e : Option Bool) (st : St) (k : KE) : Option Bool := match st with
  | ⟨sl, hp, m⟩ => match Nat.beq m 2, pickS 33 [6, 7, 19, 20, 21] sl, hp with
    | true, some [(.d ⟨(.int .i64), n463⟩), (.cut [0, 1] m464 m465), (.cut [0, 1] m466 m467), (.d ⟨(.int .i64), n468⟩), (.d ⟨(.int .i64), n469⟩)], [([0, 0], ⟨68, 4, (.mix [(.agg [(.ref [0, 1]), (.d ⟨(.int .i64), n470⟩), (.d ⟨.bool, b471⟩), (.d ⟨.bool, b472⟩)])])⟩), ([0, 1], ⟨5, 1, (.data (.int .u8) ns473)⟩)] => F n463 m464 m465 m466 m467 n468 n469 n470 b471 b472 ns473 (fun y0 y1 y2 y3 y4 y5 y6 => k (.exit 0) ⟨fillS 33 [6, 7] [(.d ⟨(.int .i64), y0⟩), (.cut [0, 1] y1 y2)], [([0, 0], ⟨68, 4, (.mix [(.agg [(.ref [0, 1]), (.d ⟨(.int .i64), y3⟩), (.d ⟨.bool, y4⟩), (.d ⟨.bool, y5⟩)])])⟩), ([0, 1], ⟨5, 1, (.data (.int .u8) y6)⟩)], 2⟩)
    | _, _, _ => e
noncomputable def octet_number_L0v1.calls : RecF := fun g a h k => none
noncomputable def octet_number_L0v1.loops : LoopF := fun b => none
set_option maxRecDepth 100000 in
theorem octet_number_L0v1.step (S : Int → Nat → Nat → Nat → Nat → Int → Int → Int → Bool → Bool → (List Int) → (Int → Nat → Nat → Int → Bool → Bool → (List Int) → Option Bool) → Option Bool) (n463 : Int) (m464 : Nat) (m465 : Nat) (m466 : Nat) (m467 : Nat) (n468 : Int) (n469 : Int) (n470 : Int) (b471 : Bool) (b472 : Bool) (ns473 : List Int) (k : KE) : execL Try.prog ht 50 (callfOf (octet_number_L0v1.calls)) (octet_number_L0v1.loops) 0 (loopAt 0 (codeOf Try.f50)) ⟨fillS 33 [6, 7, 19, 20, 21] [(.d ⟨(.int .i64), n463⟩), (.cut [0, 1] m464 m465), (.cut [0, 1] m466 m467), (.d ⟨(.int .i64), n468⟩), (.d ⟨(.int .i64), n469⟩)], [([0, 0], ⟨68, 4, (.mix [(.agg [(.ref [0, 1]), (.d ⟨(.int .i64), n470⟩), (.d ⟨.bool, b471⟩), (.d ⟨.bool, b472⟩)])])⟩), ([0, 1], ⟨5, 1, (.data (.int .u8) ns473)⟩)], 2⟩ (again (octet_number_L0v1.get S none) (plan Try.prog (ht 50 0)) k) = octet_number_L0v1.body S n463 m464 m465 m466 m467 n468 n469 n470 b471 b472 ns473 (fun y0 y1 y2 y3 y4 y5 y6 => k (.exit 0) ⟨fillS 33 [6, 7] [(.d ⟨(.int .i64), y0⟩), (.cut [0, 1] y1 y2)], [([0, 0], ⟨68, 4, (.mix [(.agg [(.ref [0, 1]), (.d ⟨(.int .i64), y3⟩), (.d ⟨.bool, y4⟩), (.d ⟨.bool, y5⟩)])])⟩), ([0, 1], ⟨5, 1, (.data (.int .u8) y6)⟩)], 2⟩) := by kernel_rfl
theorem octet_number_L0v1.ok (d : Nat) (hd : 0 ≤ d) : ∀ n st k, octet_number_L0v1.get (octet_number_L0v1 n) none st k = some true → iter n (plan Try.prog (ht 50 0)) (fun st k => execK Try.prog ht 50 (callfOf (callK Try.prog ht d)) 0 (loopAt 0 (codeOf Try.f50)) st k) st k = some true :=
  loop_ok (lfn := fun n st k => octet_number_L0v1.get (octet_number_L0v1 n) none st k) (rec := octet_number_L0v1.calls) (fun g a h k hx => by
    cases hx) (loopf := octet_number_L0v1.loops) (by
    have e : loopsOf (octet_number_L0v1.loops) 0 (loopAt 0 (codeOf Try.f50)) = [] := by kernel_rfl
    rw [e]
    intro p hp
    cases hp) (fun st k h => by
    obtain ⟨sl, hp, m⟩ := st
    unfold octet_number_L0v1.get at h
    dsimp only at h
    split at h
    · have h' : (none : Option Bool) = some true := h
      cases h'
    · cases h) (fun n st k h => by
    obtain ⟨sl, hp, m⟩ := st
    unfold octet_number_L0v1.get at h
    dsimp only at h
    split at h
    · rename_i h1 h2
      obtain rfl := pickS_ok h2
      obtain rfl := Nat.eq_of_beq_eq_true h1
      exact (octet_number_L0v1.step (octet_number_L0v1 n) _ _ _ _ _ _ _ _ _ _ _ k).trans h
    · cases h)
theorem octet_number_L0v1.look {F : Int → Nat → Nat → Nat → Nat → Int → Int → Int → Bool → Bool → (List Int) → (Int → Nat → Nat → Int → Bool → Bool → (List Int) → Option Bool) → Option Bool} {e : Option Bool} {st : St} {k : KE} (hx : octet_number_L0v1.get F e st k = some true) : e = some true ∨ octet_number_L0v1.get F none st k = some true := by
  obtain ⟨sl, hp, m⟩ := st
  unfold octet_number_L0v1.get at hx ⊢
  dsimp only at hx ⊢
  split at hx
  · exact .inr hx
  · exact .inl hx
/-- function 50: sheerleg/octet.number -/
noncomputable def octet_number.body (octet_Reader_take : Int → Int → Bool → Bool → (List Int) → (Int → Bool → Bool → (List Int) → (List Int) → Option Bool) → (Nat → Nat → Int → Bool → Bool → (List Int) → Option Bool) → Option Bool) (octet_number_L0 : Int → Int → Int → Int → Bool → Bool → (List Int) → (List Int) → (Int → Int → Bool → Bool → (List Int) → (List Int) → Option Bool) → Option Bool) (octet_number_L0v1 : Int → Nat → Nat → Nat → Nat → Int → Int → Int → Bool → Bool → (List Int) → (Int → Nat → Nat → Int → Bool → Bool → (List Int) → Option Bool) → Option Bool) (n394 : Int) (n395 : Int) (b396 : Bool) (b397 : Bool) (ns398 : List Int) (k1 : Int → Int → Bool → Bool → (List Int) → (List Int) → Option Bool) (k2 : Int → Nat → Nat → Int → Bool → Bool → (List Int) → Option Bool) : Option Bool :=
  (cond_ (! (decide (n394 < (1 : Int)))) (cond_ (decide (n394 > (8 : Int))) (octet_Reader_take (-1 : Int) n395 b396 b397 ns398
  (fun n438 b439 b440 ns441 ns442 => (octet_number_L0 (0 : Int) (((List.length ns442) : Nat) : Int) (0 : Int) n438 b439 b440 ns441 ns442
  (fun n451 n452 b453 b454 ns455 ns456 => (k1 n451 n452 b453 b454 ns455 ns456))))
  (fun m457 m458 n459 b460 b461 ns462 => (octet_number_L0v1 (0 : Int) m457 m458 m457 m458 ((m458 : Nat) : Int) (0 : Int) n459 b460 b461 ns462
  (fun n474 m475 m476 n477 b478 b479 ns480 => (k2 n474 m475 m476 n477 b478 b479 ns480))))) (octet_Reader_take n394 n395 b396 b397 ns398
  (fun n481 b482 b483 ns484 ns485 => (octet_number_L0 (0 : Int) (((List.length ns485) : Nat) : Int) (0 : Int) n481 b482 b483 ns484 ns485
  (fun n486 n487 b488 b489 ns490 ns491 => (k1 n486 n487 b488 b489 ns490 ns491))))
  (fun m492 m493 n494 b495 b496 ns497 => (octet_number_L0v1 (0 : Int) m492 m493 m492 m493 ((m493 : Nat) : Int) (0 : Int) n494 b495 b496 ns497
  (fun n498 m499 m500 n501 b502 b503 ns504 => (k2 n498 m499 m500 n501 b502 b503 ns504)))))) (octet_Reader_take (-1 : Int) n395 b396 b397 ns398
  (fun n505 b506 b507 ns508 ns509 => (octet_number_L0 (0 : Int) (((List.length ns509) : Nat) : Int) (0 : Int) n505 b506 b507 ns508 ns509
  (fun n510 n511 b512 b513 ns514 ns515 => (k1 n510 n511 b512 b513 ns514 ns515))))
  (fun m516 m517 n518 b519 b520 ns521 => (octet_number_L0v1 (0 : Int) m516 m517 m516 m517 ((m517 : Nat) : Int) (0 : Int) n518 b519 b520 ns521
  (fun n522 m523 m524 n525 b526 b527 ns528 => (k2 n522 m523 m524 n525 b526 b527 ns528))))))
noncomputable def octet_number (n394 : Int) (n395 : Int) (b396 : Bool) (b397 : Bool) (ns398 : List Int) (k1 : Int → Int → Bool → Bool → (List Int) → (List Int) → Option Bool) (k2 : Int → Nat → Nat → Int → Bool → Bool → (List Int) → Option Bool) : Option Bool := octet_number.body octet_Reader_take (octet_number_L0 ROUNDS) (octet_number_L0v1 ROUNDS) n394 n395 b396 b397 ns398 k1 k2
noncomputable def octet_number.get (F : Int → Int → Bool → Bool → (List Int) → (Int → Int → Bool → Bool → (List Int) → (List Int) → Option Bool) → (Int → Nat → Nat → Int → Bool → Bool → (List Int) → Option Bool) → Option Bool) (e : Option Bool) (g : FuncId) (a : List AV) (h : Heap) (k : KR) : Option Bool := match g, a, h with
  | 50, [(.fn (.func 51) [(.ptr [0, 0] 0 0)] []), (.d ⟨(.int .i64), n394⟩)], [([0, 0], ⟨68, 4, (.mix [(.agg [(.ref [0, 1]), (.d ⟨(.int .i64), n395⟩), (.d ⟨.bool, b396⟩), (.d ⟨.bool, b397⟩)])])⟩), ([0, 1], ⟨5, 1, (.data (.int .u8) ns398)⟩)] => F n394 n395 b396 b397 ns398 (fun y0 y1 y2 y3 y4 y5 => k (.tup [(.d ⟨(.int .i64), y0⟩), (.ref [1, 0])]) [([0, 0], ⟨68, 4, (.mix [(.agg [(.ref [0, 1]), (.d ⟨(.int .i64), y1⟩), (.d ⟨.bool, y2⟩), (.d ⟨.bool, y3⟩)])])⟩), ([0, 1], ⟨5, 1, (.data (.int .u8) y4)⟩), ([1, 0], ⟨5, 1, (.data (.int .u8) y5)⟩)]) (fun y0 y1 y2 y3 y4 y5 y6 => k (.tup [(.d ⟨(.int .i64), y0⟩), (.cut [0, 1] y1 y2)]) [([0, 0], ⟨68, 4, (.mix [(.agg [(.ref [0, 1]), (.d ⟨(.int .i64), y3⟩), (.d ⟨.bool, y4⟩), (.d ⟨.bool, y5⟩)])])⟩), ([0, 1], ⟨5, 1, (.data (.int .u8) y6)⟩)])
  | _, _, _ => e
noncomputable def octet_number.calls (F0 : Int → Int → Bool → Bool → (List Int) → (Int → Bool → Bool → (List Int) → (List Int) → Option Bool) → (Nat → Nat → Int → Bool → Bool → (List Int) → Option Bool) → Option Bool) : RecF := fun g a h k => (octet_Reader_take.get F0 none g a h k)
noncomputable def octet_number.loops (L0 : Int → Int → Int → Int → Bool → Bool → (List Int) → (List Int) → (Int → Int → Bool → Bool → (List Int) → (List Int) → Option Bool) → Option Bool) (L1 : Int → Nat → Nat → Nat → Nat → Int → Int → Int → Bool → Bool → (List Int) → (Int → Nat → Nat → Int → Bool → Bool → (List Int) → Option Bool) → Option Bool) : LoopF := fun b => match Nat.beq b 0 with | true => some (fun st k => (octet_number_L0.get L0 (octet_number_L0v1.get L1 none st k) st k)) | false => none
set_option maxRecDepth 100000 in
theorem octet_number.eq (F0 : Int → Int → Bool → Bool → (List Int) → (Int → Bool → Bool → (List Int) → (List Int) → Option Bool) → (Nat → Nat → Int → Bool → Bool → (List Int) → Option Bool) → Option Bool) (L0 : Int → Int → Int → Int → Bool → Bool → (List Int) → (List Int) → (Int → Int → Bool → Bool → (List Int) → (List Int) → Option Bool) → Option Bool) (L1 : Int → Nat → Nat → Nat → Nat → Int → Int → Int → Bool → Bool → (List Int) → (Int → Nat → Nat → Int → Bool → Bool → (List Int) → Option Bool) → Option Bool) (n394 : Int) (n395 : Int) (b396 : Bool) (b397 : Bool) (ns398 : List Int) (k : KR) : execL Try.prog ht 50 (callfOf (octet_number.calls F0)) (octet_number.loops L0 L1) 0 (codeOf Try.f50) ⟨[(.fn (.func 51) [(.ptr [0, 0] 0 0)] []), (.d ⟨(.int .i64), n394⟩)] ++ List.replicate (Try.f50.ntmps - ([(.fn (.func 51) [(.ptr [0, 0] 0 0)] []), (.d ⟨(.int .i64), n394⟩)] : List AV).length) .undef, [([0, 0], ⟨68, 4, (.mix [(.agg [(.ref [0, 1]), (.d ⟨(.int .i64), n395⟩), (.d ⟨.bool, b396⟩), (.d ⟨.bool, b397⟩)])])⟩), ([0, 1], ⟨5, 1, (.data (.int .u8) ns398)⟩)], 2⟩ (leave Try.prog Try.f50 k) = octet_number.body F0 L0 L1 n394 n395 b396 b397 ns398 (fun y0 y1 y2 y3 y4 y5 => k (.tup [(.d ⟨(.int .i64), y0⟩), (.ref [1, 0])]) [([0, 0], ⟨68, 4, (.mix [(.agg [(.ref [0, 1]), (.d ⟨(.int .i64), y1⟩), (.d ⟨.bool, y2⟩), (.d ⟨.bool, y3⟩)])])⟩), ([0, 1], ⟨5, 1, (.data (.int .u8) y4)⟩), ([1, 0], ⟨5, 1, (.data (.int .u8) y5)⟩)]) (fun y0 y1 y2 y3 y4 y5 y6 => k (.tup [(.d ⟨(.int .i64), y0⟩), (.cut [0, 1] y1 y2)]) [([0, 0], ⟨68, 4, (.mix [(.agg [(.ref [0, 1]), (.d ⟨(.int .i64), y3⟩), (.d ⟨.bool, y4⟩), (.d ⟨.bool, y5⟩)])])⟩), ([0, 1], ⟨5, 1, (.data (.int .u8) y6)⟩)]) := by kernel_rfl
theorem octet_number.ok (d : Nat) (hd : 3 ≤ d) (n394 : Int) (n395 : Int) (b396 : Bool) (b397 : Bool) (ns398 : List Int) (k : KR) (hx : octet_number n394 n395 b396 b397 ns398 (fun y0 y1 y2 y3 y4 y5 => k (.tup [(.d ⟨(.int .i64), y0⟩), (.ref [1, 0])]) [([0, 0], ⟨68, 4, (.mix [(.agg [(.ref [0, 1]), (.d ⟨(.int .i64), y1⟩), (.d ⟨.bool, y2⟩), (.d ⟨.bool, y3⟩)])])⟩), ([0, 1], ⟨5, 1, (.data (.int .u8) y4)⟩), ([1, 0], ⟨5, 1, (.data (.int .u8) y5)⟩)]) (fun y0 y1 y2 y3 y4 y5 y6 => k (.tup [(.d ⟨(.int .i64), y0⟩), (.cut [0, 1] y1 y2)]) [([0, 0], ⟨68, 4, (.mix [(.agg [(.ref [0, 1]), (.d ⟨(.int .i64), y3⟩), (.d ⟨.bool, y4⟩), (.d ⟨.bool, y5⟩)])])⟩), ([0, 1], ⟨5, 1, (.data (.int .u8) y6)⟩)]) = some true) : callK Try.prog ht d 50 [(.fn (.func 51) [(.ptr [0, 0] 0 0)] []), (.d ⟨(.int .i64), n394⟩)] [([0, 0], ⟨68, 4, (.mix [(.agg [(.ref [0, 1]), (.d ⟨(.int .i64), n395⟩), (.d ⟨.bool, b396⟩), (.d ⟨.bool, b397⟩)])])⟩), ([0, 1], ⟨5, 1, (.data (.int .u8) ns398)⟩)] k = some true := by
  obtain ⟨d, rfl⟩ : ∃ e, d = e + 1 := ⟨d - 1, by omega⟩
  exact fn_ok (c := codeOf Try.f50) Try.func50 (by kernel_rfl) (rec := octet_number.calls octet_Reader_take) (fun g a h k hx => by
    rcases octet_Reader_take.look d (by omega) hx with hx | hx
    rotate_left
    · exact hx
    cases hx) (loopf := octet_number.loops (octet_number_L0 ROUNDS) (octet_number_L0v1 ROUNDS)) (by
    have e : loopsOf (octet_number.loops (octet_number_L0 ROUNDS) (octet_number_L0v1 ROUNDS)) 0 (codeOf Try.f50) = [(0, loopAt 0 (codeOf Try.f50))] := by kernel_rfl
    rw [e]
    intro p hp
    simp only [List.mem_cons, List.not_mem_nil, or_false] at hp
    rcases hp with rfl
    · refine loopRef_of (callf := callfOf (callK Try.prog ht d)) (callfOf_ref (callK_mono d)) fun lf st k hb hx => ?_
      cases hb
      rcases octet_number_L0.look hx with hx | hx
      rotate_left
      · exact octet_number_L0.ok d (by omega) _ _ _ hx
      rcases octet_number_L0v1.look hx with hx | hx
      rotate_left
      · exact octet_number_L0v1.ok d (by omega) _ _ _ hx
      cases hx) ((octet_number.eq octet_Reader_take (octet_number_L0 ROUNDS) (octet_number_L0v1 ROUNDS) n394 n395 b396 b397 ns398 k).trans hx)
theorem octet_number.look (d : Nat) (hd : 3 ≤ d) {e : Option Bool} {g : FuncId} {a : List AV} {h : Heap} {k : KR} (hx : octet_number.get octet_number e g a h k = some true) : e = some true ∨ callK Try.prog ht d g a h k = some true := by
  unfold octet_number.get at hx
  split at hx
  · exact .inr (octet_number.ok d hd _ _ _ _ _ _ hx)
  · exact .inl hx
end Go.Proofs.Ytbedajhajmkapaa.g
