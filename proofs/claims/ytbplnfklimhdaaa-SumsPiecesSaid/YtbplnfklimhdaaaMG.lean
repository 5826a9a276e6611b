/- What the functions come to that G reaches, as plain functions; written by a program of this work, each told by Lean. -/
import Derived.Test.YtbplnfklimhdaaaA3
import Derived.Test.YtbplnfklimhdaaaChecked
namespace Go.Proofs.Ytbplnfklimhdaaa.g
open Go.AX
set_option linter.unusedVariables false
set_option maxRecDepth 100000
set_option maxHeartbeats 4000000
def ht : Hints := hintsOf [(14, [(0, ⟨[0, 15, 16, 17], []⟩), (2000000, ⟨[], []⟩), (1000000, ⟨[], []⟩)]),
  (19, [(0, ⟨[0, 1, 2, 7, 10], []⟩), (2000000, ⟨[6], []⟩), (1000000, ⟨[0, 2, 7], []⟩)]),
  (8, [(2000000, ⟨[2, 3], [(.virt 2 5 1), (.give 2)]⟩)]),
  (20, [(0, ⟨[7, 8, 9], []⟩), (2, ⟨[7, 8, 9, 10, 11], []⟩), (2000000, ⟨[6], []⟩), (1000002, ⟨[7, 8, 9, 10], []⟩), (1000001, ⟨[7, 8, 9], []⟩), (1000000, ⟨[7], []⟩)]),
  (10, [(0, ⟨[0, 3, 4, 5], []⟩), (2000000, ⟨[2], []⟩), (1000000, ⟨[3, 4], []⟩)]),
  (21, [(0, ⟨[6, 7, 19, 20, 21], []⟩), (2000000, ⟨[4, 5], []⟩), (1000000, ⟨[6, 7], []⟩)])]
/-- function 6: sheerleg/sheerleglaw03.known, all of it at once -/
def law03_known (k1 : Bool → Option Bool) : Option Bool := k1 true
def law03_known.get (F : (Bool → Option Bool) → Option Bool) (e : Option Bool) (g : FuncId) (a : List AV) (h : Heap) (k : KR) : Option Bool := match g, a, h with
  | 6, [], [] => F (fun y => k (.d ⟨.bool, y⟩) [])
  | _, _, _ => e
set_option maxRecDepth 100000 in
theorem law03_known.all (k : KR) : callK Try.prog ht 60 6 [] [] k = k (.d ⟨.bool, true⟩) [] := by kernel_rfl
theorem law03_known.look (d : Nat) (hd : 60 ≤ d) {e : Option Bool} {g : FuncId} {a : List AV} {h : Heap} {k : KR} (hx : law03_known.get law03_known e g a h k = some true) : e = some true ∨ callK Try.prog ht d g a h k = some true := by
  unfold law03_known.get at hx
  split at hx
  · exact .inr (callK_le hd _ _ _ _ _ (fun _ _ h => h) ((law03_known.all _).trans hx))
  · exact .inl hx
/-- function 16: sheerleg/octet.New -/
noncomputable def octet_New.body (ns3 : List Int) (k1 : Int → Bool → Bool → (List Int) → Option Bool) : Option Bool :=
  (cond_ (Nat.ble (((0 : Nat) + (List.length ns3)) * (1 : Nat)) (140737488355328 : Nat)) (k1 (0 : Int) true false ([] ++ ns3)) none)
noncomputable def octet_New (ns3 : List Int) (k1 : Int → Bool → Bool → (List Int) → Option Bool) : Option Bool := octet_New.body ns3 k1
noncomputable def octet_New.get (F : (List Int) → (Int → Bool → Bool → (List Int) → Option Bool) → Option Bool) (e : Option Bool) (g : FuncId) (a : List AV) (h : Heap) (k : KR) : Option Bool := match g, a, h with
  | 16, [(.bv 0 5 (.int .u8) ns3)], [] => F ns3 (fun y0 y1 y2 y3 => k (.ptr [1, 0] 0 0) [([1, 0], ⟨45, 4, (.mix [(.agg [(.ref [1, 1]), (.d ⟨(.int .i64), y0⟩), (.d ⟨.bool, y1⟩), (.d ⟨.bool, y2⟩)])])⟩), ([1, 1], ⟨5, 1, (.data (.int .u8) y3)⟩)])
  | _, _, _ => e
noncomputable def octet_New.calls : RecF := fun g a h k => none
noncomputable def octet_New.loops : LoopF := fun b => none
set_option maxRecDepth 100000 in
theorem octet_New.eq (ns3 : List Int) (k : KR) : execL Try.prog ht 16 (callfOf (octet_New.calls)) (octet_New.loops) 0 (codeOf Try.f16) ⟨[(.bv 0 5 (.int .u8) ns3)] ++ List.replicate (Try.f16.ntmps - ([(.bv 0 5 (.int .u8) ns3)] : List AV).length) .undef, [], 2⟩ (leave Try.prog Try.f16 k) = octet_New.body ns3 (fun y0 y1 y2 y3 => k (.ptr [1, 0] 0 0) [([1, 0], ⟨45, 4, (.mix [(.agg [(.ref [1, 1]), (.d ⟨(.int .i64), y0⟩), (.d ⟨.bool, y1⟩), (.d ⟨.bool, y2⟩)])])⟩), ([1, 1], ⟨5, 1, (.data (.int .u8) y3)⟩)]) := by kernel_rfl
theorem octet_New.ok (d : Nat) (hd : 1 ≤ d) (ns3 : List Int) (k : KR) (hx : octet_New ns3 (fun y0 y1 y2 y3 => k (.ptr [1, 0] 0 0) [([1, 0], ⟨45, 4, (.mix [(.agg [(.ref [1, 1]), (.d ⟨(.int .i64), y0⟩), (.d ⟨.bool, y1⟩), (.d ⟨.bool, y2⟩)])])⟩), ([1, 1], ⟨5, 1, (.data (.int .u8) y3)⟩)]) = some true) : callK Try.prog ht d 16 [(.bv 0 5 (.int .u8) ns3)] [] k = some true := by
  obtain ⟨d, rfl⟩ : ∃ e, d = e + 1 := ⟨d - 1, by omega⟩
  exact fn_ok (c := codeOf Try.f16) Try.func16 (by kernel_rfl) (rec := octet_New.calls) (fun g a h k hx => by
    cases hx) (loopf := octet_New.loops) (by
    have e : loopsOf (octet_New.loops) 0 (codeOf Try.f16) = [] := by kernel_rfl
    rw [e]
    intro p hp
    cases hp) ((octet_New.eq ns3 k).trans hx)
theorem octet_New.look (d : Nat) (hd : 1 ≤ d) {e : Option Bool} {g : FuncId} {a : List AV} {h : Heap} {k : KR} (hx : octet_New.get octet_New e g a h k = some true) : e = some true ∨ callK Try.prog ht d g a h k = some true := by
  unfold octet_New.get at hx
  split at hx
  · exact .inr (octet_New.ok d hd _ _ hx)
  · exact .inl hx
/-- function 23: (*sheerleg/octet.Reader).Bad -/
noncomputable def octet_Reader_Bad.body (n23 : Int) (b24 : Bool) (b25 : Bool) (ns26 : List Int) (k1 : Bool → Int → Bool → Bool → (List Int) → Option Bool) : Option Bool :=
  (cond_ (! (! b24)) (k1 b25 n23 b24 b25 ns26) (k1 true n23 b24 b25 ns26))
noncomputable def octet_Reader_Bad (n23 : Int) (b24 : Bool) (b25 : Bool) (ns26 : List Int) (k1 : Bool → Int → Bool → Bool → (List Int) → Option Bool) : Option Bool := octet_Reader_Bad.body n23 b24 b25 ns26 k1
noncomputable def octet_Reader_Bad.get (F : Int → Bool → Bool → (List Int) → (Bool → Int → Bool → Bool → (List Int) → Option Bool) → Option Bool) (e : Option Bool) (g : FuncId) (a : List AV) (h : Heap) (k : KR) : Option Bool := match g, a, h with
  | 23, [(.ptr [0, 0] 0 0)], [([0, 0], ⟨45, 4, (.mix [(.agg [(.ref [0, 1]), (.d ⟨(.int .i64), n23⟩), (.d ⟨.bool, b24⟩), (.d ⟨.bool, b25⟩)])])⟩), ([0, 1], ⟨5, 1, (.data (.int .u8) ns26)⟩)] => F n23 b24 b25 ns26 (fun y0 y1 y2 y3 y4 => k (.d ⟨.bool, y0⟩) [([0, 0], ⟨45, 4, (.mix [(.agg [(.ref [0, 1]), (.d ⟨(.int .i64), y1⟩), (.d ⟨.bool, y2⟩), (.d ⟨.bool, y3⟩)])])⟩), ([0, 1], ⟨5, 1, (.data (.int .u8) y4)⟩)])
  | _, _, _ => e
noncomputable def octet_Reader_Bad.calls : RecF := fun g a h k => none
noncomputable def octet_Reader_Bad.loops : LoopF := fun b => none
set_option maxRecDepth 100000 in
theorem octet_Reader_Bad.eq (n23 : Int) (b24 : Bool) (b25 : Bool) (ns26 : List Int) (k : KR) : execL Try.prog ht 23 (callfOf (octet_Reader_Bad.calls)) (octet_Reader_Bad.loops) 0 (codeOf Try.f23) ⟨[(.ptr [0, 0] 0 0)] ++ List.replicate (Try.f23.ntmps - ([(.ptr [0, 0] 0 0)] : List AV).length) .undef, [([0, 0], ⟨45, 4, (.mix [(.agg [(.ref [0, 1]), (.d ⟨(.int .i64), n23⟩), (.d ⟨.bool, b24⟩), (.d ⟨.bool, b25⟩)])])⟩), ([0, 1], ⟨5, 1, (.data (.int .u8) ns26)⟩)], 2⟩ (leave Try.prog Try.f23 k) = octet_Reader_Bad.body n23 b24 b25 ns26 (fun y0 y1 y2 y3 y4 => k (.d ⟨.bool, y0⟩) [([0, 0], ⟨45, 4, (.mix [(.agg [(.ref [0, 1]), (.d ⟨(.int .i64), y1⟩), (.d ⟨.bool, y2⟩), (.d ⟨.bool, y3⟩)])])⟩), ([0, 1], ⟨5, 1, (.data (.int .u8) y4)⟩)]) := by kernel_rfl
theorem octet_Reader_Bad.ok (d : Nat) (hd : 1 ≤ d) (n23 : Int) (b24 : Bool) (b25 : Bool) (ns26 : List Int) (k : KR) (hx : octet_Reader_Bad n23 b24 b25 ns26 (fun y0 y1 y2 y3 y4 => k (.d ⟨.bool, y0⟩) [([0, 0], ⟨45, 4, (.mix [(.agg [(.ref [0, 1]), (.d ⟨(.int .i64), y1⟩), (.d ⟨.bool, y2⟩), (.d ⟨.bool, y3⟩)])])⟩), ([0, 1], ⟨5, 1, (.data (.int .u8) y4)⟩)]) = some true) : callK Try.prog ht d 23 [(.ptr [0, 0] 0 0)] [([0, 0], ⟨45, 4, (.mix [(.agg [(.ref [0, 1]), (.d ⟨(.int .i64), n23⟩), (.d ⟨.bool, b24⟩), (.d ⟨.bool, b25⟩)])])⟩), ([0, 1], ⟨5, 1, (.data (.int .u8) ns26)⟩)] k = some true := by
  obtain ⟨d, rfl⟩ : ∃ e, d = e + 1 := ⟨d - 1, by omega⟩
  exact fn_ok (c := codeOf Try.f23) Try.func23 (by kernel_rfl) (rec := octet_Reader_Bad.calls) (fun g a h k hx => by
    cases hx) (loopf := octet_Reader_Bad.loops) (by
    have e : loopsOf (octet_Reader_Bad.loops) 0 (codeOf Try.f23) = [] := by kernel_rfl
    rw [e]
    intro p hp
    cases hp) ((octet_Reader_Bad.eq n23 b24 b25 ns26 k).trans hx)
theorem octet_Reader_Bad.look (d : Nat) (hd : 1 ≤ d) {e : Option Bool} {g : FuncId} {a : List AV} {h : Heap} {k : KR} (hx : octet_Reader_Bad.get octet_Reader_Bad e g a h k = some true) : e = some true ∨ callK Try.prog ht d g a h k = some true := by
  unfold octet_Reader_Bad.get at hx
  split at hx
  · exact .inr (octet_Reader_Bad.ok d hd _ _ _ _ _ hx)
  · exact .inl hx
/-- function 24: (*sheerleg/octet.Reader).Left -/
noncomputable def octet_Reader_Left.body (n32 : Int) (b33 : Bool) (b34 : Bool) (ns35 : List Int) (k1 : Int → Int → Bool → Bool → (List Int) → Option Bool) : Option Bool :=
  (k1 (IntKind.wrap .i64 ((((List.length ns35) : Nat) : Int) - n32)) n32 b33 b34 ns35)
noncomputable def octet_Reader_Left (n32 : Int) (b33 : Bool) (b34 : Bool) (ns35 : List Int) (k1 : Int → Int → Bool → Bool → (List Int) → Option Bool) : Option Bool := octet_Reader_Left.body n32 b33 b34 ns35 k1
noncomputable def octet_Reader_Left.get (F : Int → Bool → Bool → (List Int) → (Int → Int → Bool → Bool → (List Int) → Option Bool) → Option Bool) (e : Option Bool) (g : FuncId) (a : List AV) (h : Heap) (k : KR) : Option Bool := match g, a, h with
  | 24, [(.ptr [0, 0] 0 0)], [([0, 0], ⟨45, 4, (.mix [(.agg [(.ref [0, 1]), (.d ⟨(.int .i64), n32⟩), (.d ⟨.bool, b33⟩), (.d ⟨.bool, b34⟩)])])⟩), ([0, 1], ⟨5, 1, (.data (.int .u8) ns35)⟩)] => F n32 b33 b34 ns35 (fun y0 y1 y2 y3 y4 => k (.d ⟨(.int .i64), y0⟩) [([0, 0], ⟨45, 4, (.mix [(.agg [(.ref [0, 1]), (.d ⟨(.int .i64), y1⟩), (.d ⟨.bool, y2⟩), (.d ⟨.bool, y3⟩)])])⟩), ([0, 1], ⟨5, 1, (.data (.int .u8) y4)⟩)])
  | _, _, _ => e
noncomputable def octet_Reader_Left.calls : RecF := fun g a h k => none
noncomputable def octet_Reader_Left.loops : LoopF := fun b => none
set_option maxRecDepth 100000 in
theorem octet_Reader_Left.eq (n32 : Int) (b33 : Bool) (b34 : Bool) (ns35 : List Int) (k : KR) : execL Try.prog ht 24 (callfOf (octet_Reader_Left.calls)) (octet_Reader_Left.loops) 0 (codeOf Try.f24) ⟨[(.ptr [0, 0] 0 0)] ++ List.replicate (Try.f24.ntmps - ([(.ptr [0, 0] 0 0)] : List AV).length) .undef, [([0, 0], ⟨45, 4, (.mix [(.agg [(.ref [0, 1]), (.d ⟨(.int .i64), n32⟩), (.d ⟨.bool, b33⟩), (.d ⟨.bool, b34⟩)])])⟩), ([0, 1], ⟨5, 1, (.data (.int .u8) ns35)⟩)], 2⟩ (leave Try.prog Try.f24 k) = octet_Reader_Left.body n32 b33 b34 ns35 (fun y0 y1 y2 y3 y4 => k (.d ⟨(.int .i64), y0⟩) [([0, 0], ⟨45, 4, (.mix [(.agg [(.ref [0, 1]), (.d ⟨(.int .i64), y1⟩), (.d ⟨.bool, y2⟩), (.d ⟨.bool, y3⟩)])])⟩), ([0, 1], ⟨5, 1, (.data (.int .u8) y4)⟩)]) := by kernel_rfl
theorem octet_Reader_Left.ok (d : Nat) (hd : 1 ≤ d) (n32 : Int) (b33 : Bool) (b34 : Bool) (ns35 : List Int) (k : KR) (hx : octet_Reader_Left n32 b33 b34 ns35 (fun y0 y1 y2 y3 y4 => k (.d ⟨(.int .i64), y0⟩) [([0, 0], ⟨45, 4, (.mix [(.agg [(.ref [0, 1]), (.d ⟨(.int .i64), y1⟩), (.d ⟨.bool, y2⟩), (.d ⟨.bool, y3⟩)])])⟩), ([0, 1], ⟨5, 1, (.data (.int .u8) y4)⟩)]) = some true) : callK Try.prog ht d 24 [(.ptr [0, 0] 0 0)] [([0, 0], ⟨45, 4, (.mix [(.agg [(.ref [0, 1]), (.d ⟨(.int .i64), n32⟩), (.d ⟨.bool, b33⟩), (.d ⟨.bool, b34⟩)])])⟩), ([0, 1], ⟨5, 1, (.data (.int .u8) ns35)⟩)] k = some true := by
  obtain ⟨d, rfl⟩ : ∃ e, d = e + 1 := ⟨d - 1, by omega⟩
  exact fn_ok (c := codeOf Try.f24) Try.func24 (by kernel_rfl) (rec := octet_Reader_Left.calls) (fun g a h k hx => by
    cases hx) (loopf := octet_Reader_Left.loops) (by
    have e : loopsOf (octet_Reader_Left.loops) 0 (codeOf Try.f24) = [] := by kernel_rfl
    rw [e]
    intro p hp
    cases hp) ((octet_Reader_Left.eq n32 b33 b34 ns35 k).trans hx)
theorem octet_Reader_Left.look (d : Nat) (hd : 1 ≤ d) {e : Option Bool} {g : FuncId} {a : List AV} {h : Heap} {k : KR} (hx : octet_Reader_Left.get octet_Reader_Left e g a h k = some true) : e = some true ∨ callK Try.prog ht d g a h k = some true := by
  unfold octet_Reader_Left.get at hx
  split at hx
  · exact .inr (octet_Reader_Left.ok d hd _ _ _ _ _ hx)
  · exact .inl hx
/-- function 25: (*sheerleg/octet.Reader).spoil -/
noncomputable def octet_Reader_spoil.body (n41 : Int) (b42 : Bool) (b43 : Bool) (ns44 : List Int) (k1 : Int → Bool → Bool → (List Int) → Option Bool) : Option Bool :=
  (k1 n41 b42 true ns44)
noncomputable def octet_Reader_spoil (n41 : Int) (b42 : Bool) (b43 : Bool) (ns44 : List Int) (k1 : Int → Bool → Bool → (List Int) → Option Bool) : Option Bool := octet_Reader_spoil.body n41 b42 b43 ns44 k1
noncomputable def octet_Reader_spoil.get (F : Int → Bool → Bool → (List Int) → (Int → Bool → Bool → (List Int) → Option Bool) → Option Bool) (e : Option Bool) (g : FuncId) (a : List AV) (h : Heap) (k : KR) : Option Bool := match g, a, h with
  | 25, [(.ptr [0, 0] 0 0)], [([0, 0], ⟨45, 4, (.mix [(.agg [(.ref [0, 1]), (.d ⟨(.int .i64), n41⟩), (.d ⟨.bool, b42⟩), (.d ⟨.bool, b43⟩)])])⟩), ([0, 1], ⟨5, 1, (.data (.int .u8) ns44)⟩)] => F n41 b42 b43 ns44 (fun y0 y1 y2 y3 => k (.tup []) [([0, 0], ⟨45, 4, (.mix [(.agg [(.ref [0, 1]), (.d ⟨(.int .i64), y0⟩), (.d ⟨.bool, y1⟩), (.d ⟨.bool, y2⟩)])])⟩), ([0, 1], ⟨5, 1, (.data (.int .u8) y3)⟩)])
  | _, _, _ => e
noncomputable def octet_Reader_spoil.calls : RecF := fun g a h k => none
noncomputable def octet_Reader_spoil.loops : LoopF := fun b => none
set_option maxRecDepth 100000 in
theorem octet_Reader_spoil.eq (n41 : Int) (b42 : Bool) (b43 : Bool) (ns44 : List Int) (k : KR) : execL Try.prog ht 25 (callfOf (octet_Reader_spoil.calls)) (octet_Reader_spoil.loops) 0 (codeOf Try.f25) ⟨[(.ptr [0, 0] 0 0)] ++ List.replicate (Try.f25.ntmps - ([(.ptr [0, 0] 0 0)] : List AV).length) .undef, [([0, 0], ⟨45, 4, (.mix [(.agg [(.ref [0, 1]), (.d ⟨(.int .i64), n41⟩), (.d ⟨.bool, b42⟩), (.d ⟨.bool, b43⟩)])])⟩), ([0, 1], ⟨5, 1, (.data (.int .u8) ns44)⟩)], 2⟩ (leave Try.prog Try.f25 k) = octet_Reader_spoil.body n41 b42 b43 ns44 (fun y0 y1 y2 y3 => k (.tup []) [([0, 0], ⟨45, 4, (.mix [(.agg [(.ref [0, 1]), (.d ⟨(.int .i64), y0⟩), (.d ⟨.bool, y1⟩), (.d ⟨.bool, y2⟩)])])⟩), ([0, 1], ⟨5, 1, (.data (.int .u8) y3)⟩)]) := by kernel_rfl
theorem octet_Reader_spoil.ok (d : Nat) (hd : 1 ≤ d) (n41 : Int) (b42 : Bool) (b43 : Bool) (ns44 : List Int) (k : KR) (hx : octet_Reader_spoil n41 b42 b43 ns44 (fun y0 y1 y2 y3 => k (.tup []) [([0, 0], ⟨45, 4, (.mix [(.agg [(.ref [0, 1]), (.d ⟨(.int .i64), y0⟩), (.d ⟨.bool, y1⟩), (.d ⟨.bool, y2⟩)])])⟩), ([0, 1], ⟨5, 1, (.data (.int .u8) y3)⟩)]) = some true) : callK Try.prog ht d 25 [(.ptr [0, 0] 0 0)] [([0, 0], ⟨45, 4, (.mix [(.agg [(.ref [0, 1]), (.d ⟨(.int .i64), n41⟩), (.d ⟨.bool, b42⟩), (.d ⟨.bool, b43⟩)])])⟩), ([0, 1], ⟨5, 1, (.data (.int .u8) ns44)⟩)] k = some true := by
  obtain ⟨d, rfl⟩ : ∃ e, d = e + 1 := ⟨d - 1, by omega⟩
  exact fn_ok (c := codeOf Try.f25) Try.func25 (by kernel_rfl) (rec := octet_Reader_spoil.calls) (fun g a h k hx => by
    cases hx) (loopf := octet_Reader_spoil.loops) (by
    have e : loopsOf (octet_Reader_spoil.loops) 0 (codeOf Try.f25) = [] := by kernel_rfl
    rw [e]
    intro p hp
    cases hp) ((octet_Reader_spoil.eq n41 b42 b43 ns44 k).trans hx)
theorem octet_Reader_spoil.look (d : Nat) (hd : 1 ≤ d) {e : Option Bool} {g : FuncId} {a : List AV} {h : Heap} {k : KR} (hx : octet_Reader_spoil.get octet_Reader_spoil e g a h k = some true) : e = some true ∨ callK Try.prog ht d g a h k = some true := by
  unfold octet_Reader_spoil.get at hx
  split at hx
  · exact .inr (octet_Reader_spoil.ok d hd _ _ _ _ _ hx)
  · exact .inl hx
/-- function 22: (*sheerleg/octet.Reader).take -/
noncomputable def octet_Reader_take.body (octet_Reader_Bad : Int → Bool → Bool → (List Int) → (Bool → Int → Bool → Bool → (List Int) → Option Bool) → Option Bool) (octet_Reader_Left : Int → Bool → Bool → (List Int) → (Int → Int → Bool → Bool → (List Int) → Option Bool) → Option Bool) (octet_Reader_spoil : Int → Bool → Bool → (List Int) → (Int → Bool → Bool → (List Int) → Option Bool) → Option Bool) (n18 : Int) (n19 : Int) (b20 : Bool) (b21 : Bool) (ns22 : List Int) (k1 : Int → Bool → Bool → (List Int) → (List Int) → Option Bool) (k2 : Nat → Nat → Int → Bool → Bool → (List Int) → Option Bool) : Option Bool :=
  (octet_Reader_Bad n19 b20 b21 ns22
  (fun b27 n28 b29 b30 ns31 => (cond_ (! b27) (cond_ (! (decide (n18 < (0 : Int)))) (octet_Reader_Left n28 b29 b30 ns31
  (fun n36 n37 b38 b39 ns40 => (cond_ (decide (n18 > n36)) (octet_Reader_spoil n37 b38 b39 ns40
  (fun n45 b46 b47 ns48 => (k1 n45 b46 b47 ns48 []))) (cond_ (((decide ((0 : Int) ≤ (IntKind.wrap .i64 ((IntKind.wrap .i64 (n37 + n18)) - n18)))) && (decide ((IntKind.wrap .i64 ((IntKind.wrap .i64 (n37 + n18)) - n18)) ≤ (IntKind.wrap .i64 (n37 + n18))))) && (decide ((IntKind.wrap .i64 (n37 + n18)) ≤ (((List.length ns40) : Nat) : Int)))) (k2 (Int.toNat (IntKind.wrap .i64 ((IntKind.wrap .i64 (n37 + n18)) - n18))) (Int.toNat ((IntKind.wrap .i64 (n37 + n18)) - (IntKind.wrap .i64 ((IntKind.wrap .i64 (n37 + n18)) - n18)))) (IntKind.wrap .i64 (n37 + n18)) b38 b39 ns40) none)))) (octet_Reader_spoil n28 b29 b30 ns31
  (fun n49 b50 b51 ns52 => (k1 n49 b50 b51 ns52 [])))) (octet_Reader_spoil n28 b29 b30 ns31
  (fun n53 b54 b55 ns56 => (k1 n53 b54 b55 ns56 []))))))
noncomputable def octet_Reader_take (n18 : Int) (n19 : Int) (b20 : Bool) (b21 : Bool) (ns22 : List Int) (k1 : Int → Bool → Bool → (List Int) → (List Int) → Option Bool) (k2 : Nat → Nat → Int → Bool → Bool → (List Int) → Option Bool) : Option Bool := octet_Reader_take.body octet_Reader_Bad octet_Reader_Left octet_Reader_spoil n18 n19 b20 b21 ns22 k1 k2
noncomputable def octet_Reader_take.get (F : Int → Int → Bool → Bool → (List Int) → (Int → Bool → Bool → (List Int) → (List Int) → Option Bool) → (Nat → Nat → Int → Bool → Bool → (List Int) → Option Bool) → Option Bool) (e : Option Bool) (g : FuncId) (a : List AV) (h : Heap) (k : KR) : Option Bool := match g, a, h with
  | 22, [(.ptr [0, 0] 0 0), (.d ⟨(.int .i64), n18⟩)], [([0, 0], ⟨45, 4, (.mix [(.agg [(.ref [0, 1]), (.d ⟨(.int .i64), n19⟩), (.d ⟨.bool, b20⟩), (.d ⟨.bool, b21⟩)])])⟩), ([0, 1], ⟨5, 1, (.data (.int .u8) ns22)⟩)] => F n18 n19 b20 b21 ns22 (fun y0 y1 y2 y3 y4 => k (.ref [1, 0]) [([0, 0], ⟨45, 4, (.mix [(.agg [(.ref [0, 1]), (.d ⟨(.int .i64), y0⟩), (.d ⟨.bool, y1⟩), (.d ⟨.bool, y2⟩)])])⟩), ([0, 1], ⟨5, 1, (.data (.int .u8) y3)⟩), ([1, 0], ⟨5, 1, (.data (.int .u8) y4)⟩)]) (fun y0 y1 y2 y3 y4 y5 => k (.cut [0, 1] y0 y1) [([0, 0], ⟨45, 4, (.mix [(.agg [(.ref [0, 1]), (.d ⟨(.int .i64), y2⟩), (.d ⟨.bool, y3⟩), (.d ⟨.bool, y4⟩)])])⟩), ([0, 1], ⟨5, 1, (.data (.int .u8) y5)⟩)])
  | _, _, _ => e
noncomputable def octet_Reader_take.calls (F0 : Int → Bool → Bool → (List Int) → (Bool → Int → Bool → Bool → (List Int) → Option Bool) → Option Bool) (F1 : Int → Bool → Bool → (List Int) → (Int → Int → Bool → Bool → (List Int) → Option Bool) → Option Bool) (F2 : Int → Bool → Bool → (List Int) → (Int → Bool → Bool → (List Int) → Option Bool) → Option Bool) : RecF := fun g a h k => (octet_Reader_Bad.get F0 (octet_Reader_Left.get F1 (octet_Reader_spoil.get F2 none g a h k) g a h k) g a h k)
noncomputable def octet_Reader_take.loops : LoopF := fun b => none
set_option maxRecDepth 100000 in
theorem octet_Reader_take.eq (F0 : Int → Bool → Bool → (List Int) → (Bool → Int → Bool → Bool → (List Int) → Option Bool) → Option Bool) (F1 : Int → Bool → Bool → (List Int) → (Int → Int → Bool → Bool → (List Int) → Option Bool) → Option Bool) (F2 : Int → Bool → Bool → (List Int) → (Int → Bool → Bool → (List Int) → Option Bool) → Option Bool) (n18 : Int) (n19 : Int) (b20 : Bool) (b21 : Bool) (ns22 : List Int) (k : KR) : execL Try.prog ht 22 (callfOf (octet_Reader_take.calls F0 F1 F2)) (octet_Reader_take.loops) 0 (codeOf Try.f22) ⟨[(.ptr [0, 0] 0 0), (.d ⟨(.int .i64), n18⟩)] ++ List.replicate (Try.f22.ntmps - ([(.ptr [0, 0] 0 0), (.d ⟨(.int .i64), n18⟩)] : List AV).length) .undef, [([0, 0], ⟨45, 4, (.mix [(.agg [(.ref [0, 1]), (.d ⟨(.int .i64), n19⟩), (.d ⟨.bool, b20⟩), (.d ⟨.bool, b21⟩)])])⟩), ([0, 1], ⟨5, 1, (.data (.int .u8) ns22)⟩)], 2⟩ (leave Try.prog Try.f22 k) = octet_Reader_take.body F0 F1 F2 n18 n19 b20 b21 ns22 (fun y0 y1 y2 y3 y4 => k (.ref [1, 0]) [([0, 0], ⟨45, 4, (.mix [(.agg [(.ref [0, 1]), (.d ⟨(.int .i64), y0⟩), (.d ⟨.bool, y1⟩), (.d ⟨.bool, y2⟩)])])⟩), ([0, 1], ⟨5, 1, (.data (.int .u8) y3)⟩), ([1, 0], ⟨5, 1, (.data (.int .u8) y4)⟩)]) (fun y0 y1 y2 y3 y4 y5 => k (.cut [0, 1] y0 y1) [([0, 0], ⟨45, 4, (.mix [(.agg [(.ref [0, 1]), (.d ⟨(.int .i64), y2⟩), (.d ⟨.bool, y3⟩), (.d ⟨.bool, y4⟩)])])⟩), ([0, 1], ⟨5, 1, (.data (.int .u8) y5)⟩)]) := by kernel_rfl
theorem octet_Reader_take.ok (d : Nat) (hd : 2 ≤ d) (n18 : Int) (n19 : Int) (b20 : Bool) (b21 : Bool) (ns22 : List Int) (k : KR) (hx : octet_Reader_take n18 n19 b20 b21 ns22 (fun y0 y1 y2 y3 y4 => k (.ref [1, 0]) [([0, 0], ⟨45, 4, (.mix [(.agg [(.ref [0, 1]), (.d ⟨(.int .i64), y0⟩), (.d ⟨.bool, y1⟩), (.d ⟨.bool, y2⟩)])])⟩), ([0, 1], ⟨5, 1, (.data (.int .u8) y3)⟩), ([1, 0], ⟨5, 1, (.data (.int .u8) y4)⟩)]) (fun y0 y1 y2 y3 y4 y5 => k (.cut [0, 1] y0 y1) [([0, 0], ⟨45, 4, (.mix [(.agg [(.ref [0, 1]), (.d ⟨(.int .i64), y2⟩), (.d ⟨.bool, y3⟩), (.d ⟨.bool, y4⟩)])])⟩), ([0, 1], ⟨5, 1, (.data (.int .u8) y5)⟩)]) = some true) : callK Try.prog ht d 22 [(.ptr [0, 0] 0 0), (.d ⟨(.int .i64), n18⟩)] [([0, 0], ⟨45, 4, (.mix [(.agg [(.ref [0, 1]), (.d ⟨(.int .i64), n19⟩), (.d ⟨.bool, b20⟩), (.d ⟨.bool, b21⟩)])])⟩), ([0, 1], ⟨5, 1, (.data (.int .u8) ns22)⟩)] k = some true := by
  obtain ⟨d, rfl⟩ : ∃ e, d = e + 1 := ⟨d - 1, by omega⟩
  exact fn_ok (c := codeOf Try.f22) Try.func22 (by kernel_rfl) (rec := octet_Reader_take.calls octet_Reader_Bad octet_Reader_Left octet_Reader_spoil) (fun g a h k hx => by
    rcases octet_Reader_Bad.look d (by omega) hx with hx | hx
    rotate_left
    · exact hx
    rcases octet_Reader_Left.look d (by omega) hx with hx | hx
    rotate_left
    · exact hx
    rcases octet_Reader_spoil.look d (by omega) hx with hx | hx
    rotate_left
    · exact hx
    cases hx) (loopf := octet_Reader_take.loops) (by
    have e : loopsOf (octet_Reader_take.loops) 0 (codeOf Try.f22) = [] := by kernel_rfl
    rw [e]
    intro p hp
    cases hp) ((octet_Reader_take.eq octet_Reader_Bad octet_Reader_Left octet_Reader_spoil n18 n19 b20 b21 ns22 k).trans hx)
theorem octet_Reader_take.look (d : Nat) (hd : 2 ≤ d) {e : Option Bool} {g : FuncId} {a : List AV} {h : Heap} {k : KR} (hx : octet_Reader_take.get octet_Reader_take e g a h k = some true) : e = some true ∨ callK Try.prog ht d g a h k = some true := by
  unfold octet_Reader_take.get at hx
  split at hx
  · exact .inr (octet_Reader_take.ok d hd _ _ _ _ _ _ hx)
  · exact .inl hx
/-- function 21: the loop in block 0 -/
noncomputable def octet_number_L0.body (octet_number_L0 : Int → Int → Int → Int → Bool → Bool → (List Int) → (List Int) → (Int → Int → Bool → Bool → (List Int) → (List Int) → Option Bool) → Option Bool) (n62 : Int) (n63 : Int) (n64 : Int) (n65 : Int) (b66 : Bool) (b67 : Bool) (ns68 : List Int) (ns69 : List Int) (k1 : Int → Int → Bool → Bool → (List Int) → (List Int) → Option Bool) : Option Bool :=
  (cond_ (decide (n64 < n63)) (cond_ ((decide ((0 : Int) ≤ n64)) && (decide (n64 < (((List.length ns69) : Nat) : Int)))) (octet_number_L0 (IntKind.wrap .i64 (((@BitVec.toNat (64 : Nat) ((@BitVec.ofInt (64 : Nat) (IntKind.wrap .i64 (n62 * (256 : Int)))) ||| (@BitVec.ofInt (64 : Nat) (IntKind.wrap .i64 (List.getD ns69 (Int.toNat n64) (0 : Int)))))) : Nat) : Int)) n63 (IntKind.wrap .i64 (n64 + (1 : Int))) n65 b66 b67 ns68 ns69 k1) none) (k1 n62 n65 b66 b67 ns68 ns69))
noncomputable def octet_number_L0 : Nat → Int → Int → Int → Int → Bool → Bool → (List Int) → (List Int) → (Int → Int → Bool → Bool → (List Int) → (List Int) → Option Bool) → Option Bool
  | 0 => fun _ _ _ _ _ _ _ _ _ => none
  | n + 1 => octet_number_L0.body (octet_number_L0 n)
noncomputable def octet_number_L0.get (F : Int → Int → Int → Int → Bool → Bool → (List Int) → (List Int) → (Int → Int → Bool → Bool → (List Int) → (List Int) → Option Bool) → Option Bool) (e : Option Bool) (st : St) (k : KE) : Option Bool := match st with
  | ⟨sl, hp, m⟩ => match Nat.beq m 2, pickS 33 [6, 7, 19, 20, 21] sl, hp with
    | true, some [(.d ⟨(.int .i64), n62⟩), (.ref [1, 0]), (.ref [1, 0]), (.d ⟨(.int .i64), n63⟩), (.d ⟨(.int .i64), n64⟩)], [([0, 0], ⟨45, 4, (.mix [(.agg [(.ref [0, 1]), (.d ⟨(.int .i64), n65⟩), (.d ⟨.bool, b66⟩), (.d ⟨.bool, b67⟩)])])⟩), ([0, 1], ⟨5, 1, (.data (.int .u8) ns68)⟩), ([1, 0], ⟨5, 1, (.data (.int .u8) ns69)⟩)] => F n62 n63 n64 n65 b66 b67 ns68 ns69 (fun y0 y1 y2 y3 y4 y5 => k (.exit 0) ⟨fillS 33 [6, 7] [(.d ⟨(.int .i64), y0⟩), (.ref [1, 0])], [([0, 0], ⟨45, 4, (.mix [(.agg [(.ref [0, 1]), (.d ⟨(.int .i64), y1⟩), (.d ⟨.bool, y2⟩), (.d ⟨.bool, y3⟩)])])⟩), ([0, 1], ⟨5, 1, (.data (.int .u8) y4)⟩), ([1, 0], ⟨5, 1, (.data (.int .u8) y5)⟩)], 2⟩)
    | _, _, _ => e
noncomputable def octet_number_L0.calls : RecF := fun g a h k => none
noncomputable def octet_number_L0.loops : LoopF := fun b => none
set_option maxRecDepth 100000 in
theorem octet_number_L0.step (S : Int → Int → Int → Int → Bool → Bool → (List Int) → (List Int) → (Int → Int → Bool → Bool → (List Int) → (List Int) → Option Bool) → Option Bool) (n62 : Int) (n63 : Int) (n64 : Int) (n65 : Int) (b66 : Bool) (b67 : Bool) (ns68 : List Int) (ns69 : List Int) (k : KE) : execL Try.prog ht 21 (callfOf (octet_number_L0.calls)) (octet_number_L0.loops) 0 (loopAt 0 (codeOf Try.f21)) ⟨fillS 33 [6, 7, 19, 20, 21] [(.d ⟨(.int .i64), n62⟩), (.ref [1, 0]), (.ref [1, 0]), (.d ⟨(.int .i64), n63⟩), (.d ⟨(.int .i64), n64⟩)], [([0, 0], ⟨45, 4, (.mix [(.agg [(.ref [0, 1]), (.d ⟨(.int .i64), n65⟩), (.d ⟨.bool, b66⟩), (.d ⟨.bool, b67⟩)])])⟩), ([0, 1], ⟨5, 1, (.data (.int .u8) ns68)⟩), ([1, 0], ⟨5, 1, (.data (.int .u8) ns69)⟩)], 2⟩ (again (octet_number_L0.get S none) (plan Try.prog (ht 21 0)) k) = octet_number_L0.body S n62 n63 n64 n65 b66 b67 ns68 ns69 (fun y0 y1 y2 y3 y4 y5 => k (.exit 0) ⟨fillS 33 [6, 7] [(.d ⟨(.int .i64), y0⟩), (.ref [1, 0])], [([0, 0], ⟨45, 4, (.mix [(.agg [(.ref [0, 1]), (.d ⟨(.int .i64), y1⟩), (.d ⟨.bool, y2⟩), (.d ⟨.bool, y3⟩)])])⟩), ([0, 1], ⟨5, 1, (.data (.int .u8) y4)⟩), ([1, 0], ⟨5, 1, (.data (.int .u8) y5)⟩)], 2⟩) := by kernel_rfl
theorem octet_number_L0.ok (d : Nat) (hd : 0 ≤ d) : ∀ n st k, octet_number_L0.get (octet_number_L0 n) none st k = some true → iter n (plan Try.prog (ht 21 0)) (fun st k => execK Try.prog ht 21 (callfOf (callK Try.prog ht d)) 0 (loopAt 0 (codeOf Try.f21)) st k) st k = some true :=
  loop_ok (lfn := fun n st k => octet_number_L0.get (octet_number_L0 n) none st k) (rec := octet_number_L0.calls) (fun g a h k hx => by
    cases hx) (loopf := octet_number_L0.loops) (by
    have e : loopsOf (octet_number_L0.loops) 0 (loopAt 0 (codeOf Try.f21)) = [] := by kernel_rfl
    rw [e]
    intro p hp
    cases hp) (fun st k h => by
    obtain ⟨sl, hp, m⟩ := st
    unfold octet_number_L0.get at h
    dsimp only at h
    split at h
    · have h' : (none : Option Bool) = some true := h
      cases h'
    · cases h) (fun n st k h => by
    obtain ⟨sl, hp, m⟩ := st
    unfold octet_number_L0.get at h
    dsimp only at h
    split at h
    · rename_i h1 h2
      obtain rfl := pickS_ok h2
      obtain rfl := Nat.eq_of_beq_eq_true h1
      exact (octet_number_L0.step (octet_number_L0 n) _ _ _ _ _ _ _ _ k).trans h
    · cases h)
theorem octet_number_L0.look {F : Int → Int → Int → Int → Bool → Bool → (List Int) → (List Int) → (Int → Int → Bool → Bool → (List Int) → (List Int) → Option Bool) → Option Bool} {e : Option Bool} {st : St} {k : KE} (hx : octet_number_L0.get F e st k = some true) : e = some true ∨ octet_number_L0.get F none st k = some true := by
  obtain ⟨sl, hp, m⟩ := st
  unfold octet_number_L0.get at hx ⊢
  dsimp only at hx ⊢
  split at hx
  · exact .inr hx
  · exact .inl hx
/-- function 21: the loop in block 0 -/
noncomputable def octet_number_L0v1.body (octet_number_L0v1 : Int → Nat → Nat → Nat → Nat → Int → Int → Int → Bool → Bool → (List Int) → (Int → Nat → Nat → Int → Bool → Bool → (List Int) → Option Bool) → Option Bool) (n82 : Int) (m83 : Nat) (m84 : Nat) (m85 : Nat) (m86 : Nat) (n87 : Int) (n88 : Int) (n89 : Int) (b90 : Bool) (b91 : Bool) (ns92 : List Int) (k1 : Int → Nat → Nat → Int → Bool → Bool → (List Int) → Option Bool) : Option Bool :=
  (cond_ (decide (n88 < n87)) (cond_ ((decide ((0 : Int) ≤ n88)) && (decide (n88 < ((m86 : Nat) : Int)))) (octet_number_L0v1 (IntKind.wrap .i64 (((@BitVec.toNat (64 : Nat) ((@BitVec.ofInt (64 : Nat) (IntKind.wrap .i64 (n82 * (256 : Int)))) ||| (@BitVec.ofInt (64 : Nat) (IntKind.wrap .i64 (List.getD ns92 (m85 + (Int.toNat n88)) (0 : Int)))))) : Nat) : Int)) m83 m84 m85 m86 n87 (IntKind.wrap .i64 (n88 + (1 : Int))) n89 b90 b91 ns92 k1) none) (k1 n82 m83 m84 n89 b90 b91 ns92))
noncomputable def octet_number_L0v1 : Nat → Int → Nat → Nat → Nat → Nat → Int → Int → Int → Bool → Bool → (List Int) → (Int → Nat → Nat → Int → Bool → Bool → (List Int) → Option Bool) → Option Bool
  | 0 => fun _ _ _ _ _ _ _ _ _ _ _ _ => none
  | n + 1 => octet_number_L0v1.body (octet_number_L0v1 n)
noncomputable def octet_number_L0v1.get (F : Int → Nat → Nat → Nat → Nat → Int → Int → Int → Bool → Bool → (List Int) → (Int → Nat → Nat → Int → Bool → Bool → (List Int) → Option Bool) → Option Bool) (e : Option Bool) (st : St) (k : KE) : Option Bool := match st with
  | ⟨sl, hp, m⟩ => match Nat.beq m 2, pickS 33 [6, 7, 19, 20, 21] sl, hp with
    | true, some [(.d ⟨(.int .i64), n82⟩), (.cut [0, 1] m83 m84), (.cut [0, 1] m85 m86), (.d ⟨(.int .i64), n87⟩), (.d ⟨(.int .i64), n88⟩)], [([0, 0], ⟨45, 4, (.mix [(.agg [(.ref [0, 1]), (.d ⟨(.int .i64), n89⟩), (.d ⟨.bool, b90⟩), (.d ⟨.bool, b91⟩)])])⟩), ([0, 1], ⟨5, 1, (.data (.int .u8) ns92)⟩)] => F n82 m83 m84 m85 m86 n87 n88 n89 b90 b91 ns92 (fun y0 y1 y2 y3 y4 y5 y6 => k (.exit 0) ⟨fillS 33 [6, 7] [(.d ⟨(.int .i64), y0⟩), (.cut [0, 1] y1 y2)], [([0, 0], ⟨45, 4, (.mix [(.agg [(.ref [0, 1]), (.d ⟨(.int .i64), y3⟩), (.d ⟨.bool, y4⟩), (.d ⟨.bool, y5⟩)])])⟩), ([0, 1], ⟨5, 1, (.data (.int .u8) y6)⟩)], 2⟩)
    | _, _, _ => e
noncomputable def octet_number_L0v1.calls : RecF := fun g a h k => none
noncomputable def octet_number_L0v1.loops : LoopF := fun b => none
set_option maxRecDepth 100000 in
theorem octet_number_L0v1.step (S : Int → Nat → Nat → Nat → Nat → Int → Int → Int → Bool → Bool → (List Int) → (Int → Nat → Nat → Int → Bool → Bool → (List Int) → Option Bool) → Option Bool) (n82 : Int) (m83 : Nat) (m84 : Nat) (m85 : Nat) (m86 : Nat) (n87 : Int) (n88 : Int) (n89 : Int) (b90 : Bool) (b91 : Bool) (ns92 : List Int) (k : KE) : execL Try.prog ht 21 (callfOf (octet_number_L0v1.calls)) (octet_number_L0v1.loops) 0 (loopAt 0 (codeOf Try.f21)) ⟨fillS 33 [6, 7, 19, 20, 21] [(.d ⟨(.int .i64), n82⟩), (.cut [0, 1] m83 m84), (.cut [0, 1] m85 m86), (.d ⟨(.int .i64), n87⟩), (.d ⟨(.int .i64), n88⟩)], [([0, 0], ⟨45, 4, (.mix [(.agg [(.ref [0, 1]), (.d ⟨(.int .i64), n89⟩), (.d ⟨.bool, b90⟩), (.d ⟨.bool, b91⟩)])])⟩), ([0, 1], ⟨5, 1, (.data (.int .u8) ns92)⟩)], 2⟩ (again (octet_number_L0v1.get S none) (plan Try.prog (ht 21 0)) k) = octet_number_L0v1.body S n82 m83 m84 m85 m86 n87 n88 n89 b90 b91 ns92 (fun y0 y1 y2 y3 y4 y5 y6 => k (.exit 0) ⟨fillS 33 [6, 7] [(.d ⟨(.int .i64), y0⟩), (.cut [0, 1] y1 y2)], [([0, 0], ⟨45, 4, (.mix [(.agg [(.ref [0, 1]), (.d ⟨(.int .i64), y3⟩), (.d ⟨.bool, y4⟩), (.d ⟨.bool, y5⟩)])])⟩), ([0, 1], ⟨5, 1, (.data (.int .u8) y6)⟩)], 2⟩) := by kernel_rfl
theorem octet_number_L0v1.ok (d : Nat) (hd : 0 ≤ d) : ∀ n st k, octet_number_L0v1.get (octet_number_L0v1 n) none st k = some true → iter n (plan Try.prog (ht 21 0)) (fun st k => execK Try.prog ht 21 (callfOf (callK Try.prog ht d)) 0 (loopAt 0 (codeOf Try.f21)) st k) st k = some true :=
  loop_ok (lfn := fun n st k => octet_number_L0v1.get (octet_number_L0v1 n) none st k) (rec := octet_number_L0v1.calls) (fun g a h k hx => by
    cases hx) (loopf := octet_number_L0v1.loops) (by
    have e : loopsOf (octet_number_L0v1.loops) 0 (loopAt 0 (codeOf Try.f21)) = [] := by kernel_rfl
    rw [e]
    intro p hp
    cases hp) (fun st k h => by
    obtain ⟨sl, hp, m⟩ := st
    unfold octet_number_L0v1.get at h
    dsimp only at h
    split at h
    · have h' : (none : Option Bool) = some true := h
      cases h'
    · cases h) (fun n st k h => by
    obtain ⟨sl, hp, m⟩ := st
    unfold octet_number_L0v1.get at h
    dsimp only at h
    split at h
    · rename_i h1 h2
      obtain rfl := pickS_ok h2
      obtain rfl := Nat.eq_of_beq_eq_true h1
      exact (octet_number_L0v1.step (octet_number_L0v1 n) _ _ _ _ _ _ _ _ _ _ _ k).trans h
    · cases h)
theorem octet_number_L0v1.look {F : Int → Nat → Nat → Nat → Nat → Int → Int → Int → Bool → Bool → (List Int) → (Int → Nat → Nat → Int → Bool → Bool → (List Int) → Option Bool) → Option Bool} {e : Option Bool} {st : St} {k : KE} (hx : octet_number_L0v1.get F e st k = some true) : e = some true ∨ octet_number_L0v1.get F none st k = some true := by
  obtain ⟨sl, hp, m⟩ := st
  unfold octet_number_L0v1.get at hx ⊢
  dsimp only at hx ⊢
  split at hx
  · exact .inr hx
  · exact .inl hx
/-- function 21: sheerleg/octet.number -/
noncomputable def octet_number.body (octet_Reader_take : Int → Int → Bool → Bool → (List Int) → (Int → Bool → Bool → (List Int) → (List Int) → Option Bool) → (Nat → Nat → Int → Bool → Bool → (List Int) → Option Bool) → Option Bool) (octet_number_L0 : Int → Int → Int → Int → Bool → Bool → (List Int) → (List Int) → (Int → Int → Bool → Bool → (List Int) → (List Int) → Option Bool) → Option Bool) (octet_number_L0v1 : Int → Nat → Nat → Nat → Nat → Int → Int → Int → Bool → Bool → (List Int) → (Int → Nat → Nat → Int → Bool → Bool → (List Int) → Option Bool) → Option Bool) (n13 : Int) (n14 : Int) (b15 : Bool) (b16 : Bool) (ns17 : List Int) (k1 : Int → Int → Bool → Bool → (List Int) → (List Int) → Option Bool) (k2 : Int → Nat → Nat → Int → Bool → Bool → (List Int) → Option Bool) : Option Bool :=
  (cond_ (! (decide (n13 < (1 : Int)))) (cond_ (decide (n13 > (8 : Int))) (octet_Reader_take (-1 : Int) n14 b15 b16 ns17
  (fun n57 b58 b59 ns60 ns61 => (octet_number_L0 (0 : Int) (((List.length ns61) : Nat) : Int) (0 : Int) n57 b58 b59 ns60 ns61
  (fun n70 n71 b72 b73 ns74 ns75 => (k1 n70 n71 b72 b73 ns74 ns75))))
  (fun m76 m77 n78 b79 b80 ns81 => (octet_number_L0v1 (0 : Int) m76 m77 m76 m77 ((m77 : Nat) : Int) (0 : Int) n78 b79 b80 ns81
  (fun n93 m94 m95 n96 b97 b98 ns99 => (k2 n93 m94 m95 n96 b97 b98 ns99))))) (octet_Reader_take n13 n14 b15 b16 ns17
  (fun n100 b101 b102 ns103 ns104 => (octet_number_L0 (0 : Int) (((List.length ns104) : Nat) : Int) (0 : Int) n100 b101 b102 ns103 ns104
  (fun n105 n106 b107 b108 ns109 ns110 => (k1 n105 n106 b107 b108 ns109 ns110))))
  (fun m111 m112 n113 b114 b115 ns116 => (octet_number_L0v1 (0 : Int) m111 m112 m111 m112 ((m112 : Nat) : Int) (0 : Int) n113 b114 b115 ns116
  (fun n117 m118 m119 n120 b121 b122 ns123 => (k2 n117 m118 m119 n120 b121 b122 ns123)))))) (octet_Reader_take (-1 : Int) n14 b15 b16 ns17
  (fun n124 b125 b126 ns127 ns128 => (octet_number_L0 (0 : Int) (((List.length ns128) : Nat) : Int) (0 : Int) n124 b125 b126 ns127 ns128
  (fun n129 n130 b131 b132 ns133 ns134 => (k1 n129 n130 b131 b132 ns133 ns134))))
  (fun m135 m136 n137 b138 b139 ns140 => (octet_number_L0v1 (0 : Int) m135 m136 m135 m136 ((m136 : Nat) : Int) (0 : Int) n137 b138 b139 ns140
  (fun n141 m142 m143 n144 b145 b146 ns147 => (k2 n141 m142 m143 n144 b145 b146 ns147))))))
noncomputable def octet_number (n13 : Int) (n14 : Int) (b15 : Bool) (b16 : Bool) (ns17 : List Int) (k1 : Int → Int → Bool → Bool → (List Int) → (List Int) → Option Bool) (k2 : Int → Nat → Nat → Int → Bool → Bool → (List Int) → Option Bool) : Option Bool := octet_number.body octet_Reader_take (octet_number_L0 ROUNDS) (octet_number_L0v1 ROUNDS) n13 n14 b15 b16 ns17 k1 k2
noncomputable def octet_number.get (F : Int → Int → Bool → Bool → (List Int) → (Int → Int → Bool → Bool → (List Int) → (List Int) → Option Bool) → (Int → Nat → Nat → Int → Bool → Bool → (List Int) → Option Bool) → Option Bool) (e : Option Bool) (g : FuncId) (a : List AV) (h : Heap) (k : KR) : Option Bool := match g, a, h with
  | 21, [(.fn (.func 22) [(.ptr [0, 0] 0 0)] []), (.d ⟨(.int .i64), n13⟩)], [([0, 0], ⟨45, 4, (.mix [(.agg [(.ref [0, 1]), (.d ⟨(.int .i64), n14⟩), (.d ⟨.bool, b15⟩), (.d ⟨.bool, b16⟩)])])⟩), ([0, 1], ⟨5, 1, (.data (.int .u8) ns17)⟩)] => F n13 n14 b15 b16 ns17 (fun y0 y1 y2 y3 y4 y5 => k (.tup [(.d ⟨(.int .i64), y0⟩), (.ref [1, 0])]) [([0, 0], ⟨45, 4, (.mix [(.agg [(.ref [0, 1]), (.d ⟨(.int .i64), y1⟩), (.d ⟨.bool, y2⟩), (.d ⟨.bool, y3⟩)])])⟩), ([0, 1], ⟨5, 1, (.data (.int .u8) y4)⟩), ([1, 0], ⟨5, 1, (.data (.int .u8) y5)⟩)]) (fun y0 y1 y2 y3 y4 y5 y6 => k (.tup [(.d ⟨(.int .i64), y0⟩), (.cut [0, 1] y1 y2)]) [([0, 0], ⟨45, 4, (.mix [(.agg [(.ref [0, 1]), (.d ⟨(.int .i64), y3⟩), (.d ⟨.bool, y4⟩), (.d ⟨.bool, y5⟩)])])⟩), ([0, 1], ⟨5, 1, (.data (.int .u8) y6)⟩)])
  | _, _, _ => e
noncomputable def octet_number.calls (F0 : Int → Int → Bool → Bool → (List Int) → (Int → Bool → Bool → (List Int) → (List Int) → Option Bool) → (Nat → Nat → Int → Bool → Bool → (List Int) → Option Bool) → Option Bool) : RecF := fun g a h k => (octet_Reader_take.get F0 none g a h k)
noncomputable def octet_number.loops (L0 : Int → Int → Int → Int → Bool → Bool → (List Int) → (List Int) → (Int → Int → Bool → Bool → (List Int) → (List Int) → Option Bool) → Option Bool) (L1 : Int → Nat → Nat → Nat → Nat → Int → Int → Int → Bool → Bool → (List Int) → (Int → Nat → Nat → Int → Bool → Bool → (List Int) → Option Bool) → Option Bool) : LoopF := fun b => match Nat.beq b 0 with | true => some (fun st k => (octet_number_L0.get L0 (octet_number_L0v1.get L1 none st k) st k)) | false => none
set_option maxRecDepth 100000 in
theorem octet_number.eq (F0 : Int → Int → Bool → Bool → (List Int) → (Int → Bool → Bool → (List Int) → (List Int) → Option Bool) → (Nat → Nat → Int → Bool → Bool → (List Int) → Option Bool) → Option Bool) (L0 : Int → Int → Int → Int → Bool → Bool → (List Int) → (List Int) → (Int → Int → Bool → Bool → (List Int) → (List Int) → Option Bool) → Option Bool) (L1 : Int → Nat → Nat → Nat → Nat → Int → Int → Int → Bool → Bool → (List Int) → (Int → Nat → Nat → Int → Bool → Bool → (List Int) → Option Bool) → Option Bool) (n13 : Int) (n14 : Int) (b15 : Bool) (b16 : Bool) (ns17 : List Int) (k : KR) : execL Try.prog ht 21 (callfOf (octet_number.calls F0)) (octet_number.loops L0 L1) 0 (codeOf Try.f21) ⟨[(.fn (.func 22) [(.ptr [0, 0] 0 0)] []), (.d ⟨(.int .i64), n13⟩)] ++ List.replicate (Try.f21.ntmps - ([(.fn (.func 22) [(.ptr [0, 0] 0 0)] []), (.d ⟨(.int .i64), n13⟩)] : List AV).length) .undef, [([0, 0], ⟨45, 4, (.mix [(.agg [(.ref [0, 1]), (.d ⟨(.int .i64), n14⟩), (.d ⟨.bool, b15⟩), (.d ⟨.bool, b16⟩)])])⟩), ([0, 1], ⟨5, 1, (.data (.int .u8) ns17)⟩)], 2⟩ (leave Try.prog Try.f21 k) = octet_number.body F0 L0 L1 n13 n14 b15 b16 ns17 (fun y0 y1 y2 y3 y4 y5 => k (.tup [(.d ⟨(.int .i64), y0⟩), (.ref [1, 0])]) [([0, 0], ⟨45, 4, (.mix [(.agg [(.ref [0, 1]), (.d ⟨(.int .i64), y1⟩), (.d ⟨.bool, y2⟩), (.d ⟨.bool, y3⟩)])])⟩), ([0, 1], ⟨5, 1, (.data (.int .u8) y4)⟩), ([1, 0], ⟨5, 1, (.data (.int .u8) y5)⟩)]) (fun y0 y1 y2 y3 y4 y5 y6 => k (.tup [(.d ⟨(.int .i64), y0⟩), (.cut [0, 1] y1 y2)]) [([0, 0], ⟨45, 4, (.mix [(.agg [(.ref [0, 1]), (.d ⟨(.int .i64), y3⟩), (.d ⟨.bool, y4⟩), (.d ⟨.bool, y5⟩)])])⟩), ([0, 1], ⟨5, 1, (.data (.int .u8) y6)⟩)]) := by kernel_rfl
theorem octet_number.ok (d : Nat) (hd : 3 ≤ d) (n13 : Int) (n14 : Int) (b15 : Bool) (b16 : Bool) (ns17 : List Int) (k : KR) (hx : octet_number n13 n14 b15 b16 ns17 (fun y0 y1 y2 y3 y4 y5 => k (.tup [(.d ⟨(.int .i64), y0⟩), (.ref [1, 0])]) [([0, 0], ⟨45, 4, (.mix [(.agg [(.ref [0, 1]), (.d ⟨(.int .i64), y1⟩), (.d ⟨.bool, y2⟩), (.d ⟨.bool, y3⟩)])])⟩), ([0, 1], ⟨5, 1, (.data (.int .u8) y4)⟩), ([1, 0], ⟨5, 1, (.data (.int .u8) y5)⟩)]) (fun y0 y1 y2 y3 y4 y5 y6 => k (.tup [(.d ⟨(.int .i64), y0⟩), (.cut [0, 1] y1 y2)]) [([0, 0], ⟨45, 4, (.mix [(.agg [(.ref [0, 1]), (.d ⟨(.int .i64), y3⟩), (.d ⟨.bool, y4⟩), (.d ⟨.bool, y5⟩)])])⟩), ([0, 1], ⟨5, 1, (.data (.int .u8) y6)⟩)]) = some true) : callK Try.prog ht d 21 [(.fn (.func 22) [(.ptr [0, 0] 0 0)] []), (.d ⟨(.int .i64), n13⟩)] [([0, 0], ⟨45, 4, (.mix [(.agg [(.ref [0, 1]), (.d ⟨(.int .i64), n14⟩), (.d ⟨.bool, b15⟩), (.d ⟨.bool, b16⟩)])])⟩), ([0, 1], ⟨5, 1, (.data (.int .u8) ns17)⟩)] k = some true := by
  obtain ⟨d, rfl⟩ : ∃ e, d = e + 1 := ⟨d - 1, by omega⟩
  exact fn_ok (c := codeOf Try.f21) Try.func21 (by kernel_rfl) (rec := octet_number.calls octet_Reader_take) (fun g a h k hx => by
    rcases octet_Reader_take.look d (by omega) hx with hx | hx
    rotate_left
    · exact hx
    cases hx) (loopf := octet_number.loops (octet_number_L0 ROUNDS) (octet_number_L0v1 ROUNDS)) (by
    have e : loopsOf (octet_number.loops (octet_number_L0 ROUNDS) (octet_number_L0v1 ROUNDS)) 0 (codeOf Try.f21) = [(0, loopAt 0 (codeOf Try.f21))] := by kernel_rfl
    rw [e]
    intro p hp
    simp only [List.mem_cons, List.not_mem_nil, or_false] at hp
    rcases hp with rfl
    · refine loopRef_of (callf := callfOf (callK Try.prog ht d)) (callfOf_ref (callK_mono d)) fun lf st k hb hx => ?_
      cases hb
      rcases octet_number_L0.look hx with hx | hx
      rotate_left
      · exact octet_number_L0.ok d (by omega) _ _ _ hx
      rcases octet_number_L0v1.look hx with hx | hx
      rotate_left
      · exact octet_number_L0v1.ok d (by omega) _ _ _ hx
      cases hx) ((octet_number.eq octet_Reader_take (octet_number_L0 ROUNDS) (octet_number_L0v1 ROUNDS) n13 n14 b15 b16 ns17 k).trans hx)
theorem octet_number.look (d : Nat) (hd : 3 ≤ d) {e : Option Bool} {g : FuncId} {a : List AV} {h : Heap} {k : KR} (hx : octet_number.get octet_number e g a h k = some true) : e = some true ∨ callK Try.prog ht d g a h k = some true := by
  unfold octet_number.get at hx
  split at hx
  · exact .inr (octet_number.ok d hd _ _ _ _ _ _ hx)
  · exact .inl hx
/-- function 17: (*sheerleg/octet.Reader).Num -/
noncomputable def octet_Reader_Num.body (octet_number : Int → Int → Bool → Bool → (List Int) → (Int → Int → Bool → Bool → (List Int) → (List Int) → Option Bool) → (Int → Nat → Nat → Int → Bool → Bool → (List Int) → Option Bool) → Option Bool) (n8 : Int) (n9 : Int) (b10 : Bool) (b11 : Bool) (ns12 : List Int) (k1 : Int → Int → Bool → Bool → (List Int) → Option Bool) : Option Bool :=
  (octet_number n8 n9 b10 b11 ns12
  (fun n148 n149 b150 b151 ns152 ns153 => (k1 n148 n149 b150 b151 ns152))
  (fun n154 m155 m156 n157 b158 b159 ns160 => (k1 n154 n157 b158 b159 ns160)))
noncomputable def octet_Reader_Num (n8 : Int) (n9 : Int) (b10 : Bool) (b11 : Bool) (ns12 : List Int) (k1 : Int → Int → Bool → Bool → (List Int) → Option Bool) : Option Bool := octet_Reader_Num.body octet_number n8 n9 b10 b11 ns12 k1
noncomputable def octet_Reader_Num.get (F : Int → Int → Bool → Bool → (List Int) → (Int → Int → Bool → Bool → (List Int) → Option Bool) → Option Bool) (e : Option Bool) (g : FuncId) (a : List AV) (h : Heap) (k : KR) : Option Bool := match g, a, h with
  | 17, [(.ptr [0, 0] 0 0), (.d ⟨(.int .i64), n8⟩)], [([0, 0], ⟨45, 4, (.mix [(.agg [(.ref [0, 1]), (.d ⟨(.int .i64), n9⟩), (.d ⟨.bool, b10⟩), (.d ⟨.bool, b11⟩)])])⟩), ([0, 1], ⟨5, 1, (.data (.int .u8) ns12)⟩)] => F n8 n9 b10 b11 ns12 (fun y0 y1 y2 y3 y4 => k (.d ⟨(.int .i64), y0⟩) [([0, 0], ⟨45, 4, (.mix [(.agg [(.ref [0, 1]), (.d ⟨(.int .i64), y1⟩), (.d ⟨.bool, y2⟩), (.d ⟨.bool, y3⟩)])])⟩), ([0, 1], ⟨5, 1, (.data (.int .u8) y4)⟩)])
  | _, _, _ => e
noncomputable def octet_Reader_Num.calls (F0 : Int → Int → Bool → Bool → (List Int) → (Int → Int → Bool → Bool → (List Int) → (List Int) → Option Bool) → (Int → Nat → Nat → Int → Bool → Bool → (List Int) → Option Bool) → Option Bool) : RecF := fun g a h k => (octet_number.get F0 none g a h k)
noncomputable def octet_Reader_Num.loops : LoopF := fun b => none
set_option maxRecDepth 100000 in
theorem octet_Reader_Num.eq (F0 : Int → Int → Bool → Bool → (List Int) → (Int → Int → Bool → Bool → (List Int) → (List Int) → Option Bool) → (Int → Nat → Nat → Int → Bool → Bool → (List Int) → Option Bool) → Option Bool) (n8 : Int) (n9 : Int) (b10 : Bool) (b11 : Bool) (ns12 : List Int) (k : KR) : execL Try.prog ht 17 (callfOf (octet_Reader_Num.calls F0)) (octet_Reader_Num.loops) 0 (codeOf Try.f17) ⟨[(.ptr [0, 0] 0 0), (.d ⟨(.int .i64), n8⟩)] ++ List.replicate (Try.f17.ntmps - ([(.ptr [0, 0] 0 0), (.d ⟨(.int .i64), n8⟩)] : List AV).length) .undef, [([0, 0], ⟨45, 4, (.mix [(.agg [(.ref [0, 1]), (.d ⟨(.int .i64), n9⟩), (.d ⟨.bool, b10⟩), (.d ⟨.bool, b11⟩)])])⟩), ([0, 1], ⟨5, 1, (.data (.int .u8) ns12)⟩)], 2⟩ (leave Try.prog Try.f17 k) = octet_Reader_Num.body F0 n8 n9 b10 b11 ns12 (fun y0 y1 y2 y3 y4 => k (.d ⟨(.int .i64), y0⟩) [([0, 0], ⟨45, 4, (.mix [(.agg [(.ref [0, 1]), (.d ⟨(.int .i64), y1⟩), (.d ⟨.bool, y2⟩), (.d ⟨.bool, y3⟩)])])⟩), ([0, 1], ⟨5, 1, (.data (.int .u8) y4)⟩)]) := by kernel_rfl
theorem octet_Reader_Num.ok (d : Nat) (hd : 4 ≤ d) (n8 : Int) (n9 : Int) (b10 : Bool) (b11 : Bool) (ns12 : List Int) (k : KR) (hx : octet_Reader_Num n8 n9 b10 b11 ns12 (fun y0 y1 y2 y3 y4 => k (.d ⟨(.int .i64), y0⟩) [([0, 0], ⟨45, 4, (.mix [(.agg [(.ref [0, 1]), (.d ⟨(.int .i64), y1⟩), (.d ⟨.bool, y2⟩), (.d ⟨.bool, y3⟩)])])⟩), ([0, 1], ⟨5, 1, (.data (.int .u8) y4)⟩)]) = some true) : callK Try.prog ht d 17 [(.ptr [0, 0] 0 0), (.d ⟨(.int .i64), n8⟩)] [([0, 0], ⟨45, 4, (.mix [(.agg [(.ref [0, 1]), (.d ⟨(.int .i64), n9⟩), (.d ⟨.bool, b10⟩), (.d ⟨.bool, b11⟩)])])⟩), ([0, 1], ⟨5, 1, (.data (.int .u8) ns12)⟩)] k = some true := by
  obtain ⟨d, rfl⟩ : ∃ e, d = e + 1 := ⟨d - 1, by omega⟩
  exact fn_ok (c := codeOf Try.f17) Try.func17 (by kernel_rfl) (rec := octet_Reader_Num.calls octet_number) (fun g a h k hx => by
    rcases octet_number.look d (by omega) hx with hx | hx
    rotate_left
    · exact hx
    cases hx) (loopf := octet_Reader_Num.loops) (by
    have e : loopsOf (octet_Reader_Num.loops) 0 (codeOf Try.f17) = [] := by kernel_rfl
    rw [e]
    intro p hp
    cases hp) ((octet_Reader_Num.eq octet_number n8 n9 b10 b11 ns12 k).trans hx)
theorem octet_Reader_Num.look (d : Nat) (hd : 4 ≤ d) {e : Option Bool} {g : FuncId} {a : List AV} {h : Heap} {k : KR} (hx : octet_Reader_Num.get octet_Reader_Num e g a h k = some true) : e = some true ∨ callK Try.prog ht d g a h k = some true := by
  unfold octet_Reader_Num.get at hx
  split at hx
  · exact .inr (octet_Reader_Num.ok d hd _ _ _ _ _ _ hx)
  · exact .inl hx
/-- function 13: sheerleg/sum.New -/
noncomputable def sum_New.body (k1 : (Int × Int × Bool × Unit) → Option Bool) : Option Bool :=
  (k1 ((1 : Int), ((0 : Int), (true, ()))))
noncomputable def sum_New (k1 : (Int × Int × Bool × Unit) → Option Bool) : Option Bool := sum_New.body k1
noncomputable def sum_New.get (F : ((Int × Int × Bool × Unit) → Option Bool) → Option Bool) (e : Option Bool) (g : FuncId) (a : List AV) (h : Heap) (k : KR) : Option Bool := match g, a, h with
  | 13, [], [] => F (fun y0 => k (.ptr [1, 0] 0 0) [([1, 0], ⟨36, 3, (.data (.st [(.int .i64), (.int .i64), .bool]) [y0])⟩)])
  | _, _, _ => e
noncomputable def sum_New.calls : RecF := fun g a h k => none
noncomputable def sum_New.loops : LoopF := fun b => none
set_option maxRecDepth 100000 in
theorem sum_New.eq (k : KR) : execL Try.prog ht 13 (callfOf (sum_New.calls)) (sum_New.loops) 0 (codeOf Try.f13) ⟨[] ++ List.replicate (Try.f13.ntmps - ([] : List AV).length) .undef, [], 2⟩ (leave Try.prog Try.f13 k) = sum_New.body (fun y0 => k (.ptr [1, 0] 0 0) [([1, 0], ⟨36, 3, (.data (.st [(.int .i64), (.int .i64), .bool]) [y0])⟩)]) := by kernel_rfl
theorem sum_New.ok (d : Nat) (hd : 1 ≤ d) (k : KR) (hx : sum_New (fun y0 => k (.ptr [1, 0] 0 0) [([1, 0], ⟨36, 3, (.data (.st [(.int .i64), (.int .i64), .bool]) [y0])⟩)]) = some true) : callK Try.prog ht d 13 [] [] k = some true := by
  obtain ⟨d, rfl⟩ : ∃ e, d = e + 1 := ⟨d - 1, by omega⟩
  exact fn_ok (c := codeOf Try.f13) Try.func13 (by kernel_rfl) (rec := sum_New.calls) (fun g a h k hx => by
    cases hx) (loopf := sum_New.loops) (by
    have e : loopsOf (sum_New.loops) 0 (codeOf Try.f13) = [] := by kernel_rfl
    rw [e]
    intro p hp
    cases hp) ((sum_New.eq k).trans hx)
theorem sum_New.look (d : Nat) (hd : 1 ≤ d) {e : Option Bool} {g : FuncId} {a : List AV} {h : Heap} {k : KR} (hx : sum_New.get sum_New e g a h k = some true) : e = some true ∨ callK Try.prog ht d g a h k = some true := by
  unfold sum_New.get at hx
  split at hx
  · exact .inr (sum_New.ok d hd _ hx)
  · exact .inl hx
/-- function 14: the loop in block 0 -/
noncomputable def sum_Adder_Add_L0.body (sum_Adder_Add_L0 : (List Int) → Int → Int → (Int × Int × Bool × Unit) → ((Int × Int × Bool × Unit) → Option Bool) → Option Bool) (ns172 : List Int) (n173 : Int) (n174 : Int) (t175 : Int × Int × Bool × Unit) (k1 : (Int × Int × Bool × Unit) → Option Bool) : Option Bool :=
  (cond_ (decide (n174 < n173)) (cond_ ((decide ((0 : Int) ≤ n174)) && (decide (n174 < (((List.length ns172) : Nat) : Int)))) (sum_Adder_Add_L0 ns172 n173 (IntKind.wrap .i64 (n174 + (1 : Int))) (((Int.tmod (IntKind.wrap .i64 (t175.1 + (IntKind.wrap .i64 (List.getD ns172 (Int.toNat n174) (0 : Int))))) (65521 : Int)), (t175.2.1, (t175.2.2.1, ()))).1, ((Int.tmod (IntKind.wrap .i64 (((Int.tmod (IntKind.wrap .i64 (t175.1 + (IntKind.wrap .i64 (List.getD ns172 (Int.toNat n174) (0 : Int))))) (65521 : Int)), (t175.2.1, (t175.2.2.1, ()))).2.1 + ((Int.tmod (IntKind.wrap .i64 (t175.1 + (IntKind.wrap .i64 (List.getD ns172 (Int.toNat n174) (0 : Int))))) (65521 : Int)), (t175.2.1, (t175.2.2.1, ()))).1)) (65521 : Int)), (((Int.tmod (IntKind.wrap .i64 (t175.1 + (IntKind.wrap .i64 (List.getD ns172 (Int.toNat n174) (0 : Int))))) (65521 : Int)), (t175.2.1, (t175.2.2.1, ()))).2.2.1, ()))) k1) none) (k1 t175))
noncomputable def sum_Adder_Add_L0 : Nat → (List Int) → Int → Int → (Int × Int × Bool × Unit) → ((Int × Int × Bool × Unit) → Option Bool) → Option Bool
  | 0 => fun _ _ _ _ _ => none
  | n + 1 => sum_Adder_Add_L0.body (sum_Adder_Add_L0 n)
noncomputable def sum_Adder_Add_L0.get (F : (List Int) → Int → Int → (Int × Int × Bool × Unit) → ((Int × Int × Bool × Unit) → Option Bool) → Option Bool) (e : Option Bool) (st : St) (k : KE) : Option Bool := match st with
  | ⟨sl, hp, m⟩ => match Nat.beq m 2, pickS 46 [0, 15, 16, 17] sl, hp with
    | true, some [(.ptr [0, 0] 0 0), (.bv 0 5 (.int .u8) ns172), (.d ⟨(.int .i64), n173⟩), (.d ⟨(.int .i64), n174⟩)], [([0, 0], ⟨36, 3, (.data (.st [(.int .i64), (.int .i64), .bool]) [t175])⟩)] => F ns172 n173 n174 t175 (fun y0 => k (.exit 0) ⟨fillS 46 [] [], [([0, 0], ⟨36, 3, (.data (.st [(.int .i64), (.int .i64), .bool]) [y0])⟩)], 2⟩)
    | _, _, _ => e
noncomputable def sum_Adder_Add_L0.calls : RecF := fun g a h k => none
noncomputable def sum_Adder_Add_L0.loops : LoopF := fun b => none
set_option maxRecDepth 100000 in
theorem sum_Adder_Add_L0.step (S : (List Int) → Int → Int → (Int × Int × Bool × Unit) → ((Int × Int × Bool × Unit) → Option Bool) → Option Bool) (ns172 : List Int) (n173 : Int) (n174 : Int) (t175 : Int × Int × Bool × Unit) (k : KE) : execL Try.prog ht 14 (callfOf (sum_Adder_Add_L0.calls)) (sum_Adder_Add_L0.loops) 0 (loopAt 0 (codeOf Try.f14)) ⟨fillS 46 [0, 15, 16, 17] [(.ptr [0, 0] 0 0), (.bv 0 5 (.int .u8) ns172), (.d ⟨(.int .i64), n173⟩), (.d ⟨(.int .i64), n174⟩)], [([0, 0], ⟨36, 3, (.data (.st [(.int .i64), (.int .i64), .bool]) [t175])⟩)], 2⟩ (again (sum_Adder_Add_L0.get S none) (plan Try.prog (ht 14 0)) k) = sum_Adder_Add_L0.body S ns172 n173 n174 t175 (fun y0 => k (.exit 0) ⟨fillS 46 [] [], [([0, 0], ⟨36, 3, (.data (.st [(.int .i64), (.int .i64), .bool]) [y0])⟩)], 2⟩) := by kernel_rfl
theorem sum_Adder_Add_L0.ok (d : Nat) (hd : 0 ≤ d) : ∀ n st k, sum_Adder_Add_L0.get (sum_Adder_Add_L0 n) none st k = some true → iter n (plan Try.prog (ht 14 0)) (fun st k => execK Try.prog ht 14 (callfOf (callK Try.prog ht d)) 0 (loopAt 0 (codeOf Try.f14)) st k) st k = some true :=
  loop_ok (lfn := fun n st k => sum_Adder_Add_L0.get (sum_Adder_Add_L0 n) none st k) (rec := sum_Adder_Add_L0.calls) (fun g a h k hx => by
    cases hx) (loopf := sum_Adder_Add_L0.loops) (by
    have e : loopsOf (sum_Adder_Add_L0.loops) 0 (loopAt 0 (codeOf Try.f14)) = [] := by kernel_rfl
    rw [e]
    intro p hp
    cases hp) (fun st k h => by
    obtain ⟨sl, hp, m⟩ := st
    unfold sum_Adder_Add_L0.get at h
    dsimp only at h
    split at h
    · have h' : (none : Option Bool) = some true := h
      cases h'
    · cases h) (fun n st k h => by
    obtain ⟨sl, hp, m⟩ := st
    unfold sum_Adder_Add_L0.get at h
    dsimp only at h
    split at h
    · rename_i h1 h2
      obtain rfl := pickS_ok h2
      obtain rfl := Nat.eq_of_beq_eq_true h1
      exact (sum_Adder_Add_L0.step (sum_Adder_Add_L0 n) _ _ _ _ k).trans h
    · cases h)
theorem sum_Adder_Add_L0.look {F : (List Int) → Int → Int → (Int × Int × Bool × Unit) → ((Int × Int × Bool × Unit) → Option Bool) → Option Bool} {e : Option Bool} {st : St} {k : KE} (hx : sum_Adder_Add_L0.get F e st k = some true) : e = some true ∨ sum_Adder_Add_L0.get F none st k = some true := by
  obtain ⟨sl, hp, m⟩ := st
  unfold sum_Adder_Add_L0.get at hx ⊢
  dsimp only at hx ⊢
  split at hx
  · exact .inr hx
  · exact .inl hx
/-- function 14: (*sheerleg/sum.Adder).Add -/
noncomputable def sum_Adder_Add.body (sum_Adder_Add_L0 : (List Int) → Int → Int → (Int × Int × Bool × Unit) → ((Int × Int × Bool × Unit) → Option Bool) → Option Bool) (ns170 : List Int) (t171 : Int × Int × Bool × Unit) (k1 : (Int × Int × Bool × Unit) → Option Bool) : Option Bool :=
  (cond_ (! t171.2.2.1) (k1 t171) (sum_Adder_Add_L0 ns170 (((List.length ns170) : Nat) : Int) (0 : Int) t171
  (fun t176 => (k1 t176))))
noncomputable def sum_Adder_Add (ns170 : List Int) (t171 : Int × Int × Bool × Unit) (k1 : (Int × Int × Bool × Unit) → Option Bool) : Option Bool := sum_Adder_Add.body (sum_Adder_Add_L0 ROUNDS) ns170 t171 k1
noncomputable def sum_Adder_Add.get (F : (List Int) → (Int × Int × Bool × Unit) → ((Int × Int × Bool × Unit) → Option Bool) → Option Bool) (e : Option Bool) (g : FuncId) (a : List AV) (h : Heap) (k : KR) : Option Bool := match g, a, h with
  | 14, [(.ptr [0, 0] 0 0), (.bv 0 5 (.int .u8) ns170)], [([0, 0], ⟨36, 3, (.data (.st [(.int .i64), (.int .i64), .bool]) [t171])⟩)] => F ns170 t171 (fun y0 => k (.tup []) [([0, 0], ⟨36, 3, (.data (.st [(.int .i64), (.int .i64), .bool]) [y0])⟩)])
  | _, _, _ => e
noncomputable def sum_Adder_Add.calls : RecF := fun g a h k => none
noncomputable def sum_Adder_Add.loops (L0 : (List Int) → Int → Int → (Int × Int × Bool × Unit) → ((Int × Int × Bool × Unit) → Option Bool) → Option Bool) : LoopF := fun b => match Nat.beq b 0 with | true => some (fun st k => (sum_Adder_Add_L0.get L0 none st k)) | false => none
set_option maxRecDepth 100000 in
theorem sum_Adder_Add.eq (L0 : (List Int) → Int → Int → (Int × Int × Bool × Unit) → ((Int × Int × Bool × Unit) → Option Bool) → Option Bool) (ns170 : List Int) (t171 : Int × Int × Bool × Unit) (k : KR) : execL Try.prog ht 14 (callfOf (sum_Adder_Add.calls)) (sum_Adder_Add.loops L0) 0 (codeOf Try.f14) ⟨[(.ptr [0, 0] 0 0), (.bv 0 5 (.int .u8) ns170)] ++ List.replicate (Try.f14.ntmps - ([(.ptr [0, 0] 0 0), (.bv 0 5 (.int .u8) ns170)] : List AV).length) .undef, [([0, 0], ⟨36, 3, (.data (.st [(.int .i64), (.int .i64), .bool]) [t171])⟩)], 2⟩ (leave Try.prog Try.f14 k) = sum_Adder_Add.body L0 ns170 t171 (fun y0 => k (.tup []) [([0, 0], ⟨36, 3, (.data (.st [(.int .i64), (.int .i64), .bool]) [y0])⟩)]) := by kernel_rfl
theorem sum_Adder_Add.ok (d : Nat) (hd : 1 ≤ d) (ns170 : List Int) (t171 : Int × Int × Bool × Unit) (k : KR) (hx : sum_Adder_Add ns170 t171 (fun y0 => k (.tup []) [([0, 0], ⟨36, 3, (.data (.st [(.int .i64), (.int .i64), .bool]) [y0])⟩)]) = some true) : callK Try.prog ht d 14 [(.ptr [0, 0] 0 0), (.bv 0 5 (.int .u8) ns170)] [([0, 0], ⟨36, 3, (.data (.st [(.int .i64), (.int .i64), .bool]) [t171])⟩)] k = some true := by
  obtain ⟨d, rfl⟩ : ∃ e, d = e + 1 := ⟨d - 1, by omega⟩
  exact fn_ok (c := codeOf Try.f14) Try.func14 (by kernel_rfl) (rec := sum_Adder_Add.calls) (fun g a h k hx => by
    cases hx) (loopf := sum_Adder_Add.loops (sum_Adder_Add_L0 ROUNDS)) (by
    have e : loopsOf (sum_Adder_Add.loops (sum_Adder_Add_L0 ROUNDS)) 0 (codeOf Try.f14) = [(0, loopAt 0 (codeOf Try.f14))] := by kernel_rfl
    rw [e]
    intro p hp
    simp only [List.mem_cons, List.not_mem_nil, or_false] at hp
    rcases hp with rfl
    · refine loopRef_of (callf := callfOf (callK Try.prog ht d)) (callfOf_ref (callK_mono d)) fun lf st k hb hx => ?_
      cases hb
      rcases sum_Adder_Add_L0.look hx with hx | hx
      rotate_left
      · exact sum_Adder_Add_L0.ok d (by omega) _ _ _ hx
      cases hx) ((sum_Adder_Add.eq (sum_Adder_Add_L0 ROUNDS) ns170 t171 k).trans hx)
theorem sum_Adder_Add.look (d : Nat) (hd : 1 ≤ d) {e : Option Bool} {g : FuncId} {a : List AV} {h : Heap} {k : KR} (hx : sum_Adder_Add.get sum_Adder_Add e g a h k = some true) : e = some true ∨ callK Try.prog ht d g a h k = some true := by
  unfold sum_Adder_Add.get at hx
  split at hx
  · exact .inr (sum_Adder_Add.ok d hd _ _ _ hx)
  · exact .inl hx
/-- function 18: sheerleg/sum.feed -/
noncomputable def sum_feed.body (sum_Adder_Add : (List Int) → (Int × Int × Bool × Unit) → ((Int × Int × Bool × Unit) → Option Bool) → Option Bool) (ns168 : List Int) (t169 : Int × Int × Bool × Unit) (k1 : (Int × Int × Bool × Unit) → Option Bool) : Option Bool :=
  (sum_Adder_Add ns168 t169
  (fun t177 => (k1 t177)))
noncomputable def sum_feed (ns168 : List Int) (t169 : Int × Int × Bool × Unit) (k1 : (Int × Int × Bool × Unit) → Option Bool) : Option Bool := sum_feed.body sum_Adder_Add ns168 t169 k1
noncomputable def sum_feed.get (F : (List Int) → (Int × Int × Bool × Unit) → ((Int × Int × Bool × Unit) → Option Bool) → Option Bool) (e : Option Bool) (g : FuncId) (a : List AV) (h : Heap) (k : KR) : Option Bool := match g, a, h with
  | 18, [(.fn (.func 14) [(.ptr [0, 0] 0 0)] []), (.bv 0 5 (.int .u8) ns168)], [([0, 0], ⟨36, 3, (.data (.st [(.int .i64), (.int .i64), .bool]) [t169])⟩)] => F ns168 t169 (fun y0 => k (.tup []) [([0, 0], ⟨36, 3, (.data (.st [(.int .i64), (.int .i64), .bool]) [y0])⟩)])
  | _, _, _ => e
noncomputable def sum_feed.calls (F0 : (List Int) → (Int × Int × Bool × Unit) → ((Int × Int × Bool × Unit) → Option Bool) → Option Bool) : RecF := fun g a h k => (sum_Adder_Add.get F0 none g a h k)
noncomputable def sum_feed.loops : LoopF := fun b => none
set_option maxRecDepth 100000 in
theorem sum_feed.eq (F0 : (List Int) → (Int × Int × Bool × Unit) → ((Int × Int × Bool × Unit) → Option Bool) → Option Bool) (ns168 : List Int) (t169 : Int × Int × Bool × Unit) (k : KR) : execL Try.prog ht 18 (callfOf (sum_feed.calls F0)) (sum_feed.loops) 0 (codeOf Try.f18) ⟨[(.fn (.func 14) [(.ptr [0, 0] 0 0)] []), (.bv 0 5 (.int .u8) ns168)] ++ List.replicate (Try.f18.ntmps - ([(.fn (.func 14) [(.ptr [0, 0] 0 0)] []), (.bv 0 5 (.int .u8) ns168)] : List AV).length) .undef, [([0, 0], ⟨36, 3, (.data (.st [(.int .i64), (.int .i64), .bool]) [t169])⟩)], 2⟩ (leave Try.prog Try.f18 k) = sum_feed.body F0 ns168 t169 (fun y0 => k (.tup []) [([0, 0], ⟨36, 3, (.data (.st [(.int .i64), (.int .i64), .bool]) [y0])⟩)]) := by kernel_rfl
theorem sum_feed.ok (d : Nat) (hd : 2 ≤ d) (ns168 : List Int) (t169 : Int × Int × Bool × Unit) (k : KR) (hx : sum_feed ns168 t169 (fun y0 => k (.tup []) [([0, 0], ⟨36, 3, (.data (.st [(.int .i64), (.int .i64), .bool]) [y0])⟩)]) = some true) : callK Try.prog ht d 18 [(.fn (.func 14) [(.ptr [0, 0] 0 0)] []), (.bv 0 5 (.int .u8) ns168)] [([0, 0], ⟨36, 3, (.data (.st [(.int .i64), (.int .i64), .bool]) [t169])⟩)] k = some true := by
  obtain ⟨d, rfl⟩ : ∃ e, d = e + 1 := ⟨d - 1, by omega⟩
  exact fn_ok (c := codeOf Try.f18) Try.func18 (by kernel_rfl) (rec := sum_feed.calls sum_Adder_Add) (fun g a h k hx => by
    rcases sum_Adder_Add.look d (by omega) hx with hx | hx
    rotate_left
    · exact hx
    cases hx) (loopf := sum_feed.loops) (by
    have e : loopsOf (sum_feed.loops) 0 (codeOf Try.f18) = [] := by kernel_rfl
    rw [e]
    intro p hp
    cases hp) ((sum_feed.eq sum_Adder_Add ns168 t169 k).trans hx)
theorem sum_feed.look (d : Nat) (hd : 2 ≤ d) {e : Option Bool} {g : FuncId} {a : List AV} {h : Heap} {k : KR} (hx : sum_feed.get sum_feed e g a h k = some true) : e = some true ∨ callK Try.prog ht d g a h k = some true := by
  unfold sum_feed.get at hx
  split at hx
  · exact .inr (sum_feed.ok d hd _ _ _ hx)
  · exact .inl hx
/-- function 15: (*sheerleg/sum.Adder).Sum -/
noncomputable def sum_Adder_Sum.body (t179 : Int × Int × Bool × Unit) (k1 : Int → (Int × Int × Bool × Unit) → Option Bool) : Option Bool :=
  (cond_ (! t179.2.2.1) (k1 (0 : Int) t179) (k1 (IntKind.wrap .i64 (((@BitVec.toNat (64 : Nat) ((@BitVec.ofInt (64 : Nat) (IntKind.wrap .i64 (t179.2.1 * (65536 : Int)))) ||| (@BitVec.ofInt (64 : Nat) t179.1))) : Nat) : Int)) t179))
noncomputable def sum_Adder_Sum (t179 : Int × Int × Bool × Unit) (k1 : Int → (Int × Int × Bool × Unit) → Option Bool) : Option Bool := sum_Adder_Sum.body t179 k1
noncomputable def sum_Adder_Sum.get (F : (Int × Int × Bool × Unit) → (Int → (Int × Int × Bool × Unit) → Option Bool) → Option Bool) (e : Option Bool) (g : FuncId) (a : List AV) (h : Heap) (k : KR) : Option Bool := match g, a, h with
  | 15, [(.ptr [0, 0] 0 0)], [([0, 0], ⟨36, 3, (.data (.st [(.int .i64), (.int .i64), .bool]) [t179])⟩)] => F t179 (fun y0 y1 => k (.d ⟨(.int .i64), y0⟩) [([0, 0], ⟨36, 3, (.data (.st [(.int .i64), (.int .i64), .bool]) [y1])⟩)])
  | _, _, _ => e
noncomputable def sum_Adder_Sum.calls : RecF := fun g a h k => none
noncomputable def sum_Adder_Sum.loops : LoopF := fun b => none
set_option maxRecDepth 100000 in
theorem sum_Adder_Sum.eq (t179 : Int × Int × Bool × Unit) (k : KR) : execL Try.prog ht 15 (callfOf (sum_Adder_Sum.calls)) (sum_Adder_Sum.loops) 0 (codeOf Try.f15) ⟨[(.ptr [0, 0] 0 0)] ++ List.replicate (Try.f15.ntmps - ([(.ptr [0, 0] 0 0)] : List AV).length) .undef, [([0, 0], ⟨36, 3, (.data (.st [(.int .i64), (.int .i64), .bool]) [t179])⟩)], 2⟩ (leave Try.prog Try.f15 k) = sum_Adder_Sum.body t179 (fun y0 y1 => k (.d ⟨(.int .i64), y0⟩) [([0, 0], ⟨36, 3, (.data (.st [(.int .i64), (.int .i64), .bool]) [y1])⟩)]) := by kernel_rfl
theorem sum_Adder_Sum.ok (d : Nat) (hd : 1 ≤ d) (t179 : Int × Int × Bool × Unit) (k : KR) (hx : sum_Adder_Sum t179 (fun y0 y1 => k (.d ⟨(.int .i64), y0⟩) [([0, 0], ⟨36, 3, (.data (.st [(.int .i64), (.int .i64), .bool]) [y1])⟩)]) = some true) : callK Try.prog ht d 15 [(.ptr [0, 0] 0 0)] [([0, 0], ⟨36, 3, (.data (.st [(.int .i64), (.int .i64), .bool]) [t179])⟩)] k = some true := by
  obtain ⟨d, rfl⟩ : ∃ e, d = e + 1 := ⟨d - 1, by omega⟩
  exact fn_ok (c := codeOf Try.f15) Try.func15 (by kernel_rfl) (rec := sum_Adder_Sum.calls) (fun g a h k hx => by
    cases hx) (loopf := sum_Adder_Sum.loops) (by
    have e : loopsOf (sum_Adder_Sum.loops) 0 (codeOf Try.f15) = [] := by kernel_rfl
    rw [e]
    intro p hp
    cases hp) ((sum_Adder_Sum.eq t179 k).trans hx)
theorem sum_Adder_Sum.look (d : Nat) (hd : 1 ≤ d) {e : Option Bool} {g : FuncId} {a : List AV} {h : Heap} {k : KR} (hx : sum_Adder_Sum.get sum_Adder_Sum e g a h k = some true) : e = some true ∨ callK Try.prog ht d g a h k = some true := by
  unfold sum_Adder_Sum.get at hx
  split at hx
  · exact .inr (sum_Adder_Sum.ok d hd _ _ hx)
  · exact .inl hx
/-- function 9: sheerleg/sum.Of -/
noncomputable def sum_Of.body (sum_New : ((Int × Int × Bool × Unit) → Option Bool) → Option Bool) (sum_feed : (List Int) → (Int × Int × Bool × Unit) → ((Int × Int × Bool × Unit) → Option Bool) → Option Bool) (sum_Adder_Sum : (Int × Int × Bool × Unit) → (Int → (Int × Int × Bool × Unit) → Option Bool) → Option Bool) (ns166 : List Int) (k1 : Int → Option Bool) : Option Bool :=
  (sum_New
  (fun t167 => (sum_feed ns166 t167
  (fun t178 => (sum_Adder_Sum t178
  (fun n180 t181 => (k1 n180)))))))
noncomputable def sum_Of (ns166 : List Int) (k1 : Int → Option Bool) : Option Bool := sum_Of.body sum_New sum_feed sum_Adder_Sum ns166 k1
noncomputable def sum_Of.get (F : (List Int) → (Int → Option Bool) → Option Bool) (e : Option Bool) (g : FuncId) (a : List AV) (h : Heap) (k : KR) : Option Bool := match g, a, h with
  | 9, [(.bv 0 5 (.int .u8) ns166)], [] => F ns166 (fun y0 => k (.d ⟨(.int .i64), y0⟩) [])
  | _, _, _ => e
noncomputable def sum_Of.calls (F0 : ((Int × Int × Bool × Unit) → Option Bool) → Option Bool) (F1 : (List Int) → (Int × Int × Bool × Unit) → ((Int × Int × Bool × Unit) → Option Bool) → Option Bool) (F2 : (Int × Int × Bool × Unit) → (Int → (Int × Int × Bool × Unit) → Option Bool) → Option Bool) : RecF := fun g a h k => (sum_New.get F0 (sum_feed.get F1 (sum_Adder_Sum.get F2 none g a h k) g a h k) g a h k)
noncomputable def sum_Of.loops : LoopF := fun b => none
set_option maxRecDepth 100000 in
theorem sum_Of.eq (F0 : ((Int × Int × Bool × Unit) → Option Bool) → Option Bool) (F1 : (List Int) → (Int × Int × Bool × Unit) → ((Int × Int × Bool × Unit) → Option Bool) → Option Bool) (F2 : (Int × Int × Bool × Unit) → (Int → (Int × Int × Bool × Unit) → Option Bool) → Option Bool) (ns166 : List Int) (k : KR) : execL Try.prog ht 9 (callfOf (sum_Of.calls F0 F1 F2)) (sum_Of.loops) 0 (codeOf Try.f9) ⟨[(.bv 0 5 (.int .u8) ns166)] ++ List.replicate (Try.f9.ntmps - ([(.bv 0 5 (.int .u8) ns166)] : List AV).length) .undef, [], 2⟩ (leave Try.prog Try.f9 k) = sum_Of.body F0 F1 F2 ns166 (fun y0 => k (.d ⟨(.int .i64), y0⟩) []) := by kernel_rfl
theorem sum_Of.ok (d : Nat) (hd : 3 ≤ d) (ns166 : List Int) (k : KR) (hx : sum_Of ns166 (fun y0 => k (.d ⟨(.int .i64), y0⟩) []) = some true) : callK Try.prog ht d 9 [(.bv 0 5 (.int .u8) ns166)] [] k = some true := by
  obtain ⟨d, rfl⟩ : ∃ e, d = e + 1 := ⟨d - 1, by omega⟩
  exact fn_ok (c := codeOf Try.f9) Try.func9 (by kernel_rfl) (rec := sum_Of.calls sum_New sum_feed sum_Adder_Sum) (fun g a h k hx => by
    rcases sum_New.look d (by omega) hx with hx | hx
    rotate_left
    · exact hx
    rcases sum_feed.look d (by omega) hx with hx | hx
    rotate_left
    · exact hx
    rcases sum_Adder_Sum.look d (by omega) hx with hx | hx
    rotate_left
    · exact hx
    cases hx) (loopf := sum_Of.loops) (by
    have e : loopsOf (sum_Of.loops) 0 (codeOf Try.f9) = [] := by kernel_rfl
    rw [e]
    intro p hp
    cases hp) ((sum_Of.eq sum_New sum_feed sum_Adder_Sum ns166 k).trans hx)
theorem sum_Of.look (d : Nat) (hd : 3 ≤ d) {e : Option Bool} {g : FuncId} {a : List AV} {h : Heap} {k : KR} (hx : sum_Of.get sum_Of e g a h k = some true) : e = some true ∨ callK Try.prog ht d g a h k = some true := by
  unfold sum_Of.get at hx
  split at hx
  · exact .inr (sum_Of.ok d hd _ _ hx)
  · exact .inl hx
/-- function 7: sheerleg/sum.Open -/
noncomputable def sum_Open.body (octet_New : (List Int) → (Int → Bool → Bool → (List Int) → Option Bool) → Option Bool) (octet_Reader_Num : Int → Int → Bool → Bool → (List Int) → (Int → Int → Bool → Bool → (List Int) → Option Bool) → Option Bool) (sum_Of : (List Int) → (Int → Option Bool) → Option Bool) (ns2 : List Int) (k1 : Int → (List Int) → Option Bool) : Option Bool :=
  (cond_ (decide ((IntKind.wrap .i64 ((((List.length ns2) : Nat) : Int) - (4 : Int))) < (0 : Int))) (k1 (5 : Int) []) (cond_ ((decide ((0 : Int) ≤ (IntKind.wrap .i64 ((((List.length ns2) : Nat) : Int) - (4 : Int))))) && (decide ((IntKind.wrap .i64 ((((List.length ns2) : Nat) : Int) - (4 : Int))) ≤ (((List.length ns2) : Nat) : Int)))) (octet_New (List.take ((List.length ns2) - (Int.toNat (IntKind.wrap .i64 ((((List.length ns2) : Nat) : Int) - (4 : Int))))) (List.drop (Int.toNat (IntKind.wrap .i64 ((((List.length ns2) : Nat) : Int) - (4 : Int)))) ns2))
  (fun n4 b5 b6 ns7 => (octet_Reader_Num (4 : Int) n4 b5 b6 ns7
  (fun n161 n162 b163 b164 ns165 => (cond_ ((true && (decide ((0 : Int) ≤ (IntKind.wrap .i64 ((((List.length ns2) : Nat) : Int) - (4 : Int)))))) && (decide ((IntKind.wrap .i64 ((((List.length ns2) : Nat) : Int) - (4 : Int))) ≤ (((List.length ns2) : Nat) : Int)))) (sum_Of (List.take (Int.toNat ((IntKind.wrap .i64 ((((List.length ns2) : Nat) : Int) - (4 : Int))) - (0 : Int))) (List.drop (0 : Nat) ns2))
  (fun n182 => (cond_ (n161 != n182) (k1 (4 : Int) []) (cond_ ((true && (decide ((0 : Int) ≤ (IntKind.wrap .i64 ((((List.length ns2) : Nat) : Int) - (4 : Int)))))) && (decide ((IntKind.wrap .i64 ((((List.length ns2) : Nat) : Int) - (4 : Int))) ≤ (((List.length ns2) : Nat) : Int)))) (cond_ (Nat.ble (((0 : Nat) + (List.length (List.take (Int.toNat ((IntKind.wrap .i64 ((((List.length ns2) : Nat) : Int) - (4 : Int))) - (0 : Int))) (List.drop (0 : Nat) ns2)))) * (1 : Nat)) (140737488355328 : Nat)) (k1 (0 : Int) ([] ++ (List.take (Int.toNat ((IntKind.wrap .i64 ((((List.length ns2) : Nat) : Int) - (4 : Int))) - (0 : Int))) (List.drop (0 : Nat) ns2)))) none) none)))) none))))) none))
noncomputable def sum_Open (ns2 : List Int) (k1 : Int → (List Int) → Option Bool) : Option Bool := sum_Open.body octet_New octet_Reader_Num sum_Of ns2 k1
noncomputable def sum_Open.get (F : (List Int) → (Int → (List Int) → Option Bool) → Option Bool) (e : Option Bool) (g : FuncId) (a : List AV) (h : Heap) (k : KR) : Option Bool := match g, a, h with
  | 7, [(.bv 0 5 (.int .u8) ns2)], [] => F ns2 (fun y0 y1 => k (.tup [(.ref [1, 0]), (.d ⟨(.int .i64), y0⟩)]) [([1, 0], ⟨5, 1, (.data (.int .u8) y1)⟩)])
  | _, _, _ => e
noncomputable def sum_Open.calls (F0 : (List Int) → (Int → Bool → Bool → (List Int) → Option Bool) → Option Bool) (F1 : Int → Int → Bool → Bool → (List Int) → (Int → Int → Bool → Bool → (List Int) → Option Bool) → Option Bool) (F2 : (List Int) → (Int → Option Bool) → Option Bool) : RecF := fun g a h k => (octet_New.get F0 (octet_Reader_Num.get F1 (sum_Of.get F2 none g a h k) g a h k) g a h k)
noncomputable def sum_Open.loops : LoopF := fun b => none
set_option maxRecDepth 100000 in
theorem sum_Open.eq (F0 : (List Int) → (Int → Bool → Bool → (List Int) → Option Bool) → Option Bool) (F1 : Int → Int → Bool → Bool → (List Int) → (Int → Int → Bool → Bool → (List Int) → Option Bool) → Option Bool) (F2 : (List Int) → (Int → Option Bool) → Option Bool) (ns2 : List Int) (k : KR) : execL Try.prog ht 7 (callfOf (sum_Open.calls F0 F1 F2)) (sum_Open.loops) 0 (codeOf Try.f7) ⟨[(.bv 0 5 (.int .u8) ns2)] ++ List.replicate (Try.f7.ntmps - ([(.bv 0 5 (.int .u8) ns2)] : List AV).length) .undef, [], 2⟩ (leave Try.prog Try.f7 k) = sum_Open.body F0 F1 F2 ns2 (fun y0 y1 => k (.tup [(.ref [1, 0]), (.d ⟨(.int .i64), y0⟩)]) [([1, 0], ⟨5, 1, (.data (.int .u8) y1)⟩)]) := by kernel_rfl
theorem sum_Open.ok (d : Nat) (hd : 5 ≤ d) (ns2 : List Int) (k : KR) (hx : sum_Open ns2 (fun y0 y1 => k (.tup [(.ref [1, 0]), (.d ⟨(.int .i64), y0⟩)]) [([1, 0], ⟨5, 1, (.data (.int .u8) y1)⟩)]) = some true) : callK Try.prog ht d 7 [(.bv 0 5 (.int .u8) ns2)] [] k = some true := by
  obtain ⟨d, rfl⟩ : ∃ e, d = e + 1 := ⟨d - 1, by omega⟩
  exact fn_ok (c := codeOf Try.f7) Try.func7 (by kernel_rfl) (rec := sum_Open.calls octet_New octet_Reader_Num sum_Of) (fun g a h k hx => by
    rcases octet_New.look d (by omega) hx with hx | hx
    rotate_left
    · exact hx
    rcases octet_Reader_Num.look d (by omega) hx with hx | hx
    rotate_left
    · exact hx
    rcases sum_Of.look d (by omega) hx with hx | hx
    rotate_left
    · exact hx
    cases hx) (loopf := sum_Open.loops) (by
    have e : loopsOf (sum_Open.loops) 0 (codeOf Try.f7) = [] := by kernel_rfl
    rw [e]
    intro p hp
    cases hp) ((sum_Open.eq octet_New octet_Reader_Num sum_Of ns2 k).trans hx)
theorem sum_Open.look (d : Nat) (hd : 5 ≤ d) {e : Option Bool} {g : FuncId} {a : List AV} {h : Heap} {k : KR} (hx : sum_Open.get sum_Open e g a h k = some true) : e = some true ∨ callK Try.prog ht d g a h k = some true := by
  unfold sum_Open.get at hx
  split at hx
  · exact .inr (sum_Open.ok d hd _ _ hx)
  · exact .inl hx
/-- function 10: the loop in block 0 -/
noncomputable def ref03_Of_L0.body (ref03_Of_L0 : (List Int) → Int → Int → Int → (Int → Int → Option Bool) → Option Bool) (ns188 : List Int) (n189 : Int) (n190 : Int) (n191 : Int) (k1 : Int → Int → Option Bool) : Option Bool :=
  (cond_ (decide (n191 < (((List.length ns188) : Nat) : Int))) (cond_ ((decide ((0 : Int) ≤ n191)) && (decide (n191 < (((List.length ns188) : Nat) : Int)))) (ref03_Of_L0 ns188 (Int.tmod (IntKind.wrap .i64 (n189 + (IntKind.wrap .i64 (List.getD ns188 (Int.toNat n191) (0 : Int))))) (65521 : Int)) (Int.tmod (IntKind.wrap .i64 (n190 + (Int.tmod (IntKind.wrap .i64 (n189 + (IntKind.wrap .i64 (List.getD ns188 (Int.toNat n191) (0 : Int))))) (65521 : Int)))) (65521 : Int)) (IntKind.wrap .i64 (n191 + (1 : Int))) k1) none) (k1 n189 n190))
noncomputable def ref03_Of_L0 : Nat → (List Int) → Int → Int → Int → (Int → Int → Option Bool) → Option Bool
  | 0 => fun _ _ _ _ _ => none
  | n + 1 => ref03_Of_L0.body (ref03_Of_L0 n)
noncomputable def ref03_Of_L0.get (F : (List Int) → Int → Int → Int → (Int → Int → Option Bool) → Option Bool) (e : Option Bool) (st : St) (k : KE) : Option Bool := match st with
  | ⟨sl, hp, m⟩ => match Nat.beq m 2, pickS 28 [0, 3, 4, 5] sl, hp with
    | true, some [(.bv 0 5 (.int .u8) ns188), (.d ⟨(.int .i64), n189⟩), (.d ⟨(.int .i64), n190⟩), (.d ⟨(.int .i64), n191⟩)], [] => F ns188 n189 n190 n191 (fun y0 y1 => k (.exit 0) ⟨fillS 28 [3, 4] [(.d ⟨(.int .i64), y0⟩), (.d ⟨(.int .i64), y1⟩)], [], 2⟩)
    | _, _, _ => e
noncomputable def ref03_Of_L0.calls : RecF := fun g a h k => none
noncomputable def ref03_Of_L0.loops : LoopF := fun b => none
set_option maxRecDepth 100000 in
theorem ref03_Of_L0.step (S : (List Int) → Int → Int → Int → (Int → Int → Option Bool) → Option Bool) (ns188 : List Int) (n189 : Int) (n190 : Int) (n191 : Int) (k : KE) : execL Try.prog ht 10 (callfOf (ref03_Of_L0.calls)) (ref03_Of_L0.loops) 0 (loopAt 0 (codeOf Try.f10)) ⟨fillS 28 [0, 3, 4, 5] [(.bv 0 5 (.int .u8) ns188), (.d ⟨(.int .i64), n189⟩), (.d ⟨(.int .i64), n190⟩), (.d ⟨(.int .i64), n191⟩)], [], 2⟩ (again (ref03_Of_L0.get S none) (plan Try.prog (ht 10 0)) k) = ref03_Of_L0.body S ns188 n189 n190 n191 (fun y0 y1 => k (.exit 0) ⟨fillS 28 [3, 4] [(.d ⟨(.int .i64), y0⟩), (.d ⟨(.int .i64), y1⟩)], [], 2⟩) := by kernel_rfl
theorem ref03_Of_L0.ok (d : Nat) (hd : 0 ≤ d) : ∀ n st k, ref03_Of_L0.get (ref03_Of_L0 n) none st k = some true → iter n (plan Try.prog (ht 10 0)) (fun st k => execK Try.prog ht 10 (callfOf (callK Try.prog ht d)) 0 (loopAt 0 (codeOf Try.f10)) st k) st k = some true :=
  loop_ok (lfn := fun n st k => ref03_Of_L0.get (ref03_Of_L0 n) none st k) (rec := ref03_Of_L0.calls) (fun g a h k hx => by
    cases hx) (loopf := ref03_Of_L0.loops) (by
    have e : loopsOf (ref03_Of_L0.loops) 0 (loopAt 0 (codeOf Try.f10)) = [] := by kernel_rfl
    rw [e]
    intro p hp
    cases hp) (fun st k h => by
    obtain ⟨sl, hp, m⟩ := st
    unfold ref03_Of_L0.get at h
    dsimp only at h
    split at h
    · have h' : (none : Option Bool) = some true := h
      cases h'
    · cases h) (fun n st k h => by
    obtain ⟨sl, hp, m⟩ := st
    unfold ref03_Of_L0.get at h
    dsimp only at h
    split at h
    · rename_i h1 h2
      obtain rfl := pickS_ok h2
      obtain rfl := Nat.eq_of_beq_eq_true h1
      exact (ref03_Of_L0.step (ref03_Of_L0 n) _ _ _ _ k).trans h
    · cases h)
theorem ref03_Of_L0.look {F : (List Int) → Int → Int → Int → (Int → Int → Option Bool) → Option Bool} {e : Option Bool} {st : St} {k : KE} (hx : ref03_Of_L0.get F e st k = some true) : e = some true ∨ ref03_Of_L0.get F none st k = some true := by
  obtain ⟨sl, hp, m⟩ := st
  unfold ref03_Of_L0.get at hx ⊢
  dsimp only at hx ⊢
  split at hx
  · exact .inr hx
  · exact .inl hx
/-- function 10: sheerleg/sheerlegref03.Of -/
noncomputable def ref03_Of.body (ref03_Of_L0 : (List Int) → Int → Int → Int → (Int → Int → Option Bool) → Option Bool) (ns187 : List Int) (k1 : Int → Option Bool) : Option Bool :=
  (ref03_Of_L0 ns187 (1 : Int) (0 : Int) (0 : Int)
  (fun n192 n193 => (k1 (IntKind.wrap .i64 ((IntKind.wrap .i64 (n193 * (65536 : Int))) + n192)))))
noncomputable def ref03_Of (ns187 : List Int) (k1 : Int → Option Bool) : Option Bool := ref03_Of.body (ref03_Of_L0 ROUNDS) ns187 k1
noncomputable def ref03_Of.get (F : (List Int) → (Int → Option Bool) → Option Bool) (e : Option Bool) (g : FuncId) (a : List AV) (h : Heap) (k : KR) : Option Bool := match g, a, h with
  | 10, [(.bv 0 5 (.int .u8) ns187)], [] => F ns187 (fun y0 => k (.d ⟨(.int .i64), y0⟩) [])
  | _, _, _ => e
noncomputable def ref03_Of.calls : RecF := fun g a h k => none
noncomputable def ref03_Of.loops (L0 : (List Int) → Int → Int → Int → (Int → Int → Option Bool) → Option Bool) : LoopF := fun b => match Nat.beq b 0 with | true => some (fun st k => (ref03_Of_L0.get L0 none st k)) | false => none
set_option maxRecDepth 100000 in
theorem ref03_Of.eq (L0 : (List Int) → Int → Int → Int → (Int → Int → Option Bool) → Option Bool) (ns187 : List Int) (k : KR) : execL Try.prog ht 10 (callfOf (ref03_Of.calls)) (ref03_Of.loops L0) 0 (codeOf Try.f10) ⟨[(.bv 0 5 (.int .u8) ns187)] ++ List.replicate (Try.f10.ntmps - ([(.bv 0 5 (.int .u8) ns187)] : List AV).length) .undef, [], 2⟩ (leave Try.prog Try.f10 k) = ref03_Of.body L0 ns187 (fun y0 => k (.d ⟨(.int .i64), y0⟩) []) := by kernel_rfl
theorem ref03_Of.ok (d : Nat) (hd : 1 ≤ d) (ns187 : List Int) (k : KR) (hx : ref03_Of ns187 (fun y0 => k (.d ⟨(.int .i64), y0⟩) []) = some true) : callK Try.prog ht d 10 [(.bv 0 5 (.int .u8) ns187)] [] k = some true := by
  obtain ⟨d, rfl⟩ : ∃ e, d = e + 1 := ⟨d - 1, by omega⟩
  exact fn_ok (c := codeOf Try.f10) Try.func10 (by kernel_rfl) (rec := ref03_Of.calls) (fun g a h k hx => by
    cases hx) (loopf := ref03_Of.loops (ref03_Of_L0 ROUNDS)) (by
    have e : loopsOf (ref03_Of.loops (ref03_Of_L0 ROUNDS)) 0 (codeOf Try.f10) = [(0, loopAt 0 (codeOf Try.f10))] := by kernel_rfl
    rw [e]
    intro p hp
    simp only [List.mem_cons, List.not_mem_nil, or_false] at hp
    rcases hp with rfl
    · refine loopRef_of (callf := callfOf (callK Try.prog ht d)) (callfOf_ref (callK_mono d)) fun lf st k hb hx => ?_
      cases hb
      rcases ref03_Of_L0.look hx with hx | hx
      rotate_left
      · exact ref03_Of_L0.ok d (by omega) _ _ _ hx
      cases hx) ((ref03_Of.eq (ref03_Of_L0 ROUNDS) ns187 k).trans hx)
theorem ref03_Of.look (d : Nat) (hd : 1 ≤ d) {e : Option Bool} {g : FuncId} {a : List AV} {h : Heap} {k : KR} (hx : ref03_Of.get ref03_Of e g a h k = some true) : e = some true ∨ callK Try.prog ht d g a h k = some true := by
  unfold ref03_Of.get at hx
  split at hx
  · exact .inr (ref03_Of.ok d hd _ _ hx)
  · exact .inl hx
/-- function 20: the loop in block 2 -/
noncomputable def ref02_Put_L0_L2.body (ref02_Put_L0_L2 : Int → Int → Int → Int → (List Int) → (Int → Int → Int → (List Int) → Option Bool) → Option Bool) (n201 : Int) (n202 : Int) (n203 : Int) (n204 : Int) (ns205 : List Int) (k1 : Int → Int → Int → (List Int) → Option Bool) : Option Bool :=
  (cond_ (decide (n204 < n202)) (ref02_Put_L0_L2 n201 n202 (IntKind.wrap .u64 (Int.tdiv n203 (256 : Int))) (IntKind.wrap .i64 (n204 + (1 : Int))) ns205 k1) (k1 n201 n202 n203 ns205))
noncomputable def ref02_Put_L0_L2 : Nat → Int → Int → Int → Int → (List Int) → (Int → Int → Int → (List Int) → Option Bool) → Option Bool
  | 0 => fun _ _ _ _ _ _ => none
  | n + 1 => ref02_Put_L0_L2.body (ref02_Put_L0_L2 n)
noncomputable def ref02_Put_L0_L2.get (F : Int → Int → Int → Int → (List Int) → (Int → Int → Int → (List Int) → Option Bool) → Option Bool) (e : Option Bool) (st : St) (k : KE) : Option Bool := match st with
  | ⟨sl, hp, m⟩ => match Nat.beq m 2, pickS 45 [7, 8, 9, 10, 11] sl, hp with
    | true, some [(.ref [1, 0]), (.d ⟨(.int .u64), n201⟩), (.d ⟨(.int .i64), n202⟩), (.d ⟨(.int .u64), n203⟩), (.d ⟨(.int .i64), n204⟩)], [([1, 0], ⟨5, 1, (.data (.int .u8) ns205)⟩)] => F n201 n202 n203 n204 ns205 (fun y0 y1 y2 y3 => k (.exit 2) ⟨fillS 45 [7, 8, 9, 10] [(.ref [1, 0]), (.d ⟨(.int .u64), y0⟩), (.d ⟨(.int .i64), y1⟩), (.d ⟨(.int .u64), y2⟩)], [([1, 0], ⟨5, 1, (.data (.int .u8) y3)⟩)], 2⟩)
    | _, _, _ => e
noncomputable def ref02_Put_L0_L2.calls : RecF := fun g a h k => none
noncomputable def ref02_Put_L0_L2.loops : LoopF := fun b => none
set_option maxRecDepth 100000 in
theorem ref02_Put_L0_L2.step (S : Int → Int → Int → Int → (List Int) → (Int → Int → Int → (List Int) → Option Bool) → Option Bool) (n201 : Int) (n202 : Int) (n203 : Int) (n204 : Int) (ns205 : List Int) (k : KE) : execL Try.prog ht 20 (callfOf (ref02_Put_L0_L2.calls)) (ref02_Put_L0_L2.loops) 2 (loopAt 2 (codeOf Try.f20)) ⟨fillS 45 [7, 8, 9, 10, 11] [(.ref [1, 0]), (.d ⟨(.int .u64), n201⟩), (.d ⟨(.int .i64), n202⟩), (.d ⟨(.int .u64), n203⟩), (.d ⟨(.int .i64), n204⟩)], [([1, 0], ⟨5, 1, (.data (.int .u8) ns205)⟩)], 2⟩ (again (ref02_Put_L0_L2.get S none) (plan Try.prog (ht 20 2)) k) = ref02_Put_L0_L2.body S n201 n202 n203 n204 ns205 (fun y0 y1 y2 y3 => k (.exit 2) ⟨fillS 45 [7, 8, 9, 10] [(.ref [1, 0]), (.d ⟨(.int .u64), y0⟩), (.d ⟨(.int .i64), y1⟩), (.d ⟨(.int .u64), y2⟩)], [([1, 0], ⟨5, 1, (.data (.int .u8) y3)⟩)], 2⟩) := by kernel_rfl
theorem ref02_Put_L0_L2.ok (d : Nat) (hd : 0 ≤ d) : ∀ n st k, ref02_Put_L0_L2.get (ref02_Put_L0_L2 n) none st k = some true → iter n (plan Try.prog (ht 20 2)) (fun st k => execK Try.prog ht 20 (callfOf (callK Try.prog ht d)) 2 (loopAt 2 (codeOf Try.f20)) st k) st k = some true :=
  loop_ok (lfn := fun n st k => ref02_Put_L0_L2.get (ref02_Put_L0_L2 n) none st k) (rec := ref02_Put_L0_L2.calls) (fun g a h k hx => by
    cases hx) (loopf := ref02_Put_L0_L2.loops) (by
    have e : loopsOf (ref02_Put_L0_L2.loops) 2 (loopAt 2 (codeOf Try.f20)) = [] := by kernel_rfl
    rw [e]
    intro p hp
    cases hp) (fun st k h => by
    obtain ⟨sl, hp, m⟩ := st
    unfold ref02_Put_L0_L2.get at h
    dsimp only at h
    split at h
    · have h' : (none : Option Bool) = some true := h
      cases h'
    · cases h) (fun n st k h => by
    obtain ⟨sl, hp, m⟩ := st
    unfold ref02_Put_L0_L2.get at h
    dsimp only at h
    split at h
    · rename_i h1 h2
      obtain rfl := pickS_ok h2
      obtain rfl := Nat.eq_of_beq_eq_true h1
      exact (ref02_Put_L0_L2.step (ref02_Put_L0_L2 n) _ _ _ _ _ k).trans h
    · cases h)
theorem ref02_Put_L0_L2.look {F : Int → Int → Int → Int → (List Int) → (Int → Int → Int → (List Int) → Option Bool) → Option Bool} {e : Option Bool} {st : St} {k : KE} (hx : ref02_Put_L0_L2.get F e st k = some true) : e = some true ∨ ref02_Put_L0_L2.get F none st k = some true := by
  obtain ⟨sl, hp, m⟩ := st
  unfold ref02_Put_L0_L2.get at hx ⊢
  dsimp only at hx ⊢
  split at hx
  · exact .inr hx
  · exact .inl hx
/-- function 20: the loop in block 0 -/
noncomputable def ref02_Put_L0.body (ref02_Put_L0 : Int → Int → (List Int) → ((List Int) → Option Bool) → Option Bool) (ref02_Put_L0_L2 : Int → Int → Int → Int → (List Int) → (Int → Int → Int → (List Int) → Option Bool) → Option Bool) (n198 : Int) (n199 : Int) (ns200 : List Int) (k1 : (List Int) → Option Bool) : Option Bool :=
  (cond_ (decide (n199 ≥ (0 : Int))) (ref02_Put_L0_L2 n198 n199 n198 (0 : Int) ns200
  (fun n206 n207 n208 ns209 => (cond_ (Nat.ble (((List.length ns209) + (List.length ((IntKind.wrap .u8 (Int.tmod n208 (256 : Int))) :: []))) * (1 : Nat)) (140737488355328 : Nat)) (ref02_Put_L0 n206 (IntKind.wrap .i64 (n207 - (1 : Int))) (ns209 ++ ((IntKind.wrap .u8 (Int.tmod n208 (256 : Int))) :: [])) k1) none))) (k1 ns200))
noncomputable def ref02_Put_L0 : Nat → Int → Int → (List Int) → ((List Int) → Option Bool) → Option Bool
  | 0 => fun _ _ _ _ => none
  | n + 1 => ref02_Put_L0.body (ref02_Put_L0 n) (ref02_Put_L0_L2 ROUNDS)
noncomputable def ref02_Put_L0.get (F : Int → Int → (List Int) → ((List Int) → Option Bool) → Option Bool) (e : Option Bool) (st : St) (k : KE) : Option Bool := match st with
  | ⟨sl, hp, m⟩ => match Nat.beq m 2, pickS 45 [7, 8, 9] sl, hp with
    | true, some [(.ref [1, 0]), (.d ⟨(.int .u64), n198⟩), (.d ⟨(.int .i64), n199⟩)], [([1, 0], ⟨5, 1, (.data (.int .u8) ns200)⟩)] => F n198 n199 ns200 (fun y0 => k (.exit 0) ⟨fillS 45 [7] [(.ref [1, 0])], [([1, 0], ⟨5, 1, (.data (.int .u8) y0)⟩)], 2⟩)
    | _, _, _ => e
noncomputable def ref02_Put_L0.calls : RecF := fun g a h k => none
noncomputable def ref02_Put_L0.loops (L0 : Int → Int → Int → Int → (List Int) → (Int → Int → Int → (List Int) → Option Bool) → Option Bool) : LoopF := fun b => match Nat.beq b 2 with | true => some (fun st k => (ref02_Put_L0_L2.get L0 none st k)) | false => none
set_option maxRecDepth 100000 in
theorem ref02_Put_L0.step (S : Int → Int → (List Int) → ((List Int) → Option Bool) → Option Bool) (L0 : Int → Int → Int → Int → (List Int) → (Int → Int → Int → (List Int) → Option Bool) → Option Bool) (n198 : Int) (n199 : Int) (ns200 : List Int) (k : KE) : execL Try.prog ht 20 (callfOf (ref02_Put_L0.calls)) (ref02_Put_L0.loops L0) 0 (loopAt 0 (codeOf Try.f20)) ⟨fillS 45 [7, 8, 9] [(.ref [1, 0]), (.d ⟨(.int .u64), n198⟩), (.d ⟨(.int .i64), n199⟩)], [([1, 0], ⟨5, 1, (.data (.int .u8) ns200)⟩)], 2⟩ (again (ref02_Put_L0.get S none) (plan Try.prog (ht 20 0)) k) = ref02_Put_L0.body S L0 n198 n199 ns200 (fun y0 => k (.exit 0) ⟨fillS 45 [7] [(.ref [1, 0])], [([1, 0], ⟨5, 1, (.data (.int .u8) y0)⟩)], 2⟩) := by kernel_rfl
theorem ref02_Put_L0.ok (d : Nat) (hd : 0 ≤ d) : ∀ n st k, ref02_Put_L0.get (ref02_Put_L0 n) none st k = some true → iter n (plan Try.prog (ht 20 0)) (fun st k => execK Try.prog ht 20 (callfOf (callK Try.prog ht d)) 0 (loopAt 0 (codeOf Try.f20)) st k) st k = some true :=
  loop_ok (lfn := fun n st k => ref02_Put_L0.get (ref02_Put_L0 n) none st k) (rec := ref02_Put_L0.calls) (fun g a h k hx => by
    cases hx) (loopf := ref02_Put_L0.loops (ref02_Put_L0_L2 ROUNDS)) (by
    have e : loopsOf (ref02_Put_L0.loops (ref02_Put_L0_L2 ROUNDS)) 0 (loopAt 0 (codeOf Try.f20)) = [(2, loopAt 2 (codeOf Try.f20))] := by kernel_rfl
    rw [e]
    intro p hp
    simp only [List.mem_cons, List.not_mem_nil, or_false] at hp
    rcases hp with rfl
    · refine loopRef_of (callf := callfOf (callK Try.prog ht d)) (callfOf_ref (callK_mono d)) fun lf st k hb hx => ?_
      cases hb
      rcases ref02_Put_L0_L2.look hx with hx | hx
      rotate_left
      · exact ref02_Put_L0_L2.ok d (by omega) _ _ _ hx
      cases hx) (fun st k h => by
    obtain ⟨sl, hp, m⟩ := st
    unfold ref02_Put_L0.get at h
    dsimp only at h
    split at h
    · have h' : (none : Option Bool) = some true := h
      cases h'
    · cases h) (fun n st k h => by
    obtain ⟨sl, hp, m⟩ := st
    unfold ref02_Put_L0.get at h
    dsimp only at h
    split at h
    · rename_i h1 h2
      obtain rfl := pickS_ok h2
      obtain rfl := Nat.eq_of_beq_eq_true h1
      exact (ref02_Put_L0.step (ref02_Put_L0 n) (ref02_Put_L0_L2 ROUNDS) _ _ _ k).trans h
    · cases h)
theorem ref02_Put_L0.look {F : Int → Int → (List Int) → ((List Int) → Option Bool) → Option Bool} {e : Option Bool} {st : St} {k : KE} (hx : ref02_Put_L0.get F e st k = some true) : e = some true ∨ ref02_Put_L0.get F none st k = some true := by
  obtain ⟨sl, hp, m⟩ := st
  unfold ref02_Put_L0.get at hx ⊢
  dsimp only at hx ⊢
  split at hx
  · exact .inr hx
  · exact .inl hx
/-- function 20: sheerleg/sheerlegref02.Put -/
noncomputable def ref02_Put.body (ref02_Put_L0 : Int → Int → (List Int) → ((List Int) → Option Bool) → Option Bool) (ns195 : List Int) (n196 : Int) (n197 : Int) (k1 : (List Int) → Option Bool) : Option Bool :=
  (cond_ (Nat.ble ((List.length ns195) * (1 : Nat)) (140737488355328 : Nat)) (cond_ (! (decide (n197 < (1 : Int)))) (cond_ (decide (n197 > (8 : Int))) (k1 ns195) (ref02_Put_L0 (IntKind.wrap .u64 n196) (IntKind.wrap .i64 (n197 - (1 : Int))) ns195
  (fun ns210 => (k1 ns210)))) (k1 ns195)) none)
noncomputable def ref02_Put (ns195 : List Int) (n196 : Int) (n197 : Int) (k1 : (List Int) → Option Bool) : Option Bool := ref02_Put.body (ref02_Put_L0 ROUNDS) ns195 n196 n197 k1
noncomputable def ref02_Put.get (F : (List Int) → Int → Int → ((List Int) → Option Bool) → Option Bool) (e : Option Bool) (g : FuncId) (a : List AV) (h : Heap) (k : KR) : Option Bool := match g, a, h with
  | 20, [(.bv 0 5 (.int .u8) ns195), (.d ⟨(.int .i64), n196⟩), (.d ⟨(.int .i64), n197⟩)], [] => F ns195 n196 n197 (fun y0 => k (.ref [1, 0]) [([1, 0], ⟨5, 1, (.data (.int .u8) y0)⟩)])
  | _, _, _ => e
noncomputable def ref02_Put.calls : RecF := fun g a h k => none
noncomputable def ref02_Put.loops (L0 : Int → Int → (List Int) → ((List Int) → Option Bool) → Option Bool) : LoopF := fun b => match Nat.beq b 0 with | true => some (fun st k => (ref02_Put_L0.get L0 none st k)) | false => none
set_option maxRecDepth 100000 in
theorem ref02_Put.eq (L0 : Int → Int → (List Int) → ((List Int) → Option Bool) → Option Bool) (ns195 : List Int) (n196 : Int) (n197 : Int) (k : KR) : execL Try.prog ht 20 (callfOf (ref02_Put.calls)) (ref02_Put.loops L0) 0 (codeOf Try.f20) ⟨[(.bv 0 5 (.int .u8) ns195), (.d ⟨(.int .i64), n196⟩), (.d ⟨(.int .i64), n197⟩)] ++ List.replicate (Try.f20.ntmps - ([(.bv 0 5 (.int .u8) ns195), (.d ⟨(.int .i64), n196⟩), (.d ⟨(.int .i64), n197⟩)] : List AV).length) .undef, [], 2⟩ (leave Try.prog Try.f20 k) = ref02_Put.body L0 ns195 n196 n197 (fun y0 => k (.ref [1, 0]) [([1, 0], ⟨5, 1, (.data (.int .u8) y0)⟩)]) := by kernel_rfl
theorem ref02_Put.ok (d : Nat) (hd : 1 ≤ d) (ns195 : List Int) (n196 : Int) (n197 : Int) (k : KR) (hx : ref02_Put ns195 n196 n197 (fun y0 => k (.ref [1, 0]) [([1, 0], ⟨5, 1, (.data (.int .u8) y0)⟩)]) = some true) : callK Try.prog ht d 20 [(.bv 0 5 (.int .u8) ns195), (.d ⟨(.int .i64), n196⟩), (.d ⟨(.int .i64), n197⟩)] [] k = some true := by
  obtain ⟨d, rfl⟩ : ∃ e, d = e + 1 := ⟨d - 1, by omega⟩
  exact fn_ok (c := codeOf Try.f20) Try.func20 (by kernel_rfl) (rec := ref02_Put.calls) (fun g a h k hx => by
    cases hx) (loopf := ref02_Put.loops (ref02_Put_L0 ROUNDS)) (by
    have e : loopsOf (ref02_Put.loops (ref02_Put_L0 ROUNDS)) 0 (codeOf Try.f20) = [(0, loopAt 0 (codeOf Try.f20))] := by kernel_rfl
    rw [e]
    intro p hp
    simp only [List.mem_cons, List.not_mem_nil, or_false] at hp
    rcases hp with rfl
    · refine loopRef_of (callf := callfOf (callK Try.prog ht d)) (callfOf_ref (callK_mono d)) fun lf st k hb hx => ?_
      cases hb
      rcases ref02_Put_L0.look hx with hx | hx
      rotate_left
      · exact ref02_Put_L0.ok d (by omega) _ _ _ hx
      cases hx) ((ref02_Put.eq (ref02_Put_L0 ROUNDS) ns195 n196 n197 k).trans hx)
theorem ref02_Put.look (d : Nat) (hd : 1 ≤ d) {e : Option Bool} {g : FuncId} {a : List AV} {h : Heap} {k : KR} (hx : ref02_Put.get ref02_Put e g a h k = some true) : e = some true ∨ callK Try.prog ht d g a h k = some true := by
  unfold ref02_Put.get at hx
  split at hx
  · exact .inr (ref02_Put.ok d hd _ _ _ _ hx)
  · exact .inl hx
/-- function 12: sheerleg/sheerlegref03.Seal -/
noncomputable def ref03_Seal.body (ref03_Of : (List Int) → (Int → Option Bool) → Option Bool) (ref02_Put : (List Int) → Int → Int → ((List Int) → Option Bool) → Option Bool) (ns186 : List Int) (k1 : (List Int) → Option Bool) : Option Bool :=
  (ref03_Of ns186
  (fun n194 => (ref02_Put ns186 n194 (4 : Int)
  (fun ns211 => (k1 ns211)))))
noncomputable def ref03_Seal (ns186 : List Int) (k1 : (List Int) → Option Bool) : Option Bool := ref03_Seal.body ref03_Of ref02_Put ns186 k1
noncomputable def ref03_Seal.get (F : (List Int) → ((List Int) → Option Bool) → Option Bool) (e : Option Bool) (g : FuncId) (a : List AV) (h : Heap) (k : KR) : Option Bool := match g, a, h with
  | 12, [(.bv 0 5 (.int .u8) ns186)], [] => F ns186 (fun y0 => k (.ref [1, 0]) [([1, 0], ⟨5, 1, (.data (.int .u8) y0)⟩)])
  | _, _, _ => e
noncomputable def ref03_Seal.calls (F0 : (List Int) → (Int → Option Bool) → Option Bool) (F1 : (List Int) → Int → Int → ((List Int) → Option Bool) → Option Bool) : RecF := fun g a h k => (ref03_Of.get F0 (ref02_Put.get F1 none g a h k) g a h k)
noncomputable def ref03_Seal.loops : LoopF := fun b => none
set_option maxRecDepth 100000 in
theorem ref03_Seal.eq (F0 : (List Int) → (Int → Option Bool) → Option Bool) (F1 : (List Int) → Int → Int → ((List Int) → Option Bool) → Option Bool) (ns186 : List Int) (k : KR) : execL Try.prog ht 12 (callfOf (ref03_Seal.calls F0 F1)) (ref03_Seal.loops) 0 (codeOf Try.f12) ⟨[(.bv 0 5 (.int .u8) ns186)] ++ List.replicate (Try.f12.ntmps - ([(.bv 0 5 (.int .u8) ns186)] : List AV).length) .undef, [], 2⟩ (leave Try.prog Try.f12 k) = ref03_Seal.body F0 F1 ns186 (fun y0 => k (.ref [1, 0]) [([1, 0], ⟨5, 1, (.data (.int .u8) y0)⟩)]) := by kernel_rfl
theorem ref03_Seal.ok (d : Nat) (hd : 2 ≤ d) (ns186 : List Int) (k : KR) (hx : ref03_Seal ns186 (fun y0 => k (.ref [1, 0]) [([1, 0], ⟨5, 1, (.data (.int .u8) y0)⟩)]) = some true) : callK Try.prog ht d 12 [(.bv 0 5 (.int .u8) ns186)] [] k = some true := by
  obtain ⟨d, rfl⟩ : ∃ e, d = e + 1 := ⟨d - 1, by omega⟩
  exact fn_ok (c := codeOf Try.f12) Try.func12 (by kernel_rfl) (rec := ref03_Seal.calls ref03_Of ref02_Put) (fun g a h k hx => by
    rcases ref03_Of.look d (by omega) hx with hx | hx
    rotate_left
    · exact hx
    rcases ref02_Put.look d (by omega) hx with hx | hx
    rotate_left
    · exact hx
    cases hx) (loopf := ref03_Seal.loops) (by
    have e : loopsOf (ref03_Seal.loops) 0 (codeOf Try.f12) = [] := by kernel_rfl
    rw [e]
    intro p hp
    cases hp) ((ref03_Seal.eq ref03_Of ref02_Put ns186 k).trans hx)
theorem ref03_Seal.look (d : Nat) (hd : 2 ≤ d) {e : Option Bool} {g : FuncId} {a : List AV} {h : Heap} {k : KR} (hx : ref03_Seal.get ref03_Seal e g a h k = some true) : e = some true ∨ callK Try.prog ht d g a h k = some true := by
  unfold ref03_Seal.get at hx
  split at hx
  · exact .inr (ref03_Seal.ok d hd _ _ hx)
  · exact .inl hx
/-- function 8: sheerleg/sheerlegref03.Open -/
noncomputable def ref03_Open.body (ref03_Seal : (List Int) → ((List Int) → Option Bool) → Option Bool) (ns217 : List Int) (k1 : (List Int) → Int → Option Bool) : Option Bool :=
  (cond_ (decide ((IntKind.wrap .i64 ((((List.length ns217) : Nat) : Int) - (4 : Int))) < (0 : Int))) (k1 [] (5 : Int)) (cond_ ((true && (decide ((0 : Int) ≤ (IntKind.wrap .i64 ((((List.length ns217) : Nat) : Int) - (4 : Int)))))) && (decide ((IntKind.wrap .i64 ((((List.length ns217) : Nat) : Int) - (4 : Int))) ≤ (((List.length ns217) : Nat) : Int)))) (ref03_Seal (List.take (Int.toNat ((IntKind.wrap .i64 ((((List.length ns217) : Nat) : Int) - (4 : Int))) - (0 : Int))) (List.drop (0 : Nat) ns217))
  (fun ns218 => (cond_ (! ((ByteArray.toList (strOf ns218)) == (ByteArray.toList (strOf ns217)))) (k1 [] (4 : Int)) (cond_ ((true && (decide ((0 : Int) ≤ (IntKind.wrap .i64 ((((List.length ns217) : Nat) : Int) - (4 : Int)))))) && (decide ((IntKind.wrap .i64 ((((List.length ns217) : Nat) : Int) - (4 : Int))) ≤ (((List.length ns217) : Nat) : Int)))) (k1 (List.take (Int.toNat ((IntKind.wrap .i64 ((((List.length ns217) : Nat) : Int) - (4 : Int))) - (0 : Int))) (List.drop (0 : Nat) ns217)) (0 : Int)) none)))) none))
noncomputable def ref03_Open (ns217 : List Int) (k1 : (List Int) → Int → Option Bool) : Option Bool := ref03_Open.body ref03_Seal ns217 k1
noncomputable def ref03_Open.get (F : (List Int) → ((List Int) → Int → Option Bool) → Option Bool) (e : Option Bool) (g : FuncId) (a : List AV) (h : Heap) (k : KR) : Option Bool := match g, a, h with
  | 8, [(.bv 0 5 (.int .u8) ns217)], [] => F ns217 (fun y0 y1 => k (.tup [(.bv 0 5 (.int .u8) y0), (.d ⟨(.int .i64), y1⟩)]) [])
  | _, _, _ => e
noncomputable def ref03_Open.calls (F0 : (List Int) → ((List Int) → Option Bool) → Option Bool) : RecF := fun g a h k => (ref03_Seal.get F0 none g a h k)
noncomputable def ref03_Open.loops : LoopF := fun b => none
set_option maxRecDepth 100000 in
theorem ref03_Open.eq (F0 : (List Int) → ((List Int) → Option Bool) → Option Bool) (ns217 : List Int) (k : KR) : execL Try.prog ht 8 (callfOf (ref03_Open.calls F0)) (ref03_Open.loops) 0 (codeOf Try.f8) ⟨[(.bv 0 5 (.int .u8) ns217)] ++ List.replicate (Try.f8.ntmps - ([(.bv 0 5 (.int .u8) ns217)] : List AV).length) .undef, [], 2⟩ (leave Try.prog Try.f8 k) = ref03_Open.body F0 ns217 (fun y0 y1 => k (.tup [(.bv 0 5 (.int .u8) y0), (.d ⟨(.int .i64), y1⟩)]) []) := by kernel_rfl
theorem ref03_Open.ok (d : Nat) (hd : 3 ≤ d) (ns217 : List Int) (k : KR) (hx : ref03_Open ns217 (fun y0 y1 => k (.tup [(.bv 0 5 (.int .u8) y0), (.d ⟨(.int .i64), y1⟩)]) []) = some true) : callK Try.prog ht d 8 [(.bv 0 5 (.int .u8) ns217)] [] k = some true := by
  obtain ⟨d, rfl⟩ : ∃ e, d = e + 1 := ⟨d - 1, by omega⟩
  exact fn_ok (c := codeOf Try.f8) Try.func8 (by kernel_rfl) (rec := ref03_Open.calls ref03_Seal) (fun g a h k hx => by
    rcases ref03_Seal.look d (by omega) hx with hx | hx
    rotate_left
    · exact hx
    cases hx) (loopf := ref03_Open.loops) (by
    have e : loopsOf (ref03_Open.loops) 0 (codeOf Try.f8) = [] := by kernel_rfl
    rw [e]
    intro p hp
    cases hp) ((ref03_Open.eq ref03_Seal ns217 k).trans hx)
theorem ref03_Open.look (d : Nat) (hd : 3 ≤ d) {e : Option Bool} {g : FuncId} {a : List AV} {h : Heap} {k : KR} (hx : ref03_Open.get ref03_Open e g a h k = some true) : e = some true ∨ callK Try.prog ht d g a h k = some true := by
  unfold ref03_Open.get at hx
  split at hx
  · exact .inr (ref03_Open.ok d hd _ _ hx)
  · exact .inl hx
/-- function 19: sheerleg/octet.Put -/
noncomputable def octet_Put.body (ns250 : List Int) (n251 : Int) (n252 : Int) (k1 : (List Int) → Option Bool) : Option Bool :=
  (cond_ (Nat.ble (((0 : Nat) + (List.length ns250)) * (1 : Nat)) (140737488355328 : Nat)) (cond_ (! (decide (n252 < (1 : Int)))) (cond_ (decide (n252 > (8 : Int))) (k1 ([] ++ ns250)) (cond_ (((decide ((0 : Int) ≤ (IntKind.wrap .i64 ((8 : Int) - n252)))) && (decide ((IntKind.wrap .i64 ((8 : Int) - n252)) ≤ (8 : Int)))) && true) (cond_ (Nat.ble (((List.length ([] ++ ns250)) + (List.length (List.take (Int.toNat ((8 : Int) - (IntKind.wrap .i64 ((8 : Int) - n252)))) (List.drop (Int.toNat (IntKind.wrap .i64 ((8 : Int) - n252))) ((IntKind.wrap .u8 (Int.fdiv n251 (72057594037927936 : Int))) :: ((IntKind.wrap .u8 (Int.fdiv n251 (281474976710656 : Int))) :: ((IntKind.wrap .u8 (Int.fdiv n251 (1099511627776 : Int))) :: ((IntKind.wrap .u8 (Int.fdiv n251 (4294967296 : Int))) :: ((IntKind.wrap .u8 (Int.fdiv n251 (16777216 : Int))) :: ((IntKind.wrap .u8 (Int.fdiv n251 (65536 : Int))) :: ((IntKind.wrap .u8 (Int.fdiv n251 (256 : Int))) :: ((IntKind.wrap .u8 (Int.fdiv n251 (1 : Int))) :: [])))))))))))) * (1 : Nat)) (140737488355328 : Nat)) (k1 (([] ++ ns250) ++ (List.take (Int.toNat ((8 : Int) - (IntKind.wrap .i64 ((8 : Int) - n252)))) (List.drop (Int.toNat (IntKind.wrap .i64 ((8 : Int) - n252))) ((IntKind.wrap .u8 (Int.fdiv n251 (72057594037927936 : Int))) :: ((IntKind.wrap .u8 (Int.fdiv n251 (281474976710656 : Int))) :: ((IntKind.wrap .u8 (Int.fdiv n251 (1099511627776 : Int))) :: ((IntKind.wrap .u8 (Int.fdiv n251 (4294967296 : Int))) :: ((IntKind.wrap .u8 (Int.fdiv n251 (16777216 : Int))) :: ((IntKind.wrap .u8 (Int.fdiv n251 (65536 : Int))) :: ((IntKind.wrap .u8 (Int.fdiv n251 (256 : Int))) :: ((IntKind.wrap .u8 (Int.fdiv n251 (1 : Int))) :: [])))))))))))) none) none)) (k1 ([] ++ ns250))) none)
noncomputable def octet_Put (ns250 : List Int) (n251 : Int) (n252 : Int) (k1 : (List Int) → Option Bool) : Option Bool := octet_Put.body ns250 n251 n252 k1
noncomputable def octet_Put.get (F : (List Int) → Int → Int → ((List Int) → Option Bool) → Option Bool) (e : Option Bool) (g : FuncId) (a : List AV) (h : Heap) (k : KR) : Option Bool := match g, a, h with
  | 19, [(.bv 0 5 (.int .u8) ns250), (.d ⟨(.int .i64), n251⟩), (.d ⟨(.int .i64), n252⟩)], [] => F ns250 n251 n252 (fun y0 => k (.ref [1, 0]) [([1, 0], ⟨5, 1, (.data (.int .u8) y0)⟩)])
  | _, _, _ => e
noncomputable def octet_Put.calls : RecF := fun g a h k => none
noncomputable def octet_Put.loops : LoopF := fun b => match Nat.beq b 0 with | true => none | false => none
set_option maxRecDepth 100000 in
theorem octet_Put.eq (ns250 : List Int) (n251 : Int) (n252 : Int) (k : KR) : execL Try.prog ht 19 (callfOf (octet_Put.calls)) (octet_Put.loops) 0 (codeOf Try.f19) ⟨[(.bv 0 5 (.int .u8) ns250), (.d ⟨(.int .i64), n251⟩), (.d ⟨(.int .i64), n252⟩)] ++ List.replicate (Try.f19.ntmps - ([(.bv 0 5 (.int .u8) ns250), (.d ⟨(.int .i64), n251⟩), (.d ⟨(.int .i64), n252⟩)] : List AV).length) .undef, [], 2⟩ (leave Try.prog Try.f19 k) = octet_Put.body ns250 n251 n252 (fun y0 => k (.ref [1, 0]) [([1, 0], ⟨5, 1, (.data (.int .u8) y0)⟩)]) := by kernel_rfl
theorem octet_Put.ok (d : Nat) (hd : 1 ≤ d) (ns250 : List Int) (n251 : Int) (n252 : Int) (k : KR) (hx : octet_Put ns250 n251 n252 (fun y0 => k (.ref [1, 0]) [([1, 0], ⟨5, 1, (.data (.int .u8) y0)⟩)]) = some true) : callK Try.prog ht d 19 [(.bv 0 5 (.int .u8) ns250), (.d ⟨(.int .i64), n251⟩), (.d ⟨(.int .i64), n252⟩)] [] k = some true := by
  obtain ⟨d, rfl⟩ : ∃ e, d = e + 1 := ⟨d - 1, by omega⟩
  exact fn_ok (c := codeOf Try.f19) Try.func19 (by kernel_rfl) (rec := octet_Put.calls) (fun g a h k hx => by
    cases hx) (loopf := octet_Put.loops) (by
    have e : loopsOf (octet_Put.loops) 0 (codeOf Try.f19) = [] := by kernel_rfl
    rw [e]
    intro p hp
    cases hp) ((octet_Put.eq ns250 n251 n252 k).trans hx)
theorem octet_Put.look (d : Nat) (hd : 1 ≤ d) {e : Option Bool} {g : FuncId} {a : List AV} {h : Heap} {k : KR} (hx : octet_Put.get octet_Put e g a h k = some true) : e = some true ∨ callK Try.prog ht d g a h k = some true := by
  unfold octet_Put.get at hx
  split at hx
  · exact .inr (octet_Put.ok d hd _ _ _ _ hx)
  · exact .inl hx
/-- function 11: sheerleg/sum.Seal -/
noncomputable def sum_Seal.body (sum_Of : (List Int) → (Int → Option Bool) → Option Bool) (octet_Put : (List Int) → Int → Int → ((List Int) → Option Bool) → Option Bool) (ns248 : List Int) (k1 : (List Int) → Option Bool) : Option Bool :=
  (sum_Of ns248
  (fun n249 => (octet_Put ns248 n249 (4 : Int)
  (fun ns253 => (k1 ns253)))))
noncomputable def sum_Seal (ns248 : List Int) (k1 : (List Int) → Option Bool) : Option Bool := sum_Seal.body sum_Of octet_Put ns248 k1
noncomputable def sum_Seal.get (F : (List Int) → ((List Int) → Option Bool) → Option Bool) (e : Option Bool) (g : FuncId) (a : List AV) (h : Heap) (k : KR) : Option Bool := match g, a, h with
  | 11, [(.bv 0 5 (.int .u8) ns248)], [] => F ns248 (fun y0 => k (.ref [1, 0]) [([1, 0], ⟨5, 1, (.data (.int .u8) y0)⟩)])
  | _, _, _ => e
noncomputable def sum_Seal.calls (F0 : (List Int) → (Int → Option Bool) → Option Bool) (F1 : (List Int) → Int → Int → ((List Int) → Option Bool) → Option Bool) : RecF := fun g a h k => (sum_Of.get F0 (octet_Put.get F1 none g a h k) g a h k)
noncomputable def sum_Seal.loops : LoopF := fun b => none
set_option maxRecDepth 100000 in
theorem sum_Seal.eq (F0 : (List Int) → (Int → Option Bool) → Option Bool) (F1 : (List Int) → Int → Int → ((List Int) → Option Bool) → Option Bool) (ns248 : List Int) (k : KR) : execL Try.prog ht 11 (callfOf (sum_Seal.calls F0 F1)) (sum_Seal.loops) 0 (codeOf Try.f11) ⟨[(.bv 0 5 (.int .u8) ns248)] ++ List.replicate (Try.f11.ntmps - ([(.bv 0 5 (.int .u8) ns248)] : List AV).length) .undef, [], 2⟩ (leave Try.prog Try.f11 k) = sum_Seal.body F0 F1 ns248 (fun y0 => k (.ref [1, 0]) [([1, 0], ⟨5, 1, (.data (.int .u8) y0)⟩)]) := by kernel_rfl
theorem sum_Seal.ok (d : Nat) (hd : 4 ≤ d) (ns248 : List Int) (k : KR) (hx : sum_Seal ns248 (fun y0 => k (.ref [1, 0]) [([1, 0], ⟨5, 1, (.data (.int .u8) y0)⟩)]) = some true) : callK Try.prog ht d 11 [(.bv 0 5 (.int .u8) ns248)] [] k = some true := by
  obtain ⟨d, rfl⟩ : ∃ e, d = e + 1 := ⟨d - 1, by omega⟩
  exact fn_ok (c := codeOf Try.f11) Try.func11 (by kernel_rfl) (rec := sum_Seal.calls sum_Of octet_Put) (fun g a h k hx => by
    rcases sum_Of.look d (by omega) hx with hx | hx
    rotate_left
    · exact hx
    rcases octet_Put.look d (by omega) hx with hx | hx
    rotate_left
    · exact hx
    cases hx) (loopf := sum_Seal.loops) (by
    have e : loopsOf (sum_Seal.loops) 0 (codeOf Try.f11) = [] := by kernel_rfl
    rw [e]
    intro p hp
    cases hp) ((sum_Seal.eq sum_Of octet_Put ns248 k).trans hx)
theorem sum_Seal.look (d : Nat) (hd : 4 ≤ d) {e : Option Bool} {g : FuncId} {a : List AV} {h : Heap} {k : KR} (hx : sum_Seal.get sum_Seal e g a h k = some true) : e = some true ∨ callK Try.prog ht d g a h k = some true := by
  unfold sum_Seal.get at hx
  split at hx
  · exact .inr (sum_Seal.ok d hd _ _ hx)
  · exact .inl hx
/-- function 3: sheerleg/sheerleglaw03.SumsTold -/
noncomputable def law03_SumsTold.body (law03_known : (Bool → Option Bool) → Option Bool) (sum_Open : (List Int) → (Int → (List Int) → Option Bool) → Option Bool) (ref03_Open : (List Int) → ((List Int) → Int → Option Bool) → Option Bool) (sum_Of : (List Int) → (Int → Option Bool) → Option Bool) (ref03_Of : (List Int) → (Int → Option Bool) → Option Bool) (sum_Seal : (List Int) → ((List Int) → Option Bool) → Option Bool) (ref03_Seal : (List Int) → ((List Int) → Option Bool) → Option Bool) (ns240 : List Int) (k1 : Bool → Option Bool) : Option Bool :=
  (cond_ (decide ((((List.length ns240) : Nat) : Int) > (3000 : Int))) (law03_known
  (fun b241 => (k1 b241))) (sum_Open ns240
  (fun n242 ns243 => (ref03_Open ns240
  (fun ns244 n245 => (sum_Of ns240
  (fun n246 => (ref03_Of ns240
  (fun n247 => (cond_ (n246 == n247) (sum_Seal ns240
  (fun ns254 => (ref03_Seal ns240
  (fun ns255 => (cond_ ((ByteArray.toList (strOf ns254)) == (ByteArray.toList (strOf ns255))) (cond_ ((ByteArray.toList (strOf ns243)) == (ByteArray.toList (strOf ns244))) (cond_ (n242 == n245) (cond_ ((ByteArray.toList (strOf ns240)) == (ByteArray.toList (strOf ns240))) (law03_known
  (fun b256 => (k1 b256))) (k1 false)) (k1 false)) (k1 false)) (k1 false)))))) (k1 false)))))))))))
noncomputable def law03_SumsTold (ns240 : List Int) (k1 : Bool → Option Bool) : Option Bool := law03_SumsTold.body law03_known sum_Open ref03_Open sum_Of ref03_Of sum_Seal ref03_Seal ns240 k1
noncomputable def law03_SumsTold.get (F : (List Int) → (Bool → Option Bool) → Option Bool) (e : Option Bool) (g : FuncId) (a : List AV) (h : Heap) (k : KR) : Option Bool := match g, a, h with
  | 3, [(.bv 0 5 (.int .u8) ns240)], [] => F ns240 (fun y0 => k (.d ⟨.bool, y0⟩) [])
  | _, _, _ => e
noncomputable def law03_SumsTold.calls (F0 : (Bool → Option Bool) → Option Bool) (F1 : (List Int) → (Int → (List Int) → Option Bool) → Option Bool) (F2 : (List Int) → ((List Int) → Int → Option Bool) → Option Bool) (F3 : (List Int) → (Int → Option Bool) → Option Bool) (F4 : (List Int) → (Int → Option Bool) → Option Bool) (F5 : (List Int) → ((List Int) → Option Bool) → Option Bool) (F6 : (List Int) → ((List Int) → Option Bool) → Option Bool) : RecF := fun g a h k => (law03_known.get F0 (sum_Open.get F1 (ref03_Open.get F2 (sum_Of.get F3 (ref03_Of.get F4 (sum_Seal.get F5 (ref03_Seal.get F6 none g a h k) g a h k) g a h k) g a h k) g a h k) g a h k) g a h k)
noncomputable def law03_SumsTold.loops : LoopF := fun b => none
set_option maxRecDepth 100000 in
theorem law03_SumsTold.eq (F0 : (Bool → Option Bool) → Option Bool) (F1 : (List Int) → (Int → (List Int) → Option Bool) → Option Bool) (F2 : (List Int) → ((List Int) → Int → Option Bool) → Option Bool) (F3 : (List Int) → (Int → Option Bool) → Option Bool) (F4 : (List Int) → (Int → Option Bool) → Option Bool) (F5 : (List Int) → ((List Int) → Option Bool) → Option Bool) (F6 : (List Int) → ((List Int) → Option Bool) → Option Bool) (ns240 : List Int) (k : KR) : execL Try.prog ht 3 (callfOf (law03_SumsTold.calls F0 F1 F2 F3 F4 F5 F6)) (law03_SumsTold.loops) 0 (codeOf Try.f3) ⟨[(.bv 0 5 (.int .u8) ns240)] ++ List.replicate (Try.f3.ntmps - ([(.bv 0 5 (.int .u8) ns240)] : List AV).length) .undef, [], 2⟩ (leave Try.prog Try.f3 k) = law03_SumsTold.body F0 F1 F2 F3 F4 F5 F6 ns240 (fun y0 => k (.d ⟨.bool, y0⟩) []) := by kernel_rfl
theorem law03_SumsTold.ok (d : Nat) (hd : 61 ≤ d) (ns240 : List Int) (k : KR) (hx : law03_SumsTold ns240 (fun y0 => k (.d ⟨.bool, y0⟩) []) = some true) : callK Try.prog ht d 3 [(.bv 0 5 (.int .u8) ns240)] [] k = some true := by
  obtain ⟨d, rfl⟩ : ∃ e, d = e + 1 := ⟨d - 1, by omega⟩
  exact fn_ok (c := codeOf Try.f3) Try.func3 (by kernel_rfl) (rec := law03_SumsTold.calls law03_known sum_Open ref03_Open sum_Of ref03_Of sum_Seal ref03_Seal) (fun g a h k hx => by
    rcases law03_known.look d (by omega) hx with hx | hx
    rotate_left
    · exact hx
    rcases sum_Open.look d (by omega) hx with hx | hx
    rotate_left
    · exact hx
    rcases ref03_Open.look d (by omega) hx with hx | hx
    rotate_left
    · exact hx
    rcases sum_Of.look d (by omega) hx with hx | hx
    rotate_left
    · exact hx
    rcases ref03_Of.look d (by omega) hx with hx | hx
    rotate_left
    · exact hx
    rcases sum_Seal.look d (by omega) hx with hx | hx
    rotate_left
    · exact hx
    rcases ref03_Seal.look d (by omega) hx with hx | hx
    rotate_left
    · exact hx
    cases hx) (loopf := law03_SumsTold.loops) (by
    have e : loopsOf (law03_SumsTold.loops) 0 (codeOf Try.f3) = [] := by kernel_rfl
    rw [e]
    intro p hp
    cases hp) ((law03_SumsTold.eq law03_known sum_Open ref03_Open sum_Of ref03_Of sum_Seal ref03_Seal ns240 k).trans hx)
theorem law03_SumsTold.look (d : Nat) (hd : 61 ≤ d) {e : Option Bool} {g : FuncId} {a : List AV} {h : Heap} {k : KR} (hx : law03_SumsTold.get law03_SumsTold e g a h k = some true) : e = some true ∨ callK Try.prog ht d g a h k = some true := by
  unfold law03_SumsTold.get at hx
  split at hx
  · exact .inr (law03_SumsTold.ok d hd _ _ hx)
  · exact .inl hx
/-- function 14: (*sheerleg/sum.Adder).Add -/
noncomputable def sum_Adder_Addv1.body (ns267 : List Int) (k1 : Option Bool) : Option Bool :=
  (k1)
noncomputable def sum_Adder_Addv1 (ns267 : List Int) (k1 : Option Bool) : Option Bool := sum_Adder_Addv1.body ns267 k1
noncomputable def sum_Adder_Addv1.get (F : (List Int) → (Option Bool) → Option Bool) (e : Option Bool) (g : FuncId) (a : List AV) (h : Heap) (k : KR) : Option Bool := match g, a, h with
  | 14, [.nilp, (.bv 0 5 (.int .u8) ns267)], [] => F ns267 (k (.tup []) [])
  | _, _, _ => e
noncomputable def sum_Adder_Addv1.calls : RecF := fun g a h k => none
noncomputable def sum_Adder_Addv1.loops : LoopF := fun b => none
set_option maxRecDepth 100000 in
theorem sum_Adder_Addv1.eq (ns267 : List Int) (k : KR) : execL Try.prog ht 14 (callfOf (sum_Adder_Addv1.calls)) (sum_Adder_Addv1.loops) 0 (codeOf Try.f14) ⟨[.nilp, (.bv 0 5 (.int .u8) ns267)] ++ List.replicate (Try.f14.ntmps - ([.nilp, (.bv 0 5 (.int .u8) ns267)] : List AV).length) .undef, [], 2⟩ (leave Try.prog Try.f14 k) = sum_Adder_Addv1.body ns267 (k (.tup []) []) := by kernel_rfl
theorem sum_Adder_Addv1.ok (d : Nat) (hd : 1 ≤ d) (ns267 : List Int) (k : KR) (hx : sum_Adder_Addv1 ns267 (k (.tup []) []) = some true) : callK Try.prog ht d 14 [.nilp, (.bv 0 5 (.int .u8) ns267)] [] k = some true := by
  obtain ⟨d, rfl⟩ : ∃ e, d = e + 1 := ⟨d - 1, by omega⟩
  exact fn_ok (c := codeOf Try.f14) Try.func14 (by kernel_rfl) (rec := sum_Adder_Addv1.calls) (fun g a h k hx => by
    cases hx) (loopf := sum_Adder_Addv1.loops) (by
    have e : loopsOf (sum_Adder_Addv1.loops) 0 (codeOf Try.f14) = [] := by kernel_rfl
    rw [e]
    intro p hp
    cases hp) ((sum_Adder_Addv1.eq ns267 k).trans hx)
theorem sum_Adder_Addv1.look (d : Nat) (hd : 1 ≤ d) {e : Option Bool} {g : FuncId} {a : List AV} {h : Heap} {k : KR} (hx : sum_Adder_Addv1.get sum_Adder_Addv1 e g a h k = some true) : e = some true ∨ callK Try.prog ht d g a h k = some true := by
  unfold sum_Adder_Addv1.get at hx
  split at hx
  · exact .inr (sum_Adder_Addv1.ok d hd _ _ hx)
  · exact .inl hx
/-- function 15: (*sheerleg/sum.Adder).Sum -/
noncomputable def sum_Adder_Sumv1.body (k1 : Int → Option Bool) : Option Bool :=
  (k1 (0 : Int))
noncomputable def sum_Adder_Sumv1 (k1 : Int → Option Bool) : Option Bool := sum_Adder_Sumv1.body k1
noncomputable def sum_Adder_Sumv1.get (F : (Int → Option Bool) → Option Bool) (e : Option Bool) (g : FuncId) (a : List AV) (h : Heap) (k : KR) : Option Bool := match g, a, h with
  | 15, [.nilp], [] => F (fun y0 => k (.d ⟨(.int .i64), y0⟩) [])
  | _, _, _ => e
noncomputable def sum_Adder_Sumv1.calls : RecF := fun g a h k => none
noncomputable def sum_Adder_Sumv1.loops : LoopF := fun b => none
set_option maxRecDepth 100000 in
theorem sum_Adder_Sumv1.eq (k : KR) : execL Try.prog ht 15 (callfOf (sum_Adder_Sumv1.calls)) (sum_Adder_Sumv1.loops) 0 (codeOf Try.f15) ⟨[.nilp] ++ List.replicate (Try.f15.ntmps - ([.nilp] : List AV).length) .undef, [], 2⟩ (leave Try.prog Try.f15 k) = sum_Adder_Sumv1.body (fun y0 => k (.d ⟨(.int .i64), y0⟩) []) := by kernel_rfl
theorem sum_Adder_Sumv1.ok (d : Nat) (hd : 1 ≤ d) (k : KR) (hx : sum_Adder_Sumv1 (fun y0 => k (.d ⟨(.int .i64), y0⟩) []) = some true) : callK Try.prog ht d 15 [.nilp] [] k = some true := by
  obtain ⟨d, rfl⟩ : ∃ e, d = e + 1 := ⟨d - 1, by omega⟩
  exact fn_ok (c := codeOf Try.f15) Try.func15 (by kernel_rfl) (rec := sum_Adder_Sumv1.calls) (fun g a h k hx => by
    cases hx) (loopf := sum_Adder_Sumv1.loops) (by
    have e : loopsOf (sum_Adder_Sumv1.loops) 0 (codeOf Try.f15) = [] := by kernel_rfl
    rw [e]
    intro p hp
    cases hp) ((sum_Adder_Sumv1.eq k).trans hx)
theorem sum_Adder_Sumv1.look (d : Nat) (hd : 1 ≤ d) {e : Option Bool} {g : FuncId} {a : List AV} {h : Heap} {k : KR} (hx : sum_Adder_Sumv1.get sum_Adder_Sumv1 e g a h k = some true) : e = some true ∨ callK Try.prog ht d g a h k = some true := by
  unfold sum_Adder_Sumv1.get at hx
  split at hx
  · exact .inr (sum_Adder_Sumv1.ok d hd _ hx)
  · exact .inl hx
/-- function 5: sheerleg/sheerleglaw03.SumsPieces -/
noncomputable def law03_SumsPieces.body (law03_known : (Bool → Option Bool) → Option Bool) (sum_New : ((Int × Int × Bool × Unit) → Option Bool) → Option Bool) (sum_Adder_Add : (List Int) → (Int × Int × Bool × Unit) → ((Int × Int × Bool × Unit) → Option Bool) → Option Bool) (sum_Adder_Sum : (Int × Int × Bool × Unit) → (Int → (Int × Int × Bool × Unit) → Option Bool) → Option Bool) (sum_Adder_Addv1 : (List Int) → (Option Bool) → Option Bool) (ref03_Of : (List Int) → (Int → Option Bool) → Option Bool) (sum_Adder_Sumv1 : (Int → Option Bool) → Option Bool) (ns257 : List Int) (n258 : Int) (n259 : Int) (k1 : Bool → Option Bool) : Option Bool :=
  (cond_ (! (decide ((((List.length ns257) : Nat) : Int) > (2000 : Int)))) (cond_ (! (decide (n258 < (0 : Int)))) (cond_ (! (decide (n258 > (((List.length ns257) : Nat) : Int)))) (cond_ (! (decide (n259 < n258))) (cond_ (decide (n259 > (((List.length ns257) : Nat) : Int))) (law03_known
  (fun b260 => (k1 b260))) (sum_New
  (fun t261 => (cond_ ((true && (decide ((0 : Int) ≤ n258))) && (decide (n258 ≤ (((List.length ns257) : Nat) : Int)))) (sum_Adder_Add (List.take (Int.toNat (n258 - (0 : Int))) (List.drop (0 : Nat) ns257)) t261
  (fun t262 => (sum_Adder_Sum t262
  (fun n263 t264 => (cond_ (((decide ((0 : Int) ≤ n258)) && (decide (n258 ≤ n259))) && (decide (n259 ≤ (((List.length ns257) : Nat) : Int)))) (sum_Adder_Add (List.take (Int.toNat (n259 - n258)) (List.drop (Int.toNat n258) ns257)) t264
  (fun t265 => (cond_ ((decide ((0 : Int) ≤ n259)) && (decide (n259 ≤ (((List.length ns257) : Nat) : Int)))) (sum_Adder_Add (List.take ((List.length ns257) - (Int.toNat n259)) (List.drop (Int.toNat n259) ns257)) t265
  (fun t266 => (sum_Adder_Addv1 ns257
  (sum_Adder_Add ns257 ((0 : Int), ((0 : Int), (false, ())))
  (fun t268 => (cond_ ((true && (decide ((0 : Int) ≤ n258))) && (decide (n258 ≤ (((List.length ns257) : Nat) : Int)))) (ref03_Of (List.take (Int.toNat (n258 - (0 : Int))) (List.drop (0 : Nat) ns257))
  (fun n269 => (cond_ (n263 == n269) (sum_Adder_Sum t266
  (fun n270 t271 => (ref03_Of ns257
  (fun n272 => (cond_ (n270 == n272) (sum_Adder_Sumv1
  (fun n273 => (cond_ (n273 == (0 : Int)) (sum_Adder_Sum t268
  (fun n274 t275 => (cond_ (n274 == (0 : Int)) (law03_known
  (fun b276 => (k1 b276))) (k1 false)))) (k1 false)))) (k1 false)))))) (k1 false)))) none)))))) none))) none))))) none)))) (law03_known
  (fun b277 => (k1 b277)))) (law03_known
  (fun b278 => (k1 b278)))) (law03_known
  (fun b279 => (k1 b279)))) (law03_known
  (fun b280 => (k1 b280))))
noncomputable def law03_SumsPieces (ns257 : List Int) (n258 : Int) (n259 : Int) (k1 : Bool → Option Bool) : Option Bool := law03_SumsPieces.body law03_known sum_New sum_Adder_Add sum_Adder_Sum sum_Adder_Addv1 ref03_Of sum_Adder_Sumv1 ns257 n258 n259 k1
noncomputable def law03_SumsPieces.get (F : (List Int) → Int → Int → (Bool → Option Bool) → Option Bool) (e : Option Bool) (g : FuncId) (a : List AV) (h : Heap) (k : KR) : Option Bool := match g, a, h with
  | 5, [(.bv 0 5 (.int .u8) ns257), (.d ⟨(.int .i64), n258⟩), (.d ⟨(.int .i64), n259⟩)], [] => F ns257 n258 n259 (fun y0 => k (.d ⟨.bool, y0⟩) [])
  | _, _, _ => e
noncomputable def law03_SumsPieces.calls (F0 : (Bool → Option Bool) → Option Bool) (F1 : ((Int × Int × Bool × Unit) → Option Bool) → Option Bool) (F2 : (List Int) → (Int × Int × Bool × Unit) → ((Int × Int × Bool × Unit) → Option Bool) → Option Bool) (F3 : (Int × Int × Bool × Unit) → (Int → (Int × Int × Bool × Unit) → Option Bool) → Option Bool) (F4 : (List Int) → (Option Bool) → Option Bool) (F5 : (List Int) → (Int → Option Bool) → Option Bool) (F6 : (Int → Option Bool) → Option Bool) : RecF := fun g a h k => (law03_known.get F0 (sum_New.get F1 (sum_Adder_Add.get F2 (sum_Adder_Sum.get F3 (sum_Adder_Addv1.get F4 (ref03_Of.get F5 (sum_Adder_Sumv1.get F6 none g a h k) g a h k) g a h k) g a h k) g a h k) g a h k) g a h k)
noncomputable def law03_SumsPieces.loops : LoopF := fun b => none
set_option maxRecDepth 100000 in
theorem law03_SumsPieces.eq (F0 : (Bool → Option Bool) → Option Bool) (F1 : ((Int × Int × Bool × Unit) → Option Bool) → Option Bool) (F2 : (List Int) → (Int × Int × Bool × Unit) → ((Int × Int × Bool × Unit) → Option Bool) → Option Bool) (F3 : (Int × Int × Bool × Unit) → (Int → (Int × Int × Bool × Unit) → Option Bool) → Option Bool) (F4 : (List Int) → (Option Bool) → Option Bool) (F5 : (List Int) → (Int → Option Bool) → Option Bool) (F6 : (Int → Option Bool) → Option Bool) (ns257 : List Int) (n258 : Int) (n259 : Int) (k : KR) : execL Try.prog ht 5 (callfOf (law03_SumsPieces.calls F0 F1 F2 F3 F4 F5 F6)) (law03_SumsPieces.loops) 0 (codeOf Try.f5) ⟨[(.bv 0 5 (.int .u8) ns257), (.d ⟨(.int .i64), n258⟩), (.d ⟨(.int .i64), n259⟩)] ++ List.replicate (Try.f5.ntmps - ([(.bv 0 5 (.int .u8) ns257), (.d ⟨(.int .i64), n258⟩), (.d ⟨(.int .i64), n259⟩)] : List AV).length) .undef, [], 2⟩ (leave Try.prog Try.f5 k) = law03_SumsPieces.body F0 F1 F2 F3 F4 F5 F6 ns257 n258 n259 (fun y0 => k (.d ⟨.bool, y0⟩) []) := by kernel_rfl
theorem law03_SumsPieces.ok (d : Nat) (hd : 61 ≤ d) (ns257 : List Int) (n258 : Int) (n259 : Int) (k : KR) (hx : law03_SumsPieces ns257 n258 n259 (fun y0 => k (.d ⟨.bool, y0⟩) []) = some true) : callK Try.prog ht d 5 [(.bv 0 5 (.int .u8) ns257), (.d ⟨(.int .i64), n258⟩), (.d ⟨(.int .i64), n259⟩)] [] k = some true := by
  obtain ⟨d, rfl⟩ : ∃ e, d = e + 1 := ⟨d - 1, by omega⟩
  exact fn_ok (c := codeOf Try.f5) Try.func5 (by kernel_rfl) (rec := law03_SumsPieces.calls law03_known sum_New sum_Adder_Add sum_Adder_Sum sum_Adder_Addv1 ref03_Of sum_Adder_Sumv1) (fun g a h k hx => by
    rcases law03_known.look d (by omega) hx with hx | hx
    rotate_left
    · exact hx
    rcases sum_New.look d (by omega) hx with hx | hx
    rotate_left
    · exact hx
    rcases sum_Adder_Add.look d (by omega) hx with hx | hx
    rotate_left
    · exact hx
    rcases sum_Adder_Sum.look d (by omega) hx with hx | hx
    rotate_left
    · exact hx
    rcases sum_Adder_Addv1.look d (by omega) hx with hx | hx
    rotate_left
    · exact hx
    rcases ref03_Of.look d (by omega) hx with hx | hx
    rotate_left
    · exact hx
    rcases sum_Adder_Sumv1.look d (by omega) hx with hx | hx
    rotate_left
    · exact hx
    cases hx) (loopf := law03_SumsPieces.loops) (by
    have e : loopsOf (law03_SumsPieces.loops) 0 (codeOf Try.f5) = [] := by kernel_rfl
    rw [e]
    intro p hp
    cases hp) ((law03_SumsPieces.eq law03_known sum_New sum_Adder_Add sum_Adder_Sum sum_Adder_Addv1 ref03_Of sum_Adder_Sumv1 ns257 n258 n259 k).trans hx)
theorem law03_SumsPieces.look (d : Nat) (hd : 61 ≤ d) {e : Option Bool} {g : FuncId} {a : List AV} {h : Heap} {k : KR} (hx : law03_SumsPieces.get law03_SumsPieces e g a h k = some true) : e = some true ∨ callK Try.prog ht d g a h k = some true := by
  unfold law03_SumsPieces.get at hx
  split at hx
  · exact .inr (law03_SumsPieces.ok d hd _ _ _ _ hx)
  · exact .inl hx
end Go.Proofs.Ytbplnfklimhdaaa.g
