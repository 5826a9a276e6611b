/- What the functions come to that G reaches, as plain functions; written by a program of this work, each told by Lean. -/
import Derived.Test.YtfpefjpbkgejdaaA3
import Derived.Test.YtfpefjpbkgejdaaChecked
namespace Go.Proofs.Ytfpefjpbkgejdaa.g
open Go.AX
set_option linter.unusedVariables false
set_option maxRecDepth 100000
set_option maxHeartbeats 4000000
def ht : Hints := hintsOf [(5, [(0, ⟨[1, 5, 6, 7], []⟩), (2, ⟨[5, 6, 10], []⟩), (2000000, ⟨[4], []⟩), (1000000, ⟨[5, 6], []⟩), (1000002, ⟨[], []⟩)]),
  (16, [(0, ⟨[0, 2, 4, 18], []⟩), (2000000, ⟨[2, 3], []⟩), (1000000, ⟨[0, 2, 4], []⟩)]),
  (4, [(0, ⟨[1, 3, 10, 11], []⟩), (2000000, ⟨[6], []⟩), (1000000, ⟨[1, 3, 10], []⟩)]),
  (32, [(0, ⟨[6, 7, 19, 20, 21], []⟩), (2000000, ⟨[4, 5], []⟩), (1000000, ⟨[6, 7], []⟩)]),
  (20, [(0, ⟨[1, 2, 3, 5, 6], []⟩), (2000000, ⟨[2, 3, 4], []⟩), (1000000, ⟨[1, 2, 3, 5], []⟩)]),
  (18, [(0, ⟨[1, 2, 3, 6, 8, 9], []⟩), (2, ⟨[1, 3, 6, 8, 10, 11], []⟩), (2000000, ⟨[6, 7], []⟩), (1000000, ⟨[1, 2, 3, 6, 8], []⟩), (1000002, ⟨[1, 3, 6, 8, 10], []⟩)]),
  (9, [(0, ⟨[0, 8, 9], [(.virt 0 5 1), (.give 0)]⟩), (2000000, ⟨[4], [(.virt 4 5 1), (.give 4)]⟩), (1000000, ⟨[0], []⟩)]),
  (28, [(0, ⟨[0, 1, 2, 7, 10], []⟩), (2000000, ⟨[6], []⟩), (1000000, ⟨[0, 2, 7], []⟩)]),
  (29, [(0, ⟨[7, 8, 9], []⟩), (2, ⟨[7, 8, 9, 10, 11], []⟩), (2000000, ⟨[6], []⟩), (1000002, ⟨[7, 8, 9, 10], []⟩), (1000001, ⟨[7, 8, 9], []⟩), (1000000, ⟨[7], []⟩)]),
  (8, [(0, ⟨[1, 3], []⟩), (2, ⟨[1, 4, 5], []⟩), (2000000, ⟨[2], []⟩), (1000000, ⟨[1], []⟩), (1000002, ⟨[], []⟩)]),
  (7, [(0, ⟨[1, 3, 14, 15, 16], []⟩), (2, ⟨[3, 6, 39, 40], []⟩), (2000000, ⟨[2], []⟩), (1000000, ⟨[1, 3], []⟩), (1000002, ⟨[], []⟩)])]
abbrev Tc0 : Type := (List Int) × Int × Bool × Unit
abbrev Tc1 : Type := Int × Int × Int × Int × Int × Unit
abbrev Tc2 : Type := ByteArray × ByteArray × ByteArray × ByteArray × ByteArray × ByteArray × ByteArray × ByteArray × ByteArray × ByteArray × ByteArray × ByteArray × ByteArray × ByteArray × ByteArray × ByteArray × ByteArray × ByteArray × ByteArray × ByteArray × ByteArray × ByteArray × ByteArray × ByteArray × Unit
abbrev Tc3 : Type := ByteArray × ByteArray × ByteArray × ByteArray × ByteArray × ByteArray × ByteArray × ByteArray × ByteArray × ByteArray × ByteArray × ByteArray × ByteArray × ByteArray × ByteArray × ByteArray × ByteArray × ByteArray × ByteArray × ByteArray × ByteArray × ByteArray × ByteArray × ByteArray × ByteArray × ByteArray × ByteArray × ByteArray × Unit
/-- function 6: sheerleg/sheerleglaw08.known, all of it at once -/
def law08_known (k1 : Bool → Option Bool) : Option Bool := k1 true
def law08_known.get (F : (Bool → Option Bool) → Option Bool) (e : Option Bool) (g : FuncId) (a : List AV) (h : Heap) (k : KR) : Option Bool := match g, a, h with
  | 6, [], [] => F (fun y => k (.d ⟨.bool, y⟩) [])
  | _, _, _ => e
set_option maxRecDepth 100000 in
theorem law08_known.all (k : KR) : callK Try.prog ht 60 6 [] [] k = k (.d ⟨.bool, true⟩) [] := by kernel_rfl
theorem law08_known.look (d : Nat) (hd : 60 ≤ d) {e : Option Bool} {g : FuncId} {a : List AV} {h : Heap} {k : KR} (hx : law08_known.get law08_known e g a h k = some true) : e = some true ∨ callK Try.prog ht d g a h k = some true := by
  unfold law08_known.get at hx
  split at hx
  · exact .inr (callK_le hd _ _ _ _ _ (fun _ _ h => h) ((law08_known.all _).trans hx))
  · exact .inl hx
/-- function 34: sheerleg/op.names -/
noncomputable def op_names.body (k1 : Tc3 → Option Bool) : Option Bool :=
  (k1 ((⟨#[110, 111, 112]⟩ : ByteArray), ((⟨#[115, 101, 116]⟩ : ByteArray), ((⟨#[109, 111, 118, 101]⟩ : ByteArray), ((⟨#[97, 100, 100]⟩ : ByteArray), ((⟨#[115, 117, 98]⟩ : ByteArray), ((⟨#[109, 117, 108]⟩ : ByteArray), ((⟨#[100, 105, 118]⟩ : ByteArray), ((⟨#[109, 111, 100]⟩ : ByteArray), ((⟨#[108, 101, 115, 115]⟩ : ByteArray), ((⟨#[115, 97, 109, 101]⟩ : ByteArray), ((⟨#[106, 117, 109, 112]⟩ : ByteArray), ((⟨#[122, 101, 114, 111]⟩ : ByteArray), ((⟨#[105, 110]⟩ : ByteArray), ((⟨#[111, 117, 116]⟩ : ByteArray), ((⟨#[108, 111, 97, 100]⟩ : ByteArray), ((⟨#[115, 116, 111, 114, 101]⟩ : ByteArray), ((⟨#[102, 117, 110, 99]⟩ : ByteArray), ((⟨#[112, 105, 99, 107]⟩ : ByteArray), ((⟨#[99, 97, 108, 108]⟩ : ByteArray), ((⟨#[118, 105, 97]⟩ : ByteArray), ((⟨#[100, 101, 102, 101, 114]⟩ : ByteArray), ((⟨#[112, 97, 110, 105, 99]⟩ : ByteArray), ((⟨#[114, 101, 99, 111, 118, 101, 114]⟩ : ByteArray), ((⟨#[114, 101, 116, 117, 114, 110]⟩ : ByteArray), ((⟨#[99, 104, 101, 99, 107]⟩ : ByteArray), ((⟨#[101, 110, 116, 101, 114]⟩ : ByteArray), ((⟨#[98, 111, 116, 116, 111, 109]⟩ : ByteArray), ((⟨#[100, 114, 105, 118, 101, 114]⟩ : ByteArray), ())))))))))))))))))))))))))))))
noncomputable def op_names (k1 : Tc3 → Option Bool) : Option Bool := op_names.body k1
noncomputable def op_names.get (F : (Tc3 → Option Bool) → Option Bool) (e : Option Bool) (g : FuncId) (a : List AV) (h : Heap) (k : KR) : Option Bool := match g, a, h with
  | 34, [], [] => F (fun y0 => k (.d ⟨(.st [.str, .str, .str, .str, .str, .str, .str, .str, .str, .str, .str, .str, .str, .str, .str, .str, .str, .str, .str, .str, .str, .str, .str, .str, .str, .str, .str, .str]), y0⟩) [])
  | _, _, _ => e
noncomputable def op_names.calls : RecF := fun g a h k => none
noncomputable def op_names.loops : LoopF := fun b => none
set_option maxRecDepth 100000 in
theorem op_names.eq (k : KR) : execL Try.prog ht 34 (callfOf (op_names.calls)) (op_names.loops) 0 (codeOf Try.f34) ⟨[] ++ List.replicate (Try.f34.ntmps - ([] : List AV).length) .undef, [], 2⟩ (leave Try.prog Try.f34 k) = op_names.body (fun y0 => k (.d ⟨(.st [.str, .str, .str, .str, .str, .str, .str, .str, .str, .str, .str, .str, .str, .str, .str, .str, .str, .str, .str, .str, .str, .str, .str, .str, .str, .str, .str, .str]), y0⟩) []) := by kernel_rfl
theorem op_names.ok (d : Nat) (hd : 1 ≤ d) (k : KR) (hx : op_names (fun y0 => k (.d ⟨(.st [.str, .str, .str, .str, .str, .str, .str, .str, .str, .str, .str, .str, .str, .str, .str, .str, .str, .str, .str, .str, .str, .str, .str, .str, .str, .str, .str, .str]), y0⟩) []) = some true) : callK Try.prog ht d 34 [] [] k = some true := by
  obtain ⟨d, rfl⟩ : ∃ e, d = e + 1 := ⟨d - 1, by omega⟩
  exact fn_ok (c := codeOf Try.f34) Try.func34 (by kernel_rfl) (rec := op_names.calls) (fun g a h k hx => by
    cases hx) (loopf := op_names.loops) (by
    have e : loopsOf (op_names.loops) 0 (codeOf Try.f34) = [] := by kernel_rfl
    rw [e]
    intro p hp
    cases hp) ((op_names.eq k).trans hx)
theorem op_names.look (d : Nat) (hd : 1 ≤ d) {e : Option Bool} {g : FuncId} {a : List AV} {h : Heap} {k : KR} (hx : op_names.get op_names e g a h k = some true) : e = some true ∨ callK Try.prog ht d g a h k = some true := by
  unfold op_names.get at hx
  split at hx
  · exact .inr (op_names.ok d hd _ hx)
  · exact .inl hx
/-- function 23: sheerleg/op.Name -/
noncomputable def op_Name.body (op_names : (Tc3 → Option Bool) → Option Bool) (n6 : Int) (k1 : ByteArray → Option Bool) : Option Bool :=
  (op_names
  (fun t7 => (cond_ (! (decide (n6 < (1 : Int)))) (cond_ (decide (n6 > (28 : Int))) (k1 (⟨#[]⟩ : ByteArray)) (cond_ ((decide ((0 : Int) ≤ (IntKind.wrap .i64 (n6 - (1 : Int))))) && (decide ((IntKind.wrap .i64 (n6 - (1 : Int))) < (28 : Int)))) (k1 (List.getD (t7.1 :: (t7.2.1 :: (t7.2.2.1 :: (t7.2.2.2.1 :: (t7.2.2.2.2.1 :: (t7.2.2.2.2.2.1 :: (t7.2.2.2.2.2.2.1 :: (t7.2.2.2.2.2.2.2.1 :: (t7.2.2.2.2.2.2.2.2.1 :: (t7.2.2.2.2.2.2.2.2.2.1 :: (t7.2.2.2.2.2.2.2.2.2.2.1 :: (t7.2.2.2.2.2.2.2.2.2.2.2.1 :: (t7.2.2.2.2.2.2.2.2.2.2.2.2.1 :: (t7.2.2.2.2.2.2.2.2.2.2.2.2.2.1 :: (t7.2.2.2.2.2.2.2.2.2.2.2.2.2.2.1 :: (t7.2.2.2.2.2.2.2.2.2.2.2.2.2.2.2.1 :: (t7.2.2.2.2.2.2.2.2.2.2.2.2.2.2.2.2.1 :: (t7.2.2.2.2.2.2.2.2.2.2.2.2.2.2.2.2.2.1 :: (t7.2.2.2.2.2.2.2.2.2.2.2.2.2.2.2.2.2.2.1 :: (t7.2.2.2.2.2.2.2.2.2.2.2.2.2.2.2.2.2.2.2.1 :: (t7.2.2.2.2.2.2.2.2.2.2.2.2.2.2.2.2.2.2.2.2.1 :: (t7.2.2.2.2.2.2.2.2.2.2.2.2.2.2.2.2.2.2.2.2.2.1 :: (t7.2.2.2.2.2.2.2.2.2.2.2.2.2.2.2.2.2.2.2.2.2.2.1 :: (t7.2.2.2.2.2.2.2.2.2.2.2.2.2.2.2.2.2.2.2.2.2.2.2.1 :: (t7.2.2.2.2.2.2.2.2.2.2.2.2.2.2.2.2.2.2.2.2.2.2.2.2.1 :: (t7.2.2.2.2.2.2.2.2.2.2.2.2.2.2.2.2.2.2.2.2.2.2.2.2.2.1 :: (t7.2.2.2.2.2.2.2.2.2.2.2.2.2.2.2.2.2.2.2.2.2.2.2.2.2.2.1 :: (t7.2.2.2.2.2.2.2.2.2.2.2.2.2.2.2.2.2.2.2.2.2.2.2.2.2.2.2.1 :: [])))))))))))))))))))))))))))) (Int.toNat (IntKind.wrap .i64 (n6 - (1 : Int)))) (⟨#[]⟩ : ByteArray))) none)) (k1 (⟨#[]⟩ : ByteArray)))))
noncomputable def op_Name (n6 : Int) (k1 : ByteArray → Option Bool) : Option Bool := op_Name.body op_names n6 k1
noncomputable def op_Name.get (F : Int → (ByteArray → Option Bool) → Option Bool) (e : Option Bool) (g : FuncId) (a : List AV) (h : Heap) (k : KR) : Option Bool := match g, a, h with
  | 23, [(.d ⟨(.int .i64), n6⟩)], [] => F n6 (fun y0 => k (.d ⟨.str, y0⟩) [])
  | _, _, _ => e
noncomputable def op_Name.calls (F0 : (Tc3 → Option Bool) → Option Bool) : RecF := fun g a h k => (op_names.get F0 none g a h k)
noncomputable def op_Name.loops : LoopF := fun b => none
set_option maxRecDepth 100000 in
theorem op_Name.eq (F0 : (Tc3 → Option Bool) → Option Bool) (n6 : Int) (k : KR) : execL Try.prog ht 23 (callfOf (op_Name.calls F0)) (op_Name.loops) 0 (codeOf Try.f23) ⟨[(.d ⟨(.int .i64), n6⟩)] ++ List.replicate (Try.f23.ntmps - ([(.d ⟨(.int .i64), n6⟩)] : List AV).length) .undef, [], 2⟩ (leave Try.prog Try.f23 k) = op_Name.body F0 n6 (fun y0 => k (.d ⟨.str, y0⟩) []) := by kernel_rfl
theorem op_Name.ok (d : Nat) (hd : 2 ≤ d) (n6 : Int) (k : KR) (hx : op_Name n6 (fun y0 => k (.d ⟨.str, y0⟩) []) = some true) : callK Try.prog ht d 23 [(.d ⟨(.int .i64), n6⟩)] [] k = some true := by
  obtain ⟨d, rfl⟩ : ∃ e, d = e + 1 := ⟨d - 1, by omega⟩
  exact fn_ok (c := codeOf Try.f23) Try.func23 (by kernel_rfl) (rec := op_Name.calls op_names) (fun g a h k hx => by
    rcases op_names.look d (by omega) hx with hx | hx
    rotate_left
    · exact hx
    cases hx) (loopf := op_Name.loops) (by
    have e : loopsOf (op_Name.loops) 0 (codeOf Try.f23) = [] := by kernel_rfl
    rw [e]
    intro p hp
    cases hp) ((op_Name.eq op_names n6 k).trans hx)
theorem op_Name.look (d : Nat) (hd : 2 ≤ d) {e : Option Bool} {g : FuncId} {a : List AV} {h : Heap} {k : KR} (hx : op_Name.get op_Name e g a h k = some true) : e = some true ∨ callK Try.prog ht d g a h k = some true := by
  unfold op_Name.get at hx
  split at hx
  · exact .inr (op_Name.ok d hd _ _ hx)
  · exact .inl hx
/-- function 24: sheerleg/instr.numbers -/
noncomputable def instr_numbers.body (t9 : Tc1) (k1 : Tc1 → Option Bool) : Option Bool :=
  (k1 (t9.1, (t9.2.1, (t9.2.2.1, (t9.2.2.2.1, (t9.2.2.2.2.1, ()))))))
noncomputable def instr_numbers (t9 : Tc1) (k1 : Tc1 → Option Bool) : Option Bool := instr_numbers.body t9 k1
noncomputable def instr_numbers.get (F : Tc1 → (Tc1 → Option Bool) → Option Bool) (e : Option Bool) (g : FuncId) (a : List AV) (h : Heap) (k : KR) : Option Bool := match g, a, h with
  | 24, [(.d ⟨(.st [(.int .i64), (.int .i64), (.int .i64), (.int .i64), (.int .i64)]), t9⟩)], [] => F t9 (fun y0 => k (.d ⟨(.st [(.int .i64), (.int .i64), (.int .i64), (.int .i64), (.int .i64)]), y0⟩) [])
  | _, _, _ => e
noncomputable def instr_numbers.calls : RecF := fun g a h k => none
noncomputable def instr_numbers.loops : LoopF := fun b => none
set_option maxRecDepth 100000 in
theorem instr_numbers.eq (t9 : Tc1) (k : KR) : execL Try.prog ht 24 (callfOf (instr_numbers.calls)) (instr_numbers.loops) 0 (codeOf Try.f24) ⟨[(.d ⟨(.st [(.int .i64), (.int .i64), (.int .i64), (.int .i64), (.int .i64)]), t9⟩)] ++ List.replicate (Try.f24.ntmps - ([(.d ⟨(.st [(.int .i64), (.int .i64), (.int .i64), (.int .i64), (.int .i64)]), t9⟩)] : List AV).length) .undef, [], 2⟩ (leave Try.prog Try.f24 k) = instr_numbers.body t9 (fun y0 => k (.d ⟨(.st [(.int .i64), (.int .i64), (.int .i64), (.int .i64), (.int .i64)]), y0⟩) []) := by kernel_rfl
theorem instr_numbers.ok (d : Nat) (hd : 1 ≤ d) (t9 : Tc1) (k : KR) (hx : instr_numbers t9 (fun y0 => k (.d ⟨(.st [(.int .i64), (.int .i64), (.int .i64), (.int .i64), (.int .i64)]), y0⟩) []) = some true) : callK Try.prog ht d 24 [(.d ⟨(.st [(.int .i64), (.int .i64), (.int .i64), (.int .i64), (.int .i64)]), t9⟩)] [] k = some true := by
  obtain ⟨d, rfl⟩ : ∃ e, d = e + 1 := ⟨d - 1, by omega⟩
  exact fn_ok (c := codeOf Try.f24) Try.func24 (by kernel_rfl) (rec := instr_numbers.calls) (fun g a h k hx => by
    cases hx) (loopf := instr_numbers.loops) (by
    have e : loopsOf (instr_numbers.loops) 0 (codeOf Try.f24) = [] := by kernel_rfl
    rw [e]
    intro p hp
    cases hp) ((instr_numbers.eq t9 k).trans hx)
theorem instr_numbers.look (d : Nat) (hd : 1 ≤ d) {e : Option Bool} {g : FuncId} {a : List AV} {h : Heap} {k : KR} (hx : instr_numbers.get instr_numbers e g a h k = some true) : e = some true ∨ callK Try.prog ht d g a h k = some true := by
  unfold instr_numbers.get at hx
  split at hx
  · exact .inr (instr_numbers.ok d hd _ _ hx)
  · exact .inl hx
/-- function 7: the loop in block 0 -/
noncomputable def instr_Check_L0.body (instr_Check_L0 : Int → Int → Tc1 → Int → Int → Int → Int → Int → (Int → Option Bool) → (Tc1 → Int → Int → Int → Int → Int → Option Bool) → Option Bool) (n11 : Int) (n12 : Int) (t13 : Tc1) (n14 : Int) (n15 : Int) (n16 : Int) (n17 : Int) (n18 : Int) (k1 : Int → Option Bool) (k2 : Tc1 → Int → Int → Int → Int → Int → Option Bool) : Option Bool :=
  (cond_ (decide (n12 < n11)) (cond_ ((decide ((0 : Int) ≤ n12)) && (decide (n12 < (3 : Int)))) (cond_ (! (decide ((List.getD (n14 :: (n15 :: (n16 :: (n17 :: (n18 :: []))))) ((1 : Nat) + (Int.toNat n12)) (0 : Int)) < (0 : Int)))) (cond_ (decide ((List.getD (n14 :: (n15 :: (n16 :: (n17 :: (n18 :: []))))) ((1 : Nat) + (Int.toNat n12)) (0 : Int)) > (255 : Int))) (k1 (9 : Int)) (instr_Check_L0 n11 (IntKind.wrap .i64 (n12 + (1 : Int))) t13 n14 n15 n16 n17 n18 k1 k2)) (k1 (9 : Int))) none) (k2 t13 n14 n15 n16 n17 n18))
noncomputable def instr_Check_L0 : Nat → Int → Int → Tc1 → Int → Int → Int → Int → Int → (Int → Option Bool) → (Tc1 → Int → Int → Int → Int → Int → Option Bool) → Option Bool
  | 0 => fun _ _ _ _ _ _ _ _ _ _ => none
  | n + 1 => instr_Check_L0.body (instr_Check_L0 n)
noncomputable def instr_Check_L0.get (F : Int → Int → Tc1 → Int → Int → Int → Int → Int → (Int → Option Bool) → (Tc1 → Int → Int → Int → Int → Int → Option Bool) → Option Bool) (e : Option Bool) (st : St) (k : KE) : Option Bool := match st with
  | ⟨sl, hp, m⟩ => match Nat.beq m 2, pickS 55 [1, 3, 14, 15, 16] sl, hp with
    | true, some [(.ptr [1, 0] 0 0), (.ptr [1, 1] 0 0), (.cut [1, 1] 1 3), (.d ⟨(.int .i64), n11⟩), (.d ⟨(.int .i64), n12⟩)], [([1, 0], ⟨23, 5, (.data (.st [(.int .i64), (.int .i64), (.int .i64), (.int .i64), (.int .i64)]) [t13])⟩), ([1, 1], ⟨47, 1, (.data (.int .i64) [n14, n15, n16, n17, n18])⟩)] => F n11 n12 t13 n14 n15 n16 n17 n18 (fun y0 => k .ret ⟨fillS 55 [2] [(.d ⟨(.int .i64), y0⟩)], [], 2⟩) (fun y0 y1 y2 y3 y4 y5 => k (.exit 0) ⟨fillS 55 [1, 3] [(.ptr [1, 0] 0 0), (.ptr [1, 1] 0 0)], [([1, 0], ⟨23, 5, (.data (.st [(.int .i64), (.int .i64), (.int .i64), (.int .i64), (.int .i64)]) [y0])⟩), ([1, 1], ⟨47, 1, (.data (.int .i64) [y1, y2, y3, y4, y5])⟩)], 2⟩)
    | _, _, _ => e
noncomputable def instr_Check_L0.calls : RecF := fun g a h k => none
noncomputable def instr_Check_L0.loops : LoopF := fun b => none
set_option maxRecDepth 100000 in
theorem instr_Check_L0.step (S : Int → Int → Tc1 → Int → Int → Int → Int → Int → (Int → Option Bool) → (Tc1 → Int → Int → Int → Int → Int → Option Bool) → Option Bool) (n11 : Int) (n12 : Int) (t13 : Tc1) (n14 : Int) (n15 : Int) (n16 : Int) (n17 : Int) (n18 : Int) (k : KE) : execL Try.prog ht 7 (callfOf (instr_Check_L0.calls)) (instr_Check_L0.loops) 0 (loopAt 0 (codeOf Try.f7)) ⟨fillS 55 [1, 3, 14, 15, 16] [(.ptr [1, 0] 0 0), (.ptr [1, 1] 0 0), (.cut [1, 1] 1 3), (.d ⟨(.int .i64), n11⟩), (.d ⟨(.int .i64), n12⟩)], [([1, 0], ⟨23, 5, (.data (.st [(.int .i64), (.int .i64), (.int .i64), (.int .i64), (.int .i64)]) [t13])⟩), ([1, 1], ⟨47, 1, (.data (.int .i64) [n14, n15, n16, n17, n18])⟩)], 2⟩ (again (instr_Check_L0.get S none) (plan Try.prog (ht 7 0)) k) = instr_Check_L0.body S n11 n12 t13 n14 n15 n16 n17 n18 (fun y0 => k .ret ⟨fillS 55 [2] [(.d ⟨(.int .i64), y0⟩)], [], 2⟩) (fun y0 y1 y2 y3 y4 y5 => k (.exit 0) ⟨fillS 55 [1, 3] [(.ptr [1, 0] 0 0), (.ptr [1, 1] 0 0)], [([1, 0], ⟨23, 5, (.data (.st [(.int .i64), (.int .i64), (.int .i64), (.int .i64), (.int .i64)]) [y0])⟩), ([1, 1], ⟨47, 1, (.data (.int .i64) [y1, y2, y3, y4, y5])⟩)], 2⟩) := by kernel_rfl
theorem instr_Check_L0.ok (d : Nat) (hd : 0 ≤ d) : ∀ n st k, instr_Check_L0.get (instr_Check_L0 n) none st k = some true → iter n (plan Try.prog (ht 7 0)) (fun st k => execK Try.prog ht 7 (callfOf (callK Try.prog ht d)) 0 (loopAt 0 (codeOf Try.f7)) st k) st k = some true :=
  loop_ok (lfn := fun n st k => instr_Check_L0.get (instr_Check_L0 n) none st k) (rec := instr_Check_L0.calls) (fun g a h k hx => by
    cases hx) (loopf := instr_Check_L0.loops) (by
    have e : loopsOf (instr_Check_L0.loops) 0 (loopAt 0 (codeOf Try.f7)) = [] := by kernel_rfl
    rw [e]
    intro p hp
    cases hp) (fun st k h => by
    obtain ⟨sl, hp, m⟩ := st
    unfold instr_Check_L0.get at h
    dsimp only at h
    split at h
    · have h' : (none : Option Bool) = some true := h
      cases h'
    · cases h) (fun n st k h => by
    obtain ⟨sl, hp, m⟩ := st
    unfold instr_Check_L0.get at h
    dsimp only at h
    split at h
    · rename_i h1 h2
      obtain rfl := pickS_ok h2
      obtain rfl := Nat.eq_of_beq_eq_true h1
      exact (instr_Check_L0.step (instr_Check_L0 n) _ _ _ _ _ _ _ _ k).trans h
    · cases h)
theorem instr_Check_L0.look {F : Int → Int → Tc1 → Int → Int → Int → Int → Int → (Int → Option Bool) → (Tc1 → Int → Int → Int → Int → Int → Option Bool) → Option Bool} {e : Option Bool} {st : St} {k : KE} (hx : instr_Check_L0.get F e st k = some true) : e = some true ∨ instr_Check_L0.get F none st k = some true := by
  obtain ⟨sl, hp, m⟩ := st
  unfold instr_Check_L0.get at hx ⊢
  dsimp only at hx ⊢
  split at hx
  · exact .inr hx
  · exact .inl hx
/-- function 35: sheerleg/op.Own -/
noncomputable def op_Own.body (n27 : Int) (k1 : Bool → Option Bool) : Option Bool :=
  (cond_ (decide (n27 ≥ (1 : Int))) (k1 (decide (n27 ≤ (24 : Int)))) (k1 false))
noncomputable def op_Own (n27 : Int) (k1 : Bool → Option Bool) : Option Bool := op_Own.body n27 k1
noncomputable def op_Own.get (F : Int → (Bool → Option Bool) → Option Bool) (e : Option Bool) (g : FuncId) (a : List AV) (h : Heap) (k : KR) : Option Bool := match g, a, h with
  | 35, [(.d ⟨(.int .i64), n27⟩)], [] => F n27 (fun y0 => k (.d ⟨.bool, y0⟩) [])
  | _, _, _ => e
noncomputable def op_Own.calls : RecF := fun g a h k => none
noncomputable def op_Own.loops : LoopF := fun b => none
set_option maxRecDepth 100000 in
theorem op_Own.eq (n27 : Int) (k : KR) : execL Try.prog ht 35 (callfOf (op_Own.calls)) (op_Own.loops) 0 (codeOf Try.f35) ⟨[(.d ⟨(.int .i64), n27⟩)] ++ List.replicate (Try.f35.ntmps - ([(.d ⟨(.int .i64), n27⟩)] : List AV).length) .undef, [], 2⟩ (leave Try.prog Try.f35 k) = op_Own.body n27 (fun y0 => k (.d ⟨.bool, y0⟩) []) := by kernel_rfl
theorem op_Own.ok (d : Nat) (hd : 1 ≤ d) (n27 : Int) (k : KR) (hx : op_Own n27 (fun y0 => k (.d ⟨.bool, y0⟩) []) = some true) : callK Try.prog ht d 35 [(.d ⟨(.int .i64), n27⟩)] [] k = some true := by
  obtain ⟨d, rfl⟩ : ∃ e, d = e + 1 := ⟨d - 1, by omega⟩
  exact fn_ok (c := codeOf Try.f35) Try.func35 (by kernel_rfl) (rec := op_Own.calls) (fun g a h k hx => by
    cases hx) (loopf := op_Own.loops) (by
    have e : loopsOf (op_Own.loops) 0 (codeOf Try.f35) = [] := by kernel_rfl
    rw [e]
    intro p hp
    cases hp) ((op_Own.eq n27 k).trans hx)
theorem op_Own.look (d : Nat) (hd : 1 ≤ d) {e : Option Bool} {g : FuncId} {a : List AV} {h : Heap} {k : KR} (hx : op_Own.get op_Own e g a h k = some true) : e = some true ∨ callK Try.prog ht d g a h k = some true := by
  unfold op_Own.get at hx
  split at hx
  · exact .inr (op_Own.ok d hd _ _ hx)
  · exact .inl hx
/-- function 36: sheerleg/op.shapes -/
noncomputable def op_shapes.body (k1 : Tc2 → Option Bool) : Option Bool :=
  (k1 ((⟨#[45, 45, 45, 45]⟩ : ByteArray), ((⟨#[119, 45, 45, 110]⟩ : ByteArray), ((⟨#[119, 114, 45, 45]⟩ : ByteArray), ((⟨#[119, 114, 114, 45]⟩ : ByteArray), ((⟨#[119, 114, 114, 45]⟩ : ByteArray), ((⟨#[119, 114, 114, 45]⟩ : ByteArray), ((⟨#[119, 114, 114, 45]⟩ : ByteArray), ((⟨#[119, 114, 114, 45]⟩ : ByteArray), ((⟨#[119, 114, 114, 45]⟩ : ByteArray), ((⟨#[119, 114, 114, 45]⟩ : ByteArray), ((⟨#[45, 45, 45, 116]⟩ : ByteArray), ((⟨#[114, 45, 45, 116]⟩ : ByteArray), ((⟨#[119, 45, 45, 45]⟩ : ByteArray), ((⟨#[114, 45, 45, 45]⟩ : ByteArray), ((⟨#[119, 114, 45, 45]⟩ : ByteArray), ((⟨#[114, 114, 45, 45]⟩ : ByteArray), ((⟨#[103, 45, 45, 45]⟩ : ByteArray), ((⟨#[103, 114, 45, 45]⟩ : ByteArray), ((⟨#[99, 45, 45, 45]⟩ : ByteArray), ((⟨#[99, 102, 107, 45]⟩ : ByteArray), ((⟨#[100, 45, 45, 45]⟩ : ByteArray), ((⟨#[114, 45, 45, 45]⟩ : ByteArray), ((⟨#[119, 119, 45, 45]⟩ : ByteArray), ((⟨#[118, 45, 45, 45]⟩ : ByteArray), ())))))))))))))))))))))))))
noncomputable def op_shapes (k1 : Tc2 → Option Bool) : Option Bool := op_shapes.body k1
noncomputable def op_shapes.get (F : (Tc2 → Option Bool) → Option Bool) (e : Option Bool) (g : FuncId) (a : List AV) (h : Heap) (k : KR) : Option Bool := match g, a, h with
  | 36, [], [] => F (fun y0 => k (.d ⟨(.st [.str, .str, .str, .str, .str, .str, .str, .str, .str, .str, .str, .str, .str, .str, .str, .str, .str, .str, .str, .str, .str, .str, .str, .str]), y0⟩) [])
  | _, _, _ => e
noncomputable def op_shapes.calls : RecF := fun g a h k => none
noncomputable def op_shapes.loops : LoopF := fun b => none
set_option maxRecDepth 100000 in
theorem op_shapes.eq (k : KR) : execL Try.prog ht 36 (callfOf (op_shapes.calls)) (op_shapes.loops) 0 (codeOf Try.f36) ⟨[] ++ List.replicate (Try.f36.ntmps - ([] : List AV).length) .undef, [], 2⟩ (leave Try.prog Try.f36 k) = op_shapes.body (fun y0 => k (.d ⟨(.st [.str, .str, .str, .str, .str, .str, .str, .str, .str, .str, .str, .str, .str, .str, .str, .str, .str, .str, .str, .str, .str, .str, .str, .str]), y0⟩) []) := by kernel_rfl
theorem op_shapes.ok (d : Nat) (hd : 1 ≤ d) (k : KR) (hx : op_shapes (fun y0 => k (.d ⟨(.st [.str, .str, .str, .str, .str, .str, .str, .str, .str, .str, .str, .str, .str, .str, .str, .str, .str, .str, .str, .str, .str, .str, .str, .str]), y0⟩) []) = some true) : callK Try.prog ht d 36 [] [] k = some true := by
  obtain ⟨d, rfl⟩ : ∃ e, d = e + 1 := ⟨d - 1, by omega⟩
  exact fn_ok (c := codeOf Try.f36) Try.func36 (by kernel_rfl) (rec := op_shapes.calls) (fun g a h k hx => by
    cases hx) (loopf := op_shapes.loops) (by
    have e : loopsOf (op_shapes.loops) 0 (codeOf Try.f36) = [] := by kernel_rfl
    rw [e]
    intro p hp
    cases hp) ((op_shapes.eq k).trans hx)
theorem op_shapes.look (d : Nat) (hd : 1 ≤ d) {e : Option Bool} {g : FuncId} {a : List AV} {h : Heap} {k : KR} (hx : op_shapes.get op_shapes e g a h k = some true) : e = some true ∨ callK Try.prog ht d g a h k = some true := by
  unfold op_shapes.get at hx
  split at hx
  · exact .inr (op_shapes.ok d hd _ hx)
  · exact .inl hx
/-- function 25: sheerleg/op.Shape -/
noncomputable def op_Shape.body (op_Own : Int → (Bool → Option Bool) → Option Bool) (op_shapes : (Tc2 → Option Bool) → Option Bool) (n26 : Int) (k1 : ByteArray → Option Bool) : Option Bool :=
  (op_Own n26
  (fun b28 => (cond_ (! b28) (k1 (⟨#[]⟩ : ByteArray)) (op_shapes
  (fun t29 => (cond_ ((decide ((0 : Int) ≤ (IntKind.wrap .i64 (n26 - (1 : Int))))) && (decide ((IntKind.wrap .i64 (n26 - (1 : Int))) < (24 : Int)))) (k1 (List.getD (t29.1 :: (t29.2.1 :: (t29.2.2.1 :: (t29.2.2.2.1 :: (t29.2.2.2.2.1 :: (t29.2.2.2.2.2.1 :: (t29.2.2.2.2.2.2.1 :: (t29.2.2.2.2.2.2.2.1 :: (t29.2.2.2.2.2.2.2.2.1 :: (t29.2.2.2.2.2.2.2.2.2.1 :: (t29.2.2.2.2.2.2.2.2.2.2.1 :: (t29.2.2.2.2.2.2.2.2.2.2.2.1 :: (t29.2.2.2.2.2.2.2.2.2.2.2.2.1 :: (t29.2.2.2.2.2.2.2.2.2.2.2.2.2.1 :: (t29.2.2.2.2.2.2.2.2.2.2.2.2.2.2.1 :: (t29.2.2.2.2.2.2.2.2.2.2.2.2.2.2.2.1 :: (t29.2.2.2.2.2.2.2.2.2.2.2.2.2.2.2.2.1 :: (t29.2.2.2.2.2.2.2.2.2.2.2.2.2.2.2.2.2.1 :: (t29.2.2.2.2.2.2.2.2.2.2.2.2.2.2.2.2.2.2.1 :: (t29.2.2.2.2.2.2.2.2.2.2.2.2.2.2.2.2.2.2.2.1 :: (t29.2.2.2.2.2.2.2.2.2.2.2.2.2.2.2.2.2.2.2.2.1 :: (t29.2.2.2.2.2.2.2.2.2.2.2.2.2.2.2.2.2.2.2.2.2.1 :: (t29.2.2.2.2.2.2.2.2.2.2.2.2.2.2.2.2.2.2.2.2.2.2.1 :: (t29.2.2.2.2.2.2.2.2.2.2.2.2.2.2.2.2.2.2.2.2.2.2.2.1 :: [])))))))))))))))))))))))) (Int.toNat (IntKind.wrap .i64 (n26 - (1 : Int)))) (⟨#[]⟩ : ByteArray))) none))))))
noncomputable def op_Shape (n26 : Int) (k1 : ByteArray → Option Bool) : Option Bool := op_Shape.body op_Own op_shapes n26 k1
noncomputable def op_Shape.get (F : Int → (ByteArray → Option Bool) → Option Bool) (e : Option Bool) (g : FuncId) (a : List AV) (h : Heap) (k : KR) : Option Bool := match g, a, h with
  | 25, [(.d ⟨(.int .i64), n26⟩)], [] => F n26 (fun y0 => k (.d ⟨.str, y0⟩) [])
  | _, _, _ => e
noncomputable def op_Shape.calls (F0 : Int → (Bool → Option Bool) → Option Bool) (F1 : (Tc2 → Option Bool) → Option Bool) : RecF := fun g a h k => (op_Own.get F0 (op_shapes.get F1 none g a h k) g a h k)
noncomputable def op_Shape.loops : LoopF := fun b => none
set_option maxRecDepth 100000 in
theorem op_Shape.eq (F0 : Int → (Bool → Option Bool) → Option Bool) (F1 : (Tc2 → Option Bool) → Option Bool) (n26 : Int) (k : KR) : execL Try.prog ht 25 (callfOf (op_Shape.calls F0 F1)) (op_Shape.loops) 0 (codeOf Try.f25) ⟨[(.d ⟨(.int .i64), n26⟩)] ++ List.replicate (Try.f25.ntmps - ([(.d ⟨(.int .i64), n26⟩)] : List AV).length) .undef, [], 2⟩ (leave Try.prog Try.f25 k) = op_Shape.body F0 F1 n26 (fun y0 => k (.d ⟨.str, y0⟩) []) := by kernel_rfl
theorem op_Shape.ok (d : Nat) (hd : 2 ≤ d) (n26 : Int) (k : KR) (hx : op_Shape n26 (fun y0 => k (.d ⟨.str, y0⟩) []) = some true) : callK Try.prog ht d 25 [(.d ⟨(.int .i64), n26⟩)] [] k = some true := by
  obtain ⟨d, rfl⟩ : ∃ e, d = e + 1 := ⟨d - 1, by omega⟩
  exact fn_ok (c := codeOf Try.f25) Try.func25 (by kernel_rfl) (rec := op_Shape.calls op_Own op_shapes) (fun g a h k hx => by
    rcases op_Own.look d (by omega) hx with hx | hx
    rotate_left
    · exact hx
    rcases op_shapes.look d (by omega) hx with hx | hx
    rotate_left
    · exact hx
    cases hx) (loopf := op_Shape.loops) (by
    have e : loopsOf (op_Shape.loops) 0 (codeOf Try.f25) = [] := by kernel_rfl
    rw [e]
    intro p hp
    cases hp) ((op_Shape.eq op_Own op_shapes n26 k).trans hx)
theorem op_Shape.look (d : Nat) (hd : 2 ≤ d) {e : Option Bool} {g : FuncId} {a : List AV} {h : Heap} {k : KR} (hx : op_Shape.get op_Shape e g a h k = some true) : e = some true ∨ callK Try.prog ht d g a h k = some true := by
  unfold op_Shape.get at hx
  split at hx
  · exact .inr (op_Shape.ok d hd _ _ hx)
  · exact .inl hx
/-- function 7: the loop in block 2 -/
noncomputable def instr_Check_L2.body (instr_Check_L2 : ByteArray → Int → Int → Int → Int → Int → Int → Int → (Int → Option Bool) → (Option Bool) → Option Bool) (s31 : ByteArray) (n32 : Int) (n33 : Int) (n34 : Int) (n35 : Int) (n36 : Int) (n37 : Int) (n38 : Int) (k1 : Int → Option Bool) (k2 : Option Bool) : Option Bool :=
  (cond_ (decide (n33 < n32)) (cond_ ((decide ((0 : Int) ≤ n33)) && (decide (n33 < (((ByteArray.size s31) : Nat) : Int)))) (cond_ ((((UInt8.toNat (List.getD (Array.toList (ByteArray.data s31)) (Int.toNat n33) (0 : UInt8))) : Nat) : Int) == (45 : Int)) (cond_ ((decide ((0 : Int) ≤ (IntKind.wrap .i64 ((1 : Int) + n33)))) && (decide ((IntKind.wrap .i64 ((1 : Int) + n33)) < (5 : Int)))) (cond_ ((List.getD (n34 :: (n35 :: (n36 :: (n37 :: (n38 :: []))))) (Int.toNat (IntKind.wrap .i64 ((1 : Int) + n33))) (0 : Int)) != (0 : Int)) (k1 (2 : Int)) (instr_Check_L2 s31 n32 (IntKind.wrap .i64 (n33 + (1 : Int))) n34 n35 n36 n37 n38 k1 k2)) none) (instr_Check_L2 s31 n32 (IntKind.wrap .i64 (n33 + (1 : Int))) n34 n35 n36 n37 n38 k1 k2)) none) (k2))
noncomputable def instr_Check_L2 : Nat → ByteArray → Int → Int → Int → Int → Int → Int → Int → (Int → Option Bool) → (Option Bool) → Option Bool
  | 0 => fun _ _ _ _ _ _ _ _ _ _ => none
  | n + 1 => instr_Check_L2.body (instr_Check_L2 n)
noncomputable def instr_Check_L2.get (F : ByteArray → Int → Int → Int → Int → Int → Int → Int → (Int → Option Bool) → (Option Bool) → Option Bool) (e : Option Bool) (st : St) (k : KE) : Option Bool := match st with
  | ⟨sl, hp, m⟩ => match Nat.beq m 2, pickS 55 [3, 6, 39, 40] sl, hp with
    | true, some [(.ptr [1, 0] 0 0), (.d ⟨.str, s31⟩), (.d ⟨(.int .i64), n32⟩), (.d ⟨(.int .i64), n33⟩)], [([1, 0], ⟨47, 1, (.data (.int .i64) [n34, n35, n36, n37, n38])⟩)] => F s31 n32 n33 n34 n35 n36 n37 n38 (fun y0 => k .ret ⟨fillS 55 [2] [(.d ⟨(.int .i64), y0⟩)], [], 2⟩) (k (.exit 2) ⟨fillS 55 [] [], [], 2⟩)
    | _, _, _ => e
noncomputable def instr_Check_L2.calls : RecF := fun g a h k => none
noncomputable def instr_Check_L2.loops : LoopF := fun b => none
set_option maxRecDepth 100000 in
theorem instr_Check_L2.step (S : ByteArray → Int → Int → Int → Int → Int → Int → Int → (Int → Option Bool) → (Option Bool) → Option Bool) (s31 : ByteArray) (n32 : Int) (n33 : Int) (n34 : Int) (n35 : Int) (n36 : Int) (n37 : Int) (n38 : Int) (k : KE) : execL Try.prog ht 7 (callfOf (instr_Check_L2.calls)) (instr_Check_L2.loops) 2 (loopAt 2 (codeOf Try.f7)) ⟨fillS 55 [3, 6, 39, 40] [(.ptr [1, 0] 0 0), (.d ⟨.str, s31⟩), (.d ⟨(.int .i64), n32⟩), (.d ⟨(.int .i64), n33⟩)], [([1, 0], ⟨47, 1, (.data (.int .i64) [n34, n35, n36, n37, n38])⟩)], 2⟩ (again (instr_Check_L2.get S none) (plan Try.prog (ht 7 2)) k) = instr_Check_L2.body S s31 n32 n33 n34 n35 n36 n37 n38 (fun y0 => k .ret ⟨fillS 55 [2] [(.d ⟨(.int .i64), y0⟩)], [], 2⟩) (k (.exit 2) ⟨fillS 55 [] [], [], 2⟩) := by kernel_rfl
theorem instr_Check_L2.ok (d : Nat) (hd : 0 ≤ d) : ∀ n st k, instr_Check_L2.get (instr_Check_L2 n) none st k = some true → iter n (plan Try.prog (ht 7 2)) (fun st k => execK Try.prog ht 7 (callfOf (callK Try.prog ht d)) 2 (loopAt 2 (codeOf Try.f7)) st k) st k = some true :=
  loop_ok (lfn := fun n st k => instr_Check_L2.get (instr_Check_L2 n) none st k) (rec := instr_Check_L2.calls) (fun g a h k hx => by
    cases hx) (loopf := instr_Check_L2.loops) (by
    have e : loopsOf (instr_Check_L2.loops) 2 (loopAt 2 (codeOf Try.f7)) = [] := by kernel_rfl
    rw [e]
    intro p hp
    cases hp) (fun st k h => by
    obtain ⟨sl, hp, m⟩ := st
    unfold instr_Check_L2.get at h
    dsimp only at h
    split at h
    · have h' : (none : Option Bool) = some true := h
      cases h'
    · cases h) (fun n st k h => by
    obtain ⟨sl, hp, m⟩ := st
    unfold instr_Check_L2.get at h
    dsimp only at h
    split at h
    · rename_i h1 h2
      obtain rfl := pickS_ok h2
      obtain rfl := Nat.eq_of_beq_eq_true h1
      exact (instr_Check_L2.step (instr_Check_L2 n) _ _ _ _ _ _ _ _ k).trans h
    · cases h)
theorem instr_Check_L2.look {F : ByteArray → Int → Int → Int → Int → Int → Int → Int → (Int → Option Bool) → (Option Bool) → Option Bool} {e : Option Bool} {st : St} {k : KE} (hx : instr_Check_L2.get F e st k = some true) : e = some true ∨ instr_Check_L2.get F none st k = some true := by
  obtain ⟨sl, hp, m⟩ := st
  unfold instr_Check_L2.get at hx ⊢
  dsimp only at hx ⊢
  split at hx
  · exact .inr hx
  · exact .inl hx
/-- function 7: sheerleg/instr.Check -/
noncomputable def instr_Check.body (op_Name : Int → (ByteArray → Option Bool) → Option Bool) (instr_numbers : Tc1 → (Tc1 → Option Bool) → Option Bool) (op_Shape : Int → (ByteArray → Option Bool) → Option Bool) (instr_Check_L0 : Int → Int → Tc1 → Int → Int → Int → Int → Int → (Int → Option Bool) → (Tc1 → Int → Int → Int → Int → Int → Option Bool) → Option Bool) (instr_Check_L2 : ByteArray → Int → Int → Int → Int → Int → Int → Int → (Int → Option Bool) → (Option Bool) → Option Bool) (t5 : Tc1) (k1 : Int → Option Bool) : Option Bool :=
  (op_Name t5.1
  (fun s8 => (cond_ ((ByteArray.toList s8) == (ByteArray.toList (⟨#[]⟩ : ByteArray))) (k1 (8 : Int)) (instr_numbers t5
  (fun t10 => (instr_Check_L0 (3 : Int) (0 : Int) t5 t10.1 t10.2.1 t10.2.2.1 t10.2.2.2.1 t10.2.2.2.2.1
  (fun n19 => (k1 n19))
  (fun t20 n21 n22 n23 n24 n25 => (cond_ (! (decide (t20.2.2.2.2.1 < (-2147483648 : Int)))) (cond_ (decide (t20.2.2.2.2.1 > (2147483647 : Int))) (k1 (9 : Int)) (op_Shape t20.1
  (fun s30 => (instr_Check_L2 s30 (((ByteArray.size s30) : Nat) : Int) (0 : Int) n21 n22 n23 n24 n25
  (fun n39 => (k1 n39))
  (k1 (0 : Int)))))) (k1 (9 : Int))))))))))
noncomputable def instr_Check (t5 : Tc1) (k1 : Int → Option Bool) : Option Bool := instr_Check.body op_Name instr_numbers op_Shape (instr_Check_L0 ROUNDS) (instr_Check_L2 ROUNDS) t5 k1
noncomputable def instr_Check.get (F : Tc1 → (Int → Option Bool) → Option Bool) (e : Option Bool) (g : FuncId) (a : List AV) (h : Heap) (k : KR) : Option Bool := match g, a, h with
  | 7, [(.d ⟨(.st [(.int .i64), (.int .i64), (.int .i64), (.int .i64), (.int .i64)]), t5⟩)], [] => F t5 (fun y0 => k (.d ⟨(.int .i64), y0⟩) [])
  | _, _, _ => e
noncomputable def instr_Check.calls (F0 : Int → (ByteArray → Option Bool) → Option Bool) (F1 : Tc1 → (Tc1 → Option Bool) → Option Bool) (F2 : Int → (ByteArray → Option Bool) → Option Bool) : RecF := fun g a h k => (op_Name.get F0 (instr_numbers.get F1 (op_Shape.get F2 none g a h k) g a h k) g a h k)
noncomputable def instr_Check.loops (L0 : Int → Int → Tc1 → Int → Int → Int → Int → Int → (Int → Option Bool) → (Tc1 → Int → Int → Int → Int → Int → Option Bool) → Option Bool) (L1 : ByteArray → Int → Int → Int → Int → Int → Int → Int → (Int → Option Bool) → (Option Bool) → Option Bool) : LoopF := fun b => match Nat.beq b 0 with | true => some (fun st k => (instr_Check_L0.get L0 none st k)) | false => match Nat.beq b 2 with | true => some (fun st k => (instr_Check_L2.get L1 none st k)) | false => none
set_option maxRecDepth 100000 in
theorem instr_Check.eq (F0 : Int → (ByteArray → Option Bool) → Option Bool) (F1 : Tc1 → (Tc1 → Option Bool) → Option Bool) (F2 : Int → (ByteArray → Option Bool) → Option Bool) (L0 : Int → Int → Tc1 → Int → Int → Int → Int → Int → (Int → Option Bool) → (Tc1 → Int → Int → Int → Int → Int → Option Bool) → Option Bool) (L1 : ByteArray → Int → Int → Int → Int → Int → Int → Int → (Int → Option Bool) → (Option Bool) → Option Bool) (t5 : Tc1) (k : KR) : execL Try.prog ht 7 (callfOf (instr_Check.calls F0 F1 F2)) (instr_Check.loops L0 L1) 0 (codeOf Try.f7) ⟨[(.d ⟨(.st [(.int .i64), (.int .i64), (.int .i64), (.int .i64), (.int .i64)]), t5⟩)] ++ List.replicate (Try.f7.ntmps - ([(.d ⟨(.st [(.int .i64), (.int .i64), (.int .i64), (.int .i64), (.int .i64)]), t5⟩)] : List AV).length) .undef, [], 2⟩ (leave Try.prog Try.f7 k) = instr_Check.body F0 F1 F2 L0 L1 t5 (fun y0 => k (.d ⟨(.int .i64), y0⟩) []) := by kernel_rfl
theorem instr_Check.ok (d : Nat) (hd : 3 ≤ d) (t5 : Tc1) (k : KR) (hx : instr_Check t5 (fun y0 => k (.d ⟨(.int .i64), y0⟩) []) = some true) : callK Try.prog ht d 7 [(.d ⟨(.st [(.int .i64), (.int .i64), (.int .i64), (.int .i64), (.int .i64)]), t5⟩)] [] k = some true := by
  obtain ⟨d, rfl⟩ : ∃ e, d = e + 1 := ⟨d - 1, by omega⟩
  exact fn_ok (c := codeOf Try.f7) Try.func7 (by kernel_rfl) (rec := instr_Check.calls op_Name instr_numbers op_Shape) (fun g a h k hx => by
    rcases op_Name.look d (by omega) hx with hx | hx
    rotate_left
    · exact hx
    rcases instr_numbers.look d (by omega) hx with hx | hx
    rotate_left
    · exact hx
    rcases op_Shape.look d (by omega) hx with hx | hx
    rotate_left
    · exact hx
    cases hx) (loopf := instr_Check.loops (instr_Check_L0 ROUNDS) (instr_Check_L2 ROUNDS)) (by
    have e : loopsOf (instr_Check.loops (instr_Check_L0 ROUNDS) (instr_Check_L2 ROUNDS)) 0 (codeOf Try.f7) = [(0, loopAt 0 (codeOf Try.f7)), (2, loopAt 2 (codeOf Try.f7))] := by kernel_rfl
    rw [e]
    intro p hp
    simp only [List.mem_cons, List.not_mem_nil, or_false] at hp
    rcases hp with rfl | rfl
    · refine loopRef_of (callf := callfOf (callK Try.prog ht d)) (callfOf_ref (callK_mono d)) fun lf st k hb hx => ?_
      cases hb
      rcases instr_Check_L0.look hx with hx | hx
      rotate_left
      · exact instr_Check_L0.ok d (by omega) _ _ _ hx
      cases hx
    · refine loopRef_of (callf := callfOf (callK Try.prog ht d)) (callfOf_ref (callK_mono d)) fun lf st k hb hx => ?_
      cases hb
      rcases instr_Check_L2.look hx with hx | hx
      rotate_left
      · exact instr_Check_L2.ok d (by omega) _ _ _ hx
      cases hx) ((instr_Check.eq op_Name instr_numbers op_Shape (instr_Check_L0 ROUNDS) (instr_Check_L2 ROUNDS) t5 k).trans hx)
theorem instr_Check.look (d : Nat) (hd : 3 ≤ d) {e : Option Bool} {g : FuncId} {a : List AV} {h : Heap} {k : KR} (hx : instr_Check.get instr_Check e g a h k = some true) : e = some true ∨ callK Try.prog ht d g a h k = some true := by
  unfold instr_Check.get at hx
  split at hx
  · exact .inr (instr_Check.ok d hd _ _ hx)
  · exact .inl hx
/-- function 37: sheerleg/sheerlegref07.names -/
noncomputable def ref07_names.body (k1 : (List ByteArray) → Option Bool) : Option Bool :=
  (k1 [(⟨#[110, 111, 112]⟩ : ByteArray), (⟨#[115, 101, 116]⟩ : ByteArray), (⟨#[109, 111, 118, 101]⟩ : ByteArray), (⟨#[97, 100, 100]⟩ : ByteArray), (⟨#[115, 117, 98]⟩ : ByteArray), (⟨#[109, 117, 108]⟩ : ByteArray), (⟨#[100, 105, 118]⟩ : ByteArray), (⟨#[109, 111, 100]⟩ : ByteArray), (⟨#[108, 101, 115, 115]⟩ : ByteArray), (⟨#[115, 97, 109, 101]⟩ : ByteArray), (⟨#[106, 117, 109, 112]⟩ : ByteArray), (⟨#[122, 101, 114, 111]⟩ : ByteArray), (⟨#[105, 110]⟩ : ByteArray), (⟨#[111, 117, 116]⟩ : ByteArray), (⟨#[108, 111, 97, 100]⟩ : ByteArray), (⟨#[115, 116, 111, 114, 101]⟩ : ByteArray), (⟨#[102, 117, 110, 99]⟩ : ByteArray), (⟨#[112, 105, 99, 107]⟩ : ByteArray), (⟨#[99, 97, 108, 108]⟩ : ByteArray), (⟨#[118, 105, 97]⟩ : ByteArray), (⟨#[100, 101, 102, 101, 114]⟩ : ByteArray), (⟨#[112, 97, 110, 105, 99]⟩ : ByteArray), (⟨#[114, 101, 99, 111, 118, 101, 114]⟩ : ByteArray), (⟨#[114, 101, 116, 117, 114, 110]⟩ : ByteArray), (⟨#[99, 104, 101, 99, 107]⟩ : ByteArray), (⟨#[101, 110, 116, 101, 114]⟩ : ByteArray), (⟨#[98, 111, 116, 116, 111, 109]⟩ : ByteArray), (⟨#[100, 114, 105, 118, 101, 114]⟩ : ByteArray)])
noncomputable def ref07_names (k1 : (List ByteArray) → Option Bool) : Option Bool := ref07_names.body k1
noncomputable def ref07_names.get (F : ((List ByteArray) → Option Bool) → Option Bool) (e : Option Bool) (g : FuncId) (a : List AV) (h : Heap) (k : KR) : Option Bool := match g, a, h with
  | 37, [], [] => F (fun y0 => k (.ref [1, 0]) [([1, 0], ⟨9, 1, (.data .str y0)⟩)])
  | _, _, _ => e
noncomputable def ref07_names.calls : RecF := fun g a h k => none
noncomputable def ref07_names.loops : LoopF := fun b => none
set_option maxRecDepth 100000 in
theorem ref07_names.eq (k : KR) : execL Try.prog ht 37 (callfOf (ref07_names.calls)) (ref07_names.loops) 0 (codeOf Try.f37) ⟨[] ++ List.replicate (Try.f37.ntmps - ([] : List AV).length) .undef, [], 2⟩ (leave Try.prog Try.f37 k) = ref07_names.body (fun y0 => k (.ref [1, 0]) [([1, 0], ⟨9, 1, (.data .str y0)⟩)]) := by kernel_rfl
theorem ref07_names.ok (d : Nat) (hd : 1 ≤ d) (k : KR) (hx : ref07_names (fun y0 => k (.ref [1, 0]) [([1, 0], ⟨9, 1, (.data .str y0)⟩)]) = some true) : callK Try.prog ht d 37 [] [] k = some true := by
  obtain ⟨d, rfl⟩ : ∃ e, d = e + 1 := ⟨d - 1, by omega⟩
  exact fn_ok (c := codeOf Try.f37) Try.func37 (by kernel_rfl) (rec := ref07_names.calls) (fun g a h k hx => by
    cases hx) (loopf := ref07_names.loops) (by
    have e : loopsOf (ref07_names.loops) 0 (codeOf Try.f37) = [] := by kernel_rfl
    rw [e]
    intro p hp
    cases hp) ((ref07_names.eq k).trans hx)
theorem ref07_names.look (d : Nat) (hd : 1 ≤ d) {e : Option Bool} {g : FuncId} {a : List AV} {h : Heap} {k : KR} (hx : ref07_names.get ref07_names e g a h k = some true) : e = some true ∨ callK Try.prog ht d g a h k = some true := by
  unfold ref07_names.get at hx
  split at hx
  · exact .inr (ref07_names.ok d hd _ hx)
  · exact .inl hx
/-- function 26: sheerleg/sheerlegref07.Name -/
noncomputable def ref07_Name.body (ref07_names : ((List ByteArray) → Option Bool) → Option Bool) (n42 : Int) (k1 : ByteArray → Option Bool) : Option Bool :=
  (ref07_names
  (fun ss43 => (cond_ (! (decide (n42 < (1 : Int)))) (cond_ (decide (n42 > (((List.length ss43) : Nat) : Int))) (k1 (⟨#[]⟩ : ByteArray)) (cond_ ((decide ((0 : Int) ≤ (IntKind.wrap .i64 (n42 - (1 : Int))))) && (decide ((IntKind.wrap .i64 (n42 - (1 : Int))) < (((List.length ss43) : Nat) : Int)))) (k1 (List.getD ss43 (Int.toNat (IntKind.wrap .i64 (n42 - (1 : Int)))) (⟨#[]⟩ : ByteArray))) none)) (k1 (⟨#[]⟩ : ByteArray)))))
noncomputable def ref07_Name (n42 : Int) (k1 : ByteArray → Option Bool) : Option Bool := ref07_Name.body ref07_names n42 k1
noncomputable def ref07_Name.get (F : Int → (ByteArray → Option Bool) → Option Bool) (e : Option Bool) (g : FuncId) (a : List AV) (h : Heap) (k : KR) : Option Bool := match g, a, h with
  | 26, [(.d ⟨(.int .i64), n42⟩)], [] => F n42 (fun y0 => k (.d ⟨.str, y0⟩) [])
  | _, _, _ => e
noncomputable def ref07_Name.calls (F0 : ((List ByteArray) → Option Bool) → Option Bool) : RecF := fun g a h k => (ref07_names.get F0 none g a h k)
noncomputable def ref07_Name.loops : LoopF := fun b => none
set_option maxRecDepth 100000 in
theorem ref07_Name.eq (F0 : ((List ByteArray) → Option Bool) → Option Bool) (n42 : Int) (k : KR) : execL Try.prog ht 26 (callfOf (ref07_Name.calls F0)) (ref07_Name.loops) 0 (codeOf Try.f26) ⟨[(.d ⟨(.int .i64), n42⟩)] ++ List.replicate (Try.f26.ntmps - ([(.d ⟨(.int .i64), n42⟩)] : List AV).length) .undef, [], 2⟩ (leave Try.prog Try.f26 k) = ref07_Name.body F0 n42 (fun y0 => k (.d ⟨.str, y0⟩) []) := by kernel_rfl
theorem ref07_Name.ok (d : Nat) (hd : 2 ≤ d) (n42 : Int) (k : KR) (hx : ref07_Name n42 (fun y0 => k (.d ⟨.str, y0⟩) []) = some true) : callK Try.prog ht d 26 [(.d ⟨(.int .i64), n42⟩)] [] k = some true := by
  obtain ⟨d, rfl⟩ : ∃ e, d = e + 1 := ⟨d - 1, by omega⟩
  exact fn_ok (c := codeOf Try.f26) Try.func26 (by kernel_rfl) (rec := ref07_Name.calls ref07_names) (fun g a h k hx => by
    rcases ref07_names.look d (by omega) hx with hx | hx
    rotate_left
    · exact hx
    cases hx) (loopf := ref07_Name.loops) (by
    have e : loopsOf (ref07_Name.loops) 0 (codeOf Try.f26) = [] := by kernel_rfl
    rw [e]
    intro p hp
    cases hp) ((ref07_Name.eq ref07_names n42 k).trans hx)
theorem ref07_Name.look (d : Nat) (hd : 2 ≤ d) {e : Option Bool} {g : FuncId} {a : List AV} {h : Heap} {k : KR} (hx : ref07_Name.get ref07_Name e g a h k = some true) : e = some true ∨ callK Try.prog ht d g a h k = some true := by
  unfold ref07_Name.get at hx
  split at hx
  · exact .inr (ref07_Name.ok d hd _ _ hx)
  · exact .inl hx
/-- function 12: sheerleg/sheerlegref08.Operand -/
noncomputable def ref08_Operand.body (t47 : Tc1) (n48 : Int) (k1 : Int → Option Bool) : Option Bool :=
  (cond_ (n48 == (0 : Int)) (k1 t47.2.1) (cond_ (n48 == (1 : Int)) (k1 t47.2.2.1) (cond_ (n48 == (2 : Int)) (k1 t47.2.2.2.1) (cond_ (n48 == (3 : Int)) (k1 t47.2.2.2.2.1) (k1 (0 : Int))))))
noncomputable def ref08_Operand (t47 : Tc1) (n48 : Int) (k1 : Int → Option Bool) : Option Bool := ref08_Operand.body t47 n48 k1
noncomputable def ref08_Operand.get (F : Tc1 → Int → (Int → Option Bool) → Option Bool) (e : Option Bool) (g : FuncId) (a : List AV) (h : Heap) (k : KR) : Option Bool := match g, a, h with
  | 12, [(.d ⟨(.st [(.int .i64), (.int .i64), (.int .i64), (.int .i64), (.int .i64)]), t47⟩), (.d ⟨(.int .i64), n48⟩)], [] => F t47 n48 (fun y0 => k (.d ⟨(.int .i64), y0⟩) [])
  | _, _, _ => e
noncomputable def ref08_Operand.calls : RecF := fun g a h k => none
noncomputable def ref08_Operand.loops : LoopF := fun b => none
set_option maxRecDepth 100000 in
theorem ref08_Operand.eq (t47 : Tc1) (n48 : Int) (k : KR) : execL Try.prog ht 12 (callfOf (ref08_Operand.calls)) (ref08_Operand.loops) 0 (codeOf Try.f12) ⟨[(.d ⟨(.st [(.int .i64), (.int .i64), (.int .i64), (.int .i64), (.int .i64)]), t47⟩), (.d ⟨(.int .i64), n48⟩)] ++ List.replicate (Try.f12.ntmps - ([(.d ⟨(.st [(.int .i64), (.int .i64), (.int .i64), (.int .i64), (.int .i64)]), t47⟩), (.d ⟨(.int .i64), n48⟩)] : List AV).length) .undef, [], 2⟩ (leave Try.prog Try.f12 k) = ref08_Operand.body t47 n48 (fun y0 => k (.d ⟨(.int .i64), y0⟩) []) := by kernel_rfl
theorem ref08_Operand.ok (d : Nat) (hd : 1 ≤ d) (t47 : Tc1) (n48 : Int) (k : KR) (hx : ref08_Operand t47 n48 (fun y0 => k (.d ⟨(.int .i64), y0⟩) []) = some true) : callK Try.prog ht d 12 [(.d ⟨(.st [(.int .i64), (.int .i64), (.int .i64), (.int .i64), (.int .i64)]), t47⟩), (.d ⟨(.int .i64), n48⟩)] [] k = some true := by
  obtain ⟨d, rfl⟩ : ∃ e, d = e + 1 := ⟨d - 1, by omega⟩
  exact fn_ok (c := codeOf Try.f12) Try.func12 (by kernel_rfl) (rec := ref08_Operand.calls) (fun g a h k hx => by
    cases hx) (loopf := ref08_Operand.loops) (by
    have e : loopsOf (ref08_Operand.loops) 0 (codeOf Try.f12) = [] := by kernel_rfl
    rw [e]
    intro p hp
    cases hp) ((ref08_Operand.eq t47 n48 k).trans hx)
theorem ref08_Operand.look (d : Nat) (hd : 1 ≤ d) {e : Option Bool} {g : FuncId} {a : List AV} {h : Heap} {k : KR} (hx : ref08_Operand.get ref08_Operand e g a h k = some true) : e = some true ∨ callK Try.prog ht d g a h k = some true := by
  unfold ref08_Operand.get at hx
  split at hx
  · exact .inr (ref08_Operand.ok d hd _ _ _ hx)
  · exact .inl hx
/-- function 8: the loop in block 0 -/
noncomputable def ref08_Check_L0.body (ref08_Check_L0 : Int → Tc1 → (Int → Option Bool) → (Tc1 → Option Bool) → Option Bool) (ref08_Operand : Tc1 → Int → (Int → Option Bool) → Option Bool) (n45 : Int) (t46 : Tc1) (k1 : Int → Option Bool) (k2 : Tc1 → Option Bool) : Option Bool :=
  (cond_ (decide (n45 < (3 : Int))) (ref08_Operand t46 n45
  (fun n49 => (cond_ (! (decide (n49 < (0 : Int)))) (ref08_Operand t46 n45
  (fun n50 => (cond_ (decide (n50 > (255 : Int))) (k1 (9 : Int)) (ref08_Check_L0 (IntKind.wrap .i64 (n45 + (1 : Int))) t46 k1 k2)))) (k1 (9 : Int))))) (k2 t46))
noncomputable def ref08_Check_L0 : Nat → Int → Tc1 → (Int → Option Bool) → (Tc1 → Option Bool) → Option Bool
  | 0 => fun _ _ _ _ => none
  | n + 1 => ref08_Check_L0.body (ref08_Check_L0 n) ref08_Operand
noncomputable def ref08_Check_L0.get (F : Int → Tc1 → (Int → Option Bool) → (Tc1 → Option Bool) → Option Bool) (e : Option Bool) (st : St) (k : KE) : Option Bool := match st with
  | ⟨sl, hp, m⟩ => match Nat.beq m 2, pickS 51 [1, 3] sl, hp with
    | true, some [(.ptr [1, 0] 0 0), (.d ⟨(.int .i64), n45⟩)], [([1, 0], ⟨23, 5, (.data (.st [(.int .i64), (.int .i64), (.int .i64), (.int .i64), (.int .i64)]) [t46])⟩)] => F n45 t46 (fun y0 => k .ret ⟨fillS 51 [2] [(.d ⟨(.int .i64), y0⟩)], [], 2⟩) (fun y0 => k (.exit 0) ⟨fillS 51 [1] [(.ptr [1, 0] 0 0)], [([1, 0], ⟨23, 5, (.data (.st [(.int .i64), (.int .i64), (.int .i64), (.int .i64), (.int .i64)]) [y0])⟩)], 2⟩)
    | _, _, _ => e
noncomputable def ref08_Check_L0.calls (F0 : Tc1 → Int → (Int → Option Bool) → Option Bool) : RecF := fun g a h k => (ref08_Operand.get F0 none g a h k)
noncomputable def ref08_Check_L0.loops : LoopF := fun b => none
set_option maxRecDepth 100000 in
theorem ref08_Check_L0.step (S : Int → Tc1 → (Int → Option Bool) → (Tc1 → Option Bool) → Option Bool) (F0 : Tc1 → Int → (Int → Option Bool) → Option Bool) (n45 : Int) (t46 : Tc1) (k : KE) : execL Try.prog ht 8 (callfOf (ref08_Check_L0.calls F0)) (ref08_Check_L0.loops) 0 (loopAt 0 (codeOf Try.f8)) ⟨fillS 51 [1, 3] [(.ptr [1, 0] 0 0), (.d ⟨(.int .i64), n45⟩)], [([1, 0], ⟨23, 5, (.data (.st [(.int .i64), (.int .i64), (.int .i64), (.int .i64), (.int .i64)]) [t46])⟩)], 2⟩ (again (ref08_Check_L0.get S none) (plan Try.prog (ht 8 0)) k) = ref08_Check_L0.body S F0 n45 t46 (fun y0 => k .ret ⟨fillS 51 [2] [(.d ⟨(.int .i64), y0⟩)], [], 2⟩) (fun y0 => k (.exit 0) ⟨fillS 51 [1] [(.ptr [1, 0] 0 0)], [([1, 0], ⟨23, 5, (.data (.st [(.int .i64), (.int .i64), (.int .i64), (.int .i64), (.int .i64)]) [y0])⟩)], 2⟩) := by kernel_rfl
theorem ref08_Check_L0.ok (d : Nat) (hd : 1 ≤ d) : ∀ n st k, ref08_Check_L0.get (ref08_Check_L0 n) none st k = some true → iter n (plan Try.prog (ht 8 0)) (fun st k => execK Try.prog ht 8 (callfOf (callK Try.prog ht d)) 0 (loopAt 0 (codeOf Try.f8)) st k) st k = some true :=
  loop_ok (lfn := fun n st k => ref08_Check_L0.get (ref08_Check_L0 n) none st k) (rec := ref08_Check_L0.calls ref08_Operand) (fun g a h k hx => by
    rcases ref08_Operand.look d (by omega) hx with hx | hx
    rotate_left
    · exact hx
    cases hx) (loopf := ref08_Check_L0.loops) (by
    have e : loopsOf (ref08_Check_L0.loops) 0 (loopAt 0 (codeOf Try.f8)) = [] := by kernel_rfl
    rw [e]
    intro p hp
    cases hp) (fun st k h => by
    obtain ⟨sl, hp, m⟩ := st
    unfold ref08_Check_L0.get at h
    dsimp only at h
    split at h
    · have h' : (none : Option Bool) = some true := h
      cases h'
    · cases h) (fun n st k h => by
    obtain ⟨sl, hp, m⟩ := st
    unfold ref08_Check_L0.get at h
    dsimp only at h
    split at h
    · rename_i h1 h2
      obtain rfl := pickS_ok h2
      obtain rfl := Nat.eq_of_beq_eq_true h1
      exact (ref08_Check_L0.step (ref08_Check_L0 n) ref08_Operand _ _ k).trans h
    · cases h)
theorem ref08_Check_L0.look {F : Int → Tc1 → (Int → Option Bool) → (Tc1 → Option Bool) → Option Bool} {e : Option Bool} {st : St} {k : KE} (hx : ref08_Check_L0.get F e st k = some true) : e = some true ∨ ref08_Check_L0.get F none st k = some true := by
  obtain ⟨sl, hp, m⟩ := st
  unfold ref08_Check_L0.get at hx ⊢
  dsimp only at hx ⊢
  split at hx
  · exact .inr hx
  · exact .inl hx
/-- function 27: sheerleg/sheerlegref07.Shape -/
noncomputable def ref07_Shape.body (ref07_Name : Int → (ByteArray → Option Bool) → Option Bool) (n53 : Int) (k1 : ByteArray → Option Bool) : Option Bool :=
  (cond_ (decide (n53 ≥ (4 : Int))) (cond_ (decide (n53 ≤ (10 : Int))) (k1 (⟨#[119, 114, 114, 45]⟩ : ByteArray)) (ref07_Name n53
  (fun s54 => (cond_ ((ByteArray.toList s54) == (ByteArray.toList (⟨#[110, 111, 112]⟩ : ByteArray))) (k1 (⟨#[45, 45, 45, 45]⟩ : ByteArray)) (cond_ ((ByteArray.toList s54) == (ByteArray.toList (⟨#[115, 101, 116]⟩ : ByteArray))) (k1 (⟨#[119, 45, 45, 110]⟩ : ByteArray)) (cond_ ((ByteArray.toList s54) == (ByteArray.toList (⟨#[109, 111, 118, 101]⟩ : ByteArray))) (cond_ ((ByteArray.toList s54) == (ByteArray.toList (⟨#[109, 111, 118, 101]⟩ : ByteArray))) (k1 (⟨#[119, 114, 45, 45]⟩ : ByteArray)) (cond_ ((ByteArray.toList s54) == (ByteArray.toList (⟨#[106, 117, 109, 112]⟩ : ByteArray))) (k1 (⟨#[45, 45, 45, 116]⟩ : ByteArray)) (cond_ ((ByteArray.toList s54) == (ByteArray.toList (⟨#[122, 101, 114, 111]⟩ : ByteArray))) (k1 (⟨#[114, 45, 45, 116]⟩ : ByteArray)) (cond_ ((ByteArray.toList s54) == (ByteArray.toList (⟨#[105, 110]⟩ : ByteArray))) (k1 (⟨#[119, 45, 45, 45]⟩ : ByteArray)) (cond_ ((ByteArray.toList s54) == (ByteArray.toList (⟨#[111, 117, 116]⟩ : ByteArray))) (cond_ ((ByteArray.toList s54) == (ByteArray.toList (⟨#[111, 117, 116]⟩ : ByteArray))) (k1 (⟨#[114, 45, 45, 45]⟩ : ByteArray)) (cond_ ((ByteArray.toList s54) == (ByteArray.toList (⟨#[115, 116, 111, 114, 101]⟩ : ByteArray))) (k1 (⟨#[114, 114, 45, 45]⟩ : ByteArray)) (cond_ ((ByteArray.toList s54) == (ByteArray.toList (⟨#[102, 117, 110, 99]⟩ : ByteArray))) (k1 (⟨#[103, 45, 45, 45]⟩ : ByteArray)) (cond_ ((ByteArray.toList s54) == (ByteArray.toList (⟨#[112, 105, 99, 107]⟩ : ByteArray))) (k1 (⟨#[103, 114, 45, 45]⟩ : ByteArray)) (cond_ ((ByteArray.toList s54) == (ByteArray.toList (⟨#[99, 97, 108, 108]⟩ : ByteArray))) (k1 (⟨#[99, 45, 45, 45]⟩ : ByteArray)) (cond_ ((ByteArray.toList s54) == (ByteArray.toList (⟨#[118, 105, 97]⟩ : ByteArray))) (k1 (⟨#[99, 102, 107, 45]⟩ : ByteArray)) (cond_ ((ByteArray.toList s54) == (ByteArray.toList (⟨#[100, 101, 102, 101, 114]⟩ : ByteArray))) (k1 (⟨#[100, 45, 45, 45]⟩ : ByteArray)) (cond_ ((ByteArray.toList s54) == (ByteArray.toList (⟨#[114, 101, 99, 111, 118, 101, 114]⟩ : ByteArray))) (k1 (⟨#[119, 119, 45, 45]⟩ : ByteArray)) (cond_ ((ByteArray.toList s54) == (ByteArray.toList (⟨#[114, 101, 116, 117, 114, 110]⟩ : ByteArray))) (k1 (⟨#[118, 45, 45, 45]⟩ : ByteArray)) (k1 (⟨#[]⟩ : ByteArray))))))))))) (cond_ ((ByteArray.toList s54) == (ByteArray.toList (⟨#[112, 97, 110, 105, 99]⟩ : ByteArray))) (k1 (⟨#[114, 45, 45, 45]⟩ : ByteArray)) (cond_ ((ByteArray.toList s54) == (ByteArray.toList (⟨#[115, 116, 111, 114, 101]⟩ : ByteArray))) (k1 (⟨#[114, 114, 45, 45]⟩ : ByteArray)) (cond_ ((ByteArray.toList s54) == (ByteArray.toList (⟨#[102, 117, 110, 99]⟩ : ByteArray))) (k1 (⟨#[103, 45, 45, 45]⟩ : ByteArray)) (cond_ ((ByteArray.toList s54) == (ByteArray.toList (⟨#[112, 105, 99, 107]⟩ : ByteArray))) (k1 (⟨#[103, 114, 45, 45]⟩ : ByteArray)) (cond_ ((ByteArray.toList s54) == (ByteArray.toList (⟨#[99, 97, 108, 108]⟩ : ByteArray))) (k1 (⟨#[99, 45, 45, 45]⟩ : ByteArray)) (cond_ ((ByteArray.toList s54) == (ByteArray.toList (⟨#[118, 105, 97]⟩ : ByteArray))) (k1 (⟨#[99, 102, 107, 45]⟩ : ByteArray)) (cond_ ((ByteArray.toList s54) == (ByteArray.toList (⟨#[100, 101, 102, 101, 114]⟩ : ByteArray))) (k1 (⟨#[100, 45, 45, 45]⟩ : ByteArray)) (cond_ ((ByteArray.toList s54) == (ByteArray.toList (⟨#[114, 101, 99, 111, 118, 101, 114]⟩ : ByteArray))) (k1 (⟨#[119, 119, 45, 45]⟩ : ByteArray)) (cond_ ((ByteArray.toList s54) == (ByteArray.toList (⟨#[114, 101, 116, 117, 114, 110]⟩ : ByteArray))) (k1 (⟨#[118, 45, 45, 45]⟩ : ByteArray)) (k1 (⟨#[]⟩ : ByteArray)))))))))))))))) (cond_ ((ByteArray.toList s54) == (ByteArray.toList (⟨#[108, 111, 97, 100]⟩ : ByteArray))) (k1 (⟨#[119, 114, 45, 45]⟩ : ByteArray)) (cond_ ((ByteArray.toList s54) == (ByteArray.toList (⟨#[106, 117, 109, 112]⟩ : ByteArray))) (k1 (⟨#[45, 45, 45, 116]⟩ : ByteArray)) (cond_ ((ByteArray.toList s54) == (ByteArray.toList (⟨#[122, 101, 114, 111]⟩ : ByteArray))) (k1 (⟨#[114, 45, 45, 116]⟩ : ByteArray)) (cond_ ((ByteArray.toList s54) == (ByteArray.toList (⟨#[105, 110]⟩ : ByteArray))) (k1 (⟨#[119, 45, 45, 45]⟩ : ByteArray)) (cond_ ((ByteArray.toList s54) == (ByteArray.toList (⟨#[111, 117, 116]⟩ : ByteArray))) (cond_ ((ByteArray.toList s54) == (ByteArray.toList (⟨#[111, 117, 116]⟩ : ByteArray))) (k1 (⟨#[114, 45, 45, 45]⟩ : ByteArray)) (cond_ ((ByteArray.toList s54) == (ByteArray.toList (⟨#[115, 116, 111, 114, 101]⟩ : ByteArray))) (k1 (⟨#[114, 114, 45, 45]⟩ : ByteArray)) (cond_ ((ByteArray.toList s54) == (ByteArray.toList (⟨#[102, 117, 110, 99]⟩ : ByteArray))) (k1 (⟨#[103, 45, 45, 45]⟩ : ByteArray)) (cond_ ((ByteArray.toList s54) == (ByteArray.toList (⟨#[112, 105, 99, 107]⟩ : ByteArray))) (k1 (⟨#[103, 114, 45, 45]⟩ : ByteArray)) (cond_ ((ByteArray.toList s54) == (ByteArray.toList (⟨#[99, 97, 108, 108]⟩ : ByteArray))) (k1 (⟨#[99, 45, 45, 45]⟩ : ByteArray)) (cond_ ((ByteArray.toList s54) == (ByteArray.toList (⟨#[118, 105, 97]⟩ : ByteArray))) (k1 (⟨#[99, 102, 107, 45]⟩ : ByteArray)) (cond_ ((ByteArray.toList s54) == (ByteArray.toList (⟨#[100, 101, 102, 101, 114]⟩ : ByteArray))) (k1 (⟨#[100, 45, 45, 45]⟩ : ByteArray)) (cond_ ((ByteArray.toList s54) == (ByteArray.toList (⟨#[114, 101, 99, 111, 118, 101, 114]⟩ : ByteArray))) (k1 (⟨#[119, 119, 45, 45]⟩ : ByteArray)) (cond_ ((ByteArray.toList s54) == (ByteArray.toList (⟨#[114, 101, 116, 117, 114, 110]⟩ : ByteArray))) (k1 (⟨#[118, 45, 45, 45]⟩ : ByteArray)) (k1 (⟨#[]⟩ : ByteArray))))))))))) (cond_ ((ByteArray.toList s54) == (ByteArray.toList (⟨#[112, 97, 110, 105, 99]⟩ : ByteArray))) (k1 (⟨#[114, 45, 45, 45]⟩ : ByteArray)) (cond_ ((ByteArray.toList s54) == (ByteArray.toList (⟨#[115, 116, 111, 114, 101]⟩ : ByteArray))) (k1 (⟨#[114, 114, 45, 45]⟩ : ByteArray)) (cond_ ((ByteArray.toList s54) == (ByteArray.toList (⟨#[102, 117, 110, 99]⟩ : ByteArray))) (k1 (⟨#[103, 45, 45, 45]⟩ : ByteArray)) (cond_ ((ByteArray.toList s54) == (ByteArray.toList (⟨#[112, 105, 99, 107]⟩ : ByteArray))) (k1 (⟨#[103, 114, 45, 45]⟩ : ByteArray)) (cond_ ((ByteArray.toList s54) == (ByteArray.toList (⟨#[99, 97, 108, 108]⟩ : ByteArray))) (k1 (⟨#[99, 45, 45, 45]⟩ : ByteArray)) (cond_ ((ByteArray.toList s54) == (ByteArray.toList (⟨#[118, 105, 97]⟩ : ByteArray))) (k1 (⟨#[99, 102, 107, 45]⟩ : ByteArray)) (cond_ ((ByteArray.toList s54) == (ByteArray.toList (⟨#[100, 101, 102, 101, 114]⟩ : ByteArray))) (k1 (⟨#[100, 45, 45, 45]⟩ : ByteArray)) (cond_ ((ByteArray.toList s54) == (ByteArray.toList (⟨#[114, 101, 99, 111, 118, 101, 114]⟩ : ByteArray))) (k1 (⟨#[119, 119, 45, 45]⟩ : ByteArray)) (cond_ ((ByteArray.toList s54) == (ByteArray.toList (⟨#[114, 101, 116, 117, 114, 110]⟩ : ByteArray))) (k1 (⟨#[118, 45, 45, 45]⟩ : ByteArray)) (k1 (⟨#[]⟩ : ByteArray)))))))))))))))))))))) (ref07_Name n53
  (fun s55 => (cond_ ((ByteArray.toList s55) == (ByteArray.toList (⟨#[110, 111, 112]⟩ : ByteArray))) (k1 (⟨#[45, 45, 45, 45]⟩ : ByteArray)) (cond_ ((ByteArray.toList s55) == (ByteArray.toList (⟨#[115, 101, 116]⟩ : ByteArray))) (k1 (⟨#[119, 45, 45, 110]⟩ : ByteArray)) (cond_ ((ByteArray.toList s55) == (ByteArray.toList (⟨#[109, 111, 118, 101]⟩ : ByteArray))) (cond_ ((ByteArray.toList s55) == (ByteArray.toList (⟨#[109, 111, 118, 101]⟩ : ByteArray))) (k1 (⟨#[119, 114, 45, 45]⟩ : ByteArray)) (cond_ ((ByteArray.toList s55) == (ByteArray.toList (⟨#[106, 117, 109, 112]⟩ : ByteArray))) (k1 (⟨#[45, 45, 45, 116]⟩ : ByteArray)) (cond_ ((ByteArray.toList s55) == (ByteArray.toList (⟨#[122, 101, 114, 111]⟩ : ByteArray))) (k1 (⟨#[114, 45, 45, 116]⟩ : ByteArray)) (cond_ ((ByteArray.toList s55) == (ByteArray.toList (⟨#[105, 110]⟩ : ByteArray))) (k1 (⟨#[119, 45, 45, 45]⟩ : ByteArray)) (cond_ ((ByteArray.toList s55) == (ByteArray.toList (⟨#[111, 117, 116]⟩ : ByteArray))) (cond_ ((ByteArray.toList s55) == (ByteArray.toList (⟨#[111, 117, 116]⟩ : ByteArray))) (k1 (⟨#[114, 45, 45, 45]⟩ : ByteArray)) (cond_ ((ByteArray.toList s55) == (ByteArray.toList (⟨#[115, 116, 111, 114, 101]⟩ : ByteArray))) (k1 (⟨#[114, 114, 45, 45]⟩ : ByteArray)) (cond_ ((ByteArray.toList s55) == (ByteArray.toList (⟨#[102, 117, 110, 99]⟩ : ByteArray))) (k1 (⟨#[103, 45, 45, 45]⟩ : ByteArray)) (cond_ ((ByteArray.toList s55) == (ByteArray.toList (⟨#[112, 105, 99, 107]⟩ : ByteArray))) (k1 (⟨#[103, 114, 45, 45]⟩ : ByteArray)) (cond_ ((ByteArray.toList s55) == (ByteArray.toList (⟨#[99, 97, 108, 108]⟩ : ByteArray))) (k1 (⟨#[99, 45, 45, 45]⟩ : ByteArray)) (cond_ ((ByteArray.toList s55) == (ByteArray.toList (⟨#[118, 105, 97]⟩ : ByteArray))) (k1 (⟨#[99, 102, 107, 45]⟩ : ByteArray)) (cond_ ((ByteArray.toList s55) == (ByteArray.toList (⟨#[100, 101, 102, 101, 114]⟩ : ByteArray))) (k1 (⟨#[100, 45, 45, 45]⟩ : ByteArray)) (cond_ ((ByteArray.toList s55) == (ByteArray.toList (⟨#[114, 101, 99, 111, 118, 101, 114]⟩ : ByteArray))) (k1 (⟨#[119, 119, 45, 45]⟩ : ByteArray)) (cond_ ((ByteArray.toList s55) == (ByteArray.toList (⟨#[114, 101, 116, 117, 114, 110]⟩ : ByteArray))) (k1 (⟨#[118, 45, 45, 45]⟩ : ByteArray)) (k1 (⟨#[]⟩ : ByteArray))))))))))) (cond_ ((ByteArray.toList s55) == (ByteArray.toList (⟨#[112, 97, 110, 105, 99]⟩ : ByteArray))) (k1 (⟨#[114, 45, 45, 45]⟩ : ByteArray)) (cond_ ((ByteArray.toList s55) == (ByteArray.toList (⟨#[115, 116, 111, 114, 101]⟩ : ByteArray))) (k1 (⟨#[114, 114, 45, 45]⟩ : ByteArray)) (cond_ ((ByteArray.toList s55) == (ByteArray.toList (⟨#[102, 117, 110, 99]⟩ : ByteArray))) (k1 (⟨#[103, 45, 45, 45]⟩ : ByteArray)) (cond_ ((ByteArray.toList s55) == (ByteArray.toList (⟨#[112, 105, 99, 107]⟩ : ByteArray))) (k1 (⟨#[103, 114, 45, 45]⟩ : ByteArray)) (cond_ ((ByteArray.toList s55) == (ByteArray.toList (⟨#[99, 97, 108, 108]⟩ : ByteArray))) (k1 (⟨#[99, 45, 45, 45]⟩ : ByteArray)) (cond_ ((ByteArray.toList s55) == (ByteArray.toList (⟨#[118, 105, 97]⟩ : ByteArray))) (k1 (⟨#[99, 102, 107, 45]⟩ : ByteArray)) (cond_ ((ByteArray.toList s55) == (ByteArray.toList (⟨#[100, 101, 102, 101, 114]⟩ : ByteArray))) (k1 (⟨#[100, 45, 45, 45]⟩ : ByteArray)) (cond_ ((ByteArray.toList s55) == (ByteArray.toList (⟨#[114, 101, 99, 111, 118, 101, 114]⟩ : ByteArray))) (k1 (⟨#[119, 119, 45, 45]⟩ : ByteArray)) (cond_ ((ByteArray.toList s55) == (ByteArray.toList (⟨#[114, 101, 116, 117, 114, 110]⟩ : ByteArray))) (k1 (⟨#[118, 45, 45, 45]⟩ : ByteArray)) (k1 (⟨#[]⟩ : ByteArray)))))))))))))))) (cond_ ((ByteArray.toList s55) == (ByteArray.toList (⟨#[108, 111, 97, 100]⟩ : ByteArray))) (k1 (⟨#[119, 114, 45, 45]⟩ : ByteArray)) (cond_ ((ByteArray.toList s55) == (ByteArray.toList (⟨#[106, 117, 109, 112]⟩ : ByteArray))) (k1 (⟨#[45, 45, 45, 116]⟩ : ByteArray)) (cond_ ((ByteArray.toList s55) == (ByteArray.toList (⟨#[122, 101, 114, 111]⟩ : ByteArray))) (k1 (⟨#[114, 45, 45, 116]⟩ : ByteArray)) (cond_ ((ByteArray.toList s55) == (ByteArray.toList (⟨#[105, 110]⟩ : ByteArray))) (k1 (⟨#[119, 45, 45, 45]⟩ : ByteArray)) (cond_ ((ByteArray.toList s55) == (ByteArray.toList (⟨#[111, 117, 116]⟩ : ByteArray))) (cond_ ((ByteArray.toList s55) == (ByteArray.toList (⟨#[111, 117, 116]⟩ : ByteArray))) (k1 (⟨#[114, 45, 45, 45]⟩ : ByteArray)) (cond_ ((ByteArray.toList s55) == (ByteArray.toList (⟨#[115, 116, 111, 114, 101]⟩ : ByteArray))) (k1 (⟨#[114, 114, 45, 45]⟩ : ByteArray)) (cond_ ((ByteArray.toList s55) == (ByteArray.toList (⟨#[102, 117, 110, 99]⟩ : ByteArray))) (k1 (⟨#[103, 45, 45, 45]⟩ : ByteArray)) (cond_ ((ByteArray.toList s55) == (ByteArray.toList (⟨#[112, 105, 99, 107]⟩ : ByteArray))) (k1 (⟨#[103, 114, 45, 45]⟩ : ByteArray)) (cond_ ((ByteArray.toList s55) == (ByteArray.toList (⟨#[99, 97, 108, 108]⟩ : ByteArray))) (k1 (⟨#[99, 45, 45, 45]⟩ : ByteArray)) (cond_ ((ByteArray.toList s55) == (ByteArray.toList (⟨#[118, 105, 97]⟩ : ByteArray))) (k1 (⟨#[99, 102, 107, 45]⟩ : ByteArray)) (cond_ ((ByteArray.toList s55) == (ByteArray.toList (⟨#[100, 101, 102, 101, 114]⟩ : ByteArray))) (k1 (⟨#[100, 45, 45, 45]⟩ : ByteArray)) (cond_ ((ByteArray.toList s55) == (ByteArray.toList (⟨#[114, 101, 99, 111, 118, 101, 114]⟩ : ByteArray))) (k1 (⟨#[119, 119, 45, 45]⟩ : ByteArray)) (cond_ ((ByteArray.toList s55) == (ByteArray.toList (⟨#[114, 101, 116, 117, 114, 110]⟩ : ByteArray))) (k1 (⟨#[118, 45, 45, 45]⟩ : ByteArray)) (k1 (⟨#[]⟩ : ByteArray))))))))))) (cond_ ((ByteArray.toList s55) == (ByteArray.toList (⟨#[112, 97, 110, 105, 99]⟩ : ByteArray))) (k1 (⟨#[114, 45, 45, 45]⟩ : ByteArray)) (cond_ ((ByteArray.toList s55) == (ByteArray.toList (⟨#[115, 116, 111, 114, 101]⟩ : ByteArray))) (k1 (⟨#[114, 114, 45, 45]⟩ : ByteArray)) (cond_ ((ByteArray.toList s55) == (ByteArray.toList (⟨#[102, 117, 110, 99]⟩ : ByteArray))) (k1 (⟨#[103, 45, 45, 45]⟩ : ByteArray)) (cond_ ((ByteArray.toList s55) == (ByteArray.toList (⟨#[112, 105, 99, 107]⟩ : ByteArray))) (k1 (⟨#[103, 114, 45, 45]⟩ : ByteArray)) (cond_ ((ByteArray.toList s55) == (ByteArray.toList (⟨#[99, 97, 108, 108]⟩ : ByteArray))) (k1 (⟨#[99, 45, 45, 45]⟩ : ByteArray)) (cond_ ((ByteArray.toList s55) == (ByteArray.toList (⟨#[118, 105, 97]⟩ : ByteArray))) (k1 (⟨#[99, 102, 107, 45]⟩ : ByteArray)) (cond_ ((ByteArray.toList s55) == (ByteArray.toList (⟨#[100, 101, 102, 101, 114]⟩ : ByteArray))) (k1 (⟨#[100, 45, 45, 45]⟩ : ByteArray)) (cond_ ((ByteArray.toList s55) == (ByteArray.toList (⟨#[114, 101, 99, 111, 118, 101, 114]⟩ : ByteArray))) (k1 (⟨#[119, 119, 45, 45]⟩ : ByteArray)) (cond_ ((ByteArray.toList s55) == (ByteArray.toList (⟨#[114, 101, 116, 117, 114, 110]⟩ : ByteArray))) (k1 (⟨#[118, 45, 45, 45]⟩ : ByteArray)) (k1 (⟨#[]⟩ : ByteArray))))))))))))))))))))))
noncomputable def ref07_Shape (n53 : Int) (k1 : ByteArray → Option Bool) : Option Bool := ref07_Shape.body ref07_Name n53 k1
noncomputable def ref07_Shape.get (F : Int → (ByteArray → Option Bool) → Option Bool) (e : Option Bool) (g : FuncId) (a : List AV) (h : Heap) (k : KR) : Option Bool := match g, a, h with
  | 27, [(.d ⟨(.int .i64), n53⟩)], [] => F n53 (fun y0 => k (.d ⟨.str, y0⟩) [])
  | _, _, _ => e
noncomputable def ref07_Shape.calls (F0 : Int → (ByteArray → Option Bool) → Option Bool) : RecF := fun g a h k => (ref07_Name.get F0 none g a h k)
noncomputable def ref07_Shape.loops : LoopF := fun b => none
set_option maxRecDepth 100000 in
theorem ref07_Shape.eq (F0 : Int → (ByteArray → Option Bool) → Option Bool) (n53 : Int) (k : KR) : execL Try.prog ht 27 (callfOf (ref07_Shape.calls F0)) (ref07_Shape.loops) 0 (codeOf Try.f27) ⟨[(.d ⟨(.int .i64), n53⟩)] ++ List.replicate (Try.f27.ntmps - ([(.d ⟨(.int .i64), n53⟩)] : List AV).length) .undef, [], 2⟩ (leave Try.prog Try.f27 k) = ref07_Shape.body F0 n53 (fun y0 => k (.d ⟨.str, y0⟩) []) := by kernel_rfl
theorem ref07_Shape.ok (d : Nat) (hd : 3 ≤ d) (n53 : Int) (k : KR) (hx : ref07_Shape n53 (fun y0 => k (.d ⟨.str, y0⟩) []) = some true) : callK Try.prog ht d 27 [(.d ⟨(.int .i64), n53⟩)] [] k = some true := by
  obtain ⟨d, rfl⟩ : ∃ e, d = e + 1 := ⟨d - 1, by omega⟩
  exact fn_ok (c := codeOf Try.f27) Try.func27 (by kernel_rfl) (rec := ref07_Shape.calls ref07_Name) (fun g a h k hx => by
    rcases ref07_Name.look d (by omega) hx with hx | hx
    rotate_left
    · exact hx
    cases hx) (loopf := ref07_Shape.loops) (by
    have e : loopsOf (ref07_Shape.loops) 0 (codeOf Try.f27) = [] := by kernel_rfl
    rw [e]
    intro p hp
    cases hp) ((ref07_Shape.eq ref07_Name n53 k).trans hx)
theorem ref07_Shape.look (d : Nat) (hd : 3 ≤ d) {e : Option Bool} {g : FuncId} {a : List AV} {h : Heap} {k : KR} (hx : ref07_Shape.get ref07_Shape e g a h k = some true) : e = some true ∨ callK Try.prog ht d g a h k = some true := by
  unfold ref07_Shape.get at hx
  split at hx
  · exact .inr (ref07_Shape.ok d hd _ _ hx)
  · exact .inl hx
/-- function 8: the loop in block 2 -/
noncomputable def ref08_Check_L2.body (ref08_Check_L2 : ByteArray → Int → Tc1 → (Int → Option Bool) → (Option Bool) → Option Bool) (ref08_Operand : Tc1 → Int → (Int → Option Bool) → Option Bool) (s57 : ByteArray) (n58 : Int) (t59 : Tc1) (k1 : Int → Option Bool) (k2 : Option Bool) : Option Bool :=
  (cond_ (decide (n58 < (((ByteArray.size s57) : Nat) : Int))) (cond_ ((decide ((0 : Int) ≤ n58)) && (decide (n58 < (((ByteArray.size s57) : Nat) : Int)))) (cond_ ((((UInt8.toNat (List.getD (Array.toList (ByteArray.data s57)) (Int.toNat n58) (0 : UInt8))) : Nat) : Int) == (45 : Int)) (ref08_Operand t59 n58
  (fun n60 => (cond_ (n60 != (0 : Int)) (k1 (2 : Int)) (ref08_Check_L2 s57 (IntKind.wrap .i64 (n58 + (1 : Int))) t59 k1 k2)))) (ref08_Check_L2 s57 (IntKind.wrap .i64 (n58 + (1 : Int))) t59 k1 k2)) none) (k2))
noncomputable def ref08_Check_L2 : Nat → ByteArray → Int → Tc1 → (Int → Option Bool) → (Option Bool) → Option Bool
  | 0 => fun _ _ _ _ _ => none
  | n + 1 => ref08_Check_L2.body (ref08_Check_L2 n) ref08_Operand
noncomputable def ref08_Check_L2.get (F : ByteArray → Int → Tc1 → (Int → Option Bool) → (Option Bool) → Option Bool) (e : Option Bool) (st : St) (k : KE) : Option Bool := match st with
  | ⟨sl, hp, m⟩ => match Nat.beq m 2, pickS 51 [1, 4, 5] sl, hp with
    | true, some [(.ptr [1, 0] 0 0), (.d ⟨.str, s57⟩), (.d ⟨(.int .i64), n58⟩)], [([1, 0], ⟨23, 5, (.data (.st [(.int .i64), (.int .i64), (.int .i64), (.int .i64), (.int .i64)]) [t59])⟩)] => F s57 n58 t59 (fun y0 => k .ret ⟨fillS 51 [2] [(.d ⟨(.int .i64), y0⟩)], [], 2⟩) (k (.exit 2) ⟨fillS 51 [] [], [], 2⟩)
    | _, _, _ => e
noncomputable def ref08_Check_L2.calls (F0 : Tc1 → Int → (Int → Option Bool) → Option Bool) : RecF := fun g a h k => (ref08_Operand.get F0 none g a h k)
noncomputable def ref08_Check_L2.loops : LoopF := fun b => none
set_option maxRecDepth 100000 in
theorem ref08_Check_L2.step (S : ByteArray → Int → Tc1 → (Int → Option Bool) → (Option Bool) → Option Bool) (F0 : Tc1 → Int → (Int → Option Bool) → Option Bool) (s57 : ByteArray) (n58 : Int) (t59 : Tc1) (k : KE) : execL Try.prog ht 8 (callfOf (ref08_Check_L2.calls F0)) (ref08_Check_L2.loops) 2 (loopAt 2 (codeOf Try.f8)) ⟨fillS 51 [1, 4, 5] [(.ptr [1, 0] 0 0), (.d ⟨.str, s57⟩), (.d ⟨(.int .i64), n58⟩)], [([1, 0], ⟨23, 5, (.data (.st [(.int .i64), (.int .i64), (.int .i64), (.int .i64), (.int .i64)]) [t59])⟩)], 2⟩ (again (ref08_Check_L2.get S none) (plan Try.prog (ht 8 2)) k) = ref08_Check_L2.body S F0 s57 n58 t59 (fun y0 => k .ret ⟨fillS 51 [2] [(.d ⟨(.int .i64), y0⟩)], [], 2⟩) (k (.exit 2) ⟨fillS 51 [] [], [], 2⟩) := by kernel_rfl
theorem ref08_Check_L2.ok (d : Nat) (hd : 1 ≤ d) : ∀ n st k, ref08_Check_L2.get (ref08_Check_L2 n) none st k = some true → iter n (plan Try.prog (ht 8 2)) (fun st k => execK Try.prog ht 8 (callfOf (callK Try.prog ht d)) 2 (loopAt 2 (codeOf Try.f8)) st k) st k = some true :=
  loop_ok (lfn := fun n st k => ref08_Check_L2.get (ref08_Check_L2 n) none st k) (rec := ref08_Check_L2.calls ref08_Operand) (fun g a h k hx => by
    rcases ref08_Operand.look d (by omega) hx with hx | hx
    rotate_left
    · exact hx
    cases hx) (loopf := ref08_Check_L2.loops) (by
    have e : loopsOf (ref08_Check_L2.loops) 2 (loopAt 2 (codeOf Try.f8)) = [] := by kernel_rfl
    rw [e]
    intro p hp
    cases hp) (fun st k h => by
    obtain ⟨sl, hp, m⟩ := st
    unfold ref08_Check_L2.get at h
    dsimp only at h
    split at h
    · have h' : (none : Option Bool) = some true := h
      cases h'
    · cases h) (fun n st k h => by
    obtain ⟨sl, hp, m⟩ := st
    unfold ref08_Check_L2.get at h
    dsimp only at h
    split at h
    · rename_i h1 h2
      obtain rfl := pickS_ok h2
      obtain rfl := Nat.eq_of_beq_eq_true h1
      exact (ref08_Check_L2.step (ref08_Check_L2 n) ref08_Operand _ _ _ k).trans h
    · cases h)
theorem ref08_Check_L2.look {F : ByteArray → Int → Tc1 → (Int → Option Bool) → (Option Bool) → Option Bool} {e : Option Bool} {st : St} {k : KE} (hx : ref08_Check_L2.get F e st k = some true) : e = some true ∨ ref08_Check_L2.get F none st k = some true := by
  obtain ⟨sl, hp, m⟩ := st
  unfold ref08_Check_L2.get at hx ⊢
  dsimp only at hx ⊢
  split at hx
  · exact .inr hx
  · exact .inl hx
/-- function 8: sheerleg/sheerlegref08.Check -/
noncomputable def ref08_Check.body (ref07_Name : Int → (ByteArray → Option Bool) → Option Bool) (ref07_Shape : Int → (ByteArray → Option Bool) → Option Bool) (ref08_Check_L0 : Int → Tc1 → (Int → Option Bool) → (Tc1 → Option Bool) → Option Bool) (ref08_Check_L2 : ByteArray → Int → Tc1 → (Int → Option Bool) → (Option Bool) → Option Bool) (t41 : Tc1) (k1 : Int → Option Bool) : Option Bool :=
  (ref07_Name t41.1
  (fun s44 => (cond_ ((ByteArray.toList s44) == (ByteArray.toList (⟨#[]⟩ : ByteArray))) (k1 (8 : Int)) (ref08_Check_L0 (0 : Int) t41
  (fun n51 => (k1 n51))
  (fun t52 => (cond_ (! (decide (t52.2.2.2.2.1 < (-2147483648 : Int)))) (cond_ (decide (t52.2.2.2.2.1 > (2147483647 : Int))) (k1 (9 : Int)) (ref07_Shape t52.1
  (fun s56 => (ref08_Check_L2 s56 (0 : Int) t52
  (fun n61 => (k1 n61))
  (k1 (0 : Int)))))) (k1 (9 : Int))))))))
noncomputable def ref08_Check (t41 : Tc1) (k1 : Int → Option Bool) : Option Bool := ref08_Check.body ref07_Name ref07_Shape (ref08_Check_L0 ROUNDS) (ref08_Check_L2 ROUNDS) t41 k1
noncomputable def ref08_Check.get (F : Tc1 → (Int → Option Bool) → Option Bool) (e : Option Bool) (g : FuncId) (a : List AV) (h : Heap) (k : KR) : Option Bool := match g, a, h with
  | 8, [(.d ⟨(.st [(.int .i64), (.int .i64), (.int .i64), (.int .i64), (.int .i64)]), t41⟩)], [] => F t41 (fun y0 => k (.d ⟨(.int .i64), y0⟩) [])
  | _, _, _ => e
noncomputable def ref08_Check.calls (F0 : Int → (ByteArray → Option Bool) → Option Bool) (F1 : Int → (ByteArray → Option Bool) → Option Bool) : RecF := fun g a h k => (ref07_Name.get F0 (ref07_Shape.get F1 none g a h k) g a h k)
noncomputable def ref08_Check.loops (L0 : Int → Tc1 → (Int → Option Bool) → (Tc1 → Option Bool) → Option Bool) (L1 : ByteArray → Int → Tc1 → (Int → Option Bool) → (Option Bool) → Option Bool) : LoopF := fun b => match Nat.beq b 0 with | true => some (fun st k => (ref08_Check_L0.get L0 none st k)) | false => match Nat.beq b 2 with | true => some (fun st k => (ref08_Check_L2.get L1 none st k)) | false => none
set_option maxRecDepth 100000 in
theorem ref08_Check.eq (F0 : Int → (ByteArray → Option Bool) → Option Bool) (F1 : Int → (ByteArray → Option Bool) → Option Bool) (L0 : Int → Tc1 → (Int → Option Bool) → (Tc1 → Option Bool) → Option Bool) (L1 : ByteArray → Int → Tc1 → (Int → Option Bool) → (Option Bool) → Option Bool) (t41 : Tc1) (k : KR) : execL Try.prog ht 8 (callfOf (ref08_Check.calls F0 F1)) (ref08_Check.loops L0 L1) 0 (codeOf Try.f8) ⟨[(.d ⟨(.st [(.int .i64), (.int .i64), (.int .i64), (.int .i64), (.int .i64)]), t41⟩)] ++ List.replicate (Try.f8.ntmps - ([(.d ⟨(.st [(.int .i64), (.int .i64), (.int .i64), (.int .i64), (.int .i64)]), t41⟩)] : List AV).length) .undef, [], 2⟩ (leave Try.prog Try.f8 k) = ref08_Check.body F0 F1 L0 L1 t41 (fun y0 => k (.d ⟨(.int .i64), y0⟩) []) := by kernel_rfl
theorem ref08_Check.ok (d : Nat) (hd : 4 ≤ d) (t41 : Tc1) (k : KR) (hx : ref08_Check t41 (fun y0 => k (.d ⟨(.int .i64), y0⟩) []) = some true) : callK Try.prog ht d 8 [(.d ⟨(.st [(.int .i64), (.int .i64), (.int .i64), (.int .i64), (.int .i64)]), t41⟩)] [] k = some true := by
  obtain ⟨d, rfl⟩ : ∃ e, d = e + 1 := ⟨d - 1, by omega⟩
  exact fn_ok (c := codeOf Try.f8) Try.func8 (by kernel_rfl) (rec := ref08_Check.calls ref07_Name ref07_Shape) (fun g a h k hx => by
    rcases ref07_Name.look d (by omega) hx with hx | hx
    rotate_left
    · exact hx
    rcases ref07_Shape.look d (by omega) hx with hx | hx
    rotate_left
    · exact hx
    cases hx) (loopf := ref08_Check.loops (ref08_Check_L0 ROUNDS) (ref08_Check_L2 ROUNDS)) (by
    have e : loopsOf (ref08_Check.loops (ref08_Check_L0 ROUNDS) (ref08_Check_L2 ROUNDS)) 0 (codeOf Try.f8) = [(0, loopAt 0 (codeOf Try.f8)), (2, loopAt 2 (codeOf Try.f8))] := by kernel_rfl
    rw [e]
    intro p hp
    simp only [List.mem_cons, List.not_mem_nil, or_false] at hp
    rcases hp with rfl | rfl
    · refine loopRef_of (callf := callfOf (callK Try.prog ht d)) (callfOf_ref (callK_mono d)) fun lf st k hb hx => ?_
      cases hb
      rcases ref08_Check_L0.look hx with hx | hx
      rotate_left
      · exact ref08_Check_L0.ok d (by omega) _ _ _ hx
      cases hx
    · refine loopRef_of (callf := callfOf (callK Try.prog ht d)) (callfOf_ref (callK_mono d)) fun lf st k hb hx => ?_
      cases hb
      rcases ref08_Check_L2.look hx with hx | hx
      rotate_left
      · exact ref08_Check_L2.ok d (by omega) _ _ _ hx
      cases hx) ((ref08_Check.eq ref07_Name ref07_Shape (ref08_Check_L0 ROUNDS) (ref08_Check_L2 ROUNDS) t41 k).trans hx)
theorem ref08_Check.look (d : Nat) (hd : 4 ≤ d) {e : Option Bool} {g : FuncId} {a : List AV} {h : Heap} {k : KR} (hx : ref08_Check.get ref08_Check e g a h k = some true) : e = some true ∨ callK Try.prog ht d g a h k = some true := by
  unfold ref08_Check.get at hx
  split at hx
  · exact .inr (ref08_Check.ok d hd _ _ hx)
  · exact .inl hx
/-- function 29: the loop in block 2 -/
noncomputable def ref02_Put_L0_L2.body (ref02_Put_L0_L2 : Int → Int → Int → Int → (List Int) → (Int → Int → Int → (List Int) → Option Bool) → Option Bool) (n145 : Int) (n146 : Int) (n147 : Int) (n148 : Int) (ns149 : List Int) (k1 : Int → Int → Int → (List Int) → Option Bool) : Option Bool :=
  (cond_ (decide (n148 < n146)) (ref02_Put_L0_L2 n145 n146 (IntKind.wrap .u64 (Int.tdiv n147 (256 : Int))) (IntKind.wrap .i64 (n148 + (1 : Int))) ns149 k1) (k1 n145 n146 n147 ns149))
noncomputable def ref02_Put_L0_L2 : Nat → Int → Int → Int → Int → (List Int) → (Int → Int → Int → (List Int) → Option Bool) → Option Bool
  | 0 => fun _ _ _ _ _ _ => none
  | n + 1 => ref02_Put_L0_L2.body (ref02_Put_L0_L2 n)
noncomputable def ref02_Put_L0_L2.get (F : Int → Int → Int → Int → (List Int) → (Int → Int → Int → (List Int) → Option Bool) → Option Bool) (e : Option Bool) (st : St) (k : KE) : Option Bool := match st with
  | ⟨sl, hp, m⟩ => match Nat.beq m 2, pickS 45 [7, 8, 9, 10, 11] sl, hp with
    | true, some [(.ref [1, 0]), (.d ⟨(.int .u64), n145⟩), (.d ⟨(.int .i64), n146⟩), (.d ⟨(.int .u64), n147⟩), (.d ⟨(.int .i64), n148⟩)], [([1, 0], ⟨5, 1, (.data (.int .u8) ns149)⟩)] => F n145 n146 n147 n148 ns149 (fun y0 y1 y2 y3 => k (.exit 2) ⟨fillS 45 [7, 8, 9, 10] [(.ref [1, 0]), (.d ⟨(.int .u64), y0⟩), (.d ⟨(.int .i64), y1⟩), (.d ⟨(.int .u64), y2⟩)], [([1, 0], ⟨5, 1, (.data (.int .u8) y3)⟩)], 2⟩)
    | _, _, _ => e
noncomputable def ref02_Put_L0_L2.calls : RecF := fun g a h k => none
noncomputable def ref02_Put_L0_L2.loops : LoopF := fun b => none
set_option maxRecDepth 100000 in
theorem ref02_Put_L0_L2.step (S : Int → Int → Int → Int → (List Int) → (Int → Int → Int → (List Int) → Option Bool) → Option Bool) (n145 : Int) (n146 : Int) (n147 : Int) (n148 : Int) (ns149 : List Int) (k : KE) : execL Try.prog ht 29 (callfOf (ref02_Put_L0_L2.calls)) (ref02_Put_L0_L2.loops) 2 (loopAt 2 (codeOf Try.f29)) ⟨fillS 45 [7, 8, 9, 10, 11] [(.ref [1, 0]), (.d ⟨(.int .u64), n145⟩), (.d ⟨(.int .i64), n146⟩), (.d ⟨(.int .u64), n147⟩), (.d ⟨(.int .i64), n148⟩)], [([1, 0], ⟨5, 1, (.data (.int .u8) ns149)⟩)], 2⟩ (again (ref02_Put_L0_L2.get S none) (plan Try.prog (ht 29 2)) k) = ref02_Put_L0_L2.body S n145 n146 n147 n148 ns149 (fun y0 y1 y2 y3 => k (.exit 2) ⟨fillS 45 [7, 8, 9, 10] [(.ref [1, 0]), (.d ⟨(.int .u64), y0⟩), (.d ⟨(.int .i64), y1⟩), (.d ⟨(.int .u64), y2⟩)], [([1, 0], ⟨5, 1, (.data (.int .u8) y3)⟩)], 2⟩) := by kernel_rfl
theorem ref02_Put_L0_L2.ok (d : Nat) (hd : 0 ≤ d) : ∀ n st k, ref02_Put_L0_L2.get (ref02_Put_L0_L2 n) none st k = some true → iter n (plan Try.prog (ht 29 2)) (fun st k => execK Try.prog ht 29 (callfOf (callK Try.prog ht d)) 2 (loopAt 2 (codeOf Try.f29)) st k) st k = some true :=
  loop_ok (lfn := fun n st k => ref02_Put_L0_L2.get (ref02_Put_L0_L2 n) none st k) (rec := ref02_Put_L0_L2.calls) (fun g a h k hx => by
    cases hx) (loopf := ref02_Put_L0_L2.loops) (by
    have e : loopsOf (ref02_Put_L0_L2.loops) 2 (loopAt 2 (codeOf Try.f29)) = [] := by kernel_rfl
    rw [e]
    intro p hp
    cases hp) (fun st k h => by
    obtain ⟨sl, hp, m⟩ := st
    unfold ref02_Put_L0_L2.get at h
    dsimp only at h
    split at h
    · have h' : (none : Option Bool) = some true := h
      cases h'
    · cases h) (fun n st k h => by
    obtain ⟨sl, hp, m⟩ := st
    unfold ref02_Put_L0_L2.get at h
    dsimp only at h
    split at h
    · rename_i h1 h2
      obtain rfl := pickS_ok h2
      obtain rfl := Nat.eq_of_beq_eq_true h1
      exact (ref02_Put_L0_L2.step (ref02_Put_L0_L2 n) _ _ _ _ _ k).trans h
    · cases h)
theorem ref02_Put_L0_L2.look {F : Int → Int → Int → Int → (List Int) → (Int → Int → Int → (List Int) → Option Bool) → Option Bool} {e : Option Bool} {st : St} {k : KE} (hx : ref02_Put_L0_L2.get F e st k = some true) : e = some true ∨ ref02_Put_L0_L2.get F none st k = some true := by
  obtain ⟨sl, hp, m⟩ := st
  unfold ref02_Put_L0_L2.get at hx ⊢
  dsimp only at hx ⊢
  split at hx
  · exact .inr hx
  · exact .inl hx
/-- function 29: the loop in block 0 -/
noncomputable def ref02_Put_L0.body (ref02_Put_L0 : Int → Int → (List Int) → ((List Int) → Option Bool) → Option Bool) (ref02_Put_L0_L2 : Int → Int → Int → Int → (List Int) → (Int → Int → Int → (List Int) → Option Bool) → Option Bool) (n142 : Int) (n143 : Int) (ns144 : List Int) (k1 : (List Int) → Option Bool) : Option Bool :=
  (cond_ (decide (n143 ≥ (0 : Int))) (ref02_Put_L0_L2 n142 n143 n142 (0 : Int) ns144
  (fun n150 n151 n152 ns153 => (cond_ (Nat.ble (((List.length ns153) + (List.length ((IntKind.wrap .u8 (Int.tmod n152 (256 : Int))) :: []))) * (1 : Nat)) (140737488355328 : Nat)) (ref02_Put_L0 n150 (IntKind.wrap .i64 (n151 - (1 : Int))) (ns153 ++ ((IntKind.wrap .u8 (Int.tmod n152 (256 : Int))) :: [])) k1) none))) (k1 ns144))
noncomputable def ref02_Put_L0 : Nat → Int → Int → (List Int) → ((List Int) → Option Bool) → Option Bool
  | 0 => fun _ _ _ _ => none
  | n + 1 => ref02_Put_L0.body (ref02_Put_L0 n) (ref02_Put_L0_L2 ROUNDS)
noncomputable def ref02_Put_L0.get (F : Int → Int → (List Int) → ((List Int) → Option Bool) → Option Bool) (e : Option Bool) (st : St) (k : KE) : Option Bool := match st with
  | ⟨sl, hp, m⟩ => match Nat.beq m 2, pickS 45 [7, 8, 9] sl, hp with
    | true, some [(.ref [1, 0]), (.d ⟨(.int .u64), n142⟩), (.d ⟨(.int .i64), n143⟩)], [([1, 0], ⟨5, 1, (.data (.int .u8) ns144)⟩)] => F n142 n143 ns144 (fun y0 => k (.exit 0) ⟨fillS 45 [7] [(.ref [1, 0])], [([1, 0], ⟨5, 1, (.data (.int .u8) y0)⟩)], 2⟩)
    | _, _, _ => e
noncomputable def ref02_Put_L0.calls : RecF := fun g a h k => none
noncomputable def ref02_Put_L0.loops (L0 : Int → Int → Int → Int → (List Int) → (Int → Int → Int → (List Int) → Option Bool) → Option Bool) : LoopF := fun b => match Nat.beq b 2 with | true => some (fun st k => (ref02_Put_L0_L2.get L0 none st k)) | false => none
set_option maxRecDepth 100000 in
theorem ref02_Put_L0.step (S : Int → Int → (List Int) → ((List Int) → Option Bool) → Option Bool) (L0 : Int → Int → Int → Int → (List Int) → (Int → Int → Int → (List Int) → Option Bool) → Option Bool) (n142 : Int) (n143 : Int) (ns144 : List Int) (k : KE) : execL Try.prog ht 29 (callfOf (ref02_Put_L0.calls)) (ref02_Put_L0.loops L0) 0 (loopAt 0 (codeOf Try.f29)) ⟨fillS 45 [7, 8, 9] [(.ref [1, 0]), (.d ⟨(.int .u64), n142⟩), (.d ⟨(.int .i64), n143⟩)], [([1, 0], ⟨5, 1, (.data (.int .u8) ns144)⟩)], 2⟩ (again (ref02_Put_L0.get S none) (plan Try.prog (ht 29 0)) k) = ref02_Put_L0.body S L0 n142 n143 ns144 (fun y0 => k (.exit 0) ⟨fillS 45 [7] [(.ref [1, 0])], [([1, 0], ⟨5, 1, (.data (.int .u8) y0)⟩)], 2⟩) := by kernel_rfl
theorem ref02_Put_L0.ok (d : Nat) (hd : 0 ≤ d) : ∀ n st k, ref02_Put_L0.get (ref02_Put_L0 n) none st k = some true → iter n (plan Try.prog (ht 29 0)) (fun st k => execK Try.prog ht 29 (callfOf (callK Try.prog ht d)) 0 (loopAt 0 (codeOf Try.f29)) st k) st k = some true :=
  loop_ok (lfn := fun n st k => ref02_Put_L0.get (ref02_Put_L0 n) none st k) (rec := ref02_Put_L0.calls) (fun g a h k hx => by
    cases hx) (loopf := ref02_Put_L0.loops (ref02_Put_L0_L2 ROUNDS)) (by
    have e : loopsOf (ref02_Put_L0.loops (ref02_Put_L0_L2 ROUNDS)) 0 (loopAt 0 (codeOf Try.f29)) = [(2, loopAt 2 (codeOf Try.f29))] := by kernel_rfl
    rw [e]
    intro p hp
    simp only [List.mem_cons, List.not_mem_nil, or_false] at hp
    rcases hp with rfl
    · refine loopRef_of (callf := callfOf (callK Try.prog ht d)) (callfOf_ref (callK_mono d)) fun lf st k hb hx => ?_
      cases hb
      rcases ref02_Put_L0_L2.look hx with hx | hx
      rotate_left
      · exact ref02_Put_L0_L2.ok d (by omega) _ _ _ hx
      cases hx) (fun st k h => by
    obtain ⟨sl, hp, m⟩ := st
    unfold ref02_Put_L0.get at h
    dsimp only at h
    split at h
    · have h' : (none : Option Bool) = some true := h
      cases h'
    · cases h) (fun n st k h => by
    obtain ⟨sl, hp, m⟩ := st
    unfold ref02_Put_L0.get at h
    dsimp only at h
    split at h
    · rename_i h1 h2
      obtain rfl := pickS_ok h2
      obtain rfl := Nat.eq_of_beq_eq_true h1
      exact (ref02_Put_L0.step (ref02_Put_L0 n) (ref02_Put_L0_L2 ROUNDS) _ _ _ k).trans h
    · cases h)
theorem ref02_Put_L0.look {F : Int → Int → (List Int) → ((List Int) → Option Bool) → Option Bool} {e : Option Bool} {st : St} {k : KE} (hx : ref02_Put_L0.get F e st k = some true) : e = some true ∨ ref02_Put_L0.get F none st k = some true := by
  obtain ⟨sl, hp, m⟩ := st
  unfold ref02_Put_L0.get at hx ⊢
  dsimp only at hx ⊢
  split at hx
  · exact .inr hx
  · exact .inl hx
/-- function 29: sheerleg/sheerlegref02.Put -/
noncomputable def ref02_Put.body (ref02_Put_L0 : Int → Int → (List Int) → ((List Int) → Option Bool) → Option Bool) (ns139 : List Int) (n140 : Int) (n141 : Int) (k1 : (List Int) → Option Bool) : Option Bool :=
  (cond_ (Nat.ble ((List.length ns139) * (1 : Nat)) (140737488355328 : Nat)) (cond_ (! (decide (n141 < (1 : Int)))) (cond_ (decide (n141 > (8 : Int))) (k1 ns139) (ref02_Put_L0 (IntKind.wrap .u64 n140) (IntKind.wrap .i64 (n141 - (1 : Int))) ns139
  (fun ns154 => (k1 ns154)))) (k1 ns139)) none)
noncomputable def ref02_Put (ns139 : List Int) (n140 : Int) (n141 : Int) (k1 : (List Int) → Option Bool) : Option Bool := ref02_Put.body (ref02_Put_L0 ROUNDS) ns139 n140 n141 k1
noncomputable def ref02_Put.get (F : (List Int) → Int → Int → ((List Int) → Option Bool) → Option Bool) (e : Option Bool) (g : FuncId) (a : List AV) (h : Heap) (k : KR) : Option Bool := match g, a, h with
  | 29, [(.bv 0 5 (.int .u8) ns139), (.d ⟨(.int .i64), n140⟩), (.d ⟨(.int .i64), n141⟩)], [] => F ns139 n140 n141 (fun y0 => k (.ref [1, 0]) [([1, 0], ⟨5, 1, (.data (.int .u8) y0)⟩)])
  | _, _, _ => e
noncomputable def ref02_Put.calls : RecF := fun g a h k => none
noncomputable def ref02_Put.loops (L0 : Int → Int → (List Int) → ((List Int) → Option Bool) → Option Bool) : LoopF := fun b => match Nat.beq b 0 with | true => some (fun st k => (ref02_Put_L0.get L0 none st k)) | false => none
set_option maxRecDepth 100000 in
theorem ref02_Put.eq (L0 : Int → Int → (List Int) → ((List Int) → Option Bool) → Option Bool) (ns139 : List Int) (n140 : Int) (n141 : Int) (k : KR) : execL Try.prog ht 29 (callfOf (ref02_Put.calls)) (ref02_Put.loops L0) 0 (codeOf Try.f29) ⟨[(.bv 0 5 (.int .u8) ns139), (.d ⟨(.int .i64), n140⟩), (.d ⟨(.int .i64), n141⟩)] ++ List.replicate (Try.f29.ntmps - ([(.bv 0 5 (.int .u8) ns139), (.d ⟨(.int .i64), n140⟩), (.d ⟨(.int .i64), n141⟩)] : List AV).length) .undef, [], 2⟩ (leave Try.prog Try.f29 k) = ref02_Put.body L0 ns139 n140 n141 (fun y0 => k (.ref [1, 0]) [([1, 0], ⟨5, 1, (.data (.int .u8) y0)⟩)]) := by kernel_rfl
theorem ref02_Put.ok (d : Nat) (hd : 1 ≤ d) (ns139 : List Int) (n140 : Int) (n141 : Int) (k : KR) (hx : ref02_Put ns139 n140 n141 (fun y0 => k (.ref [1, 0]) [([1, 0], ⟨5, 1, (.data (.int .u8) y0)⟩)]) = some true) : callK Try.prog ht d 29 [(.bv 0 5 (.int .u8) ns139), (.d ⟨(.int .i64), n140⟩), (.d ⟨(.int .i64), n141⟩)] [] k = some true := by
  obtain ⟨d, rfl⟩ : ∃ e, d = e + 1 := ⟨d - 1, by omega⟩
  exact fn_ok (c := codeOf Try.f29) Try.func29 (by kernel_rfl) (rec := ref02_Put.calls) (fun g a h k hx => by
    cases hx) (loopf := ref02_Put.loops (ref02_Put_L0 ROUNDS)) (by
    have e : loopsOf (ref02_Put.loops (ref02_Put_L0 ROUNDS)) 0 (codeOf Try.f29) = [(0, loopAt 0 (codeOf Try.f29))] := by kernel_rfl
    rw [e]
    intro p hp
    simp only [List.mem_cons, List.not_mem_nil, or_false] at hp
    rcases hp with rfl
    · refine loopRef_of (callf := callfOf (callK Try.prog ht d)) (callfOf_ref (callK_mono d)) fun lf st k hb hx => ?_
      cases hb
      rcases ref02_Put_L0.look hx with hx | hx
      rotate_left
      · exact ref02_Put_L0.ok d (by omega) _ _ _ hx
      cases hx) ((ref02_Put.eq (ref02_Put_L0 ROUNDS) ns139 n140 n141 k).trans hx)
theorem ref02_Put.look (d : Nat) (hd : 1 ≤ d) {e : Option Bool} {g : FuncId} {a : List AV} {h : Heap} {k : KR} (hx : ref02_Put.get ref02_Put e g a h k = some true) : e = some true ∨ callK Try.prog ht d g a h k = some true := by
  unfold ref02_Put.get at hx
  split at hx
  · exact .inr (ref02_Put.ok d hd _ _ _ _ hx)
  · exact .inl hx
/-- function 29: the loop in block 2 -/
noncomputable def ref02_Putv1_L0_L2.body (ref02_Putv1_L0_L2 : Int → Int → Int → Int → (List Int) → (Int → Int → Int → (List Int) → Option Bool) → Option Bool) (n162 : Int) (n163 : Int) (n164 : Int) (n165 : Int) (ns166 : List Int) (k1 : Int → Int → Int → (List Int) → Option Bool) : Option Bool :=
  (cond_ (decide (n165 < n163)) (ref02_Putv1_L0_L2 n162 n163 (IntKind.wrap .u64 (Int.tdiv n164 (256 : Int))) (IntKind.wrap .i64 (n165 + (1 : Int))) ns166 k1) (k1 n162 n163 n164 ns166))
noncomputable def ref02_Putv1_L0_L2 : Nat → Int → Int → Int → Int → (List Int) → (Int → Int → Int → (List Int) → Option Bool) → Option Bool
  | 0 => fun _ _ _ _ _ _ => none
  | n + 1 => ref02_Putv1_L0_L2.body (ref02_Putv1_L0_L2 n)
noncomputable def ref02_Putv1_L0_L2.get (F : Int → Int → Int → Int → (List Int) → (Int → Int → Int → (List Int) → Option Bool) → Option Bool) (e : Option Bool) (st : St) (k : KE) : Option Bool := match st with
  | ⟨sl, hp, m⟩ => match Nat.beq m 2, pickS 45 [7, 8, 9, 10, 11] sl, hp with
    | true, some [(.ref [1, 0]), (.d ⟨(.int .u64), n162⟩), (.d ⟨(.int .i64), n163⟩), (.d ⟨(.int .u64), n164⟩), (.d ⟨(.int .i64), n165⟩)], [([1, 0], ⟨5, 1, (.data (.int .u8) ns166)⟩)] => F n162 n163 n164 n165 ns166 (fun y0 y1 y2 y3 => k (.exit 2) ⟨fillS 45 [7, 8, 9, 10] [(.ref [1, 0]), (.d ⟨(.int .u64), y0⟩), (.d ⟨(.int .i64), y1⟩), (.d ⟨(.int .u64), y2⟩)], [([1, 0], ⟨5, 1, (.data (.int .u8) y3)⟩)], 2⟩)
    | _, _, _ => e
noncomputable def ref02_Putv1_L0_L2.calls : RecF := fun g a h k => none
noncomputable def ref02_Putv1_L0_L2.loops : LoopF := fun b => none
set_option maxRecDepth 100000 in
theorem ref02_Putv1_L0_L2.step (S : Int → Int → Int → Int → (List Int) → (Int → Int → Int → (List Int) → Option Bool) → Option Bool) (n162 : Int) (n163 : Int) (n164 : Int) (n165 : Int) (ns166 : List Int) (k : KE) : execL Try.prog ht 29 (callfOf (ref02_Putv1_L0_L2.calls)) (ref02_Putv1_L0_L2.loops) 2 (loopAt 2 (codeOf Try.f29)) ⟨fillS 45 [7, 8, 9, 10, 11] [(.ref [1, 0]), (.d ⟨(.int .u64), n162⟩), (.d ⟨(.int .i64), n163⟩), (.d ⟨(.int .u64), n164⟩), (.d ⟨(.int .i64), n165⟩)], [([1, 0], ⟨5, 1, (.data (.int .u8) ns166)⟩)], 2⟩ (again (ref02_Putv1_L0_L2.get S none) (plan Try.prog (ht 29 2)) k) = ref02_Putv1_L0_L2.body S n162 n163 n164 n165 ns166 (fun y0 y1 y2 y3 => k (.exit 2) ⟨fillS 45 [7, 8, 9, 10] [(.ref [1, 0]), (.d ⟨(.int .u64), y0⟩), (.d ⟨(.int .i64), y1⟩), (.d ⟨(.int .u64), y2⟩)], [([1, 0], ⟨5, 1, (.data (.int .u8) y3)⟩)], 2⟩) := by kernel_rfl
theorem ref02_Putv1_L0_L2.ok (d : Nat) (hd : 0 ≤ d) : ∀ n st k, ref02_Putv1_L0_L2.get (ref02_Putv1_L0_L2 n) none st k = some true → iter n (plan Try.prog (ht 29 2)) (fun st k => execK Try.prog ht 29 (callfOf (callK Try.prog ht d)) 2 (loopAt 2 (codeOf Try.f29)) st k) st k = some true :=
  loop_ok (lfn := fun n st k => ref02_Putv1_L0_L2.get (ref02_Putv1_L0_L2 n) none st k) (rec := ref02_Putv1_L0_L2.calls) (fun g a h k hx => by
    cases hx) (loopf := ref02_Putv1_L0_L2.loops) (by
    have e : loopsOf (ref02_Putv1_L0_L2.loops) 2 (loopAt 2 (codeOf Try.f29)) = [] := by kernel_rfl
    rw [e]
    intro p hp
    cases hp) (fun st k h => by
    obtain ⟨sl, hp, m⟩ := st
    unfold ref02_Putv1_L0_L2.get at h
    dsimp only at h
    split at h
    · have h' : (none : Option Bool) = some true := h
      cases h'
    · cases h) (fun n st k h => by
    obtain ⟨sl, hp, m⟩ := st
    unfold ref02_Putv1_L0_L2.get at h
    dsimp only at h
    split at h
    · rename_i h1 h2
      obtain rfl := pickS_ok h2
      obtain rfl := Nat.eq_of_beq_eq_true h1
      exact (ref02_Putv1_L0_L2.step (ref02_Putv1_L0_L2 n) _ _ _ _ _ k).trans h
    · cases h)
theorem ref02_Putv1_L0_L2.look {F : Int → Int → Int → Int → (List Int) → (Int → Int → Int → (List Int) → Option Bool) → Option Bool} {e : Option Bool} {st : St} {k : KE} (hx : ref02_Putv1_L0_L2.get F e st k = some true) : e = some true ∨ ref02_Putv1_L0_L2.get F none st k = some true := by
  obtain ⟨sl, hp, m⟩ := st
  unfold ref02_Putv1_L0_L2.get at hx ⊢
  dsimp only at hx ⊢
  split at hx
  · exact .inr hx
  · exact .inl hx
/-- function 29: the loop in block 0 -/
noncomputable def ref02_Putv1_L0.body (ref02_Putv1_L0 : Int → Int → (List Int) → ((List Int) → Option Bool) → Option Bool) (ref02_Putv1_L0_L2 : Int → Int → Int → Int → (List Int) → (Int → Int → Int → (List Int) → Option Bool) → Option Bool) (n159 : Int) (n160 : Int) (ns161 : List Int) (k1 : (List Int) → Option Bool) : Option Bool :=
  (cond_ (decide (n160 ≥ (0 : Int))) (ref02_Putv1_L0_L2 n159 n160 n159 (0 : Int) ns161
  (fun n167 n168 n169 ns170 => (cond_ (Nat.ble (((List.length ns170) + (List.length ((IntKind.wrap .u8 (Int.tmod n169 (256 : Int))) :: []))) * (1 : Nat)) (140737488355328 : Nat)) (ref02_Putv1_L0 n167 (IntKind.wrap .i64 (n168 - (1 : Int))) (ns170 ++ ((IntKind.wrap .u8 (Int.tmod n169 (256 : Int))) :: [])) k1) none))) (k1 ns161))
noncomputable def ref02_Putv1_L0 : Nat → Int → Int → (List Int) → ((List Int) → Option Bool) → Option Bool
  | 0 => fun _ _ _ _ => none
  | n + 1 => ref02_Putv1_L0.body (ref02_Putv1_L0 n) (ref02_Putv1_L0_L2 ROUNDS)
noncomputable def ref02_Putv1_L0.get (F : Int → Int → (List Int) → ((List Int) → Option Bool) → Option Bool) (e : Option Bool) (st : St) (k : KE) : Option Bool := match st with
  | ⟨sl, hp, m⟩ => match Nat.beq m 2, pickS 45 [7, 8, 9] sl, hp with
    | true, some [(.ref [1, 0]), (.d ⟨(.int .u64), n159⟩), (.d ⟨(.int .i64), n160⟩)], [([1, 0], ⟨5, 1, (.data (.int .u8) ns161)⟩)] => F n159 n160 ns161 (fun y0 => k (.exit 0) ⟨fillS 45 [7] [(.ref [1, 0])], [([1, 0], ⟨5, 1, (.data (.int .u8) y0)⟩)], 2⟩)
    | _, _, _ => e
noncomputable def ref02_Putv1_L0.calls : RecF := fun g a h k => none
noncomputable def ref02_Putv1_L0.loops (L0 : Int → Int → Int → Int → (List Int) → (Int → Int → Int → (List Int) → Option Bool) → Option Bool) : LoopF := fun b => match Nat.beq b 2 with | true => some (fun st k => (ref02_Putv1_L0_L2.get L0 none st k)) | false => none
set_option maxRecDepth 100000 in
theorem ref02_Putv1_L0.step (S : Int → Int → (List Int) → ((List Int) → Option Bool) → Option Bool) (L0 : Int → Int → Int → Int → (List Int) → (Int → Int → Int → (List Int) → Option Bool) → Option Bool) (n159 : Int) (n160 : Int) (ns161 : List Int) (k : KE) : execL Try.prog ht 29 (callfOf (ref02_Putv1_L0.calls)) (ref02_Putv1_L0.loops L0) 0 (loopAt 0 (codeOf Try.f29)) ⟨fillS 45 [7, 8, 9] [(.ref [1, 0]), (.d ⟨(.int .u64), n159⟩), (.d ⟨(.int .i64), n160⟩)], [([1, 0], ⟨5, 1, (.data (.int .u8) ns161)⟩)], 2⟩ (again (ref02_Putv1_L0.get S none) (plan Try.prog (ht 29 0)) k) = ref02_Putv1_L0.body S L0 n159 n160 ns161 (fun y0 => k (.exit 0) ⟨fillS 45 [7] [(.ref [1, 0])], [([1, 0], ⟨5, 1, (.data (.int .u8) y0)⟩)], 2⟩) := by kernel_rfl
theorem ref02_Putv1_L0.ok (d : Nat) (hd : 0 ≤ d) : ∀ n st k, ref02_Putv1_L0.get (ref02_Putv1_L0 n) none st k = some true → iter n (plan Try.prog (ht 29 0)) (fun st k => execK Try.prog ht 29 (callfOf (callK Try.prog ht d)) 0 (loopAt 0 (codeOf Try.f29)) st k) st k = some true :=
  loop_ok (lfn := fun n st k => ref02_Putv1_L0.get (ref02_Putv1_L0 n) none st k) (rec := ref02_Putv1_L0.calls) (fun g a h k hx => by
    cases hx) (loopf := ref02_Putv1_L0.loops (ref02_Putv1_L0_L2 ROUNDS)) (by
    have e : loopsOf (ref02_Putv1_L0.loops (ref02_Putv1_L0_L2 ROUNDS)) 0 (loopAt 0 (codeOf Try.f29)) = [(2, loopAt 2 (codeOf Try.f29))] := by kernel_rfl
    rw [e]
    intro p hp
    simp only [List.mem_cons, List.not_mem_nil, or_false] at hp
    rcases hp with rfl
    · refine loopRef_of (callf := callfOf (callK Try.prog ht d)) (callfOf_ref (callK_mono d)) fun lf st k hb hx => ?_
      cases hb
      rcases ref02_Putv1_L0_L2.look hx with hx | hx
      rotate_left
      · exact ref02_Putv1_L0_L2.ok d (by omega) _ _ _ hx
      cases hx) (fun st k h => by
    obtain ⟨sl, hp, m⟩ := st
    unfold ref02_Putv1_L0.get at h
    dsimp only at h
    split at h
    · have h' : (none : Option Bool) = some true := h
      cases h'
    · cases h) (fun n st k h => by
    obtain ⟨sl, hp, m⟩ := st
    unfold ref02_Putv1_L0.get at h
    dsimp only at h
    split at h
    · rename_i h1 h2
      obtain rfl := pickS_ok h2
      obtain rfl := Nat.eq_of_beq_eq_true h1
      exact (ref02_Putv1_L0.step (ref02_Putv1_L0 n) (ref02_Putv1_L0_L2 ROUNDS) _ _ _ k).trans h
    · cases h)
theorem ref02_Putv1_L0.look {F : Int → Int → (List Int) → ((List Int) → Option Bool) → Option Bool} {e : Option Bool} {st : St} {k : KE} (hx : ref02_Putv1_L0.get F e st k = some true) : e = some true ∨ ref02_Putv1_L0.get F none st k = some true := by
  obtain ⟨sl, hp, m⟩ := st
  unfold ref02_Putv1_L0.get at hx ⊢
  dsimp only at hx ⊢
  split at hx
  · exact .inr hx
  · exact .inl hx
/-- function 29: sheerleg/sheerlegref02.Put -/
noncomputable def ref02_Putv1.body (ref02_Putv1_L0 : Int → Int → (List Int) → ((List Int) → Option Bool) → Option Bool) (ns156 : List Int) (n157 : Int) (n158 : Int) (k1 : (List Int) → Option Bool) : Option Bool :=
  (cond_ (Nat.ble ((List.length ns156) * (1 : Nat)) (140737488355328 : Nat)) (cond_ (! (decide (n158 < (1 : Int)))) (cond_ (decide (n158 > (8 : Int))) (k1 ns156) (ref02_Putv1_L0 (IntKind.wrap .u64 n157) (IntKind.wrap .i64 (n158 - (1 : Int))) ns156
  (fun ns171 => (k1 ns171)))) (k1 ns156)) none)
noncomputable def ref02_Putv1 (ns156 : List Int) (n157 : Int) (n158 : Int) (k1 : (List Int) → Option Bool) : Option Bool := ref02_Putv1.body (ref02_Putv1_L0 ROUNDS) ns156 n157 n158 k1
noncomputable def ref02_Putv1.get (F : (List Int) → Int → Int → ((List Int) → Option Bool) → Option Bool) (e : Option Bool) (g : FuncId) (a : List AV) (h : Heap) (k : KR) : Option Bool := match g, a, h with
  | 29, [(.bv 1 5 (.int .u8) ns156), (.d ⟨(.int .i64), n157⟩), (.d ⟨(.int .i64), n158⟩)], [] => F ns156 n157 n158 (fun y0 => k (.ref [1, 0]) [([1, 0], ⟨5, 1, (.data (.int .u8) y0)⟩)])
  | _, _, _ => e
noncomputable def ref02_Putv1.calls : RecF := fun g a h k => none
noncomputable def ref02_Putv1.loops (L0 : Int → Int → (List Int) → ((List Int) → Option Bool) → Option Bool) : LoopF := fun b => match Nat.beq b 0 with | true => some (fun st k => (ref02_Putv1_L0.get L0 none st k)) | false => none
set_option maxRecDepth 100000 in
theorem ref02_Putv1.eq (L0 : Int → Int → (List Int) → ((List Int) → Option Bool) → Option Bool) (ns156 : List Int) (n157 : Int) (n158 : Int) (k : KR) : execL Try.prog ht 29 (callfOf (ref02_Putv1.calls)) (ref02_Putv1.loops L0) 0 (codeOf Try.f29) ⟨[(.bv 1 5 (.int .u8) ns156), (.d ⟨(.int .i64), n157⟩), (.d ⟨(.int .i64), n158⟩)] ++ List.replicate (Try.f29.ntmps - ([(.bv 1 5 (.int .u8) ns156), (.d ⟨(.int .i64), n157⟩), (.d ⟨(.int .i64), n158⟩)] : List AV).length) .undef, [], 2⟩ (leave Try.prog Try.f29 k) = ref02_Putv1.body L0 ns156 n157 n158 (fun y0 => k (.ref [1, 0]) [([1, 0], ⟨5, 1, (.data (.int .u8) y0)⟩)]) := by kernel_rfl
theorem ref02_Putv1.ok (d : Nat) (hd : 1 ≤ d) (ns156 : List Int) (n157 : Int) (n158 : Int) (k : KR) (hx : ref02_Putv1 ns156 n157 n158 (fun y0 => k (.ref [1, 0]) [([1, 0], ⟨5, 1, (.data (.int .u8) y0)⟩)]) = some true) : callK Try.prog ht d 29 [(.bv 1 5 (.int .u8) ns156), (.d ⟨(.int .i64), n157⟩), (.d ⟨(.int .i64), n158⟩)] [] k = some true := by
  obtain ⟨d, rfl⟩ : ∃ e, d = e + 1 := ⟨d - 1, by omega⟩
  exact fn_ok (c := codeOf Try.f29) Try.func29 (by kernel_rfl) (rec := ref02_Putv1.calls) (fun g a h k hx => by
    cases hx) (loopf := ref02_Putv1.loops (ref02_Putv1_L0 ROUNDS)) (by
    have e : loopsOf (ref02_Putv1.loops (ref02_Putv1_L0 ROUNDS)) 0 (codeOf Try.f29) = [(0, loopAt 0 (codeOf Try.f29))] := by kernel_rfl
    rw [e]
    intro p hp
    simp only [List.mem_cons, List.not_mem_nil, or_false] at hp
    rcases hp with rfl
    · refine loopRef_of (callf := callfOf (callK Try.prog ht d)) (callfOf_ref (callK_mono d)) fun lf st k hb hx => ?_
      cases hb
      rcases ref02_Putv1_L0.look hx with hx | hx
      rotate_left
      · exact ref02_Putv1_L0.ok d (by omega) _ _ _ hx
      cases hx) ((ref02_Putv1.eq (ref02_Putv1_L0 ROUNDS) ns156 n157 n158 k).trans hx)
theorem ref02_Putv1.look (d : Nat) (hd : 1 ≤ d) {e : Option Bool} {g : FuncId} {a : List AV} {h : Heap} {k : KR} (hx : ref02_Putv1.get ref02_Putv1 e g a h k = some true) : e = some true ∨ callK Try.prog ht d g a h k = some true := by
  unfold ref02_Putv1.get at hx
  split at hx
  · exact .inr (ref02_Putv1.ok d hd _ _ _ _ hx)
  · exact .inl hx
/-- function 10: sheerleg/sheerlegref08.Put -/
noncomputable def ref08_Put.body (ref02_Put : (List Int) → Int → Int → ((List Int) → Option Bool) → Option Bool) (ref02_Putv1 : (List Int) → Int → Int → ((List Int) → Option Bool) → Option Bool) (ns137 : List Int) (t138 : Tc1) (k1 : (List Int) → Option Bool) : Option Bool :=
  (ref02_Put ns137 t138.1 (1 : Int)
  (fun ns155 => (ref02_Putv1 ns155 t138.2.1 (1 : Int)
  (fun ns172 => (ref02_Putv1 ns172 t138.2.2.1 (1 : Int)
  (fun ns173 => (ref02_Putv1 ns173 t138.2.2.2.1 (1 : Int)
  (fun ns174 => (ref02_Putv1 ns174 t138.2.2.2.2.1 (4 : Int)
  (fun ns175 => (k1 ns175)))))))))))
noncomputable def ref08_Put (ns137 : List Int) (t138 : Tc1) (k1 : (List Int) → Option Bool) : Option Bool := ref08_Put.body ref02_Put ref02_Putv1 ns137 t138 k1
noncomputable def ref08_Put.get (F : (List Int) → Tc1 → ((List Int) → Option Bool) → Option Bool) (e : Option Bool) (g : FuncId) (a : List AV) (h : Heap) (k : KR) : Option Bool := match g, a, h with
  | 10, [(.bv 0 5 (.int .u8) ns137), (.d ⟨(.st [(.int .i64), (.int .i64), (.int .i64), (.int .i64), (.int .i64)]), t138⟩)], [] => F ns137 t138 (fun y0 => k (.ref [1, 0]) [([1, 0], ⟨5, 1, (.data (.int .u8) y0)⟩)])
  | _, _, _ => e
noncomputable def ref08_Put.calls (F0 : (List Int) → Int → Int → ((List Int) → Option Bool) → Option Bool) (F1 : (List Int) → Int → Int → ((List Int) → Option Bool) → Option Bool) : RecF := fun g a h k => (ref02_Put.get F0 (ref02_Putv1.get F1 none g a h k) g a h k)
noncomputable def ref08_Put.loops : LoopF := fun b => none
set_option maxRecDepth 100000 in
theorem ref08_Put.eq (F0 : (List Int) → Int → Int → ((List Int) → Option Bool) → Option Bool) (F1 : (List Int) → Int → Int → ((List Int) → Option Bool) → Option Bool) (ns137 : List Int) (t138 : Tc1) (k : KR) : execL Try.prog ht 10 (callfOf (ref08_Put.calls F0 F1)) (ref08_Put.loops) 0 (codeOf Try.f10) ⟨[(.bv 0 5 (.int .u8) ns137), (.d ⟨(.st [(.int .i64), (.int .i64), (.int .i64), (.int .i64), (.int .i64)]), t138⟩)] ++ List.replicate (Try.f10.ntmps - ([(.bv 0 5 (.int .u8) ns137), (.d ⟨(.st [(.int .i64), (.int .i64), (.int .i64), (.int .i64), (.int .i64)]), t138⟩)] : List AV).length) .undef, [], 2⟩ (leave Try.prog Try.f10 k) = ref08_Put.body F0 F1 ns137 t138 (fun y0 => k (.ref [1, 0]) [([1, 0], ⟨5, 1, (.data (.int .u8) y0)⟩)]) := by kernel_rfl
theorem ref08_Put.ok (d : Nat) (hd : 2 ≤ d) (ns137 : List Int) (t138 : Tc1) (k : KR) (hx : ref08_Put ns137 t138 (fun y0 => k (.ref [1, 0]) [([1, 0], ⟨5, 1, (.data (.int .u8) y0)⟩)]) = some true) : callK Try.prog ht d 10 [(.bv 0 5 (.int .u8) ns137), (.d ⟨(.st [(.int .i64), (.int .i64), (.int .i64), (.int .i64), (.int .i64)]), t138⟩)] [] k = some true := by
  obtain ⟨d, rfl⟩ : ∃ e, d = e + 1 := ⟨d - 1, by omega⟩
  exact fn_ok (c := codeOf Try.f10) Try.func10 (by kernel_rfl) (rec := ref08_Put.calls ref02_Put ref02_Putv1) (fun g a h k hx => by
    rcases ref02_Put.look d (by omega) hx with hx | hx
    rotate_left
    · exact hx
    rcases ref02_Putv1.look d (by omega) hx with hx | hx
    rotate_left
    · exact hx
    cases hx) (loopf := ref08_Put.loops) (by
    have e : loopsOf (ref08_Put.loops) 0 (codeOf Try.f10) = [] := by kernel_rfl
    rw [e]
    intro p hp
    cases hp) ((ref08_Put.eq ref02_Put ref02_Putv1 ns137 t138 k).trans hx)
theorem ref08_Put.look (d : Nat) (hd : 2 ≤ d) {e : Option Bool} {g : FuncId} {a : List AV} {h : Heap} {k : KR} (hx : ref08_Put.get ref08_Put e g a h k = some true) : e = some true ∨ callK Try.prog ht d g a h k = some true := by
  unfold ref08_Put.get at hx
  split at hx
  · exact .inr (ref08_Put.ok d hd _ _ _ hx)
  · exact .inl hx
/-- function 11: sheerleg/instr.Operand -/
noncomputable def instr_Operand.body (instr_numbers : Tc1 → (Tc1 → Option Bool) → Option Bool) (t177 : Tc1) (n178 : Int) (k1 : Int → Option Bool) : Option Bool :=
  (cond_ (! (decide (n178 < (0 : Int)))) (cond_ (decide (n178 > (3 : Int))) (k1 (0 : Int)) (instr_numbers t177
  (fun t179 => (cond_ ((decide ((0 : Int) ≤ (IntKind.wrap .i64 ((1 : Int) + n178)))) && (decide ((IntKind.wrap .i64 ((1 : Int) + n178)) < (5 : Int)))) (k1 (List.getD (t179.1 :: (t179.2.1 :: (t179.2.2.1 :: (t179.2.2.2.1 :: (t179.2.2.2.2.1 :: []))))) (Int.toNat (IntKind.wrap .i64 ((1 : Int) + n178))) (0 : Int))) none)))) (k1 (0 : Int)))
noncomputable def instr_Operand (t177 : Tc1) (n178 : Int) (k1 : Int → Option Bool) : Option Bool := instr_Operand.body instr_numbers t177 n178 k1
noncomputable def instr_Operand.get (F : Tc1 → Int → (Int → Option Bool) → Option Bool) (e : Option Bool) (g : FuncId) (a : List AV) (h : Heap) (k : KR) : Option Bool := match g, a, h with
  | 11, [(.d ⟨(.st [(.int .i64), (.int .i64), (.int .i64), (.int .i64), (.int .i64)]), t177⟩), (.d ⟨(.int .i64), n178⟩)], [] => F t177 n178 (fun y0 => k (.d ⟨(.int .i64), y0⟩) [])
  | _, _, _ => e
noncomputable def instr_Operand.calls (F0 : Tc1 → (Tc1 → Option Bool) → Option Bool) : RecF := fun g a h k => (instr_numbers.get F0 none g a h k)
noncomputable def instr_Operand.loops : LoopF := fun b => none
set_option maxRecDepth 100000 in
theorem instr_Operand.eq (F0 : Tc1 → (Tc1 → Option Bool) → Option Bool) (t177 : Tc1) (n178 : Int) (k : KR) : execL Try.prog ht 11 (callfOf (instr_Operand.calls F0)) (instr_Operand.loops) 0 (codeOf Try.f11) ⟨[(.d ⟨(.st [(.int .i64), (.int .i64), (.int .i64), (.int .i64), (.int .i64)]), t177⟩), (.d ⟨(.int .i64), n178⟩)] ++ List.replicate (Try.f11.ntmps - ([(.d ⟨(.st [(.int .i64), (.int .i64), (.int .i64), (.int .i64), (.int .i64)]), t177⟩), (.d ⟨(.int .i64), n178⟩)] : List AV).length) .undef, [], 2⟩ (leave Try.prog Try.f11 k) = instr_Operand.body F0 t177 n178 (fun y0 => k (.d ⟨(.int .i64), y0⟩) []) := by kernel_rfl
theorem instr_Operand.ok (d : Nat) (hd : 2 ≤ d) (t177 : Tc1) (n178 : Int) (k : KR) (hx : instr_Operand t177 n178 (fun y0 => k (.d ⟨(.int .i64), y0⟩) []) = some true) : callK Try.prog ht d 11 [(.d ⟨(.st [(.int .i64), (.int .i64), (.int .i64), (.int .i64), (.int .i64)]), t177⟩), (.d ⟨(.int .i64), n178⟩)] [] k = some true := by
  obtain ⟨d, rfl⟩ : ∃ e, d = e + 1 := ⟨d - 1, by omega⟩
  exact fn_ok (c := codeOf Try.f11) Try.func11 (by kernel_rfl) (rec := instr_Operand.calls instr_numbers) (fun g a h k hx => by
    rcases instr_numbers.look d (by omega) hx with hx | hx
    rotate_left
    · exact hx
    cases hx) (loopf := instr_Operand.loops) (by
    have e : loopsOf (instr_Operand.loops) 0 (codeOf Try.f11) = [] := by kernel_rfl
    rw [e]
    intro p hp
    cases hp) ((instr_Operand.eq instr_numbers t177 n178 k).trans hx)
theorem instr_Operand.look (d : Nat) (hd : 2 ≤ d) {e : Option Bool} {g : FuncId} {a : List AV} {h : Heap} {k : KR} (hx : instr_Operand.get instr_Operand e g a h k = some true) : e = some true ∨ callK Try.prog ht d g a h k = some true := by
  unfold instr_Operand.get at hx
  split at hx
  · exact .inr (instr_Operand.ok d hd _ _ _ hx)
  · exact .inl hx
/-- function 13: sheerleg/instr.With -/
noncomputable def instr_With.body (t182 : Tc1) (n183 : Int) (n184 : Int) (k1 : Tc1 → Option Bool) : Option Bool :=
  (cond_ (n183 == (3 : Int)) (k1 (t182.1, (t182.2.1, (t182.2.2.1, (t182.2.2.2.1, (n184, ())))))) (cond_ (decide (n183 ≥ (0 : Int))) (cond_ (decide (n183 < (3 : Int))) (cond_ (n183 == (0 : Int)) (k1 (t182.1, (n184, (t182.2.2.1, (t182.2.2.2.1, (t182.2.2.2.2.1, ())))))) (cond_ (n183 == (1 : Int)) (k1 (t182.1, (t182.2.1, (n184, (t182.2.2.2.1, (t182.2.2.2.2.1, ())))))) (cond_ (n183 == (2 : Int)) (k1 (t182.1, (t182.2.1, (t182.2.2.1, (n184, (t182.2.2.2.2.1, ())))))) none))) (k1 t182)) (k1 t182)))
noncomputable def instr_With (t182 : Tc1) (n183 : Int) (n184 : Int) (k1 : Tc1 → Option Bool) : Option Bool := instr_With.body t182 n183 n184 k1
noncomputable def instr_With.get (F : Tc1 → Int → Int → (Tc1 → Option Bool) → Option Bool) (e : Option Bool) (g : FuncId) (a : List AV) (h : Heap) (k : KR) : Option Bool := match g, a, h with
  | 13, [(.d ⟨(.st [(.int .i64), (.int .i64), (.int .i64), (.int .i64), (.int .i64)]), t182⟩), (.d ⟨(.int .i64), n183⟩), (.d ⟨(.int .i64), n184⟩)], [] => F t182 n183 n184 (fun y0 => k (.d ⟨(.st [(.int .i64), (.int .i64), (.int .i64), (.int .i64), (.int .i64)]), y0⟩) [])
  | _, _, _ => e
noncomputable def instr_With.calls : RecF := fun g a h k => none
noncomputable def instr_With.loops : LoopF := fun b => none
set_option maxRecDepth 100000 in
theorem instr_With.eq (t182 : Tc1) (n183 : Int) (n184 : Int) (k : KR) : execL Try.prog ht 13 (callfOf (instr_With.calls)) (instr_With.loops) 0 (codeOf Try.f13) ⟨[(.d ⟨(.st [(.int .i64), (.int .i64), (.int .i64), (.int .i64), (.int .i64)]), t182⟩), (.d ⟨(.int .i64), n183⟩), (.d ⟨(.int .i64), n184⟩)] ++ List.replicate (Try.f13.ntmps - ([(.d ⟨(.st [(.int .i64), (.int .i64), (.int .i64), (.int .i64), (.int .i64)]), t182⟩), (.d ⟨(.int .i64), n183⟩), (.d ⟨(.int .i64), n184⟩)] : List AV).length) .undef, [], 2⟩ (leave Try.prog Try.f13 k) = instr_With.body t182 n183 n184 (fun y0 => k (.d ⟨(.st [(.int .i64), (.int .i64), (.int .i64), (.int .i64), (.int .i64)]), y0⟩) []) := by kernel_rfl
theorem instr_With.ok (d : Nat) (hd : 1 ≤ d) (t182 : Tc1) (n183 : Int) (n184 : Int) (k : KR) (hx : instr_With t182 n183 n184 (fun y0 => k (.d ⟨(.st [(.int .i64), (.int .i64), (.int .i64), (.int .i64), (.int .i64)]), y0⟩) []) = some true) : callK Try.prog ht d 13 [(.d ⟨(.st [(.int .i64), (.int .i64), (.int .i64), (.int .i64), (.int .i64)]), t182⟩), (.d ⟨(.int .i64), n183⟩), (.d ⟨(.int .i64), n184⟩)] [] k = some true := by
  obtain ⟨d, rfl⟩ : ∃ e, d = e + 1 := ⟨d - 1, by omega⟩
  exact fn_ok (c := codeOf Try.f13) Try.func13 (by kernel_rfl) (rec := instr_With.calls) (fun g a h k hx => by
    cases hx) (loopf := instr_With.loops) (by
    have e : loopsOf (instr_With.loops) 0 (codeOf Try.f13) = [] := by kernel_rfl
    rw [e]
    intro p hp
    cases hp) ((instr_With.eq t182 n183 n184 k).trans hx)
theorem instr_With.look (d : Nat) (hd : 1 ≤ d) {e : Option Bool} {g : FuncId} {a : List AV} {h : Heap} {k : KR} (hx : instr_With.get instr_With e g a h k = some true) : e = some true ∨ callK Try.prog ht d g a h k = some true := by
  unfold instr_With.get at hx
  split at hx
  · exact .inr (instr_With.ok d hd _ _ _ _ hx)
  · exact .inl hx
/-- function 14: sheerleg/sheerlegref08.With -/
noncomputable def ref08_With.body (t186 : Tc1) (n187 : Int) (n188 : Int) (k1 : Tc1 → Option Bool) : Option Bool :=
  (cond_ (n187 == (0 : Int)) (k1 (t186.1, (n188, (t186.2.2.1, (t186.2.2.2.1, (t186.2.2.2.2.1, ())))))) (cond_ (n187 == (1 : Int)) (k1 (t186.1, (t186.2.1, (n188, (t186.2.2.2.1, (t186.2.2.2.2.1, ())))))) (cond_ (n187 == (2 : Int)) (k1 (t186.1, (t186.2.1, (t186.2.2.1, (n188, (t186.2.2.2.2.1, ())))))) (cond_ (n187 == (3 : Int)) (k1 (t186.1, (t186.2.1, (t186.2.2.1, (t186.2.2.2.1, (n188, ())))))) (k1 t186)))))
noncomputable def ref08_With (t186 : Tc1) (n187 : Int) (n188 : Int) (k1 : Tc1 → Option Bool) : Option Bool := ref08_With.body t186 n187 n188 k1
noncomputable def ref08_With.get (F : Tc1 → Int → Int → (Tc1 → Option Bool) → Option Bool) (e : Option Bool) (g : FuncId) (a : List AV) (h : Heap) (k : KR) : Option Bool := match g, a, h with
  | 14, [(.d ⟨(.st [(.int .i64), (.int .i64), (.int .i64), (.int .i64), (.int .i64)]), t186⟩), (.d ⟨(.int .i64), n187⟩), (.d ⟨(.int .i64), n188⟩)], [] => F t186 n187 n188 (fun y0 => k (.d ⟨(.st [(.int .i64), (.int .i64), (.int .i64), (.int .i64), (.int .i64)]), y0⟩) [])
  | _, _, _ => e
noncomputable def ref08_With.calls : RecF := fun g a h k => none
noncomputable def ref08_With.loops : LoopF := fun b => none
set_option maxRecDepth 100000 in
theorem ref08_With.eq (t186 : Tc1) (n187 : Int) (n188 : Int) (k : KR) : execL Try.prog ht 14 (callfOf (ref08_With.calls)) (ref08_With.loops) 0 (codeOf Try.f14) ⟨[(.d ⟨(.st [(.int .i64), (.int .i64), (.int .i64), (.int .i64), (.int .i64)]), t186⟩), (.d ⟨(.int .i64), n187⟩), (.d ⟨(.int .i64), n188⟩)] ++ List.replicate (Try.f14.ntmps - ([(.d ⟨(.st [(.int .i64), (.int .i64), (.int .i64), (.int .i64), (.int .i64)]), t186⟩), (.d ⟨(.int .i64), n187⟩), (.d ⟨(.int .i64), n188⟩)] : List AV).length) .undef, [], 2⟩ (leave Try.prog Try.f14 k) = ref08_With.body t186 n187 n188 (fun y0 => k (.d ⟨(.st [(.int .i64), (.int .i64), (.int .i64), (.int .i64), (.int .i64)]), y0⟩) []) := by kernel_rfl
theorem ref08_With.ok (d : Nat) (hd : 1 ≤ d) (t186 : Tc1) (n187 : Int) (n188 : Int) (k : KR) (hx : ref08_With t186 n187 n188 (fun y0 => k (.d ⟨(.st [(.int .i64), (.int .i64), (.int .i64), (.int .i64), (.int .i64)]), y0⟩) []) = some true) : callK Try.prog ht d 14 [(.d ⟨(.st [(.int .i64), (.int .i64), (.int .i64), (.int .i64), (.int .i64)]), t186⟩), (.d ⟨(.int .i64), n187⟩), (.d ⟨(.int .i64), n188⟩)] [] k = some true := by
  obtain ⟨d, rfl⟩ : ∃ e, d = e + 1 := ⟨d - 1, by omega⟩
  exact fn_ok (c := codeOf Try.f14) Try.func14 (by kernel_rfl) (rec := ref08_With.calls) (fun g a h k hx => by
    cases hx) (loopf := ref08_With.loops) (by
    have e : loopsOf (ref08_With.loops) 0 (codeOf Try.f14) = [] := by kernel_rfl
    rw [e]
    intro p hp
    cases hp) ((ref08_With.eq t186 n187 n188 k).trans hx)
theorem ref08_With.look (d : Nat) (hd : 1 ≤ d) {e : Option Bool} {g : FuncId} {a : List AV} {h : Heap} {k : KR} (hx : ref08_With.get ref08_With e g a h k = some true) : e = some true ∨ callK Try.prog ht d g a h k = some true := by
  unfold ref08_With.get at hx
  split at hx
  · exact .inr (ref08_With.ok d hd _ _ _ _ hx)
  · exact .inl hx
/-- function 28: sheerleg/octet.Put -/
noncomputable def octet_Put.body (ns224 : List Int) (n225 : Int) (n226 : Int) (k1 : (List Int) → Option Bool) : Option Bool :=
  (cond_ (Nat.ble (((0 : Nat) + (List.length ns224)) * (1 : Nat)) (140737488355328 : Nat)) (cond_ (! (decide (n226 < (1 : Int)))) (cond_ (decide (n226 > (8 : Int))) (k1 ([] ++ ns224)) (cond_ (((decide ((0 : Int) ≤ (IntKind.wrap .i64 ((8 : Int) - n226)))) && (decide ((IntKind.wrap .i64 ((8 : Int) - n226)) ≤ (8 : Int)))) && true) (cond_ (Nat.ble (((List.length ([] ++ ns224)) + (List.length (List.take (Int.toNat ((8 : Int) - (IntKind.wrap .i64 ((8 : Int) - n226)))) (List.drop (Int.toNat (IntKind.wrap .i64 ((8 : Int) - n226))) ((IntKind.wrap .u8 (Int.fdiv n225 (72057594037927936 : Int))) :: ((IntKind.wrap .u8 (Int.fdiv n225 (281474976710656 : Int))) :: ((IntKind.wrap .u8 (Int.fdiv n225 (1099511627776 : Int))) :: ((IntKind.wrap .u8 (Int.fdiv n225 (4294967296 : Int))) :: ((IntKind.wrap .u8 (Int.fdiv n225 (16777216 : Int))) :: ((IntKind.wrap .u8 (Int.fdiv n225 (65536 : Int))) :: ((IntKind.wrap .u8 (Int.fdiv n225 (256 : Int))) :: ((IntKind.wrap .u8 (Int.fdiv n225 (1 : Int))) :: [])))))))))))) * (1 : Nat)) (140737488355328 : Nat)) (k1 (([] ++ ns224) ++ (List.take (Int.toNat ((8 : Int) - (IntKind.wrap .i64 ((8 : Int) - n226)))) (List.drop (Int.toNat (IntKind.wrap .i64 ((8 : Int) - n226))) ((IntKind.wrap .u8 (Int.fdiv n225 (72057594037927936 : Int))) :: ((IntKind.wrap .u8 (Int.fdiv n225 (281474976710656 : Int))) :: ((IntKind.wrap .u8 (Int.fdiv n225 (1099511627776 : Int))) :: ((IntKind.wrap .u8 (Int.fdiv n225 (4294967296 : Int))) :: ((IntKind.wrap .u8 (Int.fdiv n225 (16777216 : Int))) :: ((IntKind.wrap .u8 (Int.fdiv n225 (65536 : Int))) :: ((IntKind.wrap .u8 (Int.fdiv n225 (256 : Int))) :: ((IntKind.wrap .u8 (Int.fdiv n225 (1 : Int))) :: [])))))))))))) none) none)) (k1 ([] ++ ns224))) none)
noncomputable def octet_Put (ns224 : List Int) (n225 : Int) (n226 : Int) (k1 : (List Int) → Option Bool) : Option Bool := octet_Put.body ns224 n225 n226 k1
noncomputable def octet_Put.get (F : (List Int) → Int → Int → ((List Int) → Option Bool) → Option Bool) (e : Option Bool) (g : FuncId) (a : List AV) (h : Heap) (k : KR) : Option Bool := match g, a, h with
  | 28, [(.bv 0 5 (.int .u8) ns224), (.d ⟨(.int .i64), n225⟩), (.d ⟨(.int .i64), n226⟩)], [] => F ns224 n225 n226 (fun y0 => k (.ref [1, 0]) [([1, 0], ⟨5, 1, (.data (.int .u8) y0)⟩)])
  | _, _, _ => e
noncomputable def octet_Put.calls : RecF := fun g a h k => none
noncomputable def octet_Put.loops : LoopF := fun b => match Nat.beq b 0 with | true => none | false => none
set_option maxRecDepth 100000 in
theorem octet_Put.eq (ns224 : List Int) (n225 : Int) (n226 : Int) (k : KR) : execL Try.prog ht 28 (callfOf (octet_Put.calls)) (octet_Put.loops) 0 (codeOf Try.f28) ⟨[(.bv 0 5 (.int .u8) ns224), (.d ⟨(.int .i64), n225⟩), (.d ⟨(.int .i64), n226⟩)] ++ List.replicate (Try.f28.ntmps - ([(.bv 0 5 (.int .u8) ns224), (.d ⟨(.int .i64), n225⟩), (.d ⟨(.int .i64), n226⟩)] : List AV).length) .undef, [], 2⟩ (leave Try.prog Try.f28 k) = octet_Put.body ns224 n225 n226 (fun y0 => k (.ref [1, 0]) [([1, 0], ⟨5, 1, (.data (.int .u8) y0)⟩)]) := by kernel_rfl
theorem octet_Put.ok (d : Nat) (hd : 1 ≤ d) (ns224 : List Int) (n225 : Int) (n226 : Int) (k : KR) (hx : octet_Put ns224 n225 n226 (fun y0 => k (.ref [1, 0]) [([1, 0], ⟨5, 1, (.data (.int .u8) y0)⟩)]) = some true) : callK Try.prog ht d 28 [(.bv 0 5 (.int .u8) ns224), (.d ⟨(.int .i64), n225⟩), (.d ⟨(.int .i64), n226⟩)] [] k = some true := by
  obtain ⟨d, rfl⟩ : ∃ e, d = e + 1 := ⟨d - 1, by omega⟩
  exact fn_ok (c := codeOf Try.f28) Try.func28 (by kernel_rfl) (rec := octet_Put.calls) (fun g a h k hx => by
    cases hx) (loopf := octet_Put.loops) (by
    have e : loopsOf (octet_Put.loops) 0 (codeOf Try.f28) = [] := by kernel_rfl
    rw [e]
    intro p hp
    cases hp) ((octet_Put.eq ns224 n225 n226 k).trans hx)
theorem octet_Put.look (d : Nat) (hd : 1 ≤ d) {e : Option Bool} {g : FuncId} {a : List AV} {h : Heap} {k : KR} (hx : octet_Put.get octet_Put e g a h k = some true) : e = some true ∨ callK Try.prog ht d g a h k = some true := by
  unfold octet_Put.get at hx
  split at hx
  · exact .inr (octet_Put.ok d hd _ _ _ _ hx)
  · exact .inl hx
/-- function 28: sheerleg/octet.Put -/
noncomputable def octet_Putv1.body (n245 : Int) (n246 : Int) (k1 : (List Int) → Option Bool) : Option Bool :=
  (cond_ (! (decide (n246 < (1 : Int)))) (cond_ (decide (n246 > (8 : Int))) (k1 []) (cond_ (((decide ((0 : Int) ≤ (IntKind.wrap .i64 ((8 : Int) - n246)))) && (decide ((IntKind.wrap .i64 ((8 : Int) - n246)) ≤ (8 : Int)))) && true) (cond_ (Nat.ble (((0 : Nat) + (List.length (List.take (Int.toNat ((8 : Int) - (IntKind.wrap .i64 ((8 : Int) - n246)))) (List.drop (Int.toNat (IntKind.wrap .i64 ((8 : Int) - n246))) ((IntKind.wrap .u8 (Int.fdiv n245 (72057594037927936 : Int))) :: ((IntKind.wrap .u8 (Int.fdiv n245 (281474976710656 : Int))) :: ((IntKind.wrap .u8 (Int.fdiv n245 (1099511627776 : Int))) :: ((IntKind.wrap .u8 (Int.fdiv n245 (4294967296 : Int))) :: ((IntKind.wrap .u8 (Int.fdiv n245 (16777216 : Int))) :: ((IntKind.wrap .u8 (Int.fdiv n245 (65536 : Int))) :: ((IntKind.wrap .u8 (Int.fdiv n245 (256 : Int))) :: ((IntKind.wrap .u8 (Int.fdiv n245 (1 : Int))) :: [])))))))))))) * (1 : Nat)) (140737488355328 : Nat)) (k1 ([] ++ (List.take (Int.toNat ((8 : Int) - (IntKind.wrap .i64 ((8 : Int) - n246)))) (List.drop (Int.toNat (IntKind.wrap .i64 ((8 : Int) - n246))) ((IntKind.wrap .u8 (Int.fdiv n245 (72057594037927936 : Int))) :: ((IntKind.wrap .u8 (Int.fdiv n245 (281474976710656 : Int))) :: ((IntKind.wrap .u8 (Int.fdiv n245 (1099511627776 : Int))) :: ((IntKind.wrap .u8 (Int.fdiv n245 (4294967296 : Int))) :: ((IntKind.wrap .u8 (Int.fdiv n245 (16777216 : Int))) :: ((IntKind.wrap .u8 (Int.fdiv n245 (65536 : Int))) :: ((IntKind.wrap .u8 (Int.fdiv n245 (256 : Int))) :: ((IntKind.wrap .u8 (Int.fdiv n245 (1 : Int))) :: [])))))))))))) none) none)) (k1 []))
noncomputable def octet_Putv1 (n245 : Int) (n246 : Int) (k1 : (List Int) → Option Bool) : Option Bool := octet_Putv1.body n245 n246 k1
noncomputable def octet_Putv1.get (F : Int → Int → ((List Int) → Option Bool) → Option Bool) (e : Option Bool) (g : FuncId) (a : List AV) (h : Heap) (k : KR) : Option Bool := match g, a, h with
  | 28, [.nils, (.d ⟨(.int .i64), n245⟩), (.d ⟨(.int .i64), n246⟩)], [] => F n245 n246 (fun y0 => k (.ref [1, 0]) [([1, 0], ⟨5, 1, (.data (.int .u8) y0)⟩)])
  | _, _, _ => e
noncomputable def octet_Putv1.calls : RecF := fun g a h k => none
noncomputable def octet_Putv1.loops : LoopF := fun b => match Nat.beq b 0 with | true => none | false => none
set_option maxRecDepth 100000 in
theorem octet_Putv1.eq (n245 : Int) (n246 : Int) (k : KR) : execL Try.prog ht 28 (callfOf (octet_Putv1.calls)) (octet_Putv1.loops) 0 (codeOf Try.f28) ⟨[.nils, (.d ⟨(.int .i64), n245⟩), (.d ⟨(.int .i64), n246⟩)] ++ List.replicate (Try.f28.ntmps - ([.nils, (.d ⟨(.int .i64), n245⟩), (.d ⟨(.int .i64), n246⟩)] : List AV).length) .undef, [], 2⟩ (leave Try.prog Try.f28 k) = octet_Putv1.body n245 n246 (fun y0 => k (.ref [1, 0]) [([1, 0], ⟨5, 1, (.data (.int .u8) y0)⟩)]) := by kernel_rfl
theorem octet_Putv1.ok (d : Nat) (hd : 1 ≤ d) (n245 : Int) (n246 : Int) (k : KR) (hx : octet_Putv1 n245 n246 (fun y0 => k (.ref [1, 0]) [([1, 0], ⟨5, 1, (.data (.int .u8) y0)⟩)]) = some true) : callK Try.prog ht d 28 [.nils, (.d ⟨(.int .i64), n245⟩), (.d ⟨(.int .i64), n246⟩)] [] k = some true := by
  obtain ⟨d, rfl⟩ : ∃ e, d = e + 1 := ⟨d - 1, by omega⟩
  exact fn_ok (c := codeOf Try.f28) Try.func28 (by kernel_rfl) (rec := octet_Putv1.calls) (fun g a h k hx => by
    cases hx) (loopf := octet_Putv1.loops) (by
    have e : loopsOf (octet_Putv1.loops) 0 (codeOf Try.f28) = [] := by kernel_rfl
    rw [e]
    intro p hp
    cases hp) ((octet_Putv1.eq n245 n246 k).trans hx)
theorem octet_Putv1.look (d : Nat) (hd : 1 ≤ d) {e : Option Bool} {g : FuncId} {a : List AV} {h : Heap} {k : KR} (hx : octet_Putv1.get octet_Putv1 e g a h k = some true) : e = some true ∨ callK Try.prog ht d g a h k = some true := by
  unfold octet_Putv1.get at hx
  split at hx
  · exact .inr (octet_Putv1.ok d hd _ _ _ hx)
  · exact .inl hx
/-- function 9: the loop in block 0 -/
noncomputable def instr_Put_L0.body (instr_Put_L0 : (List Int) → Tc1 → Int → ((List Int) → Option Bool) → ((List Int) → Option Bool) → Option Bool) (octet_Put : (List Int) → Int → Int → ((List Int) → Option Bool) → Option Bool) (ns259 : List Int) (t260 : Tc1) (n261 : Int) (k1 : (List Int) → Option Bool) (k2 : (List Int) → Option Bool) : Option Bool :=
  (cond_ (decide (n261 < (5 : Int))) (cond_ ((decide ((0 : Int) ≤ n261)) && (decide (n261 < (5 : Int)))) (cond_ (n261 == (4 : Int)) (octet_Put ns259 (List.getD (t260.1 :: (t260.2.1 :: (t260.2.2.1 :: (t260.2.2.2.1 :: (t260.2.2.2.2.1 :: []))))) (Int.toNat n261) (0 : Int)) (4 : Int)
  (fun ns262 => (k1 ns262))) (octet_Put ns259 (List.getD (t260.1 :: (t260.2.1 :: (t260.2.2.1 :: (t260.2.2.2.1 :: (t260.2.2.2.2.1 :: []))))) (Int.toNat n261) (0 : Int)) (1 : Int)
  (fun ns263 => (instr_Put_L0 ns263 t260 (IntKind.wrap .i64 (n261 + (1 : Int))) k1 k2)))) none) (k2 ns259))
noncomputable def instr_Put_L0 : Nat → (List Int) → Tc1 → Int → ((List Int) → Option Bool) → ((List Int) → Option Bool) → Option Bool
  | 0 => fun _ _ _ _ _ => none
  | n + 1 => instr_Put_L0.body (instr_Put_L0 n) octet_Put
noncomputable def instr_Put_L0.get (F : (List Int) → Tc1 → Int → ((List Int) → Option Bool) → ((List Int) → Option Bool) → Option Bool) (e : Option Bool) (st : St) (k : KE) : Option Bool := match st with
  | ⟨sl, hp, m⟩ => match Nat.beq m 2, pickS 23 [0, 8, 9] sl, hp with
    | true, some [(.bv 0 5 (.int .u8) ns259), (.d ⟨(.st [(.int .i64), (.int .i64), (.int .i64), (.int .i64), (.int .i64)]), t260⟩), (.d ⟨(.int .i64), n261⟩)], [] => F ns259 t260 n261 (fun y0 => k .ret ⟨fillS 23 [4] [(.bv 0 5 (.int .u8) y0)], [], 2⟩) (fun y0 => k (.exit 0) ⟨fillS 23 [0] [(.bv 0 5 (.int .u8) y0)], [], 2⟩)
    | _, _, _ => e
noncomputable def instr_Put_L0.calls (F0 : (List Int) → Int → Int → ((List Int) → Option Bool) → Option Bool) : RecF := fun g a h k => (octet_Put.get F0 none g a h k)
noncomputable def instr_Put_L0.loops : LoopF := fun b => none
set_option maxRecDepth 100000 in
theorem instr_Put_L0.step (S : (List Int) → Tc1 → Int → ((List Int) → Option Bool) → ((List Int) → Option Bool) → Option Bool) (F0 : (List Int) → Int → Int → ((List Int) → Option Bool) → Option Bool) (ns259 : List Int) (t260 : Tc1) (n261 : Int) (k : KE) : execL Try.prog ht 9 (callfOf (instr_Put_L0.calls F0)) (instr_Put_L0.loops) 0 (loopAt 0 (codeOf Try.f9)) ⟨fillS 23 [0, 8, 9] [(.bv 0 5 (.int .u8) ns259), (.d ⟨(.st [(.int .i64), (.int .i64), (.int .i64), (.int .i64), (.int .i64)]), t260⟩), (.d ⟨(.int .i64), n261⟩)], [], 2⟩ (again (instr_Put_L0.get S none) (plan Try.prog (ht 9 0)) k) = instr_Put_L0.body S F0 ns259 t260 n261 (fun y0 => k .ret ⟨fillS 23 [4] [(.bv 0 5 (.int .u8) y0)], [], 2⟩) (fun y0 => k (.exit 0) ⟨fillS 23 [0] [(.bv 0 5 (.int .u8) y0)], [], 2⟩) := by kernel_rfl
theorem instr_Put_L0.ok (d : Nat) (hd : 1 ≤ d) : ∀ n st k, instr_Put_L0.get (instr_Put_L0 n) none st k = some true → iter n (plan Try.prog (ht 9 0)) (fun st k => execK Try.prog ht 9 (callfOf (callK Try.prog ht d)) 0 (loopAt 0 (codeOf Try.f9)) st k) st k = some true :=
  loop_ok (lfn := fun n st k => instr_Put_L0.get (instr_Put_L0 n) none st k) (rec := instr_Put_L0.calls octet_Put) (fun g a h k hx => by
    rcases octet_Put.look d (by omega) hx with hx | hx
    rotate_left
    · exact hx
    cases hx) (loopf := instr_Put_L0.loops) (by
    have e : loopsOf (instr_Put_L0.loops) 0 (loopAt 0 (codeOf Try.f9)) = [] := by kernel_rfl
    rw [e]
    intro p hp
    cases hp) (fun st k h => by
    obtain ⟨sl, hp, m⟩ := st
    unfold instr_Put_L0.get at h
    dsimp only at h
    split at h
    · have h' : (none : Option Bool) = some true := h
      cases h'
    · cases h) (fun n st k h => by
    obtain ⟨sl, hp, m⟩ := st
    unfold instr_Put_L0.get at h
    dsimp only at h
    split at h
    · rename_i h1 h2
      obtain rfl := pickS_ok h2
      obtain rfl := Nat.eq_of_beq_eq_true h1
      exact (instr_Put_L0.step (instr_Put_L0 n) octet_Put _ _ _ k).trans h
    · cases h)
theorem instr_Put_L0.look {F : (List Int) → Tc1 → Int → ((List Int) → Option Bool) → ((List Int) → Option Bool) → Option Bool} {e : Option Bool} {st : St} {k : KE} (hx : instr_Put_L0.get F e st k = some true) : e = some true ∨ instr_Put_L0.get F none st k = some true := by
  obtain ⟨sl, hp, m⟩ := st
  unfold instr_Put_L0.get at hx ⊢
  dsimp only at hx ⊢
  split at hx
  · exact .inr hx
  · exact .inl hx
/-- function 9: sheerleg/instr.Put -/
noncomputable def instr_Put.body (instr_numbers : Tc1 → (Tc1 → Option Bool) → Option Bool) (instr_Put_L0 : (List Int) → Tc1 → Int → ((List Int) → Option Bool) → ((List Int) → Option Bool) → Option Bool) (ns256 : List Int) (t257 : Tc1) (k1 : (List Int) → Option Bool) : Option Bool :=
  (instr_numbers t257
  (fun t258 => (instr_Put_L0 ns256 t258 (0 : Int)
  (fun ns264 => (k1 ns264))
  (fun ns265 => (k1 ns265)))))
noncomputable def instr_Put (ns256 : List Int) (t257 : Tc1) (k1 : (List Int) → Option Bool) : Option Bool := instr_Put.body instr_numbers (instr_Put_L0 ROUNDS) ns256 t257 k1
noncomputable def instr_Put.get (F : (List Int) → Tc1 → ((List Int) → Option Bool) → Option Bool) (e : Option Bool) (g : FuncId) (a : List AV) (h : Heap) (k : KR) : Option Bool := match g, a, h with
  | 9, [(.bv 0 5 (.int .u8) ns256), (.d ⟨(.st [(.int .i64), (.int .i64), (.int .i64), (.int .i64), (.int .i64)]), t257⟩)], [] => F ns256 t257 (fun y0 => k (.bv 0 5 (.int .u8) y0) [])
  | _, _, _ => e
noncomputable def instr_Put.calls (F0 : Tc1 → (Tc1 → Option Bool) → Option Bool) : RecF := fun g a h k => (instr_numbers.get F0 none g a h k)
noncomputable def instr_Put.loops (L0 : (List Int) → Tc1 → Int → ((List Int) → Option Bool) → ((List Int) → Option Bool) → Option Bool) : LoopF := fun b => match Nat.beq b 0 with | true => some (fun st k => (instr_Put_L0.get L0 none st k)) | false => none
set_option maxRecDepth 100000 in
theorem instr_Put.eq (F0 : Tc1 → (Tc1 → Option Bool) → Option Bool) (L0 : (List Int) → Tc1 → Int → ((List Int) → Option Bool) → ((List Int) → Option Bool) → Option Bool) (ns256 : List Int) (t257 : Tc1) (k : KR) : execL Try.prog ht 9 (callfOf (instr_Put.calls F0)) (instr_Put.loops L0) 0 (codeOf Try.f9) ⟨[(.bv 0 5 (.int .u8) ns256), (.d ⟨(.st [(.int .i64), (.int .i64), (.int .i64), (.int .i64), (.int .i64)]), t257⟩)] ++ List.replicate (Try.f9.ntmps - ([(.bv 0 5 (.int .u8) ns256), (.d ⟨(.st [(.int .i64), (.int .i64), (.int .i64), (.int .i64), (.int .i64)]), t257⟩)] : List AV).length) .undef, [], 2⟩ (leave Try.prog Try.f9 k) = instr_Put.body F0 L0 ns256 t257 (fun y0 => k (.bv 0 5 (.int .u8) y0) []) := by kernel_rfl
theorem instr_Put.ok (d : Nat) (hd : 2 ≤ d) (ns256 : List Int) (t257 : Tc1) (k : KR) (hx : instr_Put ns256 t257 (fun y0 => k (.bv 0 5 (.int .u8) y0) []) = some true) : callK Try.prog ht d 9 [(.bv 0 5 (.int .u8) ns256), (.d ⟨(.st [(.int .i64), (.int .i64), (.int .i64), (.int .i64), (.int .i64)]), t257⟩)] [] k = some true := by
  obtain ⟨d, rfl⟩ : ∃ e, d = e + 1 := ⟨d - 1, by omega⟩
  exact fn_ok (c := codeOf Try.f9) Try.func9 (by kernel_rfl) (rec := instr_Put.calls instr_numbers) (fun g a h k hx => by
    rcases instr_numbers.look d (by omega) hx with hx | hx
    rotate_left
    · exact hx
    cases hx) (loopf := instr_Put.loops (instr_Put_L0 ROUNDS)) (by
    have e : loopsOf (instr_Put.loops (instr_Put_L0 ROUNDS)) 0 (codeOf Try.f9) = [(0, loopAt 0 (codeOf Try.f9))] := by kernel_rfl
    rw [e]
    intro p hp
    simp only [List.mem_cons, List.not_mem_nil, or_false] at hp
    rcases hp with rfl
    · refine loopRef_of (callf := callfOf (callK Try.prog ht d)) (callfOf_ref (callK_mono d)) fun lf st k hb hx => ?_
      cases hb
      rcases instr_Put_L0.look hx with hx | hx
      rotate_left
      · exact instr_Put_L0.ok d (by omega) _ _ _ hx
      cases hx) ((instr_Put.eq instr_numbers (instr_Put_L0 ROUNDS) ns256 t257 k).trans hx)
theorem instr_Put.look (d : Nat) (hd : 2 ≤ d) {e : Option Bool} {g : FuncId} {a : List AV} {h : Heap} {k : KR} (hx : instr_Put.get instr_Put e g a h k = some true) : e = some true ∨ callK Try.prog ht d g a h k = some true := by
  unfold instr_Put.get at hx
  split at hx
  · exact .inr (instr_Put.ok d hd _ _ _ hx)
  · exact .inl hx
/-- function 3: sheerleg/sheerleglaw08.InstrTells -/
noncomputable def law08_InstrTells.body (law08_known : (Bool → Option Bool) → Option Bool) (instr_Check : Tc1 → (Int → Option Bool) → Option Bool) (ref08_Check : Tc1 → (Int → Option Bool) → Option Bool) (instr_Put : (List Int) → Tc1 → ((List Int) → Option Bool) → Option Bool) (ref08_Put : (List Int) → Tc1 → ((List Int) → Option Bool) → Option Bool) (instr_Operand : Tc1 → Int → (Int → Option Bool) → Option Bool) (ref08_Operand : Tc1 → Int → (Int → Option Bool) → Option Bool) (instr_With : Tc1 → Int → Int → (Tc1 → Option Bool) → Option Bool) (ref08_With : Tc1 → Int → Int → (Tc1 → Option Bool) → Option Bool) (t249 : Tc1) (ns250 : List Int) (n251 : Int) (n252 : Int) (k1 : Bool → Option Bool) : Option Bool :=
  (cond_ (decide ((((List.length ns250) : Nat) : Int) > (100 : Int))) (law08_known
  (fun b253 => (k1 b253))) (instr_Check t249
  (fun n254 => (ref08_Check t249
  (fun n255 => (cond_ (n254 == n255) (instr_Put ns250 t249
  (fun ns266 => (ref08_Put ns250 t249
  (fun ns267 => (cond_ ((ByteArray.toList (strOf ns266)) == (ByteArray.toList (strOf ns267))) (instr_Operand t249 n251
  (fun n268 => (ref08_Operand t249 n251
  (fun n269 => (cond_ (n268 == n269) (instr_With t249 n251 n252
  (fun t270 => (ref08_With t249 n251 n252
  (fun t271 => (cond_ ((t270.1 == t271.1) && ((t270.2.1 == t271.2.1) && ((t270.2.2.1 == t271.2.2.1) && ((t270.2.2.2.1 == t271.2.2.2.1) && ((t270.2.2.2.2.1 == t271.2.2.2.2.1) && true))))) (law08_known
  (fun b272 => (k1 b272))) (k1 false)))))) (k1 false)))))) (k1 false)))))) (k1 false)))))))
noncomputable def law08_InstrTells (t249 : Tc1) (ns250 : List Int) (n251 : Int) (n252 : Int) (k1 : Bool → Option Bool) : Option Bool := law08_InstrTells.body law08_known instr_Check ref08_Check instr_Put ref08_Put instr_Operand ref08_Operand instr_With ref08_With t249 ns250 n251 n252 k1
noncomputable def law08_InstrTells.get (F : Tc1 → (List Int) → Int → Int → (Bool → Option Bool) → Option Bool) (e : Option Bool) (g : FuncId) (a : List AV) (h : Heap) (k : KR) : Option Bool := match g, a, h with
  | 3, [(.d ⟨(.st [(.int .i64), (.int .i64), (.int .i64), (.int .i64), (.int .i64)]), t249⟩), (.bv 0 5 (.int .u8) ns250), (.d ⟨(.int .i64), n251⟩), (.d ⟨(.int .i64), n252⟩)], [] => F t249 ns250 n251 n252 (fun y0 => k (.d ⟨.bool, y0⟩) [])
  | _, _, _ => e
noncomputable def law08_InstrTells.calls (F0 : (Bool → Option Bool) → Option Bool) (F1 : Tc1 → (Int → Option Bool) → Option Bool) (F2 : Tc1 → (Int → Option Bool) → Option Bool) (F3 : (List Int) → Tc1 → ((List Int) → Option Bool) → Option Bool) (F4 : (List Int) → Tc1 → ((List Int) → Option Bool) → Option Bool) (F5 : Tc1 → Int → (Int → Option Bool) → Option Bool) (F6 : Tc1 → Int → (Int → Option Bool) → Option Bool) (F7 : Tc1 → Int → Int → (Tc1 → Option Bool) → Option Bool) (F8 : Tc1 → Int → Int → (Tc1 → Option Bool) → Option Bool) : RecF := fun g a h k => (law08_known.get F0 (instr_Check.get F1 (ref08_Check.get F2 (instr_Put.get F3 (ref08_Put.get F4 (instr_Operand.get F5 (ref08_Operand.get F6 (instr_With.get F7 (ref08_With.get F8 none g a h k) g a h k) g a h k) g a h k) g a h k) g a h k) g a h k) g a h k) g a h k)
noncomputable def law08_InstrTells.loops : LoopF := fun b => none
set_option maxRecDepth 100000 in
theorem law08_InstrTells.eq (F0 : (Bool → Option Bool) → Option Bool) (F1 : Tc1 → (Int → Option Bool) → Option Bool) (F2 : Tc1 → (Int → Option Bool) → Option Bool) (F3 : (List Int) → Tc1 → ((List Int) → Option Bool) → Option Bool) (F4 : (List Int) → Tc1 → ((List Int) → Option Bool) → Option Bool) (F5 : Tc1 → Int → (Int → Option Bool) → Option Bool) (F6 : Tc1 → Int → (Int → Option Bool) → Option Bool) (F7 : Tc1 → Int → Int → (Tc1 → Option Bool) → Option Bool) (F8 : Tc1 → Int → Int → (Tc1 → Option Bool) → Option Bool) (t249 : Tc1) (ns250 : List Int) (n251 : Int) (n252 : Int) (k : KR) : execL Try.prog ht 3 (callfOf (law08_InstrTells.calls F0 F1 F2 F3 F4 F5 F6 F7 F8)) (law08_InstrTells.loops) 0 (codeOf Try.f3) ⟨[(.d ⟨(.st [(.int .i64), (.int .i64), (.int .i64), (.int .i64), (.int .i64)]), t249⟩), (.bv 0 5 (.int .u8) ns250), (.d ⟨(.int .i64), n251⟩), (.d ⟨(.int .i64), n252⟩)] ++ List.replicate (Try.f3.ntmps - ([(.d ⟨(.st [(.int .i64), (.int .i64), (.int .i64), (.int .i64), (.int .i64)]), t249⟩), (.bv 0 5 (.int .u8) ns250), (.d ⟨(.int .i64), n251⟩), (.d ⟨(.int .i64), n252⟩)] : List AV).length) .undef, [], 2⟩ (leave Try.prog Try.f3 k) = law08_InstrTells.body F0 F1 F2 F3 F4 F5 F6 F7 F8 t249 ns250 n251 n252 (fun y0 => k (.d ⟨.bool, y0⟩) []) := by kernel_rfl
theorem law08_InstrTells.ok (d : Nat) (hd : 61 ≤ d) (t249 : Tc1) (ns250 : List Int) (n251 : Int) (n252 : Int) (k : KR) (hx : law08_InstrTells t249 ns250 n251 n252 (fun y0 => k (.d ⟨.bool, y0⟩) []) = some true) : callK Try.prog ht d 3 [(.d ⟨(.st [(.int .i64), (.int .i64), (.int .i64), (.int .i64), (.int .i64)]), t249⟩), (.bv 0 5 (.int .u8) ns250), (.d ⟨(.int .i64), n251⟩), (.d ⟨(.int .i64), n252⟩)] [] k = some true := by
  obtain ⟨d, rfl⟩ : ∃ e, d = e + 1 := ⟨d - 1, by omega⟩
  exact fn_ok (c := codeOf Try.f3) Try.func3 (by kernel_rfl) (rec := law08_InstrTells.calls law08_known instr_Check ref08_Check instr_Put ref08_Put instr_Operand ref08_Operand instr_With ref08_With) (fun g a h k hx => by
    rcases law08_known.look d (by omega) hx with hx | hx
    rotate_left
    · exact hx
    rcases instr_Check.look d (by omega) hx with hx | hx
    rotate_left
    · exact hx
    rcases ref08_Check.look d (by omega) hx with hx | hx
    rotate_left
    · exact hx
    rcases instr_Put.look d (by omega) hx with hx | hx
    rotate_left
    · exact hx
    rcases ref08_Put.look d (by omega) hx with hx | hx
    rotate_left
    · exact hx
    rcases instr_Operand.look d (by omega) hx with hx | hx
    rotate_left
    · exact hx
    rcases ref08_Operand.look d (by omega) hx with hx | hx
    rotate_left
    · exact hx
    rcases instr_With.look d (by omega) hx with hx | hx
    rotate_left
    · exact hx
    rcases ref08_With.look d (by omega) hx with hx | hx
    rotate_left
    · exact hx
    cases hx) (loopf := law08_InstrTells.loops) (by
    have e : loopsOf (law08_InstrTells.loops) 0 (codeOf Try.f3) = [] := by kernel_rfl
    rw [e]
    intro p hp
    cases hp) ((law08_InstrTells.eq law08_known instr_Check ref08_Check instr_Put ref08_Put instr_Operand ref08_Operand instr_With ref08_With t249 ns250 n251 n252 k).trans hx)
theorem law08_InstrTells.look (d : Nat) (hd : 61 ≤ d) {e : Option Bool} {g : FuncId} {a : List AV} {h : Heap} {k : KR} (hx : law08_InstrTells.get law08_InstrTells e g a h k = some true) : e = some true ∨ callK Try.prog ht d g a h k = some true := by
  unfold law08_InstrTells.get at hx
  split at hx
  · exact .inr (law08_InstrTells.ok d hd _ _ _ _ _ hx)
  · exact .inl hx
/-- function 9: the loop in block 0 -/
noncomputable def instr_Putv1_L0.body (instr_Putv1_L0 : (List Int) → Tc1 → Int → ((List Int) → Option Bool) → ((List Int) → Option Bool) → Option Bool) (octet_Put : (List Int) → Int → Int → ((List Int) → Option Bool) → Option Bool) (ns278 : List Int) (t279 : Tc1) (n280 : Int) (k1 : (List Int) → Option Bool) (k2 : (List Int) → Option Bool) : Option Bool :=
  (cond_ (decide (n280 < (5 : Int))) (cond_ ((decide ((0 : Int) ≤ n280)) && (decide (n280 < (5 : Int)))) (cond_ (n280 == (4 : Int)) (octet_Put ns278 (List.getD (t279.1 :: (t279.2.1 :: (t279.2.2.1 :: (t279.2.2.2.1 :: (t279.2.2.2.2.1 :: []))))) (Int.toNat n280) (0 : Int)) (4 : Int)
  (fun ns281 => (k1 ns281))) (octet_Put ns278 (List.getD (t279.1 :: (t279.2.1 :: (t279.2.2.1 :: (t279.2.2.2.1 :: (t279.2.2.2.2.1 :: []))))) (Int.toNat n280) (0 : Int)) (1 : Int)
  (fun ns282 => (instr_Putv1_L0 ns282 t279 (IntKind.wrap .i64 (n280 + (1 : Int))) k1 k2)))) none) (k2 ns278))
noncomputable def instr_Putv1_L0 : Nat → (List Int) → Tc1 → Int → ((List Int) → Option Bool) → ((List Int) → Option Bool) → Option Bool
  | 0 => fun _ _ _ _ _ => none
  | n + 1 => instr_Putv1_L0.body (instr_Putv1_L0 n) octet_Put
noncomputable def instr_Putv1_L0.get (F : (List Int) → Tc1 → Int → ((List Int) → Option Bool) → ((List Int) → Option Bool) → Option Bool) (e : Option Bool) (st : St) (k : KE) : Option Bool := match st with
  | ⟨sl, hp, m⟩ => match Nat.beq m 2, pickS 23 [0, 8, 9] sl, hp with
    | true, some [(.bv 0 5 (.int .u8) ns278), (.d ⟨(.st [(.int .i64), (.int .i64), (.int .i64), (.int .i64), (.int .i64)]), t279⟩), (.d ⟨(.int .i64), n280⟩)], [] => F ns278 t279 n280 (fun y0 => k .ret ⟨fillS 23 [4] [(.bv 0 5 (.int .u8) y0)], [], 2⟩) (fun y0 => k (.exit 0) ⟨fillS 23 [0] [(.bv 0 5 (.int .u8) y0)], [], 2⟩)
    | _, _, _ => e
noncomputable def instr_Putv1_L0.calls (F0 : (List Int) → Int → Int → ((List Int) → Option Bool) → Option Bool) : RecF := fun g a h k => (octet_Put.get F0 none g a h k)
noncomputable def instr_Putv1_L0.loops : LoopF := fun b => none
set_option maxRecDepth 100000 in
theorem instr_Putv1_L0.step (S : (List Int) → Tc1 → Int → ((List Int) → Option Bool) → ((List Int) → Option Bool) → Option Bool) (F0 : (List Int) → Int → Int → ((List Int) → Option Bool) → Option Bool) (ns278 : List Int) (t279 : Tc1) (n280 : Int) (k : KE) : execL Try.prog ht 9 (callfOf (instr_Putv1_L0.calls F0)) (instr_Putv1_L0.loops) 0 (loopAt 0 (codeOf Try.f9)) ⟨fillS 23 [0, 8, 9] [(.bv 0 5 (.int .u8) ns278), (.d ⟨(.st [(.int .i64), (.int .i64), (.int .i64), (.int .i64), (.int .i64)]), t279⟩), (.d ⟨(.int .i64), n280⟩)], [], 2⟩ (again (instr_Putv1_L0.get S none) (plan Try.prog (ht 9 0)) k) = instr_Putv1_L0.body S F0 ns278 t279 n280 (fun y0 => k .ret ⟨fillS 23 [4] [(.bv 0 5 (.int .u8) y0)], [], 2⟩) (fun y0 => k (.exit 0) ⟨fillS 23 [0] [(.bv 0 5 (.int .u8) y0)], [], 2⟩) := by kernel_rfl
theorem instr_Putv1_L0.ok (d : Nat) (hd : 1 ≤ d) : ∀ n st k, instr_Putv1_L0.get (instr_Putv1_L0 n) none st k = some true → iter n (plan Try.prog (ht 9 0)) (fun st k => execK Try.prog ht 9 (callfOf (callK Try.prog ht d)) 0 (loopAt 0 (codeOf Try.f9)) st k) st k = some true :=
  loop_ok (lfn := fun n st k => instr_Putv1_L0.get (instr_Putv1_L0 n) none st k) (rec := instr_Putv1_L0.calls octet_Put) (fun g a h k hx => by
    rcases octet_Put.look d (by omega) hx with hx | hx
    rotate_left
    · exact hx
    cases hx) (loopf := instr_Putv1_L0.loops) (by
    have e : loopsOf (instr_Putv1_L0.loops) 0 (loopAt 0 (codeOf Try.f9)) = [] := by kernel_rfl
    rw [e]
    intro p hp
    cases hp) (fun st k h => by
    obtain ⟨sl, hp, m⟩ := st
    unfold instr_Putv1_L0.get at h
    dsimp only at h
    split at h
    · have h' : (none : Option Bool) = some true := h
      cases h'
    · cases h) (fun n st k h => by
    obtain ⟨sl, hp, m⟩ := st
    unfold instr_Putv1_L0.get at h
    dsimp only at h
    split at h
    · rename_i h1 h2
      obtain rfl := pickS_ok h2
      obtain rfl := Nat.eq_of_beq_eq_true h1
      exact (instr_Putv1_L0.step (instr_Putv1_L0 n) octet_Put _ _ _ k).trans h
    · cases h)
theorem instr_Putv1_L0.look {F : (List Int) → Tc1 → Int → ((List Int) → Option Bool) → ((List Int) → Option Bool) → Option Bool} {e : Option Bool} {st : St} {k : KE} (hx : instr_Putv1_L0.get F e st k = some true) : e = some true ∨ instr_Putv1_L0.get F none st k = some true := by
  obtain ⟨sl, hp, m⟩ := st
  unfold instr_Putv1_L0.get at hx ⊢
  dsimp only at hx ⊢
  split at hx
  · exact .inr hx
  · exact .inl hx
/-- function 9: sheerleg/instr.Put -/
noncomputable def instr_Putv1.body (instr_numbers : Tc1 → (Tc1 → Option Bool) → Option Bool) (instr_Putv1_L0 : (List Int) → Tc1 → Int → ((List Int) → Option Bool) → ((List Int) → Option Bool) → Option Bool) (t276 : Tc1) (k1 : (List Int) → Option Bool) : Option Bool :=
  (instr_numbers t276
  (fun t277 => (instr_Putv1_L0 [] t277 (0 : Int)
  (fun ns283 => (k1 ns283))
  (fun ns284 => (k1 ns284)))))
noncomputable def instr_Putv1 (t276 : Tc1) (k1 : (List Int) → Option Bool) : Option Bool := instr_Putv1.body instr_numbers (instr_Putv1_L0 ROUNDS) t276 k1
noncomputable def instr_Putv1.get (F : Tc1 → ((List Int) → Option Bool) → Option Bool) (e : Option Bool) (g : FuncId) (a : List AV) (h : Heap) (k : KR) : Option Bool := match g, a, h with
  | 9, [.nils, (.d ⟨(.st [(.int .i64), (.int .i64), (.int .i64), (.int .i64), (.int .i64)]), t276⟩)], [] => F t276 (fun y0 => k (.bv 0 5 (.int .u8) y0) [])
  | _, _, _ => e
noncomputable def instr_Putv1.calls (F0 : Tc1 → (Tc1 → Option Bool) → Option Bool) : RecF := fun g a h k => (instr_numbers.get F0 none g a h k)
noncomputable def instr_Putv1.loops (L0 : (List Int) → Tc1 → Int → ((List Int) → Option Bool) → ((List Int) → Option Bool) → Option Bool) : LoopF := fun b => match Nat.beq b 0 with | true => some (fun st k => (instr_Putv1_L0.get L0 none st k)) | false => none
set_option maxRecDepth 100000 in
theorem instr_Putv1.eq (F0 : Tc1 → (Tc1 → Option Bool) → Option Bool) (L0 : (List Int) → Tc1 → Int → ((List Int) → Option Bool) → ((List Int) → Option Bool) → Option Bool) (t276 : Tc1) (k : KR) : execL Try.prog ht 9 (callfOf (instr_Putv1.calls F0)) (instr_Putv1.loops L0) 0 (codeOf Try.f9) ⟨[.nils, (.d ⟨(.st [(.int .i64), (.int .i64), (.int .i64), (.int .i64), (.int .i64)]), t276⟩)] ++ List.replicate (Try.f9.ntmps - ([.nils, (.d ⟨(.st [(.int .i64), (.int .i64), (.int .i64), (.int .i64), (.int .i64)]), t276⟩)] : List AV).length) .undef, [], 2⟩ (leave Try.prog Try.f9 k) = instr_Putv1.body F0 L0 t276 (fun y0 => k (.bv 0 5 (.int .u8) y0) []) := by kernel_rfl
theorem instr_Putv1.ok (d : Nat) (hd : 2 ≤ d) (t276 : Tc1) (k : KR) (hx : instr_Putv1 t276 (fun y0 => k (.bv 0 5 (.int .u8) y0) []) = some true) : callK Try.prog ht d 9 [.nils, (.d ⟨(.st [(.int .i64), (.int .i64), (.int .i64), (.int .i64), (.int .i64)]), t276⟩)] [] k = some true := by
  obtain ⟨d, rfl⟩ : ∃ e, d = e + 1 := ⟨d - 1, by omega⟩
  exact fn_ok (c := codeOf Try.f9) Try.func9 (by kernel_rfl) (rec := instr_Putv1.calls instr_numbers) (fun g a h k hx => by
    rcases instr_numbers.look d (by omega) hx with hx | hx
    rotate_left
    · exact hx
    cases hx) (loopf := instr_Putv1.loops (instr_Putv1_L0 ROUNDS)) (by
    have e : loopsOf (instr_Putv1.loops (instr_Putv1_L0 ROUNDS)) 0 (codeOf Try.f9) = [(0, loopAt 0 (codeOf Try.f9))] := by kernel_rfl
    rw [e]
    intro p hp
    simp only [List.mem_cons, List.not_mem_nil, or_false] at hp
    rcases hp with rfl
    · refine loopRef_of (callf := callfOf (callK Try.prog ht d)) (callfOf_ref (callK_mono d)) fun lf st k hb hx => ?_
      cases hb
      rcases instr_Putv1_L0.look hx with hx | hx
      rotate_left
      · exact instr_Putv1_L0.ok d (by omega) _ _ _ hx
      cases hx) ((instr_Putv1.eq instr_numbers (instr_Putv1_L0 ROUNDS) t276 k).trans hx)
theorem instr_Putv1.look (d : Nat) (hd : 2 ≤ d) {e : Option Bool} {g : FuncId} {a : List AV} {h : Heap} {k : KR} (hx : instr_Putv1.get instr_Putv1 e g a h k = some true) : e = some true ∨ callK Try.prog ht d g a h k = some true := by
  unfold instr_Putv1.get at hx
  split at hx
  · exact .inr (instr_Putv1.ok d hd _ _ hx)
  · exact .inl hx
/-- function 15: sheerleg/octet.New -/
noncomputable def octet_New.body (ns286 : List Int) (k1 : Int → Bool → Bool → (List Int) → Option Bool) : Option Bool :=
  (cond_ (Nat.ble (((0 : Nat) + (List.length ns286)) * (1 : Nat)) (140737488355328 : Nat)) (k1 (0 : Int) true false ([] ++ ns286)) none)
noncomputable def octet_New (ns286 : List Int) (k1 : Int → Bool → Bool → (List Int) → Option Bool) : Option Bool := octet_New.body ns286 k1
noncomputable def octet_New.get (F : (List Int) → (Int → Bool → Bool → (List Int) → Option Bool) → Option Bool) (e : Option Bool) (g : FuncId) (a : List AV) (h : Heap) (k : KR) : Option Bool := match g, a, h with
  | 15, [(.bv 0 5 (.int .u8) ns286)], [] => F ns286 (fun y0 y1 y2 y3 => k (.ptr [1, 0] 0 0) [([1, 0], ⟨54, 4, (.mix [(.agg [(.ref [1, 1]), (.d ⟨(.int .i64), y0⟩), (.d ⟨.bool, y1⟩), (.d ⟨.bool, y2⟩)])])⟩), ([1, 1], ⟨5, 1, (.data (.int .u8) y3)⟩)])
  | _, _, _ => e
noncomputable def octet_New.calls : RecF := fun g a h k => none
noncomputable def octet_New.loops : LoopF := fun b => none
set_option maxRecDepth 100000 in
theorem octet_New.eq (ns286 : List Int) (k : KR) : execL Try.prog ht 15 (callfOf (octet_New.calls)) (octet_New.loops) 0 (codeOf Try.f15) ⟨[(.bv 0 5 (.int .u8) ns286)] ++ List.replicate (Try.f15.ntmps - ([(.bv 0 5 (.int .u8) ns286)] : List AV).length) .undef, [], 2⟩ (leave Try.prog Try.f15 k) = octet_New.body ns286 (fun y0 y1 y2 y3 => k (.ptr [1, 0] 0 0) [([1, 0], ⟨54, 4, (.mix [(.agg [(.ref [1, 1]), (.d ⟨(.int .i64), y0⟩), (.d ⟨.bool, y1⟩), (.d ⟨.bool, y2⟩)])])⟩), ([1, 1], ⟨5, 1, (.data (.int .u8) y3)⟩)]) := by kernel_rfl
theorem octet_New.ok (d : Nat) (hd : 1 ≤ d) (ns286 : List Int) (k : KR) (hx : octet_New ns286 (fun y0 y1 y2 y3 => k (.ptr [1, 0] 0 0) [([1, 0], ⟨54, 4, (.mix [(.agg [(.ref [1, 1]), (.d ⟨(.int .i64), y0⟩), (.d ⟨.bool, y1⟩), (.d ⟨.bool, y2⟩)])])⟩), ([1, 1], ⟨5, 1, (.data (.int .u8) y3)⟩)]) = some true) : callK Try.prog ht d 15 [(.bv 0 5 (.int .u8) ns286)] [] k = some true := by
  obtain ⟨d, rfl⟩ : ∃ e, d = e + 1 := ⟨d - 1, by omega⟩
  exact fn_ok (c := codeOf Try.f15) Try.func15 (by kernel_rfl) (rec := octet_New.calls) (fun g a h k hx => by
    cases hx) (loopf := octet_New.loops) (by
    have e : loopsOf (octet_New.loops) 0 (codeOf Try.f15) = [] := by kernel_rfl
    rw [e]
    intro p hp
    cases hp) ((octet_New.eq ns286 k).trans hx)
theorem octet_New.look (d : Nat) (hd : 1 ≤ d) {e : Option Bool} {g : FuncId} {a : List AV} {h : Heap} {k : KR} (hx : octet_New.get octet_New e g a h k = some true) : e = some true ∨ callK Try.prog ht d g a h k = some true := by
  unfold octet_New.get at hx
  split at hx
  · exact .inr (octet_New.ok d hd _ _ hx)
  · exact .inl hx
/-- function 17: (*sheerleg/octet.Reader).Left -/
noncomputable def octet_Reader_Left.body (n295 : Int) (b296 : Bool) (b297 : Bool) (ns298 : List Int) (k1 : Int → Int → Bool → Bool → (List Int) → Option Bool) : Option Bool :=
  (k1 (IntKind.wrap .i64 ((((List.length ns298) : Nat) : Int) - n295)) n295 b296 b297 ns298)
noncomputable def octet_Reader_Left (n295 : Int) (b296 : Bool) (b297 : Bool) (ns298 : List Int) (k1 : Int → Int → Bool → Bool → (List Int) → Option Bool) : Option Bool := octet_Reader_Left.body n295 b296 b297 ns298 k1
noncomputable def octet_Reader_Left.get (F : Int → Bool → Bool → (List Int) → (Int → Int → Bool → Bool → (List Int) → Option Bool) → Option Bool) (e : Option Bool) (g : FuncId) (a : List AV) (h : Heap) (k : KR) : Option Bool := match g, a, h with
  | 17, [(.ptr [0, 0] 0 0)], [([0, 0], ⟨54, 4, (.mix [(.agg [(.ref [0, 1]), (.d ⟨(.int .i64), n295⟩), (.d ⟨.bool, b296⟩), (.d ⟨.bool, b297⟩)])])⟩), ([0, 1], ⟨5, 1, (.data (.int .u8) ns298)⟩)] => F n295 b296 b297 ns298 (fun y0 y1 y2 y3 y4 => k (.d ⟨(.int .i64), y0⟩) [([0, 0], ⟨54, 4, (.mix [(.agg [(.ref [0, 1]), (.d ⟨(.int .i64), y1⟩), (.d ⟨.bool, y2⟩), (.d ⟨.bool, y3⟩)])])⟩), ([0, 1], ⟨5, 1, (.data (.int .u8) y4)⟩)])
  | _, _, _ => e
noncomputable def octet_Reader_Left.calls : RecF := fun g a h k => none
noncomputable def octet_Reader_Left.loops : LoopF := fun b => none
set_option maxRecDepth 100000 in
theorem octet_Reader_Left.eq (n295 : Int) (b296 : Bool) (b297 : Bool) (ns298 : List Int) (k : KR) : execL Try.prog ht 17 (callfOf (octet_Reader_Left.calls)) (octet_Reader_Left.loops) 0 (codeOf Try.f17) ⟨[(.ptr [0, 0] 0 0)] ++ List.replicate (Try.f17.ntmps - ([(.ptr [0, 0] 0 0)] : List AV).length) .undef, [([0, 0], ⟨54, 4, (.mix [(.agg [(.ref [0, 1]), (.d ⟨(.int .i64), n295⟩), (.d ⟨.bool, b296⟩), (.d ⟨.bool, b297⟩)])])⟩), ([0, 1], ⟨5, 1, (.data (.int .u8) ns298)⟩)], 2⟩ (leave Try.prog Try.f17 k) = octet_Reader_Left.body n295 b296 b297 ns298 (fun y0 y1 y2 y3 y4 => k (.d ⟨(.int .i64), y0⟩) [([0, 0], ⟨54, 4, (.mix [(.agg [(.ref [0, 1]), (.d ⟨(.int .i64), y1⟩), (.d ⟨.bool, y2⟩), (.d ⟨.bool, y3⟩)])])⟩), ([0, 1], ⟨5, 1, (.data (.int .u8) y4)⟩)]) := by kernel_rfl
theorem octet_Reader_Left.ok (d : Nat) (hd : 1 ≤ d) (n295 : Int) (b296 : Bool) (b297 : Bool) (ns298 : List Int) (k : KR) (hx : octet_Reader_Left n295 b296 b297 ns298 (fun y0 y1 y2 y3 y4 => k (.d ⟨(.int .i64), y0⟩) [([0, 0], ⟨54, 4, (.mix [(.agg [(.ref [0, 1]), (.d ⟨(.int .i64), y1⟩), (.d ⟨.bool, y2⟩), (.d ⟨.bool, y3⟩)])])⟩), ([0, 1], ⟨5, 1, (.data (.int .u8) y4)⟩)]) = some true) : callK Try.prog ht d 17 [(.ptr [0, 0] 0 0)] [([0, 0], ⟨54, 4, (.mix [(.agg [(.ref [0, 1]), (.d ⟨(.int .i64), n295⟩), (.d ⟨.bool, b296⟩), (.d ⟨.bool, b297⟩)])])⟩), ([0, 1], ⟨5, 1, (.data (.int .u8) ns298)⟩)] k = some true := by
  obtain ⟨d, rfl⟩ : ∃ e, d = e + 1 := ⟨d - 1, by omega⟩
  exact fn_ok (c := codeOf Try.f17) Try.func17 (by kernel_rfl) (rec := octet_Reader_Left.calls) (fun g a h k hx => by
    cases hx) (loopf := octet_Reader_Left.loops) (by
    have e : loopsOf (octet_Reader_Left.loops) 0 (codeOf Try.f17) = [] := by kernel_rfl
    rw [e]
    intro p hp
    cases hp) ((octet_Reader_Left.eq n295 b296 b297 ns298 k).trans hx)
theorem octet_Reader_Left.look (d : Nat) (hd : 1 ≤ d) {e : Option Bool} {g : FuncId} {a : List AV} {h : Heap} {k : KR} (hx : octet_Reader_Left.get octet_Reader_Left e g a h k = some true) : e = some true ∨ callK Try.prog ht d g a h k = some true := by
  unfold octet_Reader_Left.get at hx
  split at hx
  · exact .inr (octet_Reader_Left.ok d hd _ _ _ _ _ hx)
  · exact .inl hx
/-- function 22: (*sheerleg/octet.Reader).Bad -/
noncomputable def octet_Reader_Bad.body (n304 : Int) (b305 : Bool) (b306 : Bool) (ns307 : List Int) (k1 : Bool → Int → Bool → Bool → (List Int) → Option Bool) : Option Bool :=
  (cond_ (! (! b305)) (k1 b306 n304 b305 b306 ns307) (k1 true n304 b305 b306 ns307))
noncomputable def octet_Reader_Bad (n304 : Int) (b305 : Bool) (b306 : Bool) (ns307 : List Int) (k1 : Bool → Int → Bool → Bool → (List Int) → Option Bool) : Option Bool := octet_Reader_Bad.body n304 b305 b306 ns307 k1
noncomputable def octet_Reader_Bad.get (F : Int → Bool → Bool → (List Int) → (Bool → Int → Bool → Bool → (List Int) → Option Bool) → Option Bool) (e : Option Bool) (g : FuncId) (a : List AV) (h : Heap) (k : KR) : Option Bool := match g, a, h with
  | 22, [(.ptr [0, 0] 0 0)], [([0, 0], ⟨54, 4, (.mix [(.agg [(.ref [0, 1]), (.d ⟨(.int .i64), n304⟩), (.d ⟨.bool, b305⟩), (.d ⟨.bool, b306⟩)])])⟩), ([0, 1], ⟨5, 1, (.data (.int .u8) ns307)⟩)] => F n304 b305 b306 ns307 (fun y0 y1 y2 y3 y4 => k (.d ⟨.bool, y0⟩) [([0, 0], ⟨54, 4, (.mix [(.agg [(.ref [0, 1]), (.d ⟨(.int .i64), y1⟩), (.d ⟨.bool, y2⟩), (.d ⟨.bool, y3⟩)])])⟩), ([0, 1], ⟨5, 1, (.data (.int .u8) y4)⟩)])
  | _, _, _ => e
noncomputable def octet_Reader_Bad.calls : RecF := fun g a h k => none
noncomputable def octet_Reader_Bad.loops : LoopF := fun b => none
set_option maxRecDepth 100000 in
theorem octet_Reader_Bad.eq (n304 : Int) (b305 : Bool) (b306 : Bool) (ns307 : List Int) (k : KR) : execL Try.prog ht 22 (callfOf (octet_Reader_Bad.calls)) (octet_Reader_Bad.loops) 0 (codeOf Try.f22) ⟨[(.ptr [0, 0] 0 0)] ++ List.replicate (Try.f22.ntmps - ([(.ptr [0, 0] 0 0)] : List AV).length) .undef, [([0, 0], ⟨54, 4, (.mix [(.agg [(.ref [0, 1]), (.d ⟨(.int .i64), n304⟩), (.d ⟨.bool, b305⟩), (.d ⟨.bool, b306⟩)])])⟩), ([0, 1], ⟨5, 1, (.data (.int .u8) ns307)⟩)], 2⟩ (leave Try.prog Try.f22 k) = octet_Reader_Bad.body n304 b305 b306 ns307 (fun y0 y1 y2 y3 y4 => k (.d ⟨.bool, y0⟩) [([0, 0], ⟨54, 4, (.mix [(.agg [(.ref [0, 1]), (.d ⟨(.int .i64), y1⟩), (.d ⟨.bool, y2⟩), (.d ⟨.bool, y3⟩)])])⟩), ([0, 1], ⟨5, 1, (.data (.int .u8) y4)⟩)]) := by kernel_rfl
theorem octet_Reader_Bad.ok (d : Nat) (hd : 1 ≤ d) (n304 : Int) (b305 : Bool) (b306 : Bool) (ns307 : List Int) (k : KR) (hx : octet_Reader_Bad n304 b305 b306 ns307 (fun y0 y1 y2 y3 y4 => k (.d ⟨.bool, y0⟩) [([0, 0], ⟨54, 4, (.mix [(.agg [(.ref [0, 1]), (.d ⟨(.int .i64), y1⟩), (.d ⟨.bool, y2⟩), (.d ⟨.bool, y3⟩)])])⟩), ([0, 1], ⟨5, 1, (.data (.int .u8) y4)⟩)]) = some true) : callK Try.prog ht d 22 [(.ptr [0, 0] 0 0)] [([0, 0], ⟨54, 4, (.mix [(.agg [(.ref [0, 1]), (.d ⟨(.int .i64), n304⟩), (.d ⟨.bool, b305⟩), (.d ⟨.bool, b306⟩)])])⟩), ([0, 1], ⟨5, 1, (.data (.int .u8) ns307)⟩)] k = some true := by
  obtain ⟨d, rfl⟩ : ∃ e, d = e + 1 := ⟨d - 1, by omega⟩
  exact fn_ok (c := codeOf Try.f22) Try.func22 (by kernel_rfl) (rec := octet_Reader_Bad.calls) (fun g a h k hx => by
    cases hx) (loopf := octet_Reader_Bad.loops) (by
    have e : loopsOf (octet_Reader_Bad.loops) 0 (codeOf Try.f22) = [] := by kernel_rfl
    rw [e]
    intro p hp
    cases hp) ((octet_Reader_Bad.eq n304 b305 b306 ns307 k).trans hx)
theorem octet_Reader_Bad.look (d : Nat) (hd : 1 ≤ d) {e : Option Bool} {g : FuncId} {a : List AV} {h : Heap} {k : KR} (hx : octet_Reader_Bad.get octet_Reader_Bad e g a h k = some true) : e = some true ∨ callK Try.prog ht d g a h k = some true := by
  unfold octet_Reader_Bad.get at hx
  split at hx
  · exact .inr (octet_Reader_Bad.ok d hd _ _ _ _ _ hx)
  · exact .inl hx
/-- function 38: (*sheerleg/octet.Reader).spoil -/
noncomputable def octet_Reader_spoil.body (n338 : Int) (b339 : Bool) (b340 : Bool) (ns341 : List Int) (k1 : Int → Bool → Bool → (List Int) → Option Bool) : Option Bool :=
  (k1 n338 b339 true ns341)
noncomputable def octet_Reader_spoil (n338 : Int) (b339 : Bool) (b340 : Bool) (ns341 : List Int) (k1 : Int → Bool → Bool → (List Int) → Option Bool) : Option Bool := octet_Reader_spoil.body n338 b339 b340 ns341 k1
noncomputable def octet_Reader_spoil.get (F : Int → Bool → Bool → (List Int) → (Int → Bool → Bool → (List Int) → Option Bool) → Option Bool) (e : Option Bool) (g : FuncId) (a : List AV) (h : Heap) (k : KR) : Option Bool := match g, a, h with
  | 38, [(.ptr [0, 0] 0 0)], [([0, 0], ⟨54, 4, (.mix [(.agg [(.ref [0, 1]), (.d ⟨(.int .i64), n338⟩), (.d ⟨.bool, b339⟩), (.d ⟨.bool, b340⟩)])])⟩), ([0, 1], ⟨5, 1, (.data (.int .u8) ns341)⟩)] => F n338 b339 b340 ns341 (fun y0 y1 y2 y3 => k (.tup []) [([0, 0], ⟨54, 4, (.mix [(.agg [(.ref [0, 1]), (.d ⟨(.int .i64), y0⟩), (.d ⟨.bool, y1⟩), (.d ⟨.bool, y2⟩)])])⟩), ([0, 1], ⟨5, 1, (.data (.int .u8) y3)⟩)])
  | _, _, _ => e
noncomputable def octet_Reader_spoil.calls : RecF := fun g a h k => none
noncomputable def octet_Reader_spoil.loops : LoopF := fun b => none
set_option maxRecDepth 100000 in
theorem octet_Reader_spoil.eq (n338 : Int) (b339 : Bool) (b340 : Bool) (ns341 : List Int) (k : KR) : execL Try.prog ht 38 (callfOf (octet_Reader_spoil.calls)) (octet_Reader_spoil.loops) 0 (codeOf Try.f38) ⟨[(.ptr [0, 0] 0 0)] ++ List.replicate (Try.f38.ntmps - ([(.ptr [0, 0] 0 0)] : List AV).length) .undef, [([0, 0], ⟨54, 4, (.mix [(.agg [(.ref [0, 1]), (.d ⟨(.int .i64), n338⟩), (.d ⟨.bool, b339⟩), (.d ⟨.bool, b340⟩)])])⟩), ([0, 1], ⟨5, 1, (.data (.int .u8) ns341)⟩)], 2⟩ (leave Try.prog Try.f38 k) = octet_Reader_spoil.body n338 b339 b340 ns341 (fun y0 y1 y2 y3 => k (.tup []) [([0, 0], ⟨54, 4, (.mix [(.agg [(.ref [0, 1]), (.d ⟨(.int .i64), y0⟩), (.d ⟨.bool, y1⟩), (.d ⟨.bool, y2⟩)])])⟩), ([0, 1], ⟨5, 1, (.data (.int .u8) y3)⟩)]) := by kernel_rfl
theorem octet_Reader_spoil.ok (d : Nat) (hd : 1 ≤ d) (n338 : Int) (b339 : Bool) (b340 : Bool) (ns341 : List Int) (k : KR) (hx : octet_Reader_spoil n338 b339 b340 ns341 (fun y0 y1 y2 y3 => k (.tup []) [([0, 0], ⟨54, 4, (.mix [(.agg [(.ref [0, 1]), (.d ⟨(.int .i64), y0⟩), (.d ⟨.bool, y1⟩), (.d ⟨.bool, y2⟩)])])⟩), ([0, 1], ⟨5, 1, (.data (.int .u8) y3)⟩)]) = some true) : callK Try.prog ht d 38 [(.ptr [0, 0] 0 0)] [([0, 0], ⟨54, 4, (.mix [(.agg [(.ref [0, 1]), (.d ⟨(.int .i64), n338⟩), (.d ⟨.bool, b339⟩), (.d ⟨.bool, b340⟩)])])⟩), ([0, 1], ⟨5, 1, (.data (.int .u8) ns341)⟩)] k = some true := by
  obtain ⟨d, rfl⟩ : ∃ e, d = e + 1 := ⟨d - 1, by omega⟩
  exact fn_ok (c := codeOf Try.f38) Try.func38 (by kernel_rfl) (rec := octet_Reader_spoil.calls) (fun g a h k hx => by
    cases hx) (loopf := octet_Reader_spoil.loops) (by
    have e : loopsOf (octet_Reader_spoil.loops) 0 (codeOf Try.f38) = [] := by kernel_rfl
    rw [e]
    intro p hp
    cases hp) ((octet_Reader_spoil.eq n338 b339 b340 ns341 k).trans hx)
theorem octet_Reader_spoil.look (d : Nat) (hd : 1 ≤ d) {e : Option Bool} {g : FuncId} {a : List AV} {h : Heap} {k : KR} (hx : octet_Reader_spoil.get octet_Reader_spoil e g a h k = some true) : e = some true ∨ callK Try.prog ht d g a h k = some true := by
  unfold octet_Reader_spoil.get at hx
  split at hx
  · exact .inr (octet_Reader_spoil.ok d hd _ _ _ _ _ hx)
  · exact .inl hx
/-- function 33: (*sheerleg/octet.Reader).take -/
noncomputable def octet_Reader_take.body (octet_Reader_Bad : Int → Bool → Bool → (List Int) → (Bool → Int → Bool → Bool → (List Int) → Option Bool) → Option Bool) (octet_Reader_Left : Int → Bool → Bool → (List Int) → (Int → Int → Bool → Bool → (List Int) → Option Bool) → Option Bool) (octet_Reader_spoil : Int → Bool → Bool → (List Int) → (Int → Bool → Bool → (List Int) → Option Bool) → Option Bool) (n323 : Int) (n324 : Int) (b325 : Bool) (b326 : Bool) (ns327 : List Int) (k1 : Int → Bool → Bool → (List Int) → (List Int) → Option Bool) (k2 : Nat → Nat → Int → Bool → Bool → (List Int) → Option Bool) : Option Bool :=
  (octet_Reader_Bad n324 b325 b326 ns327
  (fun b328 n329 b330 b331 ns332 => (cond_ (! b328) (cond_ (! (decide (n323 < (0 : Int)))) (octet_Reader_Left n329 b330 b331 ns332
  (fun n333 n334 b335 b336 ns337 => (cond_ (decide (n323 > n333)) (octet_Reader_spoil n334 b335 b336 ns337
  (fun n342 b343 b344 ns345 => (k1 n342 b343 b344 ns345 []))) (cond_ (((decide ((0 : Int) ≤ (IntKind.wrap .i64 ((IntKind.wrap .i64 (n334 + n323)) - n323)))) && (decide ((IntKind.wrap .i64 ((IntKind.wrap .i64 (n334 + n323)) - n323)) ≤ (IntKind.wrap .i64 (n334 + n323))))) && (decide ((IntKind.wrap .i64 (n334 + n323)) ≤ (((List.length ns337) : Nat) : Int)))) (k2 (Int.toNat (IntKind.wrap .i64 ((IntKind.wrap .i64 (n334 + n323)) - n323))) (Int.toNat ((IntKind.wrap .i64 (n334 + n323)) - (IntKind.wrap .i64 ((IntKind.wrap .i64 (n334 + n323)) - n323)))) (IntKind.wrap .i64 (n334 + n323)) b335 b336 ns337) none)))) (octet_Reader_spoil n329 b330 b331 ns332
  (fun n346 b347 b348 ns349 => (k1 n346 b347 b348 ns349 [])))) (octet_Reader_spoil n329 b330 b331 ns332
  (fun n350 b351 b352 ns353 => (k1 n350 b351 b352 ns353 []))))))
noncomputable def octet_Reader_take (n323 : Int) (n324 : Int) (b325 : Bool) (b326 : Bool) (ns327 : List Int) (k1 : Int → Bool → Bool → (List Int) → (List Int) → Option Bool) (k2 : Nat → Nat → Int → Bool → Bool → (List Int) → Option Bool) : Option Bool := octet_Reader_take.body octet_Reader_Bad octet_Reader_Left octet_Reader_spoil n323 n324 b325 b326 ns327 k1 k2
noncomputable def octet_Reader_take.get (F : Int → Int → Bool → Bool → (List Int) → (Int → Bool → Bool → (List Int) → (List Int) → Option Bool) → (Nat → Nat → Int → Bool → Bool → (List Int) → Option Bool) → Option Bool) (e : Option Bool) (g : FuncId) (a : List AV) (h : Heap) (k : KR) : Option Bool := match g, a, h with
  | 33, [(.ptr [0, 0] 0 0), (.d ⟨(.int .i64), n323⟩)], [([0, 0], ⟨54, 4, (.mix [(.agg [(.ref [0, 1]), (.d ⟨(.int .i64), n324⟩), (.d ⟨.bool, b325⟩), (.d ⟨.bool, b326⟩)])])⟩), ([0, 1], ⟨5, 1, (.data (.int .u8) ns327)⟩)] => F n323 n324 b325 b326 ns327 (fun y0 y1 y2 y3 y4 => k (.ref [1, 0]) [([0, 0], ⟨54, 4, (.mix [(.agg [(.ref [0, 1]), (.d ⟨(.int .i64), y0⟩), (.d ⟨.bool, y1⟩), (.d ⟨.bool, y2⟩)])])⟩), ([0, 1], ⟨5, 1, (.data (.int .u8) y3)⟩), ([1, 0], ⟨5, 1, (.data (.int .u8) y4)⟩)]) (fun y0 y1 y2 y3 y4 y5 => k (.cut [0, 1] y0 y1) [([0, 0], ⟨54, 4, (.mix [(.agg [(.ref [0, 1]), (.d ⟨(.int .i64), y2⟩), (.d ⟨.bool, y3⟩), (.d ⟨.bool, y4⟩)])])⟩), ([0, 1], ⟨5, 1, (.data (.int .u8) y5)⟩)])
  | _, _, _ => e
noncomputable def octet_Reader_take.calls (F0 : Int → Bool → Bool → (List Int) → (Bool → Int → Bool → Bool → (List Int) → Option Bool) → Option Bool) (F1 : Int → Bool → Bool → (List Int) → (Int → Int → Bool → Bool → (List Int) → Option Bool) → Option Bool) (F2 : Int → Bool → Bool → (List Int) → (Int → Bool → Bool → (List Int) → Option Bool) → Option Bool) : RecF := fun g a h k => (octet_Reader_Bad.get F0 (octet_Reader_Left.get F1 (octet_Reader_spoil.get F2 none g a h k) g a h k) g a h k)
noncomputable def octet_Reader_take.loops : LoopF := fun b => none
set_option maxRecDepth 100000 in
theorem octet_Reader_take.eq (F0 : Int → Bool → Bool → (List Int) → (Bool → Int → Bool → Bool → (List Int) → Option Bool) → Option Bool) (F1 : Int → Bool → Bool → (List Int) → (Int → Int → Bool → Bool → (List Int) → Option Bool) → Option Bool) (F2 : Int → Bool → Bool → (List Int) → (Int → Bool → Bool → (List Int) → Option Bool) → Option Bool) (n323 : Int) (n324 : Int) (b325 : Bool) (b326 : Bool) (ns327 : List Int) (k : KR) : execL Try.prog ht 33 (callfOf (octet_Reader_take.calls F0 F1 F2)) (octet_Reader_take.loops) 0 (codeOf Try.f33) ⟨[(.ptr [0, 0] 0 0), (.d ⟨(.int .i64), n323⟩)] ++ List.replicate (Try.f33.ntmps - ([(.ptr [0, 0] 0 0), (.d ⟨(.int .i64), n323⟩)] : List AV).length) .undef, [([0, 0], ⟨54, 4, (.mix [(.agg [(.ref [0, 1]), (.d ⟨(.int .i64), n324⟩), (.d ⟨.bool, b325⟩), (.d ⟨.bool, b326⟩)])])⟩), ([0, 1], ⟨5, 1, (.data (.int .u8) ns327)⟩)], 2⟩ (leave Try.prog Try.f33 k) = octet_Reader_take.body F0 F1 F2 n323 n324 b325 b326 ns327 (fun y0 y1 y2 y3 y4 => k (.ref [1, 0]) [([0, 0], ⟨54, 4, (.mix [(.agg [(.ref [0, 1]), (.d ⟨(.int .i64), y0⟩), (.d ⟨.bool, y1⟩), (.d ⟨.bool, y2⟩)])])⟩), ([0, 1], ⟨5, 1, (.data (.int .u8) y3)⟩), ([1, 0], ⟨5, 1, (.data (.int .u8) y4)⟩)]) (fun y0 y1 y2 y3 y4 y5 => k (.cut [0, 1] y0 y1) [([0, 0], ⟨54, 4, (.mix [(.agg [(.ref [0, 1]), (.d ⟨(.int .i64), y2⟩), (.d ⟨.bool, y3⟩), (.d ⟨.bool, y4⟩)])])⟩), ([0, 1], ⟨5, 1, (.data (.int .u8) y5)⟩)]) := by kernel_rfl
theorem octet_Reader_take.ok (d : Nat) (hd : 2 ≤ d) (n323 : Int) (n324 : Int) (b325 : Bool) (b326 : Bool) (ns327 : List Int) (k : KR) (hx : octet_Reader_take n323 n324 b325 b326 ns327 (fun y0 y1 y2 y3 y4 => k (.ref [1, 0]) [([0, 0], ⟨54, 4, (.mix [(.agg [(.ref [0, 1]), (.d ⟨(.int .i64), y0⟩), (.d ⟨.bool, y1⟩), (.d ⟨.bool, y2⟩)])])⟩), ([0, 1], ⟨5, 1, (.data (.int .u8) y3)⟩), ([1, 0], ⟨5, 1, (.data (.int .u8) y4)⟩)]) (fun y0 y1 y2 y3 y4 y5 => k (.cut [0, 1] y0 y1) [([0, 0], ⟨54, 4, (.mix [(.agg [(.ref [0, 1]), (.d ⟨(.int .i64), y2⟩), (.d ⟨.bool, y3⟩), (.d ⟨.bool, y4⟩)])])⟩), ([0, 1], ⟨5, 1, (.data (.int .u8) y5)⟩)]) = some true) : callK Try.prog ht d 33 [(.ptr [0, 0] 0 0), (.d ⟨(.int .i64), n323⟩)] [([0, 0], ⟨54, 4, (.mix [(.agg [(.ref [0, 1]), (.d ⟨(.int .i64), n324⟩), (.d ⟨.bool, b325⟩), (.d ⟨.bool, b326⟩)])])⟩), ([0, 1], ⟨5, 1, (.data (.int .u8) ns327)⟩)] k = some true := by
  obtain ⟨d, rfl⟩ : ∃ e, d = e + 1 := ⟨d - 1, by omega⟩
  exact fn_ok (c := codeOf Try.f33) Try.func33 (by kernel_rfl) (rec := octet_Reader_take.calls octet_Reader_Bad octet_Reader_Left octet_Reader_spoil) (fun g a h k hx => by
    rcases octet_Reader_Bad.look d (by omega) hx with hx | hx
    rotate_left
    · exact hx
    rcases octet_Reader_Left.look d (by omega) hx with hx | hx
    rotate_left
    · exact hx
    rcases octet_Reader_spoil.look d (by omega) hx with hx | hx
    rotate_left
    · exact hx
    cases hx) (loopf := octet_Reader_take.loops) (by
    have e : loopsOf (octet_Reader_take.loops) 0 (codeOf Try.f33) = [] := by kernel_rfl
    rw [e]
    intro p hp
    cases hp) ((octet_Reader_take.eq octet_Reader_Bad octet_Reader_Left octet_Reader_spoil n323 n324 b325 b326 ns327 k).trans hx)
theorem octet_Reader_take.look (d : Nat) (hd : 2 ≤ d) {e : Option Bool} {g : FuncId} {a : List AV} {h : Heap} {k : KR} (hx : octet_Reader_take.get octet_Reader_take e g a h k = some true) : e = some true ∨ callK Try.prog ht d g a h k = some true := by
  unfold octet_Reader_take.get at hx
  split at hx
  · exact .inr (octet_Reader_take.ok d hd _ _ _ _ _ _ hx)
  · exact .inl hx
/-- function 32: the loop in block 0 -/
noncomputable def octet_number_L0.body (octet_number_L0 : Int → Int → Int → Int → Bool → Bool → (List Int) → (List Int) → (Int → Int → Bool → Bool → (List Int) → (List Int) → Option Bool) → Option Bool) (n359 : Int) (n360 : Int) (n361 : Int) (n362 : Int) (b363 : Bool) (b364 : Bool) (ns365 : List Int) (ns366 : List Int) (k1 : Int → Int → Bool → Bool → (List Int) → (List Int) → Option Bool) : Option Bool :=
  (cond_ (decide (n361 < n360)) (cond_ ((decide ((0 : Int) ≤ n361)) && (decide (n361 < (((List.length ns366) : Nat) : Int)))) (octet_number_L0 (IntKind.wrap .i64 (((@BitVec.toNat (64 : Nat) ((@BitVec.ofInt (64 : Nat) (IntKind.wrap .i64 (n359 * (256 : Int)))) ||| (@BitVec.ofInt (64 : Nat) (IntKind.wrap .i64 (List.getD ns366 (Int.toNat n361) (0 : Int)))))) : Nat) : Int)) n360 (IntKind.wrap .i64 (n361 + (1 : Int))) n362 b363 b364 ns365 ns366 k1) none) (k1 n359 n362 b363 b364 ns365 ns366))
noncomputable def octet_number_L0 : Nat → Int → Int → Int → Int → Bool → Bool → (List Int) → (List Int) → (Int → Int → Bool → Bool → (List Int) → (List Int) → Option Bool) → Option Bool
  | 0 => fun _ _ _ _ _ _ _ _ _ => none
  | n + 1 => octet_number_L0.body (octet_number_L0 n)
noncomputable def octet_number_L0.get (F : Int → Int → Int → Int → Bool → Bool → (List Int) → (List Int) → (Int → Int → Bool → Bool → (List Int) → (List Int) → Option Bool) → Option Bool) (e : Option Bool) (st : St) (k : KE) : Option Bool := match st with
  | ⟨sl, hp, m⟩ => match Nat.beq m 2, pickS 33 [6, 7, 19, 20, 21] sl, hp with
    | true, some [(.d ⟨(.int .i64), n359⟩), (.ref [1, 0]), (.ref [1, 0]), (.d ⟨(.int .i64), n360⟩), (.d ⟨(.int .i64), n361⟩)], [([0, 0], ⟨54, 4, (.mix [(.agg [(.ref [0, 1]), (.d ⟨(.int .i64), n362⟩), (.d ⟨.bool, b363⟩), (.d ⟨.bool, b364⟩)])])⟩), ([0, 1], ⟨5, 1, (.data (.int .u8) ns365)⟩), ([1, 0], ⟨5, 1, (.data (.int .u8) ns366)⟩)] => F n359 n360 n361 n362 b363 b364 ns365 ns366 (fun y0 y1 y2 y3 y4 y5 => k (.exit 0) ⟨fillS 33 [6, 7] [(.d ⟨(.int .i64), y0⟩), (.ref [1, 0])], [([0, 0], ⟨54, 4, (.mix [(.agg [(.ref [0, 1]), (.d ⟨(.int .i64), y1⟩), (.d ⟨.bool, y2⟩), (.d ⟨.bool, y3⟩)])])⟩), ([0, 1], ⟨5, 1, (.data (.int .u8) y4)⟩), ([1, 0], ⟨5, 1, (.data (.int .u8) y5)⟩)], 2⟩)
    | _, _, _ => e
noncomputable def octet_number_L0.calls : RecF := fun g a h k => none
noncomputable def octet_number_L0.loops : LoopF := fun b => none
set_option maxRecDepth 100000 in
theorem octet_number_L0.step (S : Int → Int → Int → Int → Bool → Bool → (List Int) → (List Int) → (Int → Int → Bool → Bool → (List Int) → (List Int) → Option Bool) → Option Bool) (n359 : Int) (n360 : Int) (n361 : Int) (n362 : Int) (b363 : Bool) (b364 : Bool) (ns365 : List Int) (ns366 : List Int) (k : KE) : execL Try.prog ht 32 (callfOf (octet_number_L0.calls)) (octet_number_L0.loops) 0 (loopAt 0 (codeOf Try.f32)) ⟨fillS 33 [6, 7, 19, 20, 21] [(.d ⟨(.int .i64), n359⟩), (.ref [1, 0]), (.ref [1, 0]), (.d ⟨(.int .i64), n360⟩), (.d ⟨(.int .i64), n361⟩)], [([0, 0], ⟨54, 4, (.mix [(.agg [(.ref [0, 1]), (.d ⟨(.int .i64), n362⟩), (.d ⟨.bool, b363⟩), (.d ⟨.bool, b364⟩)])])⟩), ([0, 1], ⟨5, 1, (.data (.int .u8) ns365)⟩), ([1, 0], ⟨5, 1, (.data (.int .u8) ns366)⟩)], 2⟩ (again (octet_number_L0.get S none) (plan Try.prog (ht 32 0)) k) = octet_number_L0.body S n359 n360 n361 n362 b363 b364 ns365 ns366 (fun y0 y1 y2 y3 y4 y5 => k (.exit 0) ⟨fillS 33 [6, 7] [(.d ⟨(.int .i64), y0⟩), (.ref [1, 0])], [([0, 0], ⟨54, 4, (.mix [(.agg [(.ref [0, 1]), (.d ⟨(.int .i64), y1⟩), (.d ⟨.bool, y2⟩), (.d ⟨.bool, y3⟩)])])⟩), ([0, 1], ⟨5, 1, (.data (.int .u8) y4)⟩), ([1, 0], ⟨5, 1, (.data (.int .u8) y5)⟩)], 2⟩) := by kernel_rfl
theorem octet_number_L0.ok (d : Nat) (hd : 0 ≤ d) : ∀ n st k, octet_number_L0.get (octet_number_L0 n) none st k = some true → iter n (plan Try.prog (ht 32 0)) (fun st k => execK Try.prog ht 32 (callfOf (callK Try.prog ht d)) 0 (loopAt 0 (codeOf Try.f32)) st k) st k = some true :=
  loop_ok (lfn := fun n st k => octet_number_L0.get (octet_number_L0 n) none st k) (rec := octet_number_L0.calls) (fun g a h k hx => by
    cases hx) (loopf := octet_number_L0.loops) (by
    have e : loopsOf (octet_number_L0.loops) 0 (loopAt 0 (codeOf Try.f32)) = [] := by kernel_rfl
    rw [e]
    intro p hp
    cases hp) (fun st k h => by
    obtain ⟨sl, hp, m⟩ := st
    unfold octet_number_L0.get at h
    dsimp only at h
    split at h
    · have h' : (none : Option Bool) = some true := h
      cases h'
    · cases h) (fun n st k h => by
    obtain ⟨sl, hp, m⟩ := st
    unfold octet_number_L0.get at h
    dsimp only at h
    split at h
    · rename_i h1 h2
      obtain rfl := pickS_ok h2
      obtain rfl := Nat.eq_of_beq_eq_true h1
      exact (octet_number_L0.step (octet_number_L0 n) _ _ _ _ _ _ _ _ k).trans h
    · cases h)
theorem octet_number_L0.look {F : Int → Int → Int → Int → Bool → Bool → (List Int) → (List Int) → (Int → Int → Bool → Bool → (List Int) → (List Int) → Option Bool) → Option Bool} {e : Option Bool} {st : St} {k : KE} (hx : octet_number_L0.get F e st k = some true) : e = some true ∨ octet_number_L0.get F none st k = some true := by
  obtain ⟨sl, hp, m⟩ := st
  unfold octet_number_L0.get at hx ⊢
  dsimp only at hx ⊢
  split at hx
  · exact .inr hx
  · exact .inl hx
/-- function 32: the loop in block 0 -/
noncomputable def octet_number_L0v1.body (octet_number_L0v1 : Int → Nat → Nat → Nat → Nat → Int → Int → Int → Bool → Bool → (List Int) → (Int → Nat → Nat → Int → Bool → Bool → (List Int) → Option Bool) → Option Bool) (n379 : Int) (m380 : Nat) (m381 : Nat) (m382 : Nat) (m383 : Nat) (n384 : Int) (n385 : Int) (n386 : Int) (b387 : Bool) (b388 : Bool) (ns389 : List Int) (k1 : Int → Nat → Nat → Int → Bool → Bool → (List Int) → Option Bool) : Option Bool :=
  (cond_ (decide (n385 < n384)) (cond_ ((decide ((0 : Int) ≤ n385)) && (decide (n385 < ((m383 : Nat) : Int)))) (octet_number_L0v1 (IntKind.wrap .i64 (((@BitVec.toNat (64 : Nat) ((@BitVec.ofInt (64 : Nat) (IntKind.wrap .i64 (n379 * (256 : Int)))) ||| (@BitVec.ofInt (64 : Nat) (IntKind.wrap .i64 (List.getD ns389 (m382 + (Int.toNat n385)) (0 : Int)))))) : Nat) : Int)) m380 m381 m382 m383 n384 (IntKind.wrap .i64 (n385 + (1 : Int))) n386 b387 b388 ns389 k1) none) (k1 n379 m380 m381 n386 b387 b388 ns389))
noncomputable def octet_number_L0v1 : Nat → Int → Nat → Nat → Nat → Nat → Int → Int → Int → Bool → Bool → (List Int) → (Int → Nat → Nat → Int → Bool → Bool → (List Int) → Option Bool) → Option Bool
  | 0 => fun _ _ _ _ _ _ _ _ _ _ _ _ => none
  | n + 1 => octet_number_L0v1.body (octet_number_L0v1 n)
noncomputable def octet_number_L0v1.get (F : Int → Nat → Nat → Nat → Nat → Int → Int → Int → Bool → Bool → (List Int) → (Int → Nat → Nat → Int → Bool → Bool → (List Int) → Option Bool) → Option Bool) (e : Option Bool) (st : St) (k : KE) : Option Bool := match st with
  | ⟨sl, hp, m⟩ => match Nat.beq m 2, pickS 33 [6, 7, 19, 20, 21] sl, hp with
    | true, some [(.d ⟨(.int .i64), n379⟩), (.cut [0, 1] m380 m381), (.cut [0, 1] m382 m383), (.d ⟨(.int .i64), n384⟩), (.d ⟨(.int .i64), n385⟩)], [([0, 0], ⟨54, 4, (.mix [(.agg [(.ref [0, 1]), (.d ⟨(.int .i64), n386⟩), (.d ⟨.bool, b387⟩), (.d ⟨.bool, b388⟩)])])⟩), ([0, 1], ⟨5, 1, (.data (.int .u8) ns389)⟩)] => F n379 m380 m381 m382 m383 n384 n385 n386 b387 b388 ns389 (fun y0 y1 y2 y3 y4 y5 y6 => k (.exit 0) ⟨fillS 33 [6, 7] [(.d ⟨(.int .i64), y0⟩), (.cut [0, 1] y1 y2)], [([0, 0], ⟨54, 4, (.mix [(.agg [(.ref [0, 1]), (.d ⟨(.int .i64), y3⟩), (.d ⟨.bool, y4⟩), (.d ⟨.bool, y5⟩)])])⟩), ([0, 1], ⟨5, 1, (.data (.int .u8) y6)⟩)], 2⟩)
    | _, _, _ => e
noncomputable def octet_number_L0v1.calls : RecF := fun g a h k => none
noncomputable def octet_number_L0v1.loops : LoopF := fun b => none
set_option maxRecDepth 100000 in
theorem octet_number_L0v1.step (S : Int → Nat → Nat → Nat → Nat → Int → Int → Int → Bool → Bool → (List Int) → (Int → Nat → Nat → Int → Bool → Bool → (List Int) → Option Bool) → Option Bool) (n379 : Int) (m380 : Nat) (m381 : Nat) (m382 : Nat) (m383 : Nat) (n384 : Int) (n385 : Int) (n386 : Int) (b387 : Bool) (b388 : Bool) (ns389 : List Int) (k : KE) : execL Try.prog ht 32 (callfOf (octet_number_L0v1.calls)) (octet_number_L0v1.loops) 0 (loopAt 0 (codeOf Try.f32)) ⟨fillS 33 [6, 7, 19, 20, 21] [(.d ⟨(.int .i64), n379⟩), (.cut [0, 1] m380 m381), (.cut [0, 1] m382 m383), (.d ⟨(.int .i64), n384⟩), (.d ⟨(.int .i64), n385⟩)], [([0, 0], ⟨54, 4, (.mix [(.agg [(.ref [0, 1]), (.d ⟨(.int .i64), n386⟩), (.d ⟨.bool, b387⟩), (.d ⟨.bool, b388⟩)])])⟩), ([0, 1], ⟨5, 1, (.data (.int .u8) ns389)⟩)], 2⟩ (again (octet_number_L0v1.get S none) (plan Try.prog (ht 32 0)) k) = octet_number_L0v1.body S n379 m380 m381 m382 m383 n384 n385 n386 b387 b388 ns389 (fun y0 y1 y2 y3 y4 y5 y6 => k (.exit 0) ⟨fillS 33 [6, 7] [(.d ⟨(.int .i64), y0⟩), (.cut [0, 1] y1 y2)], [([0, 0], ⟨54, 4, (.mix [(.agg [(.ref [0, 1]), (.d ⟨(.int .i64), y3⟩), (.d ⟨.bool, y4⟩), (.d ⟨.bool, y5⟩)])])⟩), ([0, 1], ⟨5, 1, (.data (.int .u8) y6)⟩)], 2⟩) := by kernel_rfl
theorem octet_number_L0v1.ok (d : Nat) (hd : 0 ≤ d) : ∀ n st k, octet_number_L0v1.get (octet_number_L0v1 n) none st k = some true → iter n (plan Try.prog (ht 32 0)) (fun st k => execK Try.prog ht 32 (callfOf (callK Try.prog ht d)) 0 (loopAt 0 (codeOf Try.f32)) st k) st k = some true :=
  loop_ok (lfn := fun n st k => octet_number_L0v1.get (octet_number_L0v1 n) none st k) (rec := octet_number_L0v1.calls) (fun g a h k hx => by
    cases hx) (loopf := octet_number_L0v1.loops) (by
    have e : loopsOf (octet_number_L0v1.loops) 0 (loopAt 0 (codeOf Try.f32)) = [] := by kernel_rfl
    rw [e]
    intro p hp
    cases hp) (fun st k h => by
    obtain ⟨sl, hp, m⟩ := st
    unfold octet_number_L0v1.get at h
    dsimp only at h
    split at h
    · have h' : (none : Option Bool) = some true := h
      cases h'
    · cases h) (fun n st k h => by
    obtain ⟨sl, hp, m⟩ := st
    unfold octet_number_L0v1.get at h
    dsimp only at h
    split at h
    · rename_i h1 h2
      obtain rfl := pickS_ok h2
      obtain rfl := Nat.eq_of_beq_eq_true h1
      exact (octet_number_L0v1.step (octet_number_L0v1 n) _ _ _ _ _ _ _ _ _ _ _ k).trans h
    · cases h)
theorem octet_number_L0v1.look {F : Int → Nat → Nat → Nat → Nat → Int → Int → Int → Bool → Bool → (List Int) → (Int → Nat → Nat → Int → Bool → Bool → (List Int) → Option Bool) → Option Bool} {e : Option Bool} {st : St} {k : KE} (hx : octet_number_L0v1.get F e st k = some true) : e = some true ∨ octet_number_L0v1.get F none st k = some true := by
  obtain ⟨sl, hp, m⟩ := st
  unfold octet_number_L0v1.get at hx ⊢
  dsimp only at hx ⊢
  split at hx
  · exact .inr hx
  · exact .inl hx
/-- function 32: sheerleg/octet.number -/
noncomputable def octet_number.body (octet_Reader_take : Int → Int → Bool → Bool → (List Int) → (Int → Bool → Bool → (List Int) → (List Int) → Option Bool) → (Nat → Nat → Int → Bool → Bool → (List Int) → Option Bool) → Option Bool) (octet_number_L0 : Int → Int → Int → Int → Bool → Bool → (List Int) → (List Int) → (Int → Int → Bool → Bool → (List Int) → (List Int) → Option Bool) → Option Bool) (octet_number_L0v1 : Int → Nat → Nat → Nat → Nat → Int → Int → Int → Bool → Bool → (List Int) → (Int → Nat → Nat → Int → Bool → Bool → (List Int) → Option Bool) → Option Bool) (n318 : Int) (n319 : Int) (b320 : Bool) (b321 : Bool) (ns322 : List Int) (k1 : Int → Int → Bool → Bool → (List Int) → (List Int) → Option Bool) (k2 : Int → Nat → Nat → Int → Bool → Bool → (List Int) → Option Bool) : Option Bool :=
  (cond_ (! (decide (n318 < (1 : Int)))) (cond_ (decide (n318 > (8 : Int))) (octet_Reader_take (-1 : Int) n319 b320 b321 ns322
  (fun n354 b355 b356 ns357 ns358 => (octet_number_L0 (0 : Int) (((List.length ns358) : Nat) : Int) (0 : Int) n354 b355 b356 ns357 ns358
  (fun n367 n368 b369 b370 ns371 ns372 => (k1 n367 n368 b369 b370 ns371 ns372))))
  (fun m373 m374 n375 b376 b377 ns378 => (octet_number_L0v1 (0 : Int) m373 m374 m373 m374 ((m374 : Nat) : Int) (0 : Int) n375 b376 b377 ns378
  (fun n390 m391 m392 n393 b394 b395 ns396 => (k2 n390 m391 m392 n393 b394 b395 ns396))))) (octet_Reader_take n318 n319 b320 b321 ns322
  (fun n397 b398 b399 ns400 ns401 => (octet_number_L0 (0 : Int) (((List.length ns401) : Nat) : Int) (0 : Int) n397 b398 b399 ns400 ns401
  (fun n402 n403 b404 b405 ns406 ns407 => (k1 n402 n403 b404 b405 ns406 ns407))))
  (fun m408 m409 n410 b411 b412 ns413 => (octet_number_L0v1 (0 : Int) m408 m409 m408 m409 ((m409 : Nat) : Int) (0 : Int) n410 b411 b412 ns413
  (fun n414 m415 m416 n417 b418 b419 ns420 => (k2 n414 m415 m416 n417 b418 b419 ns420)))))) (octet_Reader_take (-1 : Int) n319 b320 b321 ns322
  (fun n421 b422 b423 ns424 ns425 => (octet_number_L0 (0 : Int) (((List.length ns425) : Nat) : Int) (0 : Int) n421 b422 b423 ns424 ns425
  (fun n426 n427 b428 b429 ns430 ns431 => (k1 n426 n427 b428 b429 ns430 ns431))))
  (fun m432 m433 n434 b435 b436 ns437 => (octet_number_L0v1 (0 : Int) m432 m433 m432 m433 ((m433 : Nat) : Int) (0 : Int) n434 b435 b436 ns437
  (fun n438 m439 m440 n441 b442 b443 ns444 => (k2 n438 m439 m440 n441 b442 b443 ns444))))))
noncomputable def octet_number (n318 : Int) (n319 : Int) (b320 : Bool) (b321 : Bool) (ns322 : List Int) (k1 : Int → Int → Bool → Bool → (List Int) → (List Int) → Option Bool) (k2 : Int → Nat → Nat → Int → Bool → Bool → (List Int) → Option Bool) : Option Bool := octet_number.body octet_Reader_take (octet_number_L0 ROUNDS) (octet_number_L0v1 ROUNDS) n318 n319 b320 b321 ns322 k1 k2
noncomputable def octet_number.get (F : Int → Int → Bool → Bool → (List Int) → (Int → Int → Bool → Bool → (List Int) → (List Int) → Option Bool) → (Int → Nat → Nat → Int → Bool → Bool → (List Int) → Option Bool) → Option Bool) (e : Option Bool) (g : FuncId) (a : List AV) (h : Heap) (k : KR) : Option Bool := match g, a, h with
  | 32, [(.fn (.func 33) [(.ptr [0, 0] 0 0)] []), (.d ⟨(.int .i64), n318⟩)], [([0, 0], ⟨54, 4, (.mix [(.agg [(.ref [0, 1]), (.d ⟨(.int .i64), n319⟩), (.d ⟨.bool, b320⟩), (.d ⟨.bool, b321⟩)])])⟩), ([0, 1], ⟨5, 1, (.data (.int .u8) ns322)⟩)] => F n318 n319 b320 b321 ns322 (fun y0 y1 y2 y3 y4 y5 => k (.tup [(.d ⟨(.int .i64), y0⟩), (.ref [1, 0])]) [([0, 0], ⟨54, 4, (.mix [(.agg [(.ref [0, 1]), (.d ⟨(.int .i64), y1⟩), (.d ⟨.bool, y2⟩), (.d ⟨.bool, y3⟩)])])⟩), ([0, 1], ⟨5, 1, (.data (.int .u8) y4)⟩), ([1, 0], ⟨5, 1, (.data (.int .u8) y5)⟩)]) (fun y0 y1 y2 y3 y4 y5 y6 => k (.tup [(.d ⟨(.int .i64), y0⟩), (.cut [0, 1] y1 y2)]) [([0, 0], ⟨54, 4, (.mix [(.agg [(.ref [0, 1]), (.d ⟨(.int .i64), y3⟩), (.d ⟨.bool, y4⟩), (.d ⟨.bool, y5⟩)])])⟩), ([0, 1], ⟨5, 1, (.data (.int .u8) y6)⟩)])
  | _, _, _ => e
noncomputable def octet_number.calls (F0 : Int → Int → Bool → Bool → (List Int) → (Int → Bool → Bool → (List Int) → (List Int) → Option Bool) → (Nat → Nat → Int → Bool → Bool → (List Int) → Option Bool) → Option Bool) : RecF := fun g a h k => (octet_Reader_take.get F0 none g a h k)
noncomputable def octet_number.loops (L0 : Int → Int → Int → Int → Bool → Bool → (List Int) → (List Int) → (Int → Int → Bool → Bool → (List Int) → (List Int) → Option Bool) → Option Bool) (L1 : Int → Nat → Nat → Nat → Nat → Int → Int → Int → Bool → Bool → (List Int) → (Int → Nat → Nat → Int → Bool → Bool → (List Int) → Option Bool) → Option Bool) : LoopF := fun b => match Nat.beq b 0 with | true => some (fun st k => (octet_number_L0.get L0 (octet_number_L0v1.get L1 none st k) st k)) | false => none
set_option maxRecDepth 100000 in
theorem octet_number.eq (F0 : Int → Int → Bool → Bool → (List Int) → (Int → Bool → Bool → (List Int) → (List Int) → Option Bool) → (Nat → Nat → Int → Bool → Bool → (List Int) → Option Bool) → Option Bool) (L0 : Int → Int → Int → Int → Bool → Bool → (List Int) → (List Int) → (Int → Int → Bool → Bool → (List Int) → (List Int) → Option Bool) → Option Bool) (L1 : Int → Nat → Nat → Nat → Nat → Int → Int → Int → Bool → Bool → (List Int) → (Int → Nat → Nat → Int → Bool → Bool → (List Int) → Option Bool) → Option Bool) (n318 : Int) (n319 : Int) (b320 : Bool) (b321 : Bool) (ns322 : List Int) (k : KR) : execL Try.prog ht 32 (callfOf (octet_number.calls F0)) (octet_number.loops L0 L1) 0 (codeOf Try.f32) ⟨[(.fn (.func 33) [(.ptr [0, 0] 0 0)] []), (.d ⟨(.int .i64), n318⟩)] ++ List.replicate (Try.f32.ntmps - ([(.fn (.func 33) [(.ptr [0, 0] 0 0)] []), (.d ⟨(.int .i64), n318⟩)] : List AV).length) .undef, [([0, 0], ⟨54, 4, (.mix [(.agg [(.ref [0, 1]), (.d ⟨(.int .i64), n319⟩), (.d ⟨.bool, b320⟩), (.d ⟨.bool, b321⟩)])])⟩), ([0, 1], ⟨5, 1, (.data (.int .u8) ns322)⟩)], 2⟩ (leave Try.prog Try.f32 k) = octet_number.body F0 L0 L1 n318 n319 b320 b321 ns322 (fun y0 y1 y2 y3 y4 y5 => k (.tup [(.d ⟨(.int .i64), y0⟩), (.ref [1, 0])]) [([0, 0], ⟨54, 4, (.mix [(.agg [(.ref [0, 1]), (.d ⟨(.int .i64), y1⟩), (.d ⟨.bool, y2⟩), (.d ⟨.bool, y3⟩)])])⟩), ([0, 1], ⟨5, 1, (.data (.int .u8) y4)⟩), ([1, 0], ⟨5, 1, (.data (.int .u8) y5)⟩)]) (fun y0 y1 y2 y3 y4 y5 y6 => k (.tup [(.d ⟨(.int .i64), y0⟩), (.cut [0, 1] y1 y2)]) [([0, 0], ⟨54, 4, (.mix [(.agg [(.ref [0, 1]), (.d ⟨(.int .i64), y3⟩), (.d ⟨.bool, y4⟩), (.d ⟨.bool, y5⟩)])])⟩), ([0, 1], ⟨5, 1, (.data (.int .u8) y6)⟩)]) := by kernel_rfl
theorem octet_number.ok (d : Nat) (hd : 3 ≤ d) (n318 : Int) (n319 : Int) (b320 : Bool) (b321 : Bool) (ns322 : List Int) (k : KR) (hx : octet_number n318 n319 b320 b321 ns322 (fun y0 y1 y2 y3 y4 y5 => k (.tup [(.d ⟨(.int .i64), y0⟩), (.ref [1, 0])]) [([0, 0], ⟨54, 4, (.mix [(.agg [(.ref [0, 1]), (.d ⟨(.int .i64), y1⟩), (.d ⟨.bool, y2⟩), (.d ⟨.bool, y3⟩)])])⟩), ([0, 1], ⟨5, 1, (.data (.int .u8) y4)⟩), ([1, 0], ⟨5, 1, (.data (.int .u8) y5)⟩)]) (fun y0 y1 y2 y3 y4 y5 y6 => k (.tup [(.d ⟨(.int .i64), y0⟩), (.cut [0, 1] y1 y2)]) [([0, 0], ⟨54, 4, (.mix [(.agg [(.ref [0, 1]), (.d ⟨(.int .i64), y3⟩), (.d ⟨.bool, y4⟩), (.d ⟨.bool, y5⟩)])])⟩), ([0, 1], ⟨5, 1, (.data (.int .u8) y6)⟩)]) = some true) : callK Try.prog ht d 32 [(.fn (.func 33) [(.ptr [0, 0] 0 0)] []), (.d ⟨(.int .i64), n318⟩)] [([0, 0], ⟨54, 4, (.mix [(.agg [(.ref [0, 1]), (.d ⟨(.int .i64), n319⟩), (.d ⟨.bool, b320⟩), (.d ⟨.bool, b321⟩)])])⟩), ([0, 1], ⟨5, 1, (.data (.int .u8) ns322)⟩)] k = some true := by
  obtain ⟨d, rfl⟩ : ∃ e, d = e + 1 := ⟨d - 1, by omega⟩
  exact fn_ok (c := codeOf Try.f32) Try.func32 (by kernel_rfl) (rec := octet_number.calls octet_Reader_take) (fun g a h k hx => by
    rcases octet_Reader_take.look d (by omega) hx with hx | hx
    rotate_left
    · exact hx
    cases hx) (loopf := octet_number.loops (octet_number_L0 ROUNDS) (octet_number_L0v1 ROUNDS)) (by
    have e : loopsOf (octet_number.loops (octet_number_L0 ROUNDS) (octet_number_L0v1 ROUNDS)) 0 (codeOf Try.f32) = [(0, loopAt 0 (codeOf Try.f32))] := by kernel_rfl
    rw [e]
    intro p hp
    simp only [List.mem_cons, List.not_mem_nil, or_false] at hp
    rcases hp with rfl
    · refine loopRef_of (callf := callfOf (callK Try.prog ht d)) (callfOf_ref (callK_mono d)) fun lf st k hb hx => ?_
      cases hb
      rcases octet_number_L0.look hx with hx | hx
      rotate_left
      · exact octet_number_L0.ok d (by omega) _ _ _ hx
      rcases octet_number_L0v1.look hx with hx | hx
      rotate_left
      · exact octet_number_L0v1.ok d (by omega) _ _ _ hx
      cases hx) ((octet_number.eq octet_Reader_take (octet_number_L0 ROUNDS) (octet_number_L0v1 ROUNDS) n318 n319 b320 b321 ns322 k).trans hx)
theorem octet_number.look (d : Nat) (hd : 3 ≤ d) {e : Option Bool} {g : FuncId} {a : List AV} {h : Heap} {k : KR} (hx : octet_number.get octet_number e g a h k = some true) : e = some true ∨ callK Try.prog ht d g a h k = some true := by
  unfold octet_number.get at hx
  split at hx
  · exact .inr (octet_number.ok d hd _ _ _ _ _ _ hx)
  · exact .inl hx
/-- function 19: (*sheerleg/octet.Reader).Num -/
noncomputable def octet_Reader_Num.body (octet_number : Int → Int → Bool → Bool → (List Int) → (Int → Int → Bool → Bool → (List Int) → (List Int) → Option Bool) → (Int → Nat → Nat → Int → Bool → Bool → (List Int) → Option Bool) → Option Bool) (n313 : Int) (n314 : Int) (b315 : Bool) (b316 : Bool) (ns317 : List Int) (k1 : Int → Int → Bool → Bool → (List Int) → Option Bool) : Option Bool :=
  (octet_number n313 n314 b315 b316 ns317
  (fun n445 n446 b447 b448 ns449 ns450 => (k1 n445 n446 b447 b448 ns449))
  (fun n451 m452 m453 n454 b455 b456 ns457 => (k1 n451 n454 b455 b456 ns457)))
noncomputable def octet_Reader_Num (n313 : Int) (n314 : Int) (b315 : Bool) (b316 : Bool) (ns317 : List Int) (k1 : Int → Int → Bool → Bool → (List Int) → Option Bool) : Option Bool := octet_Reader_Num.body octet_number n313 n314 b315 b316 ns317 k1
noncomputable def octet_Reader_Num.get (F : Int → Int → Bool → Bool → (List Int) → (Int → Int → Bool → Bool → (List Int) → Option Bool) → Option Bool) (e : Option Bool) (g : FuncId) (a : List AV) (h : Heap) (k : KR) : Option Bool := match g, a, h with
  | 19, [(.ptr [0, 0] 0 0), (.d ⟨(.int .i64), n313⟩)], [([0, 0], ⟨54, 4, (.mix [(.agg [(.ref [0, 1]), (.d ⟨(.int .i64), n314⟩), (.d ⟨.bool, b315⟩), (.d ⟨.bool, b316⟩)])])⟩), ([0, 1], ⟨5, 1, (.data (.int .u8) ns317)⟩)] => F n313 n314 b315 b316 ns317 (fun y0 y1 y2 y3 y4 => k (.d ⟨(.int .i64), y0⟩) [([0, 0], ⟨54, 4, (.mix [(.agg [(.ref [0, 1]), (.d ⟨(.int .i64), y1⟩), (.d ⟨.bool, y2⟩), (.d ⟨.bool, y3⟩)])])⟩), ([0, 1], ⟨5, 1, (.data (.int .u8) y4)⟩)])
  | _, _, _ => e
noncomputable def octet_Reader_Num.calls (F0 : Int → Int → Bool → Bool → (List Int) → (Int → Int → Bool → Bool → (List Int) → (List Int) → Option Bool) → (Int → Nat → Nat → Int → Bool → Bool → (List Int) → Option Bool) → Option Bool) : RecF := fun g a h k => (octet_number.get F0 none g a h k)
noncomputable def octet_Reader_Num.loops : LoopF := fun b => none
set_option maxRecDepth 100000 in
theorem octet_Reader_Num.eq (F0 : Int → Int → Bool → Bool → (List Int) → (Int → Int → Bool → Bool → (List Int) → (List Int) → Option Bool) → (Int → Nat → Nat → Int → Bool → Bool → (List Int) → Option Bool) → Option Bool) (n313 : Int) (n314 : Int) (b315 : Bool) (b316 : Bool) (ns317 : List Int) (k : KR) : execL Try.prog ht 19 (callfOf (octet_Reader_Num.calls F0)) (octet_Reader_Num.loops) 0 (codeOf Try.f19) ⟨[(.ptr [0, 0] 0 0), (.d ⟨(.int .i64), n313⟩)] ++ List.replicate (Try.f19.ntmps - ([(.ptr [0, 0] 0 0), (.d ⟨(.int .i64), n313⟩)] : List AV).length) .undef, [([0, 0], ⟨54, 4, (.mix [(.agg [(.ref [0, 1]), (.d ⟨(.int .i64), n314⟩), (.d ⟨.bool, b315⟩), (.d ⟨.bool, b316⟩)])])⟩), ([0, 1], ⟨5, 1, (.data (.int .u8) ns317)⟩)], 2⟩ (leave Try.prog Try.f19 k) = octet_Reader_Num.body F0 n313 n314 b315 b316 ns317 (fun y0 y1 y2 y3 y4 => k (.d ⟨(.int .i64), y0⟩) [([0, 0], ⟨54, 4, (.mix [(.agg [(.ref [0, 1]), (.d ⟨(.int .i64), y1⟩), (.d ⟨.bool, y2⟩), (.d ⟨.bool, y3⟩)])])⟩), ([0, 1], ⟨5, 1, (.data (.int .u8) y4)⟩)]) := by kernel_rfl
theorem octet_Reader_Num.ok (d : Nat) (hd : 4 ≤ d) (n313 : Int) (n314 : Int) (b315 : Bool) (b316 : Bool) (ns317 : List Int) (k : KR) (hx : octet_Reader_Num n313 n314 b315 b316 ns317 (fun y0 y1 y2 y3 y4 => k (.d ⟨(.int .i64), y0⟩) [([0, 0], ⟨54, 4, (.mix [(.agg [(.ref [0, 1]), (.d ⟨(.int .i64), y1⟩), (.d ⟨.bool, y2⟩), (.d ⟨.bool, y3⟩)])])⟩), ([0, 1], ⟨5, 1, (.data (.int .u8) y4)⟩)]) = some true) : callK Try.prog ht d 19 [(.ptr [0, 0] 0 0), (.d ⟨(.int .i64), n313⟩)] [([0, 0], ⟨54, 4, (.mix [(.agg [(.ref [0, 1]), (.d ⟨(.int .i64), n314⟩), (.d ⟨.bool, b315⟩), (.d ⟨.bool, b316⟩)])])⟩), ([0, 1], ⟨5, 1, (.data (.int .u8) ns317)⟩)] k = some true := by
  obtain ⟨d, rfl⟩ : ∃ e, d = e + 1 := ⟨d - 1, by omega⟩
  exact fn_ok (c := codeOf Try.f19) Try.func19 (by kernel_rfl) (rec := octet_Reader_Num.calls octet_number) (fun g a h k hx => by
    rcases octet_number.look d (by omega) hx with hx | hx
    rotate_left
    · exact hx
    cases hx) (loopf := octet_Reader_Num.loops) (by
    have e : loopsOf (octet_Reader_Num.loops) 0 (codeOf Try.f19) = [] := by kernel_rfl
    rw [e]
    intro p hp
    cases hp) ((octet_Reader_Num.eq octet_number n313 n314 b315 b316 ns317 k).trans hx)
theorem octet_Reader_Num.look (d : Nat) (hd : 4 ≤ d) {e : Option Bool} {g : FuncId} {a : List AV} {h : Heap} {k : KR} (hx : octet_Reader_Num.get octet_Reader_Num e g a h k = some true) : e = some true ∨ callK Try.prog ht d g a h k = some true := by
  unfold octet_Reader_Num.get at hx
  split at hx
  · exact .inr (octet_Reader_Num.ok d hd _ _ _ _ _ _ hx)
  · exact .inl hx
/-- function 30: sheerleg/instr.read -/
noncomputable def instr_read.body (octet_Reader_Num : Int → Int → Bool → Bool → (List Int) → (Int → Int → Bool → Bool → (List Int) → Option Bool) → Option Bool) (n473 : Int) (n474 : Int) (b475 : Bool) (b476 : Bool) (ns477 : List Int) (k1 : Int → Int → Bool → Bool → (List Int) → Option Bool) : Option Bool :=
  (octet_Reader_Num n473 n474 b475 b476 ns477
  (fun n478 n479 b480 b481 ns482 => (k1 n478 n479 b480 b481 ns482)))
noncomputable def instr_read (n473 : Int) (n474 : Int) (b475 : Bool) (b476 : Bool) (ns477 : List Int) (k1 : Int → Int → Bool → Bool → (List Int) → Option Bool) : Option Bool := instr_read.body octet_Reader_Num n473 n474 b475 b476 ns477 k1
noncomputable def instr_read.get (F : Int → Int → Bool → Bool → (List Int) → (Int → Int → Bool → Bool → (List Int) → Option Bool) → Option Bool) (e : Option Bool) (g : FuncId) (a : List AV) (h : Heap) (k : KR) : Option Bool := match g, a, h with
  | 30, [(.ptr [0, 0] 0 0), (.d ⟨(.int .i64), n473⟩), (.fn (.func 19) [] [])], [([0, 0], ⟨54, 4, (.mix [(.agg [(.ref [0, 1]), (.d ⟨(.int .i64), n474⟩), (.d ⟨.bool, b475⟩), (.d ⟨.bool, b476⟩)])])⟩), ([0, 1], ⟨5, 1, (.data (.int .u8) ns477)⟩)] => F n473 n474 b475 b476 ns477 (fun y0 y1 y2 y3 y4 => k (.d ⟨(.int .i64), y0⟩) [([0, 0], ⟨54, 4, (.mix [(.agg [(.ref [0, 1]), (.d ⟨(.int .i64), y1⟩), (.d ⟨.bool, y2⟩), (.d ⟨.bool, y3⟩)])])⟩), ([0, 1], ⟨5, 1, (.data (.int .u8) y4)⟩)])
  | _, _, _ => e
noncomputable def instr_read.calls (F0 : Int → Int → Bool → Bool → (List Int) → (Int → Int → Bool → Bool → (List Int) → Option Bool) → Option Bool) : RecF := fun g a h k => (octet_Reader_Num.get F0 none g a h k)
noncomputable def instr_read.loops : LoopF := fun b => none
set_option maxRecDepth 100000 in
theorem instr_read.eq (F0 : Int → Int → Bool → Bool → (List Int) → (Int → Int → Bool → Bool → (List Int) → Option Bool) → Option Bool) (n473 : Int) (n474 : Int) (b475 : Bool) (b476 : Bool) (ns477 : List Int) (k : KR) : execL Try.prog ht 30 (callfOf (instr_read.calls F0)) (instr_read.loops) 0 (codeOf Try.f30) ⟨[(.ptr [0, 0] 0 0), (.d ⟨(.int .i64), n473⟩), (.fn (.func 19) [] [])] ++ List.replicate (Try.f30.ntmps - ([(.ptr [0, 0] 0 0), (.d ⟨(.int .i64), n473⟩), (.fn (.func 19) [] [])] : List AV).length) .undef, [([0, 0], ⟨54, 4, (.mix [(.agg [(.ref [0, 1]), (.d ⟨(.int .i64), n474⟩), (.d ⟨.bool, b475⟩), (.d ⟨.bool, b476⟩)])])⟩), ([0, 1], ⟨5, 1, (.data (.int .u8) ns477)⟩)], 2⟩ (leave Try.prog Try.f30 k) = instr_read.body F0 n473 n474 b475 b476 ns477 (fun y0 y1 y2 y3 y4 => k (.d ⟨(.int .i64), y0⟩) [([0, 0], ⟨54, 4, (.mix [(.agg [(.ref [0, 1]), (.d ⟨(.int .i64), y1⟩), (.d ⟨.bool, y2⟩), (.d ⟨.bool, y3⟩)])])⟩), ([0, 1], ⟨5, 1, (.data (.int .u8) y4)⟩)]) := by kernel_rfl
theorem instr_read.ok (d : Nat) (hd : 5 ≤ d) (n473 : Int) (n474 : Int) (b475 : Bool) (b476 : Bool) (ns477 : List Int) (k : KR) (hx : instr_read n473 n474 b475 b476 ns477 (fun y0 y1 y2 y3 y4 => k (.d ⟨(.int .i64), y0⟩) [([0, 0], ⟨54, 4, (.mix [(.agg [(.ref [0, 1]), (.d ⟨(.int .i64), y1⟩), (.d ⟨.bool, y2⟩), (.d ⟨.bool, y3⟩)])])⟩), ([0, 1], ⟨5, 1, (.data (.int .u8) y4)⟩)]) = some true) : callK Try.prog ht d 30 [(.ptr [0, 0] 0 0), (.d ⟨(.int .i64), n473⟩), (.fn (.func 19) [] [])] [([0, 0], ⟨54, 4, (.mix [(.agg [(.ref [0, 1]), (.d ⟨(.int .i64), n474⟩), (.d ⟨.bool, b475⟩), (.d ⟨.bool, b476⟩)])])⟩), ([0, 1], ⟨5, 1, (.data (.int .u8) ns477)⟩)] k = some true := by
  obtain ⟨d, rfl⟩ : ∃ e, d = e + 1 := ⟨d - 1, by omega⟩
  exact fn_ok (c := codeOf Try.f30) Try.func30 (by kernel_rfl) (rec := instr_read.calls octet_Reader_Num) (fun g a h k hx => by
    rcases octet_Reader_Num.look d (by omega) hx with hx | hx
    rotate_left
    · exact hx
    cases hx) (loopf := instr_read.loops) (by
    have e : loopsOf (instr_read.loops) 0 (codeOf Try.f30) = [] := by kernel_rfl
    rw [e]
    intro p hp
    cases hp) ((instr_read.eq octet_Reader_Num n473 n474 b475 b476 ns477 k).trans hx)
theorem instr_read.look (d : Nat) (hd : 5 ≤ d) {e : Option Bool} {g : FuncId} {a : List AV} {h : Heap} {k : KR} (hx : instr_read.get instr_read e g a h k = some true) : e = some true ∨ callK Try.prog ht d g a h k = some true := by
  unfold instr_read.get at hx
  split at hx
  · exact .inr (instr_read.ok d hd _ _ _ _ _ _ hx)
  · exact .inl hx
/-- function 31: (*sheerleg/octet.Reader).Signed -/
noncomputable def octet_Reader_Signed.body (octet_number : Int → Int → Bool → Bool → (List Int) → (Int → Int → Bool → Bool → (List Int) → (List Int) → Option Bool) → (Int → Nat → Nat → Int → Bool → Bool → (List Int) → Option Bool) → Option Bool) (n540 : Int) (n541 : Int) (b542 : Bool) (b543 : Bool) (ns544 : List Int) (k1 : Int → Int → Bool → Bool → (List Int) → Option Bool) : Option Bool :=
  (octet_number n540 n541 b542 b543 ns544
  (fun n545 n546 b547 b548 ns549 ns550 => (cond_ ((((List.length ns550) : Nat) : Int) == (0 : Int)) (k1 (0 : Int) n546 b547 b548 ns549) (cond_ (decide ((0 : Int) ≤ (IntKind.wrap .u64 ((8 : Int) * (IntKind.wrap .u64 (IntKind.wrap .i64 ((8 : Int) - (((List.length ns550) : Nat) : Int)))))))) (cond_ (decide ((0 : Int) ≤ (IntKind.wrap .u64 ((8 : Int) * (IntKind.wrap .u64 (IntKind.wrap .i64 ((8 : Int) - (((List.length ns550) : Nat) : Int)))))))) (k1 (Int.fdiv (IntKind.wrap .i64 (n545 * ((2 : Int) ^ (min (Int.toNat (IntKind.wrap .u64 ((8 : Int) * (IntKind.wrap .u64 (IntKind.wrap .i64 ((8 : Int) - (((List.length ns550) : Nat) : Int))))))) (64 : Nat))))) ((2 : Int) ^ (min (Int.toNat (IntKind.wrap .u64 ((8 : Int) * (IntKind.wrap .u64 (IntKind.wrap .i64 ((8 : Int) - (((List.length ns550) : Nat) : Int))))))) (64 : Nat)))) n546 b547 b548 ns549) none) none)))
  (fun n551 m552 m553 n554 b555 b556 ns557 => (cond_ (((m553 : Nat) : Int) == (0 : Int)) (k1 (0 : Int) n554 b555 b556 ns557) (cond_ (decide ((0 : Int) ≤ (IntKind.wrap .u64 ((8 : Int) * (IntKind.wrap .u64 (IntKind.wrap .i64 ((8 : Int) - ((m553 : Nat) : Int)))))))) (cond_ (decide ((0 : Int) ≤ (IntKind.wrap .u64 ((8 : Int) * (IntKind.wrap .u64 (IntKind.wrap .i64 ((8 : Int) - ((m553 : Nat) : Int)))))))) (k1 (Int.fdiv (IntKind.wrap .i64 (n551 * ((2 : Int) ^ (min (Int.toNat (IntKind.wrap .u64 ((8 : Int) * (IntKind.wrap .u64 (IntKind.wrap .i64 ((8 : Int) - ((m553 : Nat) : Int))))))) (64 : Nat))))) ((2 : Int) ^ (min (Int.toNat (IntKind.wrap .u64 ((8 : Int) * (IntKind.wrap .u64 (IntKind.wrap .i64 ((8 : Int) - ((m553 : Nat) : Int))))))) (64 : Nat)))) n554 b555 b556 ns557) none) none))))
noncomputable def octet_Reader_Signed (n540 : Int) (n541 : Int) (b542 : Bool) (b543 : Bool) (ns544 : List Int) (k1 : Int → Int → Bool → Bool → (List Int) → Option Bool) : Option Bool := octet_Reader_Signed.body octet_number n540 n541 b542 b543 ns544 k1
noncomputable def octet_Reader_Signed.get (F : Int → Int → Bool → Bool → (List Int) → (Int → Int → Bool → Bool → (List Int) → Option Bool) → Option Bool) (e : Option Bool) (g : FuncId) (a : List AV) (h : Heap) (k : KR) : Option Bool := match g, a, h with
  | 31, [(.ptr [0, 0] 0 0), (.d ⟨(.int .i64), n540⟩)], [([0, 0], ⟨54, 4, (.mix [(.agg [(.ref [0, 1]), (.d ⟨(.int .i64), n541⟩), (.d ⟨.bool, b542⟩), (.d ⟨.bool, b543⟩)])])⟩), ([0, 1], ⟨5, 1, (.data (.int .u8) ns544)⟩)] => F n540 n541 b542 b543 ns544 (fun y0 y1 y2 y3 y4 => k (.d ⟨(.int .i64), y0⟩) [([0, 0], ⟨54, 4, (.mix [(.agg [(.ref [0, 1]), (.d ⟨(.int .i64), y1⟩), (.d ⟨.bool, y2⟩), (.d ⟨.bool, y3⟩)])])⟩), ([0, 1], ⟨5, 1, (.data (.int .u8) y4)⟩)])
  | _, _, _ => e
noncomputable def octet_Reader_Signed.calls (F0 : Int → Int → Bool → Bool → (List Int) → (Int → Int → Bool → Bool → (List Int) → (List Int) → Option Bool) → (Int → Nat → Nat → Int → Bool → Bool → (List Int) → Option Bool) → Option Bool) : RecF := fun g a h k => (octet_number.get F0 none g a h k)
noncomputable def octet_Reader_Signed.loops : LoopF := fun b => none
set_option maxRecDepth 100000 in
theorem octet_Reader_Signed.eq (F0 : Int → Int → Bool → Bool → (List Int) → (Int → Int → Bool → Bool → (List Int) → (List Int) → Option Bool) → (Int → Nat → Nat → Int → Bool → Bool → (List Int) → Option Bool) → Option Bool) (n540 : Int) (n541 : Int) (b542 : Bool) (b543 : Bool) (ns544 : List Int) (k : KR) : execL Try.prog ht 31 (callfOf (octet_Reader_Signed.calls F0)) (octet_Reader_Signed.loops) 0 (codeOf Try.f31) ⟨[(.ptr [0, 0] 0 0), (.d ⟨(.int .i64), n540⟩)] ++ List.replicate (Try.f31.ntmps - ([(.ptr [0, 0] 0 0), (.d ⟨(.int .i64), n540⟩)] : List AV).length) .undef, [([0, 0], ⟨54, 4, (.mix [(.agg [(.ref [0, 1]), (.d ⟨(.int .i64), n541⟩), (.d ⟨.bool, b542⟩), (.d ⟨.bool, b543⟩)])])⟩), ([0, 1], ⟨5, 1, (.data (.int .u8) ns544)⟩)], 2⟩ (leave Try.prog Try.f31 k) = octet_Reader_Signed.body F0 n540 n541 b542 b543 ns544 (fun y0 y1 y2 y3 y4 => k (.d ⟨(.int .i64), y0⟩) [([0, 0], ⟨54, 4, (.mix [(.agg [(.ref [0, 1]), (.d ⟨(.int .i64), y1⟩), (.d ⟨.bool, y2⟩), (.d ⟨.bool, y3⟩)])])⟩), ([0, 1], ⟨5, 1, (.data (.int .u8) y4)⟩)]) := by kernel_rfl
theorem octet_Reader_Signed.ok (d : Nat) (hd : 4 ≤ d) (n540 : Int) (n541 : Int) (b542 : Bool) (b543 : Bool) (ns544 : List Int) (k : KR) (hx : octet_Reader_Signed n540 n541 b542 b543 ns544 (fun y0 y1 y2 y3 y4 => k (.d ⟨(.int .i64), y0⟩) [([0, 0], ⟨54, 4, (.mix [(.agg [(.ref [0, 1]), (.d ⟨(.int .i64), y1⟩), (.d ⟨.bool, y2⟩), (.d ⟨.bool, y3⟩)])])⟩), ([0, 1], ⟨5, 1, (.data (.int .u8) y4)⟩)]) = some true) : callK Try.prog ht d 31 [(.ptr [0, 0] 0 0), (.d ⟨(.int .i64), n540⟩)] [([0, 0], ⟨54, 4, (.mix [(.agg [(.ref [0, 1]), (.d ⟨(.int .i64), n541⟩), (.d ⟨.bool, b542⟩), (.d ⟨.bool, b543⟩)])])⟩), ([0, 1], ⟨5, 1, (.data (.int .u8) ns544)⟩)] k = some true := by
  obtain ⟨d, rfl⟩ : ∃ e, d = e + 1 := ⟨d - 1, by omega⟩
  exact fn_ok (c := codeOf Try.f31) Try.func31 (by kernel_rfl) (rec := octet_Reader_Signed.calls octet_number) (fun g a h k hx => by
    rcases octet_number.look d (by omega) hx with hx | hx
    rotate_left
    · exact hx
    cases hx) (loopf := octet_Reader_Signed.loops) (by
    have e : loopsOf (octet_Reader_Signed.loops) 0 (codeOf Try.f31) = [] := by kernel_rfl
    rw [e]
    intro p hp
    cases hp) ((octet_Reader_Signed.eq octet_number n540 n541 b542 b543 ns544 k).trans hx)
theorem octet_Reader_Signed.look (d : Nat) (hd : 4 ≤ d) {e : Option Bool} {g : FuncId} {a : List AV} {h : Heap} {k : KR} (hx : octet_Reader_Signed.get octet_Reader_Signed e g a h k = some true) : e = some true ∨ callK Try.prog ht d g a h k = some true := by
  unfold octet_Reader_Signed.get at hx
  split at hx
  · exact .inr (octet_Reader_Signed.ok d hd _ _ _ _ _ _ hx)
  · exact .inl hx
/-- function 30: sheerleg/instr.read -/
noncomputable def instr_readv1.body (octet_Reader_Signed : Int → Int → Bool → Bool → (List Int) → (Int → Int → Bool → Bool → (List Int) → Option Bool) → Option Bool) (n535 : Int) (n536 : Int) (b537 : Bool) (b538 : Bool) (ns539 : List Int) (k1 : Int → Int → Bool → Bool → (List Int) → Option Bool) : Option Bool :=
  (octet_Reader_Signed n535 n536 b537 b538 ns539
  (fun n558 n559 b560 b561 ns562 => (k1 n558 n559 b560 b561 ns562)))
noncomputable def instr_readv1 (n535 : Int) (n536 : Int) (b537 : Bool) (b538 : Bool) (ns539 : List Int) (k1 : Int → Int → Bool → Bool → (List Int) → Option Bool) : Option Bool := instr_readv1.body octet_Reader_Signed n535 n536 b537 b538 ns539 k1
noncomputable def instr_readv1.get (F : Int → Int → Bool → Bool → (List Int) → (Int → Int → Bool → Bool → (List Int) → Option Bool) → Option Bool) (e : Option Bool) (g : FuncId) (a : List AV) (h : Heap) (k : KR) : Option Bool := match g, a, h with
  | 30, [(.ptr [0, 0] 0 0), (.d ⟨(.int .i64), n535⟩), (.fn (.func 31) [] [])], [([0, 0], ⟨54, 4, (.mix [(.agg [(.ref [0, 1]), (.d ⟨(.int .i64), n536⟩), (.d ⟨.bool, b537⟩), (.d ⟨.bool, b538⟩)])])⟩), ([0, 1], ⟨5, 1, (.data (.int .u8) ns539)⟩)] => F n535 n536 b537 b538 ns539 (fun y0 y1 y2 y3 y4 => k (.d ⟨(.int .i64), y0⟩) [([0, 0], ⟨54, 4, (.mix [(.agg [(.ref [0, 1]), (.d ⟨(.int .i64), y1⟩), (.d ⟨.bool, y2⟩), (.d ⟨.bool, y3⟩)])])⟩), ([0, 1], ⟨5, 1, (.data (.int .u8) y4)⟩)])
  | _, _, _ => e
noncomputable def instr_readv1.calls (F0 : Int → Int → Bool → Bool → (List Int) → (Int → Int → Bool → Bool → (List Int) → Option Bool) → Option Bool) : RecF := fun g a h k => (octet_Reader_Signed.get F0 none g a h k)
noncomputable def instr_readv1.loops : LoopF := fun b => none
set_option maxRecDepth 100000 in
theorem instr_readv1.eq (F0 : Int → Int → Bool → Bool → (List Int) → (Int → Int → Bool → Bool → (List Int) → Option Bool) → Option Bool) (n535 : Int) (n536 : Int) (b537 : Bool) (b538 : Bool) (ns539 : List Int) (k : KR) : execL Try.prog ht 30 (callfOf (instr_readv1.calls F0)) (instr_readv1.loops) 0 (codeOf Try.f30) ⟨[(.ptr [0, 0] 0 0), (.d ⟨(.int .i64), n535⟩), (.fn (.func 31) [] [])] ++ List.replicate (Try.f30.ntmps - ([(.ptr [0, 0] 0 0), (.d ⟨(.int .i64), n535⟩), (.fn (.func 31) [] [])] : List AV).length) .undef, [([0, 0], ⟨54, 4, (.mix [(.agg [(.ref [0, 1]), (.d ⟨(.int .i64), n536⟩), (.d ⟨.bool, b537⟩), (.d ⟨.bool, b538⟩)])])⟩), ([0, 1], ⟨5, 1, (.data (.int .u8) ns539)⟩)], 2⟩ (leave Try.prog Try.f30 k) = instr_readv1.body F0 n535 n536 b537 b538 ns539 (fun y0 y1 y2 y3 y4 => k (.d ⟨(.int .i64), y0⟩) [([0, 0], ⟨54, 4, (.mix [(.agg [(.ref [0, 1]), (.d ⟨(.int .i64), y1⟩), (.d ⟨.bool, y2⟩), (.d ⟨.bool, y3⟩)])])⟩), ([0, 1], ⟨5, 1, (.data (.int .u8) y4)⟩)]) := by kernel_rfl
theorem instr_readv1.ok (d : Nat) (hd : 5 ≤ d) (n535 : Int) (n536 : Int) (b537 : Bool) (b538 : Bool) (ns539 : List Int) (k : KR) (hx : instr_readv1 n535 n536 b537 b538 ns539 (fun y0 y1 y2 y3 y4 => k (.d ⟨(.int .i64), y0⟩) [([0, 0], ⟨54, 4, (.mix [(.agg [(.ref [0, 1]), (.d ⟨(.int .i64), y1⟩), (.d ⟨.bool, y2⟩), (.d ⟨.bool, y3⟩)])])⟩), ([0, 1], ⟨5, 1, (.data (.int .u8) y4)⟩)]) = some true) : callK Try.prog ht d 30 [(.ptr [0, 0] 0 0), (.d ⟨(.int .i64), n535⟩), (.fn (.func 31) [] [])] [([0, 0], ⟨54, 4, (.mix [(.agg [(.ref [0, 1]), (.d ⟨(.int .i64), n536⟩), (.d ⟨.bool, b537⟩), (.d ⟨.bool, b538⟩)])])⟩), ([0, 1], ⟨5, 1, (.data (.int .u8) ns539)⟩)] k = some true := by
  obtain ⟨d, rfl⟩ : ∃ e, d = e + 1 := ⟨d - 1, by omega⟩
  exact fn_ok (c := codeOf Try.f30) Try.func30 (by kernel_rfl) (rec := instr_readv1.calls octet_Reader_Signed) (fun g a h k hx => by
    rcases octet_Reader_Signed.look d (by omega) hx with hx | hx
    rotate_left
    · exact hx
    cases hx) (loopf := instr_readv1.loops) (by
    have e : loopsOf (instr_readv1.loops) 0 (codeOf Try.f30) = [] := by kernel_rfl
    rw [e]
    intro p hp
    cases hp) ((instr_readv1.eq octet_Reader_Signed n535 n536 b537 b538 ns539 k).trans hx)
theorem instr_readv1.look (d : Nat) (hd : 5 ≤ d) {e : Option Bool} {g : FuncId} {a : List AV} {h : Heap} {k : KR} (hx : instr_readv1.get instr_readv1 e g a h k = some true) : e = some true ∨ callK Try.prog ht d g a h k = some true := by
  unfold instr_readv1.get at hx
  split at hx
  · exact .inr (instr_readv1.ok d hd _ _ _ _ _ _ hx)
  · exact .inl hx
/-- function 4: the loop in block 0 -/
noncomputable def law08_InstrBack_L0.body (law08_InstrBack_L0 : Int → Int → Tc1 → Tc1 → (Bool → Option Bool) → (Int → Tc1 → Tc1 → Option Bool) → Option Bool) (instr_Operand : Tc1 → Int → (Int → Option Bool) → Option Bool) (n587 : Int) (n588 : Int) (t589 : Tc1) (t590 : Tc1) (k1 : Bool → Option Bool) (k2 : Int → Tc1 → Tc1 → Option Bool) : Option Bool :=
  (cond_ (decide (n588 ≤ (4 : Int))) (cond_ (n588 != n587) (instr_Operand t590 n588
  (fun n591 => (instr_Operand t589 n588
  (fun n592 => (cond_ (n591 != n592) (k1 false) (law08_InstrBack_L0 n587 (IntKind.wrap .i64 (n588 + (1 : Int))) t589 t590 k1 k2)))))) (law08_InstrBack_L0 n587 (IntKind.wrap .i64 (n588 + (1 : Int))) t589 t590 k1 k2)) (k2 n587 t589 t590))
noncomputable def law08_InstrBack_L0 : Nat → Int → Int → Tc1 → Tc1 → (Bool → Option Bool) → (Int → Tc1 → Tc1 → Option Bool) → Option Bool
  | 0 => fun _ _ _ _ _ _ => none
  | n + 1 => law08_InstrBack_L0.body (law08_InstrBack_L0 n) instr_Operand
noncomputable def law08_InstrBack_L0.get (F : Int → Int → Tc1 → Tc1 → (Bool → Option Bool) → (Int → Tc1 → Tc1 → Option Bool) → Option Bool) (e : Option Bool) (st : St) (k : KE) : Option Bool := match st with
  | ⟨sl, hp, m⟩ => match Nat.beq m 2, pickS 73 [1, 3, 10, 11] sl, hp with
    | true, some [(.d ⟨(.int .i64), n587⟩), (.ptr [1, 0] 0 0), (.ptr [1, 1] 0 0), (.d ⟨(.int .i64), n588⟩)], [([1, 0], ⟨23, 5, (.data (.st [(.int .i64), (.int .i64), (.int .i64), (.int .i64), (.int .i64)]) [t589])⟩), ([1, 1], ⟨23, 5, (.data (.st [(.int .i64), (.int .i64), (.int .i64), (.int .i64), (.int .i64)]) [t590])⟩)] => F n587 n588 t589 t590 (fun y0 => k .ret ⟨fillS 73 [6] [(.d ⟨.bool, y0⟩)], [], 2⟩) (fun y0 y1 y2 => k (.exit 0) ⟨fillS 73 [1, 3, 10] [(.d ⟨(.int .i64), y0⟩), (.ptr [1, 0] 0 0), (.ptr [1, 1] 0 0)], [([1, 0], ⟨23, 5, (.data (.st [(.int .i64), (.int .i64), (.int .i64), (.int .i64), (.int .i64)]) [y1])⟩), ([1, 1], ⟨23, 5, (.data (.st [(.int .i64), (.int .i64), (.int .i64), (.int .i64), (.int .i64)]) [y2])⟩)], 2⟩)
    | _, _, _ => e
noncomputable def law08_InstrBack_L0.calls (F0 : Tc1 → Int → (Int → Option Bool) → Option Bool) : RecF := fun g a h k => (instr_Operand.get F0 none g a h k)
noncomputable def law08_InstrBack_L0.loops : LoopF := fun b => none
set_option maxRecDepth 100000 in
theorem law08_InstrBack_L0.step (S : Int → Int → Tc1 → Tc1 → (Bool → Option Bool) → (Int → Tc1 → Tc1 → Option Bool) → Option Bool) (F0 : Tc1 → Int → (Int → Option Bool) → Option Bool) (n587 : Int) (n588 : Int) (t589 : Tc1) (t590 : Tc1) (k : KE) : execL Try.prog ht 4 (callfOf (law08_InstrBack_L0.calls F0)) (law08_InstrBack_L0.loops) 0 (loopAt 0 (codeOf Try.f4)) ⟨fillS 73 [1, 3, 10, 11] [(.d ⟨(.int .i64), n587⟩), (.ptr [1, 0] 0 0), (.ptr [1, 1] 0 0), (.d ⟨(.int .i64), n588⟩)], [([1, 0], ⟨23, 5, (.data (.st [(.int .i64), (.int .i64), (.int .i64), (.int .i64), (.int .i64)]) [t589])⟩), ([1, 1], ⟨23, 5, (.data (.st [(.int .i64), (.int .i64), (.int .i64), (.int .i64), (.int .i64)]) [t590])⟩)], 2⟩ (again (law08_InstrBack_L0.get S none) (plan Try.prog (ht 4 0)) k) = law08_InstrBack_L0.body S F0 n587 n588 t589 t590 (fun y0 => k .ret ⟨fillS 73 [6] [(.d ⟨.bool, y0⟩)], [], 2⟩) (fun y0 y1 y2 => k (.exit 0) ⟨fillS 73 [1, 3, 10] [(.d ⟨(.int .i64), y0⟩), (.ptr [1, 0] 0 0), (.ptr [1, 1] 0 0)], [([1, 0], ⟨23, 5, (.data (.st [(.int .i64), (.int .i64), (.int .i64), (.int .i64), (.int .i64)]) [y1])⟩), ([1, 1], ⟨23, 5, (.data (.st [(.int .i64), (.int .i64), (.int .i64), (.int .i64), (.int .i64)]) [y2])⟩)], 2⟩) := by kernel_rfl
theorem law08_InstrBack_L0.ok (d : Nat) (hd : 2 ≤ d) : ∀ n st k, law08_InstrBack_L0.get (law08_InstrBack_L0 n) none st k = some true → iter n (plan Try.prog (ht 4 0)) (fun st k => execK Try.prog ht 4 (callfOf (callK Try.prog ht d)) 0 (loopAt 0 (codeOf Try.f4)) st k) st k = some true :=
  loop_ok (lfn := fun n st k => law08_InstrBack_L0.get (law08_InstrBack_L0 n) none st k) (rec := law08_InstrBack_L0.calls instr_Operand) (fun g a h k hx => by
    rcases instr_Operand.look d (by omega) hx with hx | hx
    rotate_left
    · exact hx
    cases hx) (loopf := law08_InstrBack_L0.loops) (by
    have e : loopsOf (law08_InstrBack_L0.loops) 0 (loopAt 0 (codeOf Try.f4)) = [] := by kernel_rfl
    rw [e]
    intro p hp
    cases hp) (fun st k h => by
    obtain ⟨sl, hp, m⟩ := st
    unfold law08_InstrBack_L0.get at h
    dsimp only at h
    split at h
    · have h' : (none : Option Bool) = some true := h
      cases h'
    · cases h) (fun n st k h => by
    obtain ⟨sl, hp, m⟩ := st
    unfold law08_InstrBack_L0.get at h
    dsimp only at h
    split at h
    · rename_i h1 h2
      obtain rfl := pickS_ok h2
      obtain rfl := Nat.eq_of_beq_eq_true h1
      exact (law08_InstrBack_L0.step (law08_InstrBack_L0 n) instr_Operand _ _ _ _ k).trans h
    · cases h)
theorem law08_InstrBack_L0.look {F : Int → Int → Tc1 → Tc1 → (Bool → Option Bool) → (Int → Tc1 → Tc1 → Option Bool) → Option Bool} {e : Option Bool} {st : St} {k : KE} (hx : law08_InstrBack_L0.get F e st k = some true) : e = some true ∨ law08_InstrBack_L0.get F none st k = some true := by
  obtain ⟨sl, hp, m⟩ := st
  unfold law08_InstrBack_L0.get at hx ⊢
  dsimp only at hx ⊢
  split at hx
  · exact .inr hx
  · exact .inl hx
/-- function 18: the loop in block 0 -/
noncomputable def ref02_Num_L0.body (ref02_Num_L0 : Int → Bool → Int → Int → Tc0 → Int → Bool → (Int → Bool → Int → Tc0 → Int → Bool → Option Bool) → Option Bool) (n627 : Int) (b628 : Bool) (n629 : Int) (n630 : Int) (t631 : Tc0) (n632 : Int) (b633 : Bool) (k1 : Int → Bool → Int → Tc0 → Int → Bool → Option Bool) : Option Bool :=
  (cond_ (decide (n630 < n627)) (cond_ ((decide ((0 : Int) ≤ (IntKind.wrap .i64 (t631.2.1 + n630)))) && (decide ((IntKind.wrap .i64 (t631.2.1 + n630)) < (((List.length t631.1) : Nat) : Int)))) (ref02_Num_L0 n627 b628 (IntKind.wrap .u64 ((IntKind.wrap .u64 (n629 * (256 : Int))) + (IntKind.wrap .u64 (List.getD t631.1 (Int.toNat (IntKind.wrap .i64 (t631.2.1 + n630))) (0 : Int))))) (IntKind.wrap .i64 (n630 + (1 : Int))) t631 n632 b633 k1) none) (k1 n627 b628 n629 t631 n632 b633))
noncomputable def ref02_Num_L0 : Nat → Int → Bool → Int → Int → Tc0 → Int → Bool → (Int → Bool → Int → Tc0 → Int → Bool → Option Bool) → Option Bool
  | 0 => fun _ _ _ _ _ _ _ _ => none
  | n + 1 => ref02_Num_L0.body (ref02_Num_L0 n)
noncomputable def ref02_Num_L0.get (F : Int → Bool → Int → Int → Tc0 → Int → Bool → (Int → Bool → Int → Tc0 → Int → Bool → Option Bool) → Option Bool) (e : Option Bool) (st : St) (k : KE) : Option Bool := match st with
  | ⟨sl, hp, m⟩ => match Nat.beq m 2, pickS 83 [1, 2, 3, 6, 8, 9] sl, hp with
    | true, some [(.d ⟨(.int .i64), n627⟩), (.d ⟨.bool, b628⟩), (.ptr [1, 0] 0 0), (.ptr [1, 1] 0 0), (.d ⟨(.int .u64), n629⟩), (.d ⟨(.int .i64), n630⟩)], [([1, 0], ⟨39, 3, (.data (.st [(.sl 5 (.int .u8)), (.int .i64), .bool]) [t631])⟩), ([1, 1], ⟨39, 3, (.mix [(.agg [.nils, (.d ⟨(.int .i64), n632⟩), (.d ⟨.bool, b633⟩)])])⟩)] => F n627 b628 n629 n630 t631 n632 b633 (fun y0 y1 y2 y3 y4 y5 => k (.exit 0) ⟨fillS 83 [1, 2, 3, 6, 8] [(.d ⟨(.int .i64), y0⟩), (.d ⟨.bool, y1⟩), (.ptr [1, 0] 0 0), (.ptr [1, 1] 0 0), (.d ⟨(.int .u64), y2⟩)], [([1, 0], ⟨39, 3, (.data (.st [(.sl 5 (.int .u8)), (.int .i64), .bool]) [y3])⟩), ([1, 1], ⟨39, 3, (.mix [(.agg [.nils, (.d ⟨(.int .i64), y4⟩), (.d ⟨.bool, y5⟩)])])⟩)], 2⟩)
    | _, _, _ => e
noncomputable def ref02_Num_L0.calls : RecF := fun g a h k => none
noncomputable def ref02_Num_L0.loops : LoopF := fun b => none
set_option maxRecDepth 100000 in
theorem ref02_Num_L0.step (S : Int → Bool → Int → Int → Tc0 → Int → Bool → (Int → Bool → Int → Tc0 → Int → Bool → Option Bool) → Option Bool) (n627 : Int) (b628 : Bool) (n629 : Int) (n630 : Int) (t631 : Tc0) (n632 : Int) (b633 : Bool) (k : KE) : execL Try.prog ht 18 (callfOf (ref02_Num_L0.calls)) (ref02_Num_L0.loops) 0 (loopAt 0 (codeOf Try.f18)) ⟨fillS 83 [1, 2, 3, 6, 8, 9] [(.d ⟨(.int .i64), n627⟩), (.d ⟨.bool, b628⟩), (.ptr [1, 0] 0 0), (.ptr [1, 1] 0 0), (.d ⟨(.int .u64), n629⟩), (.d ⟨(.int .i64), n630⟩)], [([1, 0], ⟨39, 3, (.data (.st [(.sl 5 (.int .u8)), (.int .i64), .bool]) [t631])⟩), ([1, 1], ⟨39, 3, (.mix [(.agg [.nils, (.d ⟨(.int .i64), n632⟩), (.d ⟨.bool, b633⟩)])])⟩)], 2⟩ (again (ref02_Num_L0.get S none) (plan Try.prog (ht 18 0)) k) = ref02_Num_L0.body S n627 b628 n629 n630 t631 n632 b633 (fun y0 y1 y2 y3 y4 y5 => k (.exit 0) ⟨fillS 83 [1, 2, 3, 6, 8] [(.d ⟨(.int .i64), y0⟩), (.d ⟨.bool, y1⟩), (.ptr [1, 0] 0 0), (.ptr [1, 1] 0 0), (.d ⟨(.int .u64), y2⟩)], [([1, 0], ⟨39, 3, (.data (.st [(.sl 5 (.int .u8)), (.int .i64), .bool]) [y3])⟩), ([1, 1], ⟨39, 3, (.mix [(.agg [.nils, (.d ⟨(.int .i64), y4⟩), (.d ⟨.bool, y5⟩)])])⟩)], 2⟩) := by kernel_rfl
theorem ref02_Num_L0.ok (d : Nat) (hd : 0 ≤ d) : ∀ n st k, ref02_Num_L0.get (ref02_Num_L0 n) none st k = some true → iter n (plan Try.prog (ht 18 0)) (fun st k => execK Try.prog ht 18 (callfOf (callK Try.prog ht d)) 0 (loopAt 0 (codeOf Try.f18)) st k) st k = some true :=
  loop_ok (lfn := fun n st k => ref02_Num_L0.get (ref02_Num_L0 n) none st k) (rec := ref02_Num_L0.calls) (fun g a h k hx => by
    cases hx) (loopf := ref02_Num_L0.loops) (by
    have e : loopsOf (ref02_Num_L0.loops) 0 (loopAt 0 (codeOf Try.f18)) = [] := by kernel_rfl
    rw [e]
    intro p hp
    cases hp) (fun st k h => by
    obtain ⟨sl, hp, m⟩ := st
    unfold ref02_Num_L0.get at h
    dsimp only at h
    split at h
    · have h' : (none : Option Bool) = some true := h
      cases h'
    · cases h) (fun n st k h => by
    obtain ⟨sl, hp, m⟩ := st
    unfold ref02_Num_L0.get at h
    dsimp only at h
    split at h
    · rename_i h1 h2
      obtain rfl := pickS_ok h2
      obtain rfl := Nat.eq_of_beq_eq_true h1
      exact (ref02_Num_L0.step (ref02_Num_L0 n) _ _ _ _ _ _ _ k).trans h
    · cases h)
theorem ref02_Num_L0.look {F : Int → Bool → Int → Int → Tc0 → Int → Bool → (Int → Bool → Int → Tc0 → Int → Bool → Option Bool) → Option Bool} {e : Option Bool} {st : St} {k : KE} (hx : ref02_Num_L0.get F e st k = some true) : e = some true ∨ ref02_Num_L0.get F none st k = some true := by
  obtain ⟨sl, hp, m⟩ := st
  unfold ref02_Num_L0.get at hx ⊢
  dsimp only at hx ⊢
  split at hx
  · exact .inr hx
  · exact .inl hx
/-- function 18: the loop in block 2 -/
noncomputable def ref02_Num_L2.body (ref02_Num_L2 : Int → Int → Int → Int → Tc0 → Int → Bool → (Int → Int → Int → Tc0 → Int → Bool → Option Bool) → Option Bool) (n640 : Int) (n641 : Int) (n642 : Int) (n643 : Int) (t644 : Tc0) (n645 : Int) (b646 : Bool) (k1 : Int → Int → Int → Tc0 → Int → Bool → Option Bool) : Option Bool :=
  (cond_ (decide (n643 < n640)) (ref02_Num_L2 n640 n641 (IntKind.wrap .u64 (n642 * (256 : Int))) (IntKind.wrap .i64 (n643 + (1 : Int))) t644 n645 b646 k1) (k1 n640 n641 n642 t644 n645 b646))
noncomputable def ref02_Num_L2 : Nat → Int → Int → Int → Int → Tc0 → Int → Bool → (Int → Int → Int → Tc0 → Int → Bool → Option Bool) → Option Bool
  | 0 => fun _ _ _ _ _ _ _ _ => none
  | n + 1 => ref02_Num_L2.body (ref02_Num_L2 n)
noncomputable def ref02_Num_L2.get (F : Int → Int → Int → Int → Tc0 → Int → Bool → (Int → Int → Int → Tc0 → Int → Bool → Option Bool) → Option Bool) (e : Option Bool) (st : St) (k : KE) : Option Bool := match st with
  | ⟨sl, hp, m⟩ => match Nat.beq m 2, pickS 83 [1, 3, 6, 8, 10, 11] sl, hp with
    | true, some [(.d ⟨(.int .i64), n640⟩), (.ptr [1, 0] 0 0), (.ptr [1, 1] 0 0), (.d ⟨(.int .u64), n641⟩), (.d ⟨(.int .u64), n642⟩), (.d ⟨(.int .i64), n643⟩)], [([1, 0], ⟨39, 3, (.data (.st [(.sl 5 (.int .u8)), (.int .i64), .bool]) [t644])⟩), ([1, 1], ⟨39, 3, (.mix [(.agg [.nils, (.d ⟨(.int .i64), n645⟩), (.d ⟨.bool, b646⟩)])])⟩)] => F n640 n641 n642 n643 t644 n645 b646 (fun y0 y1 y2 y3 y4 y5 => k (.exit 2) ⟨fillS 83 [1, 3, 6, 8, 10] [(.d ⟨(.int .i64), y0⟩), (.ptr [1, 0] 0 0), (.ptr [1, 1] 0 0), (.d ⟨(.int .u64), y1⟩), (.d ⟨(.int .u64), y2⟩)], [([1, 0], ⟨39, 3, (.data (.st [(.sl 5 (.int .u8)), (.int .i64), .bool]) [y3])⟩), ([1, 1], ⟨39, 3, (.mix [(.agg [.nils, (.d ⟨(.int .i64), y4⟩), (.d ⟨.bool, y5⟩)])])⟩)], 2⟩)
    | _, _, _ => e
noncomputable def ref02_Num_L2.calls : RecF := fun g a h k => none
noncomputable def ref02_Num_L2.loops : LoopF := fun b => none
set_option maxRecDepth 100000 in
theorem ref02_Num_L2.step (S : Int → Int → Int → Int → Tc0 → Int → Bool → (Int → Int → Int → Tc0 → Int → Bool → Option Bool) → Option Bool) (n640 : Int) (n641 : Int) (n642 : Int) (n643 : Int) (t644 : Tc0) (n645 : Int) (b646 : Bool) (k : KE) : execL Try.prog ht 18 (callfOf (ref02_Num_L2.calls)) (ref02_Num_L2.loops) 2 (loopAt 2 (codeOf Try.f18)) ⟨fillS 83 [1, 3, 6, 8, 10, 11] [(.d ⟨(.int .i64), n640⟩), (.ptr [1, 0] 0 0), (.ptr [1, 1] 0 0), (.d ⟨(.int .u64), n641⟩), (.d ⟨(.int .u64), n642⟩), (.d ⟨(.int .i64), n643⟩)], [([1, 0], ⟨39, 3, (.data (.st [(.sl 5 (.int .u8)), (.int .i64), .bool]) [t644])⟩), ([1, 1], ⟨39, 3, (.mix [(.agg [.nils, (.d ⟨(.int .i64), n645⟩), (.d ⟨.bool, b646⟩)])])⟩)], 2⟩ (again (ref02_Num_L2.get S none) (plan Try.prog (ht 18 2)) k) = ref02_Num_L2.body S n640 n641 n642 n643 t644 n645 b646 (fun y0 y1 y2 y3 y4 y5 => k (.exit 2) ⟨fillS 83 [1, 3, 6, 8, 10] [(.d ⟨(.int .i64), y0⟩), (.ptr [1, 0] 0 0), (.ptr [1, 1] 0 0), (.d ⟨(.int .u64), y1⟩), (.d ⟨(.int .u64), y2⟩)], [([1, 0], ⟨39, 3, (.data (.st [(.sl 5 (.int .u8)), (.int .i64), .bool]) [y3])⟩), ([1, 1], ⟨39, 3, (.mix [(.agg [.nils, (.d ⟨(.int .i64), y4⟩), (.d ⟨.bool, y5⟩)])])⟩)], 2⟩) := by kernel_rfl
theorem ref02_Num_L2.ok (d : Nat) (hd : 0 ≤ d) : ∀ n st k, ref02_Num_L2.get (ref02_Num_L2 n) none st k = some true → iter n (plan Try.prog (ht 18 2)) (fun st k => execK Try.prog ht 18 (callfOf (callK Try.prog ht d)) 2 (loopAt 2 (codeOf Try.f18)) st k) st k = some true :=
  loop_ok (lfn := fun n st k => ref02_Num_L2.get (ref02_Num_L2 n) none st k) (rec := ref02_Num_L2.calls) (fun g a h k hx => by
    cases hx) (loopf := ref02_Num_L2.loops) (by
    have e : loopsOf (ref02_Num_L2.loops) 2 (loopAt 2 (codeOf Try.f18)) = [] := by kernel_rfl
    rw [e]
    intro p hp
    cases hp) (fun st k h => by
    obtain ⟨sl, hp, m⟩ := st
    unfold ref02_Num_L2.get at h
    dsimp only at h
    split at h
    · have h' : (none : Option Bool) = some true := h
      cases h'
    · cases h) (fun n st k h => by
    obtain ⟨sl, hp, m⟩ := st
    unfold ref02_Num_L2.get at h
    dsimp only at h
    split at h
    · rename_i h1 h2
      obtain rfl := pickS_ok h2
      obtain rfl := Nat.eq_of_beq_eq_true h1
      exact (ref02_Num_L2.step (ref02_Num_L2 n) _ _ _ _ _ _ _ k).trans h
    · cases h)
theorem ref02_Num_L2.look {F : Int → Int → Int → Int → Tc0 → Int → Bool → (Int → Int → Int → Tc0 → Int → Bool → Option Bool) → Option Bool} {e : Option Bool} {st : St} {k : KE} (hx : ref02_Num_L2.get F e st k = some true) : e = some true ∨ ref02_Num_L2.get F none st k = some true := by
  obtain ⟨sl, hp, m⟩ := st
  unfold ref02_Num_L2.get at hx ⊢
  dsimp only at hx ⊢
  split at hx
  · exact .inr hx
  · exact .inl hx
/-- function 18: sheerleg/sheerlegref02.Num -/
noncomputable def ref02_Num.body (ref02_Num_L0 : Int → Bool → Int → Int → Tc0 → Int → Bool → (Int → Bool → Int → Tc0 → Int → Bool → Option Bool) → Option Bool) (ref02_Num_L2 : Int → Int → Int → Int → Tc0 → Int → Bool → (Int → Int → Int → Tc0 → Int → Bool → Option Bool) → Option Bool) (t624 : Tc0) (n625 : Int) (b626 : Bool) (k1 : Tc0 → Int → Option Bool) : Option Bool :=
  (cond_ (! t624.2.2.1) (cond_ (! (decide (n625 < (1 : Int)))) (cond_ (! (decide (n625 > (8 : Int)))) (cond_ (decide (n625 > (IntKind.wrap .i64 ((((List.length t624.1) : Nat) : Int) - t624.2.1)))) (k1 ((t624.1, (t624.2.1, (true, ()))).1, ((t624.1, (t624.2.1, (true, ()))).2.1, (true, ()))) (0 : Int)) (ref02_Num_L0 n625 b626 (0 : Int) (0 : Int) t624 (0 : Int) false
  (fun n634 b635 n636 t637 n638 b639 => (cond_ b635 (cond_ (decide (n634 < (8 : Int))) (cond_ ((decide ((0 : Int) ≤ t637.2.1)) && (decide (t637.2.1 < (((List.length t637.1) : Nat) : Int)))) (cond_ (decide ((List.getD t637.1 (Int.toNat t637.2.1) (0 : Int)) ≥ (128 : Int))) (ref02_Num_L2 n634 n636 (1 : Int) (0 : Int) t637 n638 b639
  (fun n647 n648 n649 t650 n651 b652 => (k1 ((t650.1, ((IntKind.wrap .i64 (t650.2.1 + n647)), (t650.2.2.1, ()))).1, ((t650.1, ((IntKind.wrap .i64 (t650.2.1 + n647)), (t650.2.2.1, ()))).2.1, ((t650.1, ((IntKind.wrap .i64 (t650.2.1 + n647)), (t650.2.2.1, ()))).2.2.1, ()))) (IntKind.wrap .i64 (IntKind.wrap .u64 (n648 - n649)))))) (k1 ((t637.1, ((IntKind.wrap .i64 (t637.2.1 + n634)), (t637.2.2.1, ()))).1, ((t637.1, ((IntKind.wrap .i64 (t637.2.1 + n634)), (t637.2.2.1, ()))).2.1, ((t637.1, ((IntKind.wrap .i64 (t637.2.1 + n634)), (t637.2.2.1, ()))).2.2.1, ()))) (IntKind.wrap .i64 n636))) none) (k1 ((t637.1, ((IntKind.wrap .i64 (t637.2.1 + n634)), (t637.2.2.1, ()))).1, ((t637.1, ((IntKind.wrap .i64 (t637.2.1 + n634)), (t637.2.2.1, ()))).2.1, ((t637.1, ((IntKind.wrap .i64 (t637.2.1 + n634)), (t637.2.2.1, ()))).2.2.1, ()))) (IntKind.wrap .i64 n636))) (k1 ((t637.1, ((IntKind.wrap .i64 (t637.2.1 + n634)), (t637.2.2.1, ()))).1, ((t637.1, ((IntKind.wrap .i64 (t637.2.1 + n634)), (t637.2.2.1, ()))).2.1, ((t637.1, ((IntKind.wrap .i64 (t637.2.1 + n634)), (t637.2.2.1, ()))).2.2.1, ()))) (IntKind.wrap .i64 n636)))))) (k1 ((t624.1, (t624.2.1, (true, ()))).1, ((t624.1, (t624.2.1, (true, ()))).2.1, (true, ()))) (0 : Int))) (k1 ((t624.1, (t624.2.1, (true, ()))).1, ((t624.1, (t624.2.1, (true, ()))).2.1, (true, ()))) (0 : Int))) (k1 ((t624.1, (t624.2.1, (true, ()))).1, ((t624.1, (t624.2.1, (true, ()))).2.1, (true, ()))) (0 : Int)))
noncomputable def ref02_Num (t624 : Tc0) (n625 : Int) (b626 : Bool) (k1 : Tc0 → Int → Option Bool) : Option Bool := ref02_Num.body (ref02_Num_L0 ROUNDS) (ref02_Num_L2 ROUNDS) t624 n625 b626 k1
noncomputable def ref02_Num.get (F : Tc0 → Int → Bool → (Tc0 → Int → Option Bool) → Option Bool) (e : Option Bool) (g : FuncId) (a : List AV) (h : Heap) (k : KR) : Option Bool := match g, a, h with
  | 18, [(.d ⟨(.st [(.sl 5 (.int .u8)), (.int .i64), .bool]), t624⟩), (.d ⟨(.int .i64), n625⟩), (.d ⟨.bool, b626⟩)], [] => F t624 n625 b626 (fun y0 y1 => k (.tup [(.d ⟨(.st [(.sl 5 (.int .u8)), (.int .i64), .bool]), y0⟩), (.d ⟨(.int .i64), y1⟩)]) [])
  | _, _, _ => e
noncomputable def ref02_Num.calls : RecF := fun g a h k => none
noncomputable def ref02_Num.loops (L0 : Int → Bool → Int → Int → Tc0 → Int → Bool → (Int → Bool → Int → Tc0 → Int → Bool → Option Bool) → Option Bool) (L1 : Int → Int → Int → Int → Tc0 → Int → Bool → (Int → Int → Int → Tc0 → Int → Bool → Option Bool) → Option Bool) : LoopF := fun b => match Nat.beq b 0 with | true => some (fun st k => (ref02_Num_L0.get L0 none st k)) | false => match Nat.beq b 2 with | true => some (fun st k => (ref02_Num_L2.get L1 none st k)) | false => none
set_option maxRecDepth 100000 in
theorem ref02_Num.eq (L0 : Int → Bool → Int → Int → Tc0 → Int → Bool → (Int → Bool → Int → Tc0 → Int → Bool → Option Bool) → Option Bool) (L1 : Int → Int → Int → Int → Tc0 → Int → Bool → (Int → Int → Int → Tc0 → Int → Bool → Option Bool) → Option Bool) (t624 : Tc0) (n625 : Int) (b626 : Bool) (k : KR) : execL Try.prog ht 18 (callfOf (ref02_Num.calls)) (ref02_Num.loops L0 L1) 0 (codeOf Try.f18) ⟨[(.d ⟨(.st [(.sl 5 (.int .u8)), (.int .i64), .bool]), t624⟩), (.d ⟨(.int .i64), n625⟩), (.d ⟨.bool, b626⟩)] ++ List.replicate (Try.f18.ntmps - ([(.d ⟨(.st [(.sl 5 (.int .u8)), (.int .i64), .bool]), t624⟩), (.d ⟨(.int .i64), n625⟩), (.d ⟨.bool, b626⟩)] : List AV).length) .undef, [], 2⟩ (leave Try.prog Try.f18 k) = ref02_Num.body L0 L1 t624 n625 b626 (fun y0 y1 => k (.tup [(.d ⟨(.st [(.sl 5 (.int .u8)), (.int .i64), .bool]), y0⟩), (.d ⟨(.int .i64), y1⟩)]) []) := by kernel_rfl
theorem ref02_Num.ok (d : Nat) (hd : 1 ≤ d) (t624 : Tc0) (n625 : Int) (b626 : Bool) (k : KR) (hx : ref02_Num t624 n625 b626 (fun y0 y1 => k (.tup [(.d ⟨(.st [(.sl 5 (.int .u8)), (.int .i64), .bool]), y0⟩), (.d ⟨(.int .i64), y1⟩)]) []) = some true) : callK Try.prog ht d 18 [(.d ⟨(.st [(.sl 5 (.int .u8)), (.int .i64), .bool]), t624⟩), (.d ⟨(.int .i64), n625⟩), (.d ⟨.bool, b626⟩)] [] k = some true := by
  obtain ⟨d, rfl⟩ : ∃ e, d = e + 1 := ⟨d - 1, by omega⟩
  exact fn_ok (c := codeOf Try.f18) Try.func18 (by kernel_rfl) (rec := ref02_Num.calls) (fun g a h k hx => by
    cases hx) (loopf := ref02_Num.loops (ref02_Num_L0 ROUNDS) (ref02_Num_L2 ROUNDS)) (by
    have e : loopsOf (ref02_Num.loops (ref02_Num_L0 ROUNDS) (ref02_Num_L2 ROUNDS)) 0 (codeOf Try.f18) = [(0, loopAt 0 (codeOf Try.f18)), (2, loopAt 2 (codeOf Try.f18))] := by kernel_rfl
    rw [e]
    intro p hp
    simp only [List.mem_cons, List.not_mem_nil, or_false] at hp
    rcases hp with rfl | rfl
    · refine loopRef_of (callf := callfOf (callK Try.prog ht d)) (callfOf_ref (callK_mono d)) fun lf st k hb hx => ?_
      cases hb
      rcases ref02_Num_L0.look hx with hx | hx
      rotate_left
      · exact ref02_Num_L0.ok d (by omega) _ _ _ hx
      cases hx
    · refine loopRef_of (callf := callfOf (callK Try.prog ht d)) (callfOf_ref (callK_mono d)) fun lf st k hb hx => ?_
      cases hb
      rcases ref02_Num_L2.look hx with hx | hx
      rotate_left
      · exact ref02_Num_L2.ok d (by omega) _ _ _ hx
      cases hx) ((ref02_Num.eq (ref02_Num_L0 ROUNDS) (ref02_Num_L2 ROUNDS) t624 n625 b626 k).trans hx)
theorem ref02_Num.look (d : Nat) (hd : 1 ≤ d) {e : Option Bool} {g : FuncId} {a : List AV} {h : Heap} {k : KR} (hx : ref02_Num.get ref02_Num e g a h k = some true) : e = some true ∨ callK Try.prog ht d g a h k = some true := by
  unfold ref02_Num.get at hx
  split at hx
  · exact .inr (ref02_Num.ok d hd _ _ _ _ hx)
  · exact .inl hx
/-- function 5: the loop in block 0 -/
noncomputable def law08_InstrGets_L0.body (law08_InstrGets_L0 : Int → Int → Int → Bool → Bool → (List Int) → (List Int) → Int → Bool → (Int → Bool → Bool → (List Int) → (List Int) → Int → Bool → Option Bool) → Option Bool) (ref02_Num : Tc0 → Int → Bool → (Tc0 → Int → Option Bool) → Option Bool) (octet_Reader_Num : Int → Int → Bool → Bool → (List Int) → (Int → Int → Bool → Bool → (List Int) → Option Bool) → Option Bool) (n615 : Int) (n616 : Int) (n617 : Int) (b618 : Bool) (b619 : Bool) (ns620 : List Int) (l621 : List Int) (n622 : Int) (b623 : Bool) (k1 : Int → Bool → Bool → (List Int) → (List Int) → Int → Bool → Option Bool) : Option Bool :=
  (cond_ (decide (n616 < n615)) (cond_ (decide (n616 < (9 : Int))) (ref02_Num (l621, (n622, (b623, ()))) (1 : Int) false
  (fun t653 n654 => (octet_Reader_Num (1 : Int) n617 b618 b619 ns620
  (fun n655 n656 b657 b658 ns659 => (law08_InstrGets_L0 n615 (IntKind.wrap .i64 (n616 + (1 : Int))) n656 b657 b658 ns659 t653.1 t653.2.1 t653.2.2.1 k1))))) (k1 n617 b618 b619 ns620 l621 n622 b623)) (k1 n617 b618 b619 ns620 l621 n622 b623))
noncomputable def law08_InstrGets_L0 : Nat → Int → Int → Int → Bool → Bool → (List Int) → (List Int) → Int → Bool → (Int → Bool → Bool → (List Int) → (List Int) → Int → Bool → Option Bool) → Option Bool
  | 0 => fun _ _ _ _ _ _ _ _ _ _ => none
  | n + 1 => law08_InstrGets_L0.body (law08_InstrGets_L0 n) ref02_Num octet_Reader_Num
noncomputable def law08_InstrGets_L0.get (F : Int → Int → Int → Bool → Bool → (List Int) → (List Int) → Int → Bool → (Int → Bool → Bool → (List Int) → (List Int) → Int → Bool → Option Bool) → Option Bool) (e : Option Bool) (st : St) (k : KE) : Option Bool := match st with
  | ⟨sl, hp, m⟩ => match Nat.beq m 2, pickS 90 [1, 5, 6, 7] sl, hp with
    | true, some [(.d ⟨(.int .i64), n615⟩), (.ptr [1, 0] 0 0), (.ptr [1, 2] 0 0), (.d ⟨(.int .i64), n616⟩)], [([1, 0], ⟨54, 4, (.mix [(.agg [(.ref [1, 1]), (.d ⟨(.int .i64), n617⟩), (.d ⟨.bool, b618⟩), (.d ⟨.bool, b619⟩)])])⟩), ([1, 1], ⟨5, 1, (.data (.int .u8) ns620)⟩), ([1, 2], ⟨39, 3, (.mix [(.agg [(.d ⟨(.sl 5 (.int .u8)), l621⟩), (.d ⟨(.int .i64), n622⟩), (.d ⟨.bool, b623⟩)])])⟩)] => F n615 n616 n617 b618 b619 ns620 l621 n622 b623 (fun y0 y1 y2 y3 y4 y5 y6 => k (.exit 0) ⟨fillS 90 [5, 6] [(.ptr [1, 0] 0 0), (.ptr [1, 2] 0 0)], [([1, 0], ⟨54, 4, (.mix [(.agg [(.ref [1, 1]), (.d ⟨(.int .i64), y0⟩), (.d ⟨.bool, y1⟩), (.d ⟨.bool, y2⟩)])])⟩), ([1, 1], ⟨5, 1, (.data (.int .u8) y3)⟩), ([1, 2], ⟨39, 3, (.mix [(.agg [(.d ⟨(.sl 5 (.int .u8)), y4⟩), (.d ⟨(.int .i64), y5⟩), (.d ⟨.bool, y6⟩)])])⟩)], 2⟩)
    | _, _, _ => e
noncomputable def law08_InstrGets_L0.calls (F0 : Tc0 → Int → Bool → (Tc0 → Int → Option Bool) → Option Bool) (F1 : Int → Int → Bool → Bool → (List Int) → (Int → Int → Bool → Bool → (List Int) → Option Bool) → Option Bool) : RecF := fun g a h k => (ref02_Num.get F0 (octet_Reader_Num.get F1 none g a h k) g a h k)
noncomputable def law08_InstrGets_L0.loops : LoopF := fun b => none
set_option maxRecDepth 100000 in
theorem law08_InstrGets_L0.step (S : Int → Int → Int → Bool → Bool → (List Int) → (List Int) → Int → Bool → (Int → Bool → Bool → (List Int) → (List Int) → Int → Bool → Option Bool) → Option Bool) (F0 : Tc0 → Int → Bool → (Tc0 → Int → Option Bool) → Option Bool) (F1 : Int → Int → Bool → Bool → (List Int) → (Int → Int → Bool → Bool → (List Int) → Option Bool) → Option Bool) (n615 : Int) (n616 : Int) (n617 : Int) (b618 : Bool) (b619 : Bool) (ns620 : List Int) (l621 : List Int) (n622 : Int) (b623 : Bool) (k : KE) : execL Try.prog ht 5 (callfOf (law08_InstrGets_L0.calls F0 F1)) (law08_InstrGets_L0.loops) 0 (loopAt 0 (codeOf Try.f5)) ⟨fillS 90 [1, 5, 6, 7] [(.d ⟨(.int .i64), n615⟩), (.ptr [1, 0] 0 0), (.ptr [1, 2] 0 0), (.d ⟨(.int .i64), n616⟩)], [([1, 0], ⟨54, 4, (.mix [(.agg [(.ref [1, 1]), (.d ⟨(.int .i64), n617⟩), (.d ⟨.bool, b618⟩), (.d ⟨.bool, b619⟩)])])⟩), ([1, 1], ⟨5, 1, (.data (.int .u8) ns620)⟩), ([1, 2], ⟨39, 3, (.mix [(.agg [(.d ⟨(.sl 5 (.int .u8)), l621⟩), (.d ⟨(.int .i64), n622⟩), (.d ⟨.bool, b623⟩)])])⟩)], 2⟩ (again (law08_InstrGets_L0.get S none) (plan Try.prog (ht 5 0)) k) = law08_InstrGets_L0.body S F0 F1 n615 n616 n617 b618 b619 ns620 l621 n622 b623 (fun y0 y1 y2 y3 y4 y5 y6 => k (.exit 0) ⟨fillS 90 [5, 6] [(.ptr [1, 0] 0 0), (.ptr [1, 2] 0 0)], [([1, 0], ⟨54, 4, (.mix [(.agg [(.ref [1, 1]), (.d ⟨(.int .i64), y0⟩), (.d ⟨.bool, y1⟩), (.d ⟨.bool, y2⟩)])])⟩), ([1, 1], ⟨5, 1, (.data (.int .u8) y3)⟩), ([1, 2], ⟨39, 3, (.mix [(.agg [(.d ⟨(.sl 5 (.int .u8)), y4⟩), (.d ⟨(.int .i64), y5⟩), (.d ⟨.bool, y6⟩)])])⟩)], 2⟩) := by kernel_rfl
theorem law08_InstrGets_L0.ok (d : Nat) (hd : 4 ≤ d) : ∀ n st k, law08_InstrGets_L0.get (law08_InstrGets_L0 n) none st k = some true → iter n (plan Try.prog (ht 5 0)) (fun st k => execK Try.prog ht 5 (callfOf (callK Try.prog ht d)) 0 (loopAt 0 (codeOf Try.f5)) st k) st k = some true :=
  loop_ok (lfn := fun n st k => law08_InstrGets_L0.get (law08_InstrGets_L0 n) none st k) (rec := law08_InstrGets_L0.calls ref02_Num octet_Reader_Num) (fun g a h k hx => by
    rcases ref02_Num.look d (by omega) hx with hx | hx
    rotate_left
    · exact hx
    rcases octet_Reader_Num.look d (by omega) hx with hx | hx
    rotate_left
    · exact hx
    cases hx) (loopf := law08_InstrGets_L0.loops) (by
    have e : loopsOf (law08_InstrGets_L0.loops) 0 (loopAt 0 (codeOf Try.f5)) = [] := by kernel_rfl
    rw [e]
    intro p hp
    cases hp) (fun st k h => by
    obtain ⟨sl, hp, m⟩ := st
    unfold law08_InstrGets_L0.get at h
    dsimp only at h
    split at h
    · have h' : (none : Option Bool) = some true := h
      cases h'
    · cases h) (fun n st k h => by
    obtain ⟨sl, hp, m⟩ := st
    unfold law08_InstrGets_L0.get at h
    dsimp only at h
    split at h
    · rename_i h1 h2
      obtain rfl := pickS_ok h2
      obtain rfl := Nat.eq_of_beq_eq_true h1
      exact (law08_InstrGets_L0.step (law08_InstrGets_L0 n) ref02_Num octet_Reader_Num _ _ _ _ _ _ _ _ _ k).trans h
    · cases h)
theorem law08_InstrGets_L0.look {F : Int → Int → Int → Bool → Bool → (List Int) → (List Int) → Int → Bool → (Int → Bool → Bool → (List Int) → (List Int) → Int → Bool → Option Bool) → Option Bool} {e : Option Bool} {st : St} {k : KE} (hx : law08_InstrGets_L0.get F e st k = some true) : e = some true ∨ law08_InstrGets_L0.get F none st k = some true := by
  obtain ⟨sl, hp, m⟩ := st
  unfold law08_InstrGets_L0.get at hx ⊢
  dsimp only at hx ⊢
  split at hx
  · exact .inr hx
  · exact .inl hx
/-- function 20: sheerleg/sheerlegref08.Get -/
noncomputable def ref08_Get.body (ref02_Num : Tc0 → Int → Bool → (Tc0 → Int → Option Bool) → Option Bool) (ref08_Check : Tc1 → (Int → Option Bool) → Option Bool) (t721 : Tc0) (k1 : Tc0 → Tc1 → Int → Option Bool) : Option Bool :=
  (cond_ (! t721.2.2.1) (cond_ (decide ((IntKind.wrap .i64 ((((List.length t721.1) : Nat) : Int) - t721.2.1)) < (8 : Int))) (k1 ((t721.1, (t721.2.1, (true, ()))).1, ((t721.1, (t721.2.1, (true, ()))).2.1, (true, ()))) ((0 : Int), ((0 : Int), ((0 : Int), ((0 : Int), ((0 : Int), ()))))) (5 : Int)) (ref02_Num t721 (1 : Int) false
  (fun t722 n723 => (ref02_Num (t722.1, (t722.2.1, (t722.2.2.1, ()))) (1 : Int) false
  (fun t724 n725 => (ref02_Num (t724.1, (t724.2.1, (t724.2.2.1, ()))) (1 : Int) false
  (fun t726 n727 => (ref02_Num (t726.1, (t726.2.1, (t726.2.2.1, ()))) (1 : Int) false
  (fun t728 n729 => (ref02_Num (t728.1, (t728.2.1, (t728.2.2.1, ()))) (4 : Int) true
  (fun t730 n731 => (ref08_Check (n723, (n725, (n727, (n729, (n731, ())))))
  (fun n732 => (cond_ (n732 != (0 : Int)) (k1 (t730.1, (t730.2.1, (t730.2.2.1, ()))) ((0 : Int), ((0 : Int), ((0 : Int), ((0 : Int), ((0 : Int), ()))))) n732) (k1 (t730.1, (t730.2.1, (t730.2.2.1, ()))) (n723, (n725, (n727, (n729, (n731, ()))))) (0 : Int)))))))))))))))) (k1 ((t721.1, (t721.2.1, (true, ()))).1, ((t721.1, (t721.2.1, (true, ()))).2.1, (true, ()))) ((0 : Int), ((0 : Int), ((0 : Int), ((0 : Int), ((0 : Int), ()))))) (5 : Int)))
noncomputable def ref08_Get (t721 : Tc0) (k1 : Tc0 → Tc1 → Int → Option Bool) : Option Bool := ref08_Get.body ref02_Num ref08_Check t721 k1
noncomputable def ref08_Get.get (F : Tc0 → (Tc0 → Tc1 → Int → Option Bool) → Option Bool) (e : Option Bool) (g : FuncId) (a : List AV) (h : Heap) (k : KR) : Option Bool := match g, a, h with
  | 20, [(.d ⟨(.st [(.sl 5 (.int .u8)), (.int .i64), .bool]), t721⟩)], [] => F t721 (fun y0 y1 y2 => k (.tup [(.d ⟨(.st [(.sl 5 (.int .u8)), (.int .i64), .bool]), y0⟩), (.d ⟨(.st [(.int .i64), (.int .i64), (.int .i64), (.int .i64), (.int .i64)]), y1⟩), (.d ⟨(.int .i64), y2⟩)]) [])
  | _, _, _ => e
noncomputable def ref08_Get.calls (F0 : Tc0 → Int → Bool → (Tc0 → Int → Option Bool) → Option Bool) (F1 : Tc1 → (Int → Option Bool) → Option Bool) : RecF := fun g a h k => (ref02_Num.get F0 (ref08_Check.get F1 none g a h k) g a h k)
noncomputable def ref08_Get.loops : LoopF := fun b => match Nat.beq b 0 with | true => none | false => none
set_option maxRecDepth 100000 in
theorem ref08_Get.eq (F0 : Tc0 → Int → Bool → (Tc0 → Int → Option Bool) → Option Bool) (F1 : Tc1 → (Int → Option Bool) → Option Bool) (t721 : Tc0) (k : KR) : execL Try.prog ht 20 (callfOf (ref08_Get.calls F0 F1)) (ref08_Get.loops) 0 (codeOf Try.f20) ⟨[(.d ⟨(.st [(.sl 5 (.int .u8)), (.int .i64), .bool]), t721⟩)] ++ List.replicate (Try.f20.ntmps - ([(.d ⟨(.st [(.sl 5 (.int .u8)), (.int .i64), .bool]), t721⟩)] : List AV).length) .undef, [], 2⟩ (leave Try.prog Try.f20 k) = ref08_Get.body F0 F1 t721 (fun y0 y1 y2 => k (.tup [(.d ⟨(.st [(.sl 5 (.int .u8)), (.int .i64), .bool]), y0⟩), (.d ⟨(.st [(.int .i64), (.int .i64), (.int .i64), (.int .i64), (.int .i64)]), y1⟩), (.d ⟨(.int .i64), y2⟩)]) []) := by kernel_rfl
theorem ref08_Get.ok (d : Nat) (hd : 5 ≤ d) (t721 : Tc0) (k : KR) (hx : ref08_Get t721 (fun y0 y1 y2 => k (.tup [(.d ⟨(.st [(.sl 5 (.int .u8)), (.int .i64), .bool]), y0⟩), (.d ⟨(.st [(.int .i64), (.int .i64), (.int .i64), (.int .i64), (.int .i64)]), y1⟩), (.d ⟨(.int .i64), y2⟩)]) []) = some true) : callK Try.prog ht d 20 [(.d ⟨(.st [(.sl 5 (.int .u8)), (.int .i64), .bool]), t721⟩)] [] k = some true := by
  obtain ⟨d, rfl⟩ : ∃ e, d = e + 1 := ⟨d - 1, by omega⟩
  exact fn_ok (c := codeOf Try.f20) Try.func20 (by kernel_rfl) (rec := ref08_Get.calls ref02_Num ref08_Check) (fun g a h k hx => by
    rcases ref02_Num.look d (by omega) hx with hx | hx
    rotate_left
    · exact hx
    rcases ref08_Check.look d (by omega) hx with hx | hx
    rotate_left
    · exact hx
    cases hx) (loopf := ref08_Get.loops) (by
    have e : loopsOf (ref08_Get.loops) 0 (codeOf Try.f20) = [] := by kernel_rfl
    rw [e]
    intro p hp
    cases hp) ((ref08_Get.eq ref02_Num ref08_Check t721 k).trans hx)
theorem ref08_Get.look (d : Nat) (hd : 5 ≤ d) {e : Option Bool} {g : FuncId} {a : List AV} {h : Heap} {k : KR} (hx : ref08_Get.get ref08_Get e g a h k = some true) : e = some true ∨ callK Try.prog ht d g a h k = some true := by
  unfold ref08_Get.get at hx
  split at hx
  · exact .inr (ref08_Get.ok d hd _ _ hx)
  · exact .inl hx
/-- function 21: (*sheerleg/octet.Reader).At -/
noncomputable def octet_Reader_At.body (n736 : Int) (b737 : Bool) (b738 : Bool) (ns739 : List Int) (k1 : Int → Int → Bool → Bool → (List Int) → Option Bool) : Option Bool :=
  (k1 n736 n736 b737 b738 ns739)
noncomputable def octet_Reader_At (n736 : Int) (b737 : Bool) (b738 : Bool) (ns739 : List Int) (k1 : Int → Int → Bool → Bool → (List Int) → Option Bool) : Option Bool := octet_Reader_At.body n736 b737 b738 ns739 k1
noncomputable def octet_Reader_At.get (F : Int → Bool → Bool → (List Int) → (Int → Int → Bool → Bool → (List Int) → Option Bool) → Option Bool) (e : Option Bool) (g : FuncId) (a : List AV) (h : Heap) (k : KR) : Option Bool := match g, a, h with
  | 21, [(.ptr [0, 0] 0 0)], [([0, 0], ⟨54, 4, (.mix [(.agg [(.ref [0, 1]), (.d ⟨(.int .i64), n736⟩), (.d ⟨.bool, b737⟩), (.d ⟨.bool, b738⟩)])])⟩), ([0, 1], ⟨5, 1, (.data (.int .u8) ns739)⟩)] => F n736 b737 b738 ns739 (fun y0 y1 y2 y3 y4 => k (.d ⟨(.int .i64), y0⟩) [([0, 0], ⟨54, 4, (.mix [(.agg [(.ref [0, 1]), (.d ⟨(.int .i64), y1⟩), (.d ⟨.bool, y2⟩), (.d ⟨.bool, y3⟩)])])⟩), ([0, 1], ⟨5, 1, (.data (.int .u8) y4)⟩)])
  | _, _, _ => e
noncomputable def octet_Reader_At.calls : RecF := fun g a h k => none
noncomputable def octet_Reader_At.loops : LoopF := fun b => none
set_option maxRecDepth 100000 in
theorem octet_Reader_At.eq (n736 : Int) (b737 : Bool) (b738 : Bool) (ns739 : List Int) (k : KR) : execL Try.prog ht 21 (callfOf (octet_Reader_At.calls)) (octet_Reader_At.loops) 0 (codeOf Try.f21) ⟨[(.ptr [0, 0] 0 0)] ++ List.replicate (Try.f21.ntmps - ([(.ptr [0, 0] 0 0)] : List AV).length) .undef, [([0, 0], ⟨54, 4, (.mix [(.agg [(.ref [0, 1]), (.d ⟨(.int .i64), n736⟩), (.d ⟨.bool, b737⟩), (.d ⟨.bool, b738⟩)])])⟩), ([0, 1], ⟨5, 1, (.data (.int .u8) ns739)⟩)], 2⟩ (leave Try.prog Try.f21 k) = octet_Reader_At.body n736 b737 b738 ns739 (fun y0 y1 y2 y3 y4 => k (.d ⟨(.int .i64), y0⟩) [([0, 0], ⟨54, 4, (.mix [(.agg [(.ref [0, 1]), (.d ⟨(.int .i64), y1⟩), (.d ⟨.bool, y2⟩), (.d ⟨.bool, y3⟩)])])⟩), ([0, 1], ⟨5, 1, (.data (.int .u8) y4)⟩)]) := by kernel_rfl
theorem octet_Reader_At.ok (d : Nat) (hd : 1 ≤ d) (n736 : Int) (b737 : Bool) (b738 : Bool) (ns739 : List Int) (k : KR) (hx : octet_Reader_At n736 b737 b738 ns739 (fun y0 y1 y2 y3 y4 => k (.d ⟨(.int .i64), y0⟩) [([0, 0], ⟨54, 4, (.mix [(.agg [(.ref [0, 1]), (.d ⟨(.int .i64), y1⟩), (.d ⟨.bool, y2⟩), (.d ⟨.bool, y3⟩)])])⟩), ([0, 1], ⟨5, 1, (.data (.int .u8) y4)⟩)]) = some true) : callK Try.prog ht d 21 [(.ptr [0, 0] 0 0)] [([0, 0], ⟨54, 4, (.mix [(.agg [(.ref [0, 1]), (.d ⟨(.int .i64), n736⟩), (.d ⟨.bool, b737⟩), (.d ⟨.bool, b738⟩)])])⟩), ([0, 1], ⟨5, 1, (.data (.int .u8) ns739)⟩)] k = some true := by
  obtain ⟨d, rfl⟩ : ∃ e, d = e + 1 := ⟨d - 1, by omega⟩
  exact fn_ok (c := codeOf Try.f21) Try.func21 (by kernel_rfl) (rec := octet_Reader_At.calls) (fun g a h k hx => by
    cases hx) (loopf := octet_Reader_At.loops) (by
    have e : loopsOf (octet_Reader_At.loops) 0 (codeOf Try.f21) = [] := by kernel_rfl
    rw [e]
    intro p hp
    cases hp) ((octet_Reader_At.eq n736 b737 b738 ns739 k).trans hx)
theorem octet_Reader_At.look (d : Nat) (hd : 1 ≤ d) {e : Option Bool} {g : FuncId} {a : List AV} {h : Heap} {k : KR} (hx : octet_Reader_At.get octet_Reader_At e g a h k = some true) : e = some true ∨ callK Try.prog ht d g a h k = some true := by
  unfold octet_Reader_At.get at hx
  split at hx
  · exact .inr (octet_Reader_At.ok d hd _ _ _ _ _ hx)
  · exact .inl hx
/-- function 17: (*sheerleg/octet.Reader).Left -/
noncomputable def octet_Reader_Leftv1.body (k1 : Int → Option Bool) : Option Bool :=
  (k1 (0 : Int))
noncomputable def octet_Reader_Leftv1 (k1 : Int → Option Bool) : Option Bool := octet_Reader_Leftv1.body k1
noncomputable def octet_Reader_Leftv1.get (F : (Int → Option Bool) → Option Bool) (e : Option Bool) (g : FuncId) (a : List AV) (h : Heap) (k : KR) : Option Bool := match g, a, h with
  | 17, [.nilp], [] => F (fun y0 => k (.d ⟨(.int .i64), y0⟩) [])
  | _, _, _ => e
noncomputable def octet_Reader_Leftv1.calls : RecF := fun g a h k => none
noncomputable def octet_Reader_Leftv1.loops : LoopF := fun b => none
set_option maxRecDepth 100000 in
theorem octet_Reader_Leftv1.eq (k : KR) : execL Try.prog ht 17 (callfOf (octet_Reader_Leftv1.calls)) (octet_Reader_Leftv1.loops) 0 (codeOf Try.f17) ⟨[.nilp] ++ List.replicate (Try.f17.ntmps - ([.nilp] : List AV).length) .undef, [], 2⟩ (leave Try.prog Try.f17 k) = octet_Reader_Leftv1.body (fun y0 => k (.d ⟨(.int .i64), y0⟩) []) := by kernel_rfl
theorem octet_Reader_Leftv1.ok (d : Nat) (hd : 1 ≤ d) (k : KR) (hx : octet_Reader_Leftv1 (fun y0 => k (.d ⟨(.int .i64), y0⟩) []) = some true) : callK Try.prog ht d 17 [.nilp] [] k = some true := by
  obtain ⟨d, rfl⟩ : ∃ e, d = e + 1 := ⟨d - 1, by omega⟩
  exact fn_ok (c := codeOf Try.f17) Try.func17 (by kernel_rfl) (rec := octet_Reader_Leftv1.calls) (fun g a h k hx => by
    cases hx) (loopf := octet_Reader_Leftv1.loops) (by
    have e : loopsOf (octet_Reader_Leftv1.loops) 0 (codeOf Try.f17) = [] := by kernel_rfl
    rw [e]
    intro p hp
    cases hp) ((octet_Reader_Leftv1.eq k).trans hx)
theorem octet_Reader_Leftv1.look (d : Nat) (hd : 1 ≤ d) {e : Option Bool} {g : FuncId} {a : List AV} {h : Heap} {k : KR} (hx : octet_Reader_Leftv1.get octet_Reader_Leftv1 e g a h k = some true) : e = some true ∨ callK Try.prog ht d g a h k = some true := by
  unfold octet_Reader_Leftv1.get at hx
  split at hx
  · exact .inr (octet_Reader_Leftv1.ok d hd _ hx)
  · exact .inl hx
/-- function 22: (*sheerleg/octet.Reader).Bad -/
noncomputable def octet_Reader_Badv1.body (k1 : Bool → Option Bool) : Option Bool :=
  (k1 true)
noncomputable def octet_Reader_Badv1 (k1 : Bool → Option Bool) : Option Bool := octet_Reader_Badv1.body k1
noncomputable def octet_Reader_Badv1.get (F : (Bool → Option Bool) → Option Bool) (e : Option Bool) (g : FuncId) (a : List AV) (h : Heap) (k : KR) : Option Bool := match g, a, h with
  | 22, [.nilp], [] => F (fun y0 => k (.d ⟨.bool, y0⟩) [])
  | _, _, _ => e
noncomputable def octet_Reader_Badv1.calls : RecF := fun g a h k => none
noncomputable def octet_Reader_Badv1.loops : LoopF := fun b => none
set_option maxRecDepth 100000 in
theorem octet_Reader_Badv1.eq (k : KR) : execL Try.prog ht 22 (callfOf (octet_Reader_Badv1.calls)) (octet_Reader_Badv1.loops) 0 (codeOf Try.f22) ⟨[.nilp] ++ List.replicate (Try.f22.ntmps - ([.nilp] : List AV).length) .undef, [], 2⟩ (leave Try.prog Try.f22 k) = octet_Reader_Badv1.body (fun y0 => k (.d ⟨.bool, y0⟩) []) := by kernel_rfl
theorem octet_Reader_Badv1.ok (d : Nat) (hd : 1 ≤ d) (k : KR) (hx : octet_Reader_Badv1 (fun y0 => k (.d ⟨.bool, y0⟩) []) = some true) : callK Try.prog ht d 22 [.nilp] [] k = some true := by
  obtain ⟨d, rfl⟩ : ∃ e, d = e + 1 := ⟨d - 1, by omega⟩
  exact fn_ok (c := codeOf Try.f22) Try.func22 (by kernel_rfl) (rec := octet_Reader_Badv1.calls) (fun g a h k hx => by
    cases hx) (loopf := octet_Reader_Badv1.loops) (by
    have e : loopsOf (octet_Reader_Badv1.loops) 0 (codeOf Try.f22) = [] := by kernel_rfl
    rw [e]
    intro p hp
    cases hp) ((octet_Reader_Badv1.eq k).trans hx)
theorem octet_Reader_Badv1.look (d : Nat) (hd : 1 ≤ d) {e : Option Bool} {g : FuncId} {a : List AV} {h : Heap} {k : KR} (hx : octet_Reader_Badv1.get octet_Reader_Badv1 e g a h k = some true) : e = some true ∨ callK Try.prog ht d g a h k = some true := by
  unfold octet_Reader_Badv1.get at hx
  split at hx
  · exact .inr (octet_Reader_Badv1.ok d hd _ hx)
  · exact .inl hx
/-- function 38: (*sheerleg/octet.Reader).spoil -/
noncomputable def octet_Reader_spoilv1.body (k1 : Option Bool) : Option Bool :=
  (k1)
noncomputable def octet_Reader_spoilv1 (k1 : Option Bool) : Option Bool := octet_Reader_spoilv1.body k1
noncomputable def octet_Reader_spoilv1.get (F : (Option Bool) → Option Bool) (e : Option Bool) (g : FuncId) (a : List AV) (h : Heap) (k : KR) : Option Bool := match g, a, h with
  | 38, [.nilp], [] => F (k (.tup []) [])
  | _, _, _ => e
noncomputable def octet_Reader_spoilv1.calls : RecF := fun g a h k => none
noncomputable def octet_Reader_spoilv1.loops : LoopF := fun b => none
set_option maxRecDepth 100000 in
theorem octet_Reader_spoilv1.eq (k : KR) : execL Try.prog ht 38 (callfOf (octet_Reader_spoilv1.calls)) (octet_Reader_spoilv1.loops) 0 (codeOf Try.f38) ⟨[.nilp] ++ List.replicate (Try.f38.ntmps - ([.nilp] : List AV).length) .undef, [], 2⟩ (leave Try.prog Try.f38 k) = octet_Reader_spoilv1.body (k (.tup []) []) := by kernel_rfl
theorem octet_Reader_spoilv1.ok (d : Nat) (hd : 1 ≤ d) (k : KR) (hx : octet_Reader_spoilv1 (k (.tup []) []) = some true) : callK Try.prog ht d 38 [.nilp] [] k = some true := by
  obtain ⟨d, rfl⟩ : ∃ e, d = e + 1 := ⟨d - 1, by omega⟩
  exact fn_ok (c := codeOf Try.f38) Try.func38 (by kernel_rfl) (rec := octet_Reader_spoilv1.calls) (fun g a h k hx => by
    cases hx) (loopf := octet_Reader_spoilv1.loops) (by
    have e : loopsOf (octet_Reader_spoilv1.loops) 0 (codeOf Try.f38) = [] := by kernel_rfl
    rw [e]
    intro p hp
    cases hp) ((octet_Reader_spoilv1.eq k).trans hx)
theorem octet_Reader_spoilv1.look (d : Nat) (hd : 1 ≤ d) {e : Option Bool} {g : FuncId} {a : List AV} {h : Heap} {k : KR} (hx : octet_Reader_spoilv1.get octet_Reader_spoilv1 e g a h k = some true) : e = some true ∨ callK Try.prog ht d g a h k = some true := by
  unfold octet_Reader_spoilv1.get at hx
  split at hx
  · exact .inr (octet_Reader_spoilv1.ok d hd _ hx)
  · exact .inl hx
/-- function 33: (*sheerleg/octet.Reader).take -/
noncomputable def octet_Reader_takev1.body (octet_Reader_Badv1 : (Bool → Option Bool) → Option Bool) (octet_Reader_Leftv1 : (Int → Option Bool) → Option Bool) (octet_Reader_spoilv1 : (Option Bool) → Option Bool) (n755 : Int) (k1 : (List Int) → Option Bool) : Option Bool :=
  (octet_Reader_Badv1
  (fun b756 => (cond_ (! b756) (cond_ (! (decide (n755 < (0 : Int)))) (octet_Reader_Leftv1
  (fun n757 => (cond_ (decide (n755 > n757)) (octet_Reader_spoilv1
  (k1 [])) none))) (octet_Reader_spoilv1
  (k1 []))) (octet_Reader_spoilv1
  (k1 [])))))
noncomputable def octet_Reader_takev1 (n755 : Int) (k1 : (List Int) → Option Bool) : Option Bool := octet_Reader_takev1.body octet_Reader_Badv1 octet_Reader_Leftv1 octet_Reader_spoilv1 n755 k1
noncomputable def octet_Reader_takev1.get (F : Int → ((List Int) → Option Bool) → Option Bool) (e : Option Bool) (g : FuncId) (a : List AV) (h : Heap) (k : KR) : Option Bool := match g, a, h with
  | 33, [.nilp, (.d ⟨(.int .i64), n755⟩)], [] => F n755 (fun y0 => k (.ref [1, 0]) [([1, 0], ⟨5, 1, (.data (.int .u8) y0)⟩)])
  | _, _, _ => e
noncomputable def octet_Reader_takev1.calls (F0 : (Bool → Option Bool) → Option Bool) (F1 : (Int → Option Bool) → Option Bool) (F2 : (Option Bool) → Option Bool) : RecF := fun g a h k => (octet_Reader_Badv1.get F0 (octet_Reader_Leftv1.get F1 (octet_Reader_spoilv1.get F2 none g a h k) g a h k) g a h k)
noncomputable def octet_Reader_takev1.loops : LoopF := fun b => none
set_option maxRecDepth 100000 in
theorem octet_Reader_takev1.eq (F0 : (Bool → Option Bool) → Option Bool) (F1 : (Int → Option Bool) → Option Bool) (F2 : (Option Bool) → Option Bool) (n755 : Int) (k : KR) : execL Try.prog ht 33 (callfOf (octet_Reader_takev1.calls F0 F1 F2)) (octet_Reader_takev1.loops) 0 (codeOf Try.f33) ⟨[.nilp, (.d ⟨(.int .i64), n755⟩)] ++ List.replicate (Try.f33.ntmps - ([.nilp, (.d ⟨(.int .i64), n755⟩)] : List AV).length) .undef, [], 2⟩ (leave Try.prog Try.f33 k) = octet_Reader_takev1.body F0 F1 F2 n755 (fun y0 => k (.ref [1, 0]) [([1, 0], ⟨5, 1, (.data (.int .u8) y0)⟩)]) := by kernel_rfl
theorem octet_Reader_takev1.ok (d : Nat) (hd : 2 ≤ d) (n755 : Int) (k : KR) (hx : octet_Reader_takev1 n755 (fun y0 => k (.ref [1, 0]) [([1, 0], ⟨5, 1, (.data (.int .u8) y0)⟩)]) = some true) : callK Try.prog ht d 33 [.nilp, (.d ⟨(.int .i64), n755⟩)] [] k = some true := by
  obtain ⟨d, rfl⟩ : ∃ e, d = e + 1 := ⟨d - 1, by omega⟩
  exact fn_ok (c := codeOf Try.f33) Try.func33 (by kernel_rfl) (rec := octet_Reader_takev1.calls octet_Reader_Badv1 octet_Reader_Leftv1 octet_Reader_spoilv1) (fun g a h k hx => by
    rcases octet_Reader_Badv1.look d (by omega) hx with hx | hx
    rotate_left
    · exact hx
    rcases octet_Reader_Leftv1.look d (by omega) hx with hx | hx
    rotate_left
    · exact hx
    rcases octet_Reader_spoilv1.look d (by omega) hx with hx | hx
    rotate_left
    · exact hx
    cases hx) (loopf := octet_Reader_takev1.loops) (by
    have e : loopsOf (octet_Reader_takev1.loops) 0 (codeOf Try.f33) = [] := by kernel_rfl
    rw [e]
    intro p hp
    cases hp) ((octet_Reader_takev1.eq octet_Reader_Badv1 octet_Reader_Leftv1 octet_Reader_spoilv1 n755 k).trans hx)
theorem octet_Reader_takev1.look (d : Nat) (hd : 2 ≤ d) {e : Option Bool} {g : FuncId} {a : List AV} {h : Heap} {k : KR} (hx : octet_Reader_takev1.get octet_Reader_takev1 e g a h k = some true) : e = some true ∨ callK Try.prog ht d g a h k = some true := by
  unfold octet_Reader_takev1.get at hx
  split at hx
  · exact .inr (octet_Reader_takev1.ok d hd _ _ hx)
  · exact .inl hx
/-- function 32: the loop in block 0 -/
noncomputable def octet_numberv1_L0.body (octet_numberv1_L0 : Int → Int → Int → (List Int) → (Int → (List Int) → Option Bool) → Option Bool) (n759 : Int) (n760 : Int) (n761 : Int) (ns762 : List Int) (k1 : Int → (List Int) → Option Bool) : Option Bool :=
  (cond_ (decide (n761 < n760)) (cond_ ((decide ((0 : Int) ≤ n761)) && (decide (n761 < (((List.length ns762) : Nat) : Int)))) (octet_numberv1_L0 (IntKind.wrap .i64 (((@BitVec.toNat (64 : Nat) ((@BitVec.ofInt (64 : Nat) (IntKind.wrap .i64 (n759 * (256 : Int)))) ||| (@BitVec.ofInt (64 : Nat) (IntKind.wrap .i64 (List.getD ns762 (Int.toNat n761) (0 : Int)))))) : Nat) : Int)) n760 (IntKind.wrap .i64 (n761 + (1 : Int))) ns762 k1) none) (k1 n759 ns762))
noncomputable def octet_numberv1_L0 : Nat → Int → Int → Int → (List Int) → (Int → (List Int) → Option Bool) → Option Bool
  | 0 => fun _ _ _ _ _ => none
  | n + 1 => octet_numberv1_L0.body (octet_numberv1_L0 n)
noncomputable def octet_numberv1_L0.get (F : Int → Int → Int → (List Int) → (Int → (List Int) → Option Bool) → Option Bool) (e : Option Bool) (st : St) (k : KE) : Option Bool := match st with
  | ⟨sl, hp, m⟩ => match Nat.beq m 2, pickS 33 [6, 7, 19, 20, 21] sl, hp with
    | true, some [(.d ⟨(.int .i64), n759⟩), (.ref [1, 0]), (.ref [1, 0]), (.d ⟨(.int .i64), n760⟩), (.d ⟨(.int .i64), n761⟩)], [([1, 0], ⟨5, 1, (.data (.int .u8) ns762)⟩)] => F n759 n760 n761 ns762 (fun y0 y1 => k (.exit 0) ⟨fillS 33 [6, 7] [(.d ⟨(.int .i64), y0⟩), (.ref [1, 0])], [([1, 0], ⟨5, 1, (.data (.int .u8) y1)⟩)], 2⟩)
    | _, _, _ => e
noncomputable def octet_numberv1_L0.calls : RecF := fun g a h k => none
noncomputable def octet_numberv1_L0.loops : LoopF := fun b => none
set_option maxRecDepth 100000 in
theorem octet_numberv1_L0.step (S : Int → Int → Int → (List Int) → (Int → (List Int) → Option Bool) → Option Bool) (n759 : Int) (n760 : Int) (n761 : Int) (ns762 : List Int) (k : KE) : execL Try.prog ht 32 (callfOf (octet_numberv1_L0.calls)) (octet_numberv1_L0.loops) 0 (loopAt 0 (codeOf Try.f32)) ⟨fillS 33 [6, 7, 19, 20, 21] [(.d ⟨(.int .i64), n759⟩), (.ref [1, 0]), (.ref [1, 0]), (.d ⟨(.int .i64), n760⟩), (.d ⟨(.int .i64), n761⟩)], [([1, 0], ⟨5, 1, (.data (.int .u8) ns762)⟩)], 2⟩ (again (octet_numberv1_L0.get S none) (plan Try.prog (ht 32 0)) k) = octet_numberv1_L0.body S n759 n760 n761 ns762 (fun y0 y1 => k (.exit 0) ⟨fillS 33 [6, 7] [(.d ⟨(.int .i64), y0⟩), (.ref [1, 0])], [([1, 0], ⟨5, 1, (.data (.int .u8) y1)⟩)], 2⟩) := by kernel_rfl
theorem octet_numberv1_L0.ok (d : Nat) (hd : 0 ≤ d) : ∀ n st k, octet_numberv1_L0.get (octet_numberv1_L0 n) none st k = some true → iter n (plan Try.prog (ht 32 0)) (fun st k => execK Try.prog ht 32 (callfOf (callK Try.prog ht d)) 0 (loopAt 0 (codeOf Try.f32)) st k) st k = some true :=
  loop_ok (lfn := fun n st k => octet_numberv1_L0.get (octet_numberv1_L0 n) none st k) (rec := octet_numberv1_L0.calls) (fun g a h k hx => by
    cases hx) (loopf := octet_numberv1_L0.loops) (by
    have e : loopsOf (octet_numberv1_L0.loops) 0 (loopAt 0 (codeOf Try.f32)) = [] := by kernel_rfl
    rw [e]
    intro p hp
    cases hp) (fun st k h => by
    obtain ⟨sl, hp, m⟩ := st
    unfold octet_numberv1_L0.get at h
    dsimp only at h
    split at h
    · have h' : (none : Option Bool) = some true := h
      cases h'
    · cases h) (fun n st k h => by
    obtain ⟨sl, hp, m⟩ := st
    unfold octet_numberv1_L0.get at h
    dsimp only at h
    split at h
    · rename_i h1 h2
      obtain rfl := pickS_ok h2
      obtain rfl := Nat.eq_of_beq_eq_true h1
      exact (octet_numberv1_L0.step (octet_numberv1_L0 n) _ _ _ _ k).trans h
    · cases h)
theorem octet_numberv1_L0.look {F : Int → Int → Int → (List Int) → (Int → (List Int) → Option Bool) → Option Bool} {e : Option Bool} {st : St} {k : KE} (hx : octet_numberv1_L0.get F e st k = some true) : e = some true ∨ octet_numberv1_L0.get F none st k = some true := by
  obtain ⟨sl, hp, m⟩ := st
  unfold octet_numberv1_L0.get at hx ⊢
  dsimp only at hx ⊢
  split at hx
  · exact .inr hx
  · exact .inl hx
/-- function 32: sheerleg/octet.number -/
noncomputable def octet_numberv1.body (octet_Reader_takev1 : Int → ((List Int) → Option Bool) → Option Bool) (octet_numberv1_L0 : Int → Int → Int → (List Int) → (Int → (List Int) → Option Bool) → Option Bool) (n754 : Int) (k1 : Int → (List Int) → Option Bool) : Option Bool :=
  (cond_ (! (decide (n754 < (1 : Int)))) (cond_ (decide (n754 > (8 : Int))) (octet_Reader_takev1 (-1 : Int)
  (fun ns758 => (octet_numberv1_L0 (0 : Int) (((List.length ns758) : Nat) : Int) (0 : Int) ns758
  (fun n763 ns764 => (k1 n763 ns764))))) (octet_Reader_takev1 n754
  (fun ns765 => (octet_numberv1_L0 (0 : Int) (((List.length ns765) : Nat) : Int) (0 : Int) ns765
  (fun n766 ns767 => (k1 n766 ns767)))))) (octet_Reader_takev1 (-1 : Int)
  (fun ns768 => (octet_numberv1_L0 (0 : Int) (((List.length ns768) : Nat) : Int) (0 : Int) ns768
  (fun n769 ns770 => (k1 n769 ns770))))))
noncomputable def octet_numberv1 (n754 : Int) (k1 : Int → (List Int) → Option Bool) : Option Bool := octet_numberv1.body octet_Reader_takev1 (octet_numberv1_L0 ROUNDS) n754 k1
noncomputable def octet_numberv1.get (F : Int → (Int → (List Int) → Option Bool) → Option Bool) (e : Option Bool) (g : FuncId) (a : List AV) (h : Heap) (k : KR) : Option Bool := match g, a, h with
  | 32, [(.fn (.func 33) [.nilp] []), (.d ⟨(.int .i64), n754⟩)], [] => F n754 (fun y0 y1 => k (.tup [(.d ⟨(.int .i64), y0⟩), (.ref [1, 0])]) [([1, 0], ⟨5, 1, (.data (.int .u8) y1)⟩)])
  | _, _, _ => e
noncomputable def octet_numberv1.calls (F0 : Int → ((List Int) → Option Bool) → Option Bool) : RecF := fun g a h k => (octet_Reader_takev1.get F0 none g a h k)
noncomputable def octet_numberv1.loops (L0 : Int → Int → Int → (List Int) → (Int → (List Int) → Option Bool) → Option Bool) : LoopF := fun b => match Nat.beq b 0 with | true => some (fun st k => (octet_numberv1_L0.get L0 none st k)) | false => none
set_option maxRecDepth 100000 in
theorem octet_numberv1.eq (F0 : Int → ((List Int) → Option Bool) → Option Bool) (L0 : Int → Int → Int → (List Int) → (Int → (List Int) → Option Bool) → Option Bool) (n754 : Int) (k : KR) : execL Try.prog ht 32 (callfOf (octet_numberv1.calls F0)) (octet_numberv1.loops L0) 0 (codeOf Try.f32) ⟨[(.fn (.func 33) [.nilp] []), (.d ⟨(.int .i64), n754⟩)] ++ List.replicate (Try.f32.ntmps - ([(.fn (.func 33) [.nilp] []), (.d ⟨(.int .i64), n754⟩)] : List AV).length) .undef, [], 2⟩ (leave Try.prog Try.f32 k) = octet_numberv1.body F0 L0 n754 (fun y0 y1 => k (.tup [(.d ⟨(.int .i64), y0⟩), (.ref [1, 0])]) [([1, 0], ⟨5, 1, (.data (.int .u8) y1)⟩)]) := by kernel_rfl
theorem octet_numberv1.ok (d : Nat) (hd : 3 ≤ d) (n754 : Int) (k : KR) (hx : octet_numberv1 n754 (fun y0 y1 => k (.tup [(.d ⟨(.int .i64), y0⟩), (.ref [1, 0])]) [([1, 0], ⟨5, 1, (.data (.int .u8) y1)⟩)]) = some true) : callK Try.prog ht d 32 [(.fn (.func 33) [.nilp] []), (.d ⟨(.int .i64), n754⟩)] [] k = some true := by
  obtain ⟨d, rfl⟩ : ∃ e, d = e + 1 := ⟨d - 1, by omega⟩
  exact fn_ok (c := codeOf Try.f32) Try.func32 (by kernel_rfl) (rec := octet_numberv1.calls octet_Reader_takev1) (fun g a h k hx => by
    rcases octet_Reader_takev1.look d (by omega) hx with hx | hx
    rotate_left
    · exact hx
    cases hx) (loopf := octet_numberv1.loops (octet_numberv1_L0 ROUNDS)) (by
    have e : loopsOf (octet_numberv1.loops (octet_numberv1_L0 ROUNDS)) 0 (codeOf Try.f32) = [(0, loopAt 0 (codeOf Try.f32))] := by kernel_rfl
    rw [e]
    intro p hp
    simp only [List.mem_cons, List.not_mem_nil, or_false] at hp
    rcases hp with rfl
    · refine loopRef_of (callf := callfOf (callK Try.prog ht d)) (callfOf_ref (callK_mono d)) fun lf st k hb hx => ?_
      cases hb
      rcases octet_numberv1_L0.look hx with hx | hx
      rotate_left
      · exact octet_numberv1_L0.ok d (by omega) _ _ _ hx
      cases hx) ((octet_numberv1.eq octet_Reader_takev1 (octet_numberv1_L0 ROUNDS) n754 k).trans hx)
theorem octet_numberv1.look (d : Nat) (hd : 3 ≤ d) {e : Option Bool} {g : FuncId} {a : List AV} {h : Heap} {k : KR} (hx : octet_numberv1.get octet_numberv1 e g a h k = some true) : e = some true ∨ callK Try.prog ht d g a h k = some true := by
  unfold octet_numberv1.get at hx
  split at hx
  · exact .inr (octet_numberv1.ok d hd _ _ hx)
  · exact .inl hx
end Go.Proofs.Ytfpefjpbkgejdaa.g
