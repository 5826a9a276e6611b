/- What the functions come to that G reaches, as plain functions; written by a program of this work, each told by Lean. -/
import Derived.Test.YtfpefjpbkgejdaaMG1
namespace Go.Proofs.Ytfpefjpbkgejdaa.g
open Go.AX
set_option linter.unusedVariables false
set_option maxRecDepth 100000
set_option maxHeartbeats 4000000
/-- function 19: (*sheerleg/octet.Reader).Num -/
noncomputable def octet_Reader_Numv1.body (octet_numberv1 : Int → (Int → (List Int) → Option Bool) → Option Bool) (n753 : Int) (k1 : Int → Option Bool) : Option Bool :=
  (octet_numberv1 n753
  (fun n771 ns772 => (k1 n771)))
noncomputable def octet_Reader_Numv1 (n753 : Int) (k1 : Int → Option Bool) : Option Bool := octet_Reader_Numv1.body octet_numberv1 n753 k1
noncomputable def octet_Reader_Numv1.get (F : Int → (Int → Option Bool) → Option Bool) (e : Option Bool) (g : FuncId) (a : List AV) (h : Heap) (k : KR) : Option Bool := match g, a, h with
  | 19, [.nilp, (.d ⟨(.int .i64), n753⟩)], [] => F n753 (fun y0 => k (.d ⟨(.int .i64), y0⟩) [])
  | _, _, _ => e
noncomputable def octet_Reader_Numv1.calls (F0 : Int → (Int → (List Int) → Option Bool) → Option Bool) : RecF := fun g a h k => (octet_numberv1.get F0 none g a h k)
noncomputable def octet_Reader_Numv1.loops : LoopF := fun b => none
set_option maxRecDepth 100000 in
theorem octet_Reader_Numv1.eq (F0 : Int → (Int → (List Int) → Option Bool) → Option Bool) (n753 : Int) (k : KR) : execL Try.prog ht 19 (callfOf (octet_Reader_Numv1.calls F0)) (octet_Reader_Numv1.loops) 0 (codeOf Try.f19) ⟨[.nilp, (.d ⟨(.int .i64), n753⟩)] ++ List.replicate (Try.f19.ntmps - ([.nilp, (.d ⟨(.int .i64), n753⟩)] : List AV).length) .undef, [], 2⟩ (leave Try.prog Try.f19 k) = octet_Reader_Numv1.body F0 n753 (fun y0 => k (.d ⟨(.int .i64), y0⟩) []) := by kernel_rfl
theorem octet_Reader_Numv1.ok (d : Nat) (hd : 4 ≤ d) (n753 : Int) (k : KR) (hx : octet_Reader_Numv1 n753 (fun y0 => k (.d ⟨(.int .i64), y0⟩) []) = some true) : callK Try.prog ht d 19 [.nilp, (.d ⟨(.int .i64), n753⟩)] [] k = some true := by
  obtain ⟨d, rfl⟩ : ∃ e, d = e + 1 := ⟨d - 1, by omega⟩
  exact fn_ok (c := codeOf Try.f19) Try.func19 (by kernel_rfl) (rec := octet_Reader_Numv1.calls octet_numberv1) (fun g a h k hx => by
    rcases octet_numberv1.look d (by omega) hx with hx | hx
    rotate_left
    · exact hx
    cases hx) (loopf := octet_Reader_Numv1.loops) (by
    have e : loopsOf (octet_Reader_Numv1.loops) 0 (codeOf Try.f19) = [] := by kernel_rfl
    rw [e]
    intro p hp
    cases hp) ((octet_Reader_Numv1.eq octet_numberv1 n753 k).trans hx)
theorem octet_Reader_Numv1.look (d : Nat) (hd : 4 ≤ d) {e : Option Bool} {g : FuncId} {a : List AV} {h : Heap} {k : KR} (hx : octet_Reader_Numv1.get octet_Reader_Numv1 e g a h k = some true) : e = some true ∨ callK Try.prog ht d g a h k = some true := by
  unfold octet_Reader_Numv1.get at hx
  split at hx
  · exact .inr (octet_Reader_Numv1.ok d hd _ _ hx)
  · exact .inl hx
/-- function 30: sheerleg/instr.read -/
noncomputable def instr_readv2.body (octet_Reader_Numv1 : Int → (Int → Option Bool) → Option Bool) (n780 : Int) (k1 : Int → Option Bool) : Option Bool :=
  (octet_Reader_Numv1 n780
  (fun n781 => (k1 n781)))
noncomputable def instr_readv2 (n780 : Int) (k1 : Int → Option Bool) : Option Bool := instr_readv2.body octet_Reader_Numv1 n780 k1
noncomputable def instr_readv2.get (F : Int → (Int → Option Bool) → Option Bool) (e : Option Bool) (g : FuncId) (a : List AV) (h : Heap) (k : KR) : Option Bool := match g, a, h with
  | 30, [.nilp, (.d ⟨(.int .i64), n780⟩), (.fn (.func 19) [] [])], [] => F n780 (fun y0 => k (.d ⟨(.int .i64), y0⟩) [])
  | _, _, _ => e
noncomputable def instr_readv2.calls (F0 : Int → (Int → Option Bool) → Option Bool) : RecF := fun g a h k => (octet_Reader_Numv1.get F0 none g a h k)
noncomputable def instr_readv2.loops : LoopF := fun b => none
set_option maxRecDepth 100000 in
theorem instr_readv2.eq (F0 : Int → (Int → Option Bool) → Option Bool) (n780 : Int) (k : KR) : execL Try.prog ht 30 (callfOf (instr_readv2.calls F0)) (instr_readv2.loops) 0 (codeOf Try.f30) ⟨[.nilp, (.d ⟨(.int .i64), n780⟩), (.fn (.func 19) [] [])] ++ List.replicate (Try.f30.ntmps - ([.nilp, (.d ⟨(.int .i64), n780⟩), (.fn (.func 19) [] [])] : List AV).length) .undef, [], 2⟩ (leave Try.prog Try.f30 k) = instr_readv2.body F0 n780 (fun y0 => k (.d ⟨(.int .i64), y0⟩) []) := by kernel_rfl
theorem instr_readv2.ok (d : Nat) (hd : 5 ≤ d) (n780 : Int) (k : KR) (hx : instr_readv2 n780 (fun y0 => k (.d ⟨(.int .i64), y0⟩) []) = some true) : callK Try.prog ht d 30 [.nilp, (.d ⟨(.int .i64), n780⟩), (.fn (.func 19) [] [])] [] k = some true := by
  obtain ⟨d, rfl⟩ : ∃ e, d = e + 1 := ⟨d - 1, by omega⟩
  exact fn_ok (c := codeOf Try.f30) Try.func30 (by kernel_rfl) (rec := instr_readv2.calls octet_Reader_Numv1) (fun g a h k hx => by
    rcases octet_Reader_Numv1.look d (by omega) hx with hx | hx
    rotate_left
    · exact hx
    cases hx) (loopf := instr_readv2.loops) (by
    have e : loopsOf (instr_readv2.loops) 0 (codeOf Try.f30) = [] := by kernel_rfl
    rw [e]
    intro p hp
    cases hp) ((instr_readv2.eq octet_Reader_Numv1 n780 k).trans hx)
theorem instr_readv2.look (d : Nat) (hd : 5 ≤ d) {e : Option Bool} {g : FuncId} {a : List AV} {h : Heap} {k : KR} (hx : instr_readv2.get instr_readv2 e g a h k = some true) : e = some true ∨ callK Try.prog ht d g a h k = some true := by
  unfold instr_readv2.get at hx
  split at hx
  · exact .inr (instr_readv2.ok d hd _ _ hx)
  · exact .inl hx
/-- function 16: sheerleg/instr.Get -/
noncomputable def instr_Get.body (octet_Reader_Left : Int → Bool → Bool → (List Int) → (Int → Int → Bool → Bool → (List Int) → Option Bool) → Option Bool) (octet_Reader_Bad : Int → Bool → Bool → (List Int) → (Bool → Int → Bool → Bool → (List Int) → Option Bool) → Option Bool) (octet_Reader_Num : Int → Int → Bool → Bool → (List Int) → (Int → Int → Bool → Bool → (List Int) → Option Bool) → Option Bool) (instr_read : Int → Int → Bool → Bool → (List Int) → (Int → Int → Bool → Bool → (List Int) → Option Bool) → Option Bool) (instr_readv1 : Int → Int → Bool → Bool → (List Int) → (Int → Int → Bool → Bool → (List Int) → Option Bool) → Option Bool) (instr_Check : Tc1 → (Int → Option Bool) → Option Bool) (n791 : Int) (b792 : Bool) (b793 : Bool) (ns794 : List Int) (k1 : Tc1 → Int → Int → Bool → Bool → (List Int) → Option Bool) : Option Bool :=
  (octet_Reader_Left n791 b792 b793 ns794
  (fun n795 n796 b797 b798 ns799 => (cond_ (! (decide (n795 < (8 : Int)))) (octet_Reader_Bad n796 b797 b798 ns799
  (fun b800 n801 b802 b803 ns804 => (cond_ b800 (octet_Reader_Num (0 : Int) n801 b802 b803 ns804
  (fun n805 n806 b807 b808 ns809 => (k1 ((0 : Int), ((0 : Int), ((0 : Int), ((0 : Int), ((0 : Int), ()))))) (5 : Int) n806 b807 b808 ns809))) (instr_read (1 : Int) n801 b802 b803 ns804
  (fun n810 n811 b812 b813 ns814 => (instr_read (1 : Int) n811 b812 b813 ns814
  (fun n815 n816 b817 b818 ns819 => (instr_read (1 : Int) n816 b817 b818 ns819
  (fun n820 n821 b822 b823 ns824 => (instr_read (1 : Int) n821 b822 b823 ns824
  (fun n825 n826 b827 b828 ns829 => (instr_readv1 (4 : Int) n826 b827 b828 ns829
  (fun n830 n831 b832 b833 ns834 => (instr_Check (n810, (n815, (n820, (n825, (n830, ())))))
  (fun n835 => (cond_ (n835 != (0 : Int)) (k1 ((0 : Int), ((0 : Int), ((0 : Int), ((0 : Int), ((0 : Int), ()))))) n835 n831 b832 b833 ns834) (k1 (n810, (n815, (n820, (n825, (n830, ()))))) (0 : Int) n831 b832 b833 ns834))))))))))))))))) (octet_Reader_Num (0 : Int) n796 b797 b798 ns799
  (fun n836 n837 b838 b839 ns840 => (k1 ((0 : Int), ((0 : Int), ((0 : Int), ((0 : Int), ((0 : Int), ()))))) (5 : Int) n837 b838 b839 ns840))))))
noncomputable def instr_Get (n791 : Int) (b792 : Bool) (b793 : Bool) (ns794 : List Int) (k1 : Tc1 → Int → Int → Bool → Bool → (List Int) → Option Bool) : Option Bool := instr_Get.body octet_Reader_Left octet_Reader_Bad octet_Reader_Num instr_read instr_readv1 instr_Check n791 b792 b793 ns794 k1
noncomputable def instr_Get.get (F : Int → Bool → Bool → (List Int) → (Tc1 → Int → Int → Bool → Bool → (List Int) → Option Bool) → Option Bool) (e : Option Bool) (g : FuncId) (a : List AV) (h : Heap) (k : KR) : Option Bool := match g, a, h with
  | 16, [(.ptr [0, 0] 0 0)], [([0, 0], ⟨54, 4, (.mix [(.agg [(.ref [0, 1]), (.d ⟨(.int .i64), n791⟩), (.d ⟨.bool, b792⟩), (.d ⟨.bool, b793⟩)])])⟩), ([0, 1], ⟨5, 1, (.data (.int .u8) ns794)⟩)] => F n791 b792 b793 ns794 (fun y0 y1 y2 y3 y4 y5 => k (.tup [(.d ⟨(.st [(.int .i64), (.int .i64), (.int .i64), (.int .i64), (.int .i64)]), y0⟩), (.d ⟨(.int .i64), y1⟩)]) [([0, 0], ⟨54, 4, (.mix [(.agg [(.ref [0, 1]), (.d ⟨(.int .i64), y2⟩), (.d ⟨.bool, y3⟩), (.d ⟨.bool, y4⟩)])])⟩), ([0, 1], ⟨5, 1, (.data (.int .u8) y5)⟩)])
  | _, _, _ => e
noncomputable def instr_Get.calls (F0 : Int → Bool → Bool → (List Int) → (Int → Int → Bool → Bool → (List Int) → Option Bool) → Option Bool) (F1 : Int → Bool → Bool → (List Int) → (Bool → Int → Bool → Bool → (List Int) → Option Bool) → Option Bool) (F2 : Int → Int → Bool → Bool → (List Int) → (Int → Int → Bool → Bool → (List Int) → Option Bool) → Option Bool) (F3 : Int → Int → Bool → Bool → (List Int) → (Int → Int → Bool → Bool → (List Int) → Option Bool) → Option Bool) (F4 : Int → Int → Bool → Bool → (List Int) → (Int → Int → Bool → Bool → (List Int) → Option Bool) → Option Bool) (F5 : Tc1 → (Int → Option Bool) → Option Bool) : RecF := fun g a h k => (octet_Reader_Left.get F0 (octet_Reader_Bad.get F1 (octet_Reader_Num.get F2 (instr_read.get F3 (instr_readv1.get F4 (instr_Check.get F5 none g a h k) g a h k) g a h k) g a h k) g a h k) g a h k)
noncomputable def instr_Get.loops : LoopF := fun b => match Nat.beq b 0 with | true => none | false => none
set_option maxRecDepth 100000 in
theorem instr_Get.eq (F0 : Int → Bool → Bool → (List Int) → (Int → Int → Bool → Bool → (List Int) → Option Bool) → Option Bool) (F1 : Int → Bool → Bool → (List Int) → (Bool → Int → Bool → Bool → (List Int) → Option Bool) → Option Bool) (F2 : Int → Int → Bool → Bool → (List Int) → (Int → Int → Bool → Bool → (List Int) → Option Bool) → Option Bool) (F3 : Int → Int → Bool → Bool → (List Int) → (Int → Int → Bool → Bool → (List Int) → Option Bool) → Option Bool) (F4 : Int → Int → Bool → Bool → (List Int) → (Int → Int → Bool → Bool → (List Int) → Option Bool) → Option Bool) (F5 : Tc1 → (Int → Option Bool) → Option Bool) (n791 : Int) (b792 : Bool) (b793 : Bool) (ns794 : List Int) (k : KR) : execL Try.prog ht 16 (callfOf (instr_Get.calls F0 F1 F2 F3 F4 F5)) (instr_Get.loops) 0 (codeOf Try.f16) ⟨[(.ptr [0, 0] 0 0)] ++ List.replicate (Try.f16.ntmps - ([(.ptr [0, 0] 0 0)] : List AV).length) .undef, [([0, 0], ⟨54, 4, (.mix [(.agg [(.ref [0, 1]), (.d ⟨(.int .i64), n791⟩), (.d ⟨.bool, b792⟩), (.d ⟨.bool, b793⟩)])])⟩), ([0, 1], ⟨5, 1, (.data (.int .u8) ns794)⟩)], 2⟩ (leave Try.prog Try.f16 k) = instr_Get.body F0 F1 F2 F3 F4 F5 n791 b792 b793 ns794 (fun y0 y1 y2 y3 y4 y5 => k (.tup [(.d ⟨(.st [(.int .i64), (.int .i64), (.int .i64), (.int .i64), (.int .i64)]), y0⟩), (.d ⟨(.int .i64), y1⟩)]) [([0, 0], ⟨54, 4, (.mix [(.agg [(.ref [0, 1]), (.d ⟨(.int .i64), y2⟩), (.d ⟨.bool, y3⟩), (.d ⟨.bool, y4⟩)])])⟩), ([0, 1], ⟨5, 1, (.data (.int .u8) y5)⟩)]) := by kernel_rfl
theorem instr_Get.ok (d : Nat) (hd : 6 ≤ d) (n791 : Int) (b792 : Bool) (b793 : Bool) (ns794 : List Int) (k : KR) (hx : instr_Get n791 b792 b793 ns794 (fun y0 y1 y2 y3 y4 y5 => k (.tup [(.d ⟨(.st [(.int .i64), (.int .i64), (.int .i64), (.int .i64), (.int .i64)]), y0⟩), (.d ⟨(.int .i64), y1⟩)]) [([0, 0], ⟨54, 4, (.mix [(.agg [(.ref [0, 1]), (.d ⟨(.int .i64), y2⟩), (.d ⟨.bool, y3⟩), (.d ⟨.bool, y4⟩)])])⟩), ([0, 1], ⟨5, 1, (.data (.int .u8) y5)⟩)]) = some true) : callK Try.prog ht d 16 [(.ptr [0, 0] 0 0)] [([0, 0], ⟨54, 4, (.mix [(.agg [(.ref [0, 1]), (.d ⟨(.int .i64), n791⟩), (.d ⟨.bool, b792⟩), (.d ⟨.bool, b793⟩)])])⟩), ([0, 1], ⟨5, 1, (.data (.int .u8) ns794)⟩)] k = some true := by
  obtain ⟨d, rfl⟩ : ∃ e, d = e + 1 := ⟨d - 1, by omega⟩
  exact fn_ok (c := codeOf Try.f16) Try.func16 (by kernel_rfl) (rec := instr_Get.calls octet_Reader_Left octet_Reader_Bad octet_Reader_Num instr_read instr_readv1 instr_Check) (fun g a h k hx => by
    rcases octet_Reader_Left.look d (by omega) hx with hx | hx
    rotate_left
    · exact hx
    rcases octet_Reader_Bad.look d (by omega) hx with hx | hx
    rotate_left
    · exact hx
    rcases octet_Reader_Num.look d (by omega) hx with hx | hx
    rotate_left
    · exact hx
    rcases instr_read.look d (by omega) hx with hx | hx
    rotate_left
    · exact hx
    rcases instr_readv1.look d (by omega) hx with hx | hx
    rotate_left
    · exact hx
    rcases instr_Check.look d (by omega) hx with hx | hx
    rotate_left
    · exact hx
    cases hx) (loopf := instr_Get.loops) (by
    have e : loopsOf (instr_Get.loops) 0 (codeOf Try.f16) = [] := by kernel_rfl
    rw [e]
    intro p hp
    cases hp) ((instr_Get.eq octet_Reader_Left octet_Reader_Bad octet_Reader_Num instr_read instr_readv1 instr_Check n791 b792 b793 ns794 k).trans hx)
theorem instr_Get.look (d : Nat) (hd : 6 ≤ d) {e : Option Bool} {g : FuncId} {a : List AV} {h : Heap} {k : KR} (hx : instr_Get.get instr_Get e g a h k = some true) : e = some true ∨ callK Try.prog ht d g a h k = some true := by
  unfold instr_Get.get at hx
  split at hx
  · exact .inr (instr_Get.ok d hd _ _ _ _ _ hx)
  · exact .inl hx
/-- function 4: sheerleg/sheerleglaw08.InstrBack -/
noncomputable def law08_InstrBack.body (instr_Putv1 : Tc1 → ((List Int) → Option Bool) → Option Bool) (octet_New : (List Int) → (Int → Bool → Bool → (List Int) → Option Bool) → Option Bool) (instr_Get : Int → Bool → Bool → (List Int) → (Tc1 → Int → Int → Bool → Bool → (List Int) → Option Bool) → Option Bool) (instr_Check : Tc1 → (Int → Option Bool) → Option Bool) (octet_Reader_Left : Int → Bool → Bool → (List Int) → (Int → Int → Bool → Bool → (List Int) → Option Bool) → Option Bool) (instr_With : Tc1 → Int → Int → (Tc1 → Option Bool) → Option Bool) (instr_Operand : Tc1 → Int → (Int → Option Bool) → Option Bool) (law08_known : (Bool → Option Bool) → Option Bool) (law08_InstrBack_L0 : Int → Int → Tc1 → Tc1 → (Bool → Option Bool) → (Int → Tc1 → Tc1 → Option Bool) → Option Bool) (t783 : Tc1) (n784 : Int) (n785 : Int) (k1 : Bool → Option Bool) : Option Bool :=
  (instr_Putv1 t783
  (fun ns786 => (octet_New ns786
  (fun n787 b788 b789 ns790 => (instr_Get n787 b788 b789 ns790
  (fun t841 n842 n843 b844 b845 ns846 => (instr_Check t783
  (fun n847 => (cond_ (n847 == (0 : Int)) (cond_ (! (! ((t841.1 == t783.1) && ((t841.2.1 == t783.2.1) && ((t841.2.2.1 == t783.2.2.1) && ((t841.2.2.2.1 == t783.2.2.2.1) && ((t841.2.2.2.2.1 == t783.2.2.2.2.1) && true))))))) (cond_ (! (n842 != (0 : Int))) (octet_Reader_Left n843 b844 b845 ns846
  (fun n848 n849 b850 b851 ns852 => (cond_ (n848 != (0 : Int)) (k1 false) (instr_With t783 n784 n785
  (fun t853 => (cond_ (t853.1 != t783.1) (k1 false) (law08_InstrBack_L0 n784 (-1 : Int) t783 t853
  (fun b854 => (k1 b854))
  (fun n855 t856 t857 => (instr_Operand t856 n855
  (fun n858 => (instr_With t857 n855 n858
  (fun t859 => (cond_ ((t859.1 == t856.1) && ((t859.2.1 == t856.2.1) && ((t859.2.2.1 == t856.2.2.1) && ((t859.2.2.2.1 == t856.2.2.2.1) && ((t859.2.2.2.2.1 == t856.2.2.2.2.1) && true))))) (law08_known
  (fun b860 => (k1 b860))) (k1 false)))))))))))))) (k1 false)) (k1 false)) (instr_With t783 n784 n785
  (fun t861 => (cond_ (t861.1 != t783.1) (k1 false) (law08_InstrBack_L0 n784 (-1 : Int) t783 t861
  (fun b862 => (k1 b862))
  (fun n863 t864 t865 => (instr_Operand t864 n863
  (fun n866 => (instr_With t865 n863 n866
  (fun t867 => (cond_ ((t867.1 == t864.1) && ((t867.2.1 == t864.2.1) && ((t867.2.2.1 == t864.2.2.1) && ((t867.2.2.2.1 == t864.2.2.2.1) && ((t867.2.2.2.2.1 == t864.2.2.2.2.1) && true))))) (law08_known
  (fun b868 => (k1 b868))) (k1 false))))))))))))))))))))
noncomputable def law08_InstrBack (t783 : Tc1) (n784 : Int) (n785 : Int) (k1 : Bool → Option Bool) : Option Bool := law08_InstrBack.body instr_Putv1 octet_New instr_Get instr_Check octet_Reader_Left instr_With instr_Operand law08_known (law08_InstrBack_L0 ROUNDS) t783 n784 n785 k1
noncomputable def law08_InstrBack.get (F : Tc1 → Int → Int → (Bool → Option Bool) → Option Bool) (e : Option Bool) (g : FuncId) (a : List AV) (h : Heap) (k : KR) : Option Bool := match g, a, h with
  | 4, [(.d ⟨(.st [(.int .i64), (.int .i64), (.int .i64), (.int .i64), (.int .i64)]), t783⟩), (.d ⟨(.int .i64), n784⟩), (.d ⟨(.int .i64), n785⟩)], [] => F t783 n784 n785 (fun y0 => k (.d ⟨.bool, y0⟩) [])
  | _, _, _ => e
noncomputable def law08_InstrBack.calls (F0 : Tc1 → ((List Int) → Option Bool) → Option Bool) (F1 : (List Int) → (Int → Bool → Bool → (List Int) → Option Bool) → Option Bool) (F2 : Int → Bool → Bool → (List Int) → (Tc1 → Int → Int → Bool → Bool → (List Int) → Option Bool) → Option Bool) (F3 : Tc1 → (Int → Option Bool) → Option Bool) (F4 : Int → Bool → Bool → (List Int) → (Int → Int → Bool → Bool → (List Int) → Option Bool) → Option Bool) (F5 : Tc1 → Int → Int → (Tc1 → Option Bool) → Option Bool) (F6 : Tc1 → Int → (Int → Option Bool) → Option Bool) (F7 : (Bool → Option Bool) → Option Bool) : RecF := fun g a h k => (instr_Putv1.get F0 (octet_New.get F1 (instr_Get.get F2 (instr_Check.get F3 (octet_Reader_Left.get F4 (instr_With.get F5 (instr_Operand.get F6 (law08_known.get F7 none g a h k) g a h k) g a h k) g a h k) g a h k) g a h k) g a h k) g a h k)
noncomputable def law08_InstrBack.loops (L0 : Int → Int → Tc1 → Tc1 → (Bool → Option Bool) → (Int → Tc1 → Tc1 → Option Bool) → Option Bool) : LoopF := fun b => match Nat.beq b 0 with | true => some (fun st k => (law08_InstrBack_L0.get L0 none st k)) | false => none
set_option maxRecDepth 100000 in
theorem law08_InstrBack.eq (F0 : Tc1 → ((List Int) → Option Bool) → Option Bool) (F1 : (List Int) → (Int → Bool → Bool → (List Int) → Option Bool) → Option Bool) (F2 : Int → Bool → Bool → (List Int) → (Tc1 → Int → Int → Bool → Bool → (List Int) → Option Bool) → Option Bool) (F3 : Tc1 → (Int → Option Bool) → Option Bool) (F4 : Int → Bool → Bool → (List Int) → (Int → Int → Bool → Bool → (List Int) → Option Bool) → Option Bool) (F5 : Tc1 → Int → Int → (Tc1 → Option Bool) → Option Bool) (F6 : Tc1 → Int → (Int → Option Bool) → Option Bool) (F7 : (Bool → Option Bool) → Option Bool) (L0 : Int → Int → Tc1 → Tc1 → (Bool → Option Bool) → (Int → Tc1 → Tc1 → Option Bool) → Option Bool) (t783 : Tc1) (n784 : Int) (n785 : Int) (k : KR) : execL Try.prog ht 4 (callfOf (law08_InstrBack.calls F0 F1 F2 F3 F4 F5 F6 F7)) (law08_InstrBack.loops L0) 0 (codeOf Try.f4) ⟨[(.d ⟨(.st [(.int .i64), (.int .i64), (.int .i64), (.int .i64), (.int .i64)]), t783⟩), (.d ⟨(.int .i64), n784⟩), (.d ⟨(.int .i64), n785⟩)] ++ List.replicate (Try.f4.ntmps - ([(.d ⟨(.st [(.int .i64), (.int .i64), (.int .i64), (.int .i64), (.int .i64)]), t783⟩), (.d ⟨(.int .i64), n784⟩), (.d ⟨(.int .i64), n785⟩)] : List AV).length) .undef, [], 2⟩ (leave Try.prog Try.f4 k) = law08_InstrBack.body F0 F1 F2 F3 F4 F5 F6 F7 L0 t783 n784 n785 (fun y0 => k (.d ⟨.bool, y0⟩) []) := by kernel_rfl
theorem law08_InstrBack.ok (d : Nat) (hd : 61 ≤ d) (t783 : Tc1) (n784 : Int) (n785 : Int) (k : KR) (hx : law08_InstrBack t783 n784 n785 (fun y0 => k (.d ⟨.bool, y0⟩) []) = some true) : callK Try.prog ht d 4 [(.d ⟨(.st [(.int .i64), (.int .i64), (.int .i64), (.int .i64), (.int .i64)]), t783⟩), (.d ⟨(.int .i64), n784⟩), (.d ⟨(.int .i64), n785⟩)] [] k = some true := by
  obtain ⟨d, rfl⟩ : ∃ e, d = e + 1 := ⟨d - 1, by omega⟩
  exact fn_ok (c := codeOf Try.f4) Try.func4 (by kernel_rfl) (rec := law08_InstrBack.calls instr_Putv1 octet_New instr_Get instr_Check octet_Reader_Left instr_With instr_Operand law08_known) (fun g a h k hx => by
    rcases instr_Putv1.look d (by omega) hx with hx | hx
    rotate_left
    · exact hx
    rcases octet_New.look d (by omega) hx with hx | hx
    rotate_left
    · exact hx
    rcases instr_Get.look d (by omega) hx with hx | hx
    rotate_left
    · exact hx
    rcases instr_Check.look d (by omega) hx with hx | hx
    rotate_left
    · exact hx
    rcases octet_Reader_Left.look d (by omega) hx with hx | hx
    rotate_left
    · exact hx
    rcases instr_With.look d (by omega) hx with hx | hx
    rotate_left
    · exact hx
    rcases instr_Operand.look d (by omega) hx with hx | hx
    rotate_left
    · exact hx
    rcases law08_known.look d (by omega) hx with hx | hx
    rotate_left
    · exact hx
    cases hx) (loopf := law08_InstrBack.loops (law08_InstrBack_L0 ROUNDS)) (by
    have e : loopsOf (law08_InstrBack.loops (law08_InstrBack_L0 ROUNDS)) 0 (codeOf Try.f4) = [(0, loopAt 0 (codeOf Try.f4))] := by kernel_rfl
    rw [e]
    intro p hp
    simp only [List.mem_cons, List.not_mem_nil, or_false] at hp
    rcases hp with rfl
    · refine loopRef_of (callf := callfOf (callK Try.prog ht d)) (callfOf_ref (callK_mono d)) fun lf st k hb hx => ?_
      cases hb
      rcases law08_InstrBack_L0.look hx with hx | hx
      rotate_left
      · exact law08_InstrBack_L0.ok d (by omega) _ _ _ hx
      cases hx) ((law08_InstrBack.eq instr_Putv1 octet_New instr_Get instr_Check octet_Reader_Left instr_With instr_Operand law08_known (law08_InstrBack_L0 ROUNDS) t783 n784 n785 k).trans hx)
theorem law08_InstrBack.look (d : Nat) (hd : 61 ≤ d) {e : Option Bool} {g : FuncId} {a : List AV} {h : Heap} {k : KR} (hx : law08_InstrBack.get law08_InstrBack e g a h k = some true) : e = some true ∨ callK Try.prog ht d g a h k = some true := by
  unfold law08_InstrBack.get at hx
  split at hx
  · exact .inr (law08_InstrBack.ok d hd _ _ _ _ hx)
  · exact .inl hx
/-- function 5: the loop in block 2 -/
noncomputable def law08_InstrGets_L2.body (law08_InstrGets_L2 : Int → Int → Bool → Bool → (List Int) → (List Int) → Int → Bool → (Bool → Option Bool) → (Option Bool) → Option Bool) (instr_Get : Int → Bool → Bool → (List Int) → (Tc1 → Int → Int → Bool → Bool → (List Int) → Option Bool) → Option Bool) (ref08_Get : Tc0 → (Tc0 → Tc1 → Int → Option Bool) → Option Bool) (octet_Reader_At : Int → Bool → Bool → (List Int) → (Int → Int → Bool → Bool → (List Int) → Option Bool) → Option Bool) (octet_Reader_Bad : Int → Bool → Bool → (List Int) → (Bool → Int → Bool → Bool → (List Int) → Option Bool) → Option Bool) (n883 : Int) (n884 : Int) (b885 : Bool) (b886 : Bool) (ns887 : List Int) (l888 : List Int) (n889 : Int) (b890 : Bool) (k1 : Bool → Option Bool) (k2 : Option Bool) : Option Bool :=
  (cond_ (decide (n883 < (9 : Int))) (instr_Get n884 b885 b886 ns887
  (fun t891 n892 n893 b894 b895 ns896 => (ref08_Get (l888, (n889, (b890, ())))
  (fun t897 t898 n899 => (cond_ (! (! ((t891.1 == t898.1) && ((t891.2.1 == t898.2.1) && ((t891.2.2.1 == t898.2.2.1) && ((t891.2.2.2.1 == t898.2.2.2.1) && ((t891.2.2.2.2.1 == t898.2.2.2.2.1) && true))))))) (cond_ (! (n892 != n899)) (octet_Reader_At n893 b894 b895 ns896
  (fun n900 n901 b902 b903 ns904 => (cond_ (! (n900 != t897.2.1)) (octet_Reader_Bad n901 b902 b903 ns904
  (fun b905 n906 b907 b908 ns909 => (cond_ (! (b905 == t897.2.2.1)) (k1 false) (law08_InstrGets_L2 (IntKind.wrap .i64 (n883 + (1 : Int))) n906 b907 b908 ns909 t897.1 t897.2.1 t897.2.2.1 k1 k2)))) (k1 false)))) (k1 false)) (k1 false)))))) (k2))
noncomputable def law08_InstrGets_L2 : Nat → Int → Int → Bool → Bool → (List Int) → (List Int) → Int → Bool → (Bool → Option Bool) → (Option Bool) → Option Bool
  | 0 => fun _ _ _ _ _ _ _ _ _ _ => none
  | n + 1 => law08_InstrGets_L2.body (law08_InstrGets_L2 n) instr_Get ref08_Get octet_Reader_At octet_Reader_Bad
noncomputable def law08_InstrGets_L2.get (F : Int → Int → Bool → Bool → (List Int) → (List Int) → Int → Bool → (Bool → Option Bool) → (Option Bool) → Option Bool) (e : Option Bool) (st : St) (k : KE) : Option Bool := match st with
  | ⟨sl, hp, m⟩ => match Nat.beq m 2, pickS 90 [5, 6, 10] sl, hp with
    | true, some [(.ptr [1, 0] 0 0), (.ptr [1, 2] 0 0), (.d ⟨(.int .i64), n883⟩)], [([1, 0], ⟨54, 4, (.mix [(.agg [(.ref [1, 1]), (.d ⟨(.int .i64), n884⟩), (.d ⟨.bool, b885⟩), (.d ⟨.bool, b886⟩)])])⟩), ([1, 1], ⟨5, 1, (.data (.int .u8) ns887)⟩), ([1, 2], ⟨39, 3, (.mix [(.agg [(.d ⟨(.sl 5 (.int .u8)), l888⟩), (.d ⟨(.int .i64), n889⟩), (.d ⟨.bool, b890⟩)])])⟩)] => F n883 n884 b885 b886 ns887 l888 n889 b890 (fun y0 => k .ret ⟨fillS 90 [4] [(.d ⟨.bool, y0⟩)], [], 2⟩) (k (.exit 2) ⟨fillS 90 [] [], [], 2⟩)
    | _, _, _ => e
noncomputable def law08_InstrGets_L2.calls (F0 : Int → Bool → Bool → (List Int) → (Tc1 → Int → Int → Bool → Bool → (List Int) → Option Bool) → Option Bool) (F1 : Tc0 → (Tc0 → Tc1 → Int → Option Bool) → Option Bool) (F2 : Int → Bool → Bool → (List Int) → (Int → Int → Bool → Bool → (List Int) → Option Bool) → Option Bool) (F3 : Int → Bool → Bool → (List Int) → (Bool → Int → Bool → Bool → (List Int) → Option Bool) → Option Bool) : RecF := fun g a h k => (instr_Get.get F0 (ref08_Get.get F1 (octet_Reader_At.get F2 (octet_Reader_Bad.get F3 none g a h k) g a h k) g a h k) g a h k)
noncomputable def law08_InstrGets_L2.loops : LoopF := fun b => none
set_option maxRecDepth 100000 in
theorem law08_InstrGets_L2.step (S : Int → Int → Bool → Bool → (List Int) → (List Int) → Int → Bool → (Bool → Option Bool) → (Option Bool) → Option Bool) (F0 : Int → Bool → Bool → (List Int) → (Tc1 → Int → Int → Bool → Bool → (List Int) → Option Bool) → Option Bool) (F1 : Tc0 → (Tc0 → Tc1 → Int → Option Bool) → Option Bool) (F2 : Int → Bool → Bool → (List Int) → (Int → Int → Bool → Bool → (List Int) → Option Bool) → Option Bool) (F3 : Int → Bool → Bool → (List Int) → (Bool → Int → Bool → Bool → (List Int) → Option Bool) → Option Bool) (n883 : Int) (n884 : Int) (b885 : Bool) (b886 : Bool) (ns887 : List Int) (l888 : List Int) (n889 : Int) (b890 : Bool) (k : KE) : execL Try.prog ht 5 (callfOf (law08_InstrGets_L2.calls F0 F1 F2 F3)) (law08_InstrGets_L2.loops) 2 (loopAt 2 (codeOf Try.f5)) ⟨fillS 90 [5, 6, 10] [(.ptr [1, 0] 0 0), (.ptr [1, 2] 0 0), (.d ⟨(.int .i64), n883⟩)], [([1, 0], ⟨54, 4, (.mix [(.agg [(.ref [1, 1]), (.d ⟨(.int .i64), n884⟩), (.d ⟨.bool, b885⟩), (.d ⟨.bool, b886⟩)])])⟩), ([1, 1], ⟨5, 1, (.data (.int .u8) ns887)⟩), ([1, 2], ⟨39, 3, (.mix [(.agg [(.d ⟨(.sl 5 (.int .u8)), l888⟩), (.d ⟨(.int .i64), n889⟩), (.d ⟨.bool, b890⟩)])])⟩)], 2⟩ (again (law08_InstrGets_L2.get S none) (plan Try.prog (ht 5 2)) k) = law08_InstrGets_L2.body S F0 F1 F2 F3 n883 n884 b885 b886 ns887 l888 n889 b890 (fun y0 => k .ret ⟨fillS 90 [4] [(.d ⟨.bool, y0⟩)], [], 2⟩) (k (.exit 2) ⟨fillS 90 [] [], [], 2⟩) := by kernel_rfl
theorem law08_InstrGets_L2.ok (d : Nat) (hd : 6 ≤ d) : ∀ n st k, law08_InstrGets_L2.get (law08_InstrGets_L2 n) none st k = some true → iter n (plan Try.prog (ht 5 2)) (fun st k => execK Try.prog ht 5 (callfOf (callK Try.prog ht d)) 2 (loopAt 2 (codeOf Try.f5)) st k) st k = some true :=
  loop_ok (lfn := fun n st k => law08_InstrGets_L2.get (law08_InstrGets_L2 n) none st k) (rec := law08_InstrGets_L2.calls instr_Get ref08_Get octet_Reader_At octet_Reader_Bad) (fun g a h k hx => by
    rcases instr_Get.look d (by omega) hx with hx | hx
    rotate_left
    · exact hx
    rcases ref08_Get.look d (by omega) hx with hx | hx
    rotate_left
    · exact hx
    rcases octet_Reader_At.look d (by omega) hx with hx | hx
    rotate_left
    · exact hx
    rcases octet_Reader_Bad.look d (by omega) hx with hx | hx
    rotate_left
    · exact hx
    cases hx) (loopf := law08_InstrGets_L2.loops) (by
    have e : loopsOf (law08_InstrGets_L2.loops) 2 (loopAt 2 (codeOf Try.f5)) = [] := by kernel_rfl
    rw [e]
    intro p hp
    cases hp) (fun st k h => by
    obtain ⟨sl, hp, m⟩ := st
    unfold law08_InstrGets_L2.get at h
    dsimp only at h
    split at h
    · have h' : (none : Option Bool) = some true := h
      cases h'
    · cases h) (fun n st k h => by
    obtain ⟨sl, hp, m⟩ := st
    unfold law08_InstrGets_L2.get at h
    dsimp only at h
    split at h
    · rename_i h1 h2
      obtain rfl := pickS_ok h2
      obtain rfl := Nat.eq_of_beq_eq_true h1
      exact (law08_InstrGets_L2.step (law08_InstrGets_L2 n) instr_Get ref08_Get octet_Reader_At octet_Reader_Bad _ _ _ _ _ _ _ _ k).trans h
    · cases h)
theorem law08_InstrGets_L2.look {F : Int → Int → Bool → Bool → (List Int) → (List Int) → Int → Bool → (Bool → Option Bool) → (Option Bool) → Option Bool} {e : Option Bool} {st : St} {k : KE} (hx : law08_InstrGets_L2.get F e st k = some true) : e = some true ∨ law08_InstrGets_L2.get F none st k = some true := by
  obtain ⟨sl, hp, m⟩ := st
  unfold law08_InstrGets_L2.get at hx ⊢
  dsimp only at hx ⊢
  split at hx
  · exact .inr hx
  · exact .inl hx
/-- function 31: (*sheerleg/octet.Reader).Signed -/
noncomputable def octet_Reader_Signedv1.body (octet_numberv1 : Int → (Int → (List Int) → Option Bool) → Option Bool) (n919 : Int) (k1 : Int → Option Bool) : Option Bool :=
  (octet_numberv1 n919
  (fun n920 ns921 => (cond_ ((((List.length ns921) : Nat) : Int) == (0 : Int)) (k1 (0 : Int)) (cond_ (decide ((0 : Int) ≤ (IntKind.wrap .u64 ((8 : Int) * (IntKind.wrap .u64 (IntKind.wrap .i64 ((8 : Int) - (((List.length ns921) : Nat) : Int)))))))) (cond_ (decide ((0 : Int) ≤ (IntKind.wrap .u64 ((8 : Int) * (IntKind.wrap .u64 (IntKind.wrap .i64 ((8 : Int) - (((List.length ns921) : Nat) : Int)))))))) (k1 (Int.fdiv (IntKind.wrap .i64 (n920 * ((2 : Int) ^ (min (Int.toNat (IntKind.wrap .u64 ((8 : Int) * (IntKind.wrap .u64 (IntKind.wrap .i64 ((8 : Int) - (((List.length ns921) : Nat) : Int))))))) (64 : Nat))))) ((2 : Int) ^ (min (Int.toNat (IntKind.wrap .u64 ((8 : Int) * (IntKind.wrap .u64 (IntKind.wrap .i64 ((8 : Int) - (((List.length ns921) : Nat) : Int))))))) (64 : Nat))))) none) none))))
noncomputable def octet_Reader_Signedv1 (n919 : Int) (k1 : Int → Option Bool) : Option Bool := octet_Reader_Signedv1.body octet_numberv1 n919 k1
noncomputable def octet_Reader_Signedv1.get (F : Int → (Int → Option Bool) → Option Bool) (e : Option Bool) (g : FuncId) (a : List AV) (h : Heap) (k : KR) : Option Bool := match g, a, h with
  | 31, [.nilp, (.d ⟨(.int .i64), n919⟩)], [] => F n919 (fun y0 => k (.d ⟨(.int .i64), y0⟩) [])
  | _, _, _ => e
noncomputable def octet_Reader_Signedv1.calls (F0 : Int → (Int → (List Int) → Option Bool) → Option Bool) : RecF := fun g a h k => (octet_numberv1.get F0 none g a h k)
noncomputable def octet_Reader_Signedv1.loops : LoopF := fun b => none
set_option maxRecDepth 100000 in
theorem octet_Reader_Signedv1.eq (F0 : Int → (Int → (List Int) → Option Bool) → Option Bool) (n919 : Int) (k : KR) : execL Try.prog ht 31 (callfOf (octet_Reader_Signedv1.calls F0)) (octet_Reader_Signedv1.loops) 0 (codeOf Try.f31) ⟨[.nilp, (.d ⟨(.int .i64), n919⟩)] ++ List.replicate (Try.f31.ntmps - ([.nilp, (.d ⟨(.int .i64), n919⟩)] : List AV).length) .undef, [], 2⟩ (leave Try.prog Try.f31 k) = octet_Reader_Signedv1.body F0 n919 (fun y0 => k (.d ⟨(.int .i64), y0⟩) []) := by kernel_rfl
theorem octet_Reader_Signedv1.ok (d : Nat) (hd : 4 ≤ d) (n919 : Int) (k : KR) (hx : octet_Reader_Signedv1 n919 (fun y0 => k (.d ⟨(.int .i64), y0⟩) []) = some true) : callK Try.prog ht d 31 [.nilp, (.d ⟨(.int .i64), n919⟩)] [] k = some true := by
  obtain ⟨d, rfl⟩ : ∃ e, d = e + 1 := ⟨d - 1, by omega⟩
  exact fn_ok (c := codeOf Try.f31) Try.func31 (by kernel_rfl) (rec := octet_Reader_Signedv1.calls octet_numberv1) (fun g a h k hx => by
    rcases octet_numberv1.look d (by omega) hx with hx | hx
    rotate_left
    · exact hx
    cases hx) (loopf := octet_Reader_Signedv1.loops) (by
    have e : loopsOf (octet_Reader_Signedv1.loops) 0 (codeOf Try.f31) = [] := by kernel_rfl
    rw [e]
    intro p hp
    cases hp) ((octet_Reader_Signedv1.eq octet_numberv1 n919 k).trans hx)
theorem octet_Reader_Signedv1.look (d : Nat) (hd : 4 ≤ d) {e : Option Bool} {g : FuncId} {a : List AV} {h : Heap} {k : KR} (hx : octet_Reader_Signedv1.get octet_Reader_Signedv1 e g a h k = some true) : e = some true ∨ callK Try.prog ht d g a h k = some true := by
  unfold octet_Reader_Signedv1.get at hx
  split at hx
  · exact .inr (octet_Reader_Signedv1.ok d hd _ _ hx)
  · exact .inl hx
/-- function 30: sheerleg/instr.read -/
noncomputable def instr_readv3.body (octet_Reader_Signedv1 : Int → (Int → Option Bool) → Option Bool) (n918 : Int) (k1 : Int → Option Bool) : Option Bool :=
  (octet_Reader_Signedv1 n918
  (fun n922 => (k1 n922)))
noncomputable def instr_readv3 (n918 : Int) (k1 : Int → Option Bool) : Option Bool := instr_readv3.body octet_Reader_Signedv1 n918 k1
noncomputable def instr_readv3.get (F : Int → (Int → Option Bool) → Option Bool) (e : Option Bool) (g : FuncId) (a : List AV) (h : Heap) (k : KR) : Option Bool := match g, a, h with
  | 30, [.nilp, (.d ⟨(.int .i64), n918⟩), (.fn (.func 31) [] [])], [] => F n918 (fun y0 => k (.d ⟨(.int .i64), y0⟩) [])
  | _, _, _ => e
noncomputable def instr_readv3.calls (F0 : Int → (Int → Option Bool) → Option Bool) : RecF := fun g a h k => (octet_Reader_Signedv1.get F0 none g a h k)
noncomputable def instr_readv3.loops : LoopF := fun b => none
set_option maxRecDepth 100000 in
theorem instr_readv3.eq (F0 : Int → (Int → Option Bool) → Option Bool) (n918 : Int) (k : KR) : execL Try.prog ht 30 (callfOf (instr_readv3.calls F0)) (instr_readv3.loops) 0 (codeOf Try.f30) ⟨[.nilp, (.d ⟨(.int .i64), n918⟩), (.fn (.func 31) [] [])] ++ List.replicate (Try.f30.ntmps - ([.nilp, (.d ⟨(.int .i64), n918⟩), (.fn (.func 31) [] [])] : List AV).length) .undef, [], 2⟩ (leave Try.prog Try.f30 k) = instr_readv3.body F0 n918 (fun y0 => k (.d ⟨(.int .i64), y0⟩) []) := by kernel_rfl
theorem instr_readv3.ok (d : Nat) (hd : 5 ≤ d) (n918 : Int) (k : KR) (hx : instr_readv3 n918 (fun y0 => k (.d ⟨(.int .i64), y0⟩) []) = some true) : callK Try.prog ht d 30 [.nilp, (.d ⟨(.int .i64), n918⟩), (.fn (.func 31) [] [])] [] k = some true := by
  obtain ⟨d, rfl⟩ : ∃ e, d = e + 1 := ⟨d - 1, by omega⟩
  exact fn_ok (c := codeOf Try.f30) Try.func30 (by kernel_rfl) (rec := instr_readv3.calls octet_Reader_Signedv1) (fun g a h k hx => by
    rcases octet_Reader_Signedv1.look d (by omega) hx with hx | hx
    rotate_left
    · exact hx
    cases hx) (loopf := instr_readv3.loops) (by
    have e : loopsOf (instr_readv3.loops) 0 (codeOf Try.f30) = [] := by kernel_rfl
    rw [e]
    intro p hp
    cases hp) ((instr_readv3.eq octet_Reader_Signedv1 n918 k).trans hx)
theorem instr_readv3.look (d : Nat) (hd : 5 ≤ d) {e : Option Bool} {g : FuncId} {a : List AV} {h : Heap} {k : KR} (hx : instr_readv3.get instr_readv3 e g a h k = some true) : e = some true ∨ callK Try.prog ht d g a h k = some true := by
  unfold instr_readv3.get at hx
  split at hx
  · exact .inr (instr_readv3.ok d hd _ _ hx)
  · exact .inl hx
/-- function 16: sheerleg/instr.Get -/
noncomputable def instr_Getv1.body (octet_Reader_Leftv1 : (Int → Option Bool) → Option Bool) (octet_Reader_Badv1 : (Bool → Option Bool) → Option Bool) (octet_Reader_Numv1 : Int → (Int → Option Bool) → Option Bool) (instr_readv2 : Int → (Int → Option Bool) → Option Bool) (instr_readv3 : Int → (Int → Option Bool) → Option Bool) (instr_Check : Tc1 → (Int → Option Bool) → Option Bool) (k1 : Tc1 → Int → Option Bool) : Option Bool :=
  (octet_Reader_Leftv1
  (fun n911 => (cond_ (! (decide (n911 < (8 : Int)))) (octet_Reader_Badv1
  (fun b912 => (cond_ b912 (octet_Reader_Numv1 (0 : Int)
  (fun n913 => (k1 ((0 : Int), ((0 : Int), ((0 : Int), ((0 : Int), ((0 : Int), ()))))) (5 : Int)))) (instr_readv2 (1 : Int)
  (fun n914 => (instr_readv2 (1 : Int)
  (fun n915 => (instr_readv2 (1 : Int)
  (fun n916 => (instr_readv2 (1 : Int)
  (fun n917 => (instr_readv3 (4 : Int)
  (fun n923 => (instr_Check (n914, (n915, (n916, (n917, (n923, ())))))
  (fun n924 => (cond_ (n924 != (0 : Int)) (k1 ((0 : Int), ((0 : Int), ((0 : Int), ((0 : Int), ((0 : Int), ()))))) n924) (k1 (n914, (n915, (n916, (n917, (n923, ()))))) (0 : Int)))))))))))))))))) (octet_Reader_Numv1 (0 : Int)
  (fun n925 => (k1 ((0 : Int), ((0 : Int), ((0 : Int), ((0 : Int), ((0 : Int), ()))))) (5 : Int)))))))
noncomputable def instr_Getv1 (k1 : Tc1 → Int → Option Bool) : Option Bool := instr_Getv1.body octet_Reader_Leftv1 octet_Reader_Badv1 octet_Reader_Numv1 instr_readv2 instr_readv3 instr_Check k1
noncomputable def instr_Getv1.get (F : (Tc1 → Int → Option Bool) → Option Bool) (e : Option Bool) (g : FuncId) (a : List AV) (h : Heap) (k : KR) : Option Bool := match g, a, h with
  | 16, [.nilp], [] => F (fun y0 y1 => k (.tup [(.d ⟨(.st [(.int .i64), (.int .i64), (.int .i64), (.int .i64), (.int .i64)]), y0⟩), (.d ⟨(.int .i64), y1⟩)]) [])
  | _, _, _ => e
noncomputable def instr_Getv1.calls (F0 : (Int → Option Bool) → Option Bool) (F1 : (Bool → Option Bool) → Option Bool) (F2 : Int → (Int → Option Bool) → Option Bool) (F3 : Int → (Int → Option Bool) → Option Bool) (F4 : Int → (Int → Option Bool) → Option Bool) (F5 : Tc1 → (Int → Option Bool) → Option Bool) : RecF := fun g a h k => (octet_Reader_Leftv1.get F0 (octet_Reader_Badv1.get F1 (octet_Reader_Numv1.get F2 (instr_readv2.get F3 (instr_readv3.get F4 (instr_Check.get F5 none g a h k) g a h k) g a h k) g a h k) g a h k) g a h k)
noncomputable def instr_Getv1.loops : LoopF := fun b => match Nat.beq b 0 with | true => none | false => none
set_option maxRecDepth 100000 in
theorem instr_Getv1.eq (F0 : (Int → Option Bool) → Option Bool) (F1 : (Bool → Option Bool) → Option Bool) (F2 : Int → (Int → Option Bool) → Option Bool) (F3 : Int → (Int → Option Bool) → Option Bool) (F4 : Int → (Int → Option Bool) → Option Bool) (F5 : Tc1 → (Int → Option Bool) → Option Bool) (k : KR) : execL Try.prog ht 16 (callfOf (instr_Getv1.calls F0 F1 F2 F3 F4 F5)) (instr_Getv1.loops) 0 (codeOf Try.f16) ⟨[.nilp] ++ List.replicate (Try.f16.ntmps - ([.nilp] : List AV).length) .undef, [], 2⟩ (leave Try.prog Try.f16 k) = instr_Getv1.body F0 F1 F2 F3 F4 F5 (fun y0 y1 => k (.tup [(.d ⟨(.st [(.int .i64), (.int .i64), (.int .i64), (.int .i64), (.int .i64)]), y0⟩), (.d ⟨(.int .i64), y1⟩)]) []) := by kernel_rfl
theorem instr_Getv1.ok (d : Nat) (hd : 6 ≤ d) (k : KR) (hx : instr_Getv1 (fun y0 y1 => k (.tup [(.d ⟨(.st [(.int .i64), (.int .i64), (.int .i64), (.int .i64), (.int .i64)]), y0⟩), (.d ⟨(.int .i64), y1⟩)]) []) = some true) : callK Try.prog ht d 16 [.nilp] [] k = some true := by
  obtain ⟨d, rfl⟩ : ∃ e, d = e + 1 := ⟨d - 1, by omega⟩
  exact fn_ok (c := codeOf Try.f16) Try.func16 (by kernel_rfl) (rec := instr_Getv1.calls octet_Reader_Leftv1 octet_Reader_Badv1 octet_Reader_Numv1 instr_readv2 instr_readv3 instr_Check) (fun g a h k hx => by
    rcases octet_Reader_Leftv1.look d (by omega) hx with hx | hx
    rotate_left
    · exact hx
    rcases octet_Reader_Badv1.look d (by omega) hx with hx | hx
    rotate_left
    · exact hx
    rcases octet_Reader_Numv1.look d (by omega) hx with hx | hx
    rotate_left
    · exact hx
    rcases instr_readv2.look d (by omega) hx with hx | hx
    rotate_left
    · exact hx
    rcases instr_readv3.look d (by omega) hx with hx | hx
    rotate_left
    · exact hx
    rcases instr_Check.look d (by omega) hx with hx | hx
    rotate_left
    · exact hx
    cases hx) (loopf := instr_Getv1.loops) (by
    have e : loopsOf (instr_Getv1.loops) 0 (codeOf Try.f16) = [] := by kernel_rfl
    rw [e]
    intro p hp
    cases hp) ((instr_Getv1.eq octet_Reader_Leftv1 octet_Reader_Badv1 octet_Reader_Numv1 instr_readv2 instr_readv3 instr_Check k).trans hx)
theorem instr_Getv1.look (d : Nat) (hd : 6 ≤ d) {e : Option Bool} {g : FuncId} {a : List AV} {h : Heap} {k : KR} (hx : instr_Getv1.get instr_Getv1 e g a h k = some true) : e = some true ∨ callK Try.prog ht d g a h k = some true := by
  unfold instr_Getv1.get at hx
  split at hx
  · exact .inr (instr_Getv1.ok d hd _ hx)
  · exact .inl hx
/-- function 5: sheerleg/sheerleglaw08.InstrGets -/
noncomputable def law08_InstrGets.body (law08_known : (Bool → Option Bool) → Option Bool) (octet_New : (List Int) → (Int → Bool → Bool → (List Int) → Option Bool) → Option Bool) (instr_Getv1 : (Tc1 → Int → Option Bool) → Option Bool) (law08_InstrGets_L0 : Int → Int → Int → Bool → Bool → (List Int) → (List Int) → Int → Bool → (Int → Bool → Bool → (List Int) → (List Int) → Int → Bool → Option Bool) → Option Bool) (law08_InstrGets_L2 : Int → Int → Bool → Bool → (List Int) → (List Int) → Int → Bool → (Bool → Option Bool) → (Option Bool) → Option Bool) (ns869 : List Int) (n870 : Int) (k1 : Bool → Option Bool) : Option Bool :=
  (cond_ (decide ((((List.length ns869) : Nat) : Int) > (200 : Int))) (law08_known
  (fun b871 => (k1 b871))) (octet_New ns869
  (fun n872 b873 b874 ns875 => (law08_InstrGets_L0 n870 (0 : Int) n872 b873 b874 ns875 ns869 (0 : Int) false
  (fun n876 b877 b878 ns879 l880 n881 b882 => (law08_InstrGets_L2 (0 : Int) n876 b877 b878 ns879 l880 n881 b882
  (fun b910 => (k1 b910))
  (instr_Getv1
  (fun t926 n927 => (cond_ (n927 == (5 : Int)) (law08_known
  (fun b928 => (k1 b928))) (k1 false))))))))))
noncomputable def law08_InstrGets (ns869 : List Int) (n870 : Int) (k1 : Bool → Option Bool) : Option Bool := law08_InstrGets.body law08_known octet_New instr_Getv1 (law08_InstrGets_L0 ROUNDS) (law08_InstrGets_L2 ROUNDS) ns869 n870 k1
noncomputable def law08_InstrGets.get (F : (List Int) → Int → (Bool → Option Bool) → Option Bool) (e : Option Bool) (g : FuncId) (a : List AV) (h : Heap) (k : KR) : Option Bool := match g, a, h with
  | 5, [(.bv 0 5 (.int .u8) ns869), (.d ⟨(.int .i64), n870⟩)], [] => F ns869 n870 (fun y0 => k (.d ⟨.bool, y0⟩) [])
  | _, _, _ => e
noncomputable def law08_InstrGets.calls (F0 : (Bool → Option Bool) → Option Bool) (F1 : (List Int) → (Int → Bool → Bool → (List Int) → Option Bool) → Option Bool) (F2 : (Tc1 → Int → Option Bool) → Option Bool) : RecF := fun g a h k => (law08_known.get F0 (octet_New.get F1 (instr_Getv1.get F2 none g a h k) g a h k) g a h k)
noncomputable def law08_InstrGets.loops (L0 : Int → Int → Int → Bool → Bool → (List Int) → (List Int) → Int → Bool → (Int → Bool → Bool → (List Int) → (List Int) → Int → Bool → Option Bool) → Option Bool) (L1 : Int → Int → Bool → Bool → (List Int) → (List Int) → Int → Bool → (Bool → Option Bool) → (Option Bool) → Option Bool) : LoopF := fun b => match Nat.beq b 0 with | true => some (fun st k => (law08_InstrGets_L0.get L0 none st k)) | false => match Nat.beq b 2 with | true => some (fun st k => (law08_InstrGets_L2.get L1 none st k)) | false => none
set_option maxRecDepth 100000 in
theorem law08_InstrGets.eq (F0 : (Bool → Option Bool) → Option Bool) (F1 : (List Int) → (Int → Bool → Bool → (List Int) → Option Bool) → Option Bool) (F2 : (Tc1 → Int → Option Bool) → Option Bool) (L0 : Int → Int → Int → Bool → Bool → (List Int) → (List Int) → Int → Bool → (Int → Bool → Bool → (List Int) → (List Int) → Int → Bool → Option Bool) → Option Bool) (L1 : Int → Int → Bool → Bool → (List Int) → (List Int) → Int → Bool → (Bool → Option Bool) → (Option Bool) → Option Bool) (ns869 : List Int) (n870 : Int) (k : KR) : execL Try.prog ht 5 (callfOf (law08_InstrGets.calls F0 F1 F2)) (law08_InstrGets.loops L0 L1) 0 (codeOf Try.f5) ⟨[(.bv 0 5 (.int .u8) ns869), (.d ⟨(.int .i64), n870⟩)] ++ List.replicate (Try.f5.ntmps - ([(.bv 0 5 (.int .u8) ns869), (.d ⟨(.int .i64), n870⟩)] : List AV).length) .undef, [], 2⟩ (leave Try.prog Try.f5 k) = law08_InstrGets.body F0 F1 F2 L0 L1 ns869 n870 (fun y0 => k (.d ⟨.bool, y0⟩) []) := by kernel_rfl
theorem law08_InstrGets.ok (d : Nat) (hd : 61 ≤ d) (ns869 : List Int) (n870 : Int) (k : KR) (hx : law08_InstrGets ns869 n870 (fun y0 => k (.d ⟨.bool, y0⟩) []) = some true) : callK Try.prog ht d 5 [(.bv 0 5 (.int .u8) ns869), (.d ⟨(.int .i64), n870⟩)] [] k = some true := by
  obtain ⟨d, rfl⟩ : ∃ e, d = e + 1 := ⟨d - 1, by omega⟩
  exact fn_ok (c := codeOf Try.f5) Try.func5 (by kernel_rfl) (rec := law08_InstrGets.calls law08_known octet_New instr_Getv1) (fun g a h k hx => by
    rcases law08_known.look d (by omega) hx with hx | hx
    rotate_left
    · exact hx
    rcases octet_New.look d (by omega) hx with hx | hx
    rotate_left
    · exact hx
    rcases instr_Getv1.look d (by omega) hx with hx | hx
    rotate_left
    · exact hx
    cases hx) (loopf := law08_InstrGets.loops (law08_InstrGets_L0 ROUNDS) (law08_InstrGets_L2 ROUNDS)) (by
    have e : loopsOf (law08_InstrGets.loops (law08_InstrGets_L0 ROUNDS) (law08_InstrGets_L2 ROUNDS)) 0 (codeOf Try.f5) = [(0, loopAt 0 (codeOf Try.f5)), (2, loopAt 2 (codeOf Try.f5))] := by kernel_rfl
    rw [e]
    intro p hp
    simp only [List.mem_cons, List.not_mem_nil, or_false] at hp
    rcases hp with rfl | rfl
    · refine loopRef_of (callf := callfOf (callK Try.prog ht d)) (callfOf_ref (callK_mono d)) fun lf st k hb hx => ?_
      cases hb
      rcases law08_InstrGets_L0.look hx with hx | hx
      rotate_left
      · exact law08_InstrGets_L0.ok d (by omega) _ _ _ hx
      cases hx
    · refine loopRef_of (callf := callfOf (callK Try.prog ht d)) (callfOf_ref (callK_mono d)) fun lf st k hb hx => ?_
      cases hb
      rcases law08_InstrGets_L2.look hx with hx | hx
      rotate_left
      · exact law08_InstrGets_L2.ok d (by omega) _ _ _ hx
      cases hx) ((law08_InstrGets.eq law08_known octet_New instr_Getv1 (law08_InstrGets_L0 ROUNDS) (law08_InstrGets_L2 ROUNDS) ns869 n870 k).trans hx)
theorem law08_InstrGets.look (d : Nat) (hd : 61 ≤ d) {e : Option Bool} {g : FuncId} {a : List AV} {h : Heap} {k : KR} (hx : law08_InstrGets.get law08_InstrGets e g a h k = some true) : e = some true ∨ callK Try.prog ht d g a h k = some true := by
  unfold law08_InstrGets.get at hx
  split at hx
  · exact .inr (law08_InstrGets.ok d hd _ _ _ hx)
  · exact .inl hx
end Go.Proofs.Ytfpefjpbkgejdaa.g
