/- What the functions come to that G reaches, as plain functions; written by a program of this work, each told by Lean. -/
import Derived.Test.YtbedajhajmkapaaMG1
namespace Go.Proofs.Ytbedajhajmkapaa.g
open Go.AX
set_option linter.unusedVariables false
set_option maxRecDepth 100000
set_option maxHeartbeats 4000000
/-- function 33: (*sheerleg/octet.Reader).Num -/
noncomputable def octet_Reader_Num.body (octet_number : Int → Int → Bool → Bool → (List Int) → (Int → Int → Bool → Bool → (List Int) → (List Int) → Option Bool) → (Int → Nat → Nat → Int → Bool → Bool → (List Int) → Option Bool) → Option Bool) (n389 : Int) (n390 : Int) (b391 : Bool) (b392 : Bool) (ns393 : List Int) (k1 : Int → Int → Bool → Bool → (List Int) → Option Bool) : Option Bool :=
  (octet_number n389 n390 b391 b392 ns393
  (fun n529 n530 b531 b532 ns533 ns534 => (k1 n529 n530 b531 b532 ns533))
  (fun n535 m536 m537 n538 b539 b540 ns541 => (k1 n535 n538 b539 b540 ns541)))
noncomputable def octet_Reader_Num (n389 : Int) (n390 : Int) (b391 : Bool) (b392 : Bool) (ns393 : List Int) (k1 : Int → Int → Bool → Bool → (List Int) → Option Bool) : Option Bool := octet_Reader_Num.body octet_number n389 n390 b391 b392 ns393 k1
noncomputable def octet_Reader_Num.get (F : Int → Int → Bool → Bool → (List Int) → (Int → Int → Bool → Bool → (List Int) → Option Bool) → Option Bool) (e : Option Bool) (g : FuncId) (a : List AV) (h : Heap) (k : KR) : Option Bool := match g, a, h with
  | 33, [(.ptr [0, 0] 0 0), (.d ⟨(.int .i64), n389⟩)], [([0, 0], ⟨68, 4, (.mix [(.agg [(.ref [0, 1]), (.d ⟨(.int .i64), n390⟩), (.d ⟨.bool, b391⟩), (.d ⟨.bool, b392⟩)])])⟩), ([0, 1], ⟨5, 1, (.data (.int .u8) ns393)⟩)] => F n389 n390 b391 b392 ns393 (fun y0 y1 y2 y3 y4 => k (.d ⟨(.int .i64), y0⟩) [([0, 0], ⟨68, 4, (.mix [(.agg [(.ref [0, 1]), (.d ⟨(.int .i64), y1⟩), (.d ⟨.bool, y2⟩), (.d ⟨.bool, y3⟩)])])⟩), ([0, 1], ⟨5, 1, (.data (.int .u8) y4)⟩)])
  | _, _, _ => e
noncomputable def octet_Reader_Num.calls (F0 : Int → Int → Bool → Bool → (List Int) → (Int → Int → Bool → Bool → (List Int) → (List Int) → Option Bool) → (Int → Nat → Nat → Int → Bool → Bool → (List Int) → Option Bool) → Option Bool) : RecF := fun g a h k => (octet_number.get F0 none g a h k)
noncomputable def octet_Reader_Num.loops : LoopF := fun b => none
set_option maxRecDepth 100000 in
theorem octet_Reader_Num.eq (F0 : Int → Int → Bool → Bool → (List Int) → (Int → Int → Bool → Bool → (List Int) → (List Int) → Option Bool) → (Int → Nat → Nat → Int → Bool → Bool → (List Int) → Option Bool) → Option Bool) (n389 : Int) (n390 : Int) (b391 : Bool) (b392 : Bool) (ns393 : List Int) (k : KR) : execL Try.prog ht 33 (callfOf (octet_Reader_Num.calls F0)) (octet_Reader_Num.loops) 0 (codeOf Try.f33) ⟨[(.ptr [0, 0] 0 0), (.d ⟨(.int .i64), n389⟩)] ++ List.replicate (Try.f33.ntmps - ([(.ptr [0, 0] 0 0), (.d ⟨(.int .i64), n389⟩)] : List AV).length) .undef, [([0, 0], ⟨68, 4, (.mix [(.agg [(.ref [0, 1]), (.d ⟨(.int .i64), n390⟩), (.d ⟨.bool, b391⟩), (.d ⟨.bool, b392⟩)])])⟩), ([0, 1], ⟨5, 1, (.data (.int .u8) ns393)⟩)], 2⟩ (leave Try.prog Try.f33 k) = octet_Reader_Num.body F0 n389 n390 b391 b392 ns393 (fun y0 y1 y2 y3 y4 => k (.d ⟨(.int .i64), y0⟩) [([0, 0], ⟨68, 4, (.mix [(.agg [(.ref [0, 1]), (.d ⟨(.int .i64), y1⟩), (.d ⟨.bool, y2⟩), (.d ⟨.bool, y3⟩)])])⟩), ([0, 1], ⟨5, 1, (.data (.int .u8) y4)⟩)]) := by kernel_rfl
theorem octet_Reader_Num.ok (d : Nat) (hd : 4 ≤ d) (n389 : Int) (n390 : Int) (b391 : Bool) (b392 : Bool) (ns393 : List Int) (k : KR) (hx : octet_Reader_Num n389 n390 b391 b392 ns393 (fun y0 y1 y2 y3 y4 => k (.d ⟨(.int .i64), y0⟩) [([0, 0], ⟨68, 4, (.mix [(.agg [(.ref [0, 1]), (.d ⟨(.int .i64), y1⟩), (.d ⟨.bool, y2⟩), (.d ⟨.bool, y3⟩)])])⟩), ([0, 1], ⟨5, 1, (.data (.int .u8) y4)⟩)]) = some true) : callK Try.prog ht d 33 [(.ptr [0, 0] 0 0), (.d ⟨(.int .i64), n389⟩)] [([0, 0], ⟨68, 4, (.mix [(.agg [(.ref [0, 1]), (.d ⟨(.int .i64), n390⟩), (.d ⟨.bool, b391⟩), (.d ⟨.bool, b392⟩)])])⟩), ([0, 1], ⟨5, 1, (.data (.int .u8) ns393)⟩)] k = some true := by
  obtain ⟨d, rfl⟩ : ∃ e, d = e + 1 := ⟨d - 1, by omega⟩
  exact fn_ok (c := codeOf Try.f33) Try.func33 (by kernel_rfl) (rec := octet_Reader_Num.calls octet_number) (fun g a h k hx => by
    rcases octet_number.look d (by omega) hx with hx | hx
    rotate_left
    · exact hx
    cases hx) (loopf := octet_Reader_Num.loops) (by
    have e : loopsOf (octet_Reader_Num.loops) 0 (codeOf Try.f33) = [] := by kernel_rfl
    rw [e]
    intro p hp
    cases hp) ((octet_Reader_Num.eq octet_number n389 n390 b391 b392 ns393 k).trans hx)
theorem octet_Reader_Num.look (d : Nat) (hd : 4 ≤ d) {e : Option Bool} {g : FuncId} {a : List AV} {h : Heap} {k : KR} (hx : octet_Reader_Num.get octet_Reader_Num e g a h k = some true) : e = some true ∨ callK Try.prog ht d g a h k = some true := by
  unfold octet_Reader_Num.get at hx
  split at hx
  · exact .inr (octet_Reader_Num.ok d hd _ _ _ _ _ _ hx)
  · exact .inl hx
/-- function 18: the loop in block 0 -/
noncomputable def data_Get_L0.body (data_Get_L0 : Int → Int → Int → Bool → Bool → (List Int) → Int → Int → (List Int) → (Int → Bool → Bool → (List Int) → Int → Int → (List Int) → Option Bool) → Option Bool) (octet_Reader_Num : Int → Int → Bool → Bool → (List Int) → (Int → Int → Bool → Bool → (List Int) → Option Bool) → Option Bool) (n767 : Int) (n768 : Int) (n769 : Int) (b770 : Bool) (b771 : Bool) (ns772 : List Int) (n773 : Int) (n774 : Int) (ns775 : List Int) (k1 : Int → Bool → Bool → (List Int) → Int → Int → (List Int) → Option Bool) : Option Bool :=
  (cond_ (decide (n768 < n767)) (octet_Reader_Num (8 : Int) n769 b770 b771 ns772
  (fun n776 n777 b778 b779 ns780 => (cond_ (Nat.ble (((List.length ns775) + (List.length (n776 :: []))) * (8 : Nat)) (140737488355328 : Nat)) (data_Get_L0 n767 (IntKind.wrap .i64 (n768 + (1 : Int))) n777 b778 b779 ns780 n773 n774 (ns775 ++ (n776 :: [])) k1) none))) (k1 n769 b770 b771 ns772 n773 n774 ns775))
noncomputable def data_Get_L0 : Nat → Int → Int → Int → Bool → Bool → (List Int) → Int → Int → (List Int) → (Int → Bool → Bool → (List Int) → Int → Int → (List Int) → Option Bool) → Option Bool
  | 0 => fun _ _ _ _ _ _ _ _ _ _ => none
  | n + 1 => data_Get_L0.body (data_Get_L0 n) octet_Reader_Num
noncomputable def data_Get_L0.get (F : Int → Int → Int → Bool → Bool → (List Int) → Int → Int → (List Int) → (Int → Bool → Bool → (List Int) → Int → Int → (List Int) → Option Bool) → Option Bool) (e : Option Bool) (st : St) (k : KE) : Option Bool := match st with
  | ⟨sl, hp, m⟩ => match Nat.beq m 2, pickS 55 [0, 2, 4, 11, 12] sl, hp with
    | true, some [(.ptr [0, 0] 0 0), (.ptr [1, 0] 0 0), (.ptr [1, 1] 0 0), (.d ⟨(.int .i64), n767⟩), (.d ⟨(.int .i64), n768⟩)], [([0, 0], ⟨68, 4, (.mix [(.agg [(.ref [0, 1]), (.d ⟨(.int .i64), n769⟩), (.d ⟨.bool, b770⟩), (.d ⟨.bool, b771⟩)])])⟩), ([0, 1], ⟨5, 1, (.data (.int .u8) ns772)⟩), ([1, 0], ⟨25, 3, (.mix [(.agg [(.d ⟨(.int .i64), n773⟩), .nils, .nils])])⟩), ([1, 1], ⟨25, 3, (.mix [(.agg [(.d ⟨(.int .i64), n774⟩), (.ref [1, 2]), .nils])])⟩), ([1, 2], ⟨2, 1, (.data (.int .i64) ns775)⟩)] => F n767 n768 n769 b770 b771 ns772 n773 n774 ns775 (fun y0 y1 y2 y3 y4 y5 y6 => k (.exit 0) ⟨fillS 55 [0, 2, 4] [(.ptr [0, 0] 0 0), (.ptr [1, 0] 0 0), (.ptr [1, 1] 0 0)], [([0, 0], ⟨68, 4, (.mix [(.agg [(.ref [0, 1]), (.d ⟨(.int .i64), y0⟩), (.d ⟨.bool, y1⟩), (.d ⟨.bool, y2⟩)])])⟩), ([0, 1], ⟨5, 1, (.data (.int .u8) y3)⟩), ([1, 0], ⟨25, 3, (.mix [(.agg [(.d ⟨(.int .i64), y4⟩), .nils, .nils])])⟩), ([1, 1], ⟨25, 3, (.mix [(.agg [(.d ⟨(.int .i64), y5⟩), (.ref [1, 2]), .nils])])⟩), ([1, 2], ⟨2, 1, (.data (.int .i64) y6)⟩)], 2⟩)
    | _, _, _ => e
noncomputable def data_Get_L0.calls (F0 : Int → Int → Bool → Bool → (List Int) → (Int → Int → Bool → Bool → (List Int) → Option Bool) → Option Bool) : RecF := fun g a h k => (octet_Reader_Num.get F0 none g a h k)
noncomputable def data_Get_L0.loops : LoopF := fun b => none
set_option maxRecDepth 100000 in
theorem data_Get_L0.step (S : Int → Int → Int → Bool → Bool → (List Int) → Int → Int → (List Int) → (Int → Bool → Bool → (List Int) → Int → Int → (List Int) → Option Bool) → Option Bool) (F0 : Int → Int → Bool → Bool → (List Int) → (Int → Int → Bool → Bool → (List Int) → Option Bool) → Option Bool) (n767 : Int) (n768 : Int) (n769 : Int) (b770 : Bool) (b771 : Bool) (ns772 : List Int) (n773 : Int) (n774 : Int) (ns775 : List Int) (k : KE) : execL Try.prog ht 18 (callfOf (data_Get_L0.calls F0)) (data_Get_L0.loops) 0 (loopAt 0 (codeOf Try.f18)) ⟨fillS 55 [0, 2, 4, 11, 12] [(.ptr [0, 0] 0 0), (.ptr [1, 0] 0 0), (.ptr [1, 1] 0 0), (.d ⟨(.int .i64), n767⟩), (.d ⟨(.int .i64), n768⟩)], [([0, 0], ⟨68, 4, (.mix [(.agg [(.ref [0, 1]), (.d ⟨(.int .i64), n769⟩), (.d ⟨.bool, b770⟩), (.d ⟨.bool, b771⟩)])])⟩), ([0, 1], ⟨5, 1, (.data (.int .u8) ns772)⟩), ([1, 0], ⟨25, 3, (.mix [(.agg [(.d ⟨(.int .i64), n773⟩), .nils, .nils])])⟩), ([1, 1], ⟨25, 3, (.mix [(.agg [(.d ⟨(.int .i64), n774⟩), (.ref [1, 2]), .nils])])⟩), ([1, 2], ⟨2, 1, (.data (.int .i64) ns775)⟩)], 2⟩ (again (data_Get_L0.get S none) (plan Try.prog (ht 18 0)) k) = data_Get_L0.body S F0 n767 n768 n769 b770 b771 ns772 n773 n774 ns775 (fun y0 y1 y2 y3 y4 y5 y6 => k (.exit 0) ⟨fillS 55 [0, 2, 4] [(.ptr [0, 0] 0 0), (.ptr [1, 0] 0 0), (.ptr [1, 1] 0 0)], [([0, 0], ⟨68, 4, (.mix [(.agg [(.ref [0, 1]), (.d ⟨(.int .i64), y0⟩), (.d ⟨.bool, y1⟩), (.d ⟨.bool, y2⟩)])])⟩), ([0, 1], ⟨5, 1, (.data (.int .u8) y3)⟩), ([1, 0], ⟨25, 3, (.mix [(.agg [(.d ⟨(.int .i64), y4⟩), .nils, .nils])])⟩), ([1, 1], ⟨25, 3, (.mix [(.agg [(.d ⟨(.int .i64), y5⟩), (.ref [1, 2]), .nils])])⟩), ([1, 2], ⟨2, 1, (.data (.int .i64) y6)⟩)], 2⟩) := by kernel_rfl
theorem data_Get_L0.ok (d : Nat) (hd : 4 ≤ d) : ∀ n st k, data_Get_L0.get (data_Get_L0 n) none st k = some true → iter n (plan Try.prog (ht 18 0)) (fun st k => execK Try.prog ht 18 (callfOf (callK Try.prog ht d)) 0 (loopAt 0 (codeOf Try.f18)) st k) st k = some true :=
  loop_ok (lfn := fun n st k => data_Get_L0.get (data_Get_L0 n) none st k) (rec := data_Get_L0.calls octet_Reader_Num) (fun g a h k hx => by
    rcases octet_Reader_Num.look d (by omega) hx with hx | hx
    rotate_left
    · exact hx
    cases hx) (loopf := data_Get_L0.loops) (by
    have e : loopsOf (data_Get_L0.loops) 0 (loopAt 0 (codeOf Try.f18)) = [] := by kernel_rfl
    rw [e]
    intro p hp
    cases hp) (fun st k h => by
    obtain ⟨sl, hp, m⟩ := st
    unfold data_Get_L0.get at h
    dsimp only at h
    split at h
    · have h' : (none : Option Bool) = some true := h
      cases h'
    · cases h) (fun n st k h => by
    obtain ⟨sl, hp, m⟩ := st
    unfold data_Get_L0.get at h
    dsimp only at h
    split at h
    · rename_i h1 h2
      obtain rfl := pickS_ok h2
      obtain rfl := Nat.eq_of_beq_eq_true h1
      exact (data_Get_L0.step (data_Get_L0 n) octet_Reader_Num _ _ _ _ _ _ _ _ _ k).trans h
    · cases h)
theorem data_Get_L0.look {F : Int → Int → Int → Bool → Bool → (List Int) → Int → Int → (List Int) → (Int → Bool → Bool → (List Int) → Int → Int → (List Int) → Option Bool) → Option Bool} {e : Option Bool} {st : St} {k : KE} (hx : data_Get_L0.get F e st k = some true) : e = some true ∨ data_Get_L0.get F none st k = some true := by
  obtain ⟨sl, hp, m⟩ := st
  unfold data_Get_L0.get at hx ⊢
  dsimp only at hx ⊢
  split at hx
  · exact .inr hx
  · exact .inl hx
/-- function 18: the loop in block 2 -/
noncomputable def data_Get_L2.body (data_Get_L2 : Int → Int → Int → Bool → Bool → (List Int) → Int → Int → (List Int) → Tc0 → (Int → Int → Bool → Bool → (List Int) → Tc4 → Option Bool) → (Int → Bool → Bool → (List Int) → Int → Int → (List Int) → Tc0 → Option Bool) → Option Bool) (octet_Reader_Num : Int → Int → Bool → Bool → (List Int) → (Int → Int → Bool → Bool → (List Int) → Option Bool) → Option Bool) (octet_Reader_Bad : Int → Bool → Bool → (List Int) → (Bool → Int → Bool → Bool → (List Int) → Option Bool) → Option Bool) (n793 : Int) (n794 : Int) (n795 : Int) (b796 : Bool) (b797 : Bool) (ns798 : List Int) (n799 : Int) (n800 : Int) (ns801 : List Int) (ts802 : Tc0) (k1 : Int → Int → Bool → Bool → (List Int) → Tc4 → Option Bool) (k2 : Int → Bool → Bool → (List Int) → Int → Int → (List Int) → Tc0 → Option Bool) : Option Bool :=
  (cond_ (decide (n794 < n793)) (octet_Reader_Num (1 : Int) n795 b796 b797 ns798
  (fun n803 n804 b805 b806 ns807 => (octet_Reader_Num (1 : Int) n804 b805 b806 ns807
  (fun n808 n809 b810 b811 ns812 => (octet_Reader_Num (1 : Int) n809 b810 b811 ns812
  (fun n813 n814 b815 b816 ns817 => (octet_Reader_Bad n814 b815 b816 ns817
  (fun b818 n819 b820 b821 ns822 => (cond_ b818 (k1 (5 : Int) n819 b820 b821 ns822 ((0 : Int), ([], ([], ())))) (cond_ (decide (n813 > (1 : Int))) (k1 (3 : Int) n819 b820 b821 ns822 ((0 : Int), ([], ([], ())))) (cond_ (Nat.ble (((List.length ts802) + (List.length ((((n803, (n808, (false, ()))).1, ((n803, (n808, (false, ()))).2.1, ((n813 == (1 : Int)), ()))).1, (((n803, (n808, (false, ()))).1, ((n803, (n808, (false, ()))).2.1, ((n813 == (1 : Int)), ()))).2.1, (((n803, (n808, (false, ()))).1, ((n803, (n808, (false, ()))).2.1, ((n813 == (1 : Int)), ()))).2.2.1, ()))) :: []))) * (24 : Nat)) (140737488355328 : Nat)) (data_Get_L2 n793 (IntKind.wrap .i64 (n794 + (1 : Int))) n819 b820 b821 ns822 n799 n800 ns801 (ts802 ++ ((((n803, (n808, (false, ()))).1, ((n803, (n808, (false, ()))).2.1, ((n813 == (1 : Int)), ()))).1, (((n803, (n808, (false, ()))).1, ((n803, (n808, (false, ()))).2.1, ((n813 == (1 : Int)), ()))).2.1, (((n803, (n808, (false, ()))).1, ((n803, (n808, (false, ()))).2.1, ((n813 == (1 : Int)), ()))).2.2.1, ()))) :: [])) k1 k2) none))))))))))) (k2 n795 b796 b797 ns798 n799 n800 ns801 ts802))
noncomputable def data_Get_L2 : Nat → Int → Int → Int → Bool → Bool → (List Int) → Int → Int → (List Int) → Tc0 → (Int → Int → Bool → Bool → (List Int) → Tc4 → Option Bool) → (Int → Bool → Bool → (List Int) → Int → Int → (List Int) → Tc0 → Option Bool) → Option Bool
  | 0 => fun _ _ _ _ _ _ _ _ _ _ _ _ => none
  | n + 1 => data_Get_L2.body (data_Get_L2 n) octet_Reader_Num octet_Reader_Bad
noncomputable def data_Get_L2.get (F : Int → Int → Int → Bool → Bool → (List Int) → Int → Int → (List Int) → Tc0 → (Int → Int → Bool → Bool → (List Int) → Tc4 → Option Bool) → (Int → Bool → Bool → (List Int) → Int → Int → (List Int) → Tc0 → Option Bool) → Option Bool) (e : Option Bool) (st : St) (k : KE) : Option Bool := match st with
  | ⟨sl, hp, m⟩ => match Nat.beq m 2, pickS 55 [0, 2, 4, 23, 24] sl, hp with
    | true, some [(.ptr [0, 0] 0 0), (.ptr [1, 0] 0 0), (.ptr [1, 1] 0 0), (.d ⟨(.int .i64), n793⟩), (.d ⟨(.int .i64), n794⟩)], [([0, 0], ⟨68, 4, (.mix [(.agg [(.ref [0, 1]), (.d ⟨(.int .i64), n795⟩), (.d ⟨.bool, b796⟩), (.d ⟨.bool, b797⟩)])])⟩), ([0, 1], ⟨5, 1, (.data (.int .u8) ns798)⟩), ([1, 0], ⟨25, 3, (.mix [(.agg [(.d ⟨(.int .i64), n799⟩), .nils, .nils])])⟩), ([1, 1], ⟨25, 3, (.mix [(.agg [(.d ⟨(.int .i64), n800⟩), (.ref [1, 2]), (.ref [1, 3])])])⟩), ([1, 2], ⟨2, 1, (.data (.int .i64) ns801)⟩), ([1, 3], ⟨51, 3, (.data (.st [(.int .i64), (.int .i64), .bool]) ts802)⟩)] => F n793 n794 n795 b796 b797 ns798 n799 n800 ns801 ts802 (fun y0 y1 y2 y3 y4 y5 => k .ret ⟨fillS 55 [2, 3] [(.ptr [1, 0] 0 0), (.d ⟨(.int .i64), y0⟩)], [([0, 0], ⟨68, 4, (.mix [(.agg [(.ref [0, 1]), (.d ⟨(.int .i64), y1⟩), (.d ⟨.bool, y2⟩), (.d ⟨.bool, y3⟩)])])⟩), ([0, 1], ⟨5, 1, (.data (.int .u8) y4)⟩), ([1, 0], ⟨25, 3, (.data (.st [(.int .i64), (.sl 2 (.int .i64)), (.sl 51 (.st [(.int .i64), (.int .i64), .bool]))]) [y5])⟩)], 2⟩) (fun y0 y1 y2 y3 y4 y5 y6 y7 => k (.exit 2) ⟨fillS 55 [0, 2, 4] [(.ptr [0, 0] 0 0), (.ptr [1, 0] 0 0), (.ptr [1, 1] 0 0)], [([0, 0], ⟨68, 4, (.mix [(.agg [(.ref [0, 1]), (.d ⟨(.int .i64), y0⟩), (.d ⟨.bool, y1⟩), (.d ⟨.bool, y2⟩)])])⟩), ([0, 1], ⟨5, 1, (.data (.int .u8) y3)⟩), ([1, 0], ⟨25, 3, (.mix [(.agg [(.d ⟨(.int .i64), y4⟩), .nils, .nils])])⟩), ([1, 1], ⟨25, 3, (.mix [(.agg [(.d ⟨(.int .i64), y5⟩), (.ref [1, 2]), (.ref [1, 3])])])⟩), ([1, 2], ⟨2, 1, (.data (.int .i64) y6)⟩), ([1, 3], ⟨51, 3, (.data (.st [(.int .i64), (.int .i64), .bool]) y7)⟩)], 2⟩)
    | _, _, _ => e
noncomputable def data_Get_L2.calls (F0 : Int → Int → Bool → Bool → (List Int) → (Int → Int → Bool → Bool → (List Int) → Option Bool) → Option Bool) (F1 : Int → Bool → Bool → (List Int) → (Bool → Int → Bool → Bool → (List Int) → Option Bool) → Option Bool) : RecF := fun g a h k => (octet_Reader_Num.get F0 (octet_Reader_Bad.get F1 none g a h k) g a h k)
noncomputable def data_Get_L2.loops : LoopF := fun b => none
set_option maxRecDepth 100000 in
theorem data_Get_L2.step (S : Int → Int → Int → Bool → Bool → (List Int) → Int → Int → (List Int) → Tc0 → (Int → Int → Bool → Bool → (List Int) → Tc4 → Option Bool) → (Int → Bool → Bool → (List Int) → Int → Int → (List Int) → Tc0 → Option Bool) → Option Bool) (F0 : Int → Int → Bool → Bool → (List Int) → (Int → Int → Bool → Bool → (List Int) → Option Bool) → Option Bool) (F1 : Int → Bool → Bool → (List Int) → (Bool → Int → Bool → Bool → (List Int) → Option Bool) → Option Bool) (n793 : Int) (n794 : Int) (n795 : Int) (b796 : Bool) (b797 : Bool) (ns798 : List Int) (n799 : Int) (n800 : Int) (ns801 : List Int) (ts802 : Tc0) (k : KE) : execL Try.prog ht 18 (callfOf (data_Get_L2.calls F0 F1)) (data_Get_L2.loops) 2 (loopAt 2 (codeOf Try.f18)) ⟨fillS 55 [0, 2, 4, 23, 24] [(.ptr [0, 0] 0 0), (.ptr [1, 0] 0 0), (.ptr [1, 1] 0 0), (.d ⟨(.int .i64), n793⟩), (.d ⟨(.int .i64), n794⟩)], [([0, 0], ⟨68, 4, (.mix [(.agg [(.ref [0, 1]), (.d ⟨(.int .i64), n795⟩), (.d ⟨.bool, b796⟩), (.d ⟨.bool, b797⟩)])])⟩), ([0, 1], ⟨5, 1, (.data (.int .u8) ns798)⟩), ([1, 0], ⟨25, 3, (.mix [(.agg [(.d ⟨(.int .i64), n799⟩), .nils, .nils])])⟩), ([1, 1], ⟨25, 3, (.mix [(.agg [(.d ⟨(.int .i64), n800⟩), (.ref [1, 2]), (.ref [1, 3])])])⟩), ([1, 2], ⟨2, 1, (.data (.int .i64) ns801)⟩), ([1, 3], ⟨51, 3, (.data (.st [(.int .i64), (.int .i64), .bool]) ts802)⟩)], 2⟩ (again (data_Get_L2.get S none) (plan Try.prog (ht 18 2)) k) = data_Get_L2.body S F0 F1 n793 n794 n795 b796 b797 ns798 n799 n800 ns801 ts802 (fun y0 y1 y2 y3 y4 y5 => k .ret ⟨fillS 55 [2, 3] [(.ptr [1, 0] 0 0), (.d ⟨(.int .i64), y0⟩)], [([0, 0], ⟨68, 4, (.mix [(.agg [(.ref [0, 1]), (.d ⟨(.int .i64), y1⟩), (.d ⟨.bool, y2⟩), (.d ⟨.bool, y3⟩)])])⟩), ([0, 1], ⟨5, 1, (.data (.int .u8) y4)⟩), ([1, 0], ⟨25, 3, (.data (.st [(.int .i64), (.sl 2 (.int .i64)), (.sl 51 (.st [(.int .i64), (.int .i64), .bool]))]) [y5])⟩)], 2⟩) (fun y0 y1 y2 y3 y4 y5 y6 y7 => k (.exit 2) ⟨fillS 55 [0, 2, 4] [(.ptr [0, 0] 0 0), (.ptr [1, 0] 0 0), (.ptr [1, 1] 0 0)], [([0, 0], ⟨68, 4, (.mix [(.agg [(.ref [0, 1]), (.d ⟨(.int .i64), y0⟩), (.d ⟨.bool, y1⟩), (.d ⟨.bool, y2⟩)])])⟩), ([0, 1], ⟨5, 1, (.data (.int .u8) y3)⟩), ([1, 0], ⟨25, 3, (.mix [(.agg [(.d ⟨(.int .i64), y4⟩), .nils, .nils])])⟩), ([1, 1], ⟨25, 3, (.mix [(.agg [(.d ⟨(.int .i64), y5⟩), (.ref [1, 2]), (.ref [1, 3])])])⟩), ([1, 2], ⟨2, 1, (.data (.int .i64) y6)⟩), ([1, 3], ⟨51, 3, (.data (.st [(.int .i64), (.int .i64), .bool]) y7)⟩)], 2⟩) := by kernel_rfl
theorem data_Get_L2.ok (d : Nat) (hd : 4 ≤ d) : ∀ n st k, data_Get_L2.get (data_Get_L2 n) none st k = some true → iter n (plan Try.prog (ht 18 2)) (fun st k => execK Try.prog ht 18 (callfOf (callK Try.prog ht d)) 2 (loopAt 2 (codeOf Try.f18)) st k) st k = some true :=
  loop_ok (lfn := fun n st k => data_Get_L2.get (data_Get_L2 n) none st k) (rec := data_Get_L2.calls octet_Reader_Num octet_Reader_Bad) (fun g a h k hx => by
    rcases octet_Reader_Num.look d (by omega) hx with hx | hx
    rotate_left
    · exact hx
    rcases octet_Reader_Bad.look d (by omega) hx with hx | hx
    rotate_left
    · exact hx
    cases hx) (loopf := data_Get_L2.loops) (by
    have e : loopsOf (data_Get_L2.loops) 2 (loopAt 2 (codeOf Try.f18)) = [] := by kernel_rfl
    rw [e]
    intro p hp
    cases hp) (fun st k h => by
    obtain ⟨sl, hp, m⟩ := st
    unfold data_Get_L2.get at h
    dsimp only at h
    split at h
    · have h' : (none : Option Bool) = some true := h
      cases h'
    · cases h) (fun n st k h => by
    obtain ⟨sl, hp, m⟩ := st
    unfold data_Get_L2.get at h
    dsimp only at h
    split at h
    · rename_i h1 h2
      obtain rfl := pickS_ok h2
      obtain rfl := Nat.eq_of_beq_eq_true h1
      exact (data_Get_L2.step (data_Get_L2 n) octet_Reader_Num octet_Reader_Bad _ _ _ _ _ _ _ _ _ _ k).trans h
    · cases h)
theorem data_Get_L2.look {F : Int → Int → Int → Bool → Bool → (List Int) → Int → Int → (List Int) → Tc0 → (Int → Int → Bool → Bool → (List Int) → Tc4 → Option Bool) → (Int → Bool → Bool → (List Int) → Int → Int → (List Int) → Tc0 → Option Bool) → Option Bool} {e : Option Bool} {st : St} {k : KE} (hx : data_Get_L2.get F e st k = some true) : e = some true ∨ data_Get_L2.get F none st k = some true := by
  obtain ⟨sl, hp, m⟩ := st
  unfold data_Get_L2.get at hx ⊢
  dsimp only at hx ⊢
  split at hx
  · exact .inr hx
  · exact .inl hx
/-- function 18: sheerleg/data.Get -/
noncomputable def data_Get.body (octet_Reader_Num : Int → Int → Bool → Bool → (List Int) → (Int → Int → Bool → Bool → (List Int) → Option Bool) → Option Bool) (octet_Reader_Bad : Int → Bool → Bool → (List Int) → (Bool → Int → Bool → Bool → (List Int) → Option Bool) → Option Bool) (data_Get_L0 : Int → Int → Int → Bool → Bool → (List Int) → Int → Int → (List Int) → (Int → Bool → Bool → (List Int) → Int → Int → (List Int) → Option Bool) → Option Bool) (data_Get_L2 : Int → Int → Int → Bool → Bool → (List Int) → Int → Int → (List Int) → Tc0 → (Int → Int → Bool → Bool → (List Int) → Tc4 → Option Bool) → (Int → Bool → Bool → (List Int) → Int → Int → (List Int) → Tc0 → Option Bool) → Option Bool) (n753 : Int) (b754 : Bool) (b755 : Bool) (ns756 : List Int) (k1 : Tc4 → Int → Int → Bool → Bool → (List Int) → Option Bool) : Option Bool :=
  (octet_Reader_Num (1 : Int) n753 b754 b755 ns756
  (fun n757 n758 b759 b760 ns761 => (octet_Reader_Num (1 : Int) n758 b759 b760 ns761
  (fun n762 n763 b764 b765 ns766 => (data_Get_L0 n762 (0 : Int) n763 b764 b765 ns766 (0 : Int) n757 []
  (fun n781 b782 b783 ns784 n785 n786 ns787 => (octet_Reader_Num (1 : Int) n781 b782 b783 ns784
  (fun n788 n789 b790 b791 ns792 => (data_Get_L2 n788 (0 : Int) n789 b790 b791 ns792 n785 n786 ns787 []
  (fun n823 n824 b825 b826 ns827 t828 => (k1 t828 n823 n824 b825 b826 ns827))
  (fun n829 b830 b831 ns832 n833 n834 ns835 ts836 => (octet_Reader_Bad n829 b830 b831 ns832
  (fun b837 n838 b839 b840 ns841 => (cond_ b837 (k1 ((0 : Int), ([], ([], ()))) (5 : Int) n838 b839 b840 ns841) (k1 (n834, (ns835, (ts836, ()))) (0 : Int) n838 b839 b840 ns841))))))))))))))
noncomputable def data_Get (n753 : Int) (b754 : Bool) (b755 : Bool) (ns756 : List Int) (k1 : Tc4 → Int → Int → Bool → Bool → (List Int) → Option Bool) : Option Bool := data_Get.body octet_Reader_Num octet_Reader_Bad (data_Get_L0 ROUNDS) (data_Get_L2 ROUNDS) n753 b754 b755 ns756 k1
noncomputable def data_Get.get (F : Int → Bool → Bool → (List Int) → (Tc4 → Int → Int → Bool → Bool → (List Int) → Option Bool) → Option Bool) (e : Option Bool) (g : FuncId) (a : List AV) (h : Heap) (k : KR) : Option Bool := match g, a, h with
  | 18, [(.ptr [0, 0] 0 0)], [([0, 0], ⟨68, 4, (.mix [(.agg [(.ref [0, 1]), (.d ⟨(.int .i64), n753⟩), (.d ⟨.bool, b754⟩), (.d ⟨.bool, b755⟩)])])⟩), ([0, 1], ⟨5, 1, (.data (.int .u8) ns756)⟩)] => F n753 b754 b755 ns756 (fun y0 y1 y2 y3 y4 y5 => k (.tup [(.d ⟨(.st [(.int .i64), (.sl 2 (.int .i64)), (.sl 51 (.st [(.int .i64), (.int .i64), .bool]))]), y0⟩), (.d ⟨(.int .i64), y1⟩)]) [([0, 0], ⟨68, 4, (.mix [(.agg [(.ref [0, 1]), (.d ⟨(.int .i64), y2⟩), (.d ⟨.bool, y3⟩), (.d ⟨.bool, y4⟩)])])⟩), ([0, 1], ⟨5, 1, (.data (.int .u8) y5)⟩)])
  | _, _, _ => e
noncomputable def data_Get.calls (F0 : Int → Int → Bool → Bool → (List Int) → (Int → Int → Bool → Bool → (List Int) → Option Bool) → Option Bool) (F1 : Int → Bool → Bool → (List Int) → (Bool → Int → Bool → Bool → (List Int) → Option Bool) → Option Bool) : RecF := fun g a h k => (octet_Reader_Num.get F0 (octet_Reader_Bad.get F1 none g a h k) g a h k)
noncomputable def data_Get.loops (L0 : Int → Int → Int → Bool → Bool → (List Int) → Int → Int → (List Int) → (Int → Bool → Bool → (List Int) → Int → Int → (List Int) → Option Bool) → Option Bool) (L1 : Int → Int → Int → Bool → Bool → (List Int) → Int → Int → (List Int) → Tc0 → (Int → Int → Bool → Bool → (List Int) → Tc4 → Option Bool) → (Int → Bool → Bool → (List Int) → Int → Int → (List Int) → Tc0 → Option Bool) → Option Bool) : LoopF := fun b => match Nat.beq b 0 with | true => some (fun st k => (data_Get_L0.get L0 none st k)) | false => match Nat.beq b 2 with | true => some (fun st k => (data_Get_L2.get L1 none st k)) | false => none
set_option maxRecDepth 100000 in
theorem data_Get.eq (F0 : Int → Int → Bool → Bool → (List Int) → (Int → Int → Bool → Bool → (List Int) → Option Bool) → Option Bool) (F1 : Int → Bool → Bool → (List Int) → (Bool → Int → Bool → Bool → (List Int) → Option Bool) → Option Bool) (L0 : Int → Int → Int → Bool → Bool → (List Int) → Int → Int → (List Int) → (Int → Bool → Bool → (List Int) → Int → Int → (List Int) → Option Bool) → Option Bool) (L1 : Int → Int → Int → Bool → Bool → (List Int) → Int → Int → (List Int) → Tc0 → (Int → Int → Bool → Bool → (List Int) → Tc4 → Option Bool) → (Int → Bool → Bool → (List Int) → Int → Int → (List Int) → Tc0 → Option Bool) → Option Bool) (n753 : Int) (b754 : Bool) (b755 : Bool) (ns756 : List Int) (k : KR) : execL Try.prog ht 18 (callfOf (data_Get.calls F0 F1)) (data_Get.loops L0 L1) 0 (codeOf Try.f18) ⟨[(.ptr [0, 0] 0 0)] ++ List.replicate (Try.f18.ntmps - ([(.ptr [0, 0] 0 0)] : List AV).length) .undef, [([0, 0], ⟨68, 4, (.mix [(.agg [(.ref [0, 1]), (.d ⟨(.int .i64), n753⟩), (.d ⟨.bool, b754⟩), (.d ⟨.bool, b755⟩)])])⟩), ([0, 1], ⟨5, 1, (.data (.int .u8) ns756)⟩)], 2⟩ (leave Try.prog Try.f18 k) = data_Get.body F0 F1 L0 L1 n753 b754 b755 ns756 (fun y0 y1 y2 y3 y4 y5 => k (.tup [(.d ⟨(.st [(.int .i64), (.sl 2 (.int .i64)), (.sl 51 (.st [(.int .i64), (.int .i64), .bool]))]), y0⟩), (.d ⟨(.int .i64), y1⟩)]) [([0, 0], ⟨68, 4, (.mix [(.agg [(.ref [0, 1]), (.d ⟨(.int .i64), y2⟩), (.d ⟨.bool, y3⟩), (.d ⟨.bool, y4⟩)])])⟩), ([0, 1], ⟨5, 1, (.data (.int .u8) y5)⟩)]) := by kernel_rfl
theorem data_Get.ok (d : Nat) (hd : 5 ≤ d) (n753 : Int) (b754 : Bool) (b755 : Bool) (ns756 : List Int) (k : KR) (hx : data_Get n753 b754 b755 ns756 (fun y0 y1 y2 y3 y4 y5 => k (.tup [(.d ⟨(.st [(.int .i64), (.sl 2 (.int .i64)), (.sl 51 (.st [(.int .i64), (.int .i64), .bool]))]), y0⟩), (.d ⟨(.int .i64), y1⟩)]) [([0, 0], ⟨68, 4, (.mix [(.agg [(.ref [0, 1]), (.d ⟨(.int .i64), y2⟩), (.d ⟨.bool, y3⟩), (.d ⟨.bool, y4⟩)])])⟩), ([0, 1], ⟨5, 1, (.data (.int .u8) y5)⟩)]) = some true) : callK Try.prog ht d 18 [(.ptr [0, 0] 0 0)] [([0, 0], ⟨68, 4, (.mix [(.agg [(.ref [0, 1]), (.d ⟨(.int .i64), n753⟩), (.d ⟨.bool, b754⟩), (.d ⟨.bool, b755⟩)])])⟩), ([0, 1], ⟨5, 1, (.data (.int .u8) ns756)⟩)] k = some true := by
  obtain ⟨d, rfl⟩ : ∃ e, d = e + 1 := ⟨d - 1, by omega⟩
  exact fn_ok (c := codeOf Try.f18) Try.func18 (by kernel_rfl) (rec := data_Get.calls octet_Reader_Num octet_Reader_Bad) (fun g a h k hx => by
    rcases octet_Reader_Num.look d (by omega) hx with hx | hx
    rotate_left
    · exact hx
    rcases octet_Reader_Bad.look d (by omega) hx with hx | hx
    rotate_left
    · exact hx
    cases hx) (loopf := data_Get.loops (data_Get_L0 ROUNDS) (data_Get_L2 ROUNDS)) (by
    have e : loopsOf (data_Get.loops (data_Get_L0 ROUNDS) (data_Get_L2 ROUNDS)) 0 (codeOf Try.f18) = [(0, loopAt 0 (codeOf Try.f18)), (2, loopAt 2 (codeOf Try.f18))] := by kernel_rfl
    rw [e]
    intro p hp
    simp only [List.mem_cons, List.not_mem_nil, or_false] at hp
    rcases hp with rfl | rfl
    · refine loopRef_of (callf := callfOf (callK Try.prog ht d)) (callfOf_ref (callK_mono d)) fun lf st k hb hx => ?_
      cases hb
      rcases data_Get_L0.look hx with hx | hx
      rotate_left
      · exact data_Get_L0.ok d (by omega) _ _ _ hx
      cases hx
    · refine loopRef_of (callf := callfOf (callK Try.prog ht d)) (callfOf_ref (callK_mono d)) fun lf st k hb hx => ?_
      cases hb
      rcases data_Get_L2.look hx with hx | hx
      rotate_left
      · exact data_Get_L2.ok d (by omega) _ _ _ hx
      cases hx) ((data_Get.eq octet_Reader_Num octet_Reader_Bad (data_Get_L0 ROUNDS) (data_Get_L2 ROUNDS) n753 b754 b755 ns756 k).trans hx)
theorem data_Get.look (d : Nat) (hd : 5 ≤ d) {e : Option Bool} {g : FuncId} {a : List AV} {h : Heap} {k : KR} (hx : data_Get.get data_Get e g a h k = some true) : e = some true ∨ callK Try.prog ht d g a h k = some true := by
  unfold data_Get.get at hx
  split at hx
  · exact .inr (data_Get.ok d hd _ _ _ _ _ hx)
  · exact .inl hx
/-- function 36: the loop in block 0 -/
noncomputable def ref02_Num_L0.body (ref02_Num_L0 : Int → Bool → Int → Int → Tc1 → Int → Bool → (Int → Bool → Int → Tc1 → Int → Bool → Option Bool) → Option Bool) (n859 : Int) (b860 : Bool) (n861 : Int) (n862 : Int) (t863 : Tc1) (n864 : Int) (b865 : Bool) (k1 : Int → Bool → Int → Tc1 → Int → Bool → Option Bool) : Option Bool :=
  (cond_ (decide (n862 < n859)) (cond_ ((decide ((0 : Int) ≤ (IntKind.wrap .i64 (t863.2.1 + n862)))) && (decide ((IntKind.wrap .i64 (t863.2.1 + n862)) < (((List.length t863.1) : Nat) : Int)))) (ref02_Num_L0 n859 b860 (IntKind.wrap .u64 ((IntKind.wrap .u64 (n861 * (256 : Int))) + (IntKind.wrap .u64 (List.getD t863.1 (Int.toNat (IntKind.wrap .i64 (t863.2.1 + n862))) (0 : Int))))) (IntKind.wrap .i64 (n862 + (1 : Int))) t863 n864 b865 k1) none) (k1 n859 b860 n861 t863 n864 b865))
noncomputable def ref02_Num_L0 : Nat → Int → Bool → Int → Int → Tc1 → Int → Bool → (Int → Bool → Int → Tc1 → Int → Bool → Option Bool) → Option Bool
  | 0 => fun _ _ _ _ _ _ _ _ => none
  | n + 1 => ref02_Num_L0.body (ref02_Num_L0 n)
noncomputable def ref02_Num_L0.get (F : Int → Bool → Int → Int → Tc1 → Int → Bool → (Int → Bool → Int → Tc1 → Int → Bool → Option Bool) → Option Bool) (e : Option Bool) (st : St) (k : KE) : Option Bool := match st with
  | ⟨sl, hp, m⟩ => match Nat.beq m 2, pickS 83 [1, 2, 3, 6, 8, 9] sl, hp with
    | true, some [(.d ⟨(.int .i64), n859⟩), (.d ⟨.bool, b860⟩), (.ptr [1, 0] 0 0), (.ptr [1, 1] 0 0), (.d ⟨(.int .u64), n861⟩), (.d ⟨(.int .i64), n862⟩)], [([1, 0], ⟨43, 3, (.data (.st [(.sl 5 (.int .u8)), (.int .i64), .bool]) [t863])⟩), ([1, 1], ⟨43, 3, (.mix [(.agg [.nils, (.d ⟨(.int .i64), n864⟩), (.d ⟨.bool, b865⟩)])])⟩)] => F n859 b860 n861 n862 t863 n864 b865 (fun y0 y1 y2 y3 y4 y5 => k (.exit 0) ⟨fillS 83 [1, 2, 3, 6, 8] [(.d ⟨(.int .i64), y0⟩), (.d ⟨.bool, y1⟩), (.ptr [1, 0] 0 0), (.ptr [1, 1] 0 0), (.d ⟨(.int .u64), y2⟩)], [([1, 0], ⟨43, 3, (.data (.st [(.sl 5 (.int .u8)), (.int .i64), .bool]) [y3])⟩), ([1, 1], ⟨43, 3, (.mix [(.agg [.nils, (.d ⟨(.int .i64), y4⟩), (.d ⟨.bool, y5⟩)])])⟩)], 2⟩)
    | _, _, _ => e
noncomputable def ref02_Num_L0.calls : RecF := fun g a h k => none
noncomputable def ref02_Num_L0.loops : LoopF := fun b => none
set_option maxRecDepth 100000 in
theorem ref02_Num_L0.step (S : Int → Bool → Int → Int → Tc1 → Int → Bool → (Int → Bool → Int → Tc1 → Int → Bool → Option Bool) → Option Bool) (n859 : Int) (b860 : Bool) (n861 : Int) (n862 : Int) (t863 : Tc1) (n864 : Int) (b865 : Bool) (k : KE) : execL Try.prog ht 36 (callfOf (ref02_Num_L0.calls)) (ref02_Num_L0.loops) 0 (loopAt 0 (codeOf Try.f36)) ⟨fillS 83 [1, 2, 3, 6, 8, 9] [(.d ⟨(.int .i64), n859⟩), (.d ⟨.bool, b860⟩), (.ptr [1, 0] 0 0), (.ptr [1, 1] 0 0), (.d ⟨(.int .u64), n861⟩), (.d ⟨(.int .i64), n862⟩)], [([1, 0], ⟨43, 3, (.data (.st [(.sl 5 (.int .u8)), (.int .i64), .bool]) [t863])⟩), ([1, 1], ⟨43, 3, (.mix [(.agg [.nils, (.d ⟨(.int .i64), n864⟩), (.d ⟨.bool, b865⟩)])])⟩)], 2⟩ (again (ref02_Num_L0.get S none) (plan Try.prog (ht 36 0)) k) = ref02_Num_L0.body S n859 b860 n861 n862 t863 n864 b865 (fun y0 y1 y2 y3 y4 y5 => k (.exit 0) ⟨fillS 83 [1, 2, 3, 6, 8] [(.d ⟨(.int .i64), y0⟩), (.d ⟨.bool, y1⟩), (.ptr [1, 0] 0 0), (.ptr [1, 1] 0 0), (.d ⟨(.int .u64), y2⟩)], [([1, 0], ⟨43, 3, (.data (.st [(.sl 5 (.int .u8)), (.int .i64), .bool]) [y3])⟩), ([1, 1], ⟨43, 3, (.mix [(.agg [.nils, (.d ⟨(.int .i64), y4⟩), (.d ⟨.bool, y5⟩)])])⟩)], 2⟩) := by kernel_rfl
theorem ref02_Num_L0.ok (d : Nat) (hd : 0 ≤ d) : ∀ n st k, ref02_Num_L0.get (ref02_Num_L0 n) none st k = some true → iter n (plan Try.prog (ht 36 0)) (fun st k => execK Try.prog ht 36 (callfOf (callK Try.prog ht d)) 0 (loopAt 0 (codeOf Try.f36)) st k) st k = some true :=
  loop_ok (lfn := fun n st k => ref02_Num_L0.get (ref02_Num_L0 n) none st k) (rec := ref02_Num_L0.calls) (fun g a h k hx => by
    cases hx) (loopf := ref02_Num_L0.loops) (by
    have e : loopsOf (ref02_Num_L0.loops) 0 (loopAt 0 (codeOf Try.f36)) = [] := by kernel_rfl
    rw [e]
    intro p hp
    cases hp) (fun st k h => by
    obtain ⟨sl, hp, m⟩ := st
    unfold ref02_Num_L0.get at h
    dsimp only at h
    split at h
    · have h' : (none : Option Bool) = some true := h
      cases h'
    · cases h) (fun n st k h => by
    obtain ⟨sl, hp, m⟩ := st
    unfold ref02_Num_L0.get at h
    dsimp only at h
    split at h
    · rename_i h1 h2
      obtain rfl := pickS_ok h2
      obtain rfl := Nat.eq_of_beq_eq_true h1
      exact (ref02_Num_L0.step (ref02_Num_L0 n) _ _ _ _ _ _ _ k).trans h
    · cases h)
theorem ref02_Num_L0.look {F : Int → Bool → Int → Int → Tc1 → Int → Bool → (Int → Bool → Int → Tc1 → Int → Bool → Option Bool) → Option Bool} {e : Option Bool} {st : St} {k : KE} (hx : ref02_Num_L0.get F e st k = some true) : e = some true ∨ ref02_Num_L0.get F none st k = some true := by
  obtain ⟨sl, hp, m⟩ := st
  unfold ref02_Num_L0.get at hx ⊢
  dsimp only at hx ⊢
  split at hx
  · exact .inr hx
  · exact .inl hx
/-- function 36: the loop in block 2 -/
noncomputable def ref02_Num_L2.body (ref02_Num_L2 : Int → Int → Int → Int → Tc1 → Int → Bool → (Int → Int → Int → Tc1 → Int → Bool → Option Bool) → Option Bool) (n872 : Int) (n873 : Int) (n874 : Int) (n875 : Int) (t876 : Tc1) (n877 : Int) (b878 : Bool) (k1 : Int → Int → Int → Tc1 → Int → Bool → Option Bool) : Option Bool :=
  (cond_ (decide (n875 < n872)) (ref02_Num_L2 n872 n873 (IntKind.wrap .u64 (n874 * (256 : Int))) (IntKind.wrap .i64 (n875 + (1 : Int))) t876 n877 b878 k1) (k1 n872 n873 n874 t876 n877 b878))
noncomputable def ref02_Num_L2 : Nat → Int → Int → Int → Int → Tc1 → Int → Bool → (Int → Int → Int → Tc1 → Int → Bool → Option Bool) → Option Bool
  | 0 => fun _ _ _ _ _ _ _ _ => none
  | n + 1 => ref02_Num_L2.body (ref02_Num_L2 n)
noncomputable def ref02_Num_L2.get (F : Int → Int → Int → Int → Tc1 → Int → Bool → (Int → Int → Int → Tc1 → Int → Bool → Option Bool) → Option Bool) (e : Option Bool) (st : St) (k : KE) : Option Bool := match st with
  | ⟨sl, hp, m⟩ => match Nat.beq m 2, pickS 83 [1, 3, 6, 8, 10, 11] sl, hp with
    | true, some [(.d ⟨(.int .i64), n872⟩), (.ptr [1, 0] 0 0), (.ptr [1, 1] 0 0), (.d ⟨(.int .u64), n873⟩), (.d ⟨(.int .u64), n874⟩), (.d ⟨(.int .i64), n875⟩)], [([1, 0], ⟨43, 3, (.data (.st [(.sl 5 (.int .u8)), (.int .i64), .bool]) [t876])⟩), ([1, 1], ⟨43, 3, (.mix [(.agg [.nils, (.d ⟨(.int .i64), n877⟩), (.d ⟨.bool, b878⟩)])])⟩)] => F n872 n873 n874 n875 t876 n877 b878 (fun y0 y1 y2 y3 y4 y5 => k (.exit 2) ⟨fillS 83 [1, 3, 6, 8, 10] [(.d ⟨(.int .i64), y0⟩), (.ptr [1, 0] 0 0), (.ptr [1, 1] 0 0), (.d ⟨(.int .u64), y1⟩), (.d ⟨(.int .u64), y2⟩)], [([1, 0], ⟨43, 3, (.data (.st [(.sl 5 (.int .u8)), (.int .i64), .bool]) [y3])⟩), ([1, 1], ⟨43, 3, (.mix [(.agg [.nils, (.d ⟨(.int .i64), y4⟩), (.d ⟨.bool, y5⟩)])])⟩)], 2⟩)
    | _, _, _ => e
noncomputable def ref02_Num_L2.calls : RecF := fun g a h k => none
noncomputable def ref02_Num_L2.loops : LoopF := fun b => none
set_option maxRecDepth 100000 in
theorem ref02_Num_L2.step (S : Int → Int → Int → Int → Tc1 → Int → Bool → (Int → Int → Int → Tc1 → Int → Bool → Option Bool) → Option Bool) (n872 : Int) (n873 : Int) (n874 : Int) (n875 : Int) (t876 : Tc1) (n877 : Int) (b878 : Bool) (k : KE) : execL Try.prog ht 36 (callfOf (ref02_Num_L2.calls)) (ref02_Num_L2.loops) 2 (loopAt 2 (codeOf Try.f36)) ⟨fillS 83 [1, 3, 6, 8, 10, 11] [(.d ⟨(.int .i64), n872⟩), (.ptr [1, 0] 0 0), (.ptr [1, 1] 0 0), (.d ⟨(.int .u64), n873⟩), (.d ⟨(.int .u64), n874⟩), (.d ⟨(.int .i64), n875⟩)], [([1, 0], ⟨43, 3, (.data (.st [(.sl 5 (.int .u8)), (.int .i64), .bool]) [t876])⟩), ([1, 1], ⟨43, 3, (.mix [(.agg [.nils, (.d ⟨(.int .i64), n877⟩), (.d ⟨.bool, b878⟩)])])⟩)], 2⟩ (again (ref02_Num_L2.get S none) (plan Try.prog (ht 36 2)) k) = ref02_Num_L2.body S n872 n873 n874 n875 t876 n877 b878 (fun y0 y1 y2 y3 y4 y5 => k (.exit 2) ⟨fillS 83 [1, 3, 6, 8, 10] [(.d ⟨(.int .i64), y0⟩), (.ptr [1, 0] 0 0), (.ptr [1, 1] 0 0), (.d ⟨(.int .u64), y1⟩), (.d ⟨(.int .u64), y2⟩)], [([1, 0], ⟨43, 3, (.data (.st [(.sl 5 (.int .u8)), (.int .i64), .bool]) [y3])⟩), ([1, 1], ⟨43, 3, (.mix [(.agg [.nils, (.d ⟨(.int .i64), y4⟩), (.d ⟨.bool, y5⟩)])])⟩)], 2⟩) := by kernel_rfl
theorem ref02_Num_L2.ok (d : Nat) (hd : 0 ≤ d) : ∀ n st k, ref02_Num_L2.get (ref02_Num_L2 n) none st k = some true → iter n (plan Try.prog (ht 36 2)) (fun st k => execK Try.prog ht 36 (callfOf (callK Try.prog ht d)) 2 (loopAt 2 (codeOf Try.f36)) st k) st k = some true :=
  loop_ok (lfn := fun n st k => ref02_Num_L2.get (ref02_Num_L2 n) none st k) (rec := ref02_Num_L2.calls) (fun g a h k hx => by
    cases hx) (loopf := ref02_Num_L2.loops) (by
    have e : loopsOf (ref02_Num_L2.loops) 2 (loopAt 2 (codeOf Try.f36)) = [] := by kernel_rfl
    rw [e]
    intro p hp
    cases hp) (fun st k h => by
    obtain ⟨sl, hp, m⟩ := st
    unfold ref02_Num_L2.get at h
    dsimp only at h
    split at h
    · have h' : (none : Option Bool) = some true := h
      cases h'
    · cases h) (fun n st k h => by
    obtain ⟨sl, hp, m⟩ := st
    unfold ref02_Num_L2.get at h
    dsimp only at h
    split at h
    · rename_i h1 h2
      obtain rfl := pickS_ok h2
      obtain rfl := Nat.eq_of_beq_eq_true h1
      exact (ref02_Num_L2.step (ref02_Num_L2 n) _ _ _ _ _ _ _ k).trans h
    · cases h)
theorem ref02_Num_L2.look {F : Int → Int → Int → Int → Tc1 → Int → Bool → (Int → Int → Int → Tc1 → Int → Bool → Option Bool) → Option Bool} {e : Option Bool} {st : St} {k : KE} (hx : ref02_Num_L2.get F e st k = some true) : e = some true ∨ ref02_Num_L2.get F none st k = some true := by
  obtain ⟨sl, hp, m⟩ := st
  unfold ref02_Num_L2.get at hx ⊢
  dsimp only at hx ⊢
  split at hx
  · exact .inr hx
  · exact .inl hx
/-- function 36: sheerleg/sheerlegref02.Num -/
noncomputable def ref02_Num.body (ref02_Num_L0 : Int → Bool → Int → Int → Tc1 → Int → Bool → (Int → Bool → Int → Tc1 → Int → Bool → Option Bool) → Option Bool) (ref02_Num_L2 : Int → Int → Int → Int → Tc1 → Int → Bool → (Int → Int → Int → Tc1 → Int → Bool → Option Bool) → Option Bool) (t856 : Tc1) (n857 : Int) (b858 : Bool) (k1 : Tc1 → Int → Option Bool) : Option Bool :=
  (cond_ (! t856.2.2.1) (cond_ (! (decide (n857 < (1 : Int)))) (cond_ (! (decide (n857 > (8 : Int)))) (cond_ (decide (n857 > (IntKind.wrap .i64 ((((List.length t856.1) : Nat) : Int) - t856.2.1)))) (k1 ((t856.1, (t856.2.1, (true, ()))).1, ((t856.1, (t856.2.1, (true, ()))).2.1, (true, ()))) (0 : Int)) (ref02_Num_L0 n857 b858 (0 : Int) (0 : Int) t856 (0 : Int) false
  (fun n866 b867 n868 t869 n870 b871 => (cond_ b867 (cond_ (decide (n866 < (8 : Int))) (cond_ ((decide ((0 : Int) ≤ t869.2.1)) && (decide (t869.2.1 < (((List.length t869.1) : Nat) : Int)))) (cond_ (decide ((List.getD t869.1 (Int.toNat t869.2.1) (0 : Int)) ≥ (128 : Int))) (ref02_Num_L2 n866 n868 (1 : Int) (0 : Int) t869 n870 b871
  (fun n879 n880 n881 t882 n883 b884 => (k1 ((t882.1, ((IntKind.wrap .i64 (t882.2.1 + n879)), (t882.2.2.1, ()))).1, ((t882.1, ((IntKind.wrap .i64 (t882.2.1 + n879)), (t882.2.2.1, ()))).2.1, ((t882.1, ((IntKind.wrap .i64 (t882.2.1 + n879)), (t882.2.2.1, ()))).2.2.1, ()))) (IntKind.wrap .i64 (IntKind.wrap .u64 (n880 - n881)))))) (k1 ((t869.1, ((IntKind.wrap .i64 (t869.2.1 + n866)), (t869.2.2.1, ()))).1, ((t869.1, ((IntKind.wrap .i64 (t869.2.1 + n866)), (t869.2.2.1, ()))).2.1, ((t869.1, ((IntKind.wrap .i64 (t869.2.1 + n866)), (t869.2.2.1, ()))).2.2.1, ()))) (IntKind.wrap .i64 n868))) none) (k1 ((t869.1, ((IntKind.wrap .i64 (t869.2.1 + n866)), (t869.2.2.1, ()))).1, ((t869.1, ((IntKind.wrap .i64 (t869.2.1 + n866)), (t869.2.2.1, ()))).2.1, ((t869.1, ((IntKind.wrap .i64 (t869.2.1 + n866)), (t869.2.2.1, ()))).2.2.1, ()))) (IntKind.wrap .i64 n868))) (k1 ((t869.1, ((IntKind.wrap .i64 (t869.2.1 + n866)), (t869.2.2.1, ()))).1, ((t869.1, ((IntKind.wrap .i64 (t869.2.1 + n866)), (t869.2.2.1, ()))).2.1, ((t869.1, ((IntKind.wrap .i64 (t869.2.1 + n866)), (t869.2.2.1, ()))).2.2.1, ()))) (IntKind.wrap .i64 n868)))))) (k1 ((t856.1, (t856.2.1, (true, ()))).1, ((t856.1, (t856.2.1, (true, ()))).2.1, (true, ()))) (0 : Int))) (k1 ((t856.1, (t856.2.1, (true, ()))).1, ((t856.1, (t856.2.1, (true, ()))).2.1, (true, ()))) (0 : Int))) (k1 ((t856.1, (t856.2.1, (true, ()))).1, ((t856.1, (t856.2.1, (true, ()))).2.1, (true, ()))) (0 : Int)))
noncomputable def ref02_Num (t856 : Tc1) (n857 : Int) (b858 : Bool) (k1 : Tc1 → Int → Option Bool) : Option Bool := ref02_Num.body (ref02_Num_L0 ROUNDS) (ref02_Num_L2 ROUNDS) t856 n857 b858 k1
noncomputable def ref02_Num.get (F : Tc1 → Int → Bool → (Tc1 → Int → Option Bool) → Option Bool) (e : Option Bool) (g : FuncId) (a : List AV) (h : Heap) (k : KR) : Option Bool := match g, a, h with
  | 36, [(.d ⟨(.st [(.sl 5 (.int .u8)), (.int .i64), .bool]), t856⟩), (.d ⟨(.int .i64), n857⟩), (.d ⟨.bool, b858⟩)], [] => F t856 n857 b858 (fun y0 y1 => k (.tup [(.d ⟨(.st [(.sl 5 (.int .u8)), (.int .i64), .bool]), y0⟩), (.d ⟨(.int .i64), y1⟩)]) [])
  | _, _, _ => e
noncomputable def ref02_Num.calls : RecF := fun g a h k => none
noncomputable def ref02_Num.loops (L0 : Int → Bool → Int → Int → Tc1 → Int → Bool → (Int → Bool → Int → Tc1 → Int → Bool → Option Bool) → Option Bool) (L1 : Int → Int → Int → Int → Tc1 → Int → Bool → (Int → Int → Int → Tc1 → Int → Bool → Option Bool) → Option Bool) : LoopF := fun b => match Nat.beq b 0 with | true => some (fun st k => (ref02_Num_L0.get L0 none st k)) | false => match Nat.beq b 2 with | true => some (fun st k => (ref02_Num_L2.get L1 none st k)) | false => none
set_option maxRecDepth 100000 in
theorem ref02_Num.eq (L0 : Int → Bool → Int → Int → Tc1 → Int → Bool → (Int → Bool → Int → Tc1 → Int → Bool → Option Bool) → Option Bool) (L1 : Int → Int → Int → Int → Tc1 → Int → Bool → (Int → Int → Int → Tc1 → Int → Bool → Option Bool) → Option Bool) (t856 : Tc1) (n857 : Int) (b858 : Bool) (k : KR) : execL Try.prog ht 36 (callfOf (ref02_Num.calls)) (ref02_Num.loops L0 L1) 0 (codeOf Try.f36) ⟨[(.d ⟨(.st [(.sl 5 (.int .u8)), (.int .i64), .bool]), t856⟩), (.d ⟨(.int .i64), n857⟩), (.d ⟨.bool, b858⟩)] ++ List.replicate (Try.f36.ntmps - ([(.d ⟨(.st [(.sl 5 (.int .u8)), (.int .i64), .bool]), t856⟩), (.d ⟨(.int .i64), n857⟩), (.d ⟨.bool, b858⟩)] : List AV).length) .undef, [], 2⟩ (leave Try.prog Try.f36 k) = ref02_Num.body L0 L1 t856 n857 b858 (fun y0 y1 => k (.tup [(.d ⟨(.st [(.sl 5 (.int .u8)), (.int .i64), .bool]), y0⟩), (.d ⟨(.int .i64), y1⟩)]) []) := by kernel_rfl
theorem ref02_Num.ok (d : Nat) (hd : 1 ≤ d) (t856 : Tc1) (n857 : Int) (b858 : Bool) (k : KR) (hx : ref02_Num t856 n857 b858 (fun y0 y1 => k (.tup [(.d ⟨(.st [(.sl 5 (.int .u8)), (.int .i64), .bool]), y0⟩), (.d ⟨(.int .i64), y1⟩)]) []) = some true) : callK Try.prog ht d 36 [(.d ⟨(.st [(.sl 5 (.int .u8)), (.int .i64), .bool]), t856⟩), (.d ⟨(.int .i64), n857⟩), (.d ⟨.bool, b858⟩)] [] k = some true := by
  obtain ⟨d, rfl⟩ : ∃ e, d = e + 1 := ⟨d - 1, by omega⟩
  exact fn_ok (c := codeOf Try.f36) Try.func36 (by kernel_rfl) (rec := ref02_Num.calls) (fun g a h k hx => by
    cases hx) (loopf := ref02_Num.loops (ref02_Num_L0 ROUNDS) (ref02_Num_L2 ROUNDS)) (by
    have e : loopsOf (ref02_Num.loops (ref02_Num_L0 ROUNDS) (ref02_Num_L2 ROUNDS)) 0 (codeOf Try.f36) = [(0, loopAt 0 (codeOf Try.f36)), (2, loopAt 2 (codeOf Try.f36))] := by kernel_rfl
    rw [e]
    intro p hp
    simp only [List.mem_cons, List.not_mem_nil, or_false] at hp
    rcases hp with rfl | rfl
    · refine loopRef_of (callf := callfOf (callK Try.prog ht d)) (callfOf_ref (callK_mono d)) fun lf st k hb hx => ?_
      cases hb
      rcases ref02_Num_L0.look hx with hx | hx
      rotate_left
      · exact ref02_Num_L0.ok d (by omega) _ _ _ hx
      cases hx
    · refine loopRef_of (callf := callfOf (callK Try.prog ht d)) (callfOf_ref (callK_mono d)) fun lf st k hb hx => ?_
      cases hb
      rcases ref02_Num_L2.look hx with hx | hx
      rotate_left
      · exact ref02_Num_L2.ok d (by omega) _ _ _ hx
      cases hx) ((ref02_Num.eq (ref02_Num_L0 ROUNDS) (ref02_Num_L2 ROUNDS) t856 n857 b858 k).trans hx)
theorem ref02_Num.look (d : Nat) (hd : 1 ≤ d) {e : Option Bool} {g : FuncId} {a : List AV} {h : Heap} {k : KR} (hx : ref02_Num.get ref02_Num e g a h k = some true) : e = some true ∨ callK Try.prog ht d g a h k = some true := by
  unfold ref02_Num.get at hx
  split at hx
  · exact .inr (ref02_Num.ok d hd _ _ _ _ hx)
  · exact .inl hx
/-- function 35: the loop in block 0 -/
noncomputable def ref13_Nums_L0.body (ref13_Nums_L0 : (List Int) → Int → Tc1 → Int → Bool → (List Int) → (Tc1 → Int → Bool → (List Int) → Option Bool) → Option Bool) (ref02_Num : Tc1 → Int → Bool → (Tc1 → Int → Option Bool) → Option Bool) (ns906 : List Int) (n907 : Int) (t908 : Tc1) (n909 : Int) (b910 : Bool) (ns911 : List Int) (k1 : Tc1 → Int → Bool → (List Int) → Option Bool) : Option Bool :=
  (cond_ (decide (n907 < (((List.length ns906) : Nat) : Int))) (cond_ ((decide ((0 : Int) ≤ n907)) && (decide (n907 < (((List.length ns906) : Nat) : Int)))) (ref02_Num t908 (List.getD ns906 (Int.toNat n907) (0 : Int)) false
  (fun t912 n913 => (cond_ (Nat.ble (((List.length ns911) + (List.length (n913 :: []))) * (8 : Nat)) (140737488355328 : Nat)) (ref13_Nums_L0 ns906 (IntKind.wrap .i64 (n907 + (1 : Int))) (t912.1, (t912.2.1, (t912.2.2.1, ()))) n909 b910 (ns911 ++ (n913 :: [])) k1) none))) none) (k1 t908 n909 b910 ns911))
noncomputable def ref13_Nums_L0 : Nat → (List Int) → Int → Tc1 → Int → Bool → (List Int) → (Tc1 → Int → Bool → (List Int) → Option Bool) → Option Bool
  | 0 => fun _ _ _ _ _ _ _ => none
  | n + 1 => ref13_Nums_L0.body (ref13_Nums_L0 n) ref02_Num
noncomputable def ref13_Nums_L0.get (F : (List Int) → Int → Tc1 → Int → Bool → (List Int) → (Tc1 → Int → Bool → (List Int) → Option Bool) → Option Bool) (e : Option Bool) (st : St) (k : KE) : Option Bool := match st with
  | ⟨sl, hp, m⟩ => match Nat.beq m 2, pickS 32 [1, 2, 4, 6, 7] sl, hp with
    | true, some [(.bv 1 3 (.int .i64) ns906), (.ptr [1, 0] 0 0), (.ptr [1, 1] 0 0), (.ref [1, 2]), (.d ⟨(.int .i64), n907⟩)], [([1, 0], ⟨43, 3, (.data (.st [(.sl 5 (.int .u8)), (.int .i64), .bool]) [t908])⟩), ([1, 1], ⟨43, 3, (.mix [(.agg [.nils, (.d ⟨(.int .i64), n909⟩), (.d ⟨.bool, b910⟩)])])⟩), ([1, 2], ⟨2, 1, (.data (.int .i64) ns911)⟩)] => F ns906 n907 t908 n909 b910 ns911 (fun y0 y1 y2 y3 => k (.exit 0) ⟨fillS 32 [2, 4, 6] [(.ptr [1, 0] 0 0), (.ptr [1, 1] 0 0), (.ref [1, 2])], [([1, 0], ⟨43, 3, (.data (.st [(.sl 5 (.int .u8)), (.int .i64), .bool]) [y0])⟩), ([1, 1], ⟨43, 3, (.mix [(.agg [.nils, (.d ⟨(.int .i64), y1⟩), (.d ⟨.bool, y2⟩)])])⟩), ([1, 2], ⟨2, 1, (.data (.int .i64) y3)⟩)], 2⟩)
    | _, _, _ => e
noncomputable def ref13_Nums_L0.calls (F0 : Tc1 → Int → Bool → (Tc1 → Int → Option Bool) → Option Bool) : RecF := fun g a h k => (ref02_Num.get F0 none g a h k)
noncomputable def ref13_Nums_L0.loops : LoopF := fun b => none
set_option maxRecDepth 100000 in
theorem ref13_Nums_L0.step (S : (List Int) → Int → Tc1 → Int → Bool → (List Int) → (Tc1 → Int → Bool → (List Int) → Option Bool) → Option Bool) (F0 : Tc1 → Int → Bool → (Tc1 → Int → Option Bool) → Option Bool) (ns906 : List Int) (n907 : Int) (t908 : Tc1) (n909 : Int) (b910 : Bool) (ns911 : List Int) (k : KE) : execL Try.prog ht 35 (callfOf (ref13_Nums_L0.calls F0)) (ref13_Nums_L0.loops) 0 (loopAt 0 (codeOf Try.f35)) ⟨fillS 32 [1, 2, 4, 6, 7] [(.bv 1 3 (.int .i64) ns906), (.ptr [1, 0] 0 0), (.ptr [1, 1] 0 0), (.ref [1, 2]), (.d ⟨(.int .i64), n907⟩)], [([1, 0], ⟨43, 3, (.data (.st [(.sl 5 (.int .u8)), (.int .i64), .bool]) [t908])⟩), ([1, 1], ⟨43, 3, (.mix [(.agg [.nils, (.d ⟨(.int .i64), n909⟩), (.d ⟨.bool, b910⟩)])])⟩), ([1, 2], ⟨2, 1, (.data (.int .i64) ns911)⟩)], 2⟩ (again (ref13_Nums_L0.get S none) (plan Try.prog (ht 35 0)) k) = ref13_Nums_L0.body S F0 ns906 n907 t908 n909 b910 ns911 (fun y0 y1 y2 y3 => k (.exit 0) ⟨fillS 32 [2, 4, 6] [(.ptr [1, 0] 0 0), (.ptr [1, 1] 0 0), (.ref [1, 2])], [([1, 0], ⟨43, 3, (.data (.st [(.sl 5 (.int .u8)), (.int .i64), .bool]) [y0])⟩), ([1, 1], ⟨43, 3, (.mix [(.agg [.nils, (.d ⟨(.int .i64), y1⟩), (.d ⟨.bool, y2⟩)])])⟩), ([1, 2], ⟨2, 1, (.data (.int .i64) y3)⟩)], 2⟩) := by kernel_rfl
theorem ref13_Nums_L0.ok (d : Nat) (hd : 1 ≤ d) : ∀ n st k, ref13_Nums_L0.get (ref13_Nums_L0 n) none st k = some true → iter n (plan Try.prog (ht 35 0)) (fun st k => execK Try.prog ht 35 (callfOf (callK Try.prog ht d)) 0 (loopAt 0 (codeOf Try.f35)) st k) st k = some true :=
  loop_ok (lfn := fun n st k => ref13_Nums_L0.get (ref13_Nums_L0 n) none st k) (rec := ref13_Nums_L0.calls ref02_Num) (fun g a h k hx => by
    rcases ref02_Num.look d (by omega) hx with hx | hx
    rotate_left
    · exact hx
    cases hx) (loopf := ref13_Nums_L0.loops) (by
    have e : loopsOf (ref13_Nums_L0.loops) 0 (loopAt 0 (codeOf Try.f35)) = [] := by kernel_rfl
    rw [e]
    intro p hp
    cases hp) (fun st k h => by
    obtain ⟨sl, hp, m⟩ := st
    unfold ref13_Nums_L0.get at h
    dsimp only at h
    split at h
    · have h' : (none : Option Bool) = some true := h
      cases h'
    · cases h) (fun n st k h => by
    obtain ⟨sl, hp, m⟩ := st
    unfold ref13_Nums_L0.get at h
    dsimp only at h
    split at h
    · rename_i h1 h2
      obtain rfl := pickS_ok h2
      obtain rfl := Nat.eq_of_beq_eq_true h1
      exact (ref13_Nums_L0.step (ref13_Nums_L0 n) ref02_Num _ _ _ _ _ _ k).trans h
    · cases h)
theorem ref13_Nums_L0.look {F : (List Int) → Int → Tc1 → Int → Bool → (List Int) → (Tc1 → Int → Bool → (List Int) → Option Bool) → Option Bool} {e : Option Bool} {st : St} {k : KE} (hx : ref13_Nums_L0.get F e st k = some true) : e = some true ∨ ref13_Nums_L0.get F none st k = some true := by
  obtain ⟨sl, hp, m⟩ := st
  unfold ref13_Nums_L0.get at hx ⊢
  dsimp only at hx ⊢
  split at hx
  · exact .inr hx
  · exact .inl hx
/-- function 35: sheerleg/sheerlegref13.Nums -/
noncomputable def ref13_Nums.body (ref13_Nums_L0 : (List Int) → Int → Tc1 → Int → Bool → (List Int) → (Tc1 → Int → Bool → (List Int) → Option Bool) → Option Bool) (t904 : Tc1) (ns905 : List Int) (k1 : Tc1 → (List Int) → Option Bool) : Option Bool :=
  (ref13_Nums_L0 ns905 (0 : Int) t904 (0 : Int) false []
  (fun t914 n915 b916 ns917 => (k1 (t914.1, (t914.2.1, (t914.2.2.1, ()))) ns917)))
noncomputable def ref13_Nums (t904 : Tc1) (ns905 : List Int) (k1 : Tc1 → (List Int) → Option Bool) : Option Bool := ref13_Nums.body (ref13_Nums_L0 ROUNDS) t904 ns905 k1
noncomputable def ref13_Nums.get (F : Tc1 → (List Int) → (Tc1 → (List Int) → Option Bool) → Option Bool) (e : Option Bool) (g : FuncId) (a : List AV) (h : Heap) (k : KR) : Option Bool := match g, a, h with
  | 35, [(.d ⟨(.st [(.sl 5 (.int .u8)), (.int .i64), .bool]), t904⟩), (.bv 1 3 (.int .i64) ns905)], [] => F t904 ns905 (fun y0 y1 => k (.tup [(.d ⟨(.st [(.sl 5 (.int .u8)), (.int .i64), .bool]), y0⟩), (.ref [1, 0])]) [([1, 0], ⟨2, 1, (.data (.int .i64) y1)⟩)])
  | _, _, _ => e
noncomputable def ref13_Nums.calls : RecF := fun g a h k => none
noncomputable def ref13_Nums.loops (L0 : (List Int) → Int → Tc1 → Int → Bool → (List Int) → (Tc1 → Int → Bool → (List Int) → Option Bool) → Option Bool) : LoopF := fun b => match Nat.beq b 0 with | true => some (fun st k => (ref13_Nums_L0.get L0 none st k)) | false => none
set_option maxRecDepth 100000 in
theorem ref13_Nums.eq (L0 : (List Int) → Int → Tc1 → Int → Bool → (List Int) → (Tc1 → Int → Bool → (List Int) → Option Bool) → Option Bool) (t904 : Tc1) (ns905 : List Int) (k : KR) : execL Try.prog ht 35 (callfOf (ref13_Nums.calls)) (ref13_Nums.loops L0) 0 (codeOf Try.f35) ⟨[(.d ⟨(.st [(.sl 5 (.int .u8)), (.int .i64), .bool]), t904⟩), (.bv 1 3 (.int .i64) ns905)] ++ List.replicate (Try.f35.ntmps - ([(.d ⟨(.st [(.sl 5 (.int .u8)), (.int .i64), .bool]), t904⟩), (.bv 1 3 (.int .i64) ns905)] : List AV).length) .undef, [], 2⟩ (leave Try.prog Try.f35 k) = ref13_Nums.body L0 t904 ns905 (fun y0 y1 => k (.tup [(.d ⟨(.st [(.sl 5 (.int .u8)), (.int .i64), .bool]), y0⟩), (.ref [1, 0])]) [([1, 0], ⟨2, 1, (.data (.int .i64) y1)⟩)]) := by kernel_rfl
theorem ref13_Nums.ok (d : Nat) (hd : 2 ≤ d) (t904 : Tc1) (ns905 : List Int) (k : KR) (hx : ref13_Nums t904 ns905 (fun y0 y1 => k (.tup [(.d ⟨(.st [(.sl 5 (.int .u8)), (.int .i64), .bool]), y0⟩), (.ref [1, 0])]) [([1, 0], ⟨2, 1, (.data (.int .i64) y1)⟩)]) = some true) : callK Try.prog ht d 35 [(.d ⟨(.st [(.sl 5 (.int .u8)), (.int .i64), .bool]), t904⟩), (.bv 1 3 (.int .i64) ns905)] [] k = some true := by
  obtain ⟨d, rfl⟩ : ∃ e, d = e + 1 := ⟨d - 1, by omega⟩
  exact fn_ok (c := codeOf Try.f35) Try.func35 (by kernel_rfl) (rec := ref13_Nums.calls) (fun g a h k hx => by
    cases hx) (loopf := ref13_Nums.loops (ref13_Nums_L0 ROUNDS)) (by
    have e : loopsOf (ref13_Nums.loops (ref13_Nums_L0 ROUNDS)) 0 (codeOf Try.f35) = [(0, loopAt 0 (codeOf Try.f35))] := by kernel_rfl
    rw [e]
    intro p hp
    simp only [List.mem_cons, List.not_mem_nil, or_false] at hp
    rcases hp with rfl
    · refine loopRef_of (callf := callfOf (callK Try.prog ht d)) (callfOf_ref (callK_mono d)) fun lf st k hb hx => ?_
      cases hb
      rcases ref13_Nums_L0.look hx with hx | hx
      rotate_left
      · exact ref13_Nums_L0.ok d (by omega) _ _ _ hx
      cases hx) ((ref13_Nums.eq (ref13_Nums_L0 ROUNDS) t904 ns905 k).trans hx)
theorem ref13_Nums.look (d : Nat) (hd : 2 ≤ d) {e : Option Bool} {g : FuncId} {a : List AV} {h : Heap} {k : KR} (hx : ref13_Nums.get ref13_Nums e g a h k = some true) : e = some true ∨ callK Try.prog ht d g a h k = some true := by
  unfold ref13_Nums.get at hx
  split at hx
  · exact .inr (ref13_Nums.ok d hd _ _ _ hx)
  · exact .inl hx
/-- function 37: the loop in block 0 -/
noncomputable def ref15_GetRelocs_L0.body (ref15_GetRelocs_L0 : Int → Int → Tc1 → Int → Bool → Tc0 → (Int → (List Int) → Int → Bool → Option Bool) → (Tc1 → Int → Bool → Tc0 → Option Bool) → Option Bool) (ref13_Nums : Tc1 → (List Int) → (Tc1 → (List Int) → Option Bool) → Option Bool) (n1002 : Int) (n1003 : Int) (t1004 : Tc1) (n1005 : Int) (b1006 : Bool) (ts1007 : Tc0) (k1 : Int → (List Int) → Int → Bool → Option Bool) (k2 : Tc1 → Int → Bool → Tc0 → Option Bool) : Option Bool :=
  (cond_ (decide (n1003 < n1002)) (ref13_Nums t1004 [(1 : Int), (1 : Int), (1 : Int)]
  (fun t1008 ns1009 => (cond_ (t1008.1, (t1008.2.1, (t1008.2.2.1, ()))).2.2.1 (k1 (5 : Int) (t1008.1, (t1008.2.1, (t1008.2.2.1, ()))).1 (t1008.1, (t1008.2.1, (t1008.2.2.1, ()))).2.1 (t1008.1, (t1008.2.1, (t1008.2.2.1, ()))).2.2.1) (cond_ (true && (decide ((2 : Int) < (((List.length ns1009) : Nat) : Int)))) (cond_ (decide ((List.getD ns1009 (2 : Nat) (0 : Int)) > (1 : Int))) (k1 (3 : Int) (t1008.1, (t1008.2.1, (t1008.2.2.1, ()))).1 (t1008.1, (t1008.2.1, (t1008.2.2.1, ()))).2.1 (t1008.1, (t1008.2.1, (t1008.2.2.1, ()))).2.2.1) (cond_ (true && (decide ((0 : Int) < (((List.length ns1009) : Nat) : Int)))) (cond_ (true && (decide ((1 : Int) < (((List.length ns1009) : Nat) : Int)))) (cond_ (true && (decide ((2 : Int) < (((List.length ns1009) : Nat) : Int)))) (cond_ (Nat.ble (((List.length ts1007) + (List.length (((List.getD ns1009 (0 : Nat) (0 : Int)), ((List.getD ns1009 (1 : Nat) (0 : Int)), (((List.getD ns1009 (2 : Nat) (0 : Int)) == (1 : Int)), ()))) :: []))) * (24 : Nat)) (140737488355328 : Nat)) (ref15_GetRelocs_L0 n1002 (IntKind.wrap .i64 (n1003 + (1 : Int))) (t1008.1, (t1008.2.1, (t1008.2.2.1, ()))) n1005 b1006 (ts1007 ++ (((List.getD ns1009 (0 : Nat) (0 : Int)), ((List.getD ns1009 (1 : Nat) (0 : Int)), (((List.getD ns1009 (2 : Nat) (0 : Int)) == (1 : Int)), ()))) :: [])) k1 k2) none) none) none) none)) none)))) (k2 t1004 n1005 b1006 ts1007))
noncomputable def ref15_GetRelocs_L0 : Nat → Int → Int → Tc1 → Int → Bool → Tc0 → (Int → (List Int) → Int → Bool → Option Bool) → (Tc1 → Int → Bool → Tc0 → Option Bool) → Option Bool
  | 0 => fun _ _ _ _ _ _ _ _ => none
  | n + 1 => ref15_GetRelocs_L0.body (ref15_GetRelocs_L0 n) ref13_Nums
noncomputable def ref15_GetRelocs_L0.get (F : Int → Int → Tc1 → Int → Bool → Tc0 → (Int → (List Int) → Int → Bool → Option Bool) → (Tc1 → Int → Bool → Tc0 → Option Bool) → Option Bool) (e : Option Bool) (st : St) (k : KE) : Option Bool := match st with
  | ⟨sl, hp, m⟩ => match Nat.beq m 2, pickS 54 [1, 2, 5, 6, 7] sl, hp with
    | true, some [(.ptr [1, 0] 0 0), (.ptr [1, 1] 0 0), (.d ⟨(.int .i64), n1002⟩), (.ref [1, 2]), (.d ⟨(.int .i64), n1003⟩)], [([1, 0], ⟨43, 3, (.data (.st [(.sl 5 (.int .u8)), (.int .i64), .bool]) [t1004])⟩), ([1, 1], ⟨43, 3, (.mix [(.agg [.nils, (.d ⟨(.int .i64), n1005⟩), (.d ⟨.bool, b1006⟩)])])⟩), ([1, 2], ⟨51, 3, (.data (.st [(.int .i64), (.int .i64), .bool]) ts1007)⟩)] => F n1002 n1003 t1004 n1005 b1006 ts1007 (fun y0 y1 y2 y3 => k .ret ⟨fillS 54 [2, 3, 4] [(.ptr [1, 0] 0 0), .nils, (.d ⟨(.int .i64), y0⟩)], [([1, 0], ⟨43, 3, (.mix [(.agg [(.d ⟨(.sl 5 (.int .u8)), y1⟩), (.d ⟨(.int .i64), y2⟩), (.d ⟨.bool, y3⟩)])])⟩)], 2⟩) (fun y0 y1 y2 y3 => k (.exit 0) ⟨fillS 54 [1, 2, 6] [(.ptr [1, 0] 0 0), (.ptr [1, 1] 0 0), (.ref [1, 2])], [([1, 0], ⟨43, 3, (.data (.st [(.sl 5 (.int .u8)), (.int .i64), .bool]) [y0])⟩), ([1, 1], ⟨43, 3, (.mix [(.agg [.nils, (.d ⟨(.int .i64), y1⟩), (.d ⟨.bool, y2⟩)])])⟩), ([1, 2], ⟨51, 3, (.data (.st [(.int .i64), (.int .i64), .bool]) y3)⟩)], 2⟩)
    | _, _, _ => e
noncomputable def ref15_GetRelocs_L0.calls (F0 : Tc1 → (List Int) → (Tc1 → (List Int) → Option Bool) → Option Bool) : RecF := fun g a h k => (ref13_Nums.get F0 none g a h k)
noncomputable def ref15_GetRelocs_L0.loops : LoopF := fun b => none
set_option maxRecDepth 100000 in
theorem ref15_GetRelocs_L0.step (S : Int → Int → Tc1 → Int → Bool → Tc0 → (Int → (List Int) → Int → Bool → Option Bool) → (Tc1 → Int → Bool → Tc0 → Option Bool) → Option Bool) (F0 : Tc1 → (List Int) → (Tc1 → (List Int) → Option Bool) → Option Bool) (n1002 : Int) (n1003 : Int) (t1004 : Tc1) (n1005 : Int) (b1006 : Bool) (ts1007 : Tc0) (k : KE) : execL Try.prog ht 37 (callfOf (ref15_GetRelocs_L0.calls F0)) (ref15_GetRelocs_L0.loops) 0 (loopAt 0 (codeOf Try.f37)) ⟨fillS 54 [1, 2, 5, 6, 7] [(.ptr [1, 0] 0 0), (.ptr [1, 1] 0 0), (.d ⟨(.int .i64), n1002⟩), (.ref [1, 2]), (.d ⟨(.int .i64), n1003⟩)], [([1, 0], ⟨43, 3, (.data (.st [(.sl 5 (.int .u8)), (.int .i64), .bool]) [t1004])⟩), ([1, 1], ⟨43, 3, (.mix [(.agg [.nils, (.d ⟨(.int .i64), n1005⟩), (.d ⟨.bool, b1006⟩)])])⟩), ([1, 2], ⟨51, 3, (.data (.st [(.int .i64), (.int .i64), .bool]) ts1007)⟩)], 2⟩ (again (ref15_GetRelocs_L0.get S none) (plan Try.prog (ht 37 0)) k) = ref15_GetRelocs_L0.body S F0 n1002 n1003 t1004 n1005 b1006 ts1007 (fun y0 y1 y2 y3 => k .ret ⟨fillS 54 [2, 3, 4] [(.ptr [1, 0] 0 0), .nils, (.d ⟨(.int .i64), y0⟩)], [([1, 0], ⟨43, 3, (.mix [(.agg [(.d ⟨(.sl 5 (.int .u8)), y1⟩), (.d ⟨(.int .i64), y2⟩), (.d ⟨.bool, y3⟩)])])⟩)], 2⟩) (fun y0 y1 y2 y3 => k (.exit 0) ⟨fillS 54 [1, 2, 6] [(.ptr [1, 0] 0 0), (.ptr [1, 1] 0 0), (.ref [1, 2])], [([1, 0], ⟨43, 3, (.data (.st [(.sl 5 (.int .u8)), (.int .i64), .bool]) [y0])⟩), ([1, 1], ⟨43, 3, (.mix [(.agg [.nils, (.d ⟨(.int .i64), y1⟩), (.d ⟨.bool, y2⟩)])])⟩), ([1, 2], ⟨51, 3, (.data (.st [(.int .i64), (.int .i64), .bool]) y3)⟩)], 2⟩) := by kernel_rfl
theorem ref15_GetRelocs_L0.ok (d : Nat) (hd : 2 ≤ d) : ∀ n st k, ref15_GetRelocs_L0.get (ref15_GetRelocs_L0 n) none st k = some true → iter n (plan Try.prog (ht 37 0)) (fun st k => execK Try.prog ht 37 (callfOf (callK Try.prog ht d)) 0 (loopAt 0 (codeOf Try.f37)) st k) st k = some true :=
  loop_ok (lfn := fun n st k => ref15_GetRelocs_L0.get (ref15_GetRelocs_L0 n) none st k) (rec := ref15_GetRelocs_L0.calls ref13_Nums) (fun g a h k hx => by
    rcases ref13_Nums.look d (by omega) hx with hx | hx
    rotate_left
    · exact hx
    cases hx) (loopf := ref15_GetRelocs_L0.loops) (by
    have e : loopsOf (ref15_GetRelocs_L0.loops) 0 (loopAt 0 (codeOf Try.f37)) = [] := by kernel_rfl
    rw [e]
    intro p hp
    cases hp) (fun st k h => by
    obtain ⟨sl, hp, m⟩ := st
    unfold ref15_GetRelocs_L0.get at h
    dsimp only at h
    split at h
    · have h' : (none : Option Bool) = some true := h
      cases h'
    · cases h) (fun n st k h => by
    obtain ⟨sl, hp, m⟩ := st
    unfold ref15_GetRelocs_L0.get at h
    dsimp only at h
    split at h
    · rename_i h1 h2
      obtain rfl := pickS_ok h2
      obtain rfl := Nat.eq_of_beq_eq_true h1
      exact (ref15_GetRelocs_L0.step (ref15_GetRelocs_L0 n) ref13_Nums _ _ _ _ _ _ k).trans h
    · cases h)
theorem ref15_GetRelocs_L0.look {F : Int → Int → Tc1 → Int → Bool → Tc0 → (Int → (List Int) → Int → Bool → Option Bool) → (Tc1 → Int → Bool → Tc0 → Option Bool) → Option Bool} {e : Option Bool} {st : St} {k : KE} (hx : ref15_GetRelocs_L0.get F e st k = some true) : e = some true ∨ ref15_GetRelocs_L0.get F none st k = some true := by
  obtain ⟨sl, hp, m⟩ := st
  unfold ref15_GetRelocs_L0.get at hx ⊢
  dsimp only at hx ⊢
  split at hx
  · exact .inr hx
  · exact .inl hx
/-- function 37: sheerleg/sheerlegref15.GetRelocs -/
noncomputable def ref15_GetRelocs.body (ref02_Num : Tc1 → Int → Bool → (Tc1 → Int → Option Bool) → Option Bool) (ref15_GetRelocs_L0 : Int → Int → Tc1 → Int → Bool → Tc0 → (Int → (List Int) → Int → Bool → Option Bool) → (Tc1 → Int → Bool → Tc0 → Option Bool) → Option Bool) (t999 : Tc1) (k1 : Tc1 → Int → Tc0 → Option Bool) : Option Bool :=
  (ref02_Num t999 (1 : Int) false
  (fun t1000 n1001 => (ref15_GetRelocs_L0 n1001 (0 : Int) t1000 (0 : Int) false []
  (fun n1010 l1011 n1012 b1013 => (k1 (l1011, (n1012, (b1013, ()))) n1010 []))
  (fun t1014 n1015 b1016 ts1017 => (cond_ t1014.2.2.1 (k1 (t1014.1, (t1014.2.1, (t1014.2.2.1, ()))) (5 : Int) []) (k1 (t1014.1, (t1014.2.1, (t1014.2.2.1, ()))) (0 : Int) ts1017))))))
noncomputable def ref15_GetRelocs (t999 : Tc1) (k1 : Tc1 → Int → Tc0 → Option Bool) : Option Bool := ref15_GetRelocs.body ref02_Num (ref15_GetRelocs_L0 ROUNDS) t999 k1
noncomputable def ref15_GetRelocs.get (F : Tc1 → (Tc1 → Int → Tc0 → Option Bool) → Option Bool) (e : Option Bool) (g : FuncId) (a : List AV) (h : Heap) (k : KR) : Option Bool := match g, a, h with
  | 37, [(.d ⟨(.st [(.sl 5 (.int .u8)), (.int .i64), .bool]), t999⟩)], [] => F t999 (fun y0 y1 y2 => k (.tup [(.d ⟨(.st [(.sl 5 (.int .u8)), (.int .i64), .bool]), y0⟩), (.ref [1, 0]), (.d ⟨(.int .i64), y1⟩)]) [([1, 0], ⟨51, 3, (.data (.st [(.int .i64), (.int .i64), .bool]) y2)⟩)])
  | _, _, _ => e
noncomputable def ref15_GetRelocs.calls (F0 : Tc1 → Int → Bool → (Tc1 → Int → Option Bool) → Option Bool) : RecF := fun g a h k => (ref02_Num.get F0 none g a h k)
noncomputable def ref15_GetRelocs.loops (L0 : Int → Int → Tc1 → Int → Bool → Tc0 → (Int → (List Int) → Int → Bool → Option Bool) → (Tc1 → Int → Bool → Tc0 → Option Bool) → Option Bool) : LoopF := fun b => match Nat.beq b 0 with | true => some (fun st k => (ref15_GetRelocs_L0.get L0 none st k)) | false => none
set_option maxRecDepth 100000 in
theorem ref15_GetRelocs.eq (F0 : Tc1 → Int → Bool → (Tc1 → Int → Option Bool) → Option Bool) (L0 : Int → Int → Tc1 → Int → Bool → Tc0 → (Int → (List Int) → Int → Bool → Option Bool) → (Tc1 → Int → Bool → Tc0 → Option Bool) → Option Bool) (t999 : Tc1) (k : KR) : execL Try.prog ht 37 (callfOf (ref15_GetRelocs.calls F0)) (ref15_GetRelocs.loops L0) 0 (codeOf Try.f37) ⟨[(.d ⟨(.st [(.sl 5 (.int .u8)), (.int .i64), .bool]), t999⟩)] ++ List.replicate (Try.f37.ntmps - ([(.d ⟨(.st [(.sl 5 (.int .u8)), (.int .i64), .bool]), t999⟩)] : List AV).length) .undef, [], 2⟩ (leave Try.prog Try.f37 k) = ref15_GetRelocs.body F0 L0 t999 (fun y0 y1 y2 => k (.tup [(.d ⟨(.st [(.sl 5 (.int .u8)), (.int .i64), .bool]), y0⟩), (.ref [1, 0]), (.d ⟨(.int .i64), y1⟩)]) [([1, 0], ⟨51, 3, (.data (.st [(.int .i64), (.int .i64), .bool]) y2)⟩)]) := by kernel_rfl
theorem ref15_GetRelocs.ok (d : Nat) (hd : 3 ≤ d) (t999 : Tc1) (k : KR) (hx : ref15_GetRelocs t999 (fun y0 y1 y2 => k (.tup [(.d ⟨(.st [(.sl 5 (.int .u8)), (.int .i64), .bool]), y0⟩), (.ref [1, 0]), (.d ⟨(.int .i64), y1⟩)]) [([1, 0], ⟨51, 3, (.data (.st [(.int .i64), (.int .i64), .bool]) y2)⟩)]) = some true) : callK Try.prog ht d 37 [(.d ⟨(.st [(.sl 5 (.int .u8)), (.int .i64), .bool]), t999⟩)] [] k = some true := by
  obtain ⟨d, rfl⟩ : ∃ e, d = e + 1 := ⟨d - 1, by omega⟩
  exact fn_ok (c := codeOf Try.f37) Try.func37 (by kernel_rfl) (rec := ref15_GetRelocs.calls ref02_Num) (fun g a h k hx => by
    rcases ref02_Num.look d (by omega) hx with hx | hx
    rotate_left
    · exact hx
    cases hx) (loopf := ref15_GetRelocs.loops (ref15_GetRelocs_L0 ROUNDS)) (by
    have e : loopsOf (ref15_GetRelocs.loops (ref15_GetRelocs_L0 ROUNDS)) 0 (codeOf Try.f37) = [(0, loopAt 0 (codeOf Try.f37))] := by kernel_rfl
    rw [e]
    intro p hp
    simp only [List.mem_cons, List.not_mem_nil, or_false] at hp
    rcases hp with rfl
    · refine loopRef_of (callf := callfOf (callK Try.prog ht d)) (callfOf_ref (callK_mono d)) fun lf st k hb hx => ?_
      cases hb
      rcases ref15_GetRelocs_L0.look hx with hx | hx
      rotate_left
      · exact ref15_GetRelocs_L0.ok d (by omega) _ _ _ hx
      cases hx) ((ref15_GetRelocs.eq ref02_Num (ref15_GetRelocs_L0 ROUNDS) t999 k).trans hx)
theorem ref15_GetRelocs.look (d : Nat) (hd : 3 ≤ d) {e : Option Bool} {g : FuncId} {a : List AV} {h : Heap} {k : KR} (hx : ref15_GetRelocs.get ref15_GetRelocs e g a h k = some true) : e = some true ∨ callK Try.prog ht d g a h k = some true := by
  unfold ref15_GetRelocs.get at hx
  split at hx
  · exact .inr (ref15_GetRelocs.ok d hd _ _ hx)
  · exact .inl hx
/-- function 19: the loop in block 0 -/
noncomputable def ref15_Get_L0.body (ref15_Get_L0 : Int → Tc1 → Int → Bool → Int → (List Int) → Int → (List Int) → (Tc1 → Int → Bool → Int → Int → (List Int) → Option Bool) → Option Bool) (ref02_Num : Tc1 → Int → Bool → (Tc1 → Int → Option Bool) → Option Bool) (n1040 : Int) (t1041 : Tc1) (n1042 : Int) (b1043 : Bool) (n1044 : Int) (ns1045 : List Int) (n1046 : Int) (ns1047 : List Int) (k1 : Tc1 → Int → Bool → Int → Int → (List Int) → Option Bool) : Option Bool :=
  (cond_ (true && (decide ((1 : Int) < (((List.length ns1045) : Nat) : Int)))) (cond_ (decide (n1040 < (List.getD ns1045 (1 : Nat) (0 : Int)))) (ref02_Num t1041 (8 : Int) false
  (fun t1048 n1049 => (cond_ (Nat.ble (((List.length ns1047) + (List.length (n1049 :: []))) * (8 : Nat)) (140737488355328 : Nat)) (ref15_Get_L0 (IntKind.wrap .i64 (n1040 + (1 : Int))) (t1048.1, (t1048.2.1, (t1048.2.2.1, ()))) n1042 b1043 n1044 ns1045 n1046 (ns1047 ++ (n1049 :: [])) k1) none))) (k1 t1041 n1042 b1043 n1044 n1046 ns1047)) none)
noncomputable def ref15_Get_L0 : Nat → Int → Tc1 → Int → Bool → Int → (List Int) → Int → (List Int) → (Tc1 → Int → Bool → Int → Int → (List Int) → Option Bool) → Option Bool
  | 0 => fun _ _ _ _ _ _ _ _ _ => none
  | n + 1 => ref15_Get_L0.body (ref15_Get_L0 n) ref02_Num
noncomputable def ref15_Get_L0.get (F : Int → Tc1 → Int → Bool → Int → (List Int) → Int → (List Int) → (Tc1 → Int → Bool → Int → Int → (List Int) → Option Bool) → Option Bool) (e : Option Bool) (st : St) (k : KE) : Option Bool := match st with
  | ⟨sl, hp, m⟩ => match Nat.beq m 2, pickS 56 [1, 2, 3, 5, 6, 7] sl, hp with
    | true, some [(.ptr [1, 0] 0 0), (.ptr [1, 1] 0 0), (.ptr [1, 2] 0 0), (.ref [1, 3]), (.ptr [1, 4] 0 0), (.d ⟨(.int .i64), n1040⟩)], [([1, 0], ⟨43, 3, (.data (.st [(.sl 5 (.int .u8)), (.int .i64), .bool]) [t1041])⟩), ([1, 1], ⟨43, 3, (.mix [(.agg [.nils, (.d ⟨(.int .i64), n1042⟩), (.d ⟨.bool, b1043⟩)])])⟩), ([1, 2], ⟨25, 3, (.mix [(.agg [(.d ⟨(.int .i64), n1044⟩), .nils, .nils])])⟩), ([1, 3], ⟨2, 1, (.data (.int .i64) ns1045)⟩), ([1, 4], ⟨25, 3, (.mix [(.agg [(.d ⟨(.int .i64), n1046⟩), (.ref [1, 5]), .nils])])⟩), ([1, 5], ⟨2, 1, (.data (.int .i64) ns1047)⟩)] => F n1040 t1041 n1042 b1043 n1044 ns1045 n1046 ns1047 (fun y0 y1 y2 y3 y4 y5 => k (.exit 0) ⟨fillS 56 [1, 2, 3, 6] [(.ptr [1, 0] 0 0), (.ptr [1, 1] 0 0), (.ptr [1, 2] 0 0), (.ptr [1, 3] 0 0)], [([1, 0], ⟨43, 3, (.data (.st [(.sl 5 (.int .u8)), (.int .i64), .bool]) [y0])⟩), ([1, 1], ⟨43, 3, (.mix [(.agg [.nils, (.d ⟨(.int .i64), y1⟩), (.d ⟨.bool, y2⟩)])])⟩), ([1, 2], ⟨25, 3, (.mix [(.agg [(.d ⟨(.int .i64), y3⟩), .nils, .nils])])⟩), ([1, 3], ⟨25, 3, (.mix [(.agg [(.d ⟨(.int .i64), y4⟩), (.ref [1, 4]), .nils])])⟩), ([1, 4], ⟨2, 1, (.data (.int .i64) y5)⟩)], 2⟩)
    | _, _, _ => e
noncomputable def ref15_Get_L0.calls (F0 : Tc1 → Int → Bool → (Tc1 → Int → Option Bool) → Option Bool) : RecF := fun g a h k => (ref02_Num.get F0 none g a h k)
noncomputable def ref15_Get_L0.loops : LoopF := fun b => none
set_option maxRecDepth 100000 in
theorem ref15_Get_L0.step (S : Int → Tc1 → Int → Bool → Int → (List Int) → Int → (List Int) → (Tc1 → Int → Bool → Int → Int → (List Int) → Option Bool) → Option Bool) (F0 : Tc1 → Int → Bool → (Tc1 → Int → Option Bool) → Option Bool) (n1040 : Int) (t1041 : Tc1) (n1042 : Int) (b1043 : Bool) (n1044 : Int) (ns1045 : List Int) (n1046 : Int) (ns1047 : List Int) (k : KE) : execL Try.prog ht 19 (callfOf (ref15_Get_L0.calls F0)) (ref15_Get_L0.loops) 0 (loopAt 0 (codeOf Try.f19)) ⟨fillS 56 [1, 2, 3, 5, 6, 7] [(.ptr [1, 0] 0 0), (.ptr [1, 1] 0 0), (.ptr [1, 2] 0 0), (.ref [1, 3]), (.ptr [1, 4] 0 0), (.d ⟨(.int .i64), n1040⟩)], [([1, 0], ⟨43, 3, (.data (.st [(.sl 5 (.int .u8)), (.int .i64), .bool]) [t1041])⟩), ([1, 1], ⟨43, 3, (.mix [(.agg [.nils, (.d ⟨(.int .i64), n1042⟩), (.d ⟨.bool, b1043⟩)])])⟩), ([1, 2], ⟨25, 3, (.mix [(.agg [(.d ⟨(.int .i64), n1044⟩), .nils, .nils])])⟩), ([1, 3], ⟨2, 1, (.data (.int .i64) ns1045)⟩), ([1, 4], ⟨25, 3, (.mix [(.agg [(.d ⟨(.int .i64), n1046⟩), (.ref [1, 5]), .nils])])⟩), ([1, 5], ⟨2, 1, (.data (.int .i64) ns1047)⟩)], 2⟩ (again (ref15_Get_L0.get S none) (plan Try.prog (ht 19 0)) k) = ref15_Get_L0.body S F0 n1040 t1041 n1042 b1043 n1044 ns1045 n1046 ns1047 (fun y0 y1 y2 y3 y4 y5 => k (.exit 0) ⟨fillS 56 [1, 2, 3, 6] [(.ptr [1, 0] 0 0), (.ptr [1, 1] 0 0), (.ptr [1, 2] 0 0), (.ptr [1, 3] 0 0)], [([1, 0], ⟨43, 3, (.data (.st [(.sl 5 (.int .u8)), (.int .i64), .bool]) [y0])⟩), ([1, 1], ⟨43, 3, (.mix [(.agg [.nils, (.d ⟨(.int .i64), y1⟩), (.d ⟨.bool, y2⟩)])])⟩), ([1, 2], ⟨25, 3, (.mix [(.agg [(.d ⟨(.int .i64), y3⟩), .nils, .nils])])⟩), ([1, 3], ⟨25, 3, (.mix [(.agg [(.d ⟨(.int .i64), y4⟩), (.ref [1, 4]), .nils])])⟩), ([1, 4], ⟨2, 1, (.data (.int .i64) y5)⟩)], 2⟩) := by kernel_rfl
theorem ref15_Get_L0.ok (d : Nat) (hd : 1 ≤ d) : ∀ n st k, ref15_Get_L0.get (ref15_Get_L0 n) none st k = some true → iter n (plan Try.prog (ht 19 0)) (fun st k => execK Try.prog ht 19 (callfOf (callK Try.prog ht d)) 0 (loopAt 0 (codeOf Try.f19)) st k) st k = some true :=
  loop_ok (lfn := fun n st k => ref15_Get_L0.get (ref15_Get_L0 n) none st k) (rec := ref15_Get_L0.calls ref02_Num) (fun g a h k hx => by
    rcases ref02_Num.look d (by omega) hx with hx | hx
    rotate_left
    · exact hx
    cases hx) (loopf := ref15_Get_L0.loops) (by
    have e : loopsOf (ref15_Get_L0.loops) 0 (loopAt 0 (codeOf Try.f19)) = [] := by kernel_rfl
    rw [e]
    intro p hp
    cases hp) (fun st k h => by
    obtain ⟨sl, hp, m⟩ := st
    unfold ref15_Get_L0.get at h
    dsimp only at h
    split at h
    · have h' : (none : Option Bool) = some true := h
      cases h'
    · cases h) (fun n st k h => by
    obtain ⟨sl, hp, m⟩ := st
    unfold ref15_Get_L0.get at h
    dsimp only at h
    split at h
    · rename_i h1 h2
      obtain rfl := pickS_ok h2
      obtain rfl := Nat.eq_of_beq_eq_true h1
      exact (ref15_Get_L0.step (ref15_Get_L0 n) ref02_Num _ _ _ _ _ _ _ _ k).trans h
    · cases h)
theorem ref15_Get_L0.look {F : Int → Tc1 → Int → Bool → Int → (List Int) → Int → (List Int) → (Tc1 → Int → Bool → Int → Int → (List Int) → Option Bool) → Option Bool} {e : Option Bool} {st : St} {k : KE} (hx : ref15_Get_L0.get F e st k = some true) : e = some true ∨ ref15_Get_L0.get F none st k = some true := by
  obtain ⟨sl, hp, m⟩ := st
  unfold ref15_Get_L0.get at hx ⊢
  dsimp only at hx ⊢
  split at hx
  · exact .inr hx
  · exact .inl hx
/-- function 19: sheerleg/sheerlegref15.Get -/
noncomputable def ref15_Get.body (ref13_Nums : Tc1 → (List Int) → (Tc1 → (List Int) → Option Bool) → Option Bool) (ref15_GetRelocs : Tc1 → (Tc1 → Int → Tc0 → Option Bool) → Option Bool) (ref15_Get_L0 : Int → Tc1 → Int → Bool → Int → (List Int) → Int → (List Int) → (Tc1 → Int → Bool → Int → Int → (List Int) → Option Bool) → Option Bool) (t1037 : Tc1) (k1 : Tc1 → Tc4 → Int → Option Bool) : Option Bool :=
  (ref13_Nums t1037 [(1 : Int), (1 : Int)]
  (fun t1038 ns1039 => (cond_ (true && (decide ((0 : Int) < (((List.length ns1039) : Nat) : Int)))) (ref15_Get_L0 (0 : Int) t1038 (0 : Int) false (0 : Int) ns1039 (List.getD ns1039 (0 : Nat) (0 : Int)) []
  (fun t1050 n1051 b1052 n1053 n1054 ns1055 => (ref15_GetRelocs t1050
  (fun t1056 n1057 ts1058 => (cond_ (n1057 != (0 : Int)) (k1 (t1056.1, (t1056.2.1, (t1056.2.2.1, ()))) ((0 : Int), ([], ([], ()))) n1057) (k1 (t1056.1, (t1056.2.1, (t1056.2.2.1, ()))) (n1054, (ns1055, (ts1058, ()))) (0 : Int))))))) none)))
noncomputable def ref15_Get (t1037 : Tc1) (k1 : Tc1 → Tc4 → Int → Option Bool) : Option Bool := ref15_Get.body ref13_Nums ref15_GetRelocs (ref15_Get_L0 ROUNDS) t1037 k1
noncomputable def ref15_Get.get (F : Tc1 → (Tc1 → Tc4 → Int → Option Bool) → Option Bool) (e : Option Bool) (g : FuncId) (a : List AV) (h : Heap) (k : KR) : Option Bool := match g, a, h with
  | 19, [(.d ⟨(.st [(.sl 5 (.int .u8)), (.int .i64), .bool]), t1037⟩)], [] => F t1037 (fun y0 y1 y2 => k (.tup [(.d ⟨(.st [(.sl 5 (.int .u8)), (.int .i64), .bool]), y0⟩), (.d ⟨(.st [(.int .i64), (.sl 2 (.int .i64)), (.sl 51 (.st [(.int .i64), (.int .i64), .bool]))]), y1⟩), (.d ⟨(.int .i64), y2⟩)]) [])
  | _, _, _ => e
noncomputable def ref15_Get.calls (F0 : Tc1 → (List Int) → (Tc1 → (List Int) → Option Bool) → Option Bool) (F1 : Tc1 → (Tc1 → Int → Tc0 → Option Bool) → Option Bool) : RecF := fun g a h k => (ref13_Nums.get F0 (ref15_GetRelocs.get F1 none g a h k) g a h k)
noncomputable def ref15_Get.loops (L0 : Int → Tc1 → Int → Bool → Int → (List Int) → Int → (List Int) → (Tc1 → Int → Bool → Int → Int → (List Int) → Option Bool) → Option Bool) : LoopF := fun b => match Nat.beq b 0 with | true => some (fun st k => (ref15_Get_L0.get L0 none st k)) | false => none
set_option maxRecDepth 100000 in
theorem ref15_Get.eq (F0 : Tc1 → (List Int) → (Tc1 → (List Int) → Option Bool) → Option Bool) (F1 : Tc1 → (Tc1 → Int → Tc0 → Option Bool) → Option Bool) (L0 : Int → Tc1 → Int → Bool → Int → (List Int) → Int → (List Int) → (Tc1 → Int → Bool → Int → Int → (List Int) → Option Bool) → Option Bool) (t1037 : Tc1) (k : KR) : execL Try.prog ht 19 (callfOf (ref15_Get.calls F0 F1)) (ref15_Get.loops L0) 0 (codeOf Try.f19) ⟨[(.d ⟨(.st [(.sl 5 (.int .u8)), (.int .i64), .bool]), t1037⟩)] ++ List.replicate (Try.f19.ntmps - ([(.d ⟨(.st [(.sl 5 (.int .u8)), (.int .i64), .bool]), t1037⟩)] : List AV).length) .undef, [], 2⟩ (leave Try.prog Try.f19 k) = ref15_Get.body F0 F1 L0 t1037 (fun y0 y1 y2 => k (.tup [(.d ⟨(.st [(.sl 5 (.int .u8)), (.int .i64), .bool]), y0⟩), (.d ⟨(.st [(.int .i64), (.sl 2 (.int .i64)), (.sl 51 (.st [(.int .i64), (.int .i64), .bool]))]), y1⟩), (.d ⟨(.int .i64), y2⟩)]) []) := by kernel_rfl
theorem ref15_Get.ok (d : Nat) (hd : 4 ≤ d) (t1037 : Tc1) (k : KR) (hx : ref15_Get t1037 (fun y0 y1 y2 => k (.tup [(.d ⟨(.st [(.sl 5 (.int .u8)), (.int .i64), .bool]), y0⟩), (.d ⟨(.st [(.int .i64), (.sl 2 (.int .i64)), (.sl 51 (.st [(.int .i64), (.int .i64), .bool]))]), y1⟩), (.d ⟨(.int .i64), y2⟩)]) []) = some true) : callK Try.prog ht d 19 [(.d ⟨(.st [(.sl 5 (.int .u8)), (.int .i64), .bool]), t1037⟩)] [] k = some true := by
  obtain ⟨d, rfl⟩ : ∃ e, d = e + 1 := ⟨d - 1, by omega⟩
  exact fn_ok (c := codeOf Try.f19) Try.func19 (by kernel_rfl) (rec := ref15_Get.calls ref13_Nums ref15_GetRelocs) (fun g a h k hx => by
    rcases ref13_Nums.look d (by omega) hx with hx | hx
    rotate_left
    · exact hx
    rcases ref15_GetRelocs.look d (by omega) hx with hx | hx
    rotate_left
    · exact hx
    cases hx) (loopf := ref15_Get.loops (ref15_Get_L0 ROUNDS)) (by
    have e : loopsOf (ref15_Get.loops (ref15_Get_L0 ROUNDS)) 0 (codeOf Try.f19) = [(0, loopAt 0 (codeOf Try.f19))] := by kernel_rfl
    rw [e]
    intro p hp
    simp only [List.mem_cons, List.not_mem_nil, or_false] at hp
    rcases hp with rfl
    · refine loopRef_of (callf := callfOf (callK Try.prog ht d)) (callfOf_ref (callK_mono d)) fun lf st k hb hx => ?_
      cases hb
      rcases ref15_Get_L0.look hx with hx | hx
      rotate_left
      · exact ref15_Get_L0.ok d (by omega) _ _ _ hx
      cases hx) ((ref15_Get.eq ref13_Nums ref15_GetRelocs (ref15_Get_L0 ROUNDS) t1037 k).trans hx)
theorem ref15_Get.look (d : Nat) (hd : 4 ≤ d) {e : Option Bool} {g : FuncId} {a : List AV} {h : Heap} {k : KR} (hx : ref15_Get.get ref15_Get e g a h k = some true) : e = some true ∨ callK Try.prog ht d g a h k = some true := by
  unfold ref15_Get.get at hx
  split at hx
  · exact .inr (ref15_Get.ok d hd _ _ hx)
  · exact .inl hx
/-- function 38: the loop in block 0 -/
noncomputable def ref15_SameRelocs_L0.body (ref15_SameRelocs_L0 : Tc0 → Tc0 → Int → (Bool → Option Bool) → (Option Bool) → Option Bool) (ts1066 : Tc0) (ts1067 : Tc0) (n1068 : Int) (k1 : Bool → Option Bool) (k2 : Option Bool) : Option Bool :=
  (cond_ (decide (n1068 < (((List.length ts1066) : Nat) : Int))) (cond_ ((decide ((0 : Int) ≤ n1068)) && (decide (n1068 < (((List.length ts1066) : Nat) : Int)))) (cond_ ((decide ((0 : Int) ≤ n1068)) && (decide (n1068 < (((List.length ts1067) : Nat) : Int)))) (cond_ (! (((List.getD ts1066 (Int.toNat n1068) ((0 : Int), ((0 : Int), (false, ())))).1 == (List.getD ts1067 (Int.toNat n1068) ((0 : Int), ((0 : Int), (false, ())))).1) && (((List.getD ts1066 (Int.toNat n1068) ((0 : Int), ((0 : Int), (false, ())))).2.1 == (List.getD ts1067 (Int.toNat n1068) ((0 : Int), ((0 : Int), (false, ())))).2.1) && (((List.getD ts1066 (Int.toNat n1068) ((0 : Int), ((0 : Int), (false, ())))).2.2.1 == (List.getD ts1067 (Int.toNat n1068) ((0 : Int), ((0 : Int), (false, ())))).2.2.1) && true)))) (k1 false) (ref15_SameRelocs_L0 ts1066 ts1067 (IntKind.wrap .i64 (n1068 + (1 : Int))) k1 k2)) none) none) (k2))
noncomputable def ref15_SameRelocs_L0 : Nat → Tc0 → Tc0 → Int → (Bool → Option Bool) → (Option Bool) → Option Bool
  | 0 => fun _ _ _ _ _ => none
  | n + 1 => ref15_SameRelocs_L0.body (ref15_SameRelocs_L0 n)
noncomputable def ref15_SameRelocs_L0.get (F : Tc0 → Tc0 → Int → (Bool → Option Bool) → (Option Bool) → Option Bool) (e : Option Bool) (st : St) (k : KE) : Option Bool := match st with
  | ⟨sl, hp, m⟩ => match Nat.beq m 2, pickS 26 [0, 1, 5] sl, hp with
    | true, some [(.bv 0 51 (.st [(.int .i64), (.int .i64), .bool]) ts1066), (.bv 0 51 (.st [(.int .i64), (.int .i64), .bool]) ts1067), (.d ⟨(.int .i64), n1068⟩)], [] => F ts1066 ts1067 n1068 (fun y0 => k .ret ⟨fillS 26 [4] [(.d ⟨.bool, y0⟩)], [], 2⟩) (k (.exit 0) ⟨fillS 26 [] [], [], 2⟩)
    | _, _, _ => e
noncomputable def ref15_SameRelocs_L0.calls : RecF := fun g a h k => none
noncomputable def ref15_SameRelocs_L0.loops : LoopF := fun b => none
set_option maxRecDepth 100000 in
theorem ref15_SameRelocs_L0.step (S : Tc0 → Tc0 → Int → (Bool → Option Bool) → (Option Bool) → Option Bool) (ts1066 : Tc0) (ts1067 : Tc0) (n1068 : Int) (k : KE) : execL Try.prog ht 38 (callfOf (ref15_SameRelocs_L0.calls)) (ref15_SameRelocs_L0.loops) 0 (loopAt 0 (codeOf Try.f38)) ⟨fillS 26 [0, 1, 5] [(.bv 0 51 (.st [(.int .i64), (.int .i64), .bool]) ts1066), (.bv 0 51 (.st [(.int .i64), (.int .i64), .bool]) ts1067), (.d ⟨(.int .i64), n1068⟩)], [], 2⟩ (again (ref15_SameRelocs_L0.get S none) (plan Try.prog (ht 38 0)) k) = ref15_SameRelocs_L0.body S ts1066 ts1067 n1068 (fun y0 => k .ret ⟨fillS 26 [4] [(.d ⟨.bool, y0⟩)], [], 2⟩) (k (.exit 0) ⟨fillS 26 [] [], [], 2⟩) := by kernel_rfl
theorem ref15_SameRelocs_L0.ok (d : Nat) (hd : 0 ≤ d) : ∀ n st k, ref15_SameRelocs_L0.get (ref15_SameRelocs_L0 n) none st k = some true → iter n (plan Try.prog (ht 38 0)) (fun st k => execK Try.prog ht 38 (callfOf (callK Try.prog ht d)) 0 (loopAt 0 (codeOf Try.f38)) st k) st k = some true :=
  loop_ok (lfn := fun n st k => ref15_SameRelocs_L0.get (ref15_SameRelocs_L0 n) none st k) (rec := ref15_SameRelocs_L0.calls) (fun g a h k hx => by
    cases hx) (loopf := ref15_SameRelocs_L0.loops) (by
    have e : loopsOf (ref15_SameRelocs_L0.loops) 0 (loopAt 0 (codeOf Try.f38)) = [] := by kernel_rfl
    rw [e]
    intro p hp
    cases hp) (fun st k h => by
    obtain ⟨sl, hp, m⟩ := st
    unfold ref15_SameRelocs_L0.get at h
    dsimp only at h
    split at h
    · have h' : (none : Option Bool) = some true := h
      cases h'
    · cases h) (fun n st k h => by
    obtain ⟨sl, hp, m⟩ := st
    unfold ref15_SameRelocs_L0.get at h
    dsimp only at h
    split at h
    · rename_i h1 h2
      obtain rfl := pickS_ok h2
      obtain rfl := Nat.eq_of_beq_eq_true h1
      exact (ref15_SameRelocs_L0.step (ref15_SameRelocs_L0 n) _ _ _ k).trans h
    · cases h)
theorem ref15_SameRelocs_L0.look {F : Tc0 → Tc0 → Int → (Bool → Option Bool) → (Option Bool) → Option Bool} {e : Option Bool} {st : St} {k : KE} (hx : ref15_SameRelocs_L0.get F e st k = some true) : e = some true ∨ ref15_SameRelocs_L0.get F none st k = some true := by
  obtain ⟨sl, hp, m⟩ := st
  unfold ref15_SameRelocs_L0.get at hx ⊢
  dsimp only at hx ⊢
  split at hx
  · exact .inr hx
  · exact .inl hx
/-- function 38: sheerleg/sheerlegref15.SameRelocs -/
noncomputable def ref15_SameRelocs.body (ref15_SameRelocs_L0 : Tc0 → Tc0 → Int → (Bool → Option Bool) → (Option Bool) → Option Bool) (ts1064 : Tc0) (ts1065 : Tc0) (k1 : Bool → Option Bool) : Option Bool :=
  (cond_ ((((List.length ts1064) : Nat) : Int) != (((List.length ts1065) : Nat) : Int)) (k1 false) (ref15_SameRelocs_L0 ts1064 ts1065 (0 : Int)
  (fun b1069 => (k1 b1069))
  (k1 true)))
noncomputable def ref15_SameRelocs (ts1064 : Tc0) (ts1065 : Tc0) (k1 : Bool → Option Bool) : Option Bool := ref15_SameRelocs.body (ref15_SameRelocs_L0 ROUNDS) ts1064 ts1065 k1
noncomputable def ref15_SameRelocs.get (F : Tc0 → Tc0 → (Bool → Option Bool) → Option Bool) (e : Option Bool) (g : FuncId) (a : List AV) (h : Heap) (k : KR) : Option Bool := match g, a, h with
  | 38, [(.bv 0 51 (.st [(.int .i64), (.int .i64), .bool]) ts1064), (.bv 0 51 (.st [(.int .i64), (.int .i64), .bool]) ts1065)], [] => F ts1064 ts1065 (fun y0 => k (.d ⟨.bool, y0⟩) [])
  | _, _, _ => e
noncomputable def ref15_SameRelocs.calls : RecF := fun g a h k => none
noncomputable def ref15_SameRelocs.loops (L0 : Tc0 → Tc0 → Int → (Bool → Option Bool) → (Option Bool) → Option Bool) : LoopF := fun b => match Nat.beq b 0 with | true => some (fun st k => (ref15_SameRelocs_L0.get L0 none st k)) | false => none
set_option maxRecDepth 100000 in
theorem ref15_SameRelocs.eq (L0 : Tc0 → Tc0 → Int → (Bool → Option Bool) → (Option Bool) → Option Bool) (ts1064 : Tc0) (ts1065 : Tc0) (k : KR) : execL Try.prog ht 38 (callfOf (ref15_SameRelocs.calls)) (ref15_SameRelocs.loops L0) 0 (codeOf Try.f38) ⟨[(.bv 0 51 (.st [(.int .i64), (.int .i64), .bool]) ts1064), (.bv 0 51 (.st [(.int .i64), (.int .i64), .bool]) ts1065)] ++ List.replicate (Try.f38.ntmps - ([(.bv 0 51 (.st [(.int .i64), (.int .i64), .bool]) ts1064), (.bv 0 51 (.st [(.int .i64), (.int .i64), .bool]) ts1065)] : List AV).length) .undef, [], 2⟩ (leave Try.prog Try.f38 k) = ref15_SameRelocs.body L0 ts1064 ts1065 (fun y0 => k (.d ⟨.bool, y0⟩) []) := by kernel_rfl
theorem ref15_SameRelocs.ok (d : Nat) (hd : 1 ≤ d) (ts1064 : Tc0) (ts1065 : Tc0) (k : KR) (hx : ref15_SameRelocs ts1064 ts1065 (fun y0 => k (.d ⟨.bool, y0⟩) []) = some true) : callK Try.prog ht d 38 [(.bv 0 51 (.st [(.int .i64), (.int .i64), .bool]) ts1064), (.bv 0 51 (.st [(.int .i64), (.int .i64), .bool]) ts1065)] [] k = some true := by
  obtain ⟨d, rfl⟩ : ∃ e, d = e + 1 := ⟨d - 1, by omega⟩
  exact fn_ok (c := codeOf Try.f38) Try.func38 (by kernel_rfl) (rec := ref15_SameRelocs.calls) (fun g a h k hx => by
    cases hx) (loopf := ref15_SameRelocs.loops (ref15_SameRelocs_L0 ROUNDS)) (by
    have e : loopsOf (ref15_SameRelocs.loops (ref15_SameRelocs_L0 ROUNDS)) 0 (codeOf Try.f38) = [(0, loopAt 0 (codeOf Try.f38))] := by kernel_rfl
    rw [e]
    intro p hp
    simp only [List.mem_cons, List.not_mem_nil, or_false] at hp
    rcases hp with rfl
    · refine loopRef_of (callf := callfOf (callK Try.prog ht d)) (callfOf_ref (callK_mono d)) fun lf st k hb hx => ?_
      cases hb
      rcases ref15_SameRelocs_L0.look hx with hx | hx
      rotate_left
      · exact ref15_SameRelocs_L0.ok d (by omega) _ _ _ hx
      cases hx) ((ref15_SameRelocs.eq (ref15_SameRelocs_L0 ROUNDS) ts1064 ts1065 k).trans hx)
theorem ref15_SameRelocs.look (d : Nat) (hd : 1 ≤ d) {e : Option Bool} {g : FuncId} {a : List AV} {h : Heap} {k : KR} (hx : ref15_SameRelocs.get ref15_SameRelocs e g a h k = some true) : e = some true ∨ callK Try.prog ht d g a h k = some true := by
  unfold ref15_SameRelocs.get at hx
  split at hx
  · exact .inr (ref15_SameRelocs.ok d hd _ _ _ hx)
  · exact .inl hx
/-- function 20: the loop in block 0 -/
noncomputable def ref15_Same_L0.body (ref15_Same_L0 : Int → Tc4 → Tc4 → (Bool → Option Bool) → (Option Bool) → Option Bool) (n1071 : Int) (t1072 : Tc4) (t1073 : Tc4) (k1 : Bool → Option Bool) (k2 : Option Bool) : Option Bool :=
  (cond_ (decide (n1071 < (((List.length t1072.2.1) : Nat) : Int))) (cond_ ((decide ((0 : Int) ≤ n1071)) && (decide (n1071 < (((List.length t1072.2.1) : Nat) : Int)))) (cond_ ((decide ((0 : Int) ≤ n1071)) && (decide (n1071 < (((List.length t1073.2.1) : Nat) : Int)))) (cond_ ((List.getD t1072.2.1 (Int.toNat n1071) (0 : Int)) != (List.getD t1073.2.1 (Int.toNat n1071) (0 : Int))) (k1 false) (ref15_Same_L0 (IntKind.wrap .i64 (n1071 + (1 : Int))) t1072 t1073 k1 k2)) none) none) (k2))
noncomputable def ref15_Same_L0 : Nat → Int → Tc4 → Tc4 → (Bool → Option Bool) → (Option Bool) → Option Bool
  | 0 => fun _ _ _ _ _ => none
  | n + 1 => ref15_Same_L0.body (ref15_Same_L0 n)
noncomputable def ref15_Same_L0.get (F : Int → Tc4 → Tc4 → (Bool → Option Bool) → (Option Bool) → Option Bool) (e : Option Bool) (st : St) (k : KE) : Option Bool := match st with
  | ⟨sl, hp, m⟩ => match Nat.beq m 2, pickS 46 [2, 3, 5] sl, hp with
    | true, some [(.ptr [1, 0] 0 0), (.ptr [1, 1] 0 0), (.d ⟨(.int .i64), n1071⟩)], [([1, 0], ⟨25, 3, (.data (.st [(.int .i64), (.sl 2 (.int .i64)), (.sl 51 (.st [(.int .i64), (.int .i64), .bool]))]) [t1072])⟩), ([1, 1], ⟨25, 3, (.data (.st [(.int .i64), (.sl 2 (.int .i64)), (.sl 51 (.st [(.int .i64), (.int .i64), .bool]))]) [t1073])⟩)] => F n1071 t1072 t1073 (fun y0 => k .ret ⟨fillS 46 [4] [(.d ⟨.bool, y0⟩)], [], 2⟩) (k (.exit 0) ⟨fillS 46 [] [], [], 2⟩)
    | _, _, _ => e
noncomputable def ref15_Same_L0.calls : RecF := fun g a h k => none
noncomputable def ref15_Same_L0.loops : LoopF := fun b => none
set_option maxRecDepth 100000 in
theorem ref15_Same_L0.step (S : Int → Tc4 → Tc4 → (Bool → Option Bool) → (Option Bool) → Option Bool) (n1071 : Int) (t1072 : Tc4) (t1073 : Tc4) (k : KE) : execL Try.prog ht 20 (callfOf (ref15_Same_L0.calls)) (ref15_Same_L0.loops) 0 (loopAt 0 (codeOf Try.f20)) ⟨fillS 46 [2, 3, 5] [(.ptr [1, 0] 0 0), (.ptr [1, 1] 0 0), (.d ⟨(.int .i64), n1071⟩)], [([1, 0], ⟨25, 3, (.data (.st [(.int .i64), (.sl 2 (.int .i64)), (.sl 51 (.st [(.int .i64), (.int .i64), .bool]))]) [t1072])⟩), ([1, 1], ⟨25, 3, (.data (.st [(.int .i64), (.sl 2 (.int .i64)), (.sl 51 (.st [(.int .i64), (.int .i64), .bool]))]) [t1073])⟩)], 2⟩ (again (ref15_Same_L0.get S none) (plan Try.prog (ht 20 0)) k) = ref15_Same_L0.body S n1071 t1072 t1073 (fun y0 => k .ret ⟨fillS 46 [4] [(.d ⟨.bool, y0⟩)], [], 2⟩) (k (.exit 0) ⟨fillS 46 [] [], [], 2⟩) := by kernel_rfl
theorem ref15_Same_L0.ok (d : Nat) (hd : 0 ≤ d) : ∀ n st k, ref15_Same_L0.get (ref15_Same_L0 n) none st k = some true → iter n (plan Try.prog (ht 20 0)) (fun st k => execK Try.prog ht 20 (callfOf (callK Try.prog ht d)) 0 (loopAt 0 (codeOf Try.f20)) st k) st k = some true :=
  loop_ok (lfn := fun n st k => ref15_Same_L0.get (ref15_Same_L0 n) none st k) (rec := ref15_Same_L0.calls) (fun g a h k hx => by
    cases hx) (loopf := ref15_Same_L0.loops) (by
    have e : loopsOf (ref15_Same_L0.loops) 0 (loopAt 0 (codeOf Try.f20)) = [] := by kernel_rfl
    rw [e]
    intro p hp
    cases hp) (fun st k h => by
    obtain ⟨sl, hp, m⟩ := st
    unfold ref15_Same_L0.get at h
    dsimp only at h
    split at h
    · have h' : (none : Option Bool) = some true := h
      cases h'
    · cases h) (fun n st k h => by
    obtain ⟨sl, hp, m⟩ := st
    unfold ref15_Same_L0.get at h
    dsimp only at h
    split at h
    · rename_i h1 h2
      obtain rfl := pickS_ok h2
      obtain rfl := Nat.eq_of_beq_eq_true h1
      exact (ref15_Same_L0.step (ref15_Same_L0 n) _ _ _ k).trans h
    · cases h)
theorem ref15_Same_L0.look {F : Int → Tc4 → Tc4 → (Bool → Option Bool) → (Option Bool) → Option Bool} {e : Option Bool} {st : St} {k : KE} (hx : ref15_Same_L0.get F e st k = some true) : e = some true ∨ ref15_Same_L0.get F none st k = some true := by
  obtain ⟨sl, hp, m⟩ := st
  unfold ref15_Same_L0.get at hx ⊢
  dsimp only at hx ⊢
  split at hx
  · exact .inr hx
  · exact .inl hx
/-- function 20: sheerleg/sheerlegref15.Same -/
noncomputable def ref15_Same.body (ref15_SameRelocs : Tc0 → Tc0 → (Bool → Option Bool) → Option Bool) (ref15_Same_L0 : Int → Tc4 → Tc4 → (Bool → Option Bool) → (Option Bool) → Option Bool) (t1062 : Tc4) (t1063 : Tc4) (k1 : Bool → Option Bool) : Option Bool :=
  (cond_ (! (t1062.1 != t1063.1)) (cond_ (! ((((List.length t1062.2.1) : Nat) : Int) != (((List.length t1063.2.1) : Nat) : Int))) (ref15_SameRelocs t1062.2.2.1 t1063.2.2.1
  (fun b1070 => (cond_ (! b1070) (k1 false) (ref15_Same_L0 (0 : Int) t1062 t1063
  (fun b1074 => (k1 b1074))
  (k1 true))))) (k1 false)) (k1 false))
noncomputable def ref15_Same (t1062 : Tc4) (t1063 : Tc4) (k1 : Bool → Option Bool) : Option Bool := ref15_Same.body ref15_SameRelocs (ref15_Same_L0 ROUNDS) t1062 t1063 k1
noncomputable def ref15_Same.get (F : Tc4 → Tc4 → (Bool → Option Bool) → Option Bool) (e : Option Bool) (g : FuncId) (a : List AV) (h : Heap) (k : KR) : Option Bool := match g, a, h with
  | 20, [(.d ⟨(.st [(.int .i64), (.sl 2 (.int .i64)), (.sl 51 (.st [(.int .i64), (.int .i64), .bool]))]), t1062⟩), (.d ⟨(.st [(.int .i64), (.sl 2 (.int .i64)), (.sl 51 (.st [(.int .i64), (.int .i64), .bool]))]), t1063⟩)], [] => F t1062 t1063 (fun y0 => k (.d ⟨.bool, y0⟩) [])
  | _, _, _ => e
noncomputable def ref15_Same.calls (F0 : Tc0 → Tc0 → (Bool → Option Bool) → Option Bool) : RecF := fun g a h k => (ref15_SameRelocs.get F0 none g a h k)
noncomputable def ref15_Same.loops (L0 : Int → Tc4 → Tc4 → (Bool → Option Bool) → (Option Bool) → Option Bool) : LoopF := fun b => match Nat.beq b 0 with | true => some (fun st k => (ref15_Same_L0.get L0 none st k)) | false => none
set_option maxRecDepth 100000 in
theorem ref15_Same.eq (F0 : Tc0 → Tc0 → (Bool → Option Bool) → Option Bool) (L0 : Int → Tc4 → Tc4 → (Bool → Option Bool) → (Option Bool) → Option Bool) (t1062 : Tc4) (t1063 : Tc4) (k : KR) : execL Try.prog ht 20 (callfOf (ref15_Same.calls F0)) (ref15_Same.loops L0) 0 (codeOf Try.f20) ⟨[(.d ⟨(.st [(.int .i64), (.sl 2 (.int .i64)), (.sl 51 (.st [(.int .i64), (.int .i64), .bool]))]), t1062⟩), (.d ⟨(.st [(.int .i64), (.sl 2 (.int .i64)), (.sl 51 (.st [(.int .i64), (.int .i64), .bool]))]), t1063⟩)] ++ List.replicate (Try.f20.ntmps - ([(.d ⟨(.st [(.int .i64), (.sl 2 (.int .i64)), (.sl 51 (.st [(.int .i64), (.int .i64), .bool]))]), t1062⟩), (.d ⟨(.st [(.int .i64), (.sl 2 (.int .i64)), (.sl 51 (.st [(.int .i64), (.int .i64), .bool]))]), t1063⟩)] : List AV).length) .undef, [], 2⟩ (leave Try.prog Try.f20 k) = ref15_Same.body F0 L0 t1062 t1063 (fun y0 => k (.d ⟨.bool, y0⟩) []) := by kernel_rfl
theorem ref15_Same.ok (d : Nat) (hd : 2 ≤ d) (t1062 : Tc4) (t1063 : Tc4) (k : KR) (hx : ref15_Same t1062 t1063 (fun y0 => k (.d ⟨.bool, y0⟩) []) = some true) : callK Try.prog ht d 20 [(.d ⟨(.st [(.int .i64), (.sl 2 (.int .i64)), (.sl 51 (.st [(.int .i64), (.int .i64), .bool]))]), t1062⟩), (.d ⟨(.st [(.int .i64), (.sl 2 (.int .i64)), (.sl 51 (.st [(.int .i64), (.int .i64), .bool]))]), t1063⟩)] [] k = some true := by
  obtain ⟨d, rfl⟩ : ∃ e, d = e + 1 := ⟨d - 1, by omega⟩
  exact fn_ok (c := codeOf Try.f20) Try.func20 (by kernel_rfl) (rec := ref15_Same.calls ref15_SameRelocs) (fun g a h k hx => by
    rcases ref15_SameRelocs.look d (by omega) hx with hx | hx
    rotate_left
    · exact hx
    cases hx) (loopf := ref15_Same.loops (ref15_Same_L0 ROUNDS)) (by
    have e : loopsOf (ref15_Same.loops (ref15_Same_L0 ROUNDS)) 0 (codeOf Try.f20) = [(0, loopAt 0 (codeOf Try.f20))] := by kernel_rfl
    rw [e]
    intro p hp
    simp only [List.mem_cons, List.not_mem_nil, or_false] at hp
    rcases hp with rfl
    · refine loopRef_of (callf := callfOf (callK Try.prog ht d)) (callfOf_ref (callK_mono d)) fun lf st k hb hx => ?_
      cases hb
      rcases ref15_Same_L0.look hx with hx | hx
      rotate_left
      · exact ref15_Same_L0.ok d (by omega) _ _ _ hx
      cases hx) ((ref15_Same.eq ref15_SameRelocs (ref15_Same_L0 ROUNDS) t1062 t1063 k).trans hx)
theorem ref15_Same.look (d : Nat) (hd : 2 ≤ d) {e : Option Bool} {g : FuncId} {a : List AV} {h : Heap} {k : KR} (hx : ref15_Same.get ref15_Same e g a h k = some true) : e = some true ∨ callK Try.prog ht d g a h k = some true := by
  unfold ref15_Same.get at hx
  split at hx
  · exact .inr (ref15_Same.ok d hd _ _ _ hx)
  · exact .inl hx
/-- function 21: (*sheerleg/octet.Reader).At -/
noncomputable def octet_Reader_At.body (n1076 : Int) (b1077 : Bool) (b1078 : Bool) (ns1079 : List Int) (k1 : Int → Int → Bool → Bool → (List Int) → Option Bool) : Option Bool :=
  (k1 n1076 n1076 b1077 b1078 ns1079)
noncomputable def octet_Reader_At (n1076 : Int) (b1077 : Bool) (b1078 : Bool) (ns1079 : List Int) (k1 : Int → Int → Bool → Bool → (List Int) → Option Bool) : Option Bool := octet_Reader_At.body n1076 b1077 b1078 ns1079 k1
noncomputable def octet_Reader_At.get (F : Int → Bool → Bool → (List Int) → (Int → Int → Bool → Bool → (List Int) → Option Bool) → Option Bool) (e : Option Bool) (g : FuncId) (a : List AV) (h : Heap) (k : KR) : Option Bool := match g, a, h with
  | 21, [(.ptr [0, 0] 0 0)], [([0, 0], ⟨68, 4, (.mix [(.agg [(.ref [0, 1]), (.d ⟨(.int .i64), n1076⟩), (.d ⟨.bool, b1077⟩), (.d ⟨.bool, b1078⟩)])])⟩), ([0, 1], ⟨5, 1, (.data (.int .u8) ns1079)⟩)] => F n1076 b1077 b1078 ns1079 (fun y0 y1 y2 y3 y4 => k (.d ⟨(.int .i64), y0⟩) [([0, 0], ⟨68, 4, (.mix [(.agg [(.ref [0, 1]), (.d ⟨(.int .i64), y1⟩), (.d ⟨.bool, y2⟩), (.d ⟨.bool, y3⟩)])])⟩), ([0, 1], ⟨5, 1, (.data (.int .u8) y4)⟩)])
  | _, _, _ => e
noncomputable def octet_Reader_At.calls : RecF := fun g a h k => none
noncomputable def octet_Reader_At.loops : LoopF := fun b => none
set_option maxRecDepth 100000 in
theorem octet_Reader_At.eq (n1076 : Int) (b1077 : Bool) (b1078 : Bool) (ns1079 : List Int) (k : KR) : execL Try.prog ht 21 (callfOf (octet_Reader_At.calls)) (octet_Reader_At.loops) 0 (codeOf Try.f21) ⟨[(.ptr [0, 0] 0 0)] ++ List.replicate (Try.f21.ntmps - ([(.ptr [0, 0] 0 0)] : List AV).length) .undef, [([0, 0], ⟨68, 4, (.mix [(.agg [(.ref [0, 1]), (.d ⟨(.int .i64), n1076⟩), (.d ⟨.bool, b1077⟩), (.d ⟨.bool, b1078⟩)])])⟩), ([0, 1], ⟨5, 1, (.data (.int .u8) ns1079)⟩)], 2⟩ (leave Try.prog Try.f21 k) = octet_Reader_At.body n1076 b1077 b1078 ns1079 (fun y0 y1 y2 y3 y4 => k (.d ⟨(.int .i64), y0⟩) [([0, 0], ⟨68, 4, (.mix [(.agg [(.ref [0, 1]), (.d ⟨(.int .i64), y1⟩), (.d ⟨.bool, y2⟩), (.d ⟨.bool, y3⟩)])])⟩), ([0, 1], ⟨5, 1, (.data (.int .u8) y4)⟩)]) := by kernel_rfl
theorem octet_Reader_At.ok (d : Nat) (hd : 1 ≤ d) (n1076 : Int) (b1077 : Bool) (b1078 : Bool) (ns1079 : List Int) (k : KR) (hx : octet_Reader_At n1076 b1077 b1078 ns1079 (fun y0 y1 y2 y3 y4 => k (.d ⟨(.int .i64), y0⟩) [([0, 0], ⟨68, 4, (.mix [(.agg [(.ref [0, 1]), (.d ⟨(.int .i64), y1⟩), (.d ⟨.bool, y2⟩), (.d ⟨.bool, y3⟩)])])⟩), ([0, 1], ⟨5, 1, (.data (.int .u8) y4)⟩)]) = some true) : callK Try.prog ht d 21 [(.ptr [0, 0] 0 0)] [([0, 0], ⟨68, 4, (.mix [(.agg [(.ref [0, 1]), (.d ⟨(.int .i64), n1076⟩), (.d ⟨.bool, b1077⟩), (.d ⟨.bool, b1078⟩)])])⟩), ([0, 1], ⟨5, 1, (.data (.int .u8) ns1079)⟩)] k = some true := by
  obtain ⟨d, rfl⟩ : ∃ e, d = e + 1 := ⟨d - 1, by omega⟩
  exact fn_ok (c := codeOf Try.f21) Try.func21 (by kernel_rfl) (rec := octet_Reader_At.calls) (fun g a h k hx => by
    cases hx) (loopf := octet_Reader_At.loops) (by
    have e : loopsOf (octet_Reader_At.loops) 0 (codeOf Try.f21) = [] := by kernel_rfl
    rw [e]
    intro p hp
    cases hp) ((octet_Reader_At.eq n1076 b1077 b1078 ns1079 k).trans hx)
theorem octet_Reader_At.look (d : Nat) (hd : 1 ≤ d) {e : Option Bool} {g : FuncId} {a : List AV} {h : Heap} {k : KR} (hx : octet_Reader_At.get octet_Reader_At e g a h k = some true) : e = some true ∨ callK Try.prog ht d g a h k = some true := by
  unfold octet_Reader_At.get at hx
  split at hx
  · exact .inr (octet_Reader_At.ok d hd _ _ _ _ _ hx)
  · exact .inl hx
/-- function 34: (*sheerleg/octet.Reader).Bad -/
noncomputable def octet_Reader_Badv1.body (k1 : Bool → Option Bool) : Option Bool :=
  (k1 true)
noncomputable def octet_Reader_Badv1 (k1 : Bool → Option Bool) : Option Bool := octet_Reader_Badv1.body k1
noncomputable def octet_Reader_Badv1.get (F : (Bool → Option Bool) → Option Bool) (e : Option Bool) (g : FuncId) (a : List AV) (h : Heap) (k : KR) : Option Bool := match g, a, h with
  | 34, [.nilp], [] => F (fun y0 => k (.d ⟨.bool, y0⟩) [])
  | _, _, _ => e
noncomputable def octet_Reader_Badv1.calls : RecF := fun g a h k => none
noncomputable def octet_Reader_Badv1.loops : LoopF := fun b => none
set_option maxRecDepth 100000 in
theorem octet_Reader_Badv1.eq (k : KR) : execL Try.prog ht 34 (callfOf (octet_Reader_Badv1.calls)) (octet_Reader_Badv1.loops) 0 (codeOf Try.f34) ⟨[.nilp] ++ List.replicate (Try.f34.ntmps - ([.nilp] : List AV).length) .undef, [], 2⟩ (leave Try.prog Try.f34 k) = octet_Reader_Badv1.body (fun y0 => k (.d ⟨.bool, y0⟩) []) := by kernel_rfl
theorem octet_Reader_Badv1.ok (d : Nat) (hd : 1 ≤ d) (k : KR) (hx : octet_Reader_Badv1 (fun y0 => k (.d ⟨.bool, y0⟩) []) = some true) : callK Try.prog ht d 34 [.nilp] [] k = some true := by
  obtain ⟨d, rfl⟩ : ∃ e, d = e + 1 := ⟨d - 1, by omega⟩
  exact fn_ok (c := codeOf Try.f34) Try.func34 (by kernel_rfl) (rec := octet_Reader_Badv1.calls) (fun g a h k hx => by
    cases hx) (loopf := octet_Reader_Badv1.loops) (by
    have e : loopsOf (octet_Reader_Badv1.loops) 0 (codeOf Try.f34) = [] := by kernel_rfl
    rw [e]
    intro p hp
    cases hp) ((octet_Reader_Badv1.eq k).trans hx)
theorem octet_Reader_Badv1.look (d : Nat) (hd : 1 ≤ d) {e : Option Bool} {g : FuncId} {a : List AV} {h : Heap} {k : KR} (hx : octet_Reader_Badv1.get octet_Reader_Badv1 e g a h k = some true) : e = some true ∨ callK Try.prog ht d g a h k = some true := by
  unfold octet_Reader_Badv1.get at hx
  split at hx
  · exact .inr (octet_Reader_Badv1.ok d hd _ hx)
  · exact .inl hx
/-- function 54: (*sheerleg/octet.Reader).Left -/
noncomputable def octet_Reader_Leftv1.body (k1 : Int → Option Bool) : Option Bool :=
  (k1 (0 : Int))
noncomputable def octet_Reader_Leftv1 (k1 : Int → Option Bool) : Option Bool := octet_Reader_Leftv1.body k1
noncomputable def octet_Reader_Leftv1.get (F : (Int → Option Bool) → Option Bool) (e : Option Bool) (g : FuncId) (a : List AV) (h : Heap) (k : KR) : Option Bool := match g, a, h with
  | 54, [.nilp], [] => F (fun y0 => k (.d ⟨(.int .i64), y0⟩) [])
  | _, _, _ => e
noncomputable def octet_Reader_Leftv1.calls : RecF := fun g a h k => none
noncomputable def octet_Reader_Leftv1.loops : LoopF := fun b => none
set_option maxRecDepth 100000 in
theorem octet_Reader_Leftv1.eq (k : KR) : execL Try.prog ht 54 (callfOf (octet_Reader_Leftv1.calls)) (octet_Reader_Leftv1.loops) 0 (codeOf Try.f54) ⟨[.nilp] ++ List.replicate (Try.f54.ntmps - ([.nilp] : List AV).length) .undef, [], 2⟩ (leave Try.prog Try.f54 k) = octet_Reader_Leftv1.body (fun y0 => k (.d ⟨(.int .i64), y0⟩) []) := by kernel_rfl
theorem octet_Reader_Leftv1.ok (d : Nat) (hd : 1 ≤ d) (k : KR) (hx : octet_Reader_Leftv1 (fun y0 => k (.d ⟨(.int .i64), y0⟩) []) = some true) : callK Try.prog ht d 54 [.nilp] [] k = some true := by
  obtain ⟨d, rfl⟩ : ∃ e, d = e + 1 := ⟨d - 1, by omega⟩
  exact fn_ok (c := codeOf Try.f54) Try.func54 (by kernel_rfl) (rec := octet_Reader_Leftv1.calls) (fun g a h k hx => by
    cases hx) (loopf := octet_Reader_Leftv1.loops) (by
    have e : loopsOf (octet_Reader_Leftv1.loops) 0 (codeOf Try.f54) = [] := by kernel_rfl
    rw [e]
    intro p hp
    cases hp) ((octet_Reader_Leftv1.eq k).trans hx)
theorem octet_Reader_Leftv1.look (d : Nat) (hd : 1 ≤ d) {e : Option Bool} {g : FuncId} {a : List AV} {h : Heap} {k : KR} (hx : octet_Reader_Leftv1.get octet_Reader_Leftv1 e g a h k = some true) : e = some true ∨ callK Try.prog ht d g a h k = some true := by
  unfold octet_Reader_Leftv1.get at hx
  split at hx
  · exact .inr (octet_Reader_Leftv1.ok d hd _ hx)
  · exact .inl hx
/-- function 55: (*sheerleg/octet.Reader).spoil -/
noncomputable def octet_Reader_spoilv1.body (k1 : Option Bool) : Option Bool :=
  (k1)
noncomputable def octet_Reader_spoilv1 (k1 : Option Bool) : Option Bool := octet_Reader_spoilv1.body k1
noncomputable def octet_Reader_spoilv1.get (F : (Option Bool) → Option Bool) (e : Option Bool) (g : FuncId) (a : List AV) (h : Heap) (k : KR) : Option Bool := match g, a, h with
  | 55, [.nilp], [] => F (k (.tup []) [])
  | _, _, _ => e
noncomputable def octet_Reader_spoilv1.calls : RecF := fun g a h k => none
noncomputable def octet_Reader_spoilv1.loops : LoopF := fun b => none
set_option maxRecDepth 100000 in
theorem octet_Reader_spoilv1.eq (k : KR) : execL Try.prog ht 55 (callfOf (octet_Reader_spoilv1.calls)) (octet_Reader_spoilv1.loops) 0 (codeOf Try.f55) ⟨[.nilp] ++ List.replicate (Try.f55.ntmps - ([.nilp] : List AV).length) .undef, [], 2⟩ (leave Try.prog Try.f55 k) = octet_Reader_spoilv1.body (k (.tup []) []) := by kernel_rfl
theorem octet_Reader_spoilv1.ok (d : Nat) (hd : 1 ≤ d) (k : KR) (hx : octet_Reader_spoilv1 (k (.tup []) []) = some true) : callK Try.prog ht d 55 [.nilp] [] k = some true := by
  obtain ⟨d, rfl⟩ : ∃ e, d = e + 1 := ⟨d - 1, by omega⟩
  exact fn_ok (c := codeOf Try.f55) Try.func55 (by kernel_rfl) (rec := octet_Reader_spoilv1.calls) (fun g a h k hx => by
    cases hx) (loopf := octet_Reader_spoilv1.loops) (by
    have e : loopsOf (octet_Reader_spoilv1.loops) 0 (codeOf Try.f55) = [] := by kernel_rfl
    rw [e]
    intro p hp
    cases hp) ((octet_Reader_spoilv1.eq k).trans hx)
theorem octet_Reader_spoilv1.look (d : Nat) (hd : 1 ≤ d) {e : Option Bool} {g : FuncId} {a : List AV} {h : Heap} {k : KR} (hx : octet_Reader_spoilv1.get octet_Reader_spoilv1 e g a h k = some true) : e = some true ∨ callK Try.prog ht d g a h k = some true := by
  unfold octet_Reader_spoilv1.get at hx
  split at hx
  · exact .inr (octet_Reader_spoilv1.ok d hd _ hx)
  · exact .inl hx
/-- function 51: (*sheerleg/octet.Reader).take -/
noncomputable def octet_Reader_takev1.body (octet_Reader_Badv1 : (Bool → Option Bool) → Option Bool) (octet_Reader_Leftv1 : (Int → Option Bool) → Option Bool) (octet_Reader_spoilv1 : (Option Bool) → Option Bool) (n1087 : Int) (k1 : (List Int) → Option Bool) : Option Bool :=
  (octet_Reader_Badv1
  (fun b1088 => (cond_ (! b1088) (cond_ (! (decide (n1087 < (0 : Int)))) (octet_Reader_Leftv1
  (fun n1089 => (cond_ (decide (n1087 > n1089)) (octet_Reader_spoilv1
  (k1 [])) none))) (octet_Reader_spoilv1
  (k1 []))) (octet_Reader_spoilv1
  (k1 [])))))
noncomputable def octet_Reader_takev1 (n1087 : Int) (k1 : (List Int) → Option Bool) : Option Bool := octet_Reader_takev1.body octet_Reader_Badv1 octet_Reader_Leftv1 octet_Reader_spoilv1 n1087 k1
noncomputable def octet_Reader_takev1.get (F : Int → ((List Int) → Option Bool) → Option Bool) (e : Option Bool) (g : FuncId) (a : List AV) (h : Heap) (k : KR) : Option Bool := match g, a, h with
  | 51, [.nilp, (.d ⟨(.int .i64), n1087⟩)], [] => F n1087 (fun y0 => k (.ref [1, 0]) [([1, 0], ⟨5, 1, (.data (.int .u8) y0)⟩)])
  | _, _, _ => e
noncomputable def octet_Reader_takev1.calls (F0 : (Bool → Option Bool) → Option Bool) (F1 : (Int → Option Bool) → Option Bool) (F2 : (Option Bool) → Option Bool) : RecF := fun g a h k => (octet_Reader_Badv1.get F0 (octet_Reader_Leftv1.get F1 (octet_Reader_spoilv1.get F2 none g a h k) g a h k) g a h k)
noncomputable def octet_Reader_takev1.loops : LoopF := fun b => none
set_option maxRecDepth 100000 in
theorem octet_Reader_takev1.eq (F0 : (Bool → Option Bool) → Option Bool) (F1 : (Int → Option Bool) → Option Bool) (F2 : (Option Bool) → Option Bool) (n1087 : Int) (k : KR) : execL Try.prog ht 51 (callfOf (octet_Reader_takev1.calls F0 F1 F2)) (octet_Reader_takev1.loops) 0 (codeOf Try.f51) ⟨[.nilp, (.d ⟨(.int .i64), n1087⟩)] ++ List.replicate (Try.f51.ntmps - ([.nilp, (.d ⟨(.int .i64), n1087⟩)] : List AV).length) .undef, [], 2⟩ (leave Try.prog Try.f51 k) = octet_Reader_takev1.body F0 F1 F2 n1087 (fun y0 => k (.ref [1, 0]) [([1, 0], ⟨5, 1, (.data (.int .u8) y0)⟩)]) := by kernel_rfl
theorem octet_Reader_takev1.ok (d : Nat) (hd : 2 ≤ d) (n1087 : Int) (k : KR) (hx : octet_Reader_takev1 n1087 (fun y0 => k (.ref [1, 0]) [([1, 0], ⟨5, 1, (.data (.int .u8) y0)⟩)]) = some true) : callK Try.prog ht d 51 [.nilp, (.d ⟨(.int .i64), n1087⟩)] [] k = some true := by
  obtain ⟨d, rfl⟩ : ∃ e, d = e + 1 := ⟨d - 1, by omega⟩
  exact fn_ok (c := codeOf Try.f51) Try.func51 (by kernel_rfl) (rec := octet_Reader_takev1.calls octet_Reader_Badv1 octet_Reader_Leftv1 octet_Reader_spoilv1) (fun g a h k hx => by
    rcases octet_Reader_Badv1.look d (by omega) hx with hx | hx
    rotate_left
    · exact hx
    rcases octet_Reader_Leftv1.look d (by omega) hx with hx | hx
    rotate_left
    · exact hx
    rcases octet_Reader_spoilv1.look d (by omega) hx with hx | hx
    rotate_left
    · exact hx
    cases hx) (loopf := octet_Reader_takev1.loops) (by
    have e : loopsOf (octet_Reader_takev1.loops) 0 (codeOf Try.f51) = [] := by kernel_rfl
    rw [e]
    intro p hp
    cases hp) ((octet_Reader_takev1.eq octet_Reader_Badv1 octet_Reader_Leftv1 octet_Reader_spoilv1 n1087 k).trans hx)
theorem octet_Reader_takev1.look (d : Nat) (hd : 2 ≤ d) {e : Option Bool} {g : FuncId} {a : List AV} {h : Heap} {k : KR} (hx : octet_Reader_takev1.get octet_Reader_takev1 e g a h k = some true) : e = some true ∨ callK Try.prog ht d g a h k = some true := by
  unfold octet_Reader_takev1.get at hx
  split at hx
  · exact .inr (octet_Reader_takev1.ok d hd _ _ hx)
  · exact .inl hx
/-- function 50: the loop in block 0 -/
noncomputable def octet_numberv1_L0.body (octet_numberv1_L0 : Int → Int → Int → (List Int) → (Int → (List Int) → Option Bool) → Option Bool) (n1091 : Int) (n1092 : Int) (n1093 : Int) (ns1094 : List Int) (k1 : Int → (List Int) → Option Bool) : Option Bool :=
  (cond_ (decide (n1093 < n1092)) (cond_ ((decide ((0 : Int) ≤ n1093)) && (decide (n1093 < (((List.length ns1094) : Nat) : Int)))) (octet_numberv1_L0 (IntKind.wrap .i64 (((@BitVec.toNat (64 : Nat) ((@BitVec.ofInt (64 : Nat) (IntKind.wrap .i64 (n1091 * (256 : Int)))) ||| (@BitVec.ofInt (64 : Nat) (IntKind.wrap .i64 (List.getD ns1094 (Int.toNat n1093) (0 : Int)))))) : Nat) : Int)) n1092 (IntKind.wrap .i64 (n1093 + (1 : Int))) ns1094 k1) none) (k1 n1091 ns1094))
noncomputable def octet_numberv1_L0 : Nat → Int → Int → Int → (List Int) → (Int → (List Int) → Option Bool) → Option Bool
  | 0 => fun _ _ _ _ _ => none
  | n + 1 => octet_numberv1_L0.body (octet_numberv1_L0 n)
noncomputable def octet_numberv1_L0.get (F : Int → Int → Int → (List Int) → (Int → (List Int) → Option Bool) → Option Bool) (e : Option Bool) (st : St) (k : KE) : Option Bool := match st with
  | ⟨sl, hp, m⟩ => match Nat.beq m 2, pickS 33 [6, 7, 19, 20, 21] sl, hp with
    | true, some [(.d ⟨(.int .i64), n1091⟩), (.ref [1, 0]), (.ref [1, 0]), (.d ⟨(.int .i64), n1092⟩), (.d ⟨(.int .i64), n1093⟩)], [([1, 0], ⟨5, 1, (.data (.int .u8) ns1094)⟩)] => F n1091 n1092 n1093 ns1094 (fun y0 y1 => k (.exit 0) ⟨fillS 33 [6, 7] [(.d ⟨(.int .i64), y0⟩), (.ref [1, 0])], [([1, 0], ⟨5, 1, (.data (.int .u8) y1)⟩)], 2⟩)
    | _, _, _ => e
noncomputable def octet_numberv1_L0.calls : RecF := fun g a h k => none
noncomputable def octet_numberv1_L0.loops : LoopF := fun b => none
set_option maxRecDepth 100000 in
theorem octet_numberv1_L0.step (S : Int → Int → Int → (List Int) → (Int → (List Int) → Option Bool) → Option Bool) (n1091 : Int) (n1092 : Int) (n1093 : Int) (ns1094 : List Int) (k : KE) : execL Try.prog ht 50 (callfOf (octet_numberv1_L0.calls)) (octet_numberv1_L0.loops) 0 (loopAt 0 (codeOf Try.f50)) ⟨fillS 33 [6, 7, 19, 20, 21] [(.d ⟨(.int .i64), n1091⟩), (.ref [1, 0]), (.ref [1, 0]), (.d ⟨(.int .i64), n1092⟩), (.d ⟨(.int .i64), n1093⟩)], [([1, 0], ⟨5, 1, (.data (.int .u8) ns1094)⟩)], 2⟩ (again (octet_numberv1_L0.get S none) (plan Try.prog (ht 50 0)) k) = octet_numberv1_L0.body S n1091 n1092 n1093 ns1094 (fun y0 y1 => k (.exit 0) ⟨fillS 33 [6, 7] [(.d ⟨(.int .i64), y0⟩), (.ref [1, 0])], [([1, 0], ⟨5, 1, (.data (.int .u8) y1)⟩)], 2⟩) := by kernel_rfl
theorem octet_numberv1_L0.ok (d : Nat) (hd : 0 ≤ d) : ∀ n st k, octet_numberv1_L0.get (octet_numberv1_L0 n) none st k = some true → iter n (plan Try.prog (ht 50 0)) (fun st k => execK Try.prog ht 50 (callfOf (callK Try.prog ht d)) 0 (loopAt 0 (codeOf Try.f50)) st k) st k = some true :=
  loop_ok (lfn := fun n st k => octet_numberv1_L0.get (octet_numberv1_L0 n) none st k) (rec := octet_numberv1_L0.calls) (fun g a h k hx => by
    cases hx) (loopf := octet_numberv1_L0.loops) (by
    have e : loopsOf (octet_numberv1_L0.loops) 0 (loopAt 0 (codeOf Try.f50)) = [] := by kernel_rfl
    rw [e]
    intro p hp
    cases hp) (fun st k h => by
    obtain ⟨sl, hp, m⟩ := st
    unfold octet_numberv1_L0.get at h
    dsimp only at h
    split at h
    · have h' : (none : Option Bool) = some true := h
      cases h'
    · cases h) (fun n st k h => by
    obtain ⟨sl, hp, m⟩ := st
    unfold octet_numberv1_L0.get at h
    dsimp only at h
    split at h
    · rename_i h1 h2
      obtain rfl := pickS_ok h2
      obtain rfl := Nat.eq_of_beq_eq_true h1
      exact (octet_numberv1_L0.step (octet_numberv1_L0 n) _ _ _ _ k).trans h
    · cases h)
theorem octet_numberv1_L0.look {F : Int → Int → Int → (List Int) → (Int → (List Int) → Option Bool) → Option Bool} {e : Option Bool} {st : St} {k : KE} (hx : octet_numberv1_L0.get F e st k = some true) : e = some true ∨ octet_numberv1_L0.get F none st k = some true := by
  obtain ⟨sl, hp, m⟩ := st
  unfold octet_numberv1_L0.get at hx ⊢
  dsimp only at hx ⊢
  split at hx
  · exact .inr hx
  · exact .inl hx
/-- function 50: sheerleg/octet.number -/
noncomputable def octet_numberv1.body (octet_Reader_takev1 : Int → ((List Int) → Option Bool) → Option Bool) (octet_numberv1_L0 : Int → Int → Int → (List Int) → (Int → (List Int) → Option Bool) → Option Bool) (n1086 : Int) (k1 : Int → (List Int) → Option Bool) : Option Bool :=
  (cond_ (! (decide (n1086 < (1 : Int)))) (cond_ (decide (n1086 > (8 : Int))) (octet_Reader_takev1 (-1 : Int)
  (fun ns1090 => (octet_numberv1_L0 (0 : Int) (((List.length ns1090) : Nat) : Int) (0 : Int) ns1090
  (fun n1095 ns1096 => (k1 n1095 ns1096))))) (octet_Reader_takev1 n1086
  (fun ns1097 => (octet_numberv1_L0 (0 : Int) (((List.length ns1097) : Nat) : Int) (0 : Int) ns1097
  (fun n1098 ns1099 => (k1 n1098 ns1099)))))) (octet_Reader_takev1 (-1 : Int)
  (fun ns1100 => (octet_numberv1_L0 (0 : Int) (((List.length ns1100) : Nat) : Int) (0 : Int) ns1100
  (fun n1101 ns1102 => (k1 n1101 ns1102))))))
noncomputable def octet_numberv1 (n1086 : Int) (k1 : Int → (List Int) → Option Bool) : Option Bool := octet_numberv1.body octet_Reader_takev1 (octet_numberv1_L0 ROUNDS) n1086 k1
noncomputable def octet_numberv1.get (F : Int → (Int → (List Int) → Option Bool) → Option Bool) (e : Option Bool) (g : FuncId) (a : List AV) (h : Heap) (k : KR) : Option Bool := match g, a, h with
  | 50, [(.fn (.func 51) [.nilp] []), (.d ⟨(.int .i64), n1086⟩)], [] => F n1086 (fun y0 y1 => k (.tup [(.d ⟨(.int .i64), y0⟩), (.ref [1, 0])]) [([1, 0], ⟨5, 1, (.data (.int .u8) y1)⟩)])
  | _, _, _ => e
noncomputable def octet_numberv1.calls (F0 : Int → ((List Int) → Option Bool) → Option Bool) : RecF := fun g a h k => (octet_Reader_takev1.get F0 none g a h k)
noncomputable def octet_numberv1.loops (L0 : Int → Int → Int → (List Int) → (Int → (List Int) → Option Bool) → Option Bool) : LoopF := fun b => match Nat.beq b 0 with | true => some (fun st k => (octet_numberv1_L0.get L0 none st k)) | false => none
set_option maxRecDepth 100000 in
theorem octet_numberv1.eq (F0 : Int → ((List Int) → Option Bool) → Option Bool) (L0 : Int → Int → Int → (List Int) → (Int → (List Int) → Option Bool) → Option Bool) (n1086 : Int) (k : KR) : execL Try.prog ht 50 (callfOf (octet_numberv1.calls F0)) (octet_numberv1.loops L0) 0 (codeOf Try.f50) ⟨[(.fn (.func 51) [.nilp] []), (.d ⟨(.int .i64), n1086⟩)] ++ List.replicate (Try.f50.ntmps - ([(.fn (.func 51) [.nilp] []), (.d ⟨(.int .i64), n1086⟩)] : List AV).length) .undef, [], 2⟩ (leave Try.prog Try.f50 k) = octet_numberv1.body F0 L0 n1086 (fun y0 y1 => k (.tup [(.d ⟨(.int .i64), y0⟩), (.ref [1, 0])]) [([1, 0], ⟨5, 1, (.data (.int .u8) y1)⟩)]) := by kernel_rfl
theorem octet_numberv1.ok (d : Nat) (hd : 3 ≤ d) (n1086 : Int) (k : KR) (hx : octet_numberv1 n1086 (fun y0 y1 => k (.tup [(.d ⟨(.int .i64), y0⟩), (.ref [1, 0])]) [([1, 0], ⟨5, 1, (.data (.int .u8) y1)⟩)]) = some true) : callK Try.prog ht d 50 [(.fn (.func 51) [.nilp] []), (.d ⟨(.int .i64), n1086⟩)] [] k = some true := by
  obtain ⟨d, rfl⟩ : ∃ e, d = e + 1 := ⟨d - 1, by omega⟩
  exact fn_ok (c := codeOf Try.f50) Try.func50 (by kernel_rfl) (rec := octet_numberv1.calls octet_Reader_takev1) (fun g a h k hx => by
    rcases octet_Reader_takev1.look d (by omega) hx with hx | hx
    rotate_left
    · exact hx
    cases hx) (loopf := octet_numberv1.loops (octet_numberv1_L0 ROUNDS)) (by
    have e : loopsOf (octet_numberv1.loops (octet_numberv1_L0 ROUNDS)) 0 (codeOf Try.f50) = [(0, loopAt 0 (codeOf Try.f50))] := by kernel_rfl
    rw [e]
    intro p hp
    simp only [List.mem_cons, List.not_mem_nil, or_false] at hp
    rcases hp with rfl
    · refine loopRef_of (callf := callfOf (callK Try.prog ht d)) (callfOf_ref (callK_mono d)) fun lf st k hb hx => ?_
      cases hb
      rcases octet_numberv1_L0.look hx with hx | hx
      rotate_left
      · exact octet_numberv1_L0.ok d (by omega) _ _ _ hx
      cases hx) ((octet_numberv1.eq octet_Reader_takev1 (octet_numberv1_L0 ROUNDS) n1086 k).trans hx)
theorem octet_numberv1.look (d : Nat) (hd : 3 ≤ d) {e : Option Bool} {g : FuncId} {a : List AV} {h : Heap} {k : KR} (hx : octet_numberv1.get octet_numberv1 e g a h k = some true) : e = some true ∨ callK Try.prog ht d g a h k = some true := by
  unfold octet_numberv1.get at hx
  split at hx
  · exact .inr (octet_numberv1.ok d hd _ _ hx)
  · exact .inl hx
/-- function 33: (*sheerleg/octet.Reader).Num -/
noncomputable def octet_Reader_Numv1.body (octet_numberv1 : Int → (Int → (List Int) → Option Bool) → Option Bool) (n1085 : Int) (k1 : Int → Option Bool) : Option Bool :=
  (octet_numberv1 n1085
  (fun n1103 ns1104 => (k1 n1103)))
noncomputable def octet_Reader_Numv1 (n1085 : Int) (k1 : Int → Option Bool) : Option Bool := octet_Reader_Numv1.body octet_numberv1 n1085 k1
noncomputable def octet_Reader_Numv1.get (F : Int → (Int → Option Bool) → Option Bool) (e : Option Bool) (g : FuncId) (a : List AV) (h : Heap) (k : KR) : Option Bool := match g, a, h with
  | 33, [.nilp, (.d ⟨(.int .i64), n1085⟩)], [] => F n1085 (fun y0 => k (.d ⟨(.int .i64), y0⟩) [])
  | _, _, _ => e
noncomputable def octet_Reader_Numv1.calls (F0 : Int → (Int → (List Int) → Option Bool) → Option Bool) : RecF := fun g a h k => (octet_numberv1.get F0 none g a h k)
noncomputable def octet_Reader_Numv1.loops : LoopF := fun b => none
set_option maxRecDepth 100000 in
theorem octet_Reader_Numv1.eq (F0 : Int → (Int → (List Int) → Option Bool) → Option Bool) (n1085 : Int) (k : KR) : execL Try.prog ht 33 (callfOf (octet_Reader_Numv1.calls F0)) (octet_Reader_Numv1.loops) 0 (codeOf Try.f33) ⟨[.nilp, (.d ⟨(.int .i64), n1085⟩)] ++ List.replicate (Try.f33.ntmps - ([.nilp, (.d ⟨(.int .i64), n1085⟩)] : List AV).length) .undef, [], 2⟩ (leave Try.prog Try.f33 k) = octet_Reader_Numv1.body F0 n1085 (fun y0 => k (.d ⟨(.int .i64), y0⟩) []) := by kernel_rfl
theorem octet_Reader_Numv1.ok (d : Nat) (hd : 4 ≤ d) (n1085 : Int) (k : KR) (hx : octet_Reader_Numv1 n1085 (fun y0 => k (.d ⟨(.int .i64), y0⟩) []) = some true) : callK Try.prog ht d 33 [.nilp, (.d ⟨(.int .i64), n1085⟩)] [] k = some true := by
  obtain ⟨d, rfl⟩ : ∃ e, d = e + 1 := ⟨d - 1, by omega⟩
  exact fn_ok (c := codeOf Try.f33) Try.func33 (by kernel_rfl) (rec := octet_Reader_Numv1.calls octet_numberv1) (fun g a h k hx => by
    rcases octet_numberv1.look d (by omega) hx with hx | hx
    rotate_left
    · exact hx
    cases hx) (loopf := octet_Reader_Numv1.loops) (by
    have e : loopsOf (octet_Reader_Numv1.loops) 0 (codeOf Try.f33) = [] := by kernel_rfl
    rw [e]
    intro p hp
    cases hp) ((octet_Reader_Numv1.eq octet_numberv1 n1085 k).trans hx)
theorem octet_Reader_Numv1.look (d : Nat) (hd : 4 ≤ d) {e : Option Bool} {g : FuncId} {a : List AV} {h : Heap} {k : KR} (hx : octet_Reader_Numv1.get octet_Reader_Numv1 e g a h k = some true) : e = some true ∨ callK Try.prog ht d g a h k = some true := by
  unfold octet_Reader_Numv1.get at hx
  split at hx
  · exact .inr (octet_Reader_Numv1.ok d hd _ _ hx)
  · exact .inl hx
/-- function 18: the loop in block 0 -/
noncomputable def data_Getv1_L0.body (data_Getv1_L0 : Int → Int → Int → Int → (List Int) → (Int → Int → (List Int) → Option Bool) → Option Bool) (octet_Reader_Numv1 : Int → (Int → Option Bool) → Option Bool) (n1107 : Int) (n1108 : Int) (n1109 : Int) (n1110 : Int) (ns1111 : List Int) (k1 : Int → Int → (List Int) → Option Bool) : Option Bool :=
  (cond_ (decide (n1108 < n1107)) (octet_Reader_Numv1 (8 : Int)
  (fun n1112 => (cond_ (Nat.ble (((List.length ns1111) + (List.length (n1112 :: []))) * (8 : Nat)) (140737488355328 : Nat)) (data_Getv1_L0 n1107 (IntKind.wrap .i64 (n1108 + (1 : Int))) n1109 n1110 (ns1111 ++ (n1112 :: [])) k1) none))) (k1 n1109 n1110 ns1111))
noncomputable def data_Getv1_L0 : Nat → Int → Int → Int → Int → (List Int) → (Int → Int → (List Int) → Option Bool) → Option Bool
  | 0 => fun _ _ _ _ _ _ => none
  | n + 1 => data_Getv1_L0.body (data_Getv1_L0 n) octet_Reader_Numv1
noncomputable def data_Getv1_L0.get (F : Int → Int → Int → Int → (List Int) → (Int → Int → (List Int) → Option Bool) → Option Bool) (e : Option Bool) (st : St) (k : KE) : Option Bool := match st with
  | ⟨sl, hp, m⟩ => match Nat.beq m 2, pickS 55 [0, 2, 4, 11, 12] sl, hp with
    | true, some [.nilp, (.ptr [1, 0] 0 0), (.ptr [1, 1] 0 0), (.d ⟨(.int .i64), n1107⟩), (.d ⟨(.int .i64), n1108⟩)], [([1, 0], ⟨25, 3, (.mix [(.agg [(.d ⟨(.int .i64), n1109⟩), .nils, .nils])])⟩), ([1, 1], ⟨25, 3, (.mix [(.agg [(.d ⟨(.int .i64), n1110⟩), (.ref [1, 2]), .nils])])⟩), ([1, 2], ⟨2, 1, (.data (.int .i64) ns1111)⟩)] => F n1107 n1108 n1109 n1110 ns1111 (fun y0 y1 y2 => k (.exit 0) ⟨fillS 55 [0, 2, 4] [.nilp, (.ptr [1, 0] 0 0), (.ptr [1, 1] 0 0)], [([1, 0], ⟨25, 3, (.mix [(.agg [(.d ⟨(.int .i64), y0⟩), .nils, .nils])])⟩), ([1, 1], ⟨25, 3, (.mix [(.agg [(.d ⟨(.int .i64), y1⟩), (.ref [1, 2]), .nils])])⟩), ([1, 2], ⟨2, 1, (.data (.int .i64) y2)⟩)], 2⟩)
    | _, _, _ => e
noncomputable def data_Getv1_L0.calls (F0 : Int → (Int → Option Bool) → Option Bool) : RecF := fun g a h k => (octet_Reader_Numv1.get F0 none g a h k)
noncomputable def data_Getv1_L0.loops : LoopF := fun b => none
set_option maxRecDepth 100000 in
theorem data_Getv1_L0.step (S : Int → Int → Int → Int → (List Int) → (Int → Int → (List Int) → Option Bool) → Option Bool) (F0 : Int → (Int → Option Bool) → Option Bool) (n1107 : Int) (n1108 : Int) (n1109 : Int) (n1110 : Int) (ns1111 : List Int) (k : KE) : execL Try.prog ht 18 (callfOf (data_Getv1_L0.calls F0)) (data_Getv1_L0.loops) 0 (loopAt 0 (codeOf Try.f18)) ⟨fillS 55 [0, 2, 4, 11, 12] [.nilp, (.ptr [1, 0] 0 0), (.ptr [1, 1] 0 0), (.d ⟨(.int .i64), n1107⟩), (.d ⟨(.int .i64), n1108⟩)], [([1, 0], ⟨25, 3, (.mix [(.agg [(.d ⟨(.int .i64), n1109⟩), .nils, .nils])])⟩), ([1, 1], ⟨25, 3, (.mix [(.agg [(.d ⟨(.int .i64), n1110⟩), (.ref [1, 2]), .nils])])⟩), ([1, 2], ⟨2, 1, (.data (.int .i64) ns1111)⟩)], 2⟩ (again (data_Getv1_L0.get S none) (plan Try.prog (ht 18 0)) k) = data_Getv1_L0.body S F0 n1107 n1108 n1109 n1110 ns1111 (fun y0 y1 y2 => k (.exit 0) ⟨fillS 55 [0, 2, 4] [.nilp, (.ptr [1, 0] 0 0), (.ptr [1, 1] 0 0)], [([1, 0], ⟨25, 3, (.mix [(.agg [(.d ⟨(.int .i64), y0⟩), .nils, .nils])])⟩), ([1, 1], ⟨25, 3, (.mix [(.agg [(.d ⟨(.int .i64), y1⟩), (.ref [1, 2]), .nils])])⟩), ([1, 2], ⟨2, 1, (.data (.int .i64) y2)⟩)], 2⟩) := by kernel_rfl
theorem data_Getv1_L0.ok (d : Nat) (hd : 4 ≤ d) : ∀ n st k, data_Getv1_L0.get (data_Getv1_L0 n) none st k = some true → iter n (plan Try.prog (ht 18 0)) (fun st k => execK Try.prog ht 18 (callfOf (callK Try.prog ht d)) 0 (loopAt 0 (codeOf Try.f18)) st k) st k = some true :=
  loop_ok (lfn := fun n st k => data_Getv1_L0.get (data_Getv1_L0 n) none st k) (rec := data_Getv1_L0.calls octet_Reader_Numv1) (fun g a h k hx => by
    rcases octet_Reader_Numv1.look d (by omega) hx with hx | hx
    rotate_left
    · exact hx
    cases hx) (loopf := data_Getv1_L0.loops) (by
    have e : loopsOf (data_Getv1_L0.loops) 0 (loopAt 0 (codeOf Try.f18)) = [] := by kernel_rfl
    rw [e]
    intro p hp
    cases hp) (fun st k h => by
    obtain ⟨sl, hp, m⟩ := st
    unfold data_Getv1_L0.get at h
    dsimp only at h
    split at h
    · have h' : (none : Option Bool) = some true := h
      cases h'
    · cases h) (fun n st k h => by
    obtain ⟨sl, hp, m⟩ := st
    unfold data_Getv1_L0.get at h
    dsimp only at h
    split at h
    · rename_i h1 h2
      obtain rfl := pickS_ok h2
      obtain rfl := Nat.eq_of_beq_eq_true h1
      exact (data_Getv1_L0.step (data_Getv1_L0 n) octet_Reader_Numv1 _ _ _ _ _ k).trans h
    · cases h)
theorem data_Getv1_L0.look {F : Int → Int → Int → Int → (List Int) → (Int → Int → (List Int) → Option Bool) → Option Bool} {e : Option Bool} {st : St} {k : KE} (hx : data_Getv1_L0.get F e st k = some true) : e = some true ∨ data_Getv1_L0.get F none st k = some true := by
  obtain ⟨sl, hp, m⟩ := st
  unfold data_Getv1_L0.get at hx ⊢
  dsimp only at hx ⊢
  split at hx
  · exact .inr hx
  · exact .inl hx
/-- function 18: the loop in block 2 -/
noncomputable def data_Getv1_L2.body (data_Getv1_L2 : Int → Int → Int → Int → (List Int) → Tc0 → (Int → Tc4 → Option Bool) → (Int → Int → (List Int) → Tc0 → Option Bool) → Option Bool) (octet_Reader_Numv1 : Int → (Int → Option Bool) → Option Bool) (octet_Reader_Badv1 : (Bool → Option Bool) → Option Bool) (n1117 : Int) (n1118 : Int) (n1119 : Int) (n1120 : Int) (ns1121 : List Int) (ts1122 : Tc0) (k1 : Int → Tc4 → Option Bool) (k2 : Int → Int → (List Int) → Tc0 → Option Bool) : Option Bool :=
  (cond_ (decide (n1118 < n1117)) (octet_Reader_Numv1 (1 : Int)
  (fun n1123 => (octet_Reader_Numv1 (1 : Int)
  (fun n1124 => (octet_Reader_Numv1 (1 : Int)
  (fun n1125 => (octet_Reader_Badv1
  (fun b1126 => (cond_ b1126 (k1 (5 : Int) ((0 : Int), ([], ([], ())))) (cond_ (decide (n1125 > (1 : Int))) (k1 (3 : Int) ((0 : Int), ([], ([], ())))) (cond_ (Nat.ble (((List.length ts1122) + (List.length ((((n1123, (n1124, (false, ()))).1, ((n1123, (n1124, (false, ()))).2.1, ((n1125 == (1 : Int)), ()))).1, (((n1123, (n1124, (false, ()))).1, ((n1123, (n1124, (false, ()))).2.1, ((n1125 == (1 : Int)), ()))).2.1, (((n1123, (n1124, (false, ()))).1, ((n1123, (n1124, (false, ()))).2.1, ((n1125 == (1 : Int)), ()))).2.2.1, ()))) :: []))) * (24 : Nat)) (140737488355328 : Nat)) (data_Getv1_L2 n1117 (IntKind.wrap .i64 (n1118 + (1 : Int))) n1119 n1120 ns1121 (ts1122 ++ ((((n1123, (n1124, (false, ()))).1, ((n1123, (n1124, (false, ()))).2.1, ((n1125 == (1 : Int)), ()))).1, (((n1123, (n1124, (false, ()))).1, ((n1123, (n1124, (false, ()))).2.1, ((n1125 == (1 : Int)), ()))).2.1, (((n1123, (n1124, (false, ()))).1, ((n1123, (n1124, (false, ()))).2.1, ((n1125 == (1 : Int)), ()))).2.2.1, ()))) :: [])) k1 k2) none))))))))))) (k2 n1119 n1120 ns1121 ts1122))
noncomputable def data_Getv1_L2 : Nat → Int → Int → Int → Int → (List Int) → Tc0 → (Int → Tc4 → Option Bool) → (Int → Int → (List Int) → Tc0 → Option Bool) → Option Bool
  | 0 => fun _ _ _ _ _ _ _ _ => none
  | n + 1 => data_Getv1_L2.body (data_Getv1_L2 n) octet_Reader_Numv1 octet_Reader_Badv1
noncomputable def data_Getv1_L2.get (F : Int → Int → Int → Int → (List Int) → Tc0 → (Int → Tc4 → Option Bool) → (Int → Int → (List Int) → Tc0 → Option Bool) → Option Bool) (e : Option Bool) (st : St) (k : KE) : Option Bool := match st with
  | ⟨sl, hp, m⟩ => match Nat.beq m 2, pickS 55 [0, 2, 4, 23, 24] sl, hp with
    | true, some [.nilp, (.ptr [1, 0] 0 0), (.ptr [1, 1] 0 0), (.d ⟨(.int .i64), n1117⟩), (.d ⟨(.int .i64), n1118⟩)], [([1, 0], ⟨25, 3, (.mix [(.agg [(.d ⟨(.int .i64), n1119⟩), .nils, .nils])])⟩), ([1, 1], ⟨25, 3, (.mix [(.agg [(.d ⟨(.int .i64), n1120⟩), (.ref [1, 2]), (.ref [1, 3])])])⟩), ([1, 2], ⟨2, 1, (.data (.int .i64) ns1121)⟩), ([1, 3], ⟨51, 3, (.data (.st [(.int .i64), (.int .i64), .bool]) ts1122)⟩)] => F n1117 n1118 n1119 n1120 ns1121 ts1122 (fun y0 y1 => k .ret ⟨fillS 55 [2, 3] [(.ptr [1, 0] 0 0), (.d ⟨(.int .i64), y0⟩)], [([1, 0], ⟨25, 3, (.data (.st [(.int .i64), (.sl 2 (.int .i64)), (.sl 51 (.st [(.int .i64), (.int .i64), .bool]))]) [y1])⟩)], 2⟩) (fun y0 y1 y2 y3 => k (.exit 2) ⟨fillS 55 [0, 2, 4] [.nilp, (.ptr [1, 0] 0 0), (.ptr [1, 1] 0 0)], [([1, 0], ⟨25, 3, (.mix [(.agg [(.d ⟨(.int .i64), y0⟩), .nils, .nils])])⟩), ([1, 1], ⟨25, 3, (.mix [(.agg [(.d ⟨(.int .i64), y1⟩), (.ref [1, 2]), (.ref [1, 3])])])⟩), ([1, 2], ⟨2, 1, (.data (.int .i64) y2)⟩), ([1, 3], ⟨51, 3, (.data (.st [(.int .i64), (.int .i64), .bool]) y3)⟩)], 2⟩)
    | _, _, _ => e
noncomputable def data_Getv1_L2.calls (F0 : Int → (Int → Option Bool) → Option Bool) (F1 : (Bool → Option Bool) → Option Bool) : RecF := fun g a h k => (octet_Reader_Numv1.get F0 (octet_Reader_Badv1.get F1 none g a h k) g a h k)
noncomputable def data_Getv1_L2.loops : LoopF := fun b => none
set_option maxRecDepth 100000 in
theorem data_Getv1_L2.step (S : Int → Int → Int → Int → (List Int) → Tc0 → (Int → Tc4 → Option Bool) → (Int → Int → (List Int) → Tc0 → Option Bool) → Option Bool) (F0 : Int → (Int → Option Bool) → Option Bool) (F1 : (Bool → Option Bool) → Option Bool) (n1117 : Int) (n1118 : Int) (n1119 : Int) (n1120 : Int) (ns1121 : List Int) (ts1122 : Tc0) (k : KE) : execL Try.prog ht 18 (callfOf (data_Getv1_L2.calls F0 F1)) (data_Getv1_L2.loops) 2 (loopAt 2 (codeOf Try.f18)) ⟨fillS 55 [0, 2, 4, 23, 24] [.nilp, (.ptr [1, 0] 0 0), (.ptr [1, 1] 0 0), (.d ⟨(.int .i64), n1117⟩), (.d ⟨(.int .i64), n1118⟩)], [([1, 0], ⟨25, 3, (.mix [(.agg [(.d ⟨(.int .i64), n1119⟩), .nils, .nils])])⟩), ([1, 1], ⟨25, 3, (.mix [(.agg [(.d ⟨(.int .i64), n1120⟩), (.ref [1, 2]), (.ref [1, 3])])])⟩), ([1, 2], ⟨2, 1, (.data (.int .i64) ns1121)⟩), ([1, 3], ⟨51, 3, (.data (.st [(.int .i64), (.int .i64), .bool]) ts1122)⟩)], 2⟩ (again (data_Getv1_L2.get S none) (plan Try.prog (ht 18 2)) k) = data_Getv1_L2.body S F0 F1 n1117 n1118 n1119 n1120 ns1121 ts1122 (fun y0 y1 => k .ret ⟨fillS 55 [2, 3] [(.ptr [1, 0] 0 0), (.d ⟨(.int .i64), y0⟩)], [([1, 0], ⟨25, 3, (.data (.st [(.int .i64), (.sl 2 (.int .i64)), (.sl 51 (.st [(.int .i64), (.int .i64), .bool]))]) [y1])⟩)], 2⟩) (fun y0 y1 y2 y3 => k (.exit 2) ⟨fillS 55 [0, 2, 4] [.nilp, (.ptr [1, 0] 0 0), (.ptr [1, 1] 0 0)], [([1, 0], ⟨25, 3, (.mix [(.agg [(.d ⟨(.int .i64), y0⟩), .nils, .nils])])⟩), ([1, 1], ⟨25, 3, (.mix [(.agg [(.d ⟨(.int .i64), y1⟩), (.ref [1, 2]), (.ref [1, 3])])])⟩), ([1, 2], ⟨2, 1, (.data (.int .i64) y2)⟩), ([1, 3], ⟨51, 3, (.data (.st [(.int .i64), (.int .i64), .bool]) y3)⟩)], 2⟩) := by kernel_rfl
theorem data_Getv1_L2.ok (d : Nat) (hd : 4 ≤ d) : ∀ n st k, data_Getv1_L2.get (data_Getv1_L2 n) none st k = some true → iter n (plan Try.prog (ht 18 2)) (fun st k => execK Try.prog ht 18 (callfOf (callK Try.prog ht d)) 2 (loopAt 2 (codeOf Try.f18)) st k) st k = some true :=
  loop_ok (lfn := fun n st k => data_Getv1_L2.get (data_Getv1_L2 n) none st k) (rec := data_Getv1_L2.calls octet_Reader_Numv1 octet_Reader_Badv1) (fun g a h k hx => by
    rcases octet_Reader_Numv1.look d (by omega) hx with hx | hx
    rotate_left
    · exact hx
    rcases octet_Reader_Badv1.look d (by omega) hx with hx | hx
    rotate_left
    · exact hx
    cases hx) (loopf := data_Getv1_L2.loops) (by
    have e : loopsOf (data_Getv1_L2.loops) 2 (loopAt 2 (codeOf Try.f18)) = [] := by kernel_rfl
    rw [e]
    intro p hp
    cases hp) (fun st k h => by
    obtain ⟨sl, hp, m⟩ := st
    unfold data_Getv1_L2.get at h
    dsimp only at h
    split at h
    · have h' : (none : Option Bool) = some true := h
      cases h'
    · cases h) (fun n st k h => by
    obtain ⟨sl, hp, m⟩ := st
    unfold data_Getv1_L2.get at h
    dsimp only at h
    split at h
    · rename_i h1 h2
      obtain rfl := pickS_ok h2
      obtain rfl := Nat.eq_of_beq_eq_true h1
      exact (data_Getv1_L2.step (data_Getv1_L2 n) octet_Reader_Numv1 octet_Reader_Badv1 _ _ _ _ _ _ k).trans h
    · cases h)
theorem data_Getv1_L2.look {F : Int → Int → Int → Int → (List Int) → Tc0 → (Int → Tc4 → Option Bool) → (Int → Int → (List Int) → Tc0 → Option Bool) → Option Bool} {e : Option Bool} {st : St} {k : KE} (hx : data_Getv1_L2.get F e st k = some true) : e = some true ∨ data_Getv1_L2.get F none st k = some true := by
  obtain ⟨sl, hp, m⟩ := st
  unfold data_Getv1_L2.get at hx ⊢
  dsimp only at hx ⊢
  split at hx
  · exact .inr hx
  · exact .inl hx
/-- function 18: sheerleg/data.Get -/
noncomputable def data_Getv1.body (octet_Reader_Numv1 : Int → (Int → Option Bool) → Option Bool) (octet_Reader_Badv1 : (Bool → Option Bool) → Option Bool) (data_Getv1_L0 : Int → Int → Int → Int → (List Int) → (Int → Int → (List Int) → Option Bool) → Option Bool) (data_Getv1_L2 : Int → Int → Int → Int → (List Int) → Tc0 → (Int → Tc4 → Option Bool) → (Int → Int → (List Int) → Tc0 → Option Bool) → Option Bool) (k1 : Tc4 → Int → Option Bool) : Option Bool :=
  (octet_Reader_Numv1 (1 : Int)
  (fun n1105 => (octet_Reader_Numv1 (1 : Int)
  (fun n1106 => (data_Getv1_L0 n1106 (0 : Int) (0 : Int) n1105 []
  (fun n1113 n1114 ns1115 => (octet_Reader_Numv1 (1 : Int)
  (fun n1116 => (data_Getv1_L2 n1116 (0 : Int) n1113 n1114 ns1115 []
  (fun n1127 t1128 => (k1 t1128 n1127))
  (fun n1129 n1130 ns1131 ts1132 => (octet_Reader_Badv1
  (fun b1133 => (cond_ b1133 (k1 ((0 : Int), ([], ([], ()))) (5 : Int)) (k1 (n1130, (ns1131, (ts1132, ()))) (0 : Int)))))))))))))))
noncomputable def data_Getv1 (k1 : Tc4 → Int → Option Bool) : Option Bool := data_Getv1.body octet_Reader_Numv1 octet_Reader_Badv1 (data_Getv1_L0 ROUNDS) (data_Getv1_L2 ROUNDS) k1
noncomputable def data_Getv1.get (F : (Tc4 → Int → Option Bool) → Option Bool) (e : Option Bool) (g : FuncId) (a : List AV) (h : Heap) (k : KR) : Option Bool := match g, a, h with
  | 18, [.nilp], [] => F (fun y0 y1 => k (.tup [(.d ⟨(.st [(.int .i64), (.sl 2 (.int .i64)), (.sl 51 (.st [(.int .i64), (.int .i64), .bool]))]), y0⟩), (.d ⟨(.int .i64), y1⟩)]) [])
  | _, _, _ => e
noncomputable def data_Getv1.calls (F0 : Int → (Int → Option Bool) → Option Bool) (F1 : (Bool → Option Bool) → Option Bool) : RecF := fun g a h k => (octet_Reader_Numv1.get F0 (octet_Reader_Badv1.get F1 none g a h k) g a h k)
noncomputable def data_Getv1.loops (L0 : Int → Int → Int → Int → (List Int) → (Int → Int → (List Int) → Option Bool) → Option Bool) (L1 : Int → Int → Int → Int → (List Int) → Tc0 → (Int → Tc4 → Option Bool) → (Int → Int → (List Int) → Tc0 → Option Bool) → Option Bool) : LoopF := fun b => match Nat.beq b 0 with | true => some (fun st k => (data_Getv1_L0.get L0 none st k)) | false => match Nat.beq b 2 with | true => some (fun st k => (data_Getv1_L2.get L1 none st k)) | false => none
set_option maxRecDepth 100000 in
theorem data_Getv1.eq (F0 : Int → (Int → Option Bool) → Option Bool) (F1 : (Bool → Option Bool) → Option Bool) (L0 : Int → Int → Int → Int → (List Int) → (Int → Int → (List Int) → Option Bool) → Option Bool) (L1 : Int → Int → Int → Int → (List Int) → Tc0 → (Int → Tc4 → Option Bool) → (Int → Int → (List Int) → Tc0 → Option Bool) → Option Bool) (k : KR) : execL Try.prog ht 18 (callfOf (data_Getv1.calls F0 F1)) (data_Getv1.loops L0 L1) 0 (codeOf Try.f18) ⟨[.nilp] ++ List.replicate (Try.f18.ntmps - ([.nilp] : List AV).length) .undef, [], 2⟩ (leave Try.prog Try.f18 k) = data_Getv1.body F0 F1 L0 L1 (fun y0 y1 => k (.tup [(.d ⟨(.st [(.int .i64), (.sl 2 (.int .i64)), (.sl 51 (.st [(.int .i64), (.int .i64), .bool]))]), y0⟩), (.d ⟨(.int .i64), y1⟩)]) []) := by kernel_rfl
theorem data_Getv1.ok (d : Nat) (hd : 5 ≤ d) (k : KR) (hx : data_Getv1 (fun y0 y1 => k (.tup [(.d ⟨(.st [(.int .i64), (.sl 2 (.int .i64)), (.sl 51 (.st [(.int .i64), (.int .i64), .bool]))]), y0⟩), (.d ⟨(.int .i64), y1⟩)]) []) = some true) : callK Try.prog ht d 18 [.nilp] [] k = some true := by
  obtain ⟨d, rfl⟩ : ∃ e, d = e + 1 := ⟨d - 1, by omega⟩
  exact fn_ok (c := codeOf Try.f18) Try.func18 (by kernel_rfl) (rec := data_Getv1.calls octet_Reader_Numv1 octet_Reader_Badv1) (fun g a h k hx => by
    rcases octet_Reader_Numv1.look d (by omega) hx with hx | hx
    rotate_left
    · exact hx
    rcases octet_Reader_Badv1.look d (by omega) hx with hx | hx
    rotate_left
    · exact hx
    cases hx) (loopf := data_Getv1.loops (data_Getv1_L0 ROUNDS) (data_Getv1_L2 ROUNDS)) (by
    have e : loopsOf (data_Getv1.loops (data_Getv1_L0 ROUNDS) (data_Getv1_L2 ROUNDS)) 0 (codeOf Try.f18) = [(0, loopAt 0 (codeOf Try.f18)), (2, loopAt 2 (codeOf Try.f18))] := by kernel_rfl
    rw [e]
    intro p hp
    simp only [List.mem_cons, List.not_mem_nil, or_false] at hp
    rcases hp with rfl | rfl
    · refine loopRef_of (callf := callfOf (callK Try.prog ht d)) (callfOf_ref (callK_mono d)) fun lf st k hb hx => ?_
      cases hb
      rcases data_Getv1_L0.look hx with hx | hx
      rotate_left
      · exact data_Getv1_L0.ok d (by omega) _ _ _ hx
      cases hx
    · refine loopRef_of (callf := callfOf (callK Try.prog ht d)) (callfOf_ref (callK_mono d)) fun lf st k hb hx => ?_
      cases hb
      rcases data_Getv1_L2.look hx with hx | hx
      rotate_left
      · exact data_Getv1_L2.ok d (by omega) _ _ _ hx
      cases hx) ((data_Getv1.eq octet_Reader_Numv1 octet_Reader_Badv1 (data_Getv1_L0 ROUNDS) (data_Getv1_L2 ROUNDS) k).trans hx)
theorem data_Getv1.look (d : Nat) (hd : 5 ≤ d) {e : Option Bool} {g : FuncId} {a : List AV} {h : Heap} {k : KR} (hx : data_Getv1.get data_Getv1 e g a h k = some true) : e = some true ∨ callK Try.prog ht d g a h k = some true := by
  unfold data_Getv1.get at hx
  split at hx
  · exact .inr (data_Getv1.ok d hd _ hx)
  · exact .inl hx
/-- function 29: sheerleg/octet.Put -/
noncomputable def octet_Put.body (ns1166 : List Int) (n1167 : Int) (n1168 : Int) (k1 : (List Int) → Option Bool) : Option Bool :=
  (cond_ (Nat.ble (((0 : Nat) + (List.length ns1166)) * (1 : Nat)) (140737488355328 : Nat)) (cond_ (! (decide (n1168 < (1 : Int)))) (cond_ (decide (n1168 > (8 : Int))) (k1 ([] ++ ns1166)) (cond_ (((decide ((0 : Int) ≤ (IntKind.wrap .i64 ((8 : Int) - n1168)))) && (decide ((IntKind.wrap .i64 ((8 : Int) - n1168)) ≤ (8 : Int)))) && true) (cond_ (Nat.ble (((List.length ([] ++ ns1166)) + (List.length (List.take (Int.toNat ((8 : Int) - (IntKind.wrap .i64 ((8 : Int) - n1168)))) (List.drop (Int.toNat (IntKind.wrap .i64 ((8 : Int) - n1168))) ((IntKind.wrap .u8 (Int.fdiv n1167 (72057594037927936 : Int))) :: ((IntKind.wrap .u8 (Int.fdiv n1167 (281474976710656 : Int))) :: ((IntKind.wrap .u8 (Int.fdiv n1167 (1099511627776 : Int))) :: ((IntKind.wrap .u8 (Int.fdiv n1167 (4294967296 : Int))) :: ((IntKind.wrap .u8 (Int.fdiv n1167 (16777216 : Int))) :: ((IntKind.wrap .u8 (Int.fdiv n1167 (65536 : Int))) :: ((IntKind.wrap .u8 (Int.fdiv n1167 (256 : Int))) :: ((IntKind.wrap .u8 (Int.fdiv n1167 (1 : Int))) :: [])))))))))))) * (1 : Nat)) (140737488355328 : Nat)) (k1 (([] ++ ns1166) ++ (List.take (Int.toNat ((8 : Int) - (IntKind.wrap .i64 ((8 : Int) - n1168)))) (List.drop (Int.toNat (IntKind.wrap .i64 ((8 : Int) - n1168))) ((IntKind.wrap .u8 (Int.fdiv n1167 (72057594037927936 : Int))) :: ((IntKind.wrap .u8 (Int.fdiv n1167 (281474976710656 : Int))) :: ((IntKind.wrap .u8 (Int.fdiv n1167 (1099511627776 : Int))) :: ((IntKind.wrap .u8 (Int.fdiv n1167 (4294967296 : Int))) :: ((IntKind.wrap .u8 (Int.fdiv n1167 (16777216 : Int))) :: ((IntKind.wrap .u8 (Int.fdiv n1167 (65536 : Int))) :: ((IntKind.wrap .u8 (Int.fdiv n1167 (256 : Int))) :: ((IntKind.wrap .u8 (Int.fdiv n1167 (1 : Int))) :: [])))))))))))) none) none)) (k1 ([] ++ ns1166))) none)
noncomputable def octet_Put (ns1166 : List Int) (n1167 : Int) (n1168 : Int) (k1 : (List Int) → Option Bool) : Option Bool := octet_Put.body ns1166 n1167 n1168 k1
noncomputable def octet_Put.get (F : (List Int) → Int → Int → ((List Int) → Option Bool) → Option Bool) (e : Option Bool) (g : FuncId) (a : List AV) (h : Heap) (k : KR) : Option Bool := match g, a, h with
  | 29, [(.bv 0 5 (.int .u8) ns1166), (.d ⟨(.int .i64), n1167⟩), (.d ⟨(.int .i64), n1168⟩)], [] => F ns1166 n1167 n1168 (fun y0 => k (.ref [1, 0]) [([1, 0], ⟨5, 1, (.data (.int .u8) y0)⟩)])
  | _, _, _ => e
noncomputable def octet_Put.calls : RecF := fun g a h k => none
noncomputable def octet_Put.loops : LoopF := fun b => match Nat.beq b 0 with | true => none | false => none
set_option maxRecDepth 100000 in
theorem octet_Put.eq (ns1166 : List Int) (n1167 : Int) (n1168 : Int) (k : KR) : execL Try.prog ht 29 (callfOf (octet_Put.calls)) (octet_Put.loops) 0 (codeOf Try.f29) ⟨[(.bv 0 5 (.int .u8) ns1166), (.d ⟨(.int .i64), n1167⟩), (.d ⟨(.int .i64), n1168⟩)] ++ List.replicate (Try.f29.ntmps - ([(.bv 0 5 (.int .u8) ns1166), (.d ⟨(.int .i64), n1167⟩), (.d ⟨(.int .i64), n1168⟩)] : List AV).length) .undef, [], 2⟩ (leave Try.prog Try.f29 k) = octet_Put.body ns1166 n1167 n1168 (fun y0 => k (.ref [1, 0]) [([1, 0], ⟨5, 1, (.data (.int .u8) y0)⟩)]) := by kernel_rfl
theorem octet_Put.ok (d : Nat) (hd : 1 ≤ d) (ns1166 : List Int) (n1167 : Int) (n1168 : Int) (k : KR) (hx : octet_Put ns1166 n1167 n1168 (fun y0 => k (.ref [1, 0]) [([1, 0], ⟨5, 1, (.data (.int .u8) y0)⟩)]) = some true) : callK Try.prog ht d 29 [(.bv 0 5 (.int .u8) ns1166), (.d ⟨(.int .i64), n1167⟩), (.d ⟨(.int .i64), n1168⟩)] [] k = some true := by
  obtain ⟨d, rfl⟩ : ∃ e, d = e + 1 := ⟨d - 1, by omega⟩
  exact fn_ok (c := codeOf Try.f29) Try.func29 (by kernel_rfl) (rec := octet_Put.calls) (fun g a h k hx => by
    cases hx) (loopf := octet_Put.loops) (by
    have e : loopsOf (octet_Put.loops) 0 (codeOf Try.f29) = [] := by kernel_rfl
    rw [e]
    intro p hp
    cases hp) ((octet_Put.eq ns1166 n1167 n1168 k).trans hx)
theorem octet_Put.look (d : Nat) (hd : 1 ≤ d) {e : Option Bool} {g : FuncId} {a : List AV} {h : Heap} {k : KR} (hx : octet_Put.get octet_Put e g a h k = some true) : e = some true ∨ callK Try.prog ht d g a h k = some true := by
  unfold octet_Put.get at hx
  split at hx
  · exact .inr (octet_Put.ok d hd _ _ _ _ hx)
  · exact .inl hx
/-- function 29: sheerleg/octet.Put -/
noncomputable def octet_Putv1.body (ns1170 : List Int) (n1171 : Int) (n1172 : Int) (k1 : (List Int) → Option Bool) : Option Bool :=
  (cond_ (Nat.ble (((0 : Nat) + (List.length ns1170)) * (1 : Nat)) (140737488355328 : Nat)) (cond_ (! (decide (n1172 < (1 : Int)))) (cond_ (decide (n1172 > (8 : Int))) (k1 ([] ++ ns1170)) (cond_ (((decide ((0 : Int) ≤ (IntKind.wrap .i64 ((8 : Int) - n1172)))) && (decide ((IntKind.wrap .i64 ((8 : Int) - n1172)) ≤ (8 : Int)))) && true) (cond_ (Nat.ble (((List.length ([] ++ ns1170)) + (List.length (List.take (Int.toNat ((8 : Int) - (IntKind.wrap .i64 ((8 : Int) - n1172)))) (List.drop (Int.toNat (IntKind.wrap .i64 ((8 : Int) - n1172))) ((IntKind.wrap .u8 (Int.fdiv n1171 (72057594037927936 : Int))) :: ((IntKind.wrap .u8 (Int.fdiv n1171 (281474976710656 : Int))) :: ((IntKind.wrap .u8 (Int.fdiv n1171 (1099511627776 : Int))) :: ((IntKind.wrap .u8 (Int.fdiv n1171 (4294967296 : Int))) :: ((IntKind.wrap .u8 (Int.fdiv n1171 (16777216 : Int))) :: ((IntKind.wrap .u8 (Int.fdiv n1171 (65536 : Int))) :: ((IntKind.wrap .u8 (Int.fdiv n1171 (256 : Int))) :: ((IntKind.wrap .u8 (Int.fdiv n1171 (1 : Int))) :: [])))))))))))) * (1 : Nat)) (140737488355328 : Nat)) (k1 (([] ++ ns1170) ++ (List.take (Int.toNat ((8 : Int) - (IntKind.wrap .i64 ((8 : Int) - n1172)))) (List.drop (Int.toNat (IntKind.wrap .i64 ((8 : Int) - n1172))) ((IntKind.wrap .u8 (Int.fdiv n1171 (72057594037927936 : Int))) :: ((IntKind.wrap .u8 (Int.fdiv n1171 (281474976710656 : Int))) :: ((IntKind.wrap .u8 (Int.fdiv n1171 (1099511627776 : Int))) :: ((IntKind.wrap .u8 (Int.fdiv n1171 (4294967296 : Int))) :: ((IntKind.wrap .u8 (Int.fdiv n1171 (16777216 : Int))) :: ((IntKind.wrap .u8 (Int.fdiv n1171 (65536 : Int))) :: ((IntKind.wrap .u8 (Int.fdiv n1171 (256 : Int))) :: ((IntKind.wrap .u8 (Int.fdiv n1171 (1 : Int))) :: [])))))))))))) none) none)) (k1 ([] ++ ns1170))) none)
noncomputable def octet_Putv1 (ns1170 : List Int) (n1171 : Int) (n1172 : Int) (k1 : (List Int) → Option Bool) : Option Bool := octet_Putv1.body ns1170 n1171 n1172 k1
noncomputable def octet_Putv1.get (F : (List Int) → Int → Int → ((List Int) → Option Bool) → Option Bool) (e : Option Bool) (g : FuncId) (a : List AV) (h : Heap) (k : KR) : Option Bool := match g, a, h with
  | 29, [(.bv 1 5 (.int .u8) ns1170), (.d ⟨(.int .i64), n1171⟩), (.d ⟨(.int .i64), n1172⟩)], [] => F ns1170 n1171 n1172 (fun y0 => k (.ref [1, 0]) [([1, 0], ⟨5, 1, (.data (.int .u8) y0)⟩)])
  | _, _, _ => e
noncomputable def octet_Putv1.calls : RecF := fun g a h k => none
noncomputable def octet_Putv1.loops : LoopF := fun b => match Nat.beq b 0 with | true => none | false => none
set_option maxRecDepth 100000 in
theorem octet_Putv1.eq (ns1170 : List Int) (n1171 : Int) (n1172 : Int) (k : KR) : execL Try.prog ht 29 (callfOf (octet_Putv1.calls)) (octet_Putv1.loops) 0 (codeOf Try.f29) ⟨[(.bv 1 5 (.int .u8) ns1170), (.d ⟨(.int .i64), n1171⟩), (.d ⟨(.int .i64), n1172⟩)] ++ List.replicate (Try.f29.ntmps - ([(.bv 1 5 (.int .u8) ns1170), (.d ⟨(.int .i64), n1171⟩), (.d ⟨(.int .i64), n1172⟩)] : List AV).length) .undef, [], 2⟩ (leave Try.prog Try.f29 k) = octet_Putv1.body ns1170 n1171 n1172 (fun y0 => k (.ref [1, 0]) [([1, 0], ⟨5, 1, (.data (.int .u8) y0)⟩)]) := by kernel_rfl
theorem octet_Putv1.ok (d : Nat) (hd : 1 ≤ d) (ns1170 : List Int) (n1171 : Int) (n1172 : Int) (k : KR) (hx : octet_Putv1 ns1170 n1171 n1172 (fun y0 => k (.ref [1, 0]) [([1, 0], ⟨5, 1, (.data (.int .u8) y0)⟩)]) = some true) : callK Try.prog ht d 29 [(.bv 1 5 (.int .u8) ns1170), (.d ⟨(.int .i64), n1171⟩), (.d ⟨(.int .i64), n1172⟩)] [] k = some true := by
  obtain ⟨d, rfl⟩ : ∃ e, d = e + 1 := ⟨d - 1, by omega⟩
  exact fn_ok (c := codeOf Try.f29) Try.func29 (by kernel_rfl) (rec := octet_Putv1.calls) (fun g a h k hx => by
    cases hx) (loopf := octet_Putv1.loops) (by
    have e : loopsOf (octet_Putv1.loops) 0 (codeOf Try.f29) = [] := by kernel_rfl
    rw [e]
    intro p hp
    cases hp) ((octet_Putv1.eq ns1170 n1171 n1172 k).trans hx)
theorem octet_Putv1.look (d : Nat) (hd : 1 ≤ d) {e : Option Bool} {g : FuncId} {a : List AV} {h : Heap} {k : KR} (hx : octet_Putv1.get octet_Putv1 e g a h k = some true) : e = some true ∨ callK Try.prog ht d g a h k = some true := by
  unfold octet_Putv1.get at hx
  split at hx
  · exact .inr (octet_Putv1.ok d hd _ _ _ _ hx)
  · exact .inl hx
/-- function 15: the loop in block 0 -/
noncomputable def data_Put_L0.body (data_Put_L0 : (List Int) → Int → Int → (List Int) → Tc4 → ((List Int) → Tc4 → Option Bool) → Option Bool) (octet_Putv1 : (List Int) → Int → Int → ((List Int) → Option Bool) → Option Bool) (l1174 : List Int) (n1175 : Int) (n1176 : Int) (ns1177 : List Int) (t1178 : Tc4) (k1 : (List Int) → Tc4 → Option Bool) : Option Bool :=
  (cond_ (decide (n1176 < n1175)) (cond_ ((decide ((0 : Int) ≤ n1176)) && (decide (n1176 < (((List.length l1174) : Nat) : Int)))) (octet_Putv1 ns1177 (List.getD l1174 (Int.toNat n1176) (0 : Int)) (8 : Int)
  (fun ns1179 => (data_Put_L0 l1174 n1175 (IntKind.wrap .i64 (n1176 + (1 : Int))) ns1179 t1178 k1))) none) (k1 ns1177 t1178))
noncomputable def data_Put_L0 : Nat → (List Int) → Int → Int → (List Int) → Tc4 → ((List Int) → Tc4 → Option Bool) → Option Bool
  | 0 => fun _ _ _ _ _ _ => none
  | n + 1 => data_Put_L0.body (data_Put_L0 n) octet_Putv1
noncomputable def data_Put_L0.get (F : (List Int) → Int → Int → (List Int) → Tc4 → ((List Int) → Tc4 → Option Bool) → Option Bool) (e : Option Bool) (st : St) (k : KE) : Option Bool := match st with
  | ⟨sl, hp, m⟩ => match Nat.beq m 2, pickS 54 [0, 3, 19, 20, 21] sl, hp with
    | true, some [(.ref [1, 0]), (.ptr [1, 1] 0 0), (.d ⟨(.sl 2 (.int .i64)), l1174⟩), (.d ⟨(.int .i64), n1175⟩), (.d ⟨(.int .i64), n1176⟩)], [([1, 0], ⟨5, 1, (.data (.int .u8) ns1177)⟩), ([1, 1], ⟨25, 3, (.data (.st [(.int .i64), (.sl 2 (.int .i64)), (.sl 51 (.st [(.int .i64), (.int .i64), .bool]))]) [t1178])⟩)] => F l1174 n1175 n1176 ns1177 t1178 (fun y0 y1 => k (.exit 0) ⟨fillS 54 [0, 3] [(.ref [1, 0]), (.ptr [1, 1] 0 0)], [([1, 0], ⟨5, 1, (.data (.int .u8) y0)⟩), ([1, 1], ⟨25, 3, (.data (.st [(.int .i64), (.sl 2 (.int .i64)), (.sl 51 (.st [(.int .i64), (.int .i64), .bool]))]) [y1])⟩)], 2⟩)
    | _, _, _ => e
noncomputable def data_Put_L0.calls (F0 : (List Int) → Int → Int → ((List Int) → Option Bool) → Option Bool) : RecF := fun g a h k => (octet_Putv1.get F0 none g a h k)
noncomputable def data_Put_L0.loops : LoopF := fun b => none
set_option maxRecDepth 100000 in
theorem data_Put_L0.step (S : (List Int) → Int → Int → (List Int) → Tc4 → ((List Int) → Tc4 → Option Bool) → Option Bool) (F0 : (List Int) → Int → Int → ((List Int) → Option Bool) → Option Bool) (l1174 : List Int) (n1175 : Int) (n1176 : Int) (ns1177 : List Int) (t1178 : Tc4) (k : KE) : execL Try.prog ht 15 (callfOf (data_Put_L0.calls F0)) (data_Put_L0.loops) 0 (loopAt 0 (codeOf Try.f15)) ⟨fillS 54 [0, 3, 19, 20, 21] [(.ref [1, 0]), (.ptr [1, 1] 0 0), (.d ⟨(.sl 2 (.int .i64)), l1174⟩), (.d ⟨(.int .i64), n1175⟩), (.d ⟨(.int .i64), n1176⟩)], [([1, 0], ⟨5, 1, (.data (.int .u8) ns1177)⟩), ([1, 1], ⟨25, 3, (.data (.st [(.int .i64), (.sl 2 (.int .i64)), (.sl 51 (.st [(.int .i64), (.int .i64), .bool]))]) [t1178])⟩)], 2⟩ (again (data_Put_L0.get S none) (plan Try.prog (ht 15 0)) k) = data_Put_L0.body S F0 l1174 n1175 n1176 ns1177 t1178 (fun y0 y1 => k (.exit 0) ⟨fillS 54 [0, 3] [(.ref [1, 0]), (.ptr [1, 1] 0 0)], [([1, 0], ⟨5, 1, (.data (.int .u8) y0)⟩), ([1, 1], ⟨25, 3, (.data (.st [(.int .i64), (.sl 2 (.int .i64)), (.sl 51 (.st [(.int .i64), (.int .i64), .bool]))]) [y1])⟩)], 2⟩) := by kernel_rfl
theorem data_Put_L0.ok (d : Nat) (hd : 1 ≤ d) : ∀ n st k, data_Put_L0.get (data_Put_L0 n) none st k = some true → iter n (plan Try.prog (ht 15 0)) (fun st k => execK Try.prog ht 15 (callfOf (callK Try.prog ht d)) 0 (loopAt 0 (codeOf Try.f15)) st k) st k = some true :=
  loop_ok (lfn := fun n st k => data_Put_L0.get (data_Put_L0 n) none st k) (rec := data_Put_L0.calls octet_Putv1) (fun g a h k hx => by
    rcases octet_Putv1.look d (by omega) hx with hx | hx
    rotate_left
    · exact hx
    cases hx) (loopf := data_Put_L0.loops) (by
    have e : loopsOf (data_Put_L0.loops) 0 (loopAt 0 (codeOf Try.f15)) = [] := by kernel_rfl
    rw [e]
    intro p hp
    cases hp) (fun st k h => by
    obtain ⟨sl, hp, m⟩ := st
    unfold data_Put_L0.get at h
    dsimp only at h
    split at h
    · have h' : (none : Option Bool) = some true := h
      cases h'
    · cases h) (fun n st k h => by
    obtain ⟨sl, hp, m⟩ := st
    unfold data_Put_L0.get at h
    dsimp only at h
    split at h
    · rename_i h1 h2
      obtain rfl := pickS_ok h2
      obtain rfl := Nat.eq_of_beq_eq_true h1
      exact (data_Put_L0.step (data_Put_L0 n) octet_Putv1 _ _ _ _ _ k).trans h
    · cases h)
theorem data_Put_L0.look {F : (List Int) → Int → Int → (List Int) → Tc4 → ((List Int) → Tc4 → Option Bool) → Option Bool} {e : Option Bool} {st : St} {k : KE} (hx : data_Put_L0.get F e st k = some true) : e = some true ∨ data_Put_L0.get F none st k = some true := by
  obtain ⟨sl, hp, m⟩ := st
  unfold data_Put_L0.get at hx ⊢
  dsimp only at hx ⊢
  split at hx
  · exact .inr hx
  · exact .inl hx
/-- function 15: the loop in block 2 -/
noncomputable def data_Put_L2.body (data_Put_L2 : Tc0 → Int → Int → (List Int) → ((List Int) → Option Bool) → Option Bool) (octet_Putv1 : (List Int) → Int → Int → ((List Int) → Option Bool) → Option Bool) (data_flag : Bool → (Int → Option Bool) → Option Bool) (l1183 : Tc0) (n1184 : Int) (n1185 : Int) (ns1186 : List Int) (k1 : (List Int) → Option Bool) : Option Bool :=
  (cond_ (decide (n1185 < n1184)) (cond_ ((decide ((0 : Int) ≤ n1185)) && (decide (n1185 < (((List.length l1183) : Nat) : Int)))) (octet_Putv1 ns1186 (List.getD l1183 (Int.toNat n1185) ((0 : Int), ((0 : Int), (false, ())))).1 (1 : Int)
  (fun ns1187 => (octet_Putv1 ns1187 (List.getD l1183 (Int.toNat n1185) ((0 : Int), ((0 : Int), (false, ())))).2.1 (1 : Int)
  (fun ns1188 => (data_flag (List.getD l1183 (Int.toNat n1185) ((0 : Int), ((0 : Int), (false, ())))).2.2.1
  (fun n1189 => (octet_Putv1 ns1188 n1189 (1 : Int)
  (fun ns1190 => (data_Put_L2 l1183 n1184 (IntKind.wrap .i64 (n1185 + (1 : Int))) ns1190 k1))))))))) none) (k1 ns1186))
noncomputable def data_Put_L2 : Nat → Tc0 → Int → Int → (List Int) → ((List Int) → Option Bool) → Option Bool
  | 0 => fun _ _ _ _ _ => none
  | n + 1 => data_Put_L2.body (data_Put_L2 n) octet_Putv1 data_flag
noncomputable def data_Put_L2.get (F : Tc0 → Int → Int → (List Int) → ((List Int) → Option Bool) → Option Bool) (e : Option Bool) (st : St) (k : KE) : Option Bool := match st with
  | ⟨sl, hp, m⟩ => match Nat.beq m 2, pickS 54 [0, 35, 36, 37] sl, hp with
    | true, some [(.ref [1, 0]), (.d ⟨(.sl 51 (.st [(.int .i64), (.int .i64), .bool])), l1183⟩), (.d ⟨(.int .i64), n1184⟩), (.d ⟨(.int .i64), n1185⟩)], [([1, 0], ⟨5, 1, (.data (.int .u8) ns1186)⟩)] => F l1183 n1184 n1185 ns1186 (fun y0 => k (.exit 2) ⟨fillS 54 [0] [(.ref [1, 0])], [([1, 0], ⟨5, 1, (.data (.int .u8) y0)⟩)], 2⟩)
    | _, _, _ => e
noncomputable def data_Put_L2.calls (F0 : (List Int) → Int → Int → ((List Int) → Option Bool) → Option Bool) (F1 : Bool → (Int → Option Bool) → Option Bool) : RecF := fun g a h k => (octet_Putv1.get F0 (data_flag.get F1 none g a h k) g a h k)
noncomputable def data_Put_L2.loops : LoopF := fun b => none
set_option maxRecDepth 100000 in
theorem data_Put_L2.step (S : Tc0 → Int → Int → (List Int) → ((List Int) → Option Bool) → Option Bool) (F0 : (List Int) → Int → Int → ((List Int) → Option Bool) → Option Bool) (F1 : Bool → (Int → Option Bool) → Option Bool) (l1183 : Tc0) (n1184 : Int) (n1185 : Int) (ns1186 : List Int) (k : KE) : execL Try.prog ht 15 (callfOf (data_Put_L2.calls F0 F1)) (data_Put_L2.loops) 2 (loopAt 2 (codeOf Try.f15)) ⟨fillS 54 [0, 35, 36, 37] [(.ref [1, 0]), (.d ⟨(.sl 51 (.st [(.int .i64), (.int .i64), .bool])), l1183⟩), (.d ⟨(.int .i64), n1184⟩), (.d ⟨(.int .i64), n1185⟩)], [([1, 0], ⟨5, 1, (.data (.int .u8) ns1186)⟩)], 2⟩ (again (data_Put_L2.get S none) (plan Try.prog (ht 15 2)) k) = data_Put_L2.body S F0 F1 l1183 n1184 n1185 ns1186 (fun y0 => k (.exit 2) ⟨fillS 54 [0] [(.ref [1, 0])], [([1, 0], ⟨5, 1, (.data (.int .u8) y0)⟩)], 2⟩) := by kernel_rfl
theorem data_Put_L2.ok (d : Nat) (hd : 1 ≤ d) : ∀ n st k, data_Put_L2.get (data_Put_L2 n) none st k = some true → iter n (plan Try.prog (ht 15 2)) (fun st k => execK Try.prog ht 15 (callfOf (callK Try.prog ht d)) 2 (loopAt 2 (codeOf Try.f15)) st k) st k = some true :=
  loop_ok (lfn := fun n st k => data_Put_L2.get (data_Put_L2 n) none st k) (rec := data_Put_L2.calls octet_Putv1 data_flag) (fun g a h k hx => by
    rcases octet_Putv1.look d (by omega) hx with hx | hx
    rotate_left
    · exact hx
    rcases data_flag.look d (by omega) hx with hx | hx
    rotate_left
    · exact hx
    cases hx) (loopf := data_Put_L2.loops) (by
    have e : loopsOf (data_Put_L2.loops) 2 (loopAt 2 (codeOf Try.f15)) = [] := by kernel_rfl
    rw [e]
    intro p hp
    cases hp) (fun st k h => by
    obtain ⟨sl, hp, m⟩ := st
    unfold data_Put_L2.get at h
    dsimp only at h
    split at h
    · have h' : (none : Option Bool) = some true := h
      cases h'
    · cases h) (fun n st k h => by
    obtain ⟨sl, hp, m⟩ := st
    unfold data_Put_L2.get at h
    dsimp only at h
    split at h
    · rename_i h1 h2
      obtain rfl := pickS_ok h2
      obtain rfl := Nat.eq_of_beq_eq_true h1
      exact (data_Put_L2.step (data_Put_L2 n) octet_Putv1 data_flag _ _ _ _ k).trans h
    · cases h)
theorem data_Put_L2.look {F : Tc0 → Int → Int → (List Int) → ((List Int) → Option Bool) → Option Bool} {e : Option Bool} {st : St} {k : KE} (hx : data_Put_L2.get F e st k = some true) : e = some true ∨ data_Put_L2.get F none st k = some true := by
  obtain ⟨sl, hp, m⟩ := st
  unfold data_Put_L2.get at hx ⊢
  dsimp only at hx ⊢
  split at hx
  · exact .inr hx
  · exact .inl hx
/-- function 15: sheerleg/data.Put -/
noncomputable def data_Put.body (octet_Put : (List Int) → Int → Int → ((List Int) → Option Bool) → Option Bool) (octet_Putv1 : (List Int) → Int → Int → ((List Int) → Option Bool) → Option Bool) (data_Put_L0 : (List Int) → Int → Int → (List Int) → Tc4 → ((List Int) → Tc4 → Option Bool) → Option Bool) (data_Put_L2 : Tc0 → Int → Int → (List Int) → ((List Int) → Option Bool) → Option Bool) (ns1164 : List Int) (t1165 : Tc4) (k1 : (List Int) → Option Bool) : Option Bool :=
  (octet_Put ns1164 t1165.1 (1 : Int)
  (fun ns1169 => (octet_Putv1 ns1169 (((List.length t1165.2.1) : Nat) : Int) (1 : Int)
  (fun ns1173 => (data_Put_L0 t1165.2.1 (((List.length t1165.2.1) : Nat) : Int) (0 : Int) ns1173 t1165
  (fun ns1180 t1181 => (octet_Putv1 ns1180 (((List.length t1181.2.2.1) : Nat) : Int) (1 : Int)
  (fun ns1182 => (data_Put_L2 t1181.2.2.1 (((List.length t1181.2.2.1) : Nat) : Int) (0 : Int) ns1182
  (fun ns1191 => (k1 ns1191)))))))))))
noncomputable def data_Put (ns1164 : List Int) (t1165 : Tc4) (k1 : (List Int) → Option Bool) : Option Bool := data_Put.body octet_Put octet_Putv1 (data_Put_L0 ROUNDS) (data_Put_L2 ROUNDS) ns1164 t1165 k1
noncomputable def data_Put.get (F : (List Int) → Tc4 → ((List Int) → Option Bool) → Option Bool) (e : Option Bool) (g : FuncId) (a : List AV) (h : Heap) (k : KR) : Option Bool := match g, a, h with
  | 15, [(.bv 0 5 (.int .u8) ns1164), (.d ⟨(.st [(.int .i64), (.sl 2 (.int .i64)), (.sl 51 (.st [(.int .i64), (.int .i64), .bool]))]), t1165⟩)], [] => F ns1164 t1165 (fun y0 => k (.ref [1, 0]) [([1, 0], ⟨5, 1, (.data (.int .u8) y0)⟩)])
  | _, _, _ => e
noncomputable def data_Put.calls (F0 : (List Int) → Int → Int → ((List Int) → Option Bool) → Option Bool) (F1 : (List Int) → Int → Int → ((List Int) → Option Bool) → Option Bool) : RecF := fun g a h k => (octet_Put.get F0 (octet_Putv1.get F1 none g a h k) g a h k)
noncomputable def data_Put.loops (L0 : (List Int) → Int → Int → (List Int) → Tc4 → ((List Int) → Tc4 → Option Bool) → Option Bool) (L1 : Tc0 → Int → Int → (List Int) → ((List Int) → Option Bool) → Option Bool) : LoopF := fun b => match Nat.beq b 0 with | true => some (fun st k => (data_Put_L0.get L0 none st k)) | false => match Nat.beq b 2 with | true => some (fun st k => (data_Put_L2.get L1 none st k)) | false => none
set_option maxRecDepth 100000 in
theorem data_Put.eq (F0 : (List Int) → Int → Int → ((List Int) → Option Bool) → Option Bool) (F1 : (List Int) → Int → Int → ((List Int) → Option Bool) → Option Bool) (L0 : (List Int) → Int → Int → (List Int) → Tc4 → ((List Int) → Tc4 → Option Bool) → Option Bool) (L1 : Tc0 → Int → Int → (List Int) → ((List Int) → Option Bool) → Option Bool) (ns1164 : List Int) (t1165 : Tc4) (k : KR) : execL Try.prog ht 15 (callfOf (data_Put.calls F0 F1)) (data_Put.loops L0 L1) 0 (codeOf Try.f15) ⟨[(.bv 0 5 (.int .u8) ns1164), (.d ⟨(.st [(.int .i64), (.sl 2 (.int .i64)), (.sl 51 (.st [(.int .i64), (.int .i64), .bool]))]), t1165⟩)] ++ List.replicate (Try.f15.ntmps - ([(.bv 0 5 (.int .u8) ns1164), (.d ⟨(.st [(.int .i64), (.sl 2 (.int .i64)), (.sl 51 (.st [(.int .i64), (.int .i64), .bool]))]), t1165⟩)] : List AV).length) .undef, [], 2⟩ (leave Try.prog Try.f15 k) = data_Put.body F0 F1 L0 L1 ns1164 t1165 (fun y0 => k (.ref [1, 0]) [([1, 0], ⟨5, 1, (.data (.int .u8) y0)⟩)]) := by kernel_rfl
theorem data_Put.ok (d : Nat) (hd : 2 ≤ d) (ns1164 : List Int) (t1165 : Tc4) (k : KR) (hx : data_Put ns1164 t1165 (fun y0 => k (.ref [1, 0]) [([1, 0], ⟨5, 1, (.data (.int .u8) y0)⟩)]) = some true) : callK Try.prog ht d 15 [(.bv 0 5 (.int .u8) ns1164), (.d ⟨(.st [(.int .i64), (.sl 2 (.int .i64)), (.sl 51 (.st [(.int .i64), (.int .i64), .bool]))]), t1165⟩)] [] k = some true := by
  obtain ⟨d, rfl⟩ : ∃ e, d = e + 1 := ⟨d - 1, by omega⟩
  exact fn_ok (c := codeOf Try.f15) Try.func15 (by kernel_rfl) (rec := data_Put.calls octet_Put octet_Putv1) (fun g a h k hx => by
    rcases octet_Put.look d (by omega) hx with hx | hx
    rotate_left
    · exact hx
    rcases octet_Putv1.look d (by omega) hx with hx | hx
    rotate_left
    · exact hx
    cases hx) (loopf := data_Put.loops (data_Put_L0 ROUNDS) (data_Put_L2 ROUNDS)) (by
    have e : loopsOf (data_Put.loops (data_Put_L0 ROUNDS) (data_Put_L2 ROUNDS)) 0 (codeOf Try.f15) = [(0, loopAt 0 (codeOf Try.f15)), (2, loopAt 2 (codeOf Try.f15))] := by kernel_rfl
    rw [e]
    intro p hp
    simp only [List.mem_cons, List.not_mem_nil, or_false] at hp
    rcases hp with rfl | rfl
    · refine loopRef_of (callf := callfOf (callK Try.prog ht d)) (callfOf_ref (callK_mono d)) fun lf st k hb hx => ?_
      cases hb
      rcases data_Put_L0.look hx with hx | hx
      rotate_left
      · exact data_Put_L0.ok d (by omega) _ _ _ hx
      cases hx
    · refine loopRef_of (callf := callfOf (callK Try.prog ht d)) (callfOf_ref (callK_mono d)) fun lf st k hb hx => ?_
      cases hb
      rcases data_Put_L2.look hx with hx | hx
      rotate_left
      · exact data_Put_L2.ok d (by omega) _ _ _ hx
      cases hx) ((data_Put.eq octet_Put octet_Putv1 (data_Put_L0 ROUNDS) (data_Put_L2 ROUNDS) ns1164 t1165 k).trans hx)
theorem data_Put.look (d : Nat) (hd : 2 ≤ d) {e : Option Bool} {g : FuncId} {a : List AV} {h : Heap} {k : KR} (hx : data_Put.get data_Put e g a h k = some true) : e = some true ∨ callK Try.prog ht d g a h k = some true := by
  unfold data_Put.get at hx
  split at hx
  · exact .inr (data_Put.ok d hd _ _ _ hx)
  · exact .inl hx
/-- function 4: sheerleg/sheerleglaw15.DataOctets -/
noncomputable def law15_DataOctets.body (ref15_Few : Tc4 → (Bool → Option Bool) → Option Bool) (law15_known : (Bool → Option Bool) → Option Bool) (data_Put : (List Int) → Tc4 → ((List Int) → Option Bool) → Option Bool) (ref15_Put : (List Int) → Tc4 → ((List Int) → Option Bool) → Option Bool) (octet_New : (List Int) → (Int → Bool → Bool → (List Int) → Option Bool) → Option Bool) (data_Get : Int → Bool → Bool → (List Int) → (Tc4 → Int → Int → Bool → Bool → (List Int) → Option Bool) → Option Bool) (ref15_Get : Tc1 → (Tc1 → Tc4 → Int → Option Bool) → Option Bool) (ref15_Same : Tc4 → Tc4 → (Bool → Option Bool) → Option Bool) (octet_Reader_At : Int → Bool → Bool → (List Int) → (Int → Int → Bool → Bool → (List Int) → Option Bool) → Option Bool) (data_Getv1 : (Tc4 → Int → Option Bool) → Option Bool) (t1160 : Tc4) (ns1161 : List Int) (k1 : Bool → Option Bool) : Option Bool :=
  (ref15_Few t1160
  (fun b1162 => (cond_ (! (! b1162)) (cond_ (decide ((((List.length ns1161) : Nat) : Int) > (1000 : Int))) (law15_known
  (fun b1163 => (k1 b1163))) (data_Put ns1161 t1160
  (fun ns1192 => (ref15_Put ns1161 t1160
  (fun ns1193 => (cond_ (! ((ByteArray.toList (strOf ns1192)) == (ByteArray.toList (strOf ns1193)))) (k1 false) (octet_New ns1161
  (fun n1194 b1195 b1196 ns1197 => (data_Get n1194 b1195 b1196 ns1197
  (fun t1198 n1199 n1200 b1201 b1202 ns1203 => (ref15_Get (ns1161, ((0 : Int), (false, ())))
  (fun t1204 t1205 n1206 => (ref15_Same (t1198.1, (t1198.2.1, (t1198.2.2.1, ()))) (t1205.1, (t1205.2.1, (t1205.2.2.1, ())))
  (fun b1207 => (cond_ (! (! b1207)) (cond_ (! (n1199 != n1206)) (cond_ (n1199 == (0 : Int)) (octet_Reader_At n1200 b1201 b1202 ns1203
  (fun n1208 n1209 b1210 b1211 ns1212 => (cond_ (n1208 != t1204.2.1) (k1 false) (data_Getv1
  (fun t1213 n1214 => (cond_ (n1214 == (5 : Int)) (law15_known
  (fun b1215 => (k1 b1215))) (k1 false))))))) (data_Getv1
  (fun t1216 n1217 => (cond_ (n1217 == (5 : Int)) (law15_known
  (fun b1218 => (k1 b1218))) (k1 false))))) (k1 false)) (k1 false)))))))))))))))) (law15_known
  (fun b1219 => (k1 b1219))))))
noncomputable def law15_DataOctets (t1160 : Tc4) (ns1161 : List Int) (k1 : Bool → Option Bool) : Option Bool := law15_DataOctets.body ref15_Few law15_known data_Put ref15_Put octet_New data_Get ref15_Get ref15_Same octet_Reader_At data_Getv1 t1160 ns1161 k1
noncomputable def law15_DataOctets.get (F : Tc4 → (List Int) → (Bool → Option Bool) → Option Bool) (e : Option Bool) (g : FuncId) (a : List AV) (h : Heap) (k : KR) : Option Bool := match g, a, h with
  | 4, [(.d ⟨(.st [(.int .i64), (.sl 2 (.int .i64)), (.sl 51 (.st [(.int .i64), (.int .i64), .bool]))]), t1160⟩), (.bv 0 5 (.int .u8) ns1161)], [] => F t1160 ns1161 (fun y0 => k (.d ⟨.bool, y0⟩) [])
  | _, _, _ => e
noncomputable def law15_DataOctets.calls (F0 : Tc4 → (Bool → Option Bool) → Option Bool) (F1 : (Bool → Option Bool) → Option Bool) (F2 : (List Int) → Tc4 → ((List Int) → Option Bool) → Option Bool) (F3 : (List Int) → Tc4 → ((List Int) → Option Bool) → Option Bool) (F4 : (List Int) → (Int → Bool → Bool → (List Int) → Option Bool) → Option Bool) (F5 : Int → Bool → Bool → (List Int) → (Tc4 → Int → Int → Bool → Bool → (List Int) → Option Bool) → Option Bool) (F6 : Tc1 → (Tc1 → Tc4 → Int → Option Bool) → Option Bool) (F7 : Tc4 → Tc4 → (Bool → Option Bool) → Option Bool) (F8 : Int → Bool → Bool → (List Int) → (Int → Int → Bool → Bool → (List Int) → Option Bool) → Option Bool) (F9 : (Tc4 → Int → Option Bool) → Option Bool) : RecF := fun g a h k => (ref15_Few.get F0 (law15_known.get F1 (data_Put.get F2 (ref15_Put.get F3 (octet_New.get F4 (data_Get.get F5 (ref15_Get.get F6 (ref15_Same.get F7 (octet_Reader_At.get F8 (data_Getv1.get F9 none g a h k) g a h k) g a h k) g a h k) g a h k) g a h k) g a h k) g a h k) g a h k) g a h k)
noncomputable def law15_DataOctets.loops : LoopF := fun b => none
set_option maxRecDepth 100000 in
theorem law15_DataOctets.eq (F0 : Tc4 → (Bool → Option Bool) → Option Bool) (F1 : (Bool → Option Bool) → Option Bool) (F2 : (List Int) → Tc4 → ((List Int) → Option Bool) → Option Bool) (F3 : (List Int) → Tc4 → ((List Int) → Option Bool) → Option Bool) (F4 : (List Int) → (Int → Bool → Bool → (List Int) → Option Bool) → Option Bool) (F5 : Int → Bool → Bool → (List Int) → (Tc4 → Int → Int → Bool → Bool → (List Int) → Option Bool) → Option Bool) (F6 : Tc1 → (Tc1 → Tc4 → Int → Option Bool) → Option Bool) (F7 : Tc4 → Tc4 → (Bool → Option Bool) → Option Bool) (F8 : Int → Bool → Bool → (List Int) → (Int → Int → Bool → Bool → (List Int) → Option Bool) → Option Bool) (F9 : (Tc4 → Int → Option Bool) → Option Bool) (t1160 : Tc4) (ns1161 : List Int) (k : KR) : execL Try.prog ht 4 (callfOf (law15_DataOctets.calls F0 F1 F2 F3 F4 F5 F6 F7 F8 F9)) (law15_DataOctets.loops) 0 (codeOf Try.f4) ⟨[(.d ⟨(.st [(.int .i64), (.sl 2 (.int .i64)), (.sl 51 (.st [(.int .i64), (.int .i64), .bool]))]), t1160⟩), (.bv 0 5 (.int .u8) ns1161)] ++ List.replicate (Try.f4.ntmps - ([(.d ⟨(.st [(.int .i64), (.sl 2 (.int .i64)), (.sl 51 (.st [(.int .i64), (.int .i64), .bool]))]), t1160⟩), (.bv 0 5 (.int .u8) ns1161)] : List AV).length) .undef, [], 2⟩ (leave Try.prog Try.f4 k) = law15_DataOctets.body F0 F1 F2 F3 F4 F5 F6 F7 F8 F9 t1160 ns1161 (fun y0 => k (.d ⟨.bool, y0⟩) []) := by kernel_rfl
theorem law15_DataOctets.ok (d : Nat) (hd : 61 ≤ d) (t1160 : Tc4) (ns1161 : List Int) (k : KR) (hx : law15_DataOctets t1160 ns1161 (fun y0 => k (.d ⟨.bool, y0⟩) []) = some true) : callK Try.prog ht d 4 [(.d ⟨(.st [(.int .i64), (.sl 2 (.int .i64)), (.sl 51 (.st [(.int .i64), (.int .i64), .bool]))]), t1160⟩), (.bv 0 5 (.int .u8) ns1161)] [] k = some true := by
  obtain ⟨d, rfl⟩ : ∃ e, d = e + 1 := ⟨d - 1, by omega⟩
  exact fn_ok (c := codeOf Try.f4) Try.func4 (by kernel_rfl) (rec := law15_DataOctets.calls ref15_Few law15_known data_Put ref15_Put octet_New data_Get ref15_Get ref15_Same octet_Reader_At data_Getv1) (fun g a h k hx => by
    rcases ref15_Few.look d (by omega) hx with hx | hx
    rotate_left
    · exact hx
    rcases law15_known.look d (by omega) hx with hx | hx
    rotate_left
    · exact hx
    rcases data_Put.look d (by omega) hx with hx | hx
    rotate_left
    · exact hx
    rcases ref15_Put.look d (by omega) hx with hx | hx
    rotate_left
    · exact hx
    rcases octet_New.look d (by omega) hx with hx | hx
    rotate_left
    · exact hx
    rcases data_Get.look d (by omega) hx with hx | hx
    rotate_left
    · exact hx
    rcases ref15_Get.look d (by omega) hx with hx | hx
    rotate_left
    · exact hx
    rcases ref15_Same.look d (by omega) hx with hx | hx
    rotate_left
    · exact hx
    rcases octet_Reader_At.look d (by omega) hx with hx | hx
    rotate_left
    · exact hx
    rcases data_Getv1.look d (by omega) hx with hx | hx
    rotate_left
    · exact hx
    cases hx) (loopf := law15_DataOctets.loops) (by
    have e : loopsOf (law15_DataOctets.loops) 0 (codeOf Try.f4) = [] := by kernel_rfl
    rw [e]
    intro p hp
    cases hp) ((law15_DataOctets.eq ref15_Few law15_known data_Put ref15_Put octet_New data_Get ref15_Get ref15_Same octet_Reader_At data_Getv1 t1160 ns1161 k).trans hx)
theorem law15_DataOctets.look (d : Nat) (hd : 61 ≤ d) {e : Option Bool} {g : FuncId} {a : List AV} {h : Heap} {k : KR} (hx : law15_DataOctets.get law15_DataOctets e g a h k = some true) : e = some true ∨ callK Try.prog ht d g a h k = some true := by
  unfold law15_DataOctets.get at hx
  split at hx
  · exact .inr (law15_DataOctets.ok d hd _ _ _ hx)
  · exact .inl hx
/-- function 29: sheerleg/octet.Put -/
noncomputable def octet_Putv2.body (n1226 : Int) (n1227 : Int) (k1 : (List Int) → Option Bool) : Option Bool :=
  (cond_ (! (decide (n1227 < (1 : Int)))) (cond_ (decide (n1227 > (8 : Int))) (k1 []) (cond_ (((decide ((0 : Int) ≤ (IntKind.wrap .i64 ((8 : Int) - n1227)))) && (decide ((IntKind.wrap .i64 ((8 : Int) - n1227)) ≤ (8 : Int)))) && true) (cond_ (Nat.ble (((0 : Nat) + (List.length (List.take (Int.toNat ((8 : Int) - (IntKind.wrap .i64 ((8 : Int) - n1227)))) (List.drop (Int.toNat (IntKind.wrap .i64 ((8 : Int) - n1227))) ((IntKind.wrap .u8 (Int.fdiv n1226 (72057594037927936 : Int))) :: ((IntKind.wrap .u8 (Int.fdiv n1226 (281474976710656 : Int))) :: ((IntKind.wrap .u8 (Int.fdiv n1226 (1099511627776 : Int))) :: ((IntKind.wrap .u8 (Int.fdiv n1226 (4294967296 : Int))) :: ((IntKind.wrap .u8 (Int.fdiv n1226 (16777216 : Int))) :: ((IntKind.wrap .u8 (Int.fdiv n1226 (65536 : Int))) :: ((IntKind.wrap .u8 (Int.fdiv n1226 (256 : Int))) :: ((IntKind.wrap .u8 (Int.fdiv n1226 (1 : Int))) :: [])))))))))))) * (1 : Nat)) (140737488355328 : Nat)) (k1 ([] ++ (List.take (Int.toNat ((8 : Int) - (IntKind.wrap .i64 ((8 : Int) - n1227)))) (List.drop (Int.toNat (IntKind.wrap .i64 ((8 : Int) - n1227))) ((IntKind.wrap .u8 (Int.fdiv n1226 (72057594037927936 : Int))) :: ((IntKind.wrap .u8 (Int.fdiv n1226 (281474976710656 : Int))) :: ((IntKind.wrap .u8 (Int.fdiv n1226 (1099511627776 : Int))) :: ((IntKind.wrap .u8 (Int.fdiv n1226 (4294967296 : Int))) :: ((IntKind.wrap .u8 (Int.fdiv n1226 (16777216 : Int))) :: ((IntKind.wrap .u8 (Int.fdiv n1226 (65536 : Int))) :: ((IntKind.wrap .u8 (Int.fdiv n1226 (256 : Int))) :: ((IntKind.wrap .u8 (Int.fdiv n1226 (1 : Int))) :: [])))))))))))) none) none)) (k1 []))
noncomputable def octet_Putv2 (n1226 : Int) (n1227 : Int) (k1 : (List Int) → Option Bool) : Option Bool := octet_Putv2.body n1226 n1227 k1
noncomputable def octet_Putv2.get (F : Int → Int → ((List Int) → Option Bool) → Option Bool) (e : Option Bool) (g : FuncId) (a : List AV) (h : Heap) (k : KR) : Option Bool := match g, a, h with
  | 29, [.nils, (.d ⟨(.int .i64), n1226⟩), (.d ⟨(.int .i64), n1227⟩)], [] => F n1226 n1227 (fun y0 => k (.ref [1, 0]) [([1, 0], ⟨5, 1, (.data (.int .u8) y0)⟩)])
  | _, _, _ => e
noncomputable def octet_Putv2.calls : RecF := fun g a h k => none
noncomputable def octet_Putv2.loops : LoopF := fun b => match Nat.beq b 0 with | true => none | false => none
set_option maxRecDepth 100000 in
theorem octet_Putv2.eq (n1226 : Int) (n1227 : Int) (k : KR) : execL Try.prog ht 29 (callfOf (octet_Putv2.calls)) (octet_Putv2.loops) 0 (codeOf Try.f29) ⟨[.nils, (.d ⟨(.int .i64), n1226⟩), (.d ⟨(.int .i64), n1227⟩)] ++ List.replicate (Try.f29.ntmps - ([.nils, (.d ⟨(.int .i64), n1226⟩), (.d ⟨(.int .i64), n1227⟩)] : List AV).length) .undef, [], 2⟩ (leave Try.prog Try.f29 k) = octet_Putv2.body n1226 n1227 (fun y0 => k (.ref [1, 0]) [([1, 0], ⟨5, 1, (.data (.int .u8) y0)⟩)]) := by kernel_rfl
theorem octet_Putv2.ok (d : Nat) (hd : 1 ≤ d) (n1226 : Int) (n1227 : Int) (k : KR) (hx : octet_Putv2 n1226 n1227 (fun y0 => k (.ref [1, 0]) [([1, 0], ⟨5, 1, (.data (.int .u8) y0)⟩)]) = some true) : callK Try.prog ht d 29 [.nils, (.d ⟨(.int .i64), n1226⟩), (.d ⟨(.int .i64), n1227⟩)] [] k = some true := by
  obtain ⟨d, rfl⟩ : ∃ e, d = e + 1 := ⟨d - 1, by omega⟩
  exact fn_ok (c := codeOf Try.f29) Try.func29 (by kernel_rfl) (rec := octet_Putv2.calls) (fun g a h k hx => by
    cases hx) (loopf := octet_Putv2.loops) (by
    have e : loopsOf (octet_Putv2.loops) 0 (codeOf Try.f29) = [] := by kernel_rfl
    rw [e]
    intro p hp
    cases hp) ((octet_Putv2.eq n1226 n1227 k).trans hx)
theorem octet_Putv2.look (d : Nat) (hd : 1 ≤ d) {e : Option Bool} {g : FuncId} {a : List AV} {h : Heap} {k : KR} (hx : octet_Putv2.get octet_Putv2 e g a h k = some true) : e = some true ∨ callK Try.prog ht d g a h k = some true := by
  unfold octet_Putv2.get at hx
  split at hx
  · exact .inr (octet_Putv2.ok d hd _ _ _ hx)
  · exact .inl hx
/-- function 15: the loop in block 0 -/
noncomputable def data_Putv1_L0.body (data_Putv1_L0 : (List Int) → Int → Int → (List Int) → Tc4 → ((List Int) → Tc4 → Option Bool) → Option Bool) (octet_Putv1 : (List Int) → Int → Int → ((List Int) → Option Bool) → Option Bool) (l1230 : List Int) (n1231 : Int) (n1232 : Int) (ns1233 : List Int) (t1234 : Tc4) (k1 : (List Int) → Tc4 → Option Bool) : Option Bool :=
  (cond_ (decide (n1232 < n1231)) (cond_ ((decide ((0 : Int) ≤ n1232)) && (decide (n1232 < (((List.length l1230) : Nat) : Int)))) (octet_Putv1 ns1233 (List.getD l1230 (Int.toNat n1232) (0 : Int)) (8 : Int)
  (fun ns1235 => (data_Putv1_L0 l1230 n1231 (IntKind.wrap .i64 (n1232 + (1 : Int))) ns1235 t1234 k1))) none) (k1 ns1233 t1234))
noncomputable def data_Putv1_L0 : Nat → (List Int) → Int → Int → (List Int) → Tc4 → ((List Int) → Tc4 → Option Bool) → Option Bool
  | 0 => fun _ _ _ _ _ _ => none
  | n + 1 => data_Putv1_L0.body (data_Putv1_L0 n) octet_Putv1
noncomputable def data_Putv1_L0.get (F : (List Int) → Int → Int → (List Int) → Tc4 → ((List Int) → Tc4 → Option Bool) → Option Bool) (e : Option Bool) (st : St) (k : KE) : Option Bool := match st with
  | ⟨sl, hp, m⟩ => match Nat.beq m 2, pickS 54 [0, 3, 19, 20, 21] sl, hp with
    | true, some [(.ref [1, 0]), (.ptr [1, 1] 0 0), (.d ⟨(.sl 2 (.int .i64)), l1230⟩), (.d ⟨(.int .i64), n1231⟩), (.d ⟨(.int .i64), n1232⟩)], [([1, 0], ⟨5, 1, (.data (.int .u8) ns1233)⟩), ([1, 1], ⟨25, 3, (.data (.st [(.int .i64), (.sl 2 (.int .i64)), (.sl 51 (.st [(.int .i64), (.int .i64), .bool]))]) [t1234])⟩)] => F l1230 n1231 n1232 ns1233 t1234 (fun y0 y1 => k (.exit 0) ⟨fillS 54 [0, 3] [(.ref [1, 0]), (.ptr [1, 1] 0 0)], [([1, 0], ⟨5, 1, (.data (.int .u8) y0)⟩), ([1, 1], ⟨25, 3, (.data (.st [(.int .i64), (.sl 2 (.int .i64)), (.sl 51 (.st [(.int .i64), (.int .i64), .bool]))]) [y1])⟩)], 2⟩)
    | _, _, _ => e
noncomputable def data_Putv1_L0.calls (F0 : (List Int) → Int → Int → ((List Int) → Option Bool) → Option Bool) : RecF := fun g a h k => (octet_Putv1.get F0 none g a h k)
noncomputable def data_Putv1_L0.loops : LoopF := fun b => none
set_option maxRecDepth 100000 in
theorem data_Putv1_L0.step (S : (List Int) → Int → Int → (List Int) → Tc4 → ((List Int) → Tc4 → Option Bool) → Option Bool) (F0 : (List Int) → Int → Int → ((List Int) → Option Bool) → Option Bool) (l1230 : List Int) (n1231 : Int) (n1232 : Int) (ns1233 : List Int) (t1234 : Tc4) (k : KE) : execL Try.prog ht 15 (callfOf (data_Putv1_L0.calls F0)) (data_Putv1_L0.loops) 0 (loopAt 0 (codeOf Try.f15)) ⟨fillS 54 [0, 3, 19, 20, 21] [(.ref [1, 0]), (.ptr [1, 1] 0 0), (.d ⟨(.sl 2 (.int .i64)), l1230⟩), (.d ⟨(.int .i64), n1231⟩), (.d ⟨(.int .i64), n1232⟩)], [([1, 0], ⟨5, 1, (.data (.int .u8) ns1233)⟩), ([1, 1], ⟨25, 3, (.data (.st [(.int .i64), (.sl 2 (.int .i64)), (.sl 51 (.st [(.int .i64), (.int .i64), .bool]))]) [t1234])⟩)], 2⟩ (again (data_Putv1_L0.get S none) (plan Try.prog (ht 15 0)) k) = data_Putv1_L0.body S F0 l1230 n1231 n1232 ns1233 t1234 (fun y0 y1 => k (.exit 0) ⟨fillS 54 [0, 3] [(.ref [1, 0]), (.ptr [1, 1] 0 0)], [([1, 0], ⟨5, 1, (.data (.int .u8) y0)⟩), ([1, 1], ⟨25, 3, (.data (.st [(.int .i64), (.sl 2 (.int .i64)), (.sl 51 (.st [(.int .i64), (.int .i64), .bool]))]) [y1])⟩)], 2⟩) := by kernel_rfl
theorem data_Putv1_L0.ok (d : Nat) (hd : 1 ≤ d) : ∀ n st k, data_Putv1_L0.get (data_Putv1_L0 n) none st k = some true → iter n (plan Try.prog (ht 15 0)) (fun st k => execK Try.prog ht 15 (callfOf (callK Try.prog ht d)) 0 (loopAt 0 (codeOf Try.f15)) st k) st k = some true :=
  loop_ok (lfn := fun n st k => data_Putv1_L0.get (data_Putv1_L0 n) none st k) (rec := data_Putv1_L0.calls octet_Putv1) (fun g a h k hx => by
    rcases octet_Putv1.look d (by omega) hx with hx | hx
    rotate_left
    · exact hx
    cases hx) (loopf := data_Putv1_L0.loops) (by
    have e : loopsOf (data_Putv1_L0.loops) 0 (loopAt 0 (codeOf Try.f15)) = [] := by kernel_rfl
    rw [e]
    intro p hp
    cases hp) (fun st k h => by
    obtain ⟨sl, hp, m⟩ := st
    unfold data_Putv1_L0.get at h
    dsimp only at h
    split at h
    · have h' : (none : Option Bool) = some true := h
      cases h'
    · cases h) (fun n st k h => by
    obtain ⟨sl, hp, m⟩ := st
    unfold data_Putv1_L0.get at h
    dsimp only at h
    split at h
    · rename_i h1 h2
      obtain rfl := pickS_ok h2
      obtain rfl := Nat.eq_of_beq_eq_true h1
      exact (data_Putv1_L0.step (data_Putv1_L0 n) octet_Putv1 _ _ _ _ _ k).trans h
    · cases h)
theorem data_Putv1_L0.look {F : (List Int) → Int → Int → (List Int) → Tc4 → ((List Int) → Tc4 → Option Bool) → Option Bool} {e : Option Bool} {st : St} {k : KE} (hx : data_Putv1_L0.get F e st k = some true) : e = some true ∨ data_Putv1_L0.get F none st k = some true := by
  obtain ⟨sl, hp, m⟩ := st
  unfold data_Putv1_L0.get at hx ⊢
  dsimp only at hx ⊢
  split at hx
  · exact .inr hx
  · exact .inl hx
/-- function 15: the loop in block 2 -/
noncomputable def data_Putv1_L2.body (data_Putv1_L2 : Tc0 → Int → Int → (List Int) → ((List Int) → Option Bool) → Option Bool) (octet_Putv1 : (List Int) → Int → Int → ((List Int) → Option Bool) → Option Bool) (data_flag : Bool → (Int → Option Bool) → Option Bool) (l1239 : Tc0) (n1240 : Int) (n1241 : Int) (ns1242 : List Int) (k1 : (List Int) → Option Bool) : Option Bool :=
  (cond_ (decide (n1241 < n1240)) (cond_ ((decide ((0 : Int) ≤ n1241)) && (decide (n1241 < (((List.length l1239) : Nat) : Int)))) (octet_Putv1 ns1242 (List.getD l1239 (Int.toNat n1241) ((0 : Int), ((0 : Int), (false, ())))).1 (1 : Int)
  (fun ns1243 => (octet_Putv1 ns1243 (List.getD l1239 (Int.toNat n1241) ((0 : Int), ((0 : Int), (false, ())))).2.1 (1 : Int)
  (fun ns1244 => (data_flag (List.getD l1239 (Int.toNat n1241) ((0 : Int), ((0 : Int), (false, ())))).2.2.1
  (fun n1245 => (octet_Putv1 ns1244 n1245 (1 : Int)
  (fun ns1246 => (data_Putv1_L2 l1239 n1240 (IntKind.wrap .i64 (n1241 + (1 : Int))) ns1246 k1))))))))) none) (k1 ns1242))
noncomputable def data_Putv1_L2 : Nat → Tc0 → Int → Int → (List Int) → ((List Int) → Option Bool) → Option Bool
  | 0 => fun _ _ _ _ _ => none
  | n + 1 => data_Putv1_L2.body (data_Putv1_L2 n) octet_Putv1 data_flag
noncomputable def data_Putv1_L2.get (F : Tc0 → Int → Int → (List Int) → ((List Int) → Option Bool) → Option Bool) (e : Option Bool) (st : St) (k : KE) : Option Bool := match st with
  | ⟨sl, hp, m⟩ => match Nat.beq m 2, pickS 54 [0, 35, 36, 37] sl, hp with
    | true, some [(.ref [1, 0]), (.d ⟨(.sl 51 (.st [(.int .i64), (.int .i64), .bool])), l1239⟩), (.d ⟨(.int .i64), n1240⟩), (.d ⟨(.int .i64), n1241⟩)], [([1, 0], ⟨5, 1, (.data (.int .u8) ns1242)⟩)] => F l1239 n1240 n1241 ns1242 (fun y0 => k (.exit 2) ⟨fillS 54 [0] [(.ref [1, 0])], [([1, 0], ⟨5, 1, (.data (.int .u8) y0)⟩)], 2⟩)
    | _, _, _ => e
noncomputable def data_Putv1_L2.calls (F0 : (List Int) → Int → Int → ((List Int) → Option Bool) → Option Bool) (F1 : Bool → (Int → Option Bool) → Option Bool) : RecF := fun g a h k => (octet_Putv1.get F0 (data_flag.get F1 none g a h k) g a h k)
noncomputable def data_Putv1_L2.loops : LoopF := fun b => none
set_option maxRecDepth 100000 in
theorem data_Putv1_L2.step (S : Tc0 → Int → Int → (List Int) → ((List Int) → Option Bool) → Option Bool) (F0 : (List Int) → Int → Int → ((List Int) → Option Bool) → Option Bool) (F1 : Bool → (Int → Option Bool) → Option Bool) (l1239 : Tc0) (n1240 : Int) (n1241 : Int) (ns1242 : List Int) (k : KE) : execL Try.prog ht 15 (callfOf (data_Putv1_L2.calls F0 F1)) (data_Putv1_L2.loops) 2 (loopAt 2 (codeOf Try.f15)) ⟨fillS 54 [0, 35, 36, 37] [(.ref [1, 0]), (.d ⟨(.sl 51 (.st [(.int .i64), (.int .i64), .bool])), l1239⟩), (.d ⟨(.int .i64), n1240⟩), (.d ⟨(.int .i64), n1241⟩)], [([1, 0], ⟨5, 1, (.data (.int .u8) ns1242)⟩)], 2⟩ (again (data_Putv1_L2.get S none) (plan Try.prog (ht 15 2)) k) = data_Putv1_L2.body S F0 F1 l1239 n1240 n1241 ns1242 (fun y0 => k (.exit 2) ⟨fillS 54 [0] [(.ref [1, 0])], [([1, 0], ⟨5, 1, (.data (.int .u8) y0)⟩)], 2⟩) := by kernel_rfl
theorem data_Putv1_L2.ok (d : Nat) (hd : 1 ≤ d) : ∀ n st k, data_Putv1_L2.get (data_Putv1_L2 n) none st k = some true → iter n (plan Try.prog (ht 15 2)) (fun st k => execK Try.prog ht 15 (callfOf (callK Try.prog ht d)) 2 (loopAt 2 (codeOf Try.f15)) st k) st k = some true :=
  loop_ok (lfn := fun n st k => data_Putv1_L2.get (data_Putv1_L2 n) none st k) (rec := data_Putv1_L2.calls octet_Putv1 data_flag) (fun g a h k hx => by
    rcases octet_Putv1.look d (by omega) hx with hx | hx
    rotate_left
    · exact hx
    rcases data_flag.look d (by omega) hx with hx | hx
    rotate_left
    · exact hx
    cases hx) (loopf := data_Putv1_L2.loops) (by
    have e : loopsOf (data_Putv1_L2.loops) 2 (loopAt 2 (codeOf Try.f15)) = [] := by kernel_rfl
    rw [e]
    intro p hp
    cases hp) (fun st k h => by
    obtain ⟨sl, hp, m⟩ := st
    unfold data_Putv1_L2.get at h
    dsimp only at h
    split at h
    · have h' : (none : Option Bool) = some true := h
      cases h'
    · cases h) (fun n st k h => by
    obtain ⟨sl, hp, m⟩ := st
    unfold data_Putv1_L2.get at h
    dsimp only at h
    split at h
    · rename_i h1 h2
      obtain rfl := pickS_ok h2
      obtain rfl := Nat.eq_of_beq_eq_true h1
      exact (data_Putv1_L2.step (data_Putv1_L2 n) octet_Putv1 data_flag _ _ _ _ k).trans h
    · cases h)
theorem data_Putv1_L2.look {F : Tc0 → Int → Int → (List Int) → ((List Int) → Option Bool) → Option Bool} {e : Option Bool} {st : St} {k : KE} (hx : data_Putv1_L2.get F e st k = some true) : e = some true ∨ data_Putv1_L2.get F none st k = some true := by
  obtain ⟨sl, hp, m⟩ := st
  unfold data_Putv1_L2.get at hx ⊢
  dsimp only at hx ⊢
  split at hx
  · exact .inr hx
  · exact .inl hx
/-- function 15: sheerleg/data.Put -/
noncomputable def data_Putv1.body (octet_Putv2 : Int → Int → ((List Int) → Option Bool) → Option Bool) (octet_Putv1 : (List Int) → Int → Int → ((List Int) → Option Bool) → Option Bool) (data_Putv1_L0 : (List Int) → Int → Int → (List Int) → Tc4 → ((List Int) → Tc4 → Option Bool) → Option Bool) (data_Putv1_L2 : Tc0 → Int → Int → (List Int) → ((List Int) → Option Bool) → Option Bool) (t1225 : Tc4) (k1 : (List Int) → Option Bool) : Option Bool :=
  (octet_Putv2 t1225.1 (1 : Int)
  (fun ns1228 => (octet_Putv1 ns1228 (((List.length t1225.2.1) : Nat) : Int) (1 : Int)
  (fun ns1229 => (data_Putv1_L0 t1225.2.1 (((List.length t1225.2.1) : Nat) : Int) (0 : Int) ns1229 t1225
  (fun ns1236 t1237 => (octet_Putv1 ns1236 (((List.length t1237.2.2.1) : Nat) : Int) (1 : Int)
  (fun ns1238 => (data_Putv1_L2 t1237.2.2.1 (((List.length t1237.2.2.1) : Nat) : Int) (0 : Int) ns1238
  (fun ns1247 => (k1 ns1247)))))))))))
noncomputable def data_Putv1 (t1225 : Tc4) (k1 : (List Int) → Option Bool) : Option Bool := data_Putv1.body octet_Putv2 octet_Putv1 (data_Putv1_L0 ROUNDS) (data_Putv1_L2 ROUNDS) t1225 k1
noncomputable def data_Putv1.get (F : Tc4 → ((List Int) → Option Bool) → Option Bool) (e : Option Bool) (g : FuncId) (a : List AV) (h : Heap) (k : KR) : Option Bool := match g, a, h with
  | 15, [.nils, (.d ⟨(.st [(.int .i64), (.sl 2 (.int .i64)), (.sl 51 (.st [(.int .i64), (.int .i64), .bool]))]), t1225⟩)], [] => F t1225 (fun y0 => k (.ref [1, 0]) [([1, 0], ⟨5, 1, (.data (.int .u8) y0)⟩)])
  | _, _, _ => e
noncomputable def data_Putv1.calls (F0 : Int → Int → ((List Int) → Option Bool) → Option Bool) (F1 : (List Int) → Int → Int → ((List Int) → Option Bool) → Option Bool) : RecF := fun g a h k => (octet_Putv2.get F0 (octet_Putv1.get F1 none g a h k) g a h k)
noncomputable def data_Putv1.loops (L0 : (List Int) → Int → Int → (List Int) → Tc4 → ((List Int) → Tc4 → Option Bool) → Option Bool) (L1 : Tc0 → Int → Int → (List Int) → ((List Int) → Option Bool) → Option Bool) : LoopF := fun b => match Nat.beq b 0 with | true => some (fun st k => (data_Putv1_L0.get L0 none st k)) | false => match Nat.beq b 2 with | true => some (fun st k => (data_Putv1_L2.get L1 none st k)) | false => none
set_option maxRecDepth 100000 in
theorem data_Putv1.eq (F0 : Int → Int → ((List Int) → Option Bool) → Option Bool) (F1 : (List Int) → Int → Int → ((List Int) → Option Bool) → Option Bool) (L0 : (List Int) → Int → Int → (List Int) → Tc4 → ((List Int) → Tc4 → Option Bool) → Option Bool) (L1 : Tc0 → Int → Int → (List Int) → ((List Int) → Option Bool) → Option Bool) (t1225 : Tc4) (k : KR) : execL Try.prog ht 15 (callfOf (data_Putv1.calls F0 F1)) (data_Putv1.loops L0 L1) 0 (codeOf Try.f15) ⟨[.nils, (.d ⟨(.st [(.int .i64), (.sl 2 (.int .i64)), (.sl 51 (.st [(.int .i64), (.int .i64), .bool]))]), t1225⟩)] ++ List.replicate (Try.f15.ntmps - ([.nils, (.d ⟨(.st [(.int .i64), (.sl 2 (.int .i64)), (.sl 51 (.st [(.int .i64), (.int .i64), .bool]))]), t1225⟩)] : List AV).length) .undef, [], 2⟩ (leave Try.prog Try.f15 k) = data_Putv1.body F0 F1 L0 L1 t1225 (fun y0 => k (.ref [1, 0]) [([1, 0], ⟨5, 1, (.data (.int .u8) y0)⟩)]) := by kernel_rfl
theorem data_Putv1.ok (d : Nat) (hd : 2 ≤ d) (t1225 : Tc4) (k : KR) (hx : data_Putv1 t1225 (fun y0 => k (.ref [1, 0]) [([1, 0], ⟨5, 1, (.data (.int .u8) y0)⟩)]) = some true) : callK Try.prog ht d 15 [.nils, (.d ⟨(.st [(.int .i64), (.sl 2 (.int .i64)), (.sl 51 (.st [(.int .i64), (.int .i64), .bool]))]), t1225⟩)] [] k = some true := by
  obtain ⟨d, rfl⟩ : ∃ e, d = e + 1 := ⟨d - 1, by omega⟩
  exact fn_ok (c := codeOf Try.f15) Try.func15 (by kernel_rfl) (rec := data_Putv1.calls octet_Putv2 octet_Putv1) (fun g a h k hx => by
    rcases octet_Putv2.look d (by omega) hx with hx | hx
    rotate_left
    · exact hx
    rcases octet_Putv1.look d (by omega) hx with hx | hx
    rotate_left
    · exact hx
    cases hx) (loopf := data_Putv1.loops (data_Putv1_L0 ROUNDS) (data_Putv1_L2 ROUNDS)) (by
    have e : loopsOf (data_Putv1.loops (data_Putv1_L0 ROUNDS) (data_Putv1_L2 ROUNDS)) 0 (codeOf Try.f15) = [(0, loopAt 0 (codeOf Try.f15)), (2, loopAt 2 (codeOf Try.f15))] := by kernel_rfl
    rw [e]
    intro p hp
    simp only [List.mem_cons, List.not_mem_nil, or_false] at hp
    rcases hp with rfl | rfl
    · refine loopRef_of (callf := callfOf (callK Try.prog ht d)) (callfOf_ref (callK_mono d)) fun lf st k hb hx => ?_
      cases hb
      rcases data_Putv1_L0.look hx with hx | hx
      rotate_left
      · exact data_Putv1_L0.ok d (by omega) _ _ _ hx
      cases hx
    · refine loopRef_of (callf := callfOf (callK Try.prog ht d)) (callfOf_ref (callK_mono d)) fun lf st k hb hx => ?_
      cases hb
      rcases data_Putv1_L2.look hx with hx | hx
      rotate_left
      · exact data_Putv1_L2.ok d (by omega) _ _ _ hx
      cases hx) ((data_Putv1.eq octet_Putv2 octet_Putv1 (data_Putv1_L0 ROUNDS) (data_Putv1_L2 ROUNDS) t1225 k).trans hx)
theorem data_Putv1.look (d : Nat) (hd : 2 ≤ d) {e : Option Bool} {g : FuncId} {a : List AV} {h : Heap} {k : KR} (hx : data_Putv1.get data_Putv1 e g a h k = some true) : e = some true ∨ callK Try.prog ht d g a h k = some true := by
  unfold data_Putv1.get at hx
  split at hx
  · exact .inr (data_Putv1.ok d hd _ _ hx)
  · exact .inl hx
/-- function 17: sheerleg/octet.New -/
noncomputable def octet_Newv1.body (ns1249 : List Int) (k1 : Int → Bool → Bool → (List Int) → Option Bool) : Option Bool :=
  (cond_ (Nat.ble (((0 : Nat) + (List.length ns1249)) * (1 : Nat)) (140737488355328 : Nat)) (k1 (0 : Int) true false ([] ++ ns1249)) none)
noncomputable def octet_Newv1 (ns1249 : List Int) (k1 : Int → Bool → Bool → (List Int) → Option Bool) : Option Bool := octet_Newv1.body ns1249 k1
noncomputable def octet_Newv1.get (F : (List Int) → (Int → Bool → Bool → (List Int) → Option Bool) → Option Bool) (e : Option Bool) (g : FuncId) (a : List AV) (h : Heap) (k : KR) : Option Bool := match g, a, h with
  | 17, [(.bv 1 5 (.int .u8) ns1249)], [] => F ns1249 (fun y0 y1 y2 y3 => k (.ptr [1, 0] 0 0) [([1, 0], ⟨68, 4, (.mix [(.agg [(.ref [1, 1]), (.d ⟨(.int .i64), y0⟩), (.d ⟨.bool, y1⟩), (.d ⟨.bool, y2⟩)])])⟩), ([1, 1], ⟨5, 1, (.data (.int .u8) y3)⟩)])
  | _, _, _ => e
noncomputable def octet_Newv1.calls : RecF := fun g a h k => none
noncomputable def octet_Newv1.loops : LoopF := fun b => none
set_option maxRecDepth 100000 in
theorem octet_Newv1.eq (ns1249 : List Int) (k : KR) : execL Try.prog ht 17 (callfOf (octet_Newv1.calls)) (octet_Newv1.loops) 0 (codeOf Try.f17) ⟨[(.bv 1 5 (.int .u8) ns1249)] ++ List.replicate (Try.f17.ntmps - ([(.bv 1 5 (.int .u8) ns1249)] : List AV).length) .undef, [], 2⟩ (leave Try.prog Try.f17 k) = octet_Newv1.body ns1249 (fun y0 y1 y2 y3 => k (.ptr [1, 0] 0 0) [([1, 0], ⟨68, 4, (.mix [(.agg [(.ref [1, 1]), (.d ⟨(.int .i64), y0⟩), (.d ⟨.bool, y1⟩), (.d ⟨.bool, y2⟩)])])⟩), ([1, 1], ⟨5, 1, (.data (.int .u8) y3)⟩)]) := by kernel_rfl
theorem octet_Newv1.ok (d : Nat) (hd : 1 ≤ d) (ns1249 : List Int) (k : KR) (hx : octet_Newv1 ns1249 (fun y0 y1 y2 y3 => k (.ptr [1, 0] 0 0) [([1, 0], ⟨68, 4, (.mix [(.agg [(.ref [1, 1]), (.d ⟨(.int .i64), y0⟩), (.d ⟨.bool, y1⟩), (.d ⟨.bool, y2⟩)])])⟩), ([1, 1], ⟨5, 1, (.data (.int .u8) y3)⟩)]) = some true) : callK Try.prog ht d 17 [(.bv 1 5 (.int .u8) ns1249)] [] k = some true := by
  obtain ⟨d, rfl⟩ : ∃ e, d = e + 1 := ⟨d - 1, by omega⟩
  exact fn_ok (c := codeOf Try.f17) Try.func17 (by kernel_rfl) (rec := octet_Newv1.calls) (fun g a h k hx => by
    cases hx) (loopf := octet_Newv1.loops) (by
    have e : loopsOf (octet_Newv1.loops) 0 (codeOf Try.f17) = [] := by kernel_rfl
    rw [e]
    intro p hp
    cases hp) ((octet_Newv1.eq ns1249 k).trans hx)
theorem octet_Newv1.look (d : Nat) (hd : 1 ≤ d) {e : Option Bool} {g : FuncId} {a : List AV} {h : Heap} {k : KR} (hx : octet_Newv1.get octet_Newv1 e g a h k = some true) : e = some true ∨ callK Try.prog ht d g a h k = some true := by
  unfold octet_Newv1.get at hx
  split at hx
  · exact .inr (octet_Newv1.ok d hd _ _ hx)
  · exact .inl hx
/-- function 5: sheerleg/sheerleglaw15.DataBack -/
noncomputable def law15_DataBack.body (ref15_Few : Tc4 → (Bool → Option Bool) → Option Bool) (law15_known : (Bool → Option Bool) → Option Bool) (data_Putv1 : Tc4 → ((List Int) → Option Bool) → Option Bool) (octet_Newv1 : (List Int) → (Int → Bool → Bool → (List Int) → Option Bool) → Option Bool) (data_Get : Int → Bool → Bool → (List Int) → (Tc4 → Int → Int → Bool → Bool → (List Int) → Option Bool) → Option Bool) (data_Check : Tc4 → Tc3 → (Int → Option Bool) → Option Bool) (ref15_Same : Tc4 → Tc4 → (Bool → Option Bool) → Option Bool) (octet_Reader_At : Int → Bool → Bool → (List Int) → (Int → Int → Bool → Bool → (List Int) → Option Bool) → Option Bool) (t1220 : Tc4) (ts1221 : Tc3) (ns1222 : List Int) (k1 : Bool → Option Bool) : Option Bool :=
  (ref15_Few t1220
  (fun b1223 => (cond_ (! (! b1223)) (cond_ (! (decide ((((List.length ts1221) : Nat) : Int) > (60 : Int)))) (cond_ (decide ((((List.length ns1222) : Nat) : Int) > (100 : Int))) (law15_known
  (fun b1224 => (k1 b1224))) (data_Putv1 t1220
  (fun ns1248 => (cond_ (Nat.ble (((List.length ns1248) + (List.length ns1222)) * (1 : Nat)) (140737488355328 : Nat)) (octet_Newv1 (ns1248 ++ ns1222)
  (fun n1250 b1251 b1252 ns1253 => (data_Get n1250 b1251 b1252 ns1253
  (fun t1254 n1255 n1256 b1257 b1258 ns1259 => (data_Check t1220 ts1221
  (fun n1260 => (cond_ (! (n1260 != (0 : Int))) (ref15_Same (t1254.1, (t1254.2.1, (t1254.2.2.1, ()))) t1220
  (fun b1261 => (cond_ b1261 (cond_ (n1255 == (0 : Int)) (octet_Reader_At n1256 b1257 b1258 ns1259
  (fun n1262 n1263 b1264 b1265 ns1266 => (cond_ (n1262 == (((List.length ns1248) : Nat) : Int)) (law15_known
  (fun b1267 => (k1 b1267))) (k1 false)))) (k1 false)) (k1 false)))) (law15_known
  (fun b1268 => (k1 b1268)))))))))) none)))) (law15_known
  (fun b1269 => (k1 b1269)))) (law15_known
  (fun b1270 => (k1 b1270))))))
noncomputable def law15_DataBack (t1220 : Tc4) (ts1221 : Tc3) (ns1222 : List Int) (k1 : Bool → Option Bool) : Option Bool := law15_DataBack.body ref15_Few law15_known data_Putv1 octet_Newv1 data_Get data_Check ref15_Same octet_Reader_At t1220 ts1221 ns1222 k1
noncomputable def law15_DataBack.get (F : Tc4 → Tc3 → (List Int) → (Bool → Option Bool) → Option Bool) (e : Option Bool) (g : FuncId) (a : List AV) (h : Heap) (k : KR) : Option Bool := match g, a, h with
  | 5, [(.d ⟨(.st [(.int .i64), (.sl 2 (.int .i64)), (.sl 51 (.st [(.int .i64), (.int .i64), .bool]))]), t1220⟩), (.bv 0 53 (.st [.str, .bool, (.int .i64), (.int .i64), (.int .i64)]) ts1221), (.bv 0 5 (.int .u8) ns1222)], [] => F t1220 ts1221 ns1222 (fun y0 => k (.d ⟨.bool, y0⟩) [])
  | _, _, _ => e
noncomputable def law15_DataBack.calls (F0 : Tc4 → (Bool → Option Bool) → Option Bool) (F1 : (Bool → Option Bool) → Option Bool) (F2 : Tc4 → ((List Int) → Option Bool) → Option Bool) (F3 : (List Int) → (Int → Bool → Bool → (List Int) → Option Bool) → Option Bool) (F4 : Int → Bool → Bool → (List Int) → (Tc4 → Int → Int → Bool → Bool → (List Int) → Option Bool) → Option Bool) (F5 : Tc4 → Tc3 → (Int → Option Bool) → Option Bool) (F6 : Tc4 → Tc4 → (Bool → Option Bool) → Option Bool) (F7 : Int → Bool → Bool → (List Int) → (Int → Int → Bool → Bool → (List Int) → Option Bool) → Option Bool) : RecF := fun g a h k => (ref15_Few.get F0 (law15_known.get F1 (data_Putv1.get F2 (octet_Newv1.get F3 (data_Get.get F4 (data_Check.get F5 (ref15_Same.get F6 (octet_Reader_At.get F7 none g a h k) g a h k) g a h k) g a h k) g a h k) g a h k) g a h k) g a h k)
noncomputable def law15_DataBack.loops : LoopF := fun b => none
set_option maxRecDepth 100000 in
theorem law15_DataBack.eq (F0 : Tc4 → (Bool → Option Bool) → Option Bool) (F1 : (Bool → Option Bool) → Option Bool) (F2 : Tc4 → ((List Int) → Option Bool) → Option Bool) (F3 : (List Int) → (Int → Bool → Bool → (List Int) → Option Bool) → Option Bool) (F4 : Int → Bool → Bool → (List Int) → (Tc4 → Int → Int → Bool → Bool → (List Int) → Option Bool) → Option Bool) (F5 : Tc4 → Tc3 → (Int → Option Bool) → Option Bool) (F6 : Tc4 → Tc4 → (Bool → Option Bool) → Option Bool) (F7 : Int → Bool → Bool → (List Int) → (Int → Int → Bool → Bool → (List Int) → Option Bool) → Option Bool) (t1220 : Tc4) (ts1221 : Tc3) (ns1222 : List Int) (k : KR) : execL Try.prog ht 5 (callfOf (law15_DataBack.calls F0 F1 F2 F3 F4 F5 F6 F7)) (law15_DataBack.loops) 0 (codeOf Try.f5) ⟨[(.d ⟨(.st [(.int .i64), (.sl 2 (.int .i64)), (.sl 51 (.st [(.int .i64), (.int .i64), .bool]))]), t1220⟩), (.bv 0 53 (.st [.str, .bool, (.int .i64), (.int .i64), (.int .i64)]) ts1221), (.bv 0 5 (.int .u8) ns1222)] ++ List.replicate (Try.f5.ntmps - ([(.d ⟨(.st [(.int .i64), (.sl 2 (.int .i64)), (.sl 51 (.st [(.int .i64), (.int .i64), .bool]))]), t1220⟩), (.bv 0 53 (.st [.str, .bool, (.int .i64), (.int .i64), (.int .i64)]) ts1221), (.bv 0 5 (.int .u8) ns1222)] : List AV).length) .undef, [], 2⟩ (leave Try.prog Try.f5 k) = law15_DataBack.body F0 F1 F2 F3 F4 F5 F6 F7 t1220 ts1221 ns1222 (fun y0 => k (.d ⟨.bool, y0⟩) []) := by kernel_rfl
theorem law15_DataBack.ok (d : Nat) (hd : 61 ≤ d) (t1220 : Tc4) (ts1221 : Tc3) (ns1222 : List Int) (k : KR) (hx : law15_DataBack t1220 ts1221 ns1222 (fun y0 => k (.d ⟨.bool, y0⟩) []) = some true) : callK Try.prog ht d 5 [(.d ⟨(.st [(.int .i64), (.sl 2 (.int .i64)), (.sl 51 (.st [(.int .i64), (.int .i64), .bool]))]), t1220⟩), (.bv 0 53 (.st [.str, .bool, (.int .i64), (.int .i64), (.int .i64)]) ts1221), (.bv 0 5 (.int .u8) ns1222)] [] k = some true := by
  obtain ⟨d, rfl⟩ : ∃ e, d = e + 1 := ⟨d - 1, by omega⟩
  exact fn_ok (c := codeOf Try.f5) Try.func5 (by kernel_rfl) (rec := law15_DataBack.calls ref15_Few law15_known data_Putv1 octet_Newv1 data_Get data_Check ref15_Same octet_Reader_At) (fun g a h k hx => by
    rcases ref15_Few.look d (by omega) hx with hx | hx
    rotate_left
    · exact hx
    rcases law15_known.look d (by omega) hx with hx | hx
    rotate_left
    · exact hx
    rcases data_Putv1.look d (by omega) hx with hx | hx
    rotate_left
    · exact hx
    rcases octet_Newv1.look d (by omega) hx with hx | hx
    rotate_left
    · exact hx
    rcases data_Get.look d (by omega) hx with hx | hx
    rotate_left
    · exact hx
    rcases data_Check.look d (by omega) hx with hx | hx
    rotate_left
    · exact hx
    rcases ref15_Same.look d (by omega) hx with hx | hx
    rotate_left
    · exact hx
    rcases octet_Reader_At.look d (by omega) hx with hx | hx
    rotate_left
    · exact hx
    cases hx) (loopf := law15_DataBack.loops) (by
    have e : loopsOf (law15_DataBack.loops) 0 (codeOf Try.f5) = [] := by kernel_rfl
    rw [e]
    intro p hp
    cases hp) ((law15_DataBack.eq ref15_Few law15_known data_Putv1 octet_Newv1 data_Get data_Check ref15_Same octet_Reader_At t1220 ts1221 ns1222 k).trans hx)
theorem law15_DataBack.look (d : Nat) (hd : 61 ≤ d) {e : Option Bool} {g : FuncId} {a : List AV} {h : Heap} {k : KR} (hx : law15_DataBack.get law15_DataBack e g a h k = some true) : e = some true ∨ callK Try.prog ht d g a h k = some true := by
  unfold law15_DataBack.get at hx
  split at hx
  · exact .inr (law15_DataBack.ok d hd _ _ _ _ hx)
  · exact .inl hx
end Go.Proofs.Ytbedajhajmkapaa.g
