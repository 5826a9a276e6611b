/- What the functions come to that G reaches, as plain functions; written by a program of this work, each told by Lean. -/
import Derived.Test.YtpmgmpaodjcfjaaA3
import Derived.Test.YtpmgmpaodjcfjaaChecked
namespace Go.Proofs.Ytpmgmpaodjcfjaa.g
open Go.AX
set_option linter.unusedVariables false
set_option maxRecDepth 100000
set_option maxHeartbeats 4000000
def ht : Hints := hintsOf [(21, [(0, ⟨[6, 7, 19, 20, 21], []⟩), (2000000, ⟨[4, 5], []⟩), (1000000, ⟨[6, 7], []⟩)]),
  (5, [(0, ⟨[0, 1, 5, 6, 7], []⟩), (2000000, ⟨[4], []⟩), (1000000, ⟨[], []⟩)]),
  (17, [(0, ⟨[1, 2, 3, 6, 8, 9], []⟩), (2, ⟨[1, 3, 6, 8, 10, 11], []⟩), (2000000, ⟨[6, 7], []⟩), (1000000, ⟨[1, 2, 3, 6, 8], []⟩), (1000002, ⟨[1, 3, 6, 8, 10], []⟩)]),
  (8, [(0, ⟨[0, 1, 2, 7, 10], []⟩), (2000000, ⟨[6], []⟩), (1000000, ⟨[0, 2, 7], []⟩)]),
  (10, [(0, ⟨[7, 8, 9], []⟩), (2, ⟨[7, 8, 9, 10, 11], []⟩), (2000000, ⟨[6], []⟩), (1000002, ⟨[7, 8, 9, 10], []⟩), (1000001, ⟨[7, 8, 9], []⟩), (1000000, ⟨[7], []⟩)])]
/-- function 7: sheerleg/sheerleglaw02.known, all of it at once -/
def law02_known (k1 : Bool → Option Bool) : Option Bool := k1 true
def law02_known.get (F : (Bool → Option Bool) → Option Bool) (e : Option Bool) (g : FuncId) (a : List AV) (h : Heap) (k : KR) : Option Bool := match g, a, h with
  | 7, [], [] => F (fun y => k (.d ⟨.bool, y⟩) [])
  | _, _, _ => e
set_option maxRecDepth 100000 in
theorem law02_known.all (k : KR) : callK Try.prog ht 60 7 [] [] k = k (.d ⟨.bool, true⟩) [] := by kernel_rfl
theorem law02_known.look (d : Nat) (hd : 60 ≤ d) {e : Option Bool} {g : FuncId} {a : List AV} {h : Heap} {k : KR} (hx : law02_known.get law02_known e g a h k = some true) : e = some true ∨ callK Try.prog ht d g a h k = some true := by
  unfold law02_known.get at hx
  split at hx
  · exact .inr (callK_le hd _ _ _ _ _ (fun _ _ h => h) ((law02_known.all _).trans hx))
  · exact .inl hx
/-- function 8: sheerleg/octet.Put -/
noncomputable def octet_Put.body (ns5 : List Int) (n6 : Int) (n7 : Int) (k1 : (List Int) → Option Bool) : Option Bool :=
  (cond_ (Nat.ble (((0 : Nat) + (List.length ns5)) * (1 : Nat)) (140737488355328 : Nat)) (cond_ (! (decide (n7 < (1 : Int)))) (cond_ (decide (n7 > (8 : Int))) (k1 ([] ++ ns5)) (cond_ (((decide ((0 : Int) ≤ (IntKind.wrap .i64 ((8 : Int) - n7)))) && (decide ((IntKind.wrap .i64 ((8 : Int) - n7)) ≤ (8 : Int)))) && true) (cond_ (Nat.ble (((List.length ([] ++ ns5)) + (List.length (List.take (Int.toNat ((8 : Int) - (IntKind.wrap .i64 ((8 : Int) - n7)))) (List.drop (Int.toNat (IntKind.wrap .i64 ((8 : Int) - n7))) ((IntKind.wrap .u8 (Int.fdiv n6 (72057594037927936 : Int))) :: ((IntKind.wrap .u8 (Int.fdiv n6 (281474976710656 : Int))) :: ((IntKind.wrap .u8 (Int.fdiv n6 (1099511627776 : Int))) :: ((IntKind.wrap .u8 (Int.fdiv n6 (4294967296 : Int))) :: ((IntKind.wrap .u8 (Int.fdiv n6 (16777216 : Int))) :: ((IntKind.wrap .u8 (Int.fdiv n6 (65536 : Int))) :: ((IntKind.wrap .u8 (Int.fdiv n6 (256 : Int))) :: ((IntKind.wrap .u8 (Int.fdiv n6 (1 : Int))) :: [])))))))))))) * (1 : Nat)) (140737488355328 : Nat)) (k1 (([] ++ ns5) ++ (List.take (Int.toNat ((8 : Int) - (IntKind.wrap .i64 ((8 : Int) - n7)))) (List.drop (Int.toNat (IntKind.wrap .i64 ((8 : Int) - n7))) ((IntKind.wrap .u8 (Int.fdiv n6 (72057594037927936 : Int))) :: ((IntKind.wrap .u8 (Int.fdiv n6 (281474976710656 : Int))) :: ((IntKind.wrap .u8 (Int.fdiv n6 (1099511627776 : Int))) :: ((IntKind.wrap .u8 (Int.fdiv n6 (4294967296 : Int))) :: ((IntKind.wrap .u8 (Int.fdiv n6 (16777216 : Int))) :: ((IntKind.wrap .u8 (Int.fdiv n6 (65536 : Int))) :: ((IntKind.wrap .u8 (Int.fdiv n6 (256 : Int))) :: ((IntKind.wrap .u8 (Int.fdiv n6 (1 : Int))) :: [])))))))))))) none) none)) (k1 ([] ++ ns5))) none)
noncomputable def octet_Put (ns5 : List Int) (n6 : Int) (n7 : Int) (k1 : (List Int) → Option Bool) : Option Bool := octet_Put.body ns5 n6 n7 k1
noncomputable def octet_Put.get (F : (List Int) → Int → Int → ((List Int) → Option Bool) → Option Bool) (e : Option Bool) (g : FuncId) (a : List AV) (h : Heap) (k : KR) : Option Bool := match g, a, h with
  | 8, [(.bv 0 5 (.int .u8) ns5), (.d ⟨(.int .i64), n6⟩), (.d ⟨(.int .i64), n7⟩)], [] => F ns5 n6 n7 (fun y0 => k (.ref [1, 0]) [([1, 0], ⟨5, 1, (.data (.int .u8) y0)⟩)])
  | _, _, _ => e
noncomputable def octet_Put.calls : RecF := fun g a h k => none
noncomputable def octet_Put.loops : LoopF := fun b => match Nat.beq b 0 with | true => none | false => none
set_option maxRecDepth 100000 in
theorem octet_Put.eq (ns5 : List Int) (n6 : Int) (n7 : Int) (k : KR) : execL Try.prog ht 8 (callfOf (octet_Put.calls)) (octet_Put.loops) 0 (codeOf Try.f8) ⟨[(.bv 0 5 (.int .u8) ns5), (.d ⟨(.int .i64), n6⟩), (.d ⟨(.int .i64), n7⟩)] ++ List.replicate (Try.f8.ntmps - ([(.bv 0 5 (.int .u8) ns5), (.d ⟨(.int .i64), n6⟩), (.d ⟨(.int .i64), n7⟩)] : List AV).length) .undef, [], 2⟩ (leave Try.prog Try.f8 k) = octet_Put.body ns5 n6 n7 (fun y0 => k (.ref [1, 0]) [([1, 0], ⟨5, 1, (.data (.int .u8) y0)⟩)]) := by kernel_rfl
theorem octet_Put.ok (d : Nat) (hd : 1 ≤ d) (ns5 : List Int) (n6 : Int) (n7 : Int) (k : KR) (hx : octet_Put ns5 n6 n7 (fun y0 => k (.ref [1, 0]) [([1, 0], ⟨5, 1, (.data (.int .u8) y0)⟩)]) = some true) : callK Try.prog ht d 8 [(.bv 0 5 (.int .u8) ns5), (.d ⟨(.int .i64), n6⟩), (.d ⟨(.int .i64), n7⟩)] [] k = some true := by
  obtain ⟨d, rfl⟩ : ∃ e, d = e + 1 := ⟨d - 1, by omega⟩
  exact fn_ok (c := codeOf Try.f8) Try.func8 (by kernel_rfl) (rec := octet_Put.calls) (fun g a h k hx => by
    cases hx) (loopf := octet_Put.loops) (by
    have e : loopsOf (octet_Put.loops) 0 (codeOf Try.f8) = [] := by kernel_rfl
    rw [e]
    intro p hp
    cases hp) ((octet_Put.eq ns5 n6 n7 k).trans hx)
theorem octet_Put.look (d : Nat) (hd : 1 ≤ d) {e : Option Bool} {g : FuncId} {a : List AV} {h : Heap} {k : KR} (hx : octet_Put.get octet_Put e g a h k = some true) : e = some true ∨ callK Try.prog ht d g a h k = some true := by
  unfold octet_Put.get at hx
  split at hx
  · exact .inr (octet_Put.ok d hd _ _ _ _ hx)
  · exact .inl hx
/-- function 9: sheerleg/octet.Text -/
noncomputable def octet_Text.body (octet_Put : (List Int) → Int → Int → ((List Int) → Option Bool) → Option Bool) (ns10 : List Int) (s11 : ByteArray) (k1 : (List Int) → Option Bool) : Option Bool :=
  (octet_Put ns10 (if ((255 : Int) < (((ByteArray.size s11) : Nat) : Int)) then (255 : Int) else (((ByteArray.size s11) : Nat) : Int)) (1 : Int)
  (fun ns12 => (cond_ ((true && (decide ((0 : Int) ≤ (if ((255 : Int) < (((ByteArray.size s11) : Nat) : Int)) then (255 : Int) else (((ByteArray.size s11) : Nat) : Int))))) && (decide ((if ((255 : Int) < (((ByteArray.size s11) : Nat) : Int)) then (255 : Int) else (((ByteArray.size s11) : Nat) : Int)) ≤ (((ByteArray.size s11) : Nat) : Int)))) (cond_ (Nat.ble (((List.length ns12) + (List.length (bytesI (ByteArray.extract s11 (0 : Nat) (Int.toNat (if ((255 : Int) < (((ByteArray.size s11) : Nat) : Int)) then (255 : Int) else (((ByteArray.size s11) : Nat) : Int))))))) * (1 : Nat)) (140737488355328 : Nat)) (k1 (ns12 ++ (bytesI (ByteArray.extract s11 (0 : Nat) (Int.toNat (if ((255 : Int) < (((ByteArray.size s11) : Nat) : Int)) then (255 : Int) else (((ByteArray.size s11) : Nat) : Int))))))) none) none)))
noncomputable def octet_Text (ns10 : List Int) (s11 : ByteArray) (k1 : (List Int) → Option Bool) : Option Bool := octet_Text.body octet_Put ns10 s11 k1
noncomputable def octet_Text.get (F : (List Int) → ByteArray → ((List Int) → Option Bool) → Option Bool) (e : Option Bool) (g : FuncId) (a : List AV) (h : Heap) (k : KR) : Option Bool := match g, a, h with
  | 9, [(.bv 0 5 (.int .u8) ns10), (.d ⟨.str, s11⟩)], [] => F ns10 s11 (fun y0 => k (.ref [1, 0]) [([1, 0], ⟨5, 1, (.data (.int .u8) y0)⟩)])
  | _, _, _ => e
noncomputable def octet_Text.calls (F0 : (List Int) → Int → Int → ((List Int) → Option Bool) → Option Bool) : RecF := fun g a h k => (octet_Put.get F0 none g a h k)
noncomputable def octet_Text.loops : LoopF := fun b => none
set_option maxRecDepth 100000 in
theorem octet_Text.eq (F0 : (List Int) → Int → Int → ((List Int) → Option Bool) → Option Bool) (ns10 : List Int) (s11 : ByteArray) (k : KR) : execL Try.prog ht 9 (callfOf (octet_Text.calls F0)) (octet_Text.loops) 0 (codeOf Try.f9) ⟨[(.bv 0 5 (.int .u8) ns10), (.d ⟨.str, s11⟩)] ++ List.replicate (Try.f9.ntmps - ([(.bv 0 5 (.int .u8) ns10), (.d ⟨.str, s11⟩)] : List AV).length) .undef, [], 2⟩ (leave Try.prog Try.f9 k) = octet_Text.body F0 ns10 s11 (fun y0 => k (.ref [1, 0]) [([1, 0], ⟨5, 1, (.data (.int .u8) y0)⟩)]) := by kernel_rfl
theorem octet_Text.ok (d : Nat) (hd : 2 ≤ d) (ns10 : List Int) (s11 : ByteArray) (k : KR) (hx : octet_Text ns10 s11 (fun y0 => k (.ref [1, 0]) [([1, 0], ⟨5, 1, (.data (.int .u8) y0)⟩)]) = some true) : callK Try.prog ht d 9 [(.bv 0 5 (.int .u8) ns10), (.d ⟨.str, s11⟩)] [] k = some true := by
  obtain ⟨d, rfl⟩ : ∃ e, d = e + 1 := ⟨d - 1, by omega⟩
  exact fn_ok (c := codeOf Try.f9) Try.func9 (by kernel_rfl) (rec := octet_Text.calls octet_Put) (fun g a h k hx => by
    rcases octet_Put.look d (by omega) hx with hx | hx
    rotate_left
    · exact hx
    cases hx) (loopf := octet_Text.loops) (by
    have e : loopsOf (octet_Text.loops) 0 (codeOf Try.f9) = [] := by kernel_rfl
    rw [e]
    intro p hp
    cases hp) ((octet_Text.eq octet_Put ns10 s11 k).trans hx)
theorem octet_Text.look (d : Nat) (hd : 2 ≤ d) {e : Option Bool} {g : FuncId} {a : List AV} {h : Heap} {k : KR} (hx : octet_Text.get octet_Text e g a h k = some true) : e = some true ∨ callK Try.prog ht d g a h k = some true := by
  unfold octet_Text.get at hx
  split at hx
  · exact .inr (octet_Text.ok d hd _ _ _ hx)
  · exact .inl hx
/-- function 10: the loop in block 2 -/
noncomputable def ref02_Put_L0_L2.body (ref02_Put_L0_L2 : Int → Int → Int → Int → (List Int) → (Int → Int → Int → (List Int) → Option Bool) → Option Bool) (n20 : Int) (n21 : Int) (n22 : Int) (n23 : Int) (ns24 : List Int) (k1 : Int → Int → Int → (List Int) → Option Bool) : Option Bool :=
  (cond_ (decide (n23 < n21)) (ref02_Put_L0_L2 n20 n21 (IntKind.wrap .u64 (Int.tdiv n22 (256 : Int))) (IntKind.wrap .i64 (n23 + (1 : Int))) ns24 k1) (k1 n20 n21 n22 ns24))
noncomputable def ref02_Put_L0_L2 : Nat → Int → Int → Int → Int → (List Int) → (Int → Int → Int → (List Int) → Option Bool) → Option Bool
  | 0 => fun _ _ _ _ _ _ => none
  | n + 1 => ref02_Put_L0_L2.body (ref02_Put_L0_L2 n)
noncomputable def ref02_Put_L0_L2.get (F : Int → Int → Int → Int → (List Int) → (Int → Int → Int → (List Int) → Option Bool) → Option Bool) (e : Option Bool) (st : St) (k : KE) : Option Bool := match st with
  | ⟨sl, hp, m⟩ => match Nat.beq m 2, pickS 45 [7, 8, 9, 10, 11] sl, hp with
    | true, some [(.ref [1, 0]), (.d ⟨(.int .u64), n20⟩), (.d ⟨(.int .i64), n21⟩), (.d ⟨(.int .u64), n22⟩), (.d ⟨(.int .i64), n23⟩)], [([1, 0], ⟨5, 1, (.data (.int .u8) ns24)⟩)] => F n20 n21 n22 n23 ns24 (fun y0 y1 y2 y3 => k (.exit 2) ⟨fillS 45 [7, 8, 9, 10] [(.ref [1, 0]), (.d ⟨(.int .u64), y0⟩), (.d ⟨(.int .i64), y1⟩), (.d ⟨(.int .u64), y2⟩)], [([1, 0], ⟨5, 1, (.data (.int .u8) y3)⟩)], 2⟩)
    | _, _, _ => e
noncomputable def ref02_Put_L0_L2.calls : RecF := fun g a h k => none
noncomputable def ref02_Put_L0_L2.loops : LoopF := fun b => none
set_option maxRecDepth 100000 in
theorem ref02_Put_L0_L2.step (S : Int → Int → Int → Int → (List Int) → (Int → Int → Int → (List Int) → Option Bool) → Option Bool) (n20 : Int) (n21 : Int) (n22 : Int) (n23 : Int) (ns24 : List Int) (k : KE) : execL Try.prog ht 10 (callfOf (ref02_Put_L0_L2.calls)) (ref02_Put_L0_L2.loops) 2 (loopAt 2 (codeOf Try.f10)) ⟨fillS 45 [7, 8, 9, 10, 11] [(.ref [1, 0]), (.d ⟨(.int .u64), n20⟩), (.d ⟨(.int .i64), n21⟩), (.d ⟨(.int .u64), n22⟩), (.d ⟨(.int .i64), n23⟩)], [([1, 0], ⟨5, 1, (.data (.int .u8) ns24)⟩)], 2⟩ (again (ref02_Put_L0_L2.get S none) (plan Try.prog (ht 10 2)) k) = ref02_Put_L0_L2.body S n20 n21 n22 n23 ns24 (fun y0 y1 y2 y3 => k (.exit 2) ⟨fillS 45 [7, 8, 9, 10] [(.ref [1, 0]), (.d ⟨(.int .u64), y0⟩), (.d ⟨(.int .i64), y1⟩), (.d ⟨(.int .u64), y2⟩)], [([1, 0], ⟨5, 1, (.data (.int .u8) y3)⟩)], 2⟩) := by kernel_rfl
theorem ref02_Put_L0_L2.ok (d : Nat) (hd : 0 ≤ d) : ∀ n st k, ref02_Put_L0_L2.get (ref02_Put_L0_L2 n) none st k = some true → iter n (plan Try.prog (ht 10 2)) (fun st k => execK Try.prog ht 10 (callfOf (callK Try.prog ht d)) 2 (loopAt 2 (codeOf Try.f10)) st k) st k = some true :=
  loop_ok (lfn := fun n st k => ref02_Put_L0_L2.get (ref02_Put_L0_L2 n) none st k) (rec := ref02_Put_L0_L2.calls) (fun g a h k hx => by
    cases hx) (loopf := ref02_Put_L0_L2.loops) (by
    have e : loopsOf (ref02_Put_L0_L2.loops) 2 (loopAt 2 (codeOf Try.f10)) = [] := by kernel_rfl
    rw [e]
    intro p hp
    cases hp) (fun st k h => by
    obtain ⟨sl, hp, m⟩ := st
    unfold ref02_Put_L0_L2.get at h
    dsimp only at h
    split at h
    · have h' : (none : Option Bool) = some true := h
      cases h'
    · cases h) (fun n st k h => by
    obtain ⟨sl, hp, m⟩ := st
    unfold ref02_Put_L0_L2.get at h
    dsimp only at h
    split at h
    · rename_i h1 h2
      obtain rfl := pickS_ok h2
      obtain rfl := Nat.eq_of_beq_eq_true h1
      exact (ref02_Put_L0_L2.step (ref02_Put_L0_L2 n) _ _ _ _ _ k).trans h
    · cases h)
theorem ref02_Put_L0_L2.look {F : Int → Int → Int → Int → (List Int) → (Int → Int → Int → (List Int) → Option Bool) → Option Bool} {e : Option Bool} {st : St} {k : KE} (hx : ref02_Put_L0_L2.get F e st k = some true) : e = some true ∨ ref02_Put_L0_L2.get F none st k = some true := by
  obtain ⟨sl, hp, m⟩ := st
  unfold ref02_Put_L0_L2.get at hx ⊢
  dsimp only at hx ⊢
  split at hx
  · exact .inr hx
  · exact .inl hx
/-- function 10: the loop in block 0 -/
noncomputable def ref02_Put_L0.body (ref02_Put_L0 : Int → Int → (List Int) → ((List Int) → Option Bool) → Option Bool) (ref02_Put_L0_L2 : Int → Int → Int → Int → (List Int) → (Int → Int → Int → (List Int) → Option Bool) → Option Bool) (n17 : Int) (n18 : Int) (ns19 : List Int) (k1 : (List Int) → Option Bool) : Option Bool :=
  (cond_ (decide (n18 ≥ (0 : Int))) (ref02_Put_L0_L2 n17 n18 n17 (0 : Int) ns19
  (fun n25 n26 n27 ns28 => (cond_ (Nat.ble (((List.length ns28) + (List.length ((IntKind.wrap .u8 (Int.tmod n27 (256 : Int))) :: []))) * (1 : Nat)) (140737488355328 : Nat)) (ref02_Put_L0 n25 (IntKind.wrap .i64 (n26 - (1 : Int))) (ns28 ++ ((IntKind.wrap .u8 (Int.tmod n27 (256 : Int))) :: [])) k1) none))) (k1 ns19))
noncomputable def ref02_Put_L0 : Nat → Int → Int → (List Int) → ((List Int) → Option Bool) → Option Bool
  | 0 => fun _ _ _ _ => none
  | n + 1 => ref02_Put_L0.body (ref02_Put_L0 n) (ref02_Put_L0_L2 ROUNDS)
noncomputable def ref02_Put_L0.get (F : Int → Int → (List Int) → ((List Int) → Option Bool) → Option Bool) (e : Option Bool) (st : St) (k : KE) : Option Bool := match st with
  | ⟨sl, hp, m⟩ => match Nat.beq m 2, pickS 45 [7, 8, 9] sl, hp with
    | true, some [(.ref [1, 0]), (.d ⟨(.int .u64), n17⟩), (.d ⟨(.int .i64), n18⟩)], [([1, 0], ⟨5, 1, (.data (.int .u8) ns19)⟩)] => F n17 n18 ns19 (fun y0 => k (.exit 0) ⟨fillS 45 [7] [(.ref [1, 0])], [([1, 0], ⟨5, 1, (.data (.int .u8) y0)⟩)], 2⟩)
    | _, _, _ => e
noncomputable def ref02_Put_L0.calls : RecF := fun g a h k => none
noncomputable def ref02_Put_L0.loops (L0 : Int → Int → Int → Int → (List Int) → (Int → Int → Int → (List Int) → Option Bool) → Option Bool) : LoopF := fun b => match Nat.beq b 2 with | true => some (fun st k => (ref02_Put_L0_L2.get L0 none st k)) | false => none
set_option maxRecDepth 100000 in
theorem ref02_Put_L0.step (S : Int → Int → (List Int) → ((List Int) → Option Bool) → Option Bool) (L0 : Int → Int → Int → Int → (List Int) → (Int → Int → Int → (List Int) → Option Bool) → Option Bool) (n17 : Int) (n18 : Int) (ns19 : List Int) (k : KE) : execL Try.prog ht 10 (callfOf (ref02_Put_L0.calls)) (ref02_Put_L0.loops L0) 0 (loopAt 0 (codeOf Try.f10)) ⟨fillS 45 [7, 8, 9] [(.ref [1, 0]), (.d ⟨(.int .u64), n17⟩), (.d ⟨(.int .i64), n18⟩)], [([1, 0], ⟨5, 1, (.data (.int .u8) ns19)⟩)], 2⟩ (again (ref02_Put_L0.get S none) (plan Try.prog (ht 10 0)) k) = ref02_Put_L0.body S L0 n17 n18 ns19 (fun y0 => k (.exit 0) ⟨fillS 45 [7] [(.ref [1, 0])], [([1, 0], ⟨5, 1, (.data (.int .u8) y0)⟩)], 2⟩) := by kernel_rfl
theorem ref02_Put_L0.ok (d : Nat) (hd : 0 ≤ d) : ∀ n st k, ref02_Put_L0.get (ref02_Put_L0 n) none st k = some true → iter n (plan Try.prog (ht 10 0)) (fun st k => execK Try.prog ht 10 (callfOf (callK Try.prog ht d)) 0 (loopAt 0 (codeOf Try.f10)) st k) st k = some true :=
  loop_ok (lfn := fun n st k => ref02_Put_L0.get (ref02_Put_L0 n) none st k) (rec := ref02_Put_L0.calls) (fun g a h k hx => by
    cases hx) (loopf := ref02_Put_L0.loops (ref02_Put_L0_L2 ROUNDS)) (by
    have e : loopsOf (ref02_Put_L0.loops (ref02_Put_L0_L2 ROUNDS)) 0 (loopAt 0 (codeOf Try.f10)) = [(2, loopAt 2 (codeOf Try.f10))] := by kernel_rfl
    rw [e]
    intro p hp
    simp only [List.mem_cons, List.not_mem_nil, or_false] at hp
    rcases hp with rfl
    · refine loopRef_of (callf := callfOf (callK Try.prog ht d)) (callfOf_ref (callK_mono d)) fun lf st k hb hx => ?_
      cases hb
      rcases ref02_Put_L0_L2.look hx with hx | hx
      rotate_left
      · exact ref02_Put_L0_L2.ok d (by omega) _ _ _ hx
      cases hx) (fun st k h => by
    obtain ⟨sl, hp, m⟩ := st
    unfold ref02_Put_L0.get at h
    dsimp only at h
    split at h
    · have h' : (none : Option Bool) = some true := h
      cases h'
    · cases h) (fun n st k h => by
    obtain ⟨sl, hp, m⟩ := st
    unfold ref02_Put_L0.get at h
    dsimp only at h
    split at h
    · rename_i h1 h2
      obtain rfl := pickS_ok h2
      obtain rfl := Nat.eq_of_beq_eq_true h1
      exact (ref02_Put_L0.step (ref02_Put_L0 n) (ref02_Put_L0_L2 ROUNDS) _ _ _ k).trans h
    · cases h)
theorem ref02_Put_L0.look {F : Int → Int → (List Int) → ((List Int) → Option Bool) → Option Bool} {e : Option Bool} {st : St} {k : KE} (hx : ref02_Put_L0.get F e st k = some true) : e = some true ∨ ref02_Put_L0.get F none st k = some true := by
  obtain ⟨sl, hp, m⟩ := st
  unfold ref02_Put_L0.get at hx ⊢
  dsimp only at hx ⊢
  split at hx
  · exact .inr hx
  · exact .inl hx
/-- function 10: sheerleg/sheerlegref02.Put -/
noncomputable def ref02_Put.body (ref02_Put_L0 : Int → Int → (List Int) → ((List Int) → Option Bool) → Option Bool) (ns14 : List Int) (n15 : Int) (n16 : Int) (k1 : (List Int) → Option Bool) : Option Bool :=
  (cond_ (Nat.ble ((List.length ns14) * (1 : Nat)) (140737488355328 : Nat)) (cond_ (! (decide (n16 < (1 : Int)))) (cond_ (decide (n16 > (8 : Int))) (k1 ns14) (ref02_Put_L0 (IntKind.wrap .u64 n15) (IntKind.wrap .i64 (n16 - (1 : Int))) ns14
  (fun ns29 => (k1 ns29)))) (k1 ns14)) none)
noncomputable def ref02_Put (ns14 : List Int) (n15 : Int) (n16 : Int) (k1 : (List Int) → Option Bool) : Option Bool := ref02_Put.body (ref02_Put_L0 ROUNDS) ns14 n15 n16 k1
noncomputable def ref02_Put.get (F : (List Int) → Int → Int → ((List Int) → Option Bool) → Option Bool) (e : Option Bool) (g : FuncId) (a : List AV) (h : Heap) (k : KR) : Option Bool := match g, a, h with
  | 10, [(.bv 0 5 (.int .u8) ns14), (.d ⟨(.int .i64), n15⟩), (.d ⟨(.int .i64), n16⟩)], [] => F ns14 n15 n16 (fun y0 => k (.ref [1, 0]) [([1, 0], ⟨5, 1, (.data (.int .u8) y0)⟩)])
  | _, _, _ => e
noncomputable def ref02_Put.calls : RecF := fun g a h k => none
noncomputable def ref02_Put.loops (L0 : Int → Int → (List Int) → ((List Int) → Option Bool) → Option Bool) : LoopF := fun b => match Nat.beq b 0 with | true => some (fun st k => (ref02_Put_L0.get L0 none st k)) | false => none
set_option maxRecDepth 100000 in
theorem ref02_Put.eq (L0 : Int → Int → (List Int) → ((List Int) → Option Bool) → Option Bool) (ns14 : List Int) (n15 : Int) (n16 : Int) (k : KR) : execL Try.prog ht 10 (callfOf (ref02_Put.calls)) (ref02_Put.loops L0) 0 (codeOf Try.f10) ⟨[(.bv 0 5 (.int .u8) ns14), (.d ⟨(.int .i64), n15⟩), (.d ⟨(.int .i64), n16⟩)] ++ List.replicate (Try.f10.ntmps - ([(.bv 0 5 (.int .u8) ns14), (.d ⟨(.int .i64), n15⟩), (.d ⟨(.int .i64), n16⟩)] : List AV).length) .undef, [], 2⟩ (leave Try.prog Try.f10 k) = ref02_Put.body L0 ns14 n15 n16 (fun y0 => k (.ref [1, 0]) [([1, 0], ⟨5, 1, (.data (.int .u8) y0)⟩)]) := by kernel_rfl
theorem ref02_Put.ok (d : Nat) (hd : 1 ≤ d) (ns14 : List Int) (n15 : Int) (n16 : Int) (k : KR) (hx : ref02_Put ns14 n15 n16 (fun y0 => k (.ref [1, 0]) [([1, 0], ⟨5, 1, (.data (.int .u8) y0)⟩)]) = some true) : callK Try.prog ht d 10 [(.bv 0 5 (.int .u8) ns14), (.d ⟨(.int .i64), n15⟩), (.d ⟨(.int .i64), n16⟩)] [] k = some true := by
  obtain ⟨d, rfl⟩ : ∃ e, d = e + 1 := ⟨d - 1, by omega⟩
  exact fn_ok (c := codeOf Try.f10) Try.func10 (by kernel_rfl) (rec := ref02_Put.calls) (fun g a h k hx => by
    cases hx) (loopf := ref02_Put.loops (ref02_Put_L0 ROUNDS)) (by
    have e : loopsOf (ref02_Put.loops (ref02_Put_L0 ROUNDS)) 0 (codeOf Try.f10) = [(0, loopAt 0 (codeOf Try.f10))] := by kernel_rfl
    rw [e]
    intro p hp
    simp only [List.mem_cons, List.not_mem_nil, or_false] at hp
    rcases hp with rfl
    · refine loopRef_of (callf := callfOf (callK Try.prog ht d)) (callfOf_ref (callK_mono d)) fun lf st k hb hx => ?_
      cases hb
      rcases ref02_Put_L0.look hx with hx | hx
      rotate_left
      · exact ref02_Put_L0.ok d (by omega) _ _ _ hx
      cases hx) ((ref02_Put.eq (ref02_Put_L0 ROUNDS) ns14 n15 n16 k).trans hx)
theorem ref02_Put.look (d : Nat) (hd : 1 ≤ d) {e : Option Bool} {g : FuncId} {a : List AV} {h : Heap} {k : KR} (hx : ref02_Put.get ref02_Put e g a h k = some true) : e = some true ∨ callK Try.prog ht d g a h k = some true := by
  unfold ref02_Put.get at hx
  split at hx
  · exact .inr (ref02_Put.ok d hd _ _ _ _ hx)
  · exact .inl hx
/-- function 11: sheerleg/sheerlegref02.Text -/
noncomputable def ref02_Text.body (ref02_Put : (List Int) → Int → Int → ((List Int) → Option Bool) → Option Bool) (ns32 : List Int) (s33 : ByteArray) (k1 : (List Int) → Option Bool) : Option Bool :=
  (cond_ (decide ((((ByteArray.size s33) : Nat) : Int) > (255 : Int))) (cond_ (true && (decide ((255 : Int) ≤ (((ByteArray.size s33) : Nat) : Int)))) (ref02_Put ns32 (((ByteArray.size (ByteArray.extract s33 (0 : Nat) (255 : Nat))) : Nat) : Int) (1 : Int)
  (fun ns34 => (cond_ (Nat.ble (((List.length ns34) + (List.length (bytesI (ByteArray.extract s33 (0 : Nat) (255 : Nat))))) * (1 : Nat)) (140737488355328 : Nat)) (k1 (ns34 ++ (bytesI (ByteArray.extract s33 (0 : Nat) (255 : Nat))))) none))) none) (ref02_Put ns32 (((ByteArray.size s33) : Nat) : Int) (1 : Int)
  (fun ns35 => (cond_ (Nat.ble (((List.length ns35) + (List.length (bytesI s33))) * (1 : Nat)) (140737488355328 : Nat)) (k1 (ns35 ++ (bytesI s33))) none))))
noncomputable def ref02_Text (ns32 : List Int) (s33 : ByteArray) (k1 : (List Int) → Option Bool) : Option Bool := ref02_Text.body ref02_Put ns32 s33 k1
noncomputable def ref02_Text.get (F : (List Int) → ByteArray → ((List Int) → Option Bool) → Option Bool) (e : Option Bool) (g : FuncId) (a : List AV) (h : Heap) (k : KR) : Option Bool := match g, a, h with
  | 11, [(.bv 0 5 (.int .u8) ns32), (.d ⟨.str, s33⟩)], [] => F ns32 s33 (fun y0 => k (.ref [1, 0]) [([1, 0], ⟨5, 1, (.data (.int .u8) y0)⟩)])
  | _, _, _ => e
noncomputable def ref02_Text.calls (F0 : (List Int) → Int → Int → ((List Int) → Option Bool) → Option Bool) : RecF := fun g a h k => (ref02_Put.get F0 none g a h k)
noncomputable def ref02_Text.loops : LoopF := fun b => none
set_option maxRecDepth 100000 in
theorem ref02_Text.eq (F0 : (List Int) → Int → Int → ((List Int) → Option Bool) → Option Bool) (ns32 : List Int) (s33 : ByteArray) (k : KR) : execL Try.prog ht 11 (callfOf (ref02_Text.calls F0)) (ref02_Text.loops) 0 (codeOf Try.f11) ⟨[(.bv 0 5 (.int .u8) ns32), (.d ⟨.str, s33⟩)] ++ List.replicate (Try.f11.ntmps - ([(.bv 0 5 (.int .u8) ns32), (.d ⟨.str, s33⟩)] : List AV).length) .undef, [], 2⟩ (leave Try.prog Try.f11 k) = ref02_Text.body F0 ns32 s33 (fun y0 => k (.ref [1, 0]) [([1, 0], ⟨5, 1, (.data (.int .u8) y0)⟩)]) := by kernel_rfl
theorem ref02_Text.ok (d : Nat) (hd : 2 ≤ d) (ns32 : List Int) (s33 : ByteArray) (k : KR) (hx : ref02_Text ns32 s33 (fun y0 => k (.ref [1, 0]) [([1, 0], ⟨5, 1, (.data (.int .u8) y0)⟩)]) = some true) : callK Try.prog ht d 11 [(.bv 0 5 (.int .u8) ns32), (.d ⟨.str, s33⟩)] [] k = some true := by
  obtain ⟨d, rfl⟩ : ∃ e, d = e + 1 := ⟨d - 1, by omega⟩
  exact fn_ok (c := codeOf Try.f11) Try.func11 (by kernel_rfl) (rec := ref02_Text.calls ref02_Put) (fun g a h k hx => by
    rcases ref02_Put.look d (by omega) hx with hx | hx
    rotate_left
    · exact hx
    cases hx) (loopf := ref02_Text.loops) (by
    have e : loopsOf (ref02_Text.loops) 0 (codeOf Try.f11) = [] := by kernel_rfl
    rw [e]
    intro p hp
    cases hp) ((ref02_Text.eq ref02_Put ns32 s33 k).trans hx)
theorem ref02_Text.look (d : Nat) (hd : 2 ≤ d) {e : Option Bool} {g : FuncId} {a : List AV} {h : Heap} {k : KR} (hx : ref02_Text.get ref02_Text e g a h k = some true) : e = some true ∨ callK Try.prog ht d g a h k = some true := by
  unfold ref02_Text.get at hx
  split at hx
  · exact .inr (ref02_Text.ok d hd _ _ _ hx)
  · exact .inl hx
/-- function 3: sheerleg/sheerleglaw02.OctetPuts -/
noncomputable def law02_OctetPuts.body (law02_known : (Bool → Option Bool) → Option Bool) (octet_Put : (List Int) → Int → Int → ((List Int) → Option Bool) → Option Bool) (octet_Text : (List Int) → ByteArray → ((List Int) → Option Bool) → Option Bool) (ref02_Put : (List Int) → Int → Int → ((List Int) → Option Bool) → Option Bool) (ref02_Text : (List Int) → ByteArray → ((List Int) → Option Bool) → Option Bool) (ns0 : List Int) (n1 : Int) (n2 : Int) (s3 : ByteArray) (k1 : Bool → Option Bool) : Option Bool :=
  (cond_ (! (decide ((((List.length ns0) : Nat) : Int) > (300 : Int)))) (cond_ (decide ((((ByteArray.size s3) : Nat) : Int) > (600 : Int))) (law02_known
  (fun b4 => (k1 b4))) (octet_Put ns0 n1 n2
  (fun ns8 => (octet_Put ns0 (IntKind.wrap .i64 (n1 + (1 : Int))) n2
  (fun ns9 => (octet_Text ns0 s3
  (fun ns13 => (ref02_Put ns0 n1 n2
  (fun ns30 => (cond_ ((ByteArray.toList (strOf ns8)) == (ByteArray.toList (strOf ns30))) (ref02_Put ns0 (IntKind.wrap .i64 (n1 + (1 : Int))) n2
  (fun ns31 => (cond_ ((ByteArray.toList (strOf ns9)) == (ByteArray.toList (strOf ns31))) (ref02_Text ns0 s3
  (fun ns36 => (cond_ ((ByteArray.toList (strOf ns13)) == (ByteArray.toList (strOf ns36))) (cond_ ((ByteArray.toList (strOf ns0)) == (ByteArray.toList (strOf ns0))) (law02_known
  (fun b37 => (k1 b37))) (k1 false)) (k1 false)))) (k1 false)))) (k1 false))))))))))) (law02_known
  (fun b38 => (k1 b38))))
noncomputable def law02_OctetPuts (ns0 : List Int) (n1 : Int) (n2 : Int) (s3 : ByteArray) (k1 : Bool → Option Bool) : Option Bool := law02_OctetPuts.body law02_known octet_Put octet_Text ref02_Put ref02_Text ns0 n1 n2 s3 k1
noncomputable def law02_OctetPuts.get (F : (List Int) → Int → Int → ByteArray → (Bool → Option Bool) → Option Bool) (e : Option Bool) (g : FuncId) (a : List AV) (h : Heap) (k : KR) : Option Bool := match g, a, h with
  | 3, [(.bv 0 5 (.int .u8) ns0), (.d ⟨(.int .i64), n1⟩), (.d ⟨(.int .i64), n2⟩), (.d ⟨.str, s3⟩)], [] => F ns0 n1 n2 s3 (fun y0 => k (.d ⟨.bool, y0⟩) [])
  | _, _, _ => e
noncomputable def law02_OctetPuts.calls (F0 : (Bool → Option Bool) → Option Bool) (F1 : (List Int) → Int → Int → ((List Int) → Option Bool) → Option Bool) (F2 : (List Int) → ByteArray → ((List Int) → Option Bool) → Option Bool) (F3 : (List Int) → Int → Int → ((List Int) → Option Bool) → Option Bool) (F4 : (List Int) → ByteArray → ((List Int) → Option Bool) → Option Bool) : RecF := fun g a h k => (law02_known.get F0 (octet_Put.get F1 (octet_Text.get F2 (ref02_Put.get F3 (ref02_Text.get F4 none g a h k) g a h k) g a h k) g a h k) g a h k)
noncomputable def law02_OctetPuts.loops : LoopF := fun b => none
set_option maxRecDepth 100000 in
theorem law02_OctetPuts.eq (F0 : (Bool → Option Bool) → Option Bool) (F1 : (List Int) → Int → Int → ((List Int) → Option Bool) → Option Bool) (F2 : (List Int) → ByteArray → ((List Int) → Option Bool) → Option Bool) (F3 : (List Int) → Int → Int → ((List Int) → Option Bool) → Option Bool) (F4 : (List Int) → ByteArray → ((List Int) → Option Bool) → Option Bool) (ns0 : List Int) (n1 : Int) (n2 : Int) (s3 : ByteArray) (k : KR) : execL Try.prog ht 3 (callfOf (law02_OctetPuts.calls F0 F1 F2 F3 F4)) (law02_OctetPuts.loops) 0 (codeOf Try.f3) ⟨[(.bv 0 5 (.int .u8) ns0), (.d ⟨(.int .i64), n1⟩), (.d ⟨(.int .i64), n2⟩), (.d ⟨.str, s3⟩)] ++ List.replicate (Try.f3.ntmps - ([(.bv 0 5 (.int .u8) ns0), (.d ⟨(.int .i64), n1⟩), (.d ⟨(.int .i64), n2⟩), (.d ⟨.str, s3⟩)] : List AV).length) .undef, [], 2⟩ (leave Try.prog Try.f3 k) = law02_OctetPuts.body F0 F1 F2 F3 F4 ns0 n1 n2 s3 (fun y0 => k (.d ⟨.bool, y0⟩) []) := by kernel_rfl
theorem law02_OctetPuts.ok (d : Nat) (hd : 61 ≤ d) (ns0 : List Int) (n1 : Int) (n2 : Int) (s3 : ByteArray) (k : KR) (hx : law02_OctetPuts ns0 n1 n2 s3 (fun y0 => k (.d ⟨.bool, y0⟩) []) = some true) : callK Try.prog ht d 3 [(.bv 0 5 (.int .u8) ns0), (.d ⟨(.int .i64), n1⟩), (.d ⟨(.int .i64), n2⟩), (.d ⟨.str, s3⟩)] [] k = some true := by
  obtain ⟨d, rfl⟩ : ∃ e, d = e + 1 := ⟨d - 1, by omega⟩
  exact fn_ok (c := codeOf Try.f3) Try.func3 (by kernel_rfl) (rec := law02_OctetPuts.calls law02_known octet_Put octet_Text ref02_Put ref02_Text) (fun g a h k hx => by
    rcases law02_known.look d (by omega) hx with hx | hx
    rotate_left
    · exact hx
    rcases octet_Put.look d (by omega) hx with hx | hx
    rotate_left
    · exact hx
    rcases octet_Text.look d (by omega) hx with hx | hx
    rotate_left
    · exact hx
    rcases ref02_Put.look d (by omega) hx with hx | hx
    rotate_left
    · exact hx
    rcases ref02_Text.look d (by omega) hx with hx | hx
    rotate_left
    · exact hx
    cases hx) (loopf := law02_OctetPuts.loops) (by
    have e : loopsOf (law02_OctetPuts.loops) 0 (codeOf Try.f3) = [] := by kernel_rfl
    rw [e]
    intro p hp
    cases hp) ((law02_OctetPuts.eq law02_known octet_Put octet_Text ref02_Put ref02_Text ns0 n1 n2 s3 k).trans hx)
theorem law02_OctetPuts.look (d : Nat) (hd : 61 ≤ d) {e : Option Bool} {g : FuncId} {a : List AV} {h : Heap} {k : KR} (hx : law02_OctetPuts.get law02_OctetPuts e g a h k = some true) : e = some true ∨ callK Try.prog ht d g a h k = some true := by
  unfold law02_OctetPuts.get at hx
  split at hx
  · exact .inr (law02_OctetPuts.ok d hd _ _ _ _ _ hx)
  · exact .inl hx
/-- function 8: sheerleg/octet.Put -/
noncomputable def octet_Putv1.body (n44 : Int) (n45 : Int) (k1 : (List Int) → Option Bool) : Option Bool :=
  (cond_ (! (decide (n45 < (1 : Int)))) (cond_ (decide (n45 > (8 : Int))) (k1 []) (cond_ (((decide ((0 : Int) ≤ (IntKind.wrap .i64 ((8 : Int) - n45)))) && (decide ((IntKind.wrap .i64 ((8 : Int) - n45)) ≤ (8 : Int)))) && true) (cond_ (Nat.ble (((0 : Nat) + (List.length (List.take (Int.toNat ((8 : Int) - (IntKind.wrap .i64 ((8 : Int) - n45)))) (List.drop (Int.toNat (IntKind.wrap .i64 ((8 : Int) - n45))) ((IntKind.wrap .u8 (Int.fdiv n44 (72057594037927936 : Int))) :: ((IntKind.wrap .u8 (Int.fdiv n44 (281474976710656 : Int))) :: ((IntKind.wrap .u8 (Int.fdiv n44 (1099511627776 : Int))) :: ((IntKind.wrap .u8 (Int.fdiv n44 (4294967296 : Int))) :: ((IntKind.wrap .u8 (Int.fdiv n44 (16777216 : Int))) :: ((IntKind.wrap .u8 (Int.fdiv n44 (65536 : Int))) :: ((IntKind.wrap .u8 (Int.fdiv n44 (256 : Int))) :: ((IntKind.wrap .u8 (Int.fdiv n44 (1 : Int))) :: [])))))))))))) * (1 : Nat)) (140737488355328 : Nat)) (k1 ([] ++ (List.take (Int.toNat ((8 : Int) - (IntKind.wrap .i64 ((8 : Int) - n45)))) (List.drop (Int.toNat (IntKind.wrap .i64 ((8 : Int) - n45))) ((IntKind.wrap .u8 (Int.fdiv n44 (72057594037927936 : Int))) :: ((IntKind.wrap .u8 (Int.fdiv n44 (281474976710656 : Int))) :: ((IntKind.wrap .u8 (Int.fdiv n44 (1099511627776 : Int))) :: ((IntKind.wrap .u8 (Int.fdiv n44 (4294967296 : Int))) :: ((IntKind.wrap .u8 (Int.fdiv n44 (16777216 : Int))) :: ((IntKind.wrap .u8 (Int.fdiv n44 (65536 : Int))) :: ((IntKind.wrap .u8 (Int.fdiv n44 (256 : Int))) :: ((IntKind.wrap .u8 (Int.fdiv n44 (1 : Int))) :: [])))))))))))) none) none)) (k1 []))
noncomputable def octet_Putv1 (n44 : Int) (n45 : Int) (k1 : (List Int) → Option Bool) : Option Bool := octet_Putv1.body n44 n45 k1
noncomputable def octet_Putv1.get (F : Int → Int → ((List Int) → Option Bool) → Option Bool) (e : Option Bool) (g : FuncId) (a : List AV) (h : Heap) (k : KR) : Option Bool := match g, a, h with
  | 8, [.nils, (.d ⟨(.int .i64), n44⟩), (.d ⟨(.int .i64), n45⟩)], [] => F n44 n45 (fun y0 => k (.ref [1, 0]) [([1, 0], ⟨5, 1, (.data (.int .u8) y0)⟩)])
  | _, _, _ => e
noncomputable def octet_Putv1.calls : RecF := fun g a h k => none
noncomputable def octet_Putv1.loops : LoopF := fun b => match Nat.beq b 0 with | true => none | false => none
set_option maxRecDepth 100000 in
theorem octet_Putv1.eq (n44 : Int) (n45 : Int) (k : KR) : execL Try.prog ht 8 (callfOf (octet_Putv1.calls)) (octet_Putv1.loops) 0 (codeOf Try.f8) ⟨[.nils, (.d ⟨(.int .i64), n44⟩), (.d ⟨(.int .i64), n45⟩)] ++ List.replicate (Try.f8.ntmps - ([.nils, (.d ⟨(.int .i64), n44⟩), (.d ⟨(.int .i64), n45⟩)] : List AV).length) .undef, [], 2⟩ (leave Try.prog Try.f8 k) = octet_Putv1.body n44 n45 (fun y0 => k (.ref [1, 0]) [([1, 0], ⟨5, 1, (.data (.int .u8) y0)⟩)]) := by kernel_rfl
theorem octet_Putv1.ok (d : Nat) (hd : 1 ≤ d) (n44 : Int) (n45 : Int) (k : KR) (hx : octet_Putv1 n44 n45 (fun y0 => k (.ref [1, 0]) [([1, 0], ⟨5, 1, (.data (.int .u8) y0)⟩)]) = some true) : callK Try.prog ht d 8 [.nils, (.d ⟨(.int .i64), n44⟩), (.d ⟨(.int .i64), n45⟩)] [] k = some true := by
  obtain ⟨d, rfl⟩ : ∃ e, d = e + 1 := ⟨d - 1, by omega⟩
  exact fn_ok (c := codeOf Try.f8) Try.func8 (by kernel_rfl) (rec := octet_Putv1.calls) (fun g a h k hx => by
    cases hx) (loopf := octet_Putv1.loops) (by
    have e : loopsOf (octet_Putv1.loops) 0 (codeOf Try.f8) = [] := by kernel_rfl
    rw [e]
    intro p hp
    cases hp) ((octet_Putv1.eq n44 n45 k).trans hx)
theorem octet_Putv1.look (d : Nat) (hd : 1 ≤ d) {e : Option Bool} {g : FuncId} {a : List AV} {h : Heap} {k : KR} (hx : octet_Putv1.get octet_Putv1 e g a h k = some true) : e = some true ∨ callK Try.prog ht d g a h k = some true := by
  unfold octet_Putv1.get at hx
  split at hx
  · exact .inr (octet_Putv1.ok d hd _ _ _ hx)
  · exact .inl hx
/-- function 8: sheerleg/octet.Put -/
noncomputable def octet_Putv2.body (ns49 : List Int) (n50 : Int) (n51 : Int) (k1 : (List Int) → Option Bool) : Option Bool :=
  (cond_ (Nat.ble (((0 : Nat) + (List.length ns49)) * (1 : Nat)) (140737488355328 : Nat)) (cond_ (! (decide (n51 < (1 : Int)))) (cond_ (decide (n51 > (8 : Int))) (k1 ([] ++ ns49)) (cond_ (((decide ((0 : Int) ≤ (IntKind.wrap .i64 ((8 : Int) - n51)))) && (decide ((IntKind.wrap .i64 ((8 : Int) - n51)) ≤ (8 : Int)))) && true) (cond_ (Nat.ble (((List.length ([] ++ ns49)) + (List.length (List.take (Int.toNat ((8 : Int) - (IntKind.wrap .i64 ((8 : Int) - n51)))) (List.drop (Int.toNat (IntKind.wrap .i64 ((8 : Int) - n51))) ((IntKind.wrap .u8 (Int.fdiv n50 (72057594037927936 : Int))) :: ((IntKind.wrap .u8 (Int.fdiv n50 (281474976710656 : Int))) :: ((IntKind.wrap .u8 (Int.fdiv n50 (1099511627776 : Int))) :: ((IntKind.wrap .u8 (Int.fdiv n50 (4294967296 : Int))) :: ((IntKind.wrap .u8 (Int.fdiv n50 (16777216 : Int))) :: ((IntKind.wrap .u8 (Int.fdiv n50 (65536 : Int))) :: ((IntKind.wrap .u8 (Int.fdiv n50 (256 : Int))) :: ((IntKind.wrap .u8 (Int.fdiv n50 (1 : Int))) :: [])))))))))))) * (1 : Nat)) (140737488355328 : Nat)) (k1 (([] ++ ns49) ++ (List.take (Int.toNat ((8 : Int) - (IntKind.wrap .i64 ((8 : Int) - n51)))) (List.drop (Int.toNat (IntKind.wrap .i64 ((8 : Int) - n51))) ((IntKind.wrap .u8 (Int.fdiv n50 (72057594037927936 : Int))) :: ((IntKind.wrap .u8 (Int.fdiv n50 (281474976710656 : Int))) :: ((IntKind.wrap .u8 (Int.fdiv n50 (1099511627776 : Int))) :: ((IntKind.wrap .u8 (Int.fdiv n50 (4294967296 : Int))) :: ((IntKind.wrap .u8 (Int.fdiv n50 (16777216 : Int))) :: ((IntKind.wrap .u8 (Int.fdiv n50 (65536 : Int))) :: ((IntKind.wrap .u8 (Int.fdiv n50 (256 : Int))) :: ((IntKind.wrap .u8 (Int.fdiv n50 (1 : Int))) :: [])))))))))))) none) none)) (k1 ([] ++ ns49))) none)
noncomputable def octet_Putv2 (ns49 : List Int) (n50 : Int) (n51 : Int) (k1 : (List Int) → Option Bool) : Option Bool := octet_Putv2.body ns49 n50 n51 k1
noncomputable def octet_Putv2.get (F : (List Int) → Int → Int → ((List Int) → Option Bool) → Option Bool) (e : Option Bool) (g : FuncId) (a : List AV) (h : Heap) (k : KR) : Option Bool := match g, a, h with
  | 8, [(.bv 1 5 (.int .u8) ns49), (.d ⟨(.int .i64), n50⟩), (.d ⟨(.int .i64), n51⟩)], [] => F ns49 n50 n51 (fun y0 => k (.ref [1, 0]) [([1, 0], ⟨5, 1, (.data (.int .u8) y0)⟩)])
  | _, _, _ => e
noncomputable def octet_Putv2.calls : RecF := fun g a h k => none
noncomputable def octet_Putv2.loops : LoopF := fun b => match Nat.beq b 0 with | true => none | false => none
set_option maxRecDepth 100000 in
theorem octet_Putv2.eq (ns49 : List Int) (n50 : Int) (n51 : Int) (k : KR) : execL Try.prog ht 8 (callfOf (octet_Putv2.calls)) (octet_Putv2.loops) 0 (codeOf Try.f8) ⟨[(.bv 1 5 (.int .u8) ns49), (.d ⟨(.int .i64), n50⟩), (.d ⟨(.int .i64), n51⟩)] ++ List.replicate (Try.f8.ntmps - ([(.bv 1 5 (.int .u8) ns49), (.d ⟨(.int .i64), n50⟩), (.d ⟨(.int .i64), n51⟩)] : List AV).length) .undef, [], 2⟩ (leave Try.prog Try.f8 k) = octet_Putv2.body ns49 n50 n51 (fun y0 => k (.ref [1, 0]) [([1, 0], ⟨5, 1, (.data (.int .u8) y0)⟩)]) := by kernel_rfl
theorem octet_Putv2.ok (d : Nat) (hd : 1 ≤ d) (ns49 : List Int) (n50 : Int) (n51 : Int) (k : KR) (hx : octet_Putv2 ns49 n50 n51 (fun y0 => k (.ref [1, 0]) [([1, 0], ⟨5, 1, (.data (.int .u8) y0)⟩)]) = some true) : callK Try.prog ht d 8 [(.bv 1 5 (.int .u8) ns49), (.d ⟨(.int .i64), n50⟩), (.d ⟨(.int .i64), n51⟩)] [] k = some true := by
  obtain ⟨d, rfl⟩ : ∃ e, d = e + 1 := ⟨d - 1, by omega⟩
  exact fn_ok (c := codeOf Try.f8) Try.func8 (by kernel_rfl) (rec := octet_Putv2.calls) (fun g a h k hx => by
    cases hx) (loopf := octet_Putv2.loops) (by
    have e : loopsOf (octet_Putv2.loops) 0 (codeOf Try.f8) = [] := by kernel_rfl
    rw [e]
    intro p hp
    cases hp) ((octet_Putv2.eq ns49 n50 n51 k).trans hx)
theorem octet_Putv2.look (d : Nat) (hd : 1 ≤ d) {e : Option Bool} {g : FuncId} {a : List AV} {h : Heap} {k : KR} (hx : octet_Putv2.get octet_Putv2 e g a h k = some true) : e = some true ∨ callK Try.prog ht d g a h k = some true := by
  unfold octet_Putv2.get at hx
  split at hx
  · exact .inr (octet_Putv2.ok d hd _ _ _ _ hx)
  · exact .inl hx
/-- function 9: sheerleg/octet.Text -/
noncomputable def octet_Textv1.body (octet_Putv2 : (List Int) → Int → Int → ((List Int) → Option Bool) → Option Bool) (ns47 : List Int) (s48 : ByteArray) (k1 : (List Int) → Option Bool) : Option Bool :=
  (octet_Putv2 ns47 (if ((255 : Int) < (((ByteArray.size s48) : Nat) : Int)) then (255 : Int) else (((ByteArray.size s48) : Nat) : Int)) (1 : Int)
  (fun ns52 => (cond_ ((true && (decide ((0 : Int) ≤ (if ((255 : Int) < (((ByteArray.size s48) : Nat) : Int)) then (255 : Int) else (((ByteArray.size s48) : Nat) : Int))))) && (decide ((if ((255 : Int) < (((ByteArray.size s48) : Nat) : Int)) then (255 : Int) else (((ByteArray.size s48) : Nat) : Int)) ≤ (((ByteArray.size s48) : Nat) : Int)))) (cond_ (Nat.ble (((List.length ns52) + (List.length (bytesI (ByteArray.extract s48 (0 : Nat) (Int.toNat (if ((255 : Int) < (((ByteArray.size s48) : Nat) : Int)) then (255 : Int) else (((ByteArray.size s48) : Nat) : Int))))))) * (1 : Nat)) (140737488355328 : Nat)) (k1 (ns52 ++ (bytesI (ByteArray.extract s48 (0 : Nat) (Int.toNat (if ((255 : Int) < (((ByteArray.size s48) : Nat) : Int)) then (255 : Int) else (((ByteArray.size s48) : Nat) : Int))))))) none) none)))
noncomputable def octet_Textv1 (ns47 : List Int) (s48 : ByteArray) (k1 : (List Int) → Option Bool) : Option Bool := octet_Textv1.body octet_Putv2 ns47 s48 k1
noncomputable def octet_Textv1.get (F : (List Int) → ByteArray → ((List Int) → Option Bool) → Option Bool) (e : Option Bool) (g : FuncId) (a : List AV) (h : Heap) (k : KR) : Option Bool := match g, a, h with
  | 9, [(.bv 1 5 (.int .u8) ns47), (.d ⟨.str, s48⟩)], [] => F ns47 s48 (fun y0 => k (.ref [1, 0]) [([1, 0], ⟨5, 1, (.data (.int .u8) y0)⟩)])
  | _, _, _ => e
noncomputable def octet_Textv1.calls (F0 : (List Int) → Int → Int → ((List Int) → Option Bool) → Option Bool) : RecF := fun g a h k => (octet_Putv2.get F0 none g a h k)
noncomputable def octet_Textv1.loops : LoopF := fun b => none
set_option maxRecDepth 100000 in
theorem octet_Textv1.eq (F0 : (List Int) → Int → Int → ((List Int) → Option Bool) → Option Bool) (ns47 : List Int) (s48 : ByteArray) (k : KR) : execL Try.prog ht 9 (callfOf (octet_Textv1.calls F0)) (octet_Textv1.loops) 0 (codeOf Try.f9) ⟨[(.bv 1 5 (.int .u8) ns47), (.d ⟨.str, s48⟩)] ++ List.replicate (Try.f9.ntmps - ([(.bv 1 5 (.int .u8) ns47), (.d ⟨.str, s48⟩)] : List AV).length) .undef, [], 2⟩ (leave Try.prog Try.f9 k) = octet_Textv1.body F0 ns47 s48 (fun y0 => k (.ref [1, 0]) [([1, 0], ⟨5, 1, (.data (.int .u8) y0)⟩)]) := by kernel_rfl
theorem octet_Textv1.ok (d : Nat) (hd : 2 ≤ d) (ns47 : List Int) (s48 : ByteArray) (k : KR) (hx : octet_Textv1 ns47 s48 (fun y0 => k (.ref [1, 0]) [([1, 0], ⟨5, 1, (.data (.int .u8) y0)⟩)]) = some true) : callK Try.prog ht d 9 [(.bv 1 5 (.int .u8) ns47), (.d ⟨.str, s48⟩)] [] k = some true := by
  obtain ⟨d, rfl⟩ : ∃ e, d = e + 1 := ⟨d - 1, by omega⟩
  exact fn_ok (c := codeOf Try.f9) Try.func9 (by kernel_rfl) (rec := octet_Textv1.calls octet_Putv2) (fun g a h k hx => by
    rcases octet_Putv2.look d (by omega) hx with hx | hx
    rotate_left
    · exact hx
    cases hx) (loopf := octet_Textv1.loops) (by
    have e : loopsOf (octet_Textv1.loops) 0 (codeOf Try.f9) = [] := by kernel_rfl
    rw [e]
    intro p hp
    cases hp) ((octet_Textv1.eq octet_Putv2 ns47 s48 k).trans hx)
theorem octet_Textv1.look (d : Nat) (hd : 2 ≤ d) {e : Option Bool} {g : FuncId} {a : List AV} {h : Heap} {k : KR} (hx : octet_Textv1.get octet_Textv1 e g a h k = some true) : e = some true ∨ callK Try.prog ht d g a h k = some true := by
  unfold octet_Textv1.get at hx
  split at hx
  · exact .inr (octet_Textv1.ok d hd _ _ _ hx)
  · exact .inl hx
/-- function 12: sheerleg/octet.New -/
noncomputable def octet_New.body (ns54 : List Int) (k1 : Int → Bool → Bool → (List Int) → Option Bool) : Option Bool :=
  (cond_ (Nat.ble (((0 : Nat) + (List.length ns54)) * (1 : Nat)) (140737488355328 : Nat)) (k1 (0 : Int) true false ([] ++ ns54)) none)
noncomputable def octet_New (ns54 : List Int) (k1 : Int → Bool → Bool → (List Int) → Option Bool) : Option Bool := octet_New.body ns54 k1
noncomputable def octet_New.get (F : (List Int) → (Int → Bool → Bool → (List Int) → Option Bool) → Option Bool) (e : Option Bool) (g : FuncId) (a : List AV) (h : Heap) (k : KR) : Option Bool := match g, a, h with
  | 12, [(.bv 1 5 (.int .u8) ns54)], [] => F ns54 (fun y0 y1 y2 y3 => k (.ptr [1, 0] 0 0) [([1, 0], ⟨44, 4, (.mix [(.agg [(.ref [1, 1]), (.d ⟨(.int .i64), y0⟩), (.d ⟨.bool, y1⟩), (.d ⟨.bool, y2⟩)])])⟩), ([1, 1], ⟨5, 1, (.data (.int .u8) y3)⟩)])
  | _, _, _ => e
noncomputable def octet_New.calls : RecF := fun g a h k => none
noncomputable def octet_New.loops : LoopF := fun b => none
set_option maxRecDepth 100000 in
theorem octet_New.eq (ns54 : List Int) (k : KR) : execL Try.prog ht 12 (callfOf (octet_New.calls)) (octet_New.loops) 0 (codeOf Try.f12) ⟨[(.bv 1 5 (.int .u8) ns54)] ++ List.replicate (Try.f12.ntmps - ([(.bv 1 5 (.int .u8) ns54)] : List AV).length) .undef, [], 2⟩ (leave Try.prog Try.f12 k) = octet_New.body ns54 (fun y0 y1 y2 y3 => k (.ptr [1, 0] 0 0) [([1, 0], ⟨44, 4, (.mix [(.agg [(.ref [1, 1]), (.d ⟨(.int .i64), y0⟩), (.d ⟨.bool, y1⟩), (.d ⟨.bool, y2⟩)])])⟩), ([1, 1], ⟨5, 1, (.data (.int .u8) y3)⟩)]) := by kernel_rfl
theorem octet_New.ok (d : Nat) (hd : 1 ≤ d) (ns54 : List Int) (k : KR) (hx : octet_New ns54 (fun y0 y1 y2 y3 => k (.ptr [1, 0] 0 0) [([1, 0], ⟨44, 4, (.mix [(.agg [(.ref [1, 1]), (.d ⟨(.int .i64), y0⟩), (.d ⟨.bool, y1⟩), (.d ⟨.bool, y2⟩)])])⟩), ([1, 1], ⟨5, 1, (.data (.int .u8) y3)⟩)]) = some true) : callK Try.prog ht d 12 [(.bv 1 5 (.int .u8) ns54)] [] k = some true := by
  obtain ⟨d, rfl⟩ : ∃ e, d = e + 1 := ⟨d - 1, by omega⟩
  exact fn_ok (c := codeOf Try.f12) Try.func12 (by kernel_rfl) (rec := octet_New.calls) (fun g a h k hx => by
    cases hx) (loopf := octet_New.loops) (by
    have e : loopsOf (octet_New.loops) 0 (codeOf Try.f12) = [] := by kernel_rfl
    rw [e]
    intro p hp
    cases hp) ((octet_New.eq ns54 k).trans hx)
theorem octet_New.look (d : Nat) (hd : 1 ≤ d) {e : Option Bool} {g : FuncId} {a : List AV} {h : Heap} {k : KR} (hx : octet_New.get octet_New e g a h k = some true) : e = some true ∨ callK Try.prog ht d g a h k = some true := by
  unfold octet_New.get at hx
  split at hx
  · exact .inr (octet_New.ok d hd _ _ hx)
  · exact .inl hx
/-- function 16: (*sheerleg/octet.Reader).Bad -/
noncomputable def octet_Reader_Bad.body (n74 : Int) (b75 : Bool) (b76 : Bool) (ns77 : List Int) (k1 : Bool → Int → Bool → Bool → (List Int) → Option Bool) : Option Bool :=
  (cond_ (! (! b75)) (k1 b76 n74 b75 b76 ns77) (k1 true n74 b75 b76 ns77))
noncomputable def octet_Reader_Bad (n74 : Int) (b75 : Bool) (b76 : Bool) (ns77 : List Int) (k1 : Bool → Int → Bool → Bool → (List Int) → Option Bool) : Option Bool := octet_Reader_Bad.body n74 b75 b76 ns77 k1
noncomputable def octet_Reader_Bad.get (F : Int → Bool → Bool → (List Int) → (Bool → Int → Bool → Bool → (List Int) → Option Bool) → Option Bool) (e : Option Bool) (g : FuncId) (a : List AV) (h : Heap) (k : KR) : Option Bool := match g, a, h with
  | 16, [(.ptr [0, 0] 0 0)], [([0, 0], ⟨44, 4, (.mix [(.agg [(.ref [0, 1]), (.d ⟨(.int .i64), n74⟩), (.d ⟨.bool, b75⟩), (.d ⟨.bool, b76⟩)])])⟩), ([0, 1], ⟨5, 1, (.data (.int .u8) ns77)⟩)] => F n74 b75 b76 ns77 (fun y0 y1 y2 y3 y4 => k (.d ⟨.bool, y0⟩) [([0, 0], ⟨44, 4, (.mix [(.agg [(.ref [0, 1]), (.d ⟨(.int .i64), y1⟩), (.d ⟨.bool, y2⟩), (.d ⟨.bool, y3⟩)])])⟩), ([0, 1], ⟨5, 1, (.data (.int .u8) y4)⟩)])
  | _, _, _ => e
noncomputable def octet_Reader_Bad.calls : RecF := fun g a h k => none
noncomputable def octet_Reader_Bad.loops : LoopF := fun b => none
set_option maxRecDepth 100000 in
theorem octet_Reader_Bad.eq (n74 : Int) (b75 : Bool) (b76 : Bool) (ns77 : List Int) (k : KR) : execL Try.prog ht 16 (callfOf (octet_Reader_Bad.calls)) (octet_Reader_Bad.loops) 0 (codeOf Try.f16) ⟨[(.ptr [0, 0] 0 0)] ++ List.replicate (Try.f16.ntmps - ([(.ptr [0, 0] 0 0)] : List AV).length) .undef, [([0, 0], ⟨44, 4, (.mix [(.agg [(.ref [0, 1]), (.d ⟨(.int .i64), n74⟩), (.d ⟨.bool, b75⟩), (.d ⟨.bool, b76⟩)])])⟩), ([0, 1], ⟨5, 1, (.data (.int .u8) ns77)⟩)], 2⟩ (leave Try.prog Try.f16 k) = octet_Reader_Bad.body n74 b75 b76 ns77 (fun y0 y1 y2 y3 y4 => k (.d ⟨.bool, y0⟩) [([0, 0], ⟨44, 4, (.mix [(.agg [(.ref [0, 1]), (.d ⟨(.int .i64), y1⟩), (.d ⟨.bool, y2⟩), (.d ⟨.bool, y3⟩)])])⟩), ([0, 1], ⟨5, 1, (.data (.int .u8) y4)⟩)]) := by kernel_rfl
theorem octet_Reader_Bad.ok (d : Nat) (hd : 1 ≤ d) (n74 : Int) (b75 : Bool) (b76 : Bool) (ns77 : List Int) (k : KR) (hx : octet_Reader_Bad n74 b75 b76 ns77 (fun y0 y1 y2 y3 y4 => k (.d ⟨.bool, y0⟩) [([0, 0], ⟨44, 4, (.mix [(.agg [(.ref [0, 1]), (.d ⟨(.int .i64), y1⟩), (.d ⟨.bool, y2⟩), (.d ⟨.bool, y3⟩)])])⟩), ([0, 1], ⟨5, 1, (.data (.int .u8) y4)⟩)]) = some true) : callK Try.prog ht d 16 [(.ptr [0, 0] 0 0)] [([0, 0], ⟨44, 4, (.mix [(.agg [(.ref [0, 1]), (.d ⟨(.int .i64), n74⟩), (.d ⟨.bool, b75⟩), (.d ⟨.bool, b76⟩)])])⟩), ([0, 1], ⟨5, 1, (.data (.int .u8) ns77)⟩)] k = some true := by
  obtain ⟨d, rfl⟩ : ∃ e, d = e + 1 := ⟨d - 1, by omega⟩
  exact fn_ok (c := codeOf Try.f16) Try.func16 (by kernel_rfl) (rec := octet_Reader_Bad.calls) (fun g a h k hx => by
    cases hx) (loopf := octet_Reader_Bad.loops) (by
    have e : loopsOf (octet_Reader_Bad.loops) 0 (codeOf Try.f16) = [] := by kernel_rfl
    rw [e]
    intro p hp
    cases hp) ((octet_Reader_Bad.eq n74 b75 b76 ns77 k).trans hx)
theorem octet_Reader_Bad.look (d : Nat) (hd : 1 ≤ d) {e : Option Bool} {g : FuncId} {a : List AV} {h : Heap} {k : KR} (hx : octet_Reader_Bad.get octet_Reader_Bad e g a h k = some true) : e = some true ∨ callK Try.prog ht d g a h k = some true := by
  unfold octet_Reader_Bad.get at hx
  split at hx
  · exact .inr (octet_Reader_Bad.ok d hd _ _ _ _ _ hx)
  · exact .inl hx
/-- function 15: (*sheerleg/octet.Reader).Left -/
noncomputable def octet_Reader_Left.body (n83 : Int) (b84 : Bool) (b85 : Bool) (ns86 : List Int) (k1 : Int → Int → Bool → Bool → (List Int) → Option Bool) : Option Bool :=
  (k1 (IntKind.wrap .i64 ((((List.length ns86) : Nat) : Int) - n83)) n83 b84 b85 ns86)
noncomputable def octet_Reader_Left (n83 : Int) (b84 : Bool) (b85 : Bool) (ns86 : List Int) (k1 : Int → Int → Bool → Bool → (List Int) → Option Bool) : Option Bool := octet_Reader_Left.body n83 b84 b85 ns86 k1
noncomputable def octet_Reader_Left.get (F : Int → Bool → Bool → (List Int) → (Int → Int → Bool → Bool → (List Int) → Option Bool) → Option Bool) (e : Option Bool) (g : FuncId) (a : List AV) (h : Heap) (k : KR) : Option Bool := match g, a, h with
  | 15, [(.ptr [0, 0] 0 0)], [([0, 0], ⟨44, 4, (.mix [(.agg [(.ref [0, 1]), (.d ⟨(.int .i64), n83⟩), (.d ⟨.bool, b84⟩), (.d ⟨.bool, b85⟩)])])⟩), ([0, 1], ⟨5, 1, (.data (.int .u8) ns86)⟩)] => F n83 b84 b85 ns86 (fun y0 y1 y2 y3 y4 => k (.d ⟨(.int .i64), y0⟩) [([0, 0], ⟨44, 4, (.mix [(.agg [(.ref [0, 1]), (.d ⟨(.int .i64), y1⟩), (.d ⟨.bool, y2⟩), (.d ⟨.bool, y3⟩)])])⟩), ([0, 1], ⟨5, 1, (.data (.int .u8) y4)⟩)])
  | _, _, _ => e
noncomputable def octet_Reader_Left.calls : RecF := fun g a h k => none
noncomputable def octet_Reader_Left.loops : LoopF := fun b => none
set_option maxRecDepth 100000 in
theorem octet_Reader_Left.eq (n83 : Int) (b84 : Bool) (b85 : Bool) (ns86 : List Int) (k : KR) : execL Try.prog ht 15 (callfOf (octet_Reader_Left.calls)) (octet_Reader_Left.loops) 0 (codeOf Try.f15) ⟨[(.ptr [0, 0] 0 0)] ++ List.replicate (Try.f15.ntmps - ([(.ptr [0, 0] 0 0)] : List AV).length) .undef, [([0, 0], ⟨44, 4, (.mix [(.agg [(.ref [0, 1]), (.d ⟨(.int .i64), n83⟩), (.d ⟨.bool, b84⟩), (.d ⟨.bool, b85⟩)])])⟩), ([0, 1], ⟨5, 1, (.data (.int .u8) ns86)⟩)], 2⟩ (leave Try.prog Try.f15 k) = octet_Reader_Left.body n83 b84 b85 ns86 (fun y0 y1 y2 y3 y4 => k (.d ⟨(.int .i64), y0⟩) [([0, 0], ⟨44, 4, (.mix [(.agg [(.ref [0, 1]), (.d ⟨(.int .i64), y1⟩), (.d ⟨.bool, y2⟩), (.d ⟨.bool, y3⟩)])])⟩), ([0, 1], ⟨5, 1, (.data (.int .u8) y4)⟩)]) := by kernel_rfl
theorem octet_Reader_Left.ok (d : Nat) (hd : 1 ≤ d) (n83 : Int) (b84 : Bool) (b85 : Bool) (ns86 : List Int) (k : KR) (hx : octet_Reader_Left n83 b84 b85 ns86 (fun y0 y1 y2 y3 y4 => k (.d ⟨(.int .i64), y0⟩) [([0, 0], ⟨44, 4, (.mix [(.agg [(.ref [0, 1]), (.d ⟨(.int .i64), y1⟩), (.d ⟨.bool, y2⟩), (.d ⟨.bool, y3⟩)])])⟩), ([0, 1], ⟨5, 1, (.data (.int .u8) y4)⟩)]) = some true) : callK Try.prog ht d 15 [(.ptr [0, 0] 0 0)] [([0, 0], ⟨44, 4, (.mix [(.agg [(.ref [0, 1]), (.d ⟨(.int .i64), n83⟩), (.d ⟨.bool, b84⟩), (.d ⟨.bool, b85⟩)])])⟩), ([0, 1], ⟨5, 1, (.data (.int .u8) ns86)⟩)] k = some true := by
  obtain ⟨d, rfl⟩ : ∃ e, d = e + 1 := ⟨d - 1, by omega⟩
  exact fn_ok (c := codeOf Try.f15) Try.func15 (by kernel_rfl) (rec := octet_Reader_Left.calls) (fun g a h k hx => by
    cases hx) (loopf := octet_Reader_Left.loops) (by
    have e : loopsOf (octet_Reader_Left.loops) 0 (codeOf Try.f15) = [] := by kernel_rfl
    rw [e]
    intro p hp
    cases hp) ((octet_Reader_Left.eq n83 b84 b85 ns86 k).trans hx)
theorem octet_Reader_Left.look (d : Nat) (hd : 1 ≤ d) {e : Option Bool} {g : FuncId} {a : List AV} {h : Heap} {k : KR} (hx : octet_Reader_Left.get octet_Reader_Left e g a h k = some true) : e = some true ∨ callK Try.prog ht d g a h k = some true := by
  unfold octet_Reader_Left.get at hx
  split at hx
  · exact .inr (octet_Reader_Left.ok d hd _ _ _ _ _ hx)
  · exact .inl hx
/-- function 23: (*sheerleg/octet.Reader).spoil -/
noncomputable def octet_Reader_spoil.body (n92 : Int) (b93 : Bool) (b94 : Bool) (ns95 : List Int) (k1 : Int → Bool → Bool → (List Int) → Option Bool) : Option Bool :=
  (k1 n92 b93 true ns95)
noncomputable def octet_Reader_spoil (n92 : Int) (b93 : Bool) (b94 : Bool) (ns95 : List Int) (k1 : Int → Bool → Bool → (List Int) → Option Bool) : Option Bool := octet_Reader_spoil.body n92 b93 b94 ns95 k1
noncomputable def octet_Reader_spoil.get (F : Int → Bool → Bool → (List Int) → (Int → Bool → Bool → (List Int) → Option Bool) → Option Bool) (e : Option Bool) (g : FuncId) (a : List AV) (h : Heap) (k : KR) : Option Bool := match g, a, h with
  | 23, [(.ptr [0, 0] 0 0)], [([0, 0], ⟨44, 4, (.mix [(.agg [(.ref [0, 1]), (.d ⟨(.int .i64), n92⟩), (.d ⟨.bool, b93⟩), (.d ⟨.bool, b94⟩)])])⟩), ([0, 1], ⟨5, 1, (.data (.int .u8) ns95)⟩)] => F n92 b93 b94 ns95 (fun y0 y1 y2 y3 => k (.tup []) [([0, 0], ⟨44, 4, (.mix [(.agg [(.ref [0, 1]), (.d ⟨(.int .i64), y0⟩), (.d ⟨.bool, y1⟩), (.d ⟨.bool, y2⟩)])])⟩), ([0, 1], ⟨5, 1, (.data (.int .u8) y3)⟩)])
  | _, _, _ => e
noncomputable def octet_Reader_spoil.calls : RecF := fun g a h k => none
noncomputable def octet_Reader_spoil.loops : LoopF := fun b => none
set_option maxRecDepth 100000 in
theorem octet_Reader_spoil.eq (n92 : Int) (b93 : Bool) (b94 : Bool) (ns95 : List Int) (k : KR) : execL Try.prog ht 23 (callfOf (octet_Reader_spoil.calls)) (octet_Reader_spoil.loops) 0 (codeOf Try.f23) ⟨[(.ptr [0, 0] 0 0)] ++ List.replicate (Try.f23.ntmps - ([(.ptr [0, 0] 0 0)] : List AV).length) .undef, [([0, 0], ⟨44, 4, (.mix [(.agg [(.ref [0, 1]), (.d ⟨(.int .i64), n92⟩), (.d ⟨.bool, b93⟩), (.d ⟨.bool, b94⟩)])])⟩), ([0, 1], ⟨5, 1, (.data (.int .u8) ns95)⟩)], 2⟩ (leave Try.prog Try.f23 k) = octet_Reader_spoil.body n92 b93 b94 ns95 (fun y0 y1 y2 y3 => k (.tup []) [([0, 0], ⟨44, 4, (.mix [(.agg [(.ref [0, 1]), (.d ⟨(.int .i64), y0⟩), (.d ⟨.bool, y1⟩), (.d ⟨.bool, y2⟩)])])⟩), ([0, 1], ⟨5, 1, (.data (.int .u8) y3)⟩)]) := by kernel_rfl
theorem octet_Reader_spoil.ok (d : Nat) (hd : 1 ≤ d) (n92 : Int) (b93 : Bool) (b94 : Bool) (ns95 : List Int) (k : KR) (hx : octet_Reader_spoil n92 b93 b94 ns95 (fun y0 y1 y2 y3 => k (.tup []) [([0, 0], ⟨44, 4, (.mix [(.agg [(.ref [0, 1]), (.d ⟨(.int .i64), y0⟩), (.d ⟨.bool, y1⟩), (.d ⟨.bool, y2⟩)])])⟩), ([0, 1], ⟨5, 1, (.data (.int .u8) y3)⟩)]) = some true) : callK Try.prog ht d 23 [(.ptr [0, 0] 0 0)] [([0, 0], ⟨44, 4, (.mix [(.agg [(.ref [0, 1]), (.d ⟨(.int .i64), n92⟩), (.d ⟨.bool, b93⟩), (.d ⟨.bool, b94⟩)])])⟩), ([0, 1], ⟨5, 1, (.data (.int .u8) ns95)⟩)] k = some true := by
  obtain ⟨d, rfl⟩ : ∃ e, d = e + 1 := ⟨d - 1, by omega⟩
  exact fn_ok (c := codeOf Try.f23) Try.func23 (by kernel_rfl) (rec := octet_Reader_spoil.calls) (fun g a h k hx => by
    cases hx) (loopf := octet_Reader_spoil.loops) (by
    have e : loopsOf (octet_Reader_spoil.loops) 0 (codeOf Try.f23) = [] := by kernel_rfl
    rw [e]
    intro p hp
    cases hp) ((octet_Reader_spoil.eq n92 b93 b94 ns95 k).trans hx)
theorem octet_Reader_spoil.look (d : Nat) (hd : 1 ≤ d) {e : Option Bool} {g : FuncId} {a : List AV} {h : Heap} {k : KR} (hx : octet_Reader_spoil.get octet_Reader_spoil e g a h k = some true) : e = some true ∨ callK Try.prog ht d g a h k = some true := by
  unfold octet_Reader_spoil.get at hx
  split at hx
  · exact .inr (octet_Reader_spoil.ok d hd _ _ _ _ _ hx)
  · exact .inl hx
/-- function 22: (*sheerleg/octet.Reader).take -/
noncomputable def octet_Reader_take.body (octet_Reader_Bad : Int → Bool → Bool → (List Int) → (Bool → Int → Bool → Bool → (List Int) → Option Bool) → Option Bool) (octet_Reader_Left : Int → Bool → Bool → (List Int) → (Int → Int → Bool → Bool → (List Int) → Option Bool) → Option Bool) (octet_Reader_spoil : Int → Bool → Bool → (List Int) → (Int → Bool → Bool → (List Int) → Option Bool) → Option Bool) (n69 : Int) (n70 : Int) (b71 : Bool) (b72 : Bool) (ns73 : List Int) (k1 : Int → Bool → Bool → (List Int) → (List Int) → Option Bool) (k2 : Nat → Nat → Int → Bool → Bool → (List Int) → Option Bool) : Option Bool :=
  (octet_Reader_Bad n70 b71 b72 ns73
  (fun b78 n79 b80 b81 ns82 => (cond_ (! b78) (cond_ (! (decide (n69 < (0 : Int)))) (octet_Reader_Left n79 b80 b81 ns82
  (fun n87 n88 b89 b90 ns91 => (cond_ (decide (n69 > n87)) (octet_Reader_spoil n88 b89 b90 ns91
  (fun n96 b97 b98 ns99 => (k1 n96 b97 b98 ns99 []))) (cond_ (((decide ((0 : Int) ≤ (IntKind.wrap .i64 ((IntKind.wrap .i64 (n88 + n69)) - n69)))) && (decide ((IntKind.wrap .i64 ((IntKind.wrap .i64 (n88 + n69)) - n69)) ≤ (IntKind.wrap .i64 (n88 + n69))))) && (decide ((IntKind.wrap .i64 (n88 + n69)) ≤ (((List.length ns91) : Nat) : Int)))) (k2 (Int.toNat (IntKind.wrap .i64 ((IntKind.wrap .i64 (n88 + n69)) - n69))) (Int.toNat ((IntKind.wrap .i64 (n88 + n69)) - (IntKind.wrap .i64 ((IntKind.wrap .i64 (n88 + n69)) - n69)))) (IntKind.wrap .i64 (n88 + n69)) b89 b90 ns91) none)))) (octet_Reader_spoil n79 b80 b81 ns82
  (fun n100 b101 b102 ns103 => (k1 n100 b101 b102 ns103 [])))) (octet_Reader_spoil n79 b80 b81 ns82
  (fun n104 b105 b106 ns107 => (k1 n104 b105 b106 ns107 []))))))
noncomputable def octet_Reader_take (n69 : Int) (n70 : Int) (b71 : Bool) (b72 : Bool) (ns73 : List Int) (k1 : Int → Bool → Bool → (List Int) → (List Int) → Option Bool) (k2 : Nat → Nat → Int → Bool → Bool → (List Int) → Option Bool) : Option Bool := octet_Reader_take.body octet_Reader_Bad octet_Reader_Left octet_Reader_spoil n69 n70 b71 b72 ns73 k1 k2
noncomputable def octet_Reader_take.get (F : Int → Int → Bool → Bool → (List Int) → (Int → Bool → Bool → (List Int) → (List Int) → Option Bool) → (Nat → Nat → Int → Bool → Bool → (List Int) → Option Bool) → Option Bool) (e : Option Bool) (g : FuncId) (a : List AV) (h : Heap) (k : KR) : Option Bool := match g, a, h with
  | 22, [(.ptr [0, 0] 0 0), (.d ⟨(.int .i64), n69⟩)], [([0, 0], ⟨44, 4, (.mix [(.agg [(.ref [0, 1]), (.d ⟨(.int .i64), n70⟩), (.d ⟨.bool, b71⟩), (.d ⟨.bool, b72⟩)])])⟩), ([0, 1], ⟨5, 1, (.data (.int .u8) ns73)⟩)] => F n69 n70 b71 b72 ns73 (fun y0 y1 y2 y3 y4 => k (.ref [1, 0]) [([0, 0], ⟨44, 4, (.mix [(.agg [(.ref [0, 1]), (.d ⟨(.int .i64), y0⟩), (.d ⟨.bool, y1⟩), (.d ⟨.bool, y2⟩)])])⟩), ([0, 1], ⟨5, 1, (.data (.int .u8) y3)⟩), ([1, 0], ⟨5, 1, (.data (.int .u8) y4)⟩)]) (fun y0 y1 y2 y3 y4 y5 => k (.cut [0, 1] y0 y1) [([0, 0], ⟨44, 4, (.mix [(.agg [(.ref [0, 1]), (.d ⟨(.int .i64), y2⟩), (.d ⟨.bool, y3⟩), (.d ⟨.bool, y4⟩)])])⟩), ([0, 1], ⟨5, 1, (.data (.int .u8) y5)⟩)])
  | _, _, _ => e
noncomputable def octet_Reader_take.calls (F0 : Int → Bool → Bool → (List Int) → (Bool → Int → Bool → Bool → (List Int) → Option Bool) → Option Bool) (F1 : Int → Bool → Bool → (List Int) → (Int → Int → Bool → Bool → (List Int) → Option Bool) → Option Bool) (F2 : Int → Bool → Bool → (List Int) → (Int → Bool → Bool → (List Int) → Option Bool) → Option Bool) : RecF := fun g a h k => (octet_Reader_Bad.get F0 (octet_Reader_Left.get F1 (octet_Reader_spoil.get F2 none g a h k) g a h k) g a h k)
noncomputable def octet_Reader_take.loops : LoopF := fun b => none
set_option maxRecDepth 100000 in
theorem octet_Reader_take.eq (F0 : Int → Bool → Bool → (List Int) → (Bool → Int → Bool → Bool → (List Int) → Option Bool) → Option Bool) (F1 : Int → Bool → Bool → (List Int) → (Int → Int → Bool → Bool → (List Int) → Option Bool) → Option Bool) (F2 : Int → Bool → Bool → (List Int) → (Int → Bool → Bool → (List Int) → Option Bool) → Option Bool) (n69 : Int) (n70 : Int) (b71 : Bool) (b72 : Bool) (ns73 : List Int) (k : KR) : execL Try.prog ht 22 (callfOf (octet_Reader_take.calls F0 F1 F2)) (octet_Reader_take.loops) 0 (codeOf Try.f22) ⟨[(.ptr [0, 0] 0 0), (.d ⟨(.int .i64), n69⟩)] ++ List.replicate (Try.f22.ntmps - ([(.ptr [0, 0] 0 0), (.d ⟨(.int .i64), n69⟩)] : List AV).length) .undef, [([0, 0], ⟨44, 4, (.mix [(.agg [(.ref [0, 1]), (.d ⟨(.int .i64), n70⟩), (.d ⟨.bool, b71⟩), (.d ⟨.bool, b72⟩)])])⟩), ([0, 1], ⟨5, 1, (.data (.int .u8) ns73)⟩)], 2⟩ (leave Try.prog Try.f22 k) = octet_Reader_take.body F0 F1 F2 n69 n70 b71 b72 ns73 (fun y0 y1 y2 y3 y4 => k (.ref [1, 0]) [([0, 0], ⟨44, 4, (.mix [(.agg [(.ref [0, 1]), (.d ⟨(.int .i64), y0⟩), (.d ⟨.bool, y1⟩), (.d ⟨.bool, y2⟩)])])⟩), ([0, 1], ⟨5, 1, (.data (.int .u8) y3)⟩), ([1, 0], ⟨5, 1, (.data (.int .u8) y4)⟩)]) (fun y0 y1 y2 y3 y4 y5 => k (.cut [0, 1] y0 y1) [([0, 0], ⟨44, 4, (.mix [(.agg [(.ref [0, 1]), (.d ⟨(.int .i64), y2⟩), (.d ⟨.bool, y3⟩), (.d ⟨.bool, y4⟩)])])⟩), ([0, 1], ⟨5, 1, (.data (.int .u8) y5)⟩)]) := by kernel_rfl
theorem octet_Reader_take.ok (d : Nat) (hd : 2 ≤ d) (n69 : Int) (n70 : Int) (b71 : Bool) (b72 : Bool) (ns73 : List Int) (k : KR) (hx : octet_Reader_take n69 n70 b71 b72 ns73 (fun y0 y1 y2 y3 y4 => k (.ref [1, 0]) [([0, 0], ⟨44, 4, (.mix [(.agg [(.ref [0, 1]), (.d ⟨(.int .i64), y0⟩), (.d ⟨.bool, y1⟩), (.d ⟨.bool, y2⟩)])])⟩), ([0, 1], ⟨5, 1, (.data (.int .u8) y3)⟩), ([1, 0], ⟨5, 1, (.data (.int .u8) y4)⟩)]) (fun y0 y1 y2 y3 y4 y5 => k (.cut [0, 1] y0 y1) [([0, 0], ⟨44, 4, (.mix [(.agg [(.ref [0, 1]), (.d ⟨(.int .i64), y2⟩), (.d ⟨.bool, y3⟩), (.d ⟨.bool, y4⟩)])])⟩), ([0, 1], ⟨5, 1, (.data (.int .u8) y5)⟩)]) = some true) : callK Try.prog ht d 22 [(.ptr [0, 0] 0 0), (.d ⟨(.int .i64), n69⟩)] [([0, 0], ⟨44, 4, (.mix [(.agg [(.ref [0, 1]), (.d ⟨(.int .i64), n70⟩), (.d ⟨.bool, b71⟩), (.d ⟨.bool, b72⟩)])])⟩), ([0, 1], ⟨5, 1, (.data (.int .u8) ns73)⟩)] k = some true := by
  obtain ⟨d, rfl⟩ : ∃ e, d = e + 1 := ⟨d - 1, by omega⟩
  exact fn_ok (c := codeOf Try.f22) Try.func22 (by kernel_rfl) (rec := octet_Reader_take.calls octet_Reader_Bad octet_Reader_Left octet_Reader_spoil) (fun g a h k hx => by
    rcases octet_Reader_Bad.look d (by omega) hx with hx | hx
    rotate_left
    · exact hx
    rcases octet_Reader_Left.look d (by omega) hx with hx | hx
    rotate_left
    · exact hx
    rcases octet_Reader_spoil.look d (by omega) hx with hx | hx
    rotate_left
    · exact hx
    cases hx) (loopf := octet_Reader_take.loops) (by
    have e : loopsOf (octet_Reader_take.loops) 0 (codeOf Try.f22) = [] := by kernel_rfl
    rw [e]
    intro p hp
    cases hp) ((octet_Reader_take.eq octet_Reader_Bad octet_Reader_Left octet_Reader_spoil n69 n70 b71 b72 ns73 k).trans hx)
theorem octet_Reader_take.look (d : Nat) (hd : 2 ≤ d) {e : Option Bool} {g : FuncId} {a : List AV} {h : Heap} {k : KR} (hx : octet_Reader_take.get octet_Reader_take e g a h k = some true) : e = some true ∨ callK Try.prog ht d g a h k = some true := by
  unfold octet_Reader_take.get at hx
  split at hx
  · exact .inr (octet_Reader_take.ok d hd _ _ _ _ _ _ hx)
  · exact .inl hx
/-- function 21: the loop in block 0 -/
noncomputable def octet_number_L0.body (octet_number_L0 : Int → Int → Int → Int → Bool → Bool → (List Int) → (List Int) → (Int → Int → Bool → Bool → (List Int) → (List Int) → Option Bool) → Option Bool) (n113 : Int) (n114 : Int) (n115 : Int) (n116 : Int) (b117 : Bool) (b118 : Bool) (ns119 : List Int) (ns120 : List Int) (k1 : Int → Int → Bool → Bool → (List Int) → (List Int) → Option Bool) : Option Bool :=
  (cond_ (decide (n115 < n114)) (cond_ ((decide ((0 : Int) ≤ n115)) && (decide (n115 < (((List.length ns120) : Nat) : Int)))) (octet_number_L0 (IntKind.wrap .i64 (((@BitVec.toNat (64 : Nat) ((@BitVec.ofInt (64 : Nat) (IntKind.wrap .i64 (n113 * (256 : Int)))) ||| (@BitVec.ofInt (64 : Nat) (IntKind.wrap .i64 (List.getD ns120 (Int.toNat n115) (0 : Int)))))) : Nat) : Int)) n114 (IntKind.wrap .i64 (n115 + (1 : Int))) n116 b117 b118 ns119 ns120 k1) none) (k1 n113 n116 b117 b118 ns119 ns120))
noncomputable def octet_number_L0 : Nat → Int → Int → Int → Int → Bool → Bool → (List Int) → (List Int) → (Int → Int → Bool → Bool → (List Int) → (List Int) → Option Bool) → Option Bool
  | 0 => fun _ _ _ _ _ _ _ _ _ => none
  | n + 1 => octet_number_L0.body (octet_number_L0 n)
noncomputable def octet_number_L0.get (F : Int → Int → Int → Int → Bool → Bool → (List Int) → (List Int) → (Int → Int → Bool → Bool → (List Int) → (List Int) → Option Bool) → Option Bool) (e : Option Bool) (st : St) (k : KE) : Option Bool := match st with
  | ⟨sl, hp, m⟩ => match Nat.beq m 2, pickS 33 [6, 7, 19, 20, 21] sl, hp with
    | true, some [(.d ⟨(.int .i64), n113⟩), (.ref [1, 0]), (.ref [1, 0]), (.d ⟨(.int .i64), n114⟩), (.d ⟨(.int .i64), n115⟩)], [([0, 0], ⟨44, 4, (.mix [(.agg [(.ref [0, 1]), (.d ⟨(.int .i64), n116⟩), (.d ⟨.bool, b117⟩), (.d ⟨.bool, b118⟩)])])⟩), ([0, 1], ⟨5, 1, (.data (.int .u8) ns119)⟩), ([1, 0], ⟨5, 1, (.data (.int .u8) ns120)⟩)] => F n113 n114 n115 n116 b117 b118 ns119 ns120 (fun y0 y1 y2 y3 y4 y5 => k (.exit 0) ⟨fillS 33 [6, 7] [(.d ⟨(.int .i64), y0⟩), (.ref [1, 0])], [([0, 0], ⟨44, 4, (.mix [(.agg [(.ref [0, 1]), (.d ⟨(.int .i64), y1⟩), (.d ⟨.bool, y2⟩), (.d ⟨.bool, y3⟩)])])⟩), ([0, 1], ⟨5, 1, (.data (.int .u8) y4)⟩), ([1, 0], ⟨5, 1, (.data (.int .u8) y5)⟩)], 2⟩)
    | _, _, _ => e
noncomputable def octet_number_L0.calls : RecF := fun g a h k => none
noncomputable def octet_number_L0.loops : LoopF := fun b => none
set_option maxRecDepth 100000 in
theorem octet_number_L0.step (S : Int → Int → Int → Int → Bool → Bool → (List Int) → (List Int) → (Int → Int → Bool → Bool → (List Int) → (List Int) → Option Bool) → Option Bool) (n113 : Int) (n114 : Int) (n115 : Int) (n116 : Int) (b117 : Bool) (b118 : Bool) (ns119 : List Int) (ns120 : List Int) (k : KE) : execL Try.prog ht 21 (callfOf (octet_number_L0.calls)) (octet_number_L0.loops) 0 (loopAt 0 (codeOf Try.f21)) ⟨fillS 33 [6, 7, 19, 20, 21] [(.d ⟨(.int .i64), n113⟩), (.ref [1, 0]), (.ref [1, 0]), (.d ⟨(.int .i64), n114⟩), (.d ⟨(.int .i64), n115⟩)], [([0, 0], ⟨44, 4, (.mix [(.agg [(.ref [0, 1]), (.d ⟨(.int .i64), n116⟩), (.d ⟨.bool, b117⟩), (.d ⟨.bool, b118⟩)])])⟩), ([0, 1], ⟨5, 1, (.data (.int .u8) ns119)⟩), ([1, 0], ⟨5, 1, (.data (.int .u8) ns120)⟩)], 2⟩ (again (octet_number_L0.get S none) (plan Try.prog (ht 21 0)) k) = octet_number_L0.body S n113 n114 n115 n116 b117 b118 ns119 ns120 (fun y0 y1 y2 y3 y4 y5 => k (.exit 0) ⟨fillS 33 [6, 7] [(.d ⟨(.int .i64), y0⟩), (.ref [1, 0])], [([0, 0], ⟨44, 4, (.mix [(.agg [(.ref [0, 1]), (.d ⟨(.int .i64), y1⟩), (.d ⟨.bool, y2⟩), (.d ⟨.bool, y3⟩)])])⟩), ([0, 1], ⟨5, 1, (.data (.int .u8) y4)⟩), ([1, 0], ⟨5, 1, (.data (.int .u8) y5)⟩)], 2⟩) := by kernel_rfl
theorem octet_number_L0.ok (d : Nat) (hd : 0 ≤ d) : ∀ n st k, octet_number_L0.get (octet_number_L0 n) none st k = some true → iter n (plan Try.prog (ht 21 0)) (fun st k => execK Try.prog ht 21 (callfOf (callK Try.prog ht d)) 0 (loopAt 0 (codeOf Try.f21)) st k) st k = some true :=
  loop_ok (lfn := fun n st k => octet_number_L0.get (octet_number_L0 n) none st k) (rec := octet_number_L0.calls) (fun g a h k hx => by
    cases hx) (loopf := octet_number_L0.loops) (by
    have e : loopsOf (octet_number_L0.loops) 0 (loopAt 0 (codeOf Try.f21)) = [] := by kernel_rfl
    rw [e]
    intro p hp
    cases hp) (fun st k h => by
    obtain ⟨sl, hp, m⟩ := st
    unfold octet_number_L0.get at h
    dsimp only at h
    split at h
    · have h' : (none : Option Bool) = some true := h
      cases h'
    · cases h) (fun n st k h => by
    obtain ⟨sl, hp, m⟩ := st
    unfold octet_number_L0.get at h
    dsimp only at h
    split at h
    · rename_i h1 h2
      obtain rfl := pickS_ok h2
      obtain rfl := Nat.eq_of_beq_eq_true h1
      exact (octet_number_L0.step (octet_number_L0 n) _ _ _ _ _ _ _ _ k).trans h
    · cases h)
theorem octet_number_L0.look {F : Int → Int → Int → Int → Bool → Bool → (List Int) → (List Int) → (Int → Int → Bool → Bool → (List Int) → (List Int) → Option Bool) → Option Bool} {e : Option Bool} {st : St} {k : KE} (hx : octet_number_L0.get F e st k = some true) : e = some true ∨ octet_number_L0.get F none st k = some true := by
  obtain ⟨sl, hp, m⟩ := st
  unfold octet_number_L0.get at hx ⊢
  dsimp only at hx ⊢
  split at hx
  · exact .inr hx
  · exact .inl hx
/-- function 21: the loop in block 0 -/
noncomputable def octet_number_L0v1.body (octet_number_L0v1 : Int → Nat → Nat → Nat → Nat → Int → Int → Int → Bool → Bool → (List Int) → (Int → Nat → Nat → Int → Bool → Bool → (List Int) → Option Bool) → Option Bool) (n133 : Int) (m134 : Nat) (m135 : Nat) (m136 : Nat) (m137 : Nat) (n138 : Int) (n139 : Int) (n140 : Int) (b141 : Bool) (b142 : Bool) (ns143 : List Int) (k1 : Int → Nat → Nat → Int → Bool → Bool → (List Int) → Option Bool) : Option Bool :=
  (cond_ (decide (n139 < n138)) (cond_ ((decide ((0 : Int) ≤ n139)) && (decide (n139 < ((m137 : Nat) : Int)))) (octet_number_L0v1 (IntKind.wrap .i64 (((@BitVec.toNat (64 : Nat) ((@BitVec.ofInt (64 : Nat) (IntKind.wrap .i64 (n133 * (256 : Int)))) ||| (@BitVec.ofInt (64 : Nat) (IntKind.wrap .i64 (List.getD ns143 (m136 + (Int.toNat n139)) (0 : Int)))))) : Nat) : Int)) m134 m135 m136 m137 n138 (IntKind.wrap .i64 (n139 + (1 : Int))) n140 b141 b142 ns143 k1) none) (k1 n133 m134 m135 n140 b141 b142 ns143))
noncomputable def octet_number_L0v1 : Nat → Int → Nat → Nat → Nat → Nat → Int → Int → Int → Bool → Bool → (List Int) → (Int → Nat → Nat → Int → Bool → Bool → (List Int) → Option Bool) → Option Bool
  | 0 => fun _ _ _ _ _ _ _ _ _ _ _ _ => none
  | n + 1 => octet_number_L0v1.body (octet_number_L0v1 n)
noncomputable def octet_number_L0v1.get (F : Int → Nat → Nat → Nat → Nat → Int → Int → Int → Bool → Bool → (List Int) → (Int → Nat → Nat → Int → Bool → Bool → (List Int) → Option Bool) → Option Bool) (e : Option Bool) (st : St) (k : KE) : Option Bool := match st with
  | ⟨sl, hp, m⟩ => match Nat.beq m 2, pickS 33 [6, 7, 19, 20, 21] sl, hp with
    | true, some [(.d ⟨(.int .i64), n133⟩), (.cut [0, 1] m134 m135), (.cut [0, 1] m136 m137), (.d ⟨(.int .i64), n138⟩), (.d ⟨(.int .i64), n139⟩)], [([0, 0], ⟨44, 4, (.mix [(.agg [(.ref [0, 1]), (.d ⟨(.int .i64), n140⟩), (.d ⟨.bool, b141⟩), (.d ⟨.bool, b142⟩)])])⟩), ([0, 1], ⟨5, 1, (.data (.int .u8) ns143)⟩)] => F n133 m134 m135 m136 m137 n138 n139 n140 b141 b142 ns143 (fun y0 y1 y2 y3 y4 y5 y6 => k (.exit 0) ⟨fillS 33 [6, 7] [(.d ⟨(.int .i64), y0⟩), (.cut [0, 1] y1 y2)], [([0, 0], ⟨44, 4, (.mix [(.agg [(.ref [0, 1]), (.d ⟨(.int .i64), y3⟩), (.d ⟨.bool, y4⟩), (.d ⟨.bool, y5⟩)])])⟩), ([0, 1], ⟨5, 1, (.data (.int .u8) y6)⟩)], 2⟩)
    | _, _, _ => e
noncomputable def octet_number_L0v1.calls : RecF := fun g a h k => none
noncomputable def octet_number_L0v1.loops : LoopF := fun b => none
set_option maxRecDepth 100000 in
theorem octet_number_L0v1.step (S : Int → Nat → Nat → Nat → Nat → Int → Int → Int → Bool → Bool → (List Int) → (Int → Nat → Nat → Int → Bool → Bool → (List Int) → Option Bool) → Option Bool) (n133 : Int) (m134 : Nat) (m135 : Nat) (m136 : Nat) (m137 : Nat) (n138 : Int) (n139 : Int) (n140 : Int) (b141 : Bool) (b142 : Bool) (ns143 : List Int) (k : KE) : execL Try.prog ht 21 (callfOf (octet_number_L0v1.calls)) (octet_number_L0v1.loops) 0 (loopAt 0 (codeOf Try.f21)) ⟨fillS 33 [6, 7, 19, 20, 21] [(.d ⟨(.int .i64), n133⟩), (.cut [0, 1] m134 m135), (.cut [0, 1] m136 m137), (.d ⟨(.int .i64), n138⟩), (.d ⟨(.int .i64), n139⟩)], [([0, 0], ⟨44, 4, (.mix [(.agg [(.ref [0, 1]), (.d ⟨(.int .i64), n140⟩), (.d ⟨.bool, b141⟩), (.d ⟨.bool, b142⟩)])])⟩), ([0, 1], ⟨5, 1, (.data (.int .u8) ns143)⟩)], 2⟩ (again (octet_number_L0v1.get S none) (plan Try.prog (ht 21 0)) k) = octet_number_L0v1.body S n133 m134 m135 m136 m137 n138 n139 n140 b141 b142 ns143 (fun y0 y1 y2 y3 y4 y5 y6 => k (.exit 0) ⟨fillS 33 [6, 7] [(.d ⟨(.int .i64), y0⟩), (.cut [0, 1] y1 y2)], [([0, 0], ⟨44, 4, (.mix [(.agg [(.ref [0, 1]), (.d ⟨(.int .i64), y3⟩), (.d ⟨.bool, y4⟩), (.d ⟨.bool, y5⟩)])])⟩), ([0, 1], ⟨5, 1, (.data (.int .u8) y6)⟩)], 2⟩) := by kernel_rfl
theorem octet_number_L0v1.ok (d : Nat) (hd : 0 ≤ d) : ∀ n st k, octet_number_L0v1.get (octet_number_L0v1 n) none st k = some true → iter n (plan Try.prog (ht 21 0)) (fun st k => execK Try.prog ht 21 (callfOf (callK Try.prog ht d)) 0 (loopAt 0 (codeOf Try.f21)) st k) st k = some true :=
  loop_ok (lfn := fun n st k => octet_number_L0v1.get (octet_number_L0v1 n) none st k) (rec := octet_number_L0v1.calls) (fun g a h k hx => by
    cases hx) (loopf := octet_number_L0v1.loops) (by
    have e : loopsOf (octet_number_L0v1.loops) 0 (loopAt 0 (codeOf Try.f21)) = [] := by kernel_rfl
    rw [e]
    intro p hp
    cases hp) (fun st k h => by
    obtain ⟨sl, hp, m⟩ := st
    unfold octet_number_L0v1.get at h
    dsimp only at h
    split at h
    · have h' : (none : Option Bool) = some true := h
      cases h'
    · cases h) (fun n st k h => by
    obtain ⟨sl, hp, m⟩ := st
    unfold octet_number_L0v1.get at h
    dsimp only at h
    split at h
    · rename_i h1 h2
      obtain rfl := pickS_ok h2
      obtain rfl := Nat.eq_of_beq_eq_true h1
      exact (octet_number_L0v1.step (octet_number_L0v1 n) _ _ _ _ _ _ _ _ _ _ _ k).trans h
    · cases h)
theorem octet_number_L0v1.look {F : Int → Nat → Nat → Nat → Nat → Int → Int → Int → Bool → Bool → (List Int) → (Int → Nat → Nat → Int → Bool → Bool → (List Int) → Option Bool) → Option Bool} {e : Option Bool} {st : St} {k : KE} (hx : octet_number_L0v1.get F e st k = some true) : e = some true ∨ octet_number_L0v1.get F none st k = some true := by
  obtain ⟨sl, hp, m⟩ := st
  unfold octet_number_L0v1.get at hx ⊢
  dsimp only at hx ⊢
  split at hx
  · exact .inr hx
  · exact .inl hx
/-- function 21: sheerleg/octet.number -/
noncomputable def octet_number.body (octet_Reader_take : Int → Int → Bool → Bool → (List Int) → (Int → Bool → Bool → (List Int) → (List Int) → Option Bool) → (Nat → Nat → Int → Bool → Bool → (List Int) → Option Bool) → Option Bool) (octet_number_L0 : Int → Int → Int → Int → Bool → Bool → (List Int) → (List Int) → (Int → Int → Bool → Bool → (List Int) → (List Int) → Option Bool) → Option Bool) (octet_number_L0v1 : Int → Nat → Nat → Nat → Nat → Int → Int → Int → Bool → Bool → (List Int) → (Int → Nat → Nat → Int → Bool → Bool → (List Int) → Option Bool) → Option Bool) (n64 : Int) (n65 : Int) (b66 : Bool) (b67 : Bool) (ns68 : List Int) (k1 : Int → Int → Bool → Bool → (List Int) → (List Int) → Option Bool) (k2 : Int → Nat → Nat → Int → Bool → Bool → (List Int) → Option Bool) : Option Bool :=
  (cond_ (! (decide (n64 < (1 : Int)))) (cond_ (decide (n64 > (8 : Int))) (octet_Reader_take (-1 : Int) n65 b66 b67 ns68
  (fun n108 b109 b110 ns111 ns112 => (octet_number_L0 (0 : Int) (((List.length ns112) : Nat) : Int) (0 : Int) n108 b109 b110 ns111 ns112
  (fun n121 n122 b123 b124 ns125 ns126 => (k1 n121 n122 b123 b124 ns125 ns126))))
  (fun m127 m128 n129 b130 b131 ns132 => (octet_number_L0v1 (0 : Int) m127 m128 m127 m128 ((m128 : Nat) : Int) (0 : Int) n129 b130 b131 ns132
  (fun n144 m145 m146 n147 b148 b149 ns150 => (k2 n144 m145 m146 n147 b148 b149 ns150))))) (octet_Reader_take n64 n65 b66 b67 ns68
  (fun n151 b152 b153 ns154 ns155 => (octet_number_L0 (0 : Int) (((List.length ns155) : Nat) : Int) (0 : Int) n151 b152 b153 ns154 ns155
  (fun n156 n157 b158 b159 ns160 ns161 => (k1 n156 n157 b158 b159 ns160 ns161))))
  (fun m162 m163 n164 b165 b166 ns167 => (octet_number_L0v1 (0 : Int) m162 m163 m162 m163 ((m163 : Nat) : Int) (0 : Int) n164 b165 b166 ns167
  (fun n168 m169 m170 n171 b172 b173 ns174 => (k2 n168 m169 m170 n171 b172 b173 ns174)))))) (octet_Reader_take (-1 : Int) n65 b66 b67 ns68
  (fun n175 b176 b177 ns178 ns179 => (octet_number_L0 (0 : Int) (((List.length ns179) : Nat) : Int) (0 : Int) n175 b176 b177 ns178 ns179
  (fun n180 n181 b182 b183 ns184 ns185 => (k1 n180 n181 b182 b183 ns184 ns185))))
  (fun m186 m187 n188 b189 b190 ns191 => (octet_number_L0v1 (0 : Int) m186 m187 m186 m187 ((m187 : Nat) : Int) (0 : Int) n188 b189 b190 ns191
  (fun n192 m193 m194 n195 b196 b197 ns198 => (k2 n192 m193 m194 n195 b196 b197 ns198))))))
noncomputable def octet_number (n64 : Int) (n65 : Int) (b66 : Bool) (b67 : Bool) (ns68 : List Int) (k1 : Int → Int → Bool → Bool → (List Int) → (List Int) → Option Bool) (k2 : Int → Nat → Nat → Int → Bool → Bool → (List Int) → Option Bool) : Option Bool := octet_number.body octet_Reader_take (octet_number_L0 ROUNDS) (octet_number_L0v1 ROUNDS) n64 n65 b66 b67 ns68 k1 k2
noncomputable def octet_number.get (F : Int → Int → Bool → Bool → (List Int) → (Int → Int → Bool → Bool → (List Int) → (List Int) → Option Bool) → (Int → Nat → Nat → Int → Bool → Bool → (List Int) → Option Bool) → Option Bool) (e : Option Bool) (g : FuncId) (a : List AV) (h : Heap) (k : KR) : Option Bool := match g, a, h with
  | 21, [(.fn (.func 22) [(.ptr [0, 0] 0 0)] []), (.d ⟨(.int .i64), n64⟩)], [([0, 0], ⟨44, 4, (.mix [(.agg [(.ref [0, 1]), (.d ⟨(.int .i64), n65⟩), (.d ⟨.bool, b66⟩), (.d ⟨.bool, b67⟩)])])⟩), ([0, 1], ⟨5, 1, (.data (.int .u8) ns68)⟩)] => F n64 n65 b66 b67 ns68 (fun y0 y1 y2 y3 y4 y5 => k (.tup [(.d ⟨(.int .i64), y0⟩), (.ref [1, 0])]) [([0, 0], ⟨44, 4, (.mix [(.agg [(.ref [0, 1]), (.d ⟨(.int .i64), y1⟩), (.d ⟨.bool, y2⟩), (.d ⟨.bool, y3⟩)])])⟩), ([0, 1], ⟨5, 1, (.data (.int .u8) y4)⟩), ([1, 0], ⟨5, 1, (.data (.int .u8) y5)⟩)]) (fun y0 y1 y2 y3 y4 y5 y6 => k (.tup [(.d ⟨(.int .i64), y0⟩), (.cut [0, 1] y1 y2)]) [([0, 0], ⟨44, 4, (.mix [(.agg [(.ref [0, 1]), (.d ⟨(.int .i64), y3⟩), (.d ⟨.bool, y4⟩), (.d ⟨.bool, y5⟩)])])⟩), ([0, 1], ⟨5, 1, (.data (.int .u8) y6)⟩)])
  | _, _, _ => e
noncomputable def octet_number.calls (F0 : Int → Int → Bool → Bool → (List Int) → (Int → Bool → Bool → (List Int) → (List Int) → Option Bool) → (Nat → Nat → Int → Bool → Bool → (List Int) → Option Bool) → Option Bool) : RecF := fun g a h k => (octet_Reader_take.get F0 none g a h k)
noncomputable def octet_number.loops (L0 : Int → Int → Int → Int → Bool → Bool → (List Int) → (List Int) → (Int → Int → Bool → Bool → (List Int) → (List Int) → Option Bool) → Option Bool) (L1 : Int → Nat → Nat → Nat → Nat → Int → Int → Int → Bool → Bool → (List Int) → (Int → Nat → Nat → Int → Bool → Bool → (List Int) → Option Bool) → Option Bool) : LoopF := fun b => match Nat.beq b 0 with | true => some (fun st k => (octet_number_L0.get L0 (octet_number_L0v1.get L1 none st k) st k)) | false => none
set_option maxRecDepth 100000 in
theorem octet_number.eq (F0 : Int → Int → Bool → Bool → (List Int) → (Int → Bool → Bool → (List Int) → (List Int) → Option Bool) → (Nat → Nat → Int → Bool → Bool → (List Int) → Option Bool) → Option Bool) (L0 : Int → Int → Int → Int → Bool → Bool → (List Int) → (List Int) → (Int → Int → Bool → Bool → (List Int) → (List Int) → Option Bool) → Option Bool) (L1 : Int → Nat → Nat → Nat → Nat → Int → Int → Int → Bool → Bool → (List Int) → (Int → Nat → Nat → Int → Bool → Bool → (List Int) → Option Bool) → Option Bool) (n64 : Int) (n65 : Int) (b66 : Bool) (b67 : Bool) (ns68 : List Int) (k : KR) : execL Try.prog ht 21 (callfOf (octet_number.calls F0)) (octet_number.loops L0 L1) 0 (codeOf Try.f21) ⟨[(.fn (.func 22) [(.ptr [0, 0] 0 0)] []), (.d ⟨(.int .i64), n64⟩)] ++ List.replicate (Try.f21.ntmps - ([(.fn (.func 22) [(.ptr [0, 0] 0 0)] []), (.d ⟨(.int .i64), n64⟩)] : List AV).length) .undef, [([0, 0], ⟨44, 4, (.mix [(.agg [(.ref [0, 1]), (.d ⟨(.int .i64), n65⟩), (.d ⟨.bool, b66⟩), (.d ⟨.bool, b67⟩)])])⟩), ([0, 1], ⟨5, 1, (.data (.int .u8) ns68)⟩)], 2⟩ (leave Try.prog Try.f21 k) = octet_number.body F0 L0 L1 n64 n65 b66 b67 ns68 (fun y0 y1 y2 y3 y4 y5 => k (.tup [(.d ⟨(.int .i64), y0⟩), (.ref [1, 0])]) [([0, 0], ⟨44, 4, (.mix [(.agg [(.ref [0, 1]), (.d ⟨(.int .i64), y1⟩), (.d ⟨.bool, y2⟩), (.d ⟨.bool, y3⟩)])])⟩), ([0, 1], ⟨5, 1, (.data (.int .u8) y4)⟩), ([1, 0], ⟨5, 1, (.data (.int .u8) y5)⟩)]) (fun y0 y1 y2 y3 y4 y5 y6 => k (.tup [(.d ⟨(.int .i64), y0⟩), (.cut [0, 1] y1 y2)]) [([0, 0], ⟨44, 4, (.mix [(.agg [(.ref [0, 1]), (.d ⟨(.int .i64), y3⟩), (.d ⟨.bool, y4⟩), (.d ⟨.bool, y5⟩)])])⟩), ([0, 1], ⟨5, 1, (.data (.int .u8) y6)⟩)]) := by kernel_rfl
theorem octet_number.ok (d : Nat) (hd : 3 ≤ d) (n64 : Int) (n65 : Int) (b66 : Bool) (b67 : Bool) (ns68 : List Int) (k : KR) (hx : octet_number n64 n65 b66 b67 ns68 (fun y0 y1 y2 y3 y4 y5 => k (.tup [(.d ⟨(.int .i64), y0⟩), (.ref [1, 0])]) [([0, 0], ⟨44, 4, (.mix [(.agg [(.ref [0, 1]), (.d ⟨(.int .i64), y1⟩), (.d ⟨.bool, y2⟩), (.d ⟨.bool, y3⟩)])])⟩), ([0, 1], ⟨5, 1, (.data (.int .u8) y4)⟩), ([1, 0], ⟨5, 1, (.data (.int .u8) y5)⟩)]) (fun y0 y1 y2 y3 y4 y5 y6 => k (.tup [(.d ⟨(.int .i64), y0⟩), (.cut [0, 1] y1 y2)]) [([0, 0], ⟨44, 4, (.mix [(.agg [(.ref [0, 1]), (.d ⟨(.int .i64), y3⟩), (.d ⟨.bool, y4⟩), (.d ⟨.bool, y5⟩)])])⟩), ([0, 1], ⟨5, 1, (.data (.int .u8) y6)⟩)]) = some true) : callK Try.prog ht d 21 [(.fn (.func 22) [(.ptr [0, 0] 0 0)] []), (.d ⟨(.int .i64), n64⟩)] [([0, 0], ⟨44, 4, (.mix [(.agg [(.ref [0, 1]), (.d ⟨(.int .i64), n65⟩), (.d ⟨.bool, b66⟩), (.d ⟨.bool, b67⟩)])])⟩), ([0, 1], ⟨5, 1, (.data (.int .u8) ns68)⟩)] k = some true := by
  obtain ⟨d, rfl⟩ : ∃ e, d = e + 1 := ⟨d - 1, by omega⟩
  exact fn_ok (c := codeOf Try.f21) Try.func21 (by kernel_rfl) (rec := octet_number.calls octet_Reader_take) (fun g a h k hx => by
    rcases octet_Reader_take.look d (by omega) hx with hx | hx
    rotate_left
    · exact hx
    cases hx) (loopf := octet_number.loops (octet_number_L0 ROUNDS) (octet_number_L0v1 ROUNDS)) (by
    have e : loopsOf (octet_number.loops (octet_number_L0 ROUNDS) (octet_number_L0v1 ROUNDS)) 0 (codeOf Try.f21) = [(0, loopAt 0 (codeOf Try.f21))] := by kernel_rfl
    rw [e]
    intro p hp
    simp only [List.mem_cons, List.not_mem_nil, or_false] at hp
    rcases hp with rfl
    · refine loopRef_of (callf := callfOf (callK Try.prog ht d)) (callfOf_ref (callK_mono d)) fun lf st k hb hx => ?_
      cases hb
      rcases octet_number_L0.look hx with hx | hx
      rotate_left
      · exact octet_number_L0.ok d (by omega) _ _ _ hx
      rcases octet_number_L0v1.look hx with hx | hx
      rotate_left
      · exact octet_number_L0v1.ok d (by omega) _ _ _ hx
      cases hx) ((octet_number.eq octet_Reader_take (octet_number_L0 ROUNDS) (octet_number_L0v1 ROUNDS) n64 n65 b66 b67 ns68 k).trans hx)
theorem octet_number.look (d : Nat) (hd : 3 ≤ d) {e : Option Bool} {g : FuncId} {a : List AV} {h : Heap} {k : KR} (hx : octet_number.get octet_number e g a h k = some true) : e = some true ∨ callK Try.prog ht d g a h k = some true := by
  unfold octet_number.get at hx
  split at hx
  · exact .inr (octet_number.ok d hd _ _ _ _ _ _ hx)
  · exact .inl hx
/-- function 13: (*sheerleg/octet.Reader).Signed -/
noncomputable def octet_Reader_Signed.body (octet_number : Int → Int → Bool → Bool → (List Int) → (Int → Int → Bool → Bool → (List Int) → (List Int) → Option Bool) → (Int → Nat → Nat → Int → Bool → Bool → (List Int) → Option Bool) → Option Bool) (n59 : Int) (n60 : Int) (b61 : Bool) (b62 : Bool) (ns63 : List Int) (k1 : Int → Int → Bool → Bool → (List Int) → Option Bool) : Option Bool :=
  (octet_number n59 n60 b61 b62 ns63
  (fun n199 n200 b201 b202 ns203 ns204 => (cond_ ((((List.length ns204) : Nat) : Int) == (0 : Int)) (k1 (0 : Int) n200 b201 b202 ns203) (cond_ (decide ((0 : Int) ≤ (IntKind.wrap .u64 ((8 : Int) * (IntKind.wrap .u64 (IntKind.wrap .i64 ((8 : Int) - (((List.length ns204) : Nat) : Int)))))))) (cond_ (decide ((0 : Int) ≤ (IntKind.wrap .u64 ((8 : Int) * (IntKind.wrap .u64 (IntKind.wrap .i64 ((8 : Int) - (((List.length ns204) : Nat) : Int)))))))) (k1 (Int.fdiv (IntKind.wrap .i64 (n199 * ((2 : Int) ^ (min (Int.toNat (IntKind.wrap .u64 ((8 : Int) * (IntKind.wrap .u64 (IntKind.wrap .i64 ((8 : Int) - (((List.length ns204) : Nat) : Int))))))) (64 : Nat))))) ((2 : Int) ^ (min (Int.toNat (IntKind.wrap .u64 ((8 : Int) * (IntKind.wrap .u64 (IntKind.wrap .i64 ((8 : Int) - (((List.length ns204) : Nat) : Int))))))) (64 : Nat)))) n200 b201 b202 ns203) none) none)))
  (fun n205 m206 m207 n208 b209 b210 ns211 => (cond_ (((m207 : Nat) : Int) == (0 : Int)) (k1 (0 : Int) n208 b209 b210 ns211) (cond_ (decide ((0 : Int) ≤ (IntKind.wrap .u64 ((8 : Int) * (IntKind.wrap .u64 (IntKind.wrap .i64 ((8 : Int) - ((m207 : Nat) : Int)))))))) (cond_ (decide ((0 : Int) ≤ (IntKind.wrap .u64 ((8 : Int) * (IntKind.wrap .u64 (IntKind.wrap .i64 ((8 : Int) - ((m207 : Nat) : Int)))))))) (k1 (Int.fdiv (IntKind.wrap .i64 (n205 * ((2 : Int) ^ (min (Int.toNat (IntKind.wrap .u64 ((8 : Int) * (IntKind.wrap .u64 (IntKind.wrap .i64 ((8 : Int) - ((m207 : Nat) : Int))))))) (64 : Nat))))) ((2 : Int) ^ (min (Int.toNat (IntKind.wrap .u64 ((8 : Int) * (IntKind.wrap .u64 (IntKind.wrap .i64 ((8 : Int) - ((m207 : Nat) : Int))))))) (64 : Nat)))) n208 b209 b210 ns211) none) none))))
noncomputable def octet_Reader_Signed (n59 : Int) (n60 : Int) (b61 : Bool) (b62 : Bool) (ns63 : List Int) (k1 : Int → Int → Bool → Bool → (List Int) → Option Bool) : Option Bool := octet_Reader_Signed.body octet_number n59 n60 b61 b62 ns63 k1
noncomputable def octet_Reader_Signed.get (F : Int → Int → Bool → Bool → (List Int) → (Int → Int → Bool → Bool → (List Int) → Option Bool) → Option Bool) (e : Option Bool) (g : FuncId) (a : List AV) (h : Heap) (k : KR) : Option Bool := match g, a, h with
  | 13, [(.ptr [0, 0] 0 0), (.d ⟨(.int .i64), n59⟩)], [([0, 0], ⟨44, 4, (.mix [(.agg [(.ref [0, 1]), (.d ⟨(.int .i64), n60⟩), (.d ⟨.bool, b61⟩), (.d ⟨.bool, b62⟩)])])⟩), ([0, 1], ⟨5, 1, (.data (.int .u8) ns63)⟩)] => F n59 n60 b61 b62 ns63 (fun y0 y1 y2 y3 y4 => k (.d ⟨(.int .i64), y0⟩) [([0, 0], ⟨44, 4, (.mix [(.agg [(.ref [0, 1]), (.d ⟨(.int .i64), y1⟩), (.d ⟨.bool, y2⟩), (.d ⟨.bool, y3⟩)])])⟩), ([0, 1], ⟨5, 1, (.data (.int .u8) y4)⟩)])
  | _, _, _ => e
noncomputable def octet_Reader_Signed.calls (F0 : Int → Int → Bool → Bool → (List Int) → (Int → Int → Bool → Bool → (List Int) → (List Int) → Option Bool) → (Int → Nat → Nat → Int → Bool → Bool → (List Int) → Option Bool) → Option Bool) : RecF := fun g a h k => (octet_number.get F0 none g a h k)
noncomputable def octet_Reader_Signed.loops : LoopF := fun b => none
set_option maxRecDepth 100000 in
theorem octet_Reader_Signed.eq (F0 : Int → Int → Bool → Bool → (List Int) → (Int → Int → Bool → Bool → (List Int) → (List Int) → Option Bool) → (Int → Nat → Nat → Int → Bool → Bool → (List Int) → Option Bool) → Option Bool) (n59 : Int) (n60 : Int) (b61 : Bool) (b62 : Bool) (ns63 : List Int) (k : KR) : execL Try.prog ht 13 (callfOf (octet_Reader_Signed.calls F0)) (octet_Reader_Signed.loops) 0 (codeOf Try.f13) ⟨[(.ptr [0, 0] 0 0), (.d ⟨(.int .i64), n59⟩)] ++ List.replicate (Try.f13.ntmps - ([(.ptr [0, 0] 0 0), (.d ⟨(.int .i64), n59⟩)] : List AV).length) .undef, [([0, 0], ⟨44, 4, (.mix [(.agg [(.ref [0, 1]), (.d ⟨(.int .i64), n60⟩), (.d ⟨.bool, b61⟩), (.d ⟨.bool, b62⟩)])])⟩), ([0, 1], ⟨5, 1, (.data (.int .u8) ns63)⟩)], 2⟩ (leave Try.prog Try.f13 k) = octet_Reader_Signed.body F0 n59 n60 b61 b62 ns63 (fun y0 y1 y2 y3 y4 => k (.d ⟨(.int .i64), y0⟩) [([0, 0], ⟨44, 4, (.mix [(.agg [(.ref [0, 1]), (.d ⟨(.int .i64), y1⟩), (.d ⟨.bool, y2⟩), (.d ⟨.bool, y3⟩)])])⟩), ([0, 1], ⟨5, 1, (.data (.int .u8) y4)⟩)]) := by kernel_rfl
theorem octet_Reader_Signed.ok (d : Nat) (hd : 4 ≤ d) (n59 : Int) (n60 : Int) (b61 : Bool) (b62 : Bool) (ns63 : List Int) (k : KR) (hx : octet_Reader_Signed n59 n60 b61 b62 ns63 (fun y0 y1 y2 y3 y4 => k (.d ⟨(.int .i64), y0⟩) [([0, 0], ⟨44, 4, (.mix [(.agg [(.ref [0, 1]), (.d ⟨(.int .i64), y1⟩), (.d ⟨.bool, y2⟩), (.d ⟨.bool, y3⟩)])])⟩), ([0, 1], ⟨5, 1, (.data (.int .u8) y4)⟩)]) = some true) : callK Try.prog ht d 13 [(.ptr [0, 0] 0 0), (.d ⟨(.int .i64), n59⟩)] [([0, 0], ⟨44, 4, (.mix [(.agg [(.ref [0, 1]), (.d ⟨(.int .i64), n60⟩), (.d ⟨.bool, b61⟩), (.d ⟨.bool, b62⟩)])])⟩), ([0, 1], ⟨5, 1, (.data (.int .u8) ns63)⟩)] k = some true := by
  obtain ⟨d, rfl⟩ : ∃ e, d = e + 1 := ⟨d - 1, by omega⟩
  exact fn_ok (c := codeOf Try.f13) Try.func13 (by kernel_rfl) (rec := octet_Reader_Signed.calls octet_number) (fun g a h k hx => by
    rcases octet_number.look d (by omega) hx with hx | hx
    rotate_left
    · exact hx
    cases hx) (loopf := octet_Reader_Signed.loops) (by
    have e : loopsOf (octet_Reader_Signed.loops) 0 (codeOf Try.f13) = [] := by kernel_rfl
    rw [e]
    intro p hp
    cases hp) ((octet_Reader_Signed.eq octet_number n59 n60 b61 b62 ns63 k).trans hx)
theorem octet_Reader_Signed.look (d : Nat) (hd : 4 ≤ d) {e : Option Bool} {g : FuncId} {a : List AV} {h : Heap} {k : KR} (hx : octet_Reader_Signed.get octet_Reader_Signed e g a h k = some true) : e = some true ∨ callK Try.prog ht d g a h k = some true := by
  unfold octet_Reader_Signed.get at hx
  split at hx
  · exact .inr (octet_Reader_Signed.ok d hd _ _ _ _ _ _ hx)
  · exact .inl hx
/-- function 14: (*sheerleg/octet.Reader).Text -/
noncomputable def octet_Reader_Text.body (octet_Reader_Bad : Int → Bool → Bool → (List Int) → (Bool → Int → Bool → Bool → (List Int) → Option Bool) → Option Bool) (octet_Reader_Left : Int → Bool → Bool → (List Int) → (Int → Int → Bool → Bool → (List Int) → Option Bool) → Option Bool) (octet_Reader_spoil : Int → Bool → Bool → (List Int) → (Int → Bool → Bool → (List Int) → Option Bool) → Option Bool) (octet_Reader_take : Int → Int → Bool → Bool → (List Int) → (Int → Bool → Bool → (List Int) → (List Int) → Option Bool) → (Nat → Nat → Int → Bool → Bool → (List Int) → Option Bool) → Option Bool) (n217 : Int) (n218 : Int) (b219 : Bool) (b220 : Bool) (ns221 : List Int) (k1 : ByteArray → Int → Bool → Bool → (List Int) → Option Bool) : Option Bool :=
  (octet_Reader_Bad n218 b219 b220 ns221
  (fun b222 n223 b224 b225 ns226 => (cond_ (! b222) (octet_Reader_Left n223 b224 b225 ns226
  (fun n227 n228 b229 b230 ns231 => (cond_ (n227 == (0 : Int)) (octet_Reader_spoil n228 b229 b230 ns231
  (fun n232 b233 b234 ns235 => (k1 (⟨#[]⟩ : ByteArray) n232 b233 b234 ns235))) (cond_ ((decide ((0 : Int) ≤ n228)) && (decide (n228 < (((List.length ns231) : Nat) : Int)))) (cond_ (! (decide ((IntKind.wrap .i64 (List.getD ns231 (Int.toNat n228) (0 : Int))) > n217))) (octet_Reader_Left n228 b229 b230 ns231
  (fun n236 n237 b238 b239 ns240 => (cond_ (decide ((IntKind.wrap .i64 (List.getD ns231 (Int.toNat n228) (0 : Int))) ≥ n236)) (octet_Reader_spoil n237 b238 b239 ns240
  (fun n241 b242 b243 ns244 => (k1 (⟨#[]⟩ : ByteArray) n241 b242 b243 ns244))) (octet_Reader_take (IntKind.wrap .i64 ((1 : Int) + (IntKind.wrap .i64 (List.getD ns231 (Int.toNat n228) (0 : Int))))) n237 b238 b239 ns240
  (fun n245 b246 b247 ns248 ns249 => (cond_ (true && (decide ((1 : Int) ≤ (((List.length ns249) : Nat) : Int)))) (k1 (strOf (List.take ((List.length ns249) - (1 : Nat)) (List.drop (1 : Nat) ns249))) n245 b246 b247 ns248) none))
  (fun m250 m251 n252 b253 b254 ns255 => (cond_ (true && (decide ((1 : Int) ≤ ((m251 : Nat) : Int)))) (k1 (strOf (List.take (m251 - (1 : Nat)) (List.drop (m250 + (1 : Nat)) ns255))) n252 b253 b254 ns255) none)))))) (octet_Reader_spoil n228 b229 b230 ns231
  (fun n256 b257 b258 ns259 => (k1 (⟨#[]⟩ : ByteArray) n256 b257 b258 ns259)))) none)))) (octet_Reader_spoil n223 b224 b225 ns226
  (fun n260 b261 b262 ns263 => (k1 (⟨#[]⟩ : ByteArray) n260 b261 b262 ns263))))))
noncomputable def octet_Reader_Text (n217 : Int) (n218 : Int) (b219 : Bool) (b220 : Bool) (ns221 : List Int) (k1 : ByteArray → Int → Bool → Bool → (List Int) → Option Bool) : Option Bool := octet_Reader_Text.body octet_Reader_Bad octet_Reader_Left octet_Reader_spoil octet_Reader_take n217 n218 b219 b220 ns221 k1
noncomputable def octet_Reader_Text.get (F : Int → Int → Bool → Bool → (List Int) → (ByteArray → Int → Bool → Bool → (List Int) → Option Bool) → Option Bool) (e : Option Bool) (g : FuncId) (a : List AV) (h : Heap) (k : KR) : Option Bool := match g, a, h with
  | 14, [(.ptr [0, 0] 0 0), (.d ⟨(.int .i64), n217⟩)], [([0, 0], ⟨44, 4, (.mix [(.agg [(.ref [0, 1]), (.d ⟨(.int .i64), n218⟩), (.d ⟨.bool, b219⟩), (.d ⟨.bool, b220⟩)])])⟩), ([0, 1], ⟨5, 1, (.data (.int .u8) ns221)⟩)] => F n217 n218 b219 b220 ns221 (fun y0 y1 y2 y3 y4 => k (.d ⟨.str, y0⟩) [([0, 0], ⟨44, 4, (.mix [(.agg [(.ref [0, 1]), (.d ⟨(.int .i64), y1⟩), (.d ⟨.bool, y2⟩), (.d ⟨.bool, y3⟩)])])⟩), ([0, 1], ⟨5, 1, (.data (.int .u8) y4)⟩)])
  | _, _, _ => e
noncomputable def octet_Reader_Text.calls (F0 : Int → Bool → Bool → (List Int) → (Bool → Int → Bool → Bool → (List Int) → Option Bool) → Option Bool) (F1 : Int → Bool → Bool → (List Int) → (Int → Int → Bool → Bool → (List Int) → Option Bool) → Option Bool) (F2 : Int → Bool → Bool → (List Int) → (Int → Bool → Bool → (List Int) → Option Bool) → Option Bool) (F3 : Int → Int → Bool → Bool → (List Int) → (Int → Bool → Bool → (List Int) → (List Int) → Option Bool) → (Nat → Nat → Int → Bool → Bool → (List Int) → Option Bool) → Option Bool) : RecF := fun g a h k => (octet_Reader_Bad.get F0 (octet_Reader_Left.get F1 (octet_Reader_spoil.get F2 (octet_Reader_take.get F3 none g a h k) g a h k) g a h k) g a h k)
noncomputable def octet_Reader_Text.loops : LoopF := fun b => none
set_option maxRecDepth 100000 in
theorem octet_Reader_Text.eq (F0 : Int → Bool → Bool → (List Int) → (Bool → Int → Bool → Bool → (List Int) → Option Bool) → Option Bool) (F1 : Int → Bool → Bool → (List Int) → (Int → Int → Bool → Bool → (List Int) → Option Bool) → Option Bool) (F2 : Int → Bool → Bool → (List Int) → (Int → Bool → Bool → (List Int) → Option Bool) → Option Bool) (F3 : Int → Int → Bool → Bool → (List Int) → (Int → Bool → Bool → (List Int) → (List Int) → Option Bool) → (Nat → Nat → Int → Bool → Bool → (List Int) → Option Bool) → Option Bool) (n217 : Int) (n218 : Int) (b219 : Bool) (b220 : Bool) (ns221 : List Int) (k : KR) : execL Try.prog ht 14 (callfOf (octet_Reader_Text.calls F0 F1 F2 F3)) (octet_Reader_Text.loops) 0 (codeOf Try.f14) ⟨[(.ptr [0, 0] 0 0), (.d ⟨(.int .i64), n217⟩)] ++ List.replicate (Try.f14.ntmps - ([(.ptr [0, 0] 0 0), (.d ⟨(.int .i64), n217⟩)] : List AV).length) .undef, [([0, 0], ⟨44, 4, (.mix [(.agg [(.ref [0, 1]), (.d ⟨(.int .i64), n218⟩), (.d ⟨.bool, b219⟩), (.d ⟨.bool, b220⟩)])])⟩), ([0, 1], ⟨5, 1, (.data (.int .u8) ns221)⟩)], 2⟩ (leave Try.prog Try.f14 k) = octet_Reader_Text.body F0 F1 F2 F3 n217 n218 b219 b220 ns221 (fun y0 y1 y2 y3 y4 => k (.d ⟨.str, y0⟩) [([0, 0], ⟨44, 4, (.mix [(.agg [(.ref [0, 1]), (.d ⟨(.int .i64), y1⟩), (.d ⟨.bool, y2⟩), (.d ⟨.bool, y3⟩)])])⟩), ([0, 1], ⟨5, 1, (.data (.int .u8) y4)⟩)]) := by kernel_rfl
theorem octet_Reader_Text.ok (d : Nat) (hd : 3 ≤ d) (n217 : Int) (n218 : Int) (b219 : Bool) (b220 : Bool) (ns221 : List Int) (k : KR) (hx : octet_Reader_Text n217 n218 b219 b220 ns221 (fun y0 y1 y2 y3 y4 => k (.d ⟨.str, y0⟩) [([0, 0], ⟨44, 4, (.mix [(.agg [(.ref [0, 1]), (.d ⟨(.int .i64), y1⟩), (.d ⟨.bool, y2⟩), (.d ⟨.bool, y3⟩)])])⟩), ([0, 1], ⟨5, 1, (.data (.int .u8) y4)⟩)]) = some true) : callK Try.prog ht d 14 [(.ptr [0, 0] 0 0), (.d ⟨(.int .i64), n217⟩)] [([0, 0], ⟨44, 4, (.mix [(.agg [(.ref [0, 1]), (.d ⟨(.int .i64), n218⟩), (.d ⟨.bool, b219⟩), (.d ⟨.bool, b220⟩)])])⟩), ([0, 1], ⟨5, 1, (.data (.int .u8) ns221)⟩)] k = some true := by
  obtain ⟨d, rfl⟩ : ∃ e, d = e + 1 := ⟨d - 1, by omega⟩
  exact fn_ok (c := codeOf Try.f14) Try.func14 (by kernel_rfl) (rec := octet_Reader_Text.calls octet_Reader_Bad octet_Reader_Left octet_Reader_spoil octet_Reader_take) (fun g a h k hx => by
    rcases octet_Reader_Bad.look d (by omega) hx with hx | hx
    rotate_left
    · exact hx
    rcases octet_Reader_Left.look d (by omega) hx with hx | hx
    rotate_left
    · exact hx
    rcases octet_Reader_spoil.look d (by omega) hx with hx | hx
    rotate_left
    · exact hx
    rcases octet_Reader_take.look d (by omega) hx with hx | hx
    rotate_left
    · exact hx
    cases hx) (loopf := octet_Reader_Text.loops) (by
    have e : loopsOf (octet_Reader_Text.loops) 0 (codeOf Try.f14) = [] := by kernel_rfl
    rw [e]
    intro p hp
    cases hp) ((octet_Reader_Text.eq octet_Reader_Bad octet_Reader_Left octet_Reader_spoil octet_Reader_take n217 n218 b219 b220 ns221 k).trans hx)
theorem octet_Reader_Text.look (d : Nat) (hd : 3 ≤ d) {e : Option Bool} {g : FuncId} {a : List AV} {h : Heap} {k : KR} (hx : octet_Reader_Text.get octet_Reader_Text e g a h k = some true) : e = some true ∨ callK Try.prog ht d g a h k = some true := by
  unfold octet_Reader_Text.get at hx
  split at hx
  · exact .inr (octet_Reader_Text.ok d hd _ _ _ _ _ _ hx)
  · exact .inl hx
/-- function 4: sheerleg/sheerleglaw02.OctetBack -/
noncomputable def law02_OctetBack.body (law02_known : (Bool → Option Bool) → Option Bool) (octet_Putv1 : Int → Int → ((List Int) → Option Bool) → Option Bool) (octet_Textv1 : (List Int) → ByteArray → ((List Int) → Option Bool) → Option Bool) (octet_New : (List Int) → (Int → Bool → Bool → (List Int) → Option Bool) → Option Bool) (octet_Reader_Signed : Int → Int → Bool → Bool → (List Int) → (Int → Int → Bool → Bool → (List Int) → Option Bool) → Option Bool) (octet_Reader_Text : Int → Int → Bool → Bool → (List Int) → (ByteArray → Int → Bool → Bool → (List Int) → Option Bool) → Option Bool) (octet_Reader_Left : Int → Bool → Bool → (List Int) → (Int → Int → Bool → Bool → (List Int) → Option Bool) → Option Bool) (octet_Reader_Bad : Int → Bool → Bool → (List Int) → (Bool → Int → Bool → Bool → (List Int) → Option Bool) → Option Bool) (n39 : Int) (n40 : Int) (s41 : ByteArray) (ns42 : List Int) (k1 : Bool → Option Bool) : Option Bool :=
  (cond_ (! (decide (n40 < (1 : Int)))) (cond_ (! (decide (n40 > (8 : Int)))) (cond_ (! (decide ((((ByteArray.size s41) : Nat) : Int) > (255 : Int)))) (cond_ (decide ((((List.length ns42) : Nat) : Int) > (100 : Int))) (law02_known
  (fun b43 => (k1 b43))) (cond_ (decide ((0 : Int) ≤ (IntKind.wrap .i64 ((64 : Int) - (IntKind.wrap .i64 ((8 : Int) * n40)))))) (cond_ (decide ((0 : Int) ≤ (IntKind.wrap .i64 ((64 : Int) - (IntKind.wrap .i64 ((8 : Int) * n40)))))) (octet_Putv1 (Int.fdiv (IntKind.wrap .i64 (n39 * ((2 : Int) ^ (min (Int.toNat (IntKind.wrap .i64 ((64 : Int) - (IntKind.wrap .i64 ((8 : Int) * n40))))) (64 : Nat))))) ((2 : Int) ^ (min (Int.toNat (IntKind.wrap .i64 ((64 : Int) - (IntKind.wrap .i64 ((8 : Int) * n40))))) (64 : Nat)))) n40
  (fun ns46 => (octet_Textv1 ns46 s41
  (fun ns53 => (cond_ (Nat.ble (((List.length ns53) + (List.length ns42)) * (1 : Nat)) (140737488355328 : Nat)) (octet_New (ns53 ++ ns42)
  (fun n55 b56 b57 ns58 => (octet_Reader_Signed n40 n55 b56 b57 ns58
  (fun n212 n213 b214 b215 ns216 => (cond_ (n212 == (Int.fdiv (IntKind.wrap .i64 (n39 * ((2 : Int) ^ (min (Int.toNat (IntKind.wrap .i64 ((64 : Int) - (IntKind.wrap .i64 ((8 : Int) * n40))))) (64 : Nat))))) ((2 : Int) ^ (min (Int.toNat (IntKind.wrap .i64 ((64 : Int) - (IntKind.wrap .i64 ((8 : Int) * n40))))) (64 : Nat))))) (octet_Reader_Text (255 : Int) n213 b214 b215 ns216
  (fun s264 n265 b266 b267 ns268 => (cond_ ((ByteArray.toList s264) == (ByteArray.toList s41)) (octet_Reader_Left n265 b266 b267 ns268
  (fun n269 n270 b271 b272 ns273 => (cond_ (n269 == (((List.length ns42) : Nat) : Int)) (octet_Reader_Bad n270 b271 b272 ns273
  (fun b274 n275 b276 b277 ns278 => (cond_ (! b274) (law02_known
  (fun b279 => (k1 b279))) (k1 false)))) (k1 false)))) (k1 false)))) (k1 false)))))) none))))) none) none)) (law02_known
  (fun b280 => (k1 b280)))) (law02_known
  (fun b281 => (k1 b281)))) (law02_known
  (fun b282 => (k1 b282))))
noncomputable def law02_OctetBack (n39 : Int) (n40 : Int) (s41 : ByteArray) (ns42 : List Int) (k1 : Bool → Option Bool) : Option Bool := law02_OctetBack.body law02_known octet_Putv1 octet_Textv1 octet_New octet_Reader_Signed octet_Reader_Text octet_Reader_Left octet_Reader_Bad n39 n40 s41 ns42 k1
noncomputable def law02_OctetBack.get (F : Int → Int → ByteArray → (List Int) → (Bool → Option Bool) → Option Bool) (e : Option Bool) (g : FuncId) (a : List AV) (h : Heap) (k : KR) : Option Bool := match g, a, h with
  | 4, [(.d ⟨(.int .i64), n39⟩), (.d ⟨(.int .i64), n40⟩), (.d ⟨.str, s41⟩), (.bv 0 5 (.int .u8) ns42)], [] => F n39 n40 s41 ns42 (fun y0 => k (.d ⟨.bool, y0⟩) [])
  | _, _, _ => e
noncomputable def law02_OctetBack.calls (F0 : (Bool → Option Bool) → Option Bool) (F1 : Int → Int → ((List Int) → Option Bool) → Option Bool) (F2 : (List Int) → ByteArray → ((List Int) → Option Bool) → Option Bool) (F3 : (List Int) → (Int → Bool → Bool → (List Int) → Option Bool) → Option Bool) (F4 : Int → Int → Bool → Bool → (List Int) → (Int → Int → Bool → Bool → (List Int) → Option Bool) → Option Bool) (F5 : Int → Int → Bool → Bool → (List Int) → (ByteArray → Int → Bool → Bool → (List Int) → Option Bool) → Option Bool) (F6 : Int → Bool → Bool → (List Int) → (Int → Int → Bool → Bool → (List Int) → Option Bool) → Option Bool) (F7 : Int → Bool → Bool → (List Int) → (Bool → Int → Bool → Bool → (List Int) → Option Bool) → Option Bool) : RecF := fun g a h k => (law02_known.get F0 (octet_Putv1.get F1 (octet_Textv1.get F2 (octet_New.get F3 (octet_Reader_Signed.get F4 (octet_Reader_Text.get F5 (octet_Reader_Left.get F6 (octet_Reader_Bad.get F7 none g a h k) g a h k) g a h k) g a h k) g a h k) g a h k) g a h k) g a h k)
noncomputable def law02_OctetBack.loops : LoopF := fun b => none
set_option maxRecDepth 100000 in
theorem law02_OctetBack.eq (F0 : (Bool → Option Bool) → Option Bool) (F1 : Int → Int → ((List Int) → Option Bool) → Option Bool) (F2 : (List Int) → ByteArray → ((List Int) → Option Bool) → Option Bool) (F3 : (List Int) → (Int → Bool → Bool → (List Int) → Option Bool) → Option Bool) (F4 : Int → Int → Bool → Bool → (List Int) → (Int → Int → Bool → Bool → (List Int) → Option Bool) → Option Bool) (F5 : Int → Int → Bool → Bool → (List Int) → (ByteArray → Int → Bool → Bool → (List Int) → Option Bool) → Option Bool) (F6 : Int → Bool → Bool → (List Int) → (Int → Int → Bool → Bool → (List Int) → Option Bool) → Option Bool) (F7 : Int → Bool → Bool → (List Int) → (Bool → Int → Bool → Bool → (List Int) → Option Bool) → Option Bool) (n39 : Int) (n40 : Int) (s41 : ByteArray) (ns42 : List Int) (k : KR) : execL Try.prog ht 4 (callfOf (law02_OctetBack.calls F0 F1 F2 F3 F4 F5 F6 F7)) (law02_OctetBack.loops) 0 (codeOf Try.f4) ⟨[(.d ⟨(.int .i64), n39⟩), (.d ⟨(.int .i64), n40⟩), (.d ⟨.str, s41⟩), (.bv 0 5 (.int .u8) ns42)] ++ List.replicate (Try.f4.ntmps - ([(.d ⟨(.int .i64), n39⟩), (.d ⟨(.int .i64), n40⟩), (.d ⟨.str, s41⟩), (.bv 0 5 (.int .u8) ns42)] : List AV).length) .undef, [], 2⟩ (leave Try.prog Try.f4 k) = law02_OctetBack.body F0 F1 F2 F3 F4 F5 F6 F7 n39 n40 s41 ns42 (fun y0 => k (.d ⟨.bool, y0⟩) []) := by kernel_rfl
theorem law02_OctetBack.ok (d : Nat) (hd : 61 ≤ d) (n39 : Int) (n40 : Int) (s41 : ByteArray) (ns42 : List Int) (k : KR) (hx : law02_OctetBack n39 n40 s41 ns42 (fun y0 => k (.d ⟨.bool, y0⟩) []) = some true) : callK Try.prog ht d 4 [(.d ⟨(.int .i64), n39⟩), (.d ⟨(.int .i64), n40⟩), (.d ⟨.str, s41⟩), (.bv 0 5 (.int .u8) ns42)] [] k = some true := by
  obtain ⟨d, rfl⟩ : ∃ e, d = e + 1 := ⟨d - 1, by omega⟩
  exact fn_ok (c := codeOf Try.f4) Try.func4 (by kernel_rfl) (rec := law02_OctetBack.calls law02_known octet_Putv1 octet_Textv1 octet_New octet_Reader_Signed octet_Reader_Text octet_Reader_Left octet_Reader_Bad) (fun g a h k hx => by
    rcases law02_known.look d (by omega) hx with hx | hx
    rotate_left
    · exact hx
    rcases octet_Putv1.look d (by omega) hx with hx | hx
    rotate_left
    · exact hx
    rcases octet_Textv1.look d (by omega) hx with hx | hx
    rotate_left
    · exact hx
    rcases octet_New.look d (by omega) hx with hx | hx
    rotate_left
    · exact hx
    rcases octet_Reader_Signed.look d (by omega) hx with hx | hx
    rotate_left
    · exact hx
    rcases octet_Reader_Text.look d (by omega) hx with hx | hx
    rotate_left
    · exact hx
    rcases octet_Reader_Left.look d (by omega) hx with hx | hx
    rotate_left
    · exact hx
    rcases octet_Reader_Bad.look d (by omega) hx with hx | hx
    rotate_left
    · exact hx
    cases hx) (loopf := law02_OctetBack.loops) (by
    have e : loopsOf (law02_OctetBack.loops) 0 (codeOf Try.f4) = [] := by kernel_rfl
    rw [e]
    intro p hp
    cases hp) ((law02_OctetBack.eq law02_known octet_Putv1 octet_Textv1 octet_New octet_Reader_Signed octet_Reader_Text octet_Reader_Left octet_Reader_Bad n39 n40 s41 ns42 k).trans hx)
theorem law02_OctetBack.look (d : Nat) (hd : 61 ≤ d) {e : Option Bool} {g : FuncId} {a : List AV} {h : Heap} {k : KR} (hx : law02_OctetBack.get law02_OctetBack e g a h k = some true) : e = some true ∨ callK Try.prog ht d g a h k = some true := by
  unfold law02_OctetBack.get at hx
  split at hx
  · exact .inr (law02_OctetBack.ok d hd _ _ _ _ _ hx)
  · exact .inl hx
/-- function 12: sheerleg/octet.New -/
noncomputable def octet_Newv1.body (ns286 : List Int) (k1 : Int → Bool → Bool → (List Int) → Option Bool) : Option Bool :=
  (cond_ (Nat.ble (((0 : Nat) + (List.length ns286)) * (1 : Nat)) (140737488355328 : Nat)) (k1 (0 : Int) true false ([] ++ ns286)) none)
noncomputable def octet_Newv1 (ns286 : List Int) (k1 : Int → Bool → Bool → (List Int) → Option Bool) : Option Bool := octet_Newv1.body ns286 k1
noncomputable def octet_Newv1.get (F : (List Int) → (Int → Bool → Bool → (List Int) → Option Bool) → Option Bool) (e : Option Bool) (g : FuncId) (a : List AV) (h : Heap) (k : KR) : Option Bool := match g, a, h with
  | 12, [(.bv 0 5 (.int .u8) ns286)], [] => F ns286 (fun y0 y1 y2 y3 => k (.ptr [1, 0] 0 0) [([1, 0], ⟨44, 4, (.mix [(.agg [(.ref [1, 1]), (.d ⟨(.int .i64), y0⟩), (.d ⟨.bool, y1⟩), (.d ⟨.bool, y2⟩)])])⟩), ([1, 1], ⟨5, 1, (.data (.int .u8) y3)⟩)])
  | _, _, _ => e
noncomputable def octet_Newv1.calls : RecF := fun g a h k => none
noncomputable def octet_Newv1.loops : LoopF := fun b => none
set_option maxRecDepth 100000 in
theorem octet_Newv1.eq (ns286 : List Int) (k : KR) : execL Try.prog ht 12 (callfOf (octet_Newv1.calls)) (octet_Newv1.loops) 0 (codeOf Try.f12) ⟨[(.bv 0 5 (.int .u8) ns286)] ++ List.replicate (Try.f12.ntmps - ([(.bv 0 5 (.int .u8) ns286)] : List AV).length) .undef, [], 2⟩ (leave Try.prog Try.f12 k) = octet_Newv1.body ns286 (fun y0 y1 y2 y3 => k (.ptr [1, 0] 0 0) [([1, 0], ⟨44, 4, (.mix [(.agg [(.ref [1, 1]), (.d ⟨(.int .i64), y0⟩), (.d ⟨.bool, y1⟩), (.d ⟨.bool, y2⟩)])])⟩), ([1, 1], ⟨5, 1, (.data (.int .u8) y3)⟩)]) := by kernel_rfl
theorem octet_Newv1.ok (d : Nat) (hd : 1 ≤ d) (ns286 : List Int) (k : KR) (hx : octet_Newv1 ns286 (fun y0 y1 y2 y3 => k (.ptr [1, 0] 0 0) [([1, 0], ⟨44, 4, (.mix [(.agg [(.ref [1, 1]), (.d ⟨(.int .i64), y0⟩), (.d ⟨.bool, y1⟩), (.d ⟨.bool, y2⟩)])])⟩), ([1, 1], ⟨5, 1, (.data (.int .u8) y3)⟩)]) = some true) : callK Try.prog ht d 12 [(.bv 0 5 (.int .u8) ns286)] [] k = some true := by
  obtain ⟨d, rfl⟩ : ∃ e, d = e + 1 := ⟨d - 1, by omega⟩
  exact fn_ok (c := codeOf Try.f12) Try.func12 (by kernel_rfl) (rec := octet_Newv1.calls) (fun g a h k hx => by
    cases hx) (loopf := octet_Newv1.loops) (by
    have e : loopsOf (octet_Newv1.loops) 0 (codeOf Try.f12) = [] := by kernel_rfl
    rw [e]
    intro p hp
    cases hp) ((octet_Newv1.eq ns286 k).trans hx)
theorem octet_Newv1.look (d : Nat) (hd : 1 ≤ d) {e : Option Bool} {g : FuncId} {a : List AV} {h : Heap} {k : KR} (hx : octet_Newv1.get octet_Newv1 e g a h k = some true) : e = some true ∨ callK Try.prog ht d g a h k = some true := by
  unfold octet_Newv1.get at hx
  split at hx
  · exact .inr (octet_Newv1.ok d hd _ _ hx)
  · exact .inl hx
/-- function 17: the loop in block 0 -/
noncomputable def ref02_Num_L0.body (ref02_Num_L0 : Int → Bool → Int → Int → ((List Int) × Int × Bool × Unit) → Int → Bool → (Int → Bool → Int → ((List Int) × Int × Bool × Unit) → Int → Bool → Option Bool) → Option Bool) (n304 : Int) (b305 : Bool) (n306 : Int) (n307 : Int) (t308 : (List Int) × Int × Bool × Unit) (n309 : Int) (b310 : Bool) (k1 : Int → Bool → Int → ((List Int) × Int × Bool × Unit) → Int → Bool → Option Bool) : Option Bool :=
  (cond_ (decide (n307 < n304)) (cond_ ((decide ((0 : Int) ≤ (IntKind.wrap .i64 (t308.2.1 + n307)))) && (decide ((IntKind.wrap .i64 (t308.2.1 + n307)) < (((List.length t308.1) : Nat) : Int)))) (ref02_Num_L0 n304 b305 (IntKind.wrap .u64 ((IntKind.wrap .u64 (n306 * (256 : Int))) + (IntKind.wrap .u64 (List.getD t308.1 (Int.toNat (IntKind.wrap .i64 (t308.2.1 + n307))) (0 : Int))))) (IntKind.wrap .i64 (n307 + (1 : Int))) t308 n309 b310 k1) none) (k1 n304 b305 n306 t308 n309 b310))
noncomputable def ref02_Num_L0 : Nat → Int → Bool → Int → Int → ((List Int) × Int × Bool × Unit) → Int → Bool → (Int → Bool → Int → ((List Int) × Int × Bool × Unit) → Int → Bool → Option Bool) → Option Bool
  | 0 => fun _ _ _ _ _ _ _ _ => none
  | n + 1 => ref02_Num_L0.body (ref02_Num_L0 n)
noncomputable def ref02_Num_L0.get (F : Int → Bool → Int → Int → ((List Int) × Int × Bool × Unit) → Int → Bool → (Int → Bool → Int → ((List Int) × Int × Bool × Unit) → Int → Bool → Option Bool) → Option Bool) (e : Option Bool) (st : St) (k : KE) : Option Bool := match st with
  | ⟨sl, hp, m⟩ => match Nat.beq m 2, pickS 83 [1, 2, 3, 6, 8, 9] sl, hp with
    | true, some [(.d ⟨(.int .i64), n304⟩), (.d ⟨.bool, b305⟩), (.ptr [1, 0] 0 0), (.ptr [1, 1] 0 0), (.d ⟨(.int .u64), n306⟩), (.d ⟨(.int .i64), n307⟩)], [([1, 0], ⟨35, 3, (.data (.st [(.sl 5 (.int .u8)), (.int .i64), .bool]) [t308])⟩), ([1, 1], ⟨35, 3, (.mix [(.agg [.nils, (.d ⟨(.int .i64), n309⟩), (.d ⟨.bool, b310⟩)])])⟩)] => F n304 b305 n306 n307 t308 n309 b310 (fun y0 y1 y2 y3 y4 y5 => k (.exit 0) ⟨fillS 83 [1, 2, 3, 6, 8] [(.d ⟨(.int .i64), y0⟩), (.d ⟨.bool, y1⟩), (.ptr [1, 0] 0 0), (.ptr [1, 1] 0 0), (.d ⟨(.int .u64), y2⟩)], [([1, 0], ⟨35, 3, (.data (.st [(.sl 5 (.int .u8)), (.int .i64), .bool]) [y3])⟩), ([1, 1], ⟨35, 3, (.mix [(.agg [.nils, (.d ⟨(.int .i64), y4⟩), (.d ⟨.bool, y5⟩)])])⟩)], 2⟩)
    | _, _, _ => e
noncomputable def ref02_Num_L0.calls : RecF := fun g a h k => none
noncomputable def ref02_Num_L0.loops : LoopF := fun b => none
set_option maxRecDepth 100000 in
theorem ref02_Num_L0.step (S : Int → Bool → Int → Int → ((List Int) × Int × Bool × Unit) → Int → Bool → (Int → Bool → Int → ((List Int) × Int × Bool × Unit) → Int → Bool → Option Bool) → Option Bool) (n304 : Int) (b305 : Bool) (n306 : Int) (n307 : Int) (t308 : (List Int) × Int × Bool × Unit) (n309 : Int) (b310 : Bool) (k : KE) : execL Try.prog ht 17 (callfOf (ref02_Num_L0.calls)) (ref02_Num_L0.loops) 0 (loopAt 0 (codeOf Try.f17)) ⟨fillS 83 [1, 2, 3, 6, 8, 9] [(.d ⟨(.int .i64), n304⟩), (.d ⟨.bool, b305⟩), (.ptr [1, 0] 0 0), (.ptr [1, 1] 0 0), (.d ⟨(.int .u64), n306⟩), (.d ⟨(.int .i64), n307⟩)], [([1, 0], ⟨35, 3, (.data (.st [(.sl 5 (.int .u8)), (.int .i64), .bool]) [t308])⟩), ([1, 1], ⟨35, 3, (.mix [(.agg [.nils, (.d ⟨(.int .i64), n309⟩), (.d ⟨.bool, b310⟩)])])⟩)], 2⟩ (again (ref02_Num_L0.get S none) (plan Try.prog (ht 17 0)) k) = ref02_Num_L0.body S n304 b305 n306 n307 t308 n309 b310 (fun y0 y1 y2 y3 y4 y5 => k (.exit 0) ⟨fillS 83 [1, 2, 3, 6, 8] [(.d ⟨(.int .i64), y0⟩), (.d ⟨.bool, y1⟩), (.ptr [1, 0] 0 0), (.ptr [1, 1] 0 0), (.d ⟨(.int .u64), y2⟩)], [([1, 0], ⟨35, 3, (.data (.st [(.sl 5 (.int .u8)), (.int .i64), .bool]) [y3])⟩), ([1, 1], ⟨35, 3, (.mix [(.agg [.nils, (.d ⟨(.int .i64), y4⟩), (.d ⟨.bool, y5⟩)])])⟩)], 2⟩) := by kernel_rfl
theorem ref02_Num_L0.ok (d : Nat) (hd : 0 ≤ d) : ∀ n st k, ref02_Num_L0.get (ref02_Num_L0 n) none st k = some true → iter n (plan Try.prog (ht 17 0)) (fun st k => execK Try.prog ht 17 (callfOf (callK Try.prog ht d)) 0 (loopAt 0 (codeOf Try.f17)) st k) st k = some true :=
  loop_ok (lfn := fun n st k => ref02_Num_L0.get (ref02_Num_L0 n) none st k) (rec := ref02_Num_L0.calls) (fun g a h k hx => by
    cases hx) (loopf := ref02_Num_L0.loops) (by
    have e : loopsOf (ref02_Num_L0.loops) 0 (loopAt 0 (codeOf Try.f17)) = [] := by kernel_rfl
    rw [e]
    intro p hp
    cases hp) (fun st k h => by
    obtain ⟨sl, hp, m⟩ := st
    unfold ref02_Num_L0.get at h
    dsimp only at h
    split at h
    · have h' : (none : Option Bool) = some true := h
      cases h'
    · cases h) (fun n st k h => by
    obtain ⟨sl, hp, m⟩ := st
    unfold ref02_Num_L0.get at h
    dsimp only at h
    split at h
    · rename_i h1 h2
      obtain rfl := pickS_ok h2
      obtain rfl := Nat.eq_of_beq_eq_true h1
      exact (ref02_Num_L0.step (ref02_Num_L0 n) _ _ _ _ _ _ _ k).trans h
    · cases h)
theorem ref02_Num_L0.look {F : Int → Bool → Int → Int → ((List Int) × Int × Bool × Unit) → Int → Bool → (Int → Bool → Int → ((List Int) × Int × Bool × Unit) → Int → Bool → Option Bool) → Option Bool} {e : Option Bool} {st : St} {k : KE} (hx : ref02_Num_L0.get F e st k = some true) : e = some true ∨ ref02_Num_L0.get F none st k = some true := by
  obtain ⟨sl, hp, m⟩ := st
  unfold ref02_Num_L0.get at hx ⊢
  dsimp only at hx ⊢
  split at hx
  · exact .inr hx
  · exact .inl hx
/-- function 17: the loop in block 2 -/
noncomputable def ref02_Num_L2.body (ref02_Num_L2 : Int → Int → Int → Int → ((List Int) × Int × Bool × Unit) → Int → Bool → (Int → Int → Int → ((List Int) × Int × Bool × Unit) → Int → Bool → Option Bool) → Option Bool) (n317 : Int) (n318 : Int) (n319 : Int) (n320 : Int) (t321 : (List Int) × Int × Bool × Unit) (n322 : Int) (b323 : Bool) (k1 : Int → Int → Int → ((List Int) × Int × Bool × Unit) → Int → Bool → Option Bool) : Option Bool :=
  (cond_ (decide (n320 < n317)) (ref02_Num_L2 n317 n318 (IntKind.wrap .u64 (n319 * (256 : Int))) (IntKind.wrap .i64 (n320 + (1 : Int))) t321 n322 b323 k1) (k1 n317 n318 n319 t321 n322 b323))
noncomputable def ref02_Num_L2 : Nat → Int → Int → Int → Int → ((List Int) × Int × Bool × Unit) → Int → Bool → (Int → Int → Int → ((List Int) × Int × Bool × Unit) → Int → Bool → Option Bool) → Option Bool
  | 0 => fun _ _ _ _ _ _ _ _ => none
  | n + 1 => ref02_Num_L2.body (ref02_Num_L2 n)
noncomputable def ref02_Num_L2.get (F : Int → Int → Int → Int → ((List Int) × Int × Bool × Unit) → Int → Bool → (Int → Int → Int → ((List Int) × Int × Bool × Unit) → Int → Bool → Option Bool) → Option Bool) (e : Option Bool) (st : St) (k : KE) : Option Bool := match st with
  | ⟨sl, hp, m⟩ => match Nat.beq m 2, pickS 83 [1, 3, 6, 8, 10, 11] sl, hp with
    | true, some [(.d ⟨(.int .i64), n317⟩), (.ptr [1, 0] 0 0), (.ptr [1, 1] 0 0), (.d ⟨(.int .u64), n318⟩), (.d ⟨(.int .u64), n319⟩), (.d ⟨(.int .i64), n320⟩)], [([1, 0], ⟨35, 3, (.data (.st [(.sl 5 (.int .u8)), (.int .i64), .bool]) [t321])⟩), ([1, 1], ⟨35, 3, (.mix [(.agg [.nils, (.d ⟨(.int .i64), n322⟩), (.d ⟨.bool, b323⟩)])])⟩)] => F n317 n318 n319 n320 t321 n322 b323 (fun y0 y1 y2 y3 y4 y5 => k (.exit 2) ⟨fillS 83 [1, 3, 6, 8, 10] [(.d ⟨(.int .i64), y0⟩), (.ptr [1, 0] 0 0), (.ptr [1, 1] 0 0), (.d ⟨(.int .u64), y1⟩), (.d ⟨(.int .u64), y2⟩)], [([1, 0], ⟨35, 3, (.data (.st [(.sl 5 (.int .u8)), (.int .i64), .bool]) [y3])⟩), ([1, 1], ⟨35, 3, (.mix [(.agg [.nils, (.d ⟨(.int .i64), y4⟩), (.d ⟨.bool, y5⟩)])])⟩)], 2⟩)
    | _, _, _ => e
noncomputable def ref02_Num_L2.calls : RecF := fun g a h k => none
noncomputable def ref02_Num_L2.loops : LoopF := fun b => none
set_option maxRecDepth 100000 in
theorem ref02_Num_L2.step (S : Int → Int → Int → Int → ((List Int) × Int × Bool × Unit) → Int → Bool → (Int → Int → Int → ((List Int) × Int × Bool × Unit) → Int → Bool → Option Bool) → Option Bool) (n317 : Int) (n318 : Int) (n319 : Int) (n320 : Int) (t321 : (List Int) × Int × Bool × Unit) (n322 : Int) (b323 : Bool) (k : KE) : execL Try.prog ht 17 (callfOf (ref02_Num_L2.calls)) (ref02_Num_L2.loops) 2 (loopAt 2 (codeOf Try.f17)) ⟨fillS 83 [1, 3, 6, 8, 10, 11] [(.d ⟨(.int .i64), n317⟩), (.ptr [1, 0] 0 0), (.ptr [1, 1] 0 0), (.d ⟨(.int .u64), n318⟩), (.d ⟨(.int .u64), n319⟩), (.d ⟨(.int .i64), n320⟩)], [([1, 0], ⟨35, 3, (.data (.st [(.sl 5 (.int .u8)), (.int .i64), .bool]) [t321])⟩), ([1, 1], ⟨35, 3, (.mix [(.agg [.nils, (.d ⟨(.int .i64), n322⟩), (.d ⟨.bool, b323⟩)])])⟩)], 2⟩ (again (ref02_Num_L2.get S none) (plan Try.prog (ht 17 2)) k) = ref02_Num_L2.body S n317 n318 n319 n320 t321 n322 b323 (fun y0 y1 y2 y3 y4 y5 => k (.exit 2) ⟨fillS 83 [1, 3, 6, 8, 10] [(.d ⟨(.int .i64), y0⟩), (.ptr [1, 0] 0 0), (.ptr [1, 1] 0 0), (.d ⟨(.int .u64), y1⟩), (.d ⟨(.int .u64), y2⟩)], [([1, 0], ⟨35, 3, (.data (.st [(.sl 5 (.int .u8)), (.int .i64), .bool]) [y3])⟩), ([1, 1], ⟨35, 3, (.mix [(.agg [.nils, (.d ⟨(.int .i64), y4⟩), (.d ⟨.bool, y5⟩)])])⟩)], 2⟩) := by kernel_rfl
theorem ref02_Num_L2.ok (d : Nat) (hd : 0 ≤ d) : ∀ n st k, ref02_Num_L2.get (ref02_Num_L2 n) none st k = some true → iter n (plan Try.prog (ht 17 2)) (fun st k => execK Try.prog ht 17 (callfOf (callK Try.prog ht d)) 2 (loopAt 2 (codeOf Try.f17)) st k) st k = some true :=
  loop_ok (lfn := fun n st k => ref02_Num_L2.get (ref02_Num_L2 n) none st k) (rec := ref02_Num_L2.calls) (fun g a h k hx => by
    cases hx) (loopf := ref02_Num_L2.loops) (by
    have e : loopsOf (ref02_Num_L2.loops) 2 (loopAt 2 (codeOf Try.f17)) = [] := by kernel_rfl
    rw [e]
    intro p hp
    cases hp) (fun st k h => by
    obtain ⟨sl, hp, m⟩ := st
    unfold ref02_Num_L2.get at h
    dsimp only at h
    split at h
    · have h' : (none : Option Bool) = some true := h
      cases h'
    · cases h) (fun n st k h => by
    obtain ⟨sl, hp, m⟩ := st
    unfold ref02_Num_L2.get at h
    dsimp only at h
    split at h
    · rename_i h1 h2
      obtain rfl := pickS_ok h2
      obtain rfl := Nat.eq_of_beq_eq_true h1
      exact (ref02_Num_L2.step (ref02_Num_L2 n) _ _ _ _ _ _ _ k).trans h
    · cases h)
theorem ref02_Num_L2.look {F : Int → Int → Int → Int → ((List Int) × Int × Bool × Unit) → Int → Bool → (Int → Int → Int → ((List Int) × Int × Bool × Unit) → Int → Bool → Option Bool) → Option Bool} {e : Option Bool} {st : St} {k : KE} (hx : ref02_Num_L2.get F e st k = some true) : e = some true ∨ ref02_Num_L2.get F none st k = some true := by
  obtain ⟨sl, hp, m⟩ := st
  unfold ref02_Num_L2.get at hx ⊢
  dsimp only at hx ⊢
  split at hx
  · exact .inr hx
  · exact .inl hx
/-- function 17: sheerleg/sheerlegref02.Num -/
noncomputable def ref02_Num.body (ref02_Num_L0 : Int → Bool → Int → Int → ((List Int) × Int × Bool × Unit) → Int → Bool → (Int → Bool → Int → ((List Int) × Int × Bool × Unit) → Int → Bool → Option Bool) → Option Bool) (ref02_Num_L2 : Int → Int → Int → Int → ((List Int) × Int × Bool × Unit) → Int → Bool → (Int → Int → Int → ((List Int) × Int × Bool × Unit) → Int → Bool → Option Bool) → Option Bool) (t301 : (List Int) × Int × Bool × Unit) (n302 : Int) (b303 : Bool) (k1 : ((List Int) × Int × Bool × Unit) → Int → Option Bool) : Option Bool :=
  (cond_ (! t301.2.2.1) (cond_ (! (decide (n302 < (1 : Int)))) (cond_ (! (decide (n302 > (8 : Int)))) (cond_ (decide (n302 > (IntKind.wrap .i64 ((((List.length t301.1) : Nat) : Int) - t301.2.1)))) (k1 ((t301.1, (t301.2.1, (true, ()))).1, ((t301.1, (t301.2.1, (true, ()))).2.1, (true, ()))) (0 : Int)) (ref02_Num_L0 n302 b303 (0 : Int) (0 : Int) t301 (0 : Int) false
  (fun n311 b312 n313 t314 n315 b316 => (cond_ b312 (cond_ (decide (n311 < (8 : Int))) (cond_ ((decide ((0 : Int) ≤ t314.2.1)) && (decide (t314.2.1 < (((List.length t314.1) : Nat) : Int)))) (cond_ (decide ((List.getD t314.1 (Int.toNat t314.2.1) (0 : Int)) ≥ (128 : Int))) (ref02_Num_L2 n311 n313 (1 : Int) (0 : Int) t314 n315 b316
  (fun n324 n325 n326 t327 n328 b329 => (k1 ((t327.1, ((IntKind.wrap .i64 (t327.2.1 + n324)), (t327.2.2.1, ()))).1, ((t327.1, ((IntKind.wrap .i64 (t327.2.1 + n324)), (t327.2.2.1, ()))).2.1, ((t327.1, ((IntKind.wrap .i64 (t327.2.1 + n324)), (t327.2.2.1, ()))).2.2.1, ()))) (IntKind.wrap .i64 (IntKind.wrap .u64 (n325 - n326)))))) (k1 ((t314.1, ((IntKind.wrap .i64 (t314.2.1 + n311)), (t314.2.2.1, ()))).1, ((t314.1, ((IntKind.wrap .i64 (t314.2.1 + n311)), (t314.2.2.1, ()))).2.1, ((t314.1, ((IntKind.wrap .i64 (t314.2.1 + n311)), (t314.2.2.1, ()))).2.2.1, ()))) (IntKind.wrap .i64 n313))) none) (k1 ((t314.1, ((IntKind.wrap .i64 (t314.2.1 + n311)), (t314.2.2.1, ()))).1, ((t314.1, ((IntKind.wrap .i64 (t314.2.1 + n311)), (t314.2.2.1, ()))).2.1, ((t314.1, ((IntKind.wrap .i64 (t314.2.1 + n311)), (t314.2.2.1, ()))).2.2.1, ()))) (IntKind.wrap .i64 n313))) (k1 ((t314.1, ((IntKind.wrap .i64 (t314.2.1 + n311)), (t314.2.2.1, ()))).1, ((t314.1, ((IntKind.wrap .i64 (t314.2.1 + n311)), (t314.2.2.1, ()))).2.1, ((t314.1, ((IntKind.wrap .i64 (t314.2.1 + n311)), (t314.2.2.1, ()))).2.2.1, ()))) (IntKind.wrap .i64 n313)))))) (k1 ((t301.1, (t301.2.1, (true, ()))).1, ((t301.1, (t301.2.1, (true, ()))).2.1, (true, ()))) (0 : Int))) (k1 ((t301.1, (t301.2.1, (true, ()))).1, ((t301.1, (t301.2.1, (true, ()))).2.1, (true, ()))) (0 : Int))) (k1 ((t301.1, (t301.2.1, (true, ()))).1, ((t301.1, (t301.2.1, (true, ()))).2.1, (true, ()))) (0 : Int)))
noncomputable def ref02_Num (t301 : (List Int) × Int × Bool × Unit) (n302 : Int) (b303 : Bool) (k1 : ((List Int) × Int × Bool × Unit) → Int → Option Bool) : Option Bool := ref02_Num.body (ref02_Num_L0 ROUNDS) (ref02_Num_L2 ROUNDS) t301 n302 b303 k1
noncomputable def ref02_Num.get (F : ((List Int) × Int × Bool × Unit) → Int → Bool → (((List Int) × Int × Bool × Unit) → Int → Option Bool) → Option Bool) (e : Option Bool) (g : FuncId) (a : List AV) (h : Heap) (k : KR) : Option Bool := match g, a, h with
  | 17, [(.d ⟨(.st [(.sl 5 (.int .u8)), (.int .i64), .bool]), t301⟩), (.d ⟨(.int .i64), n302⟩), (.d ⟨.bool, b303⟩)], [] => F t301 n302 b303 (fun y0 y1 => k (.tup [(.d ⟨(.st [(.sl 5 (.int .u8)), (.int .i64), .bool]), y0⟩), (.d ⟨(.int .i64), y1⟩)]) [])
  | _, _, _ => e
noncomputable def ref02_Num.calls : RecF := fun g a h k => none
noncomputable def ref02_Num.loops (L0 : Int → Bool → Int → Int → ((List Int) × Int × Bool × Unit) → Int → Bool → (Int → Bool → Int → ((List Int) × Int × Bool × Unit) → Int → Bool → Option Bool) → Option Bool) (L1 : Int → Int → Int → Int → ((List Int) × Int × Bool × Unit) → Int → Bool → (Int → Int → Int → ((List Int) × Int × Bool × Unit) → Int → Bool → Option Bool) → Option Bool) : LoopF := fun b => match Nat.beq b 0 with | true => some (fun st k => (ref02_Num_L0.get L0 none st k)) | false => match Nat.beq b 2 with | true => some (fun st k => (ref02_Num_L2.get L1 none st k)) | false => none
set_option maxRecDepth 100000 in
theorem ref02_Num.eq (L0 : Int → Bool → Int → Int → ((List Int) × Int × Bool × Unit) → Int → Bool → (Int → Bool → Int → ((List Int) × Int × Bool × Unit) → Int → Bool → Option Bool) → Option Bool) (L1 : Int → Int → Int → Int → ((List Int) × Int × Bool × Unit) → Int → Bool → (Int → Int → Int → ((List Int) × Int × Bool × Unit) → Int → Bool → Option Bool) → Option Bool) (t301 : (List Int) × Int × Bool × Unit) (n302 : Int) (b303 : Bool) (k : KR) : execL Try.prog ht 17 (callfOf (ref02_Num.calls)) (ref02_Num.loops L0 L1) 0 (codeOf Try.f17) ⟨[(.d ⟨(.st [(.sl 5 (.int .u8)), (.int .i64), .bool]), t301⟩), (.d ⟨(.int .i64), n302⟩), (.d ⟨.bool, b303⟩)] ++ List.replicate (Try.f17.ntmps - ([(.d ⟨(.st [(.sl 5 (.int .u8)), (.int .i64), .bool]), t301⟩), (.d ⟨(.int .i64), n302⟩), (.d ⟨.bool, b303⟩)] : List AV).length) .undef, [], 2⟩ (leave Try.prog Try.f17 k) = ref02_Num.body L0 L1 t301 n302 b303 (fun y0 y1 => k (.tup [(.d ⟨(.st [(.sl 5 (.int .u8)), (.int .i64), .bool]), y0⟩), (.d ⟨(.int .i64), y1⟩)]) []) := by kernel_rfl
theorem ref02_Num.ok (d : Nat) (hd : 1 ≤ d) (t301 : (List Int) × Int × Bool × Unit) (n302 : Int) (b303 : Bool) (k : KR) (hx : ref02_Num t301 n302 b303 (fun y0 y1 => k (.tup [(.d ⟨(.st [(.sl 5 (.int .u8)), (.int .i64), .bool]), y0⟩), (.d ⟨(.int .i64), y1⟩)]) []) = some true) : callK Try.prog ht d 17 [(.d ⟨(.st [(.sl 5 (.int .u8)), (.int .i64), .bool]), t301⟩), (.d ⟨(.int .i64), n302⟩), (.d ⟨.bool, b303⟩)] [] k = some true := by
  obtain ⟨d, rfl⟩ : ∃ e, d = e + 1 := ⟨d - 1, by omega⟩
  exact fn_ok (c := codeOf Try.f17) Try.func17 (by kernel_rfl) (rec := ref02_Num.calls) (fun g a h k hx => by
    cases hx) (loopf := ref02_Num.loops (ref02_Num_L0 ROUNDS) (ref02_Num_L2 ROUNDS)) (by
    have e : loopsOf (ref02_Num.loops (ref02_Num_L0 ROUNDS) (ref02_Num_L2 ROUNDS)) 0 (codeOf Try.f17) = [(0, loopAt 0 (codeOf Try.f17)), (2, loopAt 2 (codeOf Try.f17))] := by kernel_rfl
    rw [e]
    intro p hp
    simp only [List.mem_cons, List.not_mem_nil, or_false] at hp
    rcases hp with rfl | rfl
    · refine loopRef_of (callf := callfOf (callK Try.prog ht d)) (callfOf_ref (callK_mono d)) fun lf st k hb hx => ?_
      cases hb
      rcases ref02_Num_L0.look hx with hx | hx
      rotate_left
      · exact ref02_Num_L0.ok d (by omega) _ _ _ hx
      cases hx
    · refine loopRef_of (callf := callfOf (callK Try.prog ht d)) (callfOf_ref (callK_mono d)) fun lf st k hb hx => ?_
      cases hb
      rcases ref02_Num_L2.look hx with hx | hx
      rotate_left
      · exact ref02_Num_L2.ok d (by omega) _ _ _ hx
      cases hx) ((ref02_Num.eq (ref02_Num_L0 ROUNDS) (ref02_Num_L2 ROUNDS) t301 n302 b303 k).trans hx)
theorem ref02_Num.look (d : Nat) (hd : 1 ≤ d) {e : Option Bool} {g : FuncId} {a : List AV} {h : Heap} {k : KR} (hx : ref02_Num.get ref02_Num e g a h k = some true) : e = some true ∨ callK Try.prog ht d g a h k = some true := by
  unfold ref02_Num.get at hx
  split at hx
  · exact .inr (ref02_Num.ok d hd _ _ _ _ hx)
  · exact .inl hx
/-- function 18: (*sheerleg/octet.Reader).Num -/
noncomputable def octet_Reader_Num.body (octet_number : Int → Int → Bool → Bool → (List Int) → (Int → Int → Bool → Bool → (List Int) → (List Int) → Option Bool) → (Int → Nat → Nat → Int → Bool → Bool → (List Int) → Option Bool) → Option Bool) (n332 : Int) (n333 : Int) (b334 : Bool) (b335 : Bool) (ns336 : List Int) (k1 : Int → Int → Bool → Bool → (List Int) → Option Bool) : Option Bool :=
  (octet_number n332 n333 b334 b335 ns336
  (fun n337 n338 b339 b340 ns341 ns342 => (k1 n337 n338 b339 b340 ns341))
  (fun n343 m344 m345 n346 b347 b348 ns349 => (k1 n343 n346 b347 b348 ns349)))
noncomputable def octet_Reader_Num (n332 : Int) (n333 : Int) (b334 : Bool) (b335 : Bool) (ns336 : List Int) (k1 : Int → Int → Bool → Bool → (List Int) → Option Bool) : Option Bool := octet_Reader_Num.body octet_number n332 n333 b334 b335 ns336 k1
noncomputable def octet_Reader_Num.get (F : Int → Int → Bool → Bool → (List Int) → (Int → Int → Bool → Bool → (List Int) → Option Bool) → Option Bool) (e : Option Bool) (g : FuncId) (a : List AV) (h : Heap) (k : KR) : Option Bool := match g, a, h with
  | 18, [(.ptr [0, 0] 0 0), (.d ⟨(.int .i64), n332⟩)], [([0, 0], ⟨44, 4, (.mix [(.agg [(.ref [0, 1]), (.d ⟨(.int .i64), n333⟩), (.d ⟨.bool, b334⟩), (.d ⟨.bool, b335⟩)])])⟩), ([0, 1], ⟨5, 1, (.data (.int .u8) ns336)⟩)] => F n332 n333 b334 b335 ns336 (fun y0 y1 y2 y3 y4 => k (.d ⟨(.int .i64), y0⟩) [([0, 0], ⟨44, 4, (.mix [(.agg [(.ref [0, 1]), (.d ⟨(.int .i64), y1⟩), (.d ⟨.bool, y2⟩), (.d ⟨.bool, y3⟩)])])⟩), ([0, 1], ⟨5, 1, (.data (.int .u8) y4)⟩)])
  | _, _, _ => e
noncomputable def octet_Reader_Num.calls (F0 : Int → Int → Bool → Bool → (List Int) → (Int → Int → Bool → Bool → (List Int) → (List Int) → Option Bool) → (Int → Nat → Nat → Int → Bool → Bool → (List Int) → Option Bool) → Option Bool) : RecF := fun g a h k => (octet_number.get F0 none g a h k)
noncomputable def octet_Reader_Num.loops : LoopF := fun b => none
set_option maxRecDepth 100000 in
theorem octet_Reader_Num.eq (F0 : Int → Int → Bool → Bool → (List Int) → (Int → Int → Bool → Bool → (List Int) → (List Int) → Option Bool) → (Int → Nat → Nat → Int → Bool → Bool → (List Int) → Option Bool) → Option Bool) (n332 : Int) (n333 : Int) (b334 : Bool) (b335 : Bool) (ns336 : List Int) (k : KR) : execL Try.prog ht 18 (callfOf (octet_Reader_Num.calls F0)) (octet_Reader_Num.loops) 0 (codeOf Try.f18) ⟨[(.ptr [0, 0] 0 0), (.d ⟨(.int .i64), n332⟩)] ++ List.replicate (Try.f18.ntmps - ([(.ptr [0, 0] 0 0), (.d ⟨(.int .i64), n332⟩)] : List AV).length) .undef, [([0, 0], ⟨44, 4, (.mix [(.agg [(.ref [0, 1]), (.d ⟨(.int .i64), n333⟩), (.d ⟨.bool, b334⟩), (.d ⟨.bool, b335⟩)])])⟩), ([0, 1], ⟨5, 1, (.data (.int .u8) ns336)⟩)], 2⟩ (leave Try.prog Try.f18 k) = octet_Reader_Num.body F0 n332 n333 b334 b335 ns336 (fun y0 y1 y2 y3 y4 => k (.d ⟨(.int .i64), y0⟩) [([0, 0], ⟨44, 4, (.mix [(.agg [(.ref [0, 1]), (.d ⟨(.int .i64), y1⟩), (.d ⟨.bool, y2⟩), (.d ⟨.bool, y3⟩)])])⟩), ([0, 1], ⟨5, 1, (.data (.int .u8) y4)⟩)]) := by kernel_rfl
theorem octet_Reader_Num.ok (d : Nat) (hd : 4 ≤ d) (n332 : Int) (n333 : Int) (b334 : Bool) (b335 : Bool) (ns336 : List Int) (k : KR) (hx : octet_Reader_Num n332 n333 b334 b335 ns336 (fun y0 y1 y2 y3 y4 => k (.d ⟨(.int .i64), y0⟩) [([0, 0], ⟨44, 4, (.mix [(.agg [(.ref [0, 1]), (.d ⟨(.int .i64), y1⟩), (.d ⟨.bool, y2⟩), (.d ⟨.bool, y3⟩)])])⟩), ([0, 1], ⟨5, 1, (.data (.int .u8) y4)⟩)]) = some true) : callK Try.prog ht d 18 [(.ptr [0, 0] 0 0), (.d ⟨(.int .i64), n332⟩)] [([0, 0], ⟨44, 4, (.mix [(.agg [(.ref [0, 1]), (.d ⟨(.int .i64), n333⟩), (.d ⟨.bool, b334⟩), (.d ⟨.bool, b335⟩)])])⟩), ([0, 1], ⟨5, 1, (.data (.int .u8) ns336)⟩)] k = some true := by
  obtain ⟨d, rfl⟩ : ∃ e, d = e + 1 := ⟨d - 1, by omega⟩
  exact fn_ok (c := codeOf Try.f18) Try.func18 (by kernel_rfl) (rec := octet_Reader_Num.calls octet_number) (fun g a h k hx => by
    rcases octet_number.look d (by omega) hx with hx | hx
    rotate_left
    · exact hx
    cases hx) (loopf := octet_Reader_Num.loops) (by
    have e : loopsOf (octet_Reader_Num.loops) 0 (codeOf Try.f18) = [] := by kernel_rfl
    rw [e]
    intro p hp
    cases hp) ((octet_Reader_Num.eq octet_number n332 n333 b334 b335 ns336 k).trans hx)
theorem octet_Reader_Num.look (d : Nat) (hd : 4 ≤ d) {e : Option Bool} {g : FuncId} {a : List AV} {h : Heap} {k : KR} (hx : octet_Reader_Num.get octet_Reader_Num e g a h k = some true) : e = some true ∨ callK Try.prog ht d g a h k = some true := by
  unfold octet_Reader_Num.get at hx
  split at hx
  · exact .inr (octet_Reader_Num.ok d hd _ _ _ _ _ _ hx)
  · exact .inl hx
/-- function 20: (*sheerleg/octet.Reader).At -/
noncomputable def octet_Reader_At.body (n355 : Int) (b356 : Bool) (b357 : Bool) (ns358 : List Int) (k1 : Int → Int → Bool → Bool → (List Int) → Option Bool) : Option Bool :=
  (k1 n355 n355 b356 b357 ns358)
noncomputable def octet_Reader_At (n355 : Int) (b356 : Bool) (b357 : Bool) (ns358 : List Int) (k1 : Int → Int → Bool → Bool → (List Int) → Option Bool) : Option Bool := octet_Reader_At.body n355 b356 b357 ns358 k1
noncomputable def octet_Reader_At.get (F : Int → Bool → Bool → (List Int) → (Int → Int → Bool → Bool → (List Int) → Option Bool) → Option Bool) (e : Option Bool) (g : FuncId) (a : List AV) (h : Heap) (k : KR) : Option Bool := match g, a, h with
  | 20, [(.ptr [0, 0] 0 0)], [([0, 0], ⟨44, 4, (.mix [(.agg [(.ref [0, 1]), (.d ⟨(.int .i64), n355⟩), (.d ⟨.bool, b356⟩), (.d ⟨.bool, b357⟩)])])⟩), ([0, 1], ⟨5, 1, (.data (.int .u8) ns358)⟩)] => F n355 b356 b357 ns358 (fun y0 y1 y2 y3 y4 => k (.d ⟨(.int .i64), y0⟩) [([0, 0], ⟨44, 4, (.mix [(.agg [(.ref [0, 1]), (.d ⟨(.int .i64), y1⟩), (.d ⟨.bool, y2⟩), (.d ⟨.bool, y3⟩)])])⟩), ([0, 1], ⟨5, 1, (.data (.int .u8) y4)⟩)])
  | _, _, _ => e
noncomputable def octet_Reader_At.calls : RecF := fun g a h k => none
noncomputable def octet_Reader_At.loops : LoopF := fun b => none
set_option maxRecDepth 100000 in
theorem octet_Reader_At.eq (n355 : Int) (b356 : Bool) (b357 : Bool) (ns358 : List Int) (k : KR) : execL Try.prog ht 20 (callfOf (octet_Reader_At.calls)) (octet_Reader_At.loops) 0 (codeOf Try.f20) ⟨[(.ptr [0, 0] 0 0)] ++ List.replicate (Try.f20.ntmps - ([(.ptr [0, 0] 0 0)] : List AV).length) .undef, [([0, 0], ⟨44, 4, (.mix [(.agg [(.ref [0, 1]), (.d ⟨(.int .i64), n355⟩), (.d ⟨.bool, b356⟩), (.d ⟨.bool, b357⟩)])])⟩), ([0, 1], ⟨5, 1, (.data (.int .u8) ns358)⟩)], 2⟩ (leave Try.prog Try.f20 k) = octet_Reader_At.body n355 b356 b357 ns358 (fun y0 y1 y2 y3 y4 => k (.d ⟨(.int .i64), y0⟩) [([0, 0], ⟨44, 4, (.mix [(.agg [(.ref [0, 1]), (.d ⟨(.int .i64), y1⟩), (.d ⟨.bool, y2⟩), (.d ⟨.bool, y3⟩)])])⟩), ([0, 1], ⟨5, 1, (.data (.int .u8) y4)⟩)]) := by kernel_rfl
theorem octet_Reader_At.ok (d : Nat) (hd : 1 ≤ d) (n355 : Int) (b356 : Bool) (b357 : Bool) (ns358 : List Int) (k : KR) (hx : octet_Reader_At n355 b356 b357 ns358 (fun y0 y1 y2 y3 y4 => k (.d ⟨(.int .i64), y0⟩) [([0, 0], ⟨44, 4, (.mix [(.agg [(.ref [0, 1]), (.d ⟨(.int .i64), y1⟩), (.d ⟨.bool, y2⟩), (.d ⟨.bool, y3⟩)])])⟩), ([0, 1], ⟨5, 1, (.data (.int .u8) y4)⟩)]) = some true) : callK Try.prog ht d 20 [(.ptr [0, 0] 0 0)] [([0, 0], ⟨44, 4, (.mix [(.agg [(.ref [0, 1]), (.d ⟨(.int .i64), n355⟩), (.d ⟨.bool, b356⟩), (.d ⟨.bool, b357⟩)])])⟩), ([0, 1], ⟨5, 1, (.data (.int .u8) ns358)⟩)] k = some true := by
  obtain ⟨d, rfl⟩ : ∃ e, d = e + 1 := ⟨d - 1, by omega⟩
  exact fn_ok (c := codeOf Try.f20) Try.func20 (by kernel_rfl) (rec := octet_Reader_At.calls) (fun g a h k hx => by
    cases hx) (loopf := octet_Reader_At.loops) (by
    have e : loopsOf (octet_Reader_At.loops) 0 (codeOf Try.f20) = [] := by kernel_rfl
    rw [e]
    intro p hp
    cases hp) ((octet_Reader_At.eq n355 b356 b357 ns358 k).trans hx)
theorem octet_Reader_At.look (d : Nat) (hd : 1 ≤ d) {e : Option Bool} {g : FuncId} {a : List AV} {h : Heap} {k : KR} (hx : octet_Reader_At.get octet_Reader_At e g a h k = some true) : e = some true ∨ callK Try.prog ht d g a h k = some true := by
  unfold octet_Reader_At.get at hx
  split at hx
  · exact .inr (octet_Reader_At.ok d hd _ _ _ _ _ hx)
  · exact .inl hx
/-- function 19: sheerleg/sheerlegref02.Next -/
noncomputable def ref02_Next.body (ref02_Num : ((List Int) × Int × Bool × Unit) → Int → Bool → (((List Int) × Int × Bool × Unit) → Int → Option Bool) → Option Bool) (t394 : (List Int) × Int × Bool × Unit) (n395 : Int) (k1 : ((List Int) × Int × Bool × Unit) → ByteArray → Option Bool) : Option Bool :=
  (ref02_Num t394 (1 : Int) false
  (fun t396 n397 => (cond_ (! t396.2.2.1) (cond_ (! (decide (n397 > n395))) (cond_ (decide (n397 > (IntKind.wrap .i64 ((((List.length t396.1) : Nat) : Int) - t396.2.1)))) (k1 ((t394.1, (t394.2.1, (true, ()))).1, ((t394.1, (t394.2.1, (true, ()))).2.1, (true, ()))) (⟨#[]⟩ : ByteArray)) (cond_ (((decide ((0 : Int) ≤ t396.2.1)) && (decide (t396.2.1 ≤ (IntKind.wrap .i64 (t396.2.1 + n397))))) && (decide ((IntKind.wrap .i64 (t396.2.1 + n397)) ≤ (((List.length t396.1) : Nat) : Int)))) (k1 (t396.1, ((IntKind.wrap .i64 (t396.2.1 + n397)), (t396.2.2.1, ()))) (strOf (List.take (Int.toNat ((IntKind.wrap .i64 (t396.2.1 + n397)) - t396.2.1)) (List.drop (Int.toNat t396.2.1) t396.1)))) none)) (k1 ((t394.1, (t394.2.1, (true, ()))).1, ((t394.1, (t394.2.1, (true, ()))).2.1, (true, ()))) (⟨#[]⟩ : ByteArray))) (k1 ((t394.1, (t394.2.1, (true, ()))).1, ((t394.1, (t394.2.1, (true, ()))).2.1, (true, ()))) (⟨#[]⟩ : ByteArray)))))
noncomputable def ref02_Next (t394 : (List Int) × Int × Bool × Unit) (n395 : Int) (k1 : ((List Int) × Int × Bool × Unit) → ByteArray → Option Bool) : Option Bool := ref02_Next.body ref02_Num t394 n395 k1
noncomputable def ref02_Next.get (F : ((List Int) × Int × Bool × Unit) → Int → (((List Int) × Int × Bool × Unit) → ByteArray → Option Bool) → Option Bool) (e : Option Bool) (g : FuncId) (a : List AV) (h : Heap) (k : KR) : Option Bool := match g, a, h with
  | 19, [(.d ⟨(.st [(.sl 5 (.int .u8)), (.int .i64), .bool]), t394⟩), (.d ⟨(.int .i64), n395⟩)], [] => F t394 n395 (fun y0 y1 => k (.tup [(.d ⟨(.st [(.sl 5 (.int .u8)), (.int .i64), .bool]), y0⟩), (.d ⟨.str, y1⟩)]) [])
  | _, _, _ => e
noncomputable def ref02_Next.calls (F0 : ((List Int) × Int × Bool × Unit) → Int → Bool → (((List Int) × Int × Bool × Unit) → Int → Option Bool) → Option Bool) : RecF := fun g a h k => (ref02_Num.get F0 none g a h k)
noncomputable def ref02_Next.loops : LoopF := fun b => none
set_option maxRecDepth 100000 in
theorem ref02_Next.eq (F0 : ((List Int) × Int × Bool × Unit) → Int → Bool → (((List Int) × Int × Bool × Unit) → Int → Option Bool) → Option Bool) (t394 : (List Int) × Int × Bool × Unit) (n395 : Int) (k : KR) : execL Try.prog ht 19 (callfOf (ref02_Next.calls F0)) (ref02_Next.loops) 0 (codeOf Try.f19) ⟨[(.d ⟨(.st [(.sl 5 (.int .u8)), (.int .i64), .bool]), t394⟩), (.d ⟨(.int .i64), n395⟩)] ++ List.replicate (Try.f19.ntmps - ([(.d ⟨(.st [(.sl 5 (.int .u8)), (.int .i64), .bool]), t394⟩), (.d ⟨(.int .i64), n395⟩)] : List AV).length) .undef, [], 2⟩ (leave Try.prog Try.f19 k) = ref02_Next.body F0 t394 n395 (fun y0 y1 => k (.tup [(.d ⟨(.st [(.sl 5 (.int .u8)), (.int .i64), .bool]), y0⟩), (.d ⟨.str, y1⟩)]) []) := by kernel_rfl
theorem ref02_Next.ok (d : Nat) (hd : 2 ≤ d) (t394 : (List Int) × Int × Bool × Unit) (n395 : Int) (k : KR) (hx : ref02_Next t394 n395 (fun y0 y1 => k (.tup [(.d ⟨(.st [(.sl 5 (.int .u8)), (.int .i64), .bool]), y0⟩), (.d ⟨.str, y1⟩)]) []) = some true) : callK Try.prog ht d 19 [(.d ⟨(.st [(.sl 5 (.int .u8)), (.int .i64), .bool]), t394⟩), (.d ⟨(.int .i64), n395⟩)] [] k = some true := by
  obtain ⟨d, rfl⟩ : ∃ e, d = e + 1 := ⟨d - 1, by omega⟩
  exact fn_ok (c := codeOf Try.f19) Try.func19 (by kernel_rfl) (rec := ref02_Next.calls ref02_Num) (fun g a h k hx => by
    rcases ref02_Num.look d (by omega) hx with hx | hx
    rotate_left
    · exact hx
    cases hx) (loopf := ref02_Next.loops) (by
    have e : loopsOf (ref02_Next.loops) 0 (codeOf Try.f19) = [] := by kernel_rfl
    rw [e]
    intro p hp
    cases hp) ((ref02_Next.eq ref02_Num t394 n395 k).trans hx)
theorem ref02_Next.look (d : Nat) (hd : 2 ≤ d) {e : Option Bool} {g : FuncId} {a : List AV} {h : Heap} {k : KR} (hx : ref02_Next.get ref02_Next e g a h k = some true) : e = some true ∨ callK Try.prog ht d g a h k = some true := by
  unfold ref02_Next.get at hx
  split at hx
  · exact .inr (ref02_Next.ok d hd _ _ _ hx)
  · exact .inl hx
/-- function 5: the loop in block 0 -/
noncomputable def law02_OctetReads_L0.body (law02_OctetReads_L0 : (List Int) → (List (Int × Int × Unit)) → Int → Int → Bool → Bool → (List Int) → (List Int) → Int → Bool → (Bool → Option Bool) → (Option Bool) → Option Bool) (ref02_Num : ((List Int) × Int × Bool × Unit) → Int → Bool → (((List Int) × Int × Bool × Unit) → Int → Option Bool) → Option Bool) (octet_Reader_Num : Int → Int → Bool → Bool → (List Int) → (Int → Int → Bool → Bool → (List Int) → Option Bool) → Option Bool) (octet_Reader_At : Int → Bool → Bool → (List Int) → (Int → Int → Bool → Bool → (List Int) → Option Bool) → Option Bool) (octet_Reader_Left : Int → Bool → Bool → (List Int) → (Int → Int → Bool → Bool → (List Int) → Option Bool) → Option Bool) (octet_Reader_Bad : Int → Bool → Bool → (List Int) → (Bool → Int → Bool → Bool → (List Int) → Option Bool) → Option Bool) (octet_Reader_Signed : Int → Int → Bool → Bool → (List Int) → (Int → Int → Bool → Bool → (List Int) → Option Bool) → Option Bool) (ref02_Next : ((List Int) × Int × Bool × Unit) → Int → (((List Int) × Int × Bool × Unit) → ByteArray → Option Bool) → Option Bool) (octet_Reader_Text : Int → Int → Bool → Bool → (List Int) → (ByteArray → Int → Bool → Bool → (List Int) → Option Bool) → Option Bool) (ns291 : List Int) (ts292 : List (Int × Int × Unit)) (n293 : Int) (n294 : Int) (b295 : Bool) (b296 : Bool) (ns297 : List Int) (l298 : List Int) (n299 : Int) (b300 : Bool) (k1 : Bool → Option Bool) (k2 : Option Bool) : Option Bool :=
  (cond_ (decide (n293 < (((List.length ts292) : Nat) : Int))) (cond_ ((decide ((0 : Int) ≤ n293)) && (decide (n293 < (((List.length ts292) : Nat) : Int)))) (cond_ (! ((List.getD ts292 (Int.toNat n293) ((0 : Int), ((0 : Int), ()))).1 == (0 : Int))) (cond_ ((decide ((0 : Int) ≤ n293)) && (decide (n293 < (((List.length ts292) : Nat) : Int)))) (cond_ ((List.getD ts292 (Int.toNat n293) ((0 : Int), ((0 : Int), ()))).1 == (1 : Int)) (cond_ ((decide ((0 : Int) ≤ n293)) && (decide (n293 < (((List.length ts292) : Nat) : Int)))) (cond_ ((decide ((0 : Int) ≤ n293)) && (decide (n293 < (((List.length ts292) : Nat) : Int)))) (ref02_Num (l298, (n299, (b300, ()))) (List.getD ts292 (Int.toNat n293) ((0 : Int), ((0 : Int), ()))).2.1 ((List.getD ts292 (Int.toNat n293) ((0 : Int), ((0 : Int), ()))).1 == (1 : Int))
  (fun t330 n331 => (cond_ ((decide ((0 : Int) ≤ n293)) && (decide (n293 < (((List.length ts292) : Nat) : Int)))) (cond_ ((List.getD ts292 (Int.toNat n293) ((0 : Int), ((0 : Int), ()))).1 == (0 : Int)) (cond_ ((decide ((0 : Int) ≤ n293)) && (decide (n293 < (((List.length ts292) : Nat) : Int)))) (octet_Reader_Num (List.getD ts292 (Int.toNat n293) ((0 : Int), ((0 : Int), ()))).2.1 n294 b295 b296 ns297
  (fun n350 n351 b352 b353 ns354 => (cond_ (n350 != n331) (k1 false) (octet_Reader_At n351 b352 b353 ns354
  (fun n359 n360 b361 b362 ns363 => (cond_ (! (n359 != t330.2.1)) (octet_Reader_Left n360 b361 b362 ns363
  (fun n364 n365 b366 b367 ns368 => (cond_ (! (n364 != (IntKind.wrap .i64 ((((List.length ns291) : Nat) : Int) - t330.2.1)))) (octet_Reader_Bad n365 b366 b367 ns368
  (fun b369 n370 b371 b372 ns373 => (cond_ (! (b369 == t330.2.2.1)) (k1 false) (law02_OctetReads_L0 ns291 ts292 (IntKind.wrap .i64 (n293 + (1 : Int))) n370 b371 b372 ns373 t330.1 t330.2.1 t330.2.2.1 k1 k2)))) (k1 false)))) (k1 false))))))) none) (cond_ ((decide ((0 : Int) ≤ n293)) && (decide (n293 < (((List.length ts292) : Nat) : Int)))) (octet_Reader_Signed (List.getD ts292 (Int.toNat n293) ((0 : Int), ((0 : Int), ()))).2.1 n294 b295 b296 ns297
  (fun n374 n375 b376 b377 ns378 => (cond_ (n374 != n331) (k1 false) (octet_Reader_At n375 b376 b377 ns378
  (fun n379 n380 b381 b382 ns383 => (cond_ (! (n379 != t330.2.1)) (octet_Reader_Left n380 b381 b382 ns383
  (fun n384 n385 b386 b387 ns388 => (cond_ (! (n384 != (IntKind.wrap .i64 ((((List.length ns291) : Nat) : Int) - t330.2.1)))) (octet_Reader_Bad n385 b386 b387 ns388
  (fun b389 n390 b391 b392 ns393 => (cond_ (! (b389 == t330.2.2.1)) (k1 false) (law02_OctetReads_L0 ns291 ts292 (IntKind.wrap .i64 (n293 + (1 : Int))) n390 b391 b392 ns393 t330.1 t330.2.1 t330.2.2.1 k1 k2)))) (k1 false)))) (k1 false))))))) none)) none))) none) none) (cond_ ((decide ((0 : Int) ≤ n293)) && (decide (n293 < (((List.length ts292) : Nat) : Int)))) (ref02_Next (l298, (n299, (b300, ()))) (List.getD ts292 (Int.toNat n293) ((0 : Int), ((0 : Int), ()))).2.1
  (fun t398 s399 => (cond_ ((decide ((0 : Int) ≤ n293)) && (decide (n293 < (((List.length ts292) : Nat) : Int)))) (octet_Reader_Text (List.getD ts292 (Int.toNat n293) ((0 : Int), ((0 : Int), ()))).2.1 n294 b295 b296 ns297
  (fun s400 n401 b402 b403 ns404 => (cond_ (! ((ByteArray.toList s400) == (ByteArray.toList s399))) (k1 false) (octet_Reader_At n401 b402 b403 ns404
  (fun n405 n406 b407 b408 ns409 => (cond_ (! (n405 != t398.2.1)) (octet_Reader_Left n406 b407 b408 ns409
  (fun n410 n411 b412 b413 ns414 => (cond_ (! (n410 != (IntKind.wrap .i64 ((((List.length ns291) : Nat) : Int) - t398.2.1)))) (octet_Reader_Bad n411 b412 b413 ns414
  (fun b415 n416 b417 b418 ns419 => (cond_ (! (b415 == t398.2.2.1)) (k1 false) (law02_OctetReads_L0 ns291 ts292 (IntKind.wrap .i64 (n293 + (1 : Int))) n416 b417 b418 ns419 t398.1 t398.2.1 t398.2.2.1 k1 k2)))) (k1 false)))) (k1 false))))))) none))) none)) none) (cond_ ((decide ((0 : Int) ≤ n293)) && (decide (n293 < (((List.length ts292) : Nat) : Int)))) (cond_ ((decide ((0 : Int) ≤ n293)) && (decide (n293 < (((List.length ts292) : Nat) : Int)))) (ref02_Num (l298, (n299, (b300, ()))) (List.getD ts292 (Int.toNat n293) ((0 : Int), ((0 : Int), ()))).2.1 ((List.getD ts292 (Int.toNat n293) ((0 : Int), ((0 : Int), ()))).1 == (1 : Int))
  (fun t420 n421 => (cond_ ((decide ((0 : Int) ≤ n293)) && (decide (n293 < (((List.length ts292) : Nat) : Int)))) (cond_ ((List.getD ts292 (Int.toNat n293) ((0 : Int), ((0 : Int), ()))).1 == (0 : Int)) (cond_ ((decide ((0 : Int) ≤ n293)) && (decide (n293 < (((List.length ts292) : Nat) : Int)))) (octet_Reader_Num (List.getD ts292 (Int.toNat n293) ((0 : Int), ((0 : Int), ()))).2.1 n294 b295 b296 ns297
  (fun n422 n423 b424 b425 ns426 => (cond_ (n422 != n421) (k1 false) (octet_Reader_At n423 b424 b425 ns426
  (fun n427 n428 b429 b430 ns431 => (cond_ (! (n427 != t420.2.1)) (octet_Reader_Left n428 b429 b430 ns431
  (fun n432 n433 b434 b435 ns436 => (cond_ (! (n432 != (IntKind.wrap .i64 ((((List.length ns291) : Nat) : Int) - t420.2.1)))) (octet_Reader_Bad n433 b434 b435 ns436
  (fun b437 n438 b439 b440 ns441 => (cond_ (! (b437 == t420.2.2.1)) (k1 false) (law02_OctetReads_L0 ns291 ts292 (IntKind.wrap .i64 (n293 + (1 : Int))) n438 b439 b440 ns441 t420.1 t420.2.1 t420.2.2.1 k1 k2)))) (k1 false)))) (k1 false))))))) none) (cond_ ((decide ((0 : Int) ≤ n293)) && (decide (n293 < (((List.length ts292) : Nat) : Int)))) (octet_Reader_Signed (List.getD ts292 (Int.toNat n293) ((0 : Int), ((0 : Int), ()))).2.1 n294 b295 b296 ns297
  (fun n442 n443 b444 b445 ns446 => (cond_ (n442 != n421) (k1 false) (octet_Reader_At n443 b444 b445 ns446
  (fun n447 n448 b449 b450 ns451 => (cond_ (! (n447 != t420.2.1)) (octet_Reader_Left n448 b449 b450 ns451
  (fun n452 n453 b454 b455 ns456 => (cond_ (! (n452 != (IntKind.wrap .i64 ((((List.length ns291) : Nat) : Int) - t420.2.1)))) (octet_Reader_Bad n453 b454 b455 ns456
  (fun b457 n458 b459 b460 ns461 => (cond_ (! (b457 == t420.2.2.1)) (k1 false) (law02_OctetReads_L0 ns291 ts292 (IntKind.wrap .i64 (n293 + (1 : Int))) n458 b459 b460 ns461 t420.1 t420.2.1 t420.2.2.1 k1 k2)))) (k1 false)))) (k1 false))))))) none)) none))) none) none)) none) (k2))
noncomputable def law02_OctetReads_L0 : Nat → (List Int) → (List (Int × Int × Unit)) → Int → Int → Bool → Bool → (List Int) → (List Int) → Int → Bool → (Bool → Option Bool) → (Option Bool) → Option Bool
  | 0 => fun _ _ _ _ _ _ _ _ _ _ _ _ => none
  | n + 1 => law02_OctetReads_L0.body (law02_OctetReads_L0 n) ref02_Num octet_Reader_Num octet_Reader_At octet_Reader_Left octet_Reader_Bad octet_Reader_Signed ref02_Next octet_Reader_Text
noncomputable def law02_OctetReads_L0.get (F : (List Int) → (List (Int × Int × Unit)) → Int → Int → Bool → Bool → (List Int) → (List Int) → Int → Bool → (Bool → Option Bool) → (Option Bool) → Option Bool) (e : Option Bool) (st : St) (k : KE) : Option Bool := match st with
  | ⟨sl, hp, m⟩ => match Nat.beq m 2, pickS 129 [0, 1, 5, 6, 7] sl, hp with
    | true, some [(.bv 0 5 (.int .u8) ns291), (.bv 0 37 (.st [(.int .i64), (.int .i64)]) ts292), (.ptr [1, 0] 0 0), (.ptr [1, 2] 0 0), (.d ⟨(.int .i64), n293⟩)], [([1, 0], ⟨44, 4, (.mix [(.agg [(.ref [1, 1]), (.d ⟨(.int .i64), n294⟩), (.d ⟨.bool, b295⟩), (.d ⟨.bool, b296⟩)])])⟩), ([1, 1], ⟨5, 1, (.data (.int .u8) ns297)⟩), ([1, 2], ⟨35, 3, (.mix [(.agg [(.d ⟨(.sl 5 (.int .u8)), l298⟩), (.d ⟨(.int .i64), n299⟩), (.d ⟨.bool, b300⟩)])])⟩)] => F ns291 ts292 n293 n294 b295 b296 ns297 l298 n299 b300 (fun y0 => k .ret ⟨fillS 129 [4] [(.d ⟨.bool, y0⟩)], [], 2⟩) (k (.exit 0) ⟨fillS 129 [] [], [], 2⟩)
    | _, _, _ => e
noncomputable def law02_OctetReads_L0.calls (F0 : ((List Int) × Int × Bool × Unit) → Int → Bool → (((List Int) × Int × Bool × Unit) → Int → Option Bool) → Option Bool) (F1 : Int → Int → Bool → Bool → (List Int) → (Int → Int → Bool → Bool → (List Int) → Option Bool) → Option Bool) (F2 : Int → Bool → Bool → (List Int) → (Int → Int → Bool → Bool → (List Int) → Option Bool) → Option Bool) (F3 : Int → Bool → Bool → (List Int) → (Int → Int → Bool → Bool → (List Int) → Option Bool) → Option Bool) (F4 : Int → Bool → Bool → (List Int) → (Bool → Int → Bool → Bool → (List Int) → Option Bool) → Option Bool) (F5 : Int → Int → Bool → Bool → (List Int) → (Int → Int → Bool → Bool → (List Int) → Option Bool) → Option Bool) (F6 : ((List Int) × Int × Bool × Unit) → Int → (((List Int) × Int × Bool × Unit) → ByteArray → Option Bool) → Option Bool) (F7 : Int → Int → Bool → Bool → (List Int) → (ByteArray → Int → Bool → Bool → (List Int) → Option Bool) → Option Bool) : RecF := fun g a h k => (ref02_Num.get F0 (octet_Reader_Num.get F1 (octet_Reader_At.get F2 (octet_Reader_Left.get F3 (octet_Reader_Bad.get F4 (octet_Reader_Signed.get F5 (ref02_Next.get F6 (octet_Reader_Text.get F7 none g a h k) g a h k) g a h k) g a h k) g a h k) g a h k) g a h k) g a h k)
noncomputable def law02_OctetReads_L0.loops : LoopF := fun b => none
set_option maxRecDepth 100000 in
theorem law02_OctetReads_L0.step (S : (List Int) → (List (Int × Int × Unit)) → Int → Int → Bool → Bool → (List Int) → (List Int) → Int → Bool → (Bool → Option Bool) → (Option Bool) → Option Bool) (F0 : ((List Int) × Int × Bool × Unit) → Int → Bool → (((List Int) × Int × Bool × Unit) → Int → Option Bool) → Option Bool) (F1 : Int → Int → Bool → Bool → (List Int) → (Int → Int → Bool → Bool → (List Int) → Option Bool) → Option Bool) (F2 : Int → Bool → Bool → (List Int) → (Int → Int → Bool → Bool → (List Int) → Option Bool) → Option Bool) (F3 : Int → Bool → Bool → (List Int) → (Int → Int → Bool → Bool → (List Int) → Option Bool) → Option Bool) (F4 : Int → Bool → Bool → (List Int) → (Bool → Int → Bool → Bool → (List Int) → Option Bool) → Option Bool) (F5 : Int → Int → Bool → Bool → (List Int) → (Int → Int → Bool → Bool → (List Int) → Option Bool) → Option Bool) (F6 : ((List Int) × Int × Bool × Unit) → Int → (((List Int) × Int × Bool × Unit) → ByteArray → Option Bool) → Option Bool) (F7 : Int → Int → Bool → Bool → (List Int) → (ByteArray → Int → Bool → Bool → (List Int) → Option Bool) → Option Bool) (ns291 : List Int) (ts292 : List (Int × Int × Unit)) (n293 : Int) (n294 : Int) (b295 : Bool) (b296 : Bool) (ns297 : List Int) (l298 : List Int) (n299 : Int) (b300 : Bool) (k : KE) : execL Try.prog ht 5 (callfOf (law02_OctetReads_L0.calls F0 F1 F2 F3 F4 F5 F6 F7)) (law02_OctetReads_L0.loops) 0 (loopAt 0 (codeOf Try.f5)) ⟨fillS 129 [0, 1, 5, 6, 7] [(.bv 0 5 (.int .u8) ns291), (.bv 0 37 (.st [(.int .i64), (.int .i64)]) ts292), (.ptr [1, 0] 0 0), (.ptr [1, 2] 0 0), (.d ⟨(.int .i64), n293⟩)], [([1, 0], ⟨44, 4, (.mix [(.agg [(.ref [1, 1]), (.d ⟨(.int .i64), n294⟩), (.d ⟨.bool, b295⟩), (.d ⟨.bool, b296⟩)])])⟩), ([1, 1], ⟨5, 1, (.data (.int .u8) ns297)⟩), ([1, 2], ⟨35, 3, (.mix [(.agg [(.d ⟨(.sl 5 (.int .u8)), l298⟩), (.d ⟨(.int .i64), n299⟩), (.d ⟨.bool, b300⟩)])])⟩)], 2⟩ (again (law02_OctetReads_L0.get S none) (plan Try.prog (ht 5 0)) k) = law02_OctetReads_L0.body S F0 F1 F2 F3 F4 F5 F6 F7 ns291 ts292 n293 n294 b295 b296 ns297 l298 n299 b300 (fun y0 => k .ret ⟨fillS 129 [4] [(.d ⟨.bool, y0⟩)], [], 2⟩) (k (.exit 0) ⟨fillS 129 [] [], [], 2⟩) := by kernel_rfl
theorem law02_OctetReads_L0.ok (d : Nat) (hd : 4 ≤ d) : ∀ n st k, law02_OctetReads_L0.get (law02_OctetReads_L0 n) none st k = some true → iter n (plan Try.prog (ht 5 0)) (fun st k => execK Try.prog ht 5 (callfOf (callK Try.prog ht d)) 0 (loopAt 0 (codeOf Try.f5)) st k) st k = some true :=
  loop_ok (lfn := fun n st k => law02_OctetReads_L0.get (law02_OctetReads_L0 n) none st k) (rec := law02_OctetReads_L0.calls ref02_Num octet_Reader_Num octet_Reader_At octet_Reader_Left octet_Reader_Bad octet_Reader_Signed ref02_Next octet_Reader_Text) (fun g a h k hx => by
    rcases ref02_Num.look d (by omega) hx with hx | hx
    rotate_left
    · exact hx
    rcases octet_Reader_Num.look d (by omega) hx with hx | hx
    rotate_left
    · exact hx
    rcases octet_Reader_At.look d (by omega) hx with hx | hx
    rotate_left
    · exact hx
    rcases octet_Reader_Left.look d (by omega) hx with hx | hx
    rotate_left
    · exact hx
    rcases octet_Reader_Bad.look d (by omega) hx with hx | hx
    rotate_left
    · exact hx
    rcases octet_Reader_Signed.look d (by omega) hx with hx | hx
    rotate_left
    · exact hx
    rcases ref02_Next.look d (by omega) hx with hx | hx
    rotate_left
    · exact hx
    rcases octet_Reader_Text.look d (by omega) hx with hx | hx
    rotate_left
    · exact hx
    cases hx) (loopf := law02_OctetReads_L0.loops) (by
    have e : loopsOf (law02_OctetReads_L0.loops) 0 (loopAt 0 (codeOf Try.f5)) = [] := by kernel_rfl
    rw [e]
    intro p hp
    cases hp) (fun st k h => by
    obtain ⟨sl, hp, m⟩ := st
    unfold law02_OctetReads_L0.get at h
    dsimp only at h
    split at h
    · have h' : (none : Option Bool) = some true := h
      cases h'
    · cases h) (fun n st k h => by
    obtain ⟨sl, hp, m⟩ := st
    unfold law02_OctetReads_L0.get at h
    dsimp only at h
    split at h
    · rename_i h1 h2
      obtain rfl := pickS_ok h2
      obtain rfl := Nat.eq_of_beq_eq_true h1
      exact (law02_OctetReads_L0.step (law02_OctetReads_L0 n) ref02_Num octet_Reader_Num octet_Reader_At octet_Reader_Left octet_Reader_Bad octet_Reader_Signed ref02_Next octet_Reader_Text _ _ _ _ _ _ _ _ _ _ k).trans h
    · cases h)
theorem law02_OctetReads_L0.look {F : (List Int) → (List (Int × Int × Unit)) → Int → Int → Bool → Bool → (List Int) → (List Int) → Int → Bool → (Bool → Option Bool) → (Option Bool) → Option Bool} {e : Option Bool} {st : St} {k : KE} (hx : law02_OctetReads_L0.get F e st k = some true) : e = some true ∨ law02_OctetReads_L0.get F none st k = some true := by
  obtain ⟨sl, hp, m⟩ := st
  unfold law02_OctetReads_L0.get at hx ⊢
  dsimp only at hx ⊢
  split at hx
  · exact .inr hx
  · exact .inl hx
/-- function 5: sheerleg/sheerleglaw02.OctetReads -/
noncomputable def law02_OctetReads.body (law02_known : (Bool → Option Bool) → Option Bool) (octet_Newv1 : (List Int) → (Int → Bool → Bool → (List Int) → Option Bool) → Option Bool) (law02_OctetReads_L0 : (List Int) → (List (Int × Int × Unit)) → Int → Int → Bool → Bool → (List Int) → (List Int) → Int → Bool → (Bool → Option Bool) → (Option Bool) → Option Bool) (ns283 : List Int) (ts284 : List (Int × Int × Unit)) (k1 : Bool → Option Bool) : Option Bool :=
  (cond_ (! (decide ((((List.length ns283) : Nat) : Int) > (600 : Int)))) (cond_ (decide ((((List.length ts284) : Nat) : Int) > (60 : Int))) (law02_known
  (fun b285 => (k1 b285))) (octet_Newv1 ns283
  (fun n287 b288 b289 ns290 => (law02_OctetReads_L0 ns283 ts284 (0 : Int) n287 b288 b289 ns290 ns283 (0 : Int) false
  (fun b462 => (k1 b462))
  (law02_known
  (fun b463 => (k1 b463))))))) (law02_known
  (fun b464 => (k1 b464))))
noncomputable def law02_OctetReads (ns283 : List Int) (ts284 : List (Int × Int × Unit)) (k1 : Bool → Option Bool) : Option Bool := law02_OctetReads.body law02_known octet_Newv1 (law02_OctetReads_L0 ROUNDS) ns283 ts284 k1
noncomputable def law02_OctetReads.get (F : (List Int) → (List (Int × Int × Unit)) → (Bool → Option Bool) → Option Bool) (e : Option Bool) (g : FuncId) (a : List AV) (h : Heap) (k : KR) : Option Bool := match g, a, h with
  | 5, [(.bv 0 5 (.int .u8) ns283), (.bv 0 37 (.st [(.int .i64), (.int .i64)]) ts284)], [] => F ns283 ts284 (fun y0 => k (.d ⟨.bool, y0⟩) [])
  | _, _, _ => e
noncomputable def law02_OctetReads.calls (F0 : (Bool → Option Bool) → Option Bool) (F1 : (List Int) → (Int → Bool → Bool → (List Int) → Option Bool) → Option Bool) : RecF := fun g a h k => (law02_known.get F0 (octet_Newv1.get F1 none g a h k) g a h k)
noncomputable def law02_OctetReads.loops (L0 : (List Int) → (List (Int × Int × Unit)) → Int → Int → Bool → Bool → (List Int) → (List Int) → Int → Bool → (Bool → Option Bool) → (Option Bool) → Option Bool) : LoopF := fun b => match Nat.beq b 0 with | true => some (fun st k => (law02_OctetReads_L0.get L0 none st k)) | false => none
set_option maxRecDepth 100000 in
theorem law02_OctetReads.eq (F0 : (Bool → Option Bool) → Option Bool) (F1 : (List Int) → (Int → Bool → Bool → (List Int) → Option Bool) → Option Bool) (L0 : (List Int) → (List (Int × Int × Unit)) → Int → Int → Bool → Bool → (List Int) → (List Int) → Int → Bool → (Bool → Option Bool) → (Option Bool) → Option Bool) (ns283 : List Int) (ts284 : List (Int × Int × Unit)) (k : KR) : execL Try.prog ht 5 (callfOf (law02_OctetReads.calls F0 F1)) (law02_OctetReads.loops L0) 0 (codeOf Try.f5) ⟨[(.bv 0 5 (.int .u8) ns283), (.bv 0 37 (.st [(.int .i64), (.int .i64)]) ts284)] ++ List.replicate (Try.f5.ntmps - ([(.bv 0 5 (.int .u8) ns283), (.bv 0 37 (.st [(.int .i64), (.int .i64)]) ts284)] : List AV).length) .undef, [], 2⟩ (leave Try.prog Try.f5 k) = law02_OctetReads.body F0 F1 L0 ns283 ts284 (fun y0 => k (.d ⟨.bool, y0⟩) []) := by kernel_rfl
theorem law02_OctetReads.ok (d : Nat) (hd : 61 ≤ d) (ns283 : List Int) (ts284 : List (Int × Int × Unit)) (k : KR) (hx : law02_OctetReads ns283 ts284 (fun y0 => k (.d ⟨.bool, y0⟩) []) = some true) : callK Try.prog ht d 5 [(.bv 0 5 (.int .u8) ns283), (.bv 0 37 (.st [(.int .i64), (.int .i64)]) ts284)] [] k = some true := by
  obtain ⟨d, rfl⟩ : ∃ e, d = e + 1 := ⟨d - 1, by omega⟩
  exact fn_ok (c := codeOf Try.f5) Try.func5 (by kernel_rfl) (rec := law02_OctetReads.calls law02_known octet_Newv1) (fun g a h k hx => by
    rcases law02_known.look d (by omega) hx with hx | hx
    rotate_left
    · exact hx
    rcases octet_Newv1.look d (by omega) hx with hx | hx
    rotate_left
    · exact hx
    cases hx) (loopf := law02_OctetReads.loops (law02_OctetReads_L0 ROUNDS)) (by
    have e : loopsOf (law02_OctetReads.loops (law02_OctetReads_L0 ROUNDS)) 0 (codeOf Try.f5) = [(0, loopAt 0 (codeOf Try.f5))] := by kernel_rfl
    rw [e]
    intro p hp
    simp only [List.mem_cons, List.not_mem_nil, or_false] at hp
    rcases hp with rfl
    · refine loopRef_of (callf := callfOf (callK Try.prog ht d)) (callfOf_ref (callK_mono d)) fun lf st k hb hx => ?_
      cases hb
      rcases law02_OctetReads_L0.look hx with hx | hx
      rotate_left
      · exact law02_OctetReads_L0.ok d (by omega) _ _ _ hx
      cases hx) ((law02_OctetReads.eq law02_known octet_Newv1 (law02_OctetReads_L0 ROUNDS) ns283 ts284 k).trans hx)
theorem law02_OctetReads.look (d : Nat) (hd : 61 ≤ d) {e : Option Bool} {g : FuncId} {a : List AV} {h : Heap} {k : KR} (hx : law02_OctetReads.get law02_OctetReads e g a h k = some true) : e = some true ∨ callK Try.prog ht d g a h k = some true := by
  unfold law02_OctetReads.get at hx
  split at hx
  · exact .inr (law02_OctetReads.ok d hd _ _ _ hx)
  · exact .inl hx
/-- function 16: (*sheerleg/octet.Reader).Bad -/
noncomputable def octet_Reader_Badv1.body (k1 : Bool → Option Bool) : Option Bool :=
  (k1 true)
noncomputable def octet_Reader_Badv1 (k1 : Bool → Option Bool) : Option Bool := octet_Reader_Badv1.body k1
noncomputable def octet_Reader_Badv1.get (F : (Bool → Option Bool) → Option Bool) (e : Option Bool) (g : FuncId) (a : List AV) (h : Heap) (k : KR) : Option Bool := match g, a, h with
  | 16, [.nilp], [] => F (fun y0 => k (.d ⟨.bool, y0⟩) [])
  | _, _, _ => e
noncomputable def octet_Reader_Badv1.calls : RecF := fun g a h k => none
noncomputable def octet_Reader_Badv1.loops : LoopF := fun b => none
set_option maxRecDepth 100000 in
theorem octet_Reader_Badv1.eq (k : KR) : execL Try.prog ht 16 (callfOf (octet_Reader_Badv1.calls)) (octet_Reader_Badv1.loops) 0 (codeOf Try.f16) ⟨[.nilp] ++ List.replicate (Try.f16.ntmps - ([.nilp] : List AV).length) .undef, [], 2⟩ (leave Try.prog Try.f16 k) = octet_Reader_Badv1.body (fun y0 => k (.d ⟨.bool, y0⟩) []) := by kernel_rfl
theorem octet_Reader_Badv1.ok (d : Nat) (hd : 1 ≤ d) (k : KR) (hx : octet_Reader_Badv1 (fun y0 => k (.d ⟨.bool, y0⟩) []) = some true) : callK Try.prog ht d 16 [.nilp] [] k = some true := by
  obtain ⟨d, rfl⟩ : ∃ e, d = e + 1 := ⟨d - 1, by omega⟩
  exact fn_ok (c := codeOf Try.f16) Try.func16 (by kernel_rfl) (rec := octet_Reader_Badv1.calls) (fun g a h k hx => by
    cases hx) (loopf := octet_Reader_Badv1.loops) (by
    have e : loopsOf (octet_Reader_Badv1.loops) 0 (codeOf Try.f16) = [] := by kernel_rfl
    rw [e]
    intro p hp
    cases hp) ((octet_Reader_Badv1.eq k).trans hx)
theorem octet_Reader_Badv1.look (d : Nat) (hd : 1 ≤ d) {e : Option Bool} {g : FuncId} {a : List AV} {h : Heap} {k : KR} (hx : octet_Reader_Badv1.get octet_Reader_Badv1 e g a h k = some true) : e = some true ∨ callK Try.prog ht d g a h k = some true := by
  unfold octet_Reader_Badv1.get at hx
  split at hx
  · exact .inr (octet_Reader_Badv1.ok d hd _ hx)
  · exact .inl hx
/-- function 15: (*sheerleg/octet.Reader).Left -/
noncomputable def octet_Reader_Leftv1.body (k1 : Int → Option Bool) : Option Bool :=
  (k1 (0 : Int))
noncomputable def octet_Reader_Leftv1 (k1 : Int → Option Bool) : Option Bool := octet_Reader_Leftv1.body k1
noncomputable def octet_Reader_Leftv1.get (F : (Int → Option Bool) → Option Bool) (e : Option Bool) (g : FuncId) (a : List AV) (h : Heap) (k : KR) : Option Bool := match g, a, h with
  | 15, [.nilp], [] => F (fun y0 => k (.d ⟨(.int .i64), y0⟩) [])
  | _, _, _ => e
noncomputable def octet_Reader_Leftv1.calls : RecF := fun g a h k => none
noncomputable def octet_Reader_Leftv1.loops : LoopF := fun b => none
set_option maxRecDepth 100000 in
theorem octet_Reader_Leftv1.eq (k : KR) : execL Try.prog ht 15 (callfOf (octet_Reader_Leftv1.calls)) (octet_Reader_Leftv1.loops) 0 (codeOf Try.f15) ⟨[.nilp] ++ List.replicate (Try.f15.ntmps - ([.nilp] : List AV).length) .undef, [], 2⟩ (leave Try.prog Try.f15 k) = octet_Reader_Leftv1.body (fun y0 => k (.d ⟨(.int .i64), y0⟩) []) := by kernel_rfl
theorem octet_Reader_Leftv1.ok (d : Nat) (hd : 1 ≤ d) (k : KR) (hx : octet_Reader_Leftv1 (fun y0 => k (.d ⟨(.int .i64), y0⟩) []) = some true) : callK Try.prog ht d 15 [.nilp] [] k = some true := by
  obtain ⟨d, rfl⟩ : ∃ e, d = e + 1 := ⟨d - 1, by omega⟩
  exact fn_ok (c := codeOf Try.f15) Try.func15 (by kernel_rfl) (rec := octet_Reader_Leftv1.calls) (fun g a h k hx => by
    cases hx) (loopf := octet_Reader_Leftv1.loops) (by
    have e : loopsOf (octet_Reader_Leftv1.loops) 0 (codeOf Try.f15) = [] := by kernel_rfl
    rw [e]
    intro p hp
    cases hp) ((octet_Reader_Leftv1.eq k).trans hx)
theorem octet_Reader_Leftv1.look (d : Nat) (hd : 1 ≤ d) {e : Option Bool} {g : FuncId} {a : List AV} {h : Heap} {k : KR} (hx : octet_Reader_Leftv1.get octet_Reader_Leftv1 e g a h k = some true) : e = some true ∨ callK Try.prog ht d g a h k = some true := by
  unfold octet_Reader_Leftv1.get at hx
  split at hx
  · exact .inr (octet_Reader_Leftv1.ok d hd _ hx)
  · exact .inl hx
/-- function 23: (*sheerleg/octet.Reader).spoil -/
noncomputable def octet_Reader_spoilv1.body (k1 : Option Bool) : Option Bool :=
  (k1)
noncomputable def octet_Reader_spoilv1 (k1 : Option Bool) : Option Bool := octet_Reader_spoilv1.body k1
noncomputable def octet_Reader_spoilv1.get (F : (Option Bool) → Option Bool) (e : Option Bool) (g : FuncId) (a : List AV) (h : Heap) (k : KR) : Option Bool := match g, a, h with
  | 23, [.nilp], [] => F (k (.tup []) [])
  | _, _, _ => e
noncomputable def octet_Reader_spoilv1.calls : RecF := fun g a h k => none
noncomputable def octet_Reader_spoilv1.loops : LoopF := fun b => none
set_option maxRecDepth 100000 in
theorem octet_Reader_spoilv1.eq (k : KR) : execL Try.prog ht 23 (callfOf (octet_Reader_spoilv1.calls)) (octet_Reader_spoilv1.loops) 0 (codeOf Try.f23) ⟨[.nilp] ++ List.replicate (Try.f23.ntmps - ([.nilp] : List AV).length) .undef, [], 2⟩ (leave Try.prog Try.f23 k) = octet_Reader_spoilv1.body (k (.tup []) []) := by kernel_rfl
theorem octet_Reader_spoilv1.ok (d : Nat) (hd : 1 ≤ d) (k : KR) (hx : octet_Reader_spoilv1 (k (.tup []) []) = some true) : callK Try.prog ht d 23 [.nilp] [] k = some true := by
  obtain ⟨d, rfl⟩ : ∃ e, d = e + 1 := ⟨d - 1, by omega⟩
  exact fn_ok (c := codeOf Try.f23) Try.func23 (by kernel_rfl) (rec := octet_Reader_spoilv1.calls) (fun g a h k hx => by
    cases hx) (loopf := octet_Reader_spoilv1.loops) (by
    have e : loopsOf (octet_Reader_spoilv1.loops) 0 (codeOf Try.f23) = [] := by kernel_rfl
    rw [e]
    intro p hp
    cases hp) ((octet_Reader_spoilv1.eq k).trans hx)
theorem octet_Reader_spoilv1.look (d : Nat) (hd : 1 ≤ d) {e : Option Bool} {g : FuncId} {a : List AV} {h : Heap} {k : KR} (hx : octet_Reader_spoilv1.get octet_Reader_spoilv1 e g a h k = some true) : e = some true ∨ callK Try.prog ht d g a h k = some true := by
  unfold octet_Reader_spoilv1.get at hx
  split at hx
  · exact .inr (octet_Reader_spoilv1.ok d hd _ hx)
  · exact .inl hx
/-- function 22: (*sheerleg/octet.Reader).take -/
noncomputable def octet_Reader_takev1.body (octet_Reader_Badv1 : (Bool → Option Bool) → Option Bool) (octet_Reader_Leftv1 : (Int → Option Bool) → Option Bool) (octet_Reader_spoilv1 : (Option Bool) → Option Bool) (n469 : Int) (k1 : (List Int) → Option Bool) : Option Bool :=
  (octet_Reader_Badv1
  (fun b470 => (cond_ (! b470) (cond_ (! (decide (n469 < (0 : Int)))) (octet_Reader_Leftv1
  (fun n471 => (cond_ (decide (n469 > n471)) (octet_Reader_spoilv1
  (k1 [])) none))) (octet_Reader_spoilv1
  (k1 []))) (octet_Reader_spoilv1
  (k1 [])))))
noncomputable def octet_Reader_takev1 (n469 : Int) (k1 : (List Int) → Option Bool) : Option Bool := octet_Reader_takev1.body octet_Reader_Badv1 octet_Reader_Leftv1 octet_Reader_spoilv1 n469 k1
noncomputable def octet_Reader_takev1.get (F : Int → ((List Int) → Option Bool) → Option Bool) (e : Option Bool) (g : FuncId) (a : List AV) (h : Heap) (k : KR) : Option Bool := match g, a, h with
  | 22, [.nilp, (.d ⟨(.int .i64), n469⟩)], [] => F n469 (fun y0 => k (.ref [1, 0]) [([1, 0], ⟨5, 1, (.data (.int .u8) y0)⟩)])
  | _, _, _ => e
noncomputable def octet_Reader_takev1.calls (F0 : (Bool → Option Bool) → Option Bool) (F1 : (Int → Option Bool) → Option Bool) (F2 : (Option Bool) → Option Bool) : RecF := fun g a h k => (octet_Reader_Badv1.get F0 (octet_Reader_Leftv1.get F1 (octet_Reader_spoilv1.get F2 none g a h k) g a h k) g a h k)
noncomputable def octet_Reader_takev1.loops : LoopF := fun b => none
set_option maxRecDepth 100000 in
theorem octet_Reader_takev1.eq (F0 : (Bool → Option Bool) → Option Bool) (F1 : (Int → Option Bool) → Option Bool) (F2 : (Option Bool) → Option Bool) (n469 : Int) (k : KR) : execL Try.prog ht 22 (callfOf (octet_Reader_takev1.calls F0 F1 F2)) (octet_Reader_takev1.loops) 0 (codeOf Try.f22) ⟨[.nilp, (.d ⟨(.int .i64), n469⟩)] ++ List.replicate (Try.f22.ntmps - ([.nilp, (.d ⟨(.int .i64), n469⟩)] : List AV).length) .undef, [], 2⟩ (leave Try.prog Try.f22 k) = octet_Reader_takev1.body F0 F1 F2 n469 (fun y0 => k (.ref [1, 0]) [([1, 0], ⟨5, 1, (.data (.int .u8) y0)⟩)]) := by kernel_rfl
theorem octet_Reader_takev1.ok (d : Nat) (hd : 2 ≤ d) (n469 : Int) (k : KR) (hx : octet_Reader_takev1 n469 (fun y0 => k (.ref [1, 0]) [([1, 0], ⟨5, 1, (.data (.int .u8) y0)⟩)]) = some true) : callK Try.prog ht d 22 [.nilp, (.d ⟨(.int .i64), n469⟩)] [] k = some true := by
  obtain ⟨d, rfl⟩ : ∃ e, d = e + 1 := ⟨d - 1, by omega⟩
  exact fn_ok (c := codeOf Try.f22) Try.func22 (by kernel_rfl) (rec := octet_Reader_takev1.calls octet_Reader_Badv1 octet_Reader_Leftv1 octet_Reader_spoilv1) (fun g a h k hx => by
    rcases octet_Reader_Badv1.look d (by omega) hx with hx | hx
    rotate_left
    · exact hx
    rcases octet_Reader_Leftv1.look d (by omega) hx with hx | hx
    rotate_left
    · exact hx
    rcases octet_Reader_spoilv1.look d (by omega) hx with hx | hx
    rotate_left
    · exact hx
    cases hx) (loopf := octet_Reader_takev1.loops) (by
    have e : loopsOf (octet_Reader_takev1.loops) 0 (codeOf Try.f22) = [] := by kernel_rfl
    rw [e]
    intro p hp
    cases hp) ((octet_Reader_takev1.eq octet_Reader_Badv1 octet_Reader_Leftv1 octet_Reader_spoilv1 n469 k).trans hx)
theorem octet_Reader_takev1.look (d : Nat) (hd : 2 ≤ d) {e : Option Bool} {g : FuncId} {a : List AV} {h : Heap} {k : KR} (hx : octet_Reader_takev1.get octet_Reader_takev1 e g a h k = some true) : e = some true ∨ callK Try.prog ht d g a h k = some true := by
  unfold octet_Reader_takev1.get at hx
  split at hx
  · exact .inr (octet_Reader_takev1.ok d hd _ _ hx)
  · exact .inl hx
/-- function 21: the loop in block 0 -/
noncomputable def octet_numberv1_L0.body (octet_numberv1_L0 : Int → Int → Int → (List Int) → (Int → (List Int) → Option Bool) → Option Bool) (n473 : Int) (n474 : Int) (n475 : Int) (ns476 : List Int) (k1 : Int → (List Int) → Option Bool) : Option Bool :=
  (cond_ (decide (n475 < n474)) (cond_ ((decide ((0 : Int) ≤ n475)) && (decide (n475 < (((List.length ns476) : Nat) : Int)))) (octet_numberv1_L0 (IntKind.wrap .i64 (((@BitVec.toNat (64 : Nat) ((@BitVec.ofInt (64 : Nat) (IntKind.wrap .i64 (n473 * (256 : Int)))) ||| (@BitVec.ofInt (64 : Nat) (IntKind.wrap .i64 (List.getD ns476 (Int.toNat n475) (0 : Int)))))) : Nat) : Int)) n474 (IntKind.wrap .i64 (n475 + (1 : Int))) ns476 k1) none) (k1 n473 ns476))
noncomputable def octet_numberv1_L0 : Nat → Int → Int → Int → (List Int) → (Int → (List Int) → Option Bool) → Option Bool
  | 0 => fun _ _ _ _ _ => none
  | n + 1 => octet_numberv1_L0.body (octet_numberv1_L0 n)
noncomputable def octet_numberv1_L0.get (F : Int → Int → Int → (List Int) → (Int → (List Int) → Option Bool) → Option Bool) (e : Option Bool) (st : St) (k : KE) : Option Bool := match st with
  | ⟨sl, hp, m⟩ => match Nat.beq m 2, pickS 33 [6, 7, 19, 20, 21] sl, hp with
    | true, some [(.d ⟨(.int .i64), n473⟩), (.ref [1, 0]), (.ref [1, 0]), (.d ⟨(.int .i64), n474⟩), (.d ⟨(.int .i64), n475⟩)], [([1, 0], ⟨5, 1, (.data (.int .u8) ns476)⟩)] => F n473 n474 n475 ns476 (fun y0 y1 => k (.exit 0) ⟨fillS 33 [6, 7] [(.d ⟨(.int .i64), y0⟩), (.ref [1, 0])], [([1, 0], ⟨5, 1, (.data (.int .u8) y1)⟩)], 2⟩)
    | _, _, _ => e
noncomputable def octet_numberv1_L0.calls : RecF := fun g a h k => none
noncomputable def octet_numberv1_L0.loops : LoopF := fun b => none
set_option maxRecDepth 100000 in
theorem octet_numberv1_L0.step (S : Int → Int → Int → (List Int) → (Int → (List Int) → Option Bool) → Option Bool) (n473 : Int) (n474 : Int) (n475 : Int) (ns476 : List Int) (k : KE) : execL Try.prog ht 21 (callfOf (octet_numberv1_L0.calls)) (octet_numberv1_L0.loops) 0 (loopAt 0 (codeOf Try.f21)) ⟨fillS 33 [6, 7, 19, 20, 21] [(.d ⟨(.int .i64), n473⟩), (.ref [1, 0]), (.ref [1, 0]), (.d ⟨(.int .i64), n474⟩), (.d ⟨(.int .i64), n475⟩)], [([1, 0], ⟨5, 1, (.data (.int .u8) ns476)⟩)], 2⟩ (again (octet_numberv1_L0.get S none) (plan Try.prog (ht 21 0)) k) = octet_numberv1_L0.body S n473 n474 n475 ns476 (fun y0 y1 => k (.exit 0) ⟨fillS 33 [6, 7] [(.d ⟨(.int .i64), y0⟩), (.ref [1, 0])], [([1, 0], ⟨5, 1, (.data (.int .u8) y1)⟩)], 2⟩) := by kernel_rfl
theorem octet_numberv1_L0.ok (d : Nat) (hd : 0 ≤ d) : ∀ n st k, octet_numberv1_L0.get (octet_numberv1_L0 n) none st k = some true → iter n (plan Try.prog (ht 21 0)) (fun st k => execK Try.prog ht 21 (callfOf (callK Try.prog ht d)) 0 (loopAt 0 (codeOf Try.f21)) st k) st k = some true :=
  loop_ok (lfn := fun n st k => octet_numberv1_L0.get (octet_numberv1_L0 n) none st k) (rec := octet_numberv1_L0.calls) (fun g a h k hx => by
    cases hx) (loopf := octet_numberv1_L0.loops) (by
    have e : loopsOf (octet_numberv1_L0.loops) 0 (loopAt 0 (codeOf Try.f21)) = [] := by kernel_rfl
    rw [e]
    intro p hp
    cases hp) (fun st k h => by
    obtain ⟨sl, hp, m⟩ := st
    unfold octet_numberv1_L0.get at h
    dsimp only at h
    split at h
    · have h' : (none : Option Bool) = some true := h
      cases h'
    · cases h) (fun n st k h => by
    obtain ⟨sl, hp, m⟩ := st
    unfold octet_numberv1_L0.get at h
    dsimp only at h
    split at h
    · rename_i h1 h2
      obtain rfl := pickS_ok h2
      obtain rfl := Nat.eq_of_beq_eq_true h1
      exact (octet_numberv1_L0.step (octet_numberv1_L0 n) _ _ _ _ k).trans h
    · cases h)
theorem octet_numberv1_L0.look {F : Int → Int → Int → (List Int) → (Int → (List Int) → Option Bool) → Option Bool} {e : Option Bool} {st : St} {k : KE} (hx : octet_numberv1_L0.get F e st k = some true) : e = some true ∨ octet_numberv1_L0.get F none st k = some true := by
  obtain ⟨sl, hp, m⟩ := st
  unfold octet_numberv1_L0.get at hx ⊢
  dsimp only at hx ⊢
  split at hx
  · exact .inr hx
  · exact .inl hx
/-- function 21: sheerleg/octet.number -/
noncomputable def octet_numberv1.body (octet_Reader_takev1 : Int → ((List Int) → Option Bool) → Option Bool) (octet_numberv1_L0 : Int → Int → Int → (List Int) → (Int → (List Int) → Option Bool) → Option Bool) (n468 : Int) (k1 : Int → (List Int) → Option Bool) : Option Bool :=
  (cond_ (! (decide (n468 < (1 : Int)))) (cond_ (decide (n468 > (8 : Int))) (octet_Reader_takev1 (-1 : Int)
  (fun ns472 => (octet_numberv1_L0 (0 : Int) (((List.length ns472) : Nat) : Int) (0 : Int) ns472
  (fun n477 ns478 => (k1 n477 ns478))))) (octet_Reader_takev1 n468
  (fun ns479 => (octet_numberv1_L0 (0 : Int) (((List.length ns479) : Nat) : Int) (0 : Int) ns479
  (fun n480 ns481 => (k1 n480 ns481)))))) (octet_Reader_takev1 (-1 : Int)
  (fun ns482 => (octet_numberv1_L0 (0 : Int) (((List.length ns482) : Nat) : Int) (0 : Int) ns482
  (fun n483 ns484 => (k1 n483 ns484))))))
noncomputable def octet_numberv1 (n468 : Int) (k1 : Int → (List Int) → Option Bool) : Option Bool := octet_numberv1.body octet_Reader_takev1 (octet_numberv1_L0 ROUNDS) n468 k1
noncomputable def octet_numberv1.get (F : Int → (Int → (List Int) → Option Bool) → Option Bool) (e : Option Bool) (g : FuncId) (a : List AV) (h : Heap) (k : KR) : Option Bool := match g, a, h with
  | 21, [(.fn (.func 22) [.nilp] []), (.d ⟨(.int .i64), n468⟩)], [] => F n468 (fun y0 y1 => k (.tup [(.d ⟨(.int .i64), y0⟩), (.ref [1, 0])]) [([1, 0], ⟨5, 1, (.data (.int .u8) y1)⟩)])
  | _, _, _ => e
noncomputable def octet_numberv1.calls (F0 : Int → ((List Int) → Option Bool) → Option Bool) : RecF := fun g a h k => (octet_Reader_takev1.get F0 none g a h k)
noncomputable def octet_numberv1.loops (L0 : Int → Int → Int → (List Int) → (Int → (List Int) → Option Bool) → Option Bool) : LoopF := fun b => match Nat.beq b 0 with | true => some (fun st k => (octet_numberv1_L0.get L0 none st k)) | false => none
set_option maxRecDepth 100000 in
theorem octet_numberv1.eq (F0 : Int → ((List Int) → Option Bool) → Option Bool) (L0 : Int → Int → Int → (List Int) → (Int → (List Int) → Option Bool) → Option Bool) (n468 : Int) (k : KR) : execL Try.prog ht 21 (callfOf (octet_numberv1.calls F0)) (octet_numberv1.loops L0) 0 (codeOf Try.f21) ⟨[(.fn (.func 22) [.nilp] []), (.d ⟨(.int .i64), n468⟩)] ++ List.replicate (Try.f21.ntmps - ([(.fn (.func 22) [.nilp] []), (.d ⟨(.int .i64), n468⟩)] : List AV).length) .undef, [], 2⟩ (leave Try.prog Try.f21 k) = octet_numberv1.body F0 L0 n468 (fun y0 y1 => k (.tup [(.d ⟨(.int .i64), y0⟩), (.ref [1, 0])]) [([1, 0], ⟨5, 1, (.data (.int .u8) y1)⟩)]) := by kernel_rfl
theorem octet_numberv1.ok (d : Nat) (hd : 3 ≤ d) (n468 : Int) (k : KR) (hx : octet_numberv1 n468 (fun y0 y1 => k (.tup [(.d ⟨(.int .i64), y0⟩), (.ref [1, 0])]) [([1, 0], ⟨5, 1, (.data (.int .u8) y1)⟩)]) = some true) : callK Try.prog ht d 21 [(.fn (.func 22) [.nilp] []), (.d ⟨(.int .i64), n468⟩)] [] k = some true := by
  obtain ⟨d, rfl⟩ : ∃ e, d = e + 1 := ⟨d - 1, by omega⟩
  exact fn_ok (c := codeOf Try.f21) Try.func21 (by kernel_rfl) (rec := octet_numberv1.calls octet_Reader_takev1) (fun g a h k hx => by
    rcases octet_Reader_takev1.look d (by omega) hx with hx | hx
    rotate_left
    · exact hx
    cases hx) (loopf := octet_numberv1.loops (octet_numberv1_L0 ROUNDS)) (by
    have e : loopsOf (octet_numberv1.loops (octet_numberv1_L0 ROUNDS)) 0 (codeOf Try.f21) = [(0, loopAt 0 (codeOf Try.f21))] := by kernel_rfl
    rw [e]
    intro p hp
    simp only [List.mem_cons, List.not_mem_nil, or_false] at hp
    rcases hp with rfl
    · refine loopRef_of (callf := callfOf (callK Try.prog ht d)) (callfOf_ref (callK_mono d)) fun lf st k hb hx => ?_
      cases hb
      rcases octet_numberv1_L0.look hx with hx | hx
      rotate_left
      · exact octet_numberv1_L0.ok d (by omega) _ _ _ hx
      cases hx) ((octet_numberv1.eq octet_Reader_takev1 (octet_numberv1_L0 ROUNDS) n468 k).trans hx)
theorem octet_numberv1.look (d : Nat) (hd : 3 ≤ d) {e : Option Bool} {g : FuncId} {a : List AV} {h : Heap} {k : KR} (hx : octet_numberv1.get octet_numberv1 e g a h k = some true) : e = some true ∨ callK Try.prog ht d g a h k = some true := by
  unfold octet_numberv1.get at hx
  split at hx
  · exact .inr (octet_numberv1.ok d hd _ _ hx)
  · exact .inl hx
/-- function 18: (*sheerleg/octet.Reader).Num -/
noncomputable def octet_Reader_Numv1.body (octet_numberv1 : Int → (Int → (List Int) → Option Bool) → Option Bool) (n467 : Int) (k1 : Int → Option Bool) : Option Bool :=
  (octet_numberv1 n467
  (fun n485 ns486 => (k1 n485)))
noncomputable def octet_Reader_Numv1 (n467 : Int) (k1 : Int → Option Bool) : Option Bool := octet_Reader_Numv1.body octet_numberv1 n467 k1
noncomputable def octet_Reader_Numv1.get (F : Int → (Int → Option Bool) → Option Bool) (e : Option Bool) (g : FuncId) (a : List AV) (h : Heap) (k : KR) : Option Bool := match g, a, h with
  | 18, [.nilp, (.d ⟨(.int .i64), n467⟩)], [] => F n467 (fun y0 => k (.d ⟨(.int .i64), y0⟩) [])
  | _, _, _ => e
noncomputable def octet_Reader_Numv1.calls (F0 : Int → (Int → (List Int) → Option Bool) → Option Bool) : RecF := fun g a h k => (octet_numberv1.get F0 none g a h k)
noncomputable def octet_Reader_Numv1.loops : LoopF := fun b => none
set_option maxRecDepth 100000 in
theorem octet_Reader_Numv1.eq (F0 : Int → (Int → (List Int) → Option Bool) → Option Bool) (n467 : Int) (k : KR) : execL Try.prog ht 18 (callfOf (octet_Reader_Numv1.calls F0)) (octet_Reader_Numv1.loops) 0 (codeOf Try.f18) ⟨[.nilp, (.d ⟨(.int .i64), n467⟩)] ++ List.replicate (Try.f18.ntmps - ([.nilp, (.d ⟨(.int .i64), n467⟩)] : List AV).length) .undef, [], 2⟩ (leave Try.prog Try.f18 k) = octet_Reader_Numv1.body F0 n467 (fun y0 => k (.d ⟨(.int .i64), y0⟩) []) := by kernel_rfl
theorem octet_Reader_Numv1.ok (d : Nat) (hd : 4 ≤ d) (n467 : Int) (k : KR) (hx : octet_Reader_Numv1 n467 (fun y0 => k (.d ⟨(.int .i64), y0⟩) []) = some true) : callK Try.prog ht d 18 [.nilp, (.d ⟨(.int .i64), n467⟩)] [] k = some true := by
  obtain ⟨d, rfl⟩ : ∃ e, d = e + 1 := ⟨d - 1, by omega⟩
  exact fn_ok (c := codeOf Try.f18) Try.func18 (by kernel_rfl) (rec := octet_Reader_Numv1.calls octet_numberv1) (fun g a h k hx => by
    rcases octet_numberv1.look d (by omega) hx with hx | hx
    rotate_left
    · exact hx
    cases hx) (loopf := octet_Reader_Numv1.loops) (by
    have e : loopsOf (octet_Reader_Numv1.loops) 0 (codeOf Try.f18) = [] := by kernel_rfl
    rw [e]
    intro p hp
    cases hp) ((octet_Reader_Numv1.eq octet_numberv1 n467 k).trans hx)
theorem octet_Reader_Numv1.look (d : Nat) (hd : 4 ≤ d) {e : Option Bool} {g : FuncId} {a : List AV} {h : Heap} {k : KR} (hx : octet_Reader_Numv1.get octet_Reader_Numv1 e g a h k = some true) : e = some true ∨ callK Try.prog ht d g a h k = some true := by
  unfold octet_Reader_Numv1.get at hx
  split at hx
  · exact .inr (octet_Reader_Numv1.ok d hd _ _ hx)
  · exact .inl hx
/-- function 16: (*sheerleg/octet.Reader).Bad -/
noncomputable def octet_Reader_Badv2.body (n500 : Int) (b501 : Bool) (b502 : Bool) (k1 : Bool → Int → Bool → Bool → Option Bool) : Option Bool :=
  (cond_ (! (! b501)) (k1 b502 n500 b501 b502) (k1 true n500 b501 b502))
noncomputable def octet_Reader_Badv2 (n500 : Int) (b501 : Bool) (b502 : Bool) (k1 : Bool → Int → Bool → Bool → Option Bool) : Option Bool := octet_Reader_Badv2.body n500 b501 b502 k1
noncomputable def octet_Reader_Badv2.get (F : Int → Bool → Bool → (Bool → Int → Bool → Bool → Option Bool) → Option Bool) (e : Option Bool) (g : FuncId) (a : List AV) (h : Heap) (k : KR) : Option Bool := match g, a, h with
  | 16, [(.ptr [0, 0] 0 0)], [([0, 0], ⟨44, 4, (.mix [(.agg [.nils, (.d ⟨(.int .i64), n500⟩), (.d ⟨.bool, b501⟩), (.d ⟨.bool, b502⟩)])])⟩)] => F n500 b501 b502 (fun y0 y1 y2 y3 => k (.d ⟨.bool, y0⟩) [([0, 0], ⟨44, 4, (.mix [(.agg [.nils, (.d ⟨(.int .i64), y1⟩), (.d ⟨.bool, y2⟩), (.d ⟨.bool, y3⟩)])])⟩)])
  | _, _, _ => e
noncomputable def octet_Reader_Badv2.calls : RecF := fun g a h k => none
noncomputable def octet_Reader_Badv2.loops : LoopF := fun b => none
set_option maxRecDepth 100000 in
theorem octet_Reader_Badv2.eq (n500 : Int) (b501 : Bool) (b502 : Bool) (k : KR) : execL Try.prog ht 16 (callfOf (octet_Reader_Badv2.calls)) (octet_Reader_Badv2.loops) 0 (codeOf Try.f16) ⟨[(.ptr [0, 0] 0 0)] ++ List.replicate (Try.f16.ntmps - ([(.ptr [0, 0] 0 0)] : List AV).length) .undef, [([0, 0], ⟨44, 4, (.mix [(.agg [.nils, (.d ⟨(.int .i64), n500⟩), (.d ⟨.bool, b501⟩), (.d ⟨.bool, b502⟩)])])⟩)], 2⟩ (leave Try.prog Try.f16 k) = octet_Reader_Badv2.body n500 b501 b502 (fun y0 y1 y2 y3 => k (.d ⟨.bool, y0⟩) [([0, 0], ⟨44, 4, (.mix [(.agg [.nils, (.d ⟨(.int .i64), y1⟩), (.d ⟨.bool, y2⟩), (.d ⟨.bool, y3⟩)])])⟩)]) := by kernel_rfl
theorem octet_Reader_Badv2.ok (d : Nat) (hd : 1 ≤ d) (n500 : Int) (b501 : Bool) (b502 : Bool) (k : KR) (hx : octet_Reader_Badv2 n500 b501 b502 (fun y0 y1 y2 y3 => k (.d ⟨.bool, y0⟩) [([0, 0], ⟨44, 4, (.mix [(.agg [.nils, (.d ⟨(.int .i64), y1⟩), (.d ⟨.bool, y2⟩), (.d ⟨.bool, y3⟩)])])⟩)]) = some true) : callK Try.prog ht d 16 [(.ptr [0, 0] 0 0)] [([0, 0], ⟨44, 4, (.mix [(.agg [.nils, (.d ⟨(.int .i64), n500⟩), (.d ⟨.bool, b501⟩), (.d ⟨.bool, b502⟩)])])⟩)] k = some true := by
  obtain ⟨d, rfl⟩ : ∃ e, d = e + 1 := ⟨d - 1, by omega⟩
  exact fn_ok (c := codeOf Try.f16) Try.func16 (by kernel_rfl) (rec := octet_Reader_Badv2.calls) (fun g a h k hx => by
    cases hx) (loopf := octet_Reader_Badv2.loops) (by
    have e : loopsOf (octet_Reader_Badv2.loops) 0 (codeOf Try.f16) = [] := by kernel_rfl
    rw [e]
    intro p hp
    cases hp) ((octet_Reader_Badv2.eq n500 b501 b502 k).trans hx)
theorem octet_Reader_Badv2.look (d : Nat) (hd : 1 ≤ d) {e : Option Bool} {g : FuncId} {a : List AV} {h : Heap} {k : KR} (hx : octet_Reader_Badv2.get octet_Reader_Badv2 e g a h k = some true) : e = some true ∨ callK Try.prog ht d g a h k = some true := by
  unfold octet_Reader_Badv2.get at hx
  split at hx
  · exact .inr (octet_Reader_Badv2.ok d hd _ _ _ _ hx)
  · exact .inl hx
/-- function 15: (*sheerleg/octet.Reader).Left -/
noncomputable def octet_Reader_Leftv2.body (n507 : Int) (b508 : Bool) (b509 : Bool) (k1 : Int → Int → Bool → Bool → Option Bool) : Option Bool :=
  (k1 (IntKind.wrap .i64 ((0 : Int) - n507)) n507 b508 b509)
noncomputable def octet_Reader_Leftv2 (n507 : Int) (b508 : Bool) (b509 : Bool) (k1 : Int → Int → Bool → Bool → Option Bool) : Option Bool := octet_Reader_Leftv2.body n507 b508 b509 k1
noncomputable def octet_Reader_Leftv2.get (F : Int → Bool → Bool → (Int → Int → Bool → Bool → Option Bool) → Option Bool) (e : Option Bool) (g : FuncId) (a : List AV) (h : Heap) (k : KR) : Option Bool := match g, a, h with
  | 15, [(.ptr [0, 0] 0 0)], [([0, 0], ⟨44, 4, (.mix [(.agg [.nils, (.d ⟨(.int .i64), n507⟩), (.d ⟨.bool, b508⟩), (.d ⟨.bool, b509⟩)])])⟩)] => F n507 b508 b509 (fun y0 y1 y2 y3 => k (.d ⟨(.int .i64), y0⟩) [([0, 0], ⟨44, 4, (.mix [(.agg [.nils, (.d ⟨(.int .i64), y1⟩), (.d ⟨.bool, y2⟩), (.d ⟨.bool, y3⟩)])])⟩)])
  | _, _, _ => e
noncomputable def octet_Reader_Leftv2.calls : RecF := fun g a h k => none
noncomputable def octet_Reader_Leftv2.loops : LoopF := fun b => none
set_option maxRecDepth 100000 in
theorem octet_Reader_Leftv2.eq (n507 : Int) (b508 : Bool) (b509 : Bool) (k : KR) : execL Try.prog ht 15 (callfOf (octet_Reader_Leftv2.calls)) (octet_Reader_Leftv2.loops) 0 (codeOf Try.f15) ⟨[(.ptr [0, 0] 0 0)] ++ List.replicate (Try.f15.ntmps - ([(.ptr [0, 0] 0 0)] : List AV).length) .undef, [([0, 0], ⟨44, 4, (.mix [(.agg [.nils, (.d ⟨(.int .i64), n507⟩), (.d ⟨.bool, b508⟩), (.d ⟨.bool, b509⟩)])])⟩)], 2⟩ (leave Try.prog Try.f15 k) = octet_Reader_Leftv2.body n507 b508 b509 (fun y0 y1 y2 y3 => k (.d ⟨(.int .i64), y0⟩) [([0, 0], ⟨44, 4, (.mix [(.agg [.nils, (.d ⟨(.int .i64), y1⟩), (.d ⟨.bool, y2⟩), (.d ⟨.bool, y3⟩)])])⟩)]) := by kernel_rfl
theorem octet_Reader_Leftv2.ok (d : Nat) (hd : 1 ≤ d) (n507 : Int) (b508 : Bool) (b509 : Bool) (k : KR) (hx : octet_Reader_Leftv2 n507 b508 b509 (fun y0 y1 y2 y3 => k (.d ⟨(.int .i64), y0⟩) [([0, 0], ⟨44, 4, (.mix [(.agg [.nils, (.d ⟨(.int .i64), y1⟩), (.d ⟨.bool, y2⟩), (.d ⟨.bool, y3⟩)])])⟩)]) = some true) : callK Try.prog ht d 15 [(.ptr [0, 0] 0 0)] [([0, 0], ⟨44, 4, (.mix [(.agg [.nils, (.d ⟨(.int .i64), n507⟩), (.d ⟨.bool, b508⟩), (.d ⟨.bool, b509⟩)])])⟩)] k = some true := by
  obtain ⟨d, rfl⟩ : ∃ e, d = e + 1 := ⟨d - 1, by omega⟩
  exact fn_ok (c := codeOf Try.f15) Try.func15 (by kernel_rfl) (rec := octet_Reader_Leftv2.calls) (fun g a h k hx => by
    cases hx) (loopf := octet_Reader_Leftv2.loops) (by
    have e : loopsOf (octet_Reader_Leftv2.loops) 0 (codeOf Try.f15) = [] := by kernel_rfl
    rw [e]
    intro p hp
    cases hp) ((octet_Reader_Leftv2.eq n507 b508 b509 k).trans hx)
theorem octet_Reader_Leftv2.look (d : Nat) (hd : 1 ≤ d) {e : Option Bool} {g : FuncId} {a : List AV} {h : Heap} {k : KR} (hx : octet_Reader_Leftv2.get octet_Reader_Leftv2 e g a h k = some true) : e = some true ∨ callK Try.prog ht d g a h k = some true := by
  unfold octet_Reader_Leftv2.get at hx
  split at hx
  · exact .inr (octet_Reader_Leftv2.ok d hd _ _ _ _ hx)
  · exact .inl hx
/-- function 23: (*sheerleg/octet.Reader).spoil -/
noncomputable def octet_Reader_spoilv2.body (n514 : Int) (b515 : Bool) (b516 : Bool) (k1 : Int → Bool → Bool → Option Bool) : Option Bool :=
  (k1 n514 b515 true)
noncomputable def octet_Reader_spoilv2 (n514 : Int) (b515 : Bool) (b516 : Bool) (k1 : Int → Bool → Bool → Option Bool) : Option Bool := octet_Reader_spoilv2.body n514 b515 b516 k1
noncomputable def octet_Reader_spoilv2.get (F : Int → Bool → Bool → (Int → Bool → Bool → Option Bool) → Option Bool) (e : Option Bool) (g : FuncId) (a : List AV) (h : Heap) (k : KR) : Option Bool := match g, a, h with
  | 23, [(.ptr [0, 0] 0 0)], [([0, 0], ⟨44, 4, (.mix [(.agg [.nils, (.d ⟨(.int .i64), n514⟩), (.d ⟨.bool, b515⟩), (.d ⟨.bool, b516⟩)])])⟩)] => F n514 b515 b516 (fun y0 y1 y2 => k (.tup []) [([0, 0], ⟨44, 4, (.mix [(.agg [.nils, (.d ⟨(.int .i64), y0⟩), (.d ⟨.bool, y1⟩), (.d ⟨.bool, y2⟩)])])⟩)])
  | _, _, _ => e
noncomputable def octet_Reader_spoilv2.calls : RecF := fun g a h k => none
noncomputable def octet_Reader_spoilv2.loops : LoopF := fun b => none
set_option maxRecDepth 100000 in
theorem octet_Reader_spoilv2.eq (n514 : Int) (b515 : Bool) (b516 : Bool) (k : KR) : execL Try.prog ht 23 (callfOf (octet_Reader_spoilv2.calls)) (octet_Reader_spoilv2.loops) 0 (codeOf Try.f23) ⟨[(.ptr [0, 0] 0 0)] ++ List.replicate (Try.f23.ntmps - ([(.ptr [0, 0] 0 0)] : List AV).length) .undef, [([0, 0], ⟨44, 4, (.mix [(.agg [.nils, (.d ⟨(.int .i64), n514⟩), (.d ⟨.bool, b515⟩), (.d ⟨.bool, b516⟩)])])⟩)], 2⟩ (leave Try.prog Try.f23 k) = octet_Reader_spoilv2.body n514 b515 b516 (fun y0 y1 y2 => k (.tup []) [([0, 0], ⟨44, 4, (.mix [(.agg [.nils, (.d ⟨(.int .i64), y0⟩), (.d ⟨.bool, y1⟩), (.d ⟨.bool, y2⟩)])])⟩)]) := by kernel_rfl
theorem octet_Reader_spoilv2.ok (d : Nat) (hd : 1 ≤ d) (n514 : Int) (b515 : Bool) (b516 : Bool) (k : KR) (hx : octet_Reader_spoilv2 n514 b515 b516 (fun y0 y1 y2 => k (.tup []) [([0, 0], ⟨44, 4, (.mix [(.agg [.nils, (.d ⟨(.int .i64), y0⟩), (.d ⟨.bool, y1⟩), (.d ⟨.bool, y2⟩)])])⟩)]) = some true) : callK Try.prog ht d 23 [(.ptr [0, 0] 0 0)] [([0, 0], ⟨44, 4, (.mix [(.agg [.nils, (.d ⟨(.int .i64), n514⟩), (.d ⟨.bool, b515⟩), (.d ⟨.bool, b516⟩)])])⟩)] k = some true := by
  obtain ⟨d, rfl⟩ : ∃ e, d = e + 1 := ⟨d - 1, by omega⟩
  exact fn_ok (c := codeOf Try.f23) Try.func23 (by kernel_rfl) (rec := octet_Reader_spoilv2.calls) (fun g a h k hx => by
    cases hx) (loopf := octet_Reader_spoilv2.loops) (by
    have e : loopsOf (octet_Reader_spoilv2.loops) 0 (codeOf Try.f23) = [] := by kernel_rfl
    rw [e]
    intro p hp
    cases hp) ((octet_Reader_spoilv2.eq n514 b515 b516 k).trans hx)
theorem octet_Reader_spoilv2.look (d : Nat) (hd : 1 ≤ d) {e : Option Bool} {g : FuncId} {a : List AV} {h : Heap} {k : KR} (hx : octet_Reader_spoilv2.get octet_Reader_spoilv2 e g a h k = some true) : e = some true ∨ callK Try.prog ht d g a h k = some true := by
  unfold octet_Reader_spoilv2.get at hx
  split at hx
  · exact .inr (octet_Reader_spoilv2.ok d hd _ _ _ _ hx)
  · exact .inl hx
/-- function 22: (*sheerleg/octet.Reader).take -/
noncomputable def octet_Reader_takev2.body (octet_Reader_Badv2 : Int → Bool → Bool → (Bool → Int → Bool → Bool → Option Bool) → Option Bool) (octet_Reader_Leftv2 : Int → Bool → Bool → (Int → Int → Bool → Bool → Option Bool) → Option Bool) (octet_Reader_spoilv2 : Int → Bool → Bool → (Int → Bool → Bool → Option Bool) → Option Bool) (n496 : Int) (n497 : Int) (b498 : Bool) (b499 : Bool) (k1 : Int → Bool → Bool → (List Int) → Option Bool) : Option Bool :=
  (octet_Reader_Badv2 n497 b498 b499
  (fun b503 n504 b505 b506 => (cond_ (! b503) (cond_ (! (decide (n496 < (0 : Int)))) (octet_Reader_Leftv2 n504 b505 b506
  (fun n510 n511 b512 b513 => (cond_ (decide (n496 > n510)) (octet_Reader_spoilv2 n511 b512 b513
  (fun n517 b518 b519 => (k1 n517 b518 b519 []))) (cond_ (((decide ((0 : Int) ≤ (IntKind.wrap .i64 ((IntKind.wrap .i64 (n511 + n496)) - n496)))) && (decide ((IntKind.wrap .i64 ((IntKind.wrap .i64 (n511 + n496)) - n496)) ≤ (IntKind.wrap .i64 (n511 + n496))))) && (decide ((IntKind.wrap .i64 (n511 + n496)) ≤ (0 : Int)))) (k1 (IntKind.wrap .i64 (n511 + n496)) b512 b513 []) none)))) (octet_Reader_spoilv2 n504 b505 b506
  (fun n520 b521 b522 => (k1 n520 b521 b522 [])))) (octet_Reader_spoilv2 n504 b505 b506
  (fun n523 b524 b525 => (k1 n523 b524 b525 []))))))
noncomputable def octet_Reader_takev2 (n496 : Int) (n497 : Int) (b498 : Bool) (b499 : Bool) (k1 : Int → Bool → Bool → (List Int) → Option Bool) : Option Bool := octet_Reader_takev2.body octet_Reader_Badv2 octet_Reader_Leftv2 octet_Reader_spoilv2 n496 n497 b498 b499 k1
noncomputable def octet_Reader_takev2.get (F : Int → Int → Bool → Bool → (Int → Bool → Bool → (List Int) → Option Bool) → Option Bool) (e : Option Bool) (g : FuncId) (a : List AV) (h : Heap) (k : KR) : Option Bool := match g, a, h with
  | 22, [(.ptr [0, 0] 0 0), (.d ⟨(.int .i64), n496⟩)], [([0, 0], ⟨44, 4, (.mix [(.agg [.nils, (.d ⟨(.int .i64), n497⟩), (.d ⟨.bool, b498⟩), (.d ⟨.bool, b499⟩)])])⟩)] => F n496 n497 b498 b499 (fun y0 y1 y2 y3 => k (.ref [1, 0]) [([0, 0], ⟨44, 4, (.mix [(.agg [.nils, (.d ⟨(.int .i64), y0⟩), (.d ⟨.bool, y1⟩), (.d ⟨.bool, y2⟩)])])⟩), ([1, 0], ⟨5, 1, (.data (.int .u8) y3)⟩)])
  | _, _, _ => e
noncomputable def octet_Reader_takev2.calls (F0 : Int → Bool → Bool → (Bool → Int → Bool → Bool → Option Bool) → Option Bool) (F1 : Int → Bool → Bool → (Int → Int → Bool → Bool → Option Bool) → Option Bool) (F2 : Int → Bool → Bool → (Int → Bool → Bool → Option Bool) → Option Bool) : RecF := fun g a h k => (octet_Reader_Badv2.get F0 (octet_Reader_Leftv2.get F1 (octet_Reader_spoilv2.get F2 none g a h k) g a h k) g a h k)
noncomputable def octet_Reader_takev2.loops : LoopF := fun b => none
set_option maxRecDepth 100000 in
theorem octet_Reader_takev2.eq (F0 : Int → Bool → Bool → (Bool → Int → Bool → Bool → Option Bool) → Option Bool) (F1 : Int → Bool → Bool → (Int → Int → Bool → Bool → Option Bool) → Option Bool) (F2 : Int → Bool → Bool → (Int → Bool → Bool → Option Bool) → Option Bool) (n496 : Int) (n497 : Int) (b498 : Bool) (b499 : Bool) (k : KR) : execL Try.prog ht 22 (callfOf (octet_Reader_takev2.calls F0 F1 F2)) (octet_Reader_takev2.loops) 0 (codeOf Try.f22) ⟨[(.ptr [0, 0] 0 0), (.d ⟨(.int .i64), n496⟩)] ++ List.replicate (Try.f22.ntmps - ([(.ptr [0, 0] 0 0), (.d ⟨(.int .i64), n496⟩)] : List AV).length) .undef, [([0, 0], ⟨44, 4, (.mix [(.agg [.nils, (.d ⟨(.int .i64), n497⟩), (.d ⟨.bool, b498⟩), (.d ⟨.bool, b499⟩)])])⟩)], 2⟩ (leave Try.prog Try.f22 k) = octet_Reader_takev2.body F0 F1 F2 n496 n497 b498 b499 (fun y0 y1 y2 y3 => k (.ref [1, 0]) [([0, 0], ⟨44, 4, (.mix [(.agg [.nils, (.d ⟨(.int .i64), y0⟩), (.d ⟨.bool, y1⟩), (.d ⟨.bool, y2⟩)])])⟩), ([1, 0], ⟨5, 1, (.data (.int .u8) y3)⟩)]) := by kernel_rfl
theorem octet_Reader_takev2.ok (d : Nat) (hd : 2 ≤ d) (n496 : Int) (n497 : Int) (b498 : Bool) (b499 : Bool) (k : KR) (hx : octet_Reader_takev2 n496 n497 b498 b499 (fun y0 y1 y2 y3 => k (.ref [1, 0]) [([0, 0], ⟨44, 4, (.mix [(.agg [.nils, (.d ⟨(.int .i64), y0⟩), (.d ⟨.bool, y1⟩), (.d ⟨.bool, y2⟩)])])⟩), ([1, 0], ⟨5, 1, (.data (.int .u8) y3)⟩)]) = some true) : callK Try.prog ht d 22 [(.ptr [0, 0] 0 0), (.d ⟨(.int .i64), n496⟩)] [([0, 0], ⟨44, 4, (.mix [(.agg [.nils, (.d ⟨(.int .i64), n497⟩), (.d ⟨.bool, b498⟩), (.d ⟨.bool, b499⟩)])])⟩)] k = some true := by
  obtain ⟨d, rfl⟩ : ∃ e, d = e + 1 := ⟨d - 1, by omega⟩
  exact fn_ok (c := codeOf Try.f22) Try.func22 (by kernel_rfl) (rec := octet_Reader_takev2.calls octet_Reader_Badv2 octet_Reader_Leftv2 octet_Reader_spoilv2) (fun g a h k hx => by
    rcases octet_Reader_Badv2.look d (by omega) hx with hx | hx
    rotate_left
    · exact hx
    rcases octet_Reader_Leftv2.look d (by omega) hx with hx | hx
    rotate_left
    · exact hx
    rcases octet_Reader_spoilv2.look d (by omega) hx with hx | hx
    rotate_left
    · exact hx
    cases hx) (loopf := octet_Reader_takev2.loops) (by
    have e : loopsOf (octet_Reader_takev2.loops) 0 (codeOf Try.f22) = [] := by kernel_rfl
    rw [e]
    intro p hp
    cases hp) ((octet_Reader_takev2.eq octet_Reader_Badv2 octet_Reader_Leftv2 octet_Reader_spoilv2 n496 n497 b498 b499 k).trans hx)
theorem octet_Reader_takev2.look (d : Nat) (hd : 2 ≤ d) {e : Option Bool} {g : FuncId} {a : List AV} {h : Heap} {k : KR} (hx : octet_Reader_takev2.get octet_Reader_takev2 e g a h k = some true) : e = some true ∨ callK Try.prog ht d g a h k = some true := by
  unfold octet_Reader_takev2.get at hx
  split at hx
  · exact .inr (octet_Reader_takev2.ok d hd _ _ _ _ _ hx)
  · exact .inl hx
/-- function 21: the loop in block 0 -/
noncomputable def octet_numberv2_L0.body (octet_numberv2_L0 : Int → Int → Int → Int → Bool → Bool → (List Int) → (Int → Int → Bool → Bool → (List Int) → Option Bool) → Option Bool) (n530 : Int) (n531 : Int) (n532 : Int) (n533 : Int) (b534 : Bool) (b535 : Bool) (ns536 : List Int) (k1 : Int → Int → Bool → Bool → (List Int) → Option Bool) : Option Bool :=
  (cond_ (decide (n532 < n531)) (cond_ ((decide ((0 : Int) ≤ n532)) && (decide (n532 < (((List.length ns536) : Nat) : Int)))) (octet_numberv2_L0 (IntKind.wrap .i64 (((@BitVec.toNat (64 : Nat) ((@BitVec.ofInt (64 : Nat) (IntKind.wrap .i64 (n530 * (256 : Int)))) ||| (@BitVec.ofInt (64 : Nat) (IntKind.wrap .i64 (List.getD ns536 (Int.toNat n532) (0 : Int)))))) : Nat) : Int)) n531 (IntKind.wrap .i64 (n532 + (1 : Int))) n533 b534 b535 ns536 k1) none) (k1 n530 n533 b534 b535 ns536))
noncomputable def octet_numberv2_L0 : Nat → Int → Int → Int → Int → Bool → Bool → (List Int) → (Int → Int → Bool → Bool → (List Int) → Option Bool) → Option Bool
  | 0 => fun _ _ _ _ _ _ _ _ => none
  | n + 1 => octet_numberv2_L0.body (octet_numberv2_L0 n)
noncomputable def octet_numberv2_L0.get (F : Int → Int → Int → Int → Bool → Bool → (List Int) → (Int → Int → Bool → Bool → (List Int) → Option Bool) → Option Bool) (e : Option Bool) (st : St) (k : KE) : Option Bool := match st with
  | ⟨sl, hp, m⟩ => match Nat.beq m 2, pickS 33 [6, 7, 19, 20, 21] sl, hp with
    | true, some [(.d ⟨(.int .i64), n530⟩), (.ref [1, 0]), (.ref [1, 0]), (.d ⟨(.int .i64), n531⟩), (.d ⟨(.int .i64), n532⟩)], [([0, 0], ⟨44, 4, (.mix [(.agg [.nils, (.d ⟨(.int .i64), n533⟩), (.d ⟨.bool, b534⟩), (.d ⟨.bool, b535⟩)])])⟩), ([1, 0], ⟨5, 1, (.data (.int .u8) ns536)⟩)] => F n530 n531 n532 n533 b534 b535 ns536 (fun y0 y1 y2 y3 y4 => k (.exit 0) ⟨fillS 33 [6, 7] [(.d ⟨(.int .i64), y0⟩), (.ref [1, 0])], [([0, 0], ⟨44, 4, (.mix [(.agg [.nils, (.d ⟨(.int .i64), y1⟩), (.d ⟨.bool, y2⟩), (.d ⟨.bool, y3⟩)])])⟩), ([1, 0], ⟨5, 1, (.data (.int .u8) y4)⟩)], 2⟩)
    | _, _, _ => e
noncomputable def octet_numberv2_L0.calls : RecF := fun g a h k => none
noncomputable def octet_numberv2_L0.loops : LoopF := fun b => none
set_option maxRecDepth 100000 in
theorem octet_numberv2_L0.step (S : Int → Int → Int → Int → Bool → Bool → (List Int) → (Int → Int → Bool → Bool → (List Int) → Option Bool) → Option Bool) (n530 : Int) (n531 : Int) (n532 : Int) (n533 : Int) (b534 : Bool) (b535 : Bool) (ns536 : List Int) (k : KE) : execL Try.prog ht 21 (callfOf (octet_numberv2_L0.calls)) (octet_numberv2_L0.loops) 0 (loopAt 0 (codeOf Try.f21)) ⟨fillS 33 [6, 7, 19, 20, 21] [(.d ⟨(.int .i64), n530⟩), (.ref [1, 0]), (.ref [1, 0]), (.d ⟨(.int .i64), n531⟩), (.d ⟨(.int .i64), n532⟩)], [([0, 0], ⟨44, 4, (.mix [(.agg [.nils, (.d ⟨(.int .i64), n533⟩), (.d ⟨.bool, b534⟩), (.d ⟨.bool, b535⟩)])])⟩), ([1, 0], ⟨5, 1, (.data (.int .u8) ns536)⟩)], 2⟩ (again (octet_numberv2_L0.get S none) (plan Try.prog (ht 21 0)) k) = octet_numberv2_L0.body S n530 n531 n532 n533 b534 b535 ns536 (fun y0 y1 y2 y3 y4 => k (.exit 0) ⟨fillS 33 [6, 7] [(.d ⟨(.int .i64), y0⟩), (.ref [1, 0])], [([0, 0], ⟨44, 4, (.mix [(.agg [.nils, (.d ⟨(.int .i64), y1⟩), (.d ⟨.bool, y2⟩), (.d ⟨.bool, y3⟩)])])⟩), ([1, 0], ⟨5, 1, (.data (.int .u8) y4)⟩)], 2⟩) := by kernel_rfl
theorem octet_numberv2_L0.ok (d : Nat) (hd : 0 ≤ d) : ∀ n st k, octet_numberv2_L0.get (octet_numberv2_L0 n) none st k = some true → iter n (plan Try.prog (ht 21 0)) (fun st k => execK Try.prog ht 21 (callfOf (callK Try.prog ht d)) 0 (loopAt 0 (codeOf Try.f21)) st k) st k = some true :=
  loop_ok (lfn := fun n st k => octet_numberv2_L0.get (octet_numberv2_L0 n) none st k) (rec := octet_numberv2_L0.calls) (fun g a h k hx => by
    cases hx) (loopf := octet_numberv2_L0.loops) (by
    have e : loopsOf (octet_numberv2_L0.loops) 0 (loopAt 0 (codeOf Try.f21)) = [] := by kernel_rfl
    rw [e]
    intro p hp
    cases hp) (fun st k h => by
    obtain ⟨sl, hp, m⟩ := st
    unfold octet_numberv2_L0.get at h
    dsimp only at h
    split at h
    · have h' : (none : Option Bool) = some true := h
      cases h'
    · cases h) (fun n st k h => by
    obtain ⟨sl, hp, m⟩ := st
    unfold octet_numberv2_L0.get at h
    dsimp only at h
    split at h
    · rename_i h1 h2
      obtain rfl := pickS_ok h2
      obtain rfl := Nat.eq_of_beq_eq_true h1
      exact (octet_numberv2_L0.step (octet_numberv2_L0 n) _ _ _ _ _ _ _ k).trans h
    · cases h)
theorem octet_numberv2_L0.look {F : Int → Int → Int → Int → Bool → Bool → (List Int) → (Int → Int → Bool → Bool → (List Int) → Option Bool) → Option Bool} {e : Option Bool} {st : St} {k : KE} (hx : octet_numberv2_L0.get F e st k = some true) : e = some true ∨ octet_numberv2_L0.get F none st k = some true := by
  obtain ⟨sl, hp, m⟩ := st
  unfold octet_numberv2_L0.get at hx ⊢
  dsimp only at hx ⊢
  split at hx
  · exact .inr hx
  · exact .inl hx
/-- function 21: sheerleg/octet.number -/
noncomputable def octet_numberv2.body (octet_Reader_takev2 : Int → Int → Bool → Bool → (Int → Bool → Bool → (List Int) → Option Bool) → Option Bool) (octet_numberv2_L0 : Int → Int → Int → Int → Bool → Bool → (List Int) → (Int → Int → Bool → Bool → (List Int) → Option Bool) → Option Bool) (n492 : Int) (n493 : Int) (b494 : Bool) (b495 : Bool) (k1 : Int → Int → Bool → Bool → (List Int) → Option Bool) : Option Bool :=
  (cond_ (! (decide (n492 < (1 : Int)))) (cond_ (decide (n492 > (8 : Int))) (octet_Reader_takev2 (-1 : Int) n493 b494 b495
  (fun n526 b527 b528 ns529 => (octet_numberv2_L0 (0 : Int) (((List.length ns529) : Nat) : Int) (0 : Int) n526 b527 b528 ns529
  (fun n537 n538 b539 b540 ns541 => (k1 n537 n538 b539 b540 ns541))))) (octet_Reader_takev2 n492 n493 b494 b495
  (fun n542 b543 b544 ns545 => (octet_numberv2_L0 (0 : Int) (((List.length ns545) : Nat) : Int) (0 : Int) n542 b543 b544 ns545
  (fun n546 n547 b548 b549 ns550 => (k1 n546 n547 b548 b549 ns550)))))) (octet_Reader_takev2 (-1 : Int) n493 b494 b495
  (fun n551 b552 b553 ns554 => (octet_numberv2_L0 (0 : Int) (((List.length ns554) : Nat) : Int) (0 : Int) n551 b552 b553 ns554
  (fun n555 n556 b557 b558 ns559 => (k1 n555 n556 b557 b558 ns559))))))
noncomputable def octet_numberv2 (n492 : Int) (n493 : Int) (b494 : Bool) (b495 : Bool) (k1 : Int → Int → Bool → Bool → (List Int) → Option Bool) : Option Bool := octet_numberv2.body octet_Reader_takev2 (octet_numberv2_L0 ROUNDS) n492 n493 b494 b495 k1
noncomputable def octet_numberv2.get (F : Int → Int → Bool → Bool → (Int → Int → Bool → Bool → (List Int) → Option Bool) → Option Bool) (e : Option Bool) (g : FuncId) (a : List AV) (h : Heap) (k : KR) : Option Bool := match g, a, h with
  | 21, [(.fn (.func 22) [(.ptr [0, 0] 0 0)] []), (.d ⟨(.int .i64), n492⟩)], [([0, 0], ⟨44, 4, (.mix [(.agg [.nils, (.d ⟨(.int .i64), n493⟩), (.d ⟨.bool, b494⟩), (.d ⟨.bool, b495⟩)])])⟩)] => F n492 n493 b494 b495 (fun y0 y1 y2 y3 y4 => k (.tup [(.d ⟨(.int .i64), y0⟩), (.ref [1, 0])]) [([0, 0], ⟨44, 4, (.mix [(.agg [.nils, (.d ⟨(.int .i64), y1⟩), (.d ⟨.bool, y2⟩), (.d ⟨.bool, y3⟩)])])⟩), ([1, 0], ⟨5, 1, (.data (.int .u8) y4)⟩)])
  | _, _, _ => e
noncomputable def octet_numberv2.calls (F0 : Int → Int → Bool → Bool → (Int → Bool → Bool → (List Int) → Option Bool) → Option Bool) : RecF := fun g a h k => (octet_Reader_takev2.get F0 none g a h k)
noncomputable def octet_numberv2.loops (L0 : Int → Int → Int → Int → Bool → Bool → (List Int) → (Int → Int → Bool → Bool → (List Int) → Option Bool) → Option Bool) : LoopF := fun b => match Nat.beq b 0 with | true => some (fun st k => (octet_numberv2_L0.get L0 none st k)) | false => none
set_option maxRecDepth 100000 in
theorem octet_numberv2.eq (F0 : Int → Int → Bool → Bool → (Int → Bool → Bool → (List Int) → Option Bool) → Option Bool) (L0 : Int → Int → Int → Int → Bool → Bool → (List Int) → (Int → Int → Bool → Bool → (List Int) → Option Bool) → Option Bool) (n492 : Int) (n493 : Int) (b494 : Bool) (b495 : Bool) (k : KR) : execL Try.prog ht 21 (callfOf (octet_numberv2.calls F0)) (octet_numberv2.loops L0) 0 (codeOf Try.f21) ⟨[(.fn (.func 22) [(.ptr [0, 0] 0 0)] []), (.d ⟨(.int .i64), n492⟩)] ++ List.replicate (Try.f21.ntmps - ([(.fn (.func 22) [(.ptr [0, 0] 0 0)] []), (.d ⟨(.int .i64), n492⟩)] : List AV).length) .undef, [([0, 0], ⟨44, 4, (.mix [(.agg [.nils, (.d ⟨(.int .i64), n493⟩), (.d ⟨.bool, b494⟩), (.d ⟨.bool, b495⟩)])])⟩)], 2⟩ (leave Try.prog Try.f21 k) = octet_numberv2.body F0 L0 n492 n493 b494 b495 (fun y0 y1 y2 y3 y4 => k (.tup [(.d ⟨(.int .i64), y0⟩), (.ref [1, 0])]) [([0, 0], ⟨44, 4, (.mix [(.agg [.nils, (.d ⟨(.int .i64), y1⟩), (.d ⟨.bool, y2⟩), (.d ⟨.bool, y3⟩)])])⟩), ([1, 0], ⟨5, 1, (.data (.int .u8) y4)⟩)]) := by kernel_rfl
theorem octet_numberv2.ok (d : Nat) (hd : 3 ≤ d) (n492 : Int) (n493 : Int) (b494 : Bool) (b495 : Bool) (k : KR) (hx : octet_numberv2 n492 n493 b494 b495 (fun y0 y1 y2 y3 y4 => k (.tup [(.d ⟨(.int .i64), y0⟩), (.ref [1, 0])]) [([0, 0], ⟨44, 4, (.mix [(.agg [.nils, (.d ⟨(.int .i64), y1⟩), (.d ⟨.bool, y2⟩), (.d ⟨.bool, y3⟩)])])⟩), ([1, 0], ⟨5, 1, (.data (.int .u8) y4)⟩)]) = some true) : callK Try.prog ht d 21 [(.fn (.func 22) [(.ptr [0, 0] 0 0)] []), (.d ⟨(.int .i64), n492⟩)] [([0, 0], ⟨44, 4, (.mix [(.agg [.nils, (.d ⟨(.int .i64), n493⟩), (.d ⟨.bool, b494⟩), (.d ⟨.bool, b495⟩)])])⟩)] k = some true := by
  obtain ⟨d, rfl⟩ : ∃ e, d = e + 1 := ⟨d - 1, by omega⟩
  exact fn_ok (c := codeOf Try.f21) Try.func21 (by kernel_rfl) (rec := octet_numberv2.calls octet_Reader_takev2) (fun g a h k hx => by
    rcases octet_Reader_takev2.look d (by omega) hx with hx | hx
    rotate_left
    · exact hx
    cases hx) (loopf := octet_numberv2.loops (octet_numberv2_L0 ROUNDS)) (by
    have e : loopsOf (octet_numberv2.loops (octet_numberv2_L0 ROUNDS)) 0 (codeOf Try.f21) = [(0, loopAt 0 (codeOf Try.f21))] := by kernel_rfl
    rw [e]
    intro p hp
    simp only [List.mem_cons, List.not_mem_nil, or_false] at hp
    rcases hp with rfl
    · refine loopRef_of (callf := callfOf (callK Try.prog ht d)) (callfOf_ref (callK_mono d)) fun lf st k hb hx => ?_
      cases hb
      rcases octet_numberv2_L0.look hx with hx | hx
      rotate_left
      · exact octet_numberv2_L0.ok d (by omega) _ _ _ hx
      cases hx) ((octet_numberv2.eq octet_Reader_takev2 (octet_numberv2_L0 ROUNDS) n492 n493 b494 b495 k).trans hx)
theorem octet_numberv2.look (d : Nat) (hd : 3 ≤ d) {e : Option Bool} {g : FuncId} {a : List AV} {h : Heap} {k : KR} (hx : octet_numberv2.get octet_numberv2 e g a h k = some true) : e = some true ∨ callK Try.prog ht d g a h k = some true := by
  unfold octet_numberv2.get at hx
  split at hx
  · exact .inr (octet_numberv2.ok d hd _ _ _ _ _ hx)
  · exact .inl hx
/-- function 18: (*sheerleg/octet.Reader).Num -/
noncomputable def octet_Reader_Numv2.body (octet_numberv2 : Int → Int → Bool → Bool → (Int → Int → Bool → Bool → (List Int) → Option Bool) → Option Bool) (n488 : Int) (n489 : Int) (b490 : Bool) (b491 : Bool) (k1 : Int → Int → Bool → Bool → Option Bool) : Option Bool :=
  (octet_numberv2 n488 n489 b490 b491
  (fun n560 n561 b562 b563 ns564 => (k1 n560 n561 b562 b563)))
noncomputable def octet_Reader_Numv2 (n488 : Int) (n489 : Int) (b490 : Bool) (b491 : Bool) (k1 : Int → Int → Bool → Bool → Option Bool) : Option Bool := octet_Reader_Numv2.body octet_numberv2 n488 n489 b490 b491 k1
noncomputable def octet_Reader_Numv2.get (F : Int → Int → Bool → Bool → (Int → Int → Bool → Bool → Option Bool) → Option Bool) (e : Option Bool) (g : FuncId) (a : List AV) (h : Heap) (k : KR) : Option Bool := match g, a, h with
  | 18, [(.ptr [0, 0] 0 0), (.d ⟨(.int .i64), n488⟩)], [([0, 0], ⟨44, 4, (.mix [(.agg [.nils, (.d ⟨(.int .i64), n489⟩), (.d ⟨.bool, b490⟩), (.d ⟨.bool, b491⟩)])])⟩)] => F n488 n489 b490 b491 (fun y0 y1 y2 y3 => k (.d ⟨(.int .i64), y0⟩) [([0, 0], ⟨44, 4, (.mix [(.agg [.nils, (.d ⟨(.int .i64), y1⟩), (.d ⟨.bool, y2⟩), (.d ⟨.bool, y3⟩)])])⟩)])
  | _, _, _ => e
noncomputable def octet_Reader_Numv2.calls (F0 : Int → Int → Bool → Bool → (Int → Int → Bool → Bool → (List Int) → Option Bool) → Option Bool) : RecF := fun g a h k => (octet_numberv2.get F0 none g a h k)
noncomputable def octet_Reader_Numv2.loops : LoopF := fun b => none
set_option maxRecDepth 100000 in
theorem octet_Reader_Numv2.eq (F0 : Int → Int → Bool → Bool → (Int → Int → Bool → Bool → (List Int) → Option Bool) → Option Bool) (n488 : Int) (n489 : Int) (b490 : Bool) (b491 : Bool) (k : KR) : execL Try.prog ht 18 (callfOf (octet_Reader_Numv2.calls F0)) (octet_Reader_Numv2.loops) 0 (codeOf Try.f18) ⟨[(.ptr [0, 0] 0 0), (.d ⟨(.int .i64), n488⟩)] ++ List.replicate (Try.f18.ntmps - ([(.ptr [0, 0] 0 0), (.d ⟨(.int .i64), n488⟩)] : List AV).length) .undef, [([0, 0], ⟨44, 4, (.mix [(.agg [.nils, (.d ⟨(.int .i64), n489⟩), (.d ⟨.bool, b490⟩), (.d ⟨.bool, b491⟩)])])⟩)], 2⟩ (leave Try.prog Try.f18 k) = octet_Reader_Numv2.body F0 n488 n489 b490 b491 (fun y0 y1 y2 y3 => k (.d ⟨(.int .i64), y0⟩) [([0, 0], ⟨44, 4, (.mix [(.agg [.nils, (.d ⟨(.int .i64), y1⟩), (.d ⟨.bool, y2⟩), (.d ⟨.bool, y3⟩)])])⟩)]) := by kernel_rfl
theorem octet_Reader_Numv2.ok (d : Nat) (hd : 4 ≤ d) (n488 : Int) (n489 : Int) (b490 : Bool) (b491 : Bool) (k : KR) (hx : octet_Reader_Numv2 n488 n489 b490 b491 (fun y0 y1 y2 y3 => k (.d ⟨(.int .i64), y0⟩) [([0, 0], ⟨44, 4, (.mix [(.agg [.nils, (.d ⟨(.int .i64), y1⟩), (.d ⟨.bool, y2⟩), (.d ⟨.bool, y3⟩)])])⟩)]) = some true) : callK Try.prog ht d 18 [(.ptr [0, 0] 0 0), (.d ⟨(.int .i64), n488⟩)] [([0, 0], ⟨44, 4, (.mix [(.agg [.nils, (.d ⟨(.int .i64), n489⟩), (.d ⟨.bool, b490⟩), (.d ⟨.bool, b491⟩)])])⟩)] k = some true := by
  obtain ⟨d, rfl⟩ : ∃ e, d = e + 1 := ⟨d - 1, by omega⟩
  exact fn_ok (c := codeOf Try.f18) Try.func18 (by kernel_rfl) (rec := octet_Reader_Numv2.calls octet_numberv2) (fun g a h k hx => by
    rcases octet_numberv2.look d (by omega) hx with hx | hx
    rotate_left
    · exact hx
    cases hx) (loopf := octet_Reader_Numv2.loops) (by
    have e : loopsOf (octet_Reader_Numv2.loops) 0 (codeOf Try.f18) = [] := by kernel_rfl
    rw [e]
    intro p hp
    cases hp) ((octet_Reader_Numv2.eq octet_numberv2 n488 n489 b490 b491 k).trans hx)
theorem octet_Reader_Numv2.look (d : Nat) (hd : 4 ≤ d) {e : Option Bool} {g : FuncId} {a : List AV} {h : Heap} {k : KR} (hx : octet_Reader_Numv2.get octet_Reader_Numv2 e g a h k = some true) : e = some true ∨ callK Try.prog ht d g a h k = some true := by
  unfold octet_Reader_Numv2.get at hx
  split at hx
  · exact .inr (octet_Reader_Numv2.ok d hd _ _ _ _ _ hx)
  · exact .inl hx
/-- function 13: (*sheerleg/octet.Reader).Signed -/
noncomputable def octet_Reader_Signedv1.body (octet_numberv1 : Int → (Int → (List Int) → Option Bool) → Option Bool) (n569 : Int) (k1 : Int → Option Bool) : Option Bool :=
  (octet_numberv1 n569
  (fun n570 ns571 => (cond_ ((((List.length ns571) : Nat) : Int) == (0 : Int)) (k1 (0 : Int)) (cond_ (decide ((0 : Int) ≤ (IntKind.wrap .u64 ((8 : Int) * (IntKind.wrap .u64 (IntKind.wrap .i64 ((8 : Int) - (((List.length ns571) : Nat) : Int)))))))) (cond_ (decide ((0 : Int) ≤ (IntKind.wrap .u64 ((8 : Int) * (IntKind.wrap .u64 (IntKind.wrap .i64 ((8 : Int) - (((List.length ns571) : Nat) : Int)))))))) (k1 (Int.fdiv (IntKind.wrap .i64 (n570 * ((2 : Int) ^ (min (Int.toNat (IntKind.wrap .u64 ((8 : Int) * (IntKind.wrap .u64 (IntKind.wrap .i64 ((8 : Int) - (((List.length ns571) : Nat) : Int))))))) (64 : Nat))))) ((2 : Int) ^ (min (Int.toNat (IntKind.wrap .u64 ((8 : Int) * (IntKind.wrap .u64 (IntKind.wrap .i64 ((8 : Int) - (((List.length ns571) : Nat) : Int))))))) (64 : Nat))))) none) none))))
noncomputable def octet_Reader_Signedv1 (n569 : Int) (k1 : Int → Option Bool) : Option Bool := octet_Reader_Signedv1.body octet_numberv1 n569 k1
noncomputable def octet_Reader_Signedv1.get (F : Int → (Int → Option Bool) → Option Bool) (e : Option Bool) (g : FuncId) (a : List AV) (h : Heap) (k : KR) : Option Bool := match g, a, h with
  | 13, [.nilp, (.d ⟨(.int .i64), n569⟩)], [] => F n569 (fun y0 => k (.d ⟨(.int .i64), y0⟩) [])
  | _, _, _ => e
noncomputable def octet_Reader_Signedv1.calls (F0 : Int → (Int → (List Int) → Option Bool) → Option Bool) : RecF := fun g a h k => (octet_numberv1.get F0 none g a h k)
noncomputable def octet_Reader_Signedv1.loops : LoopF := fun b => none
set_option maxRecDepth 100000 in
theorem octet_Reader_Signedv1.eq (F0 : Int → (Int → (List Int) → Option Bool) → Option Bool) (n569 : Int) (k : KR) : execL Try.prog ht 13 (callfOf (octet_Reader_Signedv1.calls F0)) (octet_Reader_Signedv1.loops) 0 (codeOf Try.f13) ⟨[.nilp, (.d ⟨(.int .i64), n569⟩)] ++ List.replicate (Try.f13.ntmps - ([.nilp, (.d ⟨(.int .i64), n569⟩)] : List AV).length) .undef, [], 2⟩ (leave Try.prog Try.f13 k) = octet_Reader_Signedv1.body F0 n569 (fun y0 => k (.d ⟨(.int .i64), y0⟩) []) := by kernel_rfl
theorem octet_Reader_Signedv1.ok (d : Nat) (hd : 4 ≤ d) (n569 : Int) (k : KR) (hx : octet_Reader_Signedv1 n569 (fun y0 => k (.d ⟨(.int .i64), y0⟩) []) = some true) : callK Try.prog ht d 13 [.nilp, (.d ⟨(.int .i64), n569⟩)] [] k = some true := by
  obtain ⟨d, rfl⟩ : ∃ e, d = e + 1 := ⟨d - 1, by omega⟩
  exact fn_ok (c := codeOf Try.f13) Try.func13 (by kernel_rfl) (rec := octet_Reader_Signedv1.calls octet_numberv1) (fun g a h k hx => by
    rcases octet_numberv1.look d (by omega) hx with hx | hx
    rotate_left
    · exact hx
    cases hx) (loopf := octet_Reader_Signedv1.loops) (by
    have e : loopsOf (octet_Reader_Signedv1.loops) 0 (codeOf Try.f13) = [] := by kernel_rfl
    rw [e]
    intro p hp
    cases hp) ((octet_Reader_Signedv1.eq octet_numberv1 n569 k).trans hx)
theorem octet_Reader_Signedv1.look (d : Nat) (hd : 4 ≤ d) {e : Option Bool} {g : FuncId} {a : List AV} {h : Heap} {k : KR} (hx : octet_Reader_Signedv1.get octet_Reader_Signedv1 e g a h k = some true) : e = some true ∨ callK Try.prog ht d g a h k = some true := by
  unfold octet_Reader_Signedv1.get at hx
  split at hx
  · exact .inr (octet_Reader_Signedv1.ok d hd _ _ hx)
  · exact .inl hx
/-- function 13: (*sheerleg/octet.Reader).Signed -/
noncomputable def octet_Reader_Signedv2.body (octet_numberv2 : Int → Int → Bool → Bool → (Int → Int → Bool → Bool → (List Int) → Option Bool) → Option Bool) (n573 : Int) (n574 : Int) (b575 : Bool) (b576 : Bool) (k1 : Int → Int → Bool → Bool → Option Bool) : Option Bool :=
  (octet_numberv2 n573 n574 b575 b576
  (fun n577 n578 b579 b580 ns581 => (cond_ ((((List.length ns581) : Nat) : Int) == (0 : Int)) (k1 (0 : Int) n578 b579 b580) (cond_ (decide ((0 : Int) ≤ (IntKind.wrap .u64 ((8 : Int) * (IntKind.wrap .u64 (IntKind.wrap .i64 ((8 : Int) - (((List.length ns581) : Nat) : Int)))))))) (cond_ (decide ((0 : Int) ≤ (IntKind.wrap .u64 ((8 : Int) * (IntKind.wrap .u64 (IntKind.wrap .i64 ((8 : Int) - (((List.length ns581) : Nat) : Int)))))))) (k1 (Int.fdiv (IntKind.wrap .i64 (n577 * ((2 : Int) ^ (min (Int.toNat (IntKind.wrap .u64 ((8 : Int) * (IntKind.wrap .u64 (IntKind.wrap .i64 ((8 : Int) - (((List.length ns581) : Nat) : Int))))))) (64 : Nat))))) ((2 : Int) ^ (min (Int.toNat (IntKind.wrap .u64 ((8 : Int) * (IntKind.wrap .u64 (IntKind.wrap .i64 ((8 : Int) - (((List.length ns581) : Nat) : Int))))))) (64 : Nat)))) n578 b579 b580) none) none))))
noncomputable def octet_Reader_Signedv2 (n573 : Int) (n574 : Int) (b575 : Bool) (b576 : Bool) (k1 : Int → Int → Bool → Bool → Option Bool) : Option Bool := octet_Reader_Signedv2.body octet_numberv2 n573 n574 b575 b576 k1
noncomputable def octet_Reader_Signedv2.get (F : Int → Int → Bool → Bool → (Int → Int → Bool → Bool → Option Bool) → Option Bool) (e : Option Bool) (g : FuncId) (a : List AV) (h : Heap) (k : KR) : Option Bool := match g, a, h with
  | 13, [(.ptr [0, 0] 0 0), (.d ⟨(.int .i64), n573⟩)], [([0, 0], ⟨44, 4, (.mix [(.agg [.nils, (.d ⟨(.int .i64), n574⟩), (.d ⟨.bool, b575⟩), (.d ⟨.bool, b576⟩)])])⟩)] => F n573 n574 b575 b576 (fun y0 y1 y2 y3 => k (.d ⟨(.int .i64), y0⟩) [([0, 0], ⟨44, 4, (.mix [(.agg [.nils, (.d ⟨(.int .i64), y1⟩), (.d ⟨.bool, y2⟩), (.d ⟨.bool, y3⟩)])])⟩)])
  | _, _, _ => e
noncomputable def octet_Reader_Signedv2.calls (F0 : Int → Int → Bool → Bool → (Int → Int → Bool → Bool → (List Int) → Option Bool) → Option Bool) : RecF := fun g a h k => (octet_numberv2.get F0 none g a h k)
noncomputable def octet_Reader_Signedv2.loops : LoopF := fun b => none
set_option maxRecDepth 100000 in
theorem octet_Reader_Signedv2.eq (F0 : Int → Int → Bool → Bool → (Int → Int → Bool → Bool → (List Int) → Option Bool) → Option Bool) (n573 : Int) (n574 : Int) (b575 : Bool) (b576 : Bool) (k : KR) : execL Try.prog ht 13 (callfOf (octet_Reader_Signedv2.calls F0)) (octet_Reader_Signedv2.loops) 0 (codeOf Try.f13) ⟨[(.ptr [0, 0] 0 0), (.d ⟨(.int .i64), n573⟩)] ++ List.replicate (Try.f13.ntmps - ([(.ptr [0, 0] 0 0), (.d ⟨(.int .i64), n573⟩)] : List AV).length) .undef, [([0, 0], ⟨44, 4, (.mix [(.agg [.nils, (.d ⟨(.int .i64), n574⟩), (.d ⟨.bool, b575⟩), (.d ⟨.bool, b576⟩)])])⟩)], 2⟩ (leave Try.prog Try.f13 k) = octet_Reader_Signedv2.body F0 n573 n574 b575 b576 (fun y0 y1 y2 y3 => k (.d ⟨(.int .i64), y0⟩) [([0, 0], ⟨44, 4, (.mix [(.agg [.nils, (.d ⟨(.int .i64), y1⟩), (.d ⟨.bool, y2⟩), (.d ⟨.bool, y3⟩)])])⟩)]) := by kernel_rfl
theorem octet_Reader_Signedv2.ok (d : Nat) (hd : 4 ≤ d) (n573 : Int) (n574 : Int) (b575 : Bool) (b576 : Bool) (k : KR) (hx : octet_Reader_Signedv2 n573 n574 b575 b576 (fun y0 y1 y2 y3 => k (.d ⟨(.int .i64), y0⟩) [([0, 0], ⟨44, 4, (.mix [(.agg [.nils, (.d ⟨(.int .i64), y1⟩), (.d ⟨.bool, y2⟩), (.d ⟨.bool, y3⟩)])])⟩)]) = some true) : callK Try.prog ht d 13 [(.ptr [0, 0] 0 0), (.d ⟨(.int .i64), n573⟩)] [([0, 0], ⟨44, 4, (.mix [(.agg [.nils, (.d ⟨(.int .i64), n574⟩), (.d ⟨.bool, b575⟩), (.d ⟨.bool, b576⟩)])])⟩)] k = some true := by
  obtain ⟨d, rfl⟩ : ∃ e, d = e + 1 := ⟨d - 1, by omega⟩
  exact fn_ok (c := codeOf Try.f13) Try.func13 (by kernel_rfl) (rec := octet_Reader_Signedv2.calls octet_numberv2) (fun g a h k hx => by
    rcases octet_numberv2.look d (by omega) hx with hx | hx
    rotate_left
    · exact hx
    cases hx) (loopf := octet_Reader_Signedv2.loops) (by
    have e : loopsOf (octet_Reader_Signedv2.loops) 0 (codeOf Try.f13) = [] := by kernel_rfl
    rw [e]
    intro p hp
    cases hp) ((octet_Reader_Signedv2.eq octet_numberv2 n573 n574 b575 b576 k).trans hx)
theorem octet_Reader_Signedv2.look (d : Nat) (hd : 4 ≤ d) {e : Option Bool} {g : FuncId} {a : List AV} {h : Heap} {k : KR} (hx : octet_Reader_Signedv2.get octet_Reader_Signedv2 e g a h k = some true) : e = some true ∨ callK Try.prog ht d g a h k = some true := by
  unfold octet_Reader_Signedv2.get at hx
  split at hx
  · exact .inr (octet_Reader_Signedv2.ok d hd _ _ _ _ _ hx)
  · exact .inl hx
/-- function 14: (*sheerleg/octet.Reader).Text -/
noncomputable def octet_Reader_Textv1.body (octet_Reader_Badv1 : (Bool → Option Bool) → Option Bool) (octet_Reader_Leftv1 : (Int → Option Bool) → Option Bool) (octet_Reader_spoilv1 : (Option Bool) → Option Bool) (n586 : Int) (k1 : ByteArray → Option Bool) : Option Bool :=
  (octet_Reader_Badv1
  (fun b587 => (cond_ (! b587) (octet_Reader_Leftv1
  (fun n588 => (cond_ (n588 == (0 : Int)) (octet_Reader_spoilv1
  (k1 (⟨#[]⟩ : ByteArray))) none))) (octet_Reader_spoilv1
  (k1 (⟨#[]⟩ : ByteArray))))))
noncomputable def octet_Reader_Textv1 (n586 : Int) (k1 : ByteArray → Option Bool) : Option Bool := octet_Reader_Textv1.body octet_Reader_Badv1 octet_Reader_Leftv1 octet_Reader_spoilv1 n586 k1
noncomputable def octet_Reader_Textv1.get (F : Int → (ByteArray → Option Bool) → Option Bool) (e : Option Bool) (g : FuncId) (a : List AV) (h : Heap) (k : KR) : Option Bool := match g, a, h with
  | 14, [.nilp, (.d ⟨(.int .i64), n586⟩)], [] => F n586 (fun y0 => k (.d ⟨.str, y0⟩) [])
  | _, _, _ => e
noncomputable def octet_Reader_Textv1.calls (F0 : (Bool → Option Bool) → Option Bool) (F1 : (Int → Option Bool) → Option Bool) (F2 : (Option Bool) → Option Bool) : RecF := fun g a h k => (octet_Reader_Badv1.get F0 (octet_Reader_Leftv1.get F1 (octet_Reader_spoilv1.get F2 none g a h k) g a h k) g a h k)
noncomputable def octet_Reader_Textv1.loops : LoopF := fun b => none
set_option maxRecDepth 100000 in
theorem octet_Reader_Textv1.eq (F0 : (Bool → Option Bool) → Option Bool) (F1 : (Int → Option Bool) → Option Bool) (F2 : (Option Bool) → Option Bool) (n586 : Int) (k : KR) : execL Try.prog ht 14 (callfOf (octet_Reader_Textv1.calls F0 F1 F2)) (octet_Reader_Textv1.loops) 0 (codeOf Try.f14) ⟨[.nilp, (.d ⟨(.int .i64), n586⟩)] ++ List.replicate (Try.f14.ntmps - ([.nilp, (.d ⟨(.int .i64), n586⟩)] : List AV).length) .undef, [], 2⟩ (leave Try.prog Try.f14 k) = octet_Reader_Textv1.body F0 F1 F2 n586 (fun y0 => k (.d ⟨.str, y0⟩) []) := by kernel_rfl
theorem octet_Reader_Textv1.ok (d : Nat) (hd : 2 ≤ d) (n586 : Int) (k : KR) (hx : octet_Reader_Textv1 n586 (fun y0 => k (.d ⟨.str, y0⟩) []) = some true) : callK Try.prog ht d 14 [.nilp, (.d ⟨(.int .i64), n586⟩)] [] k = some true := by
  obtain ⟨d, rfl⟩ : ∃ e, d = e + 1 := ⟨d - 1, by omega⟩
  exact fn_ok (c := codeOf Try.f14) Try.func14 (by kernel_rfl) (rec := octet_Reader_Textv1.calls octet_Reader_Badv1 octet_Reader_Leftv1 octet_Reader_spoilv1) (fun g a h k hx => by
    rcases octet_Reader_Badv1.look d (by omega) hx with hx | hx
    rotate_left
    · exact hx
    rcases octet_Reader_Leftv1.look d (by omega) hx with hx | hx
    rotate_left
    · exact hx
    rcases octet_Reader_spoilv1.look d (by omega) hx with hx | hx
    rotate_left
    · exact hx
    cases hx) (loopf := octet_Reader_Textv1.loops) (by
    have e : loopsOf (octet_Reader_Textv1.loops) 0 (codeOf Try.f14) = [] := by kernel_rfl
    rw [e]
    intro p hp
    cases hp) ((octet_Reader_Textv1.eq octet_Reader_Badv1 octet_Reader_Leftv1 octet_Reader_spoilv1 n586 k).trans hx)
theorem octet_Reader_Textv1.look (d : Nat) (hd : 2 ≤ d) {e : Option Bool} {g : FuncId} {a : List AV} {h : Heap} {k : KR} (hx : octet_Reader_Textv1.get octet_Reader_Textv1 e g a h k = some true) : e = some true ∨ callK Try.prog ht d g a h k = some true := by
  unfold octet_Reader_Textv1.get at hx
  split at hx
  · exact .inr (octet_Reader_Textv1.ok d hd _ _ hx)
  · exact .inl hx
/-- function 14: (*sheerleg/octet.Reader).Text -/
noncomputable def octet_Reader_Textv2.body (octet_Reader_Badv2 : Int → Bool → Bool → (Bool → Int → Bool → Bool → Option Bool) → Option Bool) (octet_Reader_Leftv2 : Int → Bool → Bool → (Int → Int → Bool → Bool → Option Bool) → Option Bool) (octet_Reader_spoilv2 : Int → Bool → Bool → (Int → Bool → Bool → Option Bool) → Option Bool) (n590 : Int) (n591 : Int) (b592 : Bool) (b593 : Bool) (k1 : ByteArray → Int → Bool → Bool → Option Bool) : Option Bool :=
  (octet_Reader_Badv2 n591 b592 b593
  (fun b594 n595 b596 b597 => (cond_ (! b594) (octet_Reader_Leftv2 n595 b596 b597
  (fun n598 n599 b600 b601 => (cond_ (n598 == (0 : Int)) (octet_Reader_spoilv2 n599 b600 b601
  (fun n602 b603 b604 => (k1 (⟨#[]⟩ : ByteArray) n602 b603 b604))) none))) (octet_Reader_spoilv2 n595 b596 b597
  (fun n605 b606 b607 => (k1 (⟨#[]⟩ : ByteArray) n605 b606 b607))))))
noncomputable def octet_Reader_Textv2 (n590 : Int) (n591 : Int) (b592 : Bool) (b593 : Bool) (k1 : ByteArray → Int → Bool → Bool → Option Bool) : Option Bool := octet_Reader_Textv2.body octet_Reader_Badv2 octet_Reader_Leftv2 octet_Reader_spoilv2 n590 n591 b592 b593 k1
noncomputable def octet_Reader_Textv2.get (F : Int → Int → Bool → Bool → (ByteArray → Int → Bool → Bool → Option Bool) → Option Bool) (e : Option Bool) (g : FuncId) (a : List AV) (h : Heap) (k : KR) : Option Bool := match g, a, h with
  | 14, [(.ptr [0, 0] 0 0), (.d ⟨(.int .i64), n590⟩)], [([0, 0], ⟨44, 4, (.mix [(.agg [.nils, (.d ⟨(.int .i64), n591⟩), (.d ⟨.bool, b592⟩), (.d ⟨.bool, b593⟩)])])⟩)] => F n590 n591 b592 b593 (fun y0 y1 y2 y3 => k (.d ⟨.str, y0⟩) [([0, 0], ⟨44, 4, (.mix [(.agg [.nils, (.d ⟨(.int .i64), y1⟩), (.d ⟨.bool, y2⟩), (.d ⟨.bool, y3⟩)])])⟩)])
  | _, _, _ => e
noncomputable def octet_Reader_Textv2.calls (F0 : Int → Bool → Bool → (Bool → Int → Bool → Bool → Option Bool) → Option Bool) (F1 : Int → Bool → Bool → (Int → Int → Bool → Bool → Option Bool) → Option Bool) (F2 : Int → Bool → Bool → (Int → Bool → Bool → Option Bool) → Option Bool) : RecF := fun g a h k => (octet_Reader_Badv2.get F0 (octet_Reader_Leftv2.get F1 (octet_Reader_spoilv2.get F2 none g a h k) g a h k) g a h k)
noncomputable def octet_Reader_Textv2.loops : LoopF := fun b => none
set_option maxRecDepth 100000 in
theorem octet_Reader_Textv2.eq (F0 : Int → Bool → Bool → (Bool → Int → Bool → Bool → Option Bool) → Option Bool) (F1 : Int → Bool → Bool → (Int → Int → Bool → Bool → Option Bool) → Option Bool) (F2 : Int → Bool → Bool → (Int → Bool → Bool → Option Bool) → Option Bool) (n590 : Int) (n591 : Int) (b592 : Bool) (b593 : Bool) (k : KR) : execL Try.prog ht 14 (callfOf (octet_Reader_Textv2.calls F0 F1 F2)) (octet_Reader_Textv2.loops) 0 (codeOf Try.f14) ⟨[(.ptr [0, 0] 0 0), (.d ⟨(.int .i64), n590⟩)] ++ List.replicate (Try.f14.ntmps - ([(.ptr [0, 0] 0 0), (.d ⟨(.int .i64), n590⟩)] : List AV).length) .undef, [([0, 0], ⟨44, 4, (.mix [(.agg [.nils, (.d ⟨(.int .i64), n591⟩), (.d ⟨.bool, b592⟩), (.d ⟨.bool, b593⟩)])])⟩)], 2⟩ (leave Try.prog Try.f14 k) = octet_Reader_Textv2.body F0 F1 F2 n590 n591 b592 b593 (fun y0 y1 y2 y3 => k (.d ⟨.str, y0⟩) [([0, 0], ⟨44, 4, (.mix [(.agg [.nils, (.d ⟨(.int .i64), y1⟩), (.d ⟨.bool, y2⟩), (.d ⟨.bool, y3⟩)])])⟩)]) := by kernel_rfl
theorem octet_Reader_Textv2.ok (d : Nat) (hd : 2 ≤ d) (n590 : Int) (n591 : Int) (b592 : Bool) (b593 : Bool) (k : KR) (hx : octet_Reader_Textv2 n590 n591 b592 b593 (fun y0 y1 y2 y3 => k (.d ⟨.str, y0⟩) [([0, 0], ⟨44, 4, (.mix [(.agg [.nils, (.d ⟨(.int .i64), y1⟩), (.d ⟨.bool, y2⟩), (.d ⟨.bool, y3⟩)])])⟩)]) = some true) : callK Try.prog ht d 14 [(.ptr [0, 0] 0 0), (.d ⟨(.int .i64), n590⟩)] [([0, 0], ⟨44, 4, (.mix [(.agg [.nils, (.d ⟨(.int .i64), n591⟩), (.d ⟨.bool, b592⟩), (.d ⟨.bool, b593⟩)])])⟩)] k = some true := by
  obtain ⟨d, rfl⟩ : ∃ e, d = e + 1 := ⟨d - 1, by omega⟩
  exact fn_ok (c := codeOf Try.f14) Try.func14 (by kernel_rfl) (rec := octet_Reader_Textv2.calls octet_Reader_Badv2 octet_Reader_Leftv2 octet_Reader_spoilv2) (fun g a h k hx => by
    rcases octet_Reader_Badv2.look d (by omega) hx with hx | hx
    rotate_left
    · exact hx
    rcases octet_Reader_Leftv2.look d (by omega) hx with hx | hx
    rotate_left
    · exact hx
    rcases octet_Reader_spoilv2.look d (by omega) hx with hx | hx
    rotate_left
    · exact hx
    cases hx) (loopf := octet_Reader_Textv2.loops) (by
    have e : loopsOf (octet_Reader_Textv2.loops) 0 (codeOf Try.f14) = [] := by kernel_rfl
    rw [e]
    intro p hp
    cases hp) ((octet_Reader_Textv2.eq octet_Reader_Badv2 octet_Reader_Leftv2 octet_Reader_spoilv2 n590 n591 b592 b593 k).trans hx)
theorem octet_Reader_Textv2.look (d : Nat) (hd : 2 ≤ d) {e : Option Bool} {g : FuncId} {a : List AV} {h : Heap} {k : KR} (hx : octet_Reader_Textv2.get octet_Reader_Textv2 e g a h k = some true) : e = some true ∨ callK Try.prog ht d g a h k = some true := by
  unfold octet_Reader_Textv2.get at hx
  split at hx
  · exact .inr (octet_Reader_Textv2.ok d hd _ _ _ _ _ hx)
  · exact .inl hx
/-- function 20: (*sheerleg/octet.Reader).At -/
noncomputable def octet_Reader_Atv1.body (k1 : Int → Option Bool) : Option Bool :=
  (k1 (0 : Int))
noncomputable def octet_Reader_Atv1 (k1 : Int → Option Bool) : Option Bool := octet_Reader_Atv1.body k1
noncomputable def octet_Reader_Atv1.get (F : (Int → Option Bool) → Option Bool) (e : Option Bool) (g : FuncId) (a : List AV) (h : Heap) (k : KR) : Option Bool := match g, a, h with
  | 20, [.nilp], [] => F (fun y0 => k (.d ⟨(.int .i64), y0⟩) [])
  | _, _, _ => e
noncomputable def octet_Reader_Atv1.calls : RecF := fun g a h k => none
noncomputable def octet_Reader_Atv1.loops : LoopF := fun b => none
set_option maxRecDepth 100000 in
theorem octet_Reader_Atv1.eq (k : KR) : execL Try.prog ht 20 (callfOf (octet_Reader_Atv1.calls)) (octet_Reader_Atv1.loops) 0 (codeOf Try.f20) ⟨[.nilp] ++ List.replicate (Try.f20.ntmps - ([.nilp] : List AV).length) .undef, [], 2⟩ (leave Try.prog Try.f20 k) = octet_Reader_Atv1.body (fun y0 => k (.d ⟨(.int .i64), y0⟩) []) := by kernel_rfl
theorem octet_Reader_Atv1.ok (d : Nat) (hd : 1 ≤ d) (k : KR) (hx : octet_Reader_Atv1 (fun y0 => k (.d ⟨(.int .i64), y0⟩) []) = some true) : callK Try.prog ht d 20 [.nilp] [] k = some true := by
  obtain ⟨d, rfl⟩ : ∃ e, d = e + 1 := ⟨d - 1, by omega⟩
  exact fn_ok (c := codeOf Try.f20) Try.func20 (by kernel_rfl) (rec := octet_Reader_Atv1.calls) (fun g a h k hx => by
    cases hx) (loopf := octet_Reader_Atv1.loops) (by
    have e : loopsOf (octet_Reader_Atv1.loops) 0 (codeOf Try.f20) = [] := by kernel_rfl
    rw [e]
    intro p hp
    cases hp) ((octet_Reader_Atv1.eq k).trans hx)
theorem octet_Reader_Atv1.look (d : Nat) (hd : 1 ≤ d) {e : Option Bool} {g : FuncId} {a : List AV} {h : Heap} {k : KR} (hx : octet_Reader_Atv1.get octet_Reader_Atv1 e g a h k = some true) : e = some true ∨ callK Try.prog ht d g a h k = some true := by
  unfold octet_Reader_Atv1.get at hx
  split at hx
  · exact .inr (octet_Reader_Atv1.ok d hd _ hx)
  · exact .inl hx
/-- function 20: (*sheerleg/octet.Reader).At -/
noncomputable def octet_Reader_Atv2.body (n613 : Int) (b614 : Bool) (b615 : Bool) (k1 : Int → Int → Bool → Bool → Option Bool) : Option Bool :=
  (k1 n613 n613 b614 b615)
noncomputable def octet_Reader_Atv2 (n613 : Int) (b614 : Bool) (b615 : Bool) (k1 : Int → Int → Bool → Bool → Option Bool) : Option Bool := octet_Reader_Atv2.body n613 b614 b615 k1
noncomputable def octet_Reader_Atv2.get (F : Int → Bool → Bool → (Int → Int → Bool → Bool → Option Bool) → Option Bool) (e : Option Bool) (g : FuncId) (a : List AV) (h : Heap) (k : KR) : Option Bool := match g, a, h with
  | 20, [(.ptr [0, 0] 0 0)], [([0, 0], ⟨44, 4, (.mix [(.agg [.nils, (.d ⟨(.int .i64), n613⟩), (.d ⟨.bool, b614⟩), (.d ⟨.bool, b615⟩)])])⟩)] => F n613 b614 b615 (fun y0 y1 y2 y3 => k (.d ⟨(.int .i64), y0⟩) [([0, 0], ⟨44, 4, (.mix [(.agg [.nils, (.d ⟨(.int .i64), y1⟩), (.d ⟨.bool, y2⟩), (.d ⟨.bool, y3⟩)])])⟩)])
  | _, _, _ => e
noncomputable def octet_Reader_Atv2.calls : RecF := fun g a h k => none
noncomputable def octet_Reader_Atv2.loops : LoopF := fun b => none
set_option maxRecDepth 100000 in
theorem octet_Reader_Atv2.eq (n613 : Int) (b614 : Bool) (b615 : Bool) (k : KR) : execL Try.prog ht 20 (callfOf (octet_Reader_Atv2.calls)) (octet_Reader_Atv2.loops) 0 (codeOf Try.f20) ⟨[(.ptr [0, 0] 0 0)] ++ List.replicate (Try.f20.ntmps - ([(.ptr [0, 0] 0 0)] : List AV).length) .undef, [([0, 0], ⟨44, 4, (.mix [(.agg [.nils, (.d ⟨(.int .i64), n613⟩), (.d ⟨.bool, b614⟩), (.d ⟨.bool, b615⟩)])])⟩)], 2⟩ (leave Try.prog Try.f20 k) = octet_Reader_Atv2.body n613 b614 b615 (fun y0 y1 y2 y3 => k (.d ⟨(.int .i64), y0⟩) [([0, 0], ⟨44, 4, (.mix [(.agg [.nils, (.d ⟨(.int .i64), y1⟩), (.d ⟨.bool, y2⟩), (.d ⟨.bool, y3⟩)])])⟩)]) := by kernel_rfl
theorem octet_Reader_Atv2.ok (d : Nat) (hd : 1 ≤ d) (n613 : Int) (b614 : Bool) (b615 : Bool) (k : KR) (hx : octet_Reader_Atv2 n613 b614 b615 (fun y0 y1 y2 y3 => k (.d ⟨(.int .i64), y0⟩) [([0, 0], ⟨44, 4, (.mix [(.agg [.nils, (.d ⟨(.int .i64), y1⟩), (.d ⟨.bool, y2⟩), (.d ⟨.bool, y3⟩)])])⟩)]) = some true) : callK Try.prog ht d 20 [(.ptr [0, 0] 0 0)] [([0, 0], ⟨44, 4, (.mix [(.agg [.nils, (.d ⟨(.int .i64), n613⟩), (.d ⟨.bool, b614⟩), (.d ⟨.bool, b615⟩)])])⟩)] k = some true := by
  obtain ⟨d, rfl⟩ : ∃ e, d = e + 1 := ⟨d - 1, by omega⟩
  exact fn_ok (c := codeOf Try.f20) Try.func20 (by kernel_rfl) (rec := octet_Reader_Atv2.calls) (fun g a h k hx => by
    cases hx) (loopf := octet_Reader_Atv2.loops) (by
    have e : loopsOf (octet_Reader_Atv2.loops) 0 (codeOf Try.f20) = [] := by kernel_rfl
    rw [e]
    intro p hp
    cases hp) ((octet_Reader_Atv2.eq n613 b614 b615 k).trans hx)
theorem octet_Reader_Atv2.look (d : Nat) (hd : 1 ≤ d) {e : Option Bool} {g : FuncId} {a : List AV} {h : Heap} {k : KR} (hx : octet_Reader_Atv2.get octet_Reader_Atv2 e g a h k = some true) : e = some true ∨ callK Try.prog ht d g a h k = some true := by
  unfold octet_Reader_Atv2.get at hx
  split at hx
  · exact .inr (octet_Reader_Atv2.ok d hd _ _ _ _ hx)
  · exact .inl hx
/-- function 6: sheerleg/sheerleglaw02.OctetNobody -/
noncomputable def law02_OctetNobody.body (octet_Reader_Numv1 : Int → (Int → Option Bool) → Option Bool) (octet_Reader_Numv2 : Int → Int → Bool → Bool → (Int → Int → Bool → Bool → Option Bool) → Option Bool) (octet_Reader_Signedv1 : Int → (Int → Option Bool) → Option Bool) (octet_Reader_Signedv2 : Int → Int → Bool → Bool → (Int → Int → Bool → Bool → Option Bool) → Option Bool) (octet_Reader_Textv1 : Int → (ByteArray → Option Bool) → Option Bool) (octet_Reader_Textv2 : Int → Int → Bool → Bool → (ByteArray → Int → Bool → Bool → Option Bool) → Option Bool) (octet_Reader_Atv1 : (Int → Option Bool) → Option Bool) (octet_Reader_Atv2 : Int → Bool → Bool → (Int → Int → Bool → Bool → Option Bool) → Option Bool) (octet_Reader_Leftv1 : (Int → Option Bool) → Option Bool) (octet_Reader_Leftv2 : Int → Bool → Bool → (Int → Int → Bool → Bool → Option Bool) → Option Bool) (octet_Reader_Badv1 : (Bool → Option Bool) → Option Bool) (octet_Reader_Badv2 : Int → Bool → Bool → (Bool → Int → Bool → Bool → Option Bool) → Option Bool) (law02_known : (Bool → Option Bool) → Option Bool) (n465 : Int) (n466 : Int) (k1 : Bool → Option Bool) : Option Bool :=
  (octet_Reader_Numv1 n465
  (fun n487 => (cond_ (n487 == (0 : Int)) (octet_Reader_Numv2 n465 (0 : Int) false false
  (fun n565 n566 b567 b568 => (cond_ (n565 == (0 : Int)) (octet_Reader_Signedv1 n465
  (fun n572 => (cond_ (n572 == (0 : Int)) (octet_Reader_Signedv2 n465 n566 b567 b568
  (fun n582 n583 b584 b585 => (cond_ (n582 == (0 : Int)) (octet_Reader_Textv1 n466
  (fun s589 => (cond_ ((ByteArray.toList s589) == (ByteArray.toList (⟨#[]⟩ : ByteArray))) (octet_Reader_Textv2 n466 n583 b584 b585
  (fun s608 n609 b610 b611 => (cond_ ((ByteArray.toList s608) == (ByteArray.toList (⟨#[]⟩ : ByteArray))) (octet_Reader_Atv1
  (fun n612 => (octet_Reader_Atv2 n609 b610 b611
  (fun n616 n617 b618 b619 => (octet_Reader_Leftv1
  (fun n620 => (octet_Reader_Leftv2 n617 b618 b619
  (fun n621 n622 b623 b624 => (cond_ ((IntKind.wrap .i64 ((IntKind.wrap .i64 ((IntKind.wrap .i64 (n612 + n616)) + n620)) + n621)) == (0 : Int)) (octet_Reader_Badv1
  (fun b625 => (cond_ b625 (octet_Reader_Badv2 n622 b623 b624
  (fun b626 n627 b628 b629 => (cond_ b626 (law02_known
  (fun b630 => (k1 b630))) (k1 false)))) (k1 false)))) (k1 false)))))))))) (k1 false)))) (k1 false)))) (k1 false)))) (k1 false)))) (k1 false)))) (k1 false))))
noncomputable def law02_OctetNobody (n465 : Int) (n466 : Int) (k1 : Bool → Option Bool) : Option Bool := law02_OctetNobody.body octet_Reader_Numv1 octet_Reader_Numv2 octet_Reader_Signedv1 octet_Reader_Signedv2 octet_Reader_Textv1 octet_Reader_Textv2 octet_Reader_Atv1 octet_Reader_Atv2 octet_Reader_Leftv1 octet_Reader_Leftv2 octet_Reader_Badv1 octet_Reader_Badv2 law02_known n465 n466 k1
noncomputable def law02_OctetNobody.get (F : Int → Int → (Bool → Option Bool) → Option Bool) (e : Option Bool) (g : FuncId) (a : List AV) (h : Heap) (k : KR) : Option Bool := match g, a, h with
  | 6, [(.d ⟨(.int .i64), n465⟩), (.d ⟨(.int .i64), n466⟩)], [] => F n465 n466 (fun y0 => k (.d ⟨.bool, y0⟩) [])
  | _, _, _ => e
noncomputable def law02_OctetNobody.calls (F0 : Int → (Int → Option Bool) → Option Bool) (F1 : Int → Int → Bool → Bool → (Int → Int → Bool → Bool → Option Bool) → Option Bool) (F2 : Int → (Int → Option Bool) → Option Bool) (F3 : Int → Int → Bool → Bool → (Int → Int → Bool → Bool → Option Bool) → Option Bool) (F4 : Int → (ByteArray → Option Bool) → Option Bool) (F5 : Int → Int → Bool → Bool → (ByteArray → Int → Bool → Bool → Option Bool) → Option Bool) (F6 : (Int → Option Bool) → Option Bool) (F7 : Int → Bool → Bool → (Int → Int → Bool → Bool → Option Bool) → Option Bool) (F8 : (Int → Option Bool) → Option Bool) (F9 : Int → Bool → Bool → (Int → Int → Bool → Bool → Option Bool) → Option Bool) (F10 : (Bool → Option Bool) → Option Bool) (F11 : Int → Bool → Bool → (Bool → Int → Bool → Bool → Option Bool) → Option Bool) (F12 : (Bool → Option Bool) → Option Bool) : RecF := fun g a h k => (octet_Reader_Numv1.get F0 (octet_Reader_Numv2.get F1 (octet_Reader_Signedv1.get F2 (octet_Reader_Signedv2.get F3 (octet_Reader_Textv1.get F4 (octet_Reader_Textv2.get F5 (octet_Reader_Atv1.get F6 (octet_Reader_Atv2.get F7 (octet_Reader_Leftv1.get F8 (octet_Reader_Leftv2.get F9 (octet_Reader_Badv1.get F10 (octet_Reader_Badv2.get F11 (law02_known.get F12 none g a h k) g a h k) g a h k) g a h k) g a h k) g a h k) g a h k) g a h k) g a h k) g a h k) g a h k) g a h k) g a h k)
noncomputable def law02_OctetNobody.loops : LoopF := fun b => none
set_option maxRecDepth 100000 in
theorem law02_OctetNobody.eq (F0 : Int → (Int → Option Bool) → Option Bool) (F1 : Int → Int → Bool → Bool → (Int → Int → Bool → Bool → Option Bool) → Option Bool) (F2 : Int → (Int → Option Bool) → Option Bool) (F3 : Int → Int → Bool → Bool → (Int → Int → Bool → Bool → Option Bool) → Option Bool) (F4 : Int → (ByteArray → Option Bool) → Option Bool) (F5 : Int → Int → Bool → Bool → (ByteArray → Int → Bool → Bool → Option Bool) → Option Bool) (F6 : (Int → Option Bool) → Option Bool) (F7 : Int → Bool → Bool → (Int → Int → Bool → Bool → Option Bool) → Option Bool) (F8 : (Int → Option Bool) → Option Bool) (F9 : Int → Bool → Bool → (Int → Int → Bool → Bool → Option Bool) → Option Bool) (F10 : (Bool → Option Bool) → Option Bool) (F11 : Int → Bool → Bool → (Bool → Int → Bool → Bool → Option Bool) → Option Bool) (F12 : (Bool → Option Bool) → Option Bool) (n465 : Int) (n466 : Int) (k : KR) : execL Try.prog ht 6 (callfOf (law02_OctetNobody.calls F0 F1 F2 F3 F4 F5 F6 F7 F8 F9 F10 F11 F12)) (law02_OctetNobody.loops) 0 (codeOf Try.f6) ⟨[(.d ⟨(.int .i64), n465⟩), (.d ⟨(.int .i64), n466⟩)] ++ List.replicate (Try.f6.ntmps - ([(.d ⟨(.int .i64), n465⟩), (.d ⟨(.int .i64), n466⟩)] : List AV).length) .undef, [], 2⟩ (leave Try.prog Try.f6 k) = law02_OctetNobody.body F0 F1 F2 F3 F4 F5 F6 F7 F8 F9 F10 F11 F12 n465 n466 (fun y0 => k (.d ⟨.bool, y0⟩) []) := by kernel_rfl
theorem law02_OctetNobody.ok (d : Nat) (hd : 61 ≤ d) (n465 : Int) (n466 : Int) (k : KR) (hx : law02_OctetNobody n465 n466 (fun y0 => k (.d ⟨.bool, y0⟩) []) = some true) : callK Try.prog ht d 6 [(.d ⟨(.int .i64), n465⟩), (.d ⟨(.int .i64), n466⟩)] [] k = some true := by
  obtain ⟨d, rfl⟩ : ∃ e, d = e + 1 := ⟨d - 1, by omega⟩
  exact fn_ok (c := codeOf Try.f6) Try.func6 (by kernel_rfl) (rec := law02_OctetNobody.calls octet_Reader_Numv1 octet_Reader_Numv2 octet_Reader_Signedv1 octet_Reader_Signedv2 octet_Reader_Textv1 octet_Reader_Textv2 octet_Reader_Atv1 octet_Reader_Atv2 octet_Reader_Leftv1 octet_Reader_Leftv2 octet_Reader_Badv1 octet_Reader_Badv2 law02_known) (fun g a h k hx => by
    rcases octet_Reader_Numv1.look d (by omega) hx with hx | hx
    rotate_left
    · exact hx
    rcases octet_Reader_Numv2.look d (by omega) hx with hx | hx
    rotate_left
    · exact hx
    rcases octet_Reader_Signedv1.look d (by omega) hx with hx | hx
    rotate_left
    · exact hx
    rcases octet_Reader_Signedv2.look d (by omega) hx with hx | hx
    rotate_left
    · exact hx
    rcases octet_Reader_Textv1.look d (by omega) hx with hx | hx
    rotate_left
    · exact hx
    rcases octet_Reader_Textv2.look d (by omega) hx with hx | hx
    rotate_left
    · exact hx
    rcases octet_Reader_Atv1.look d (by omega) hx with hx | hx
    rotate_left
    · exact hx
    rcases octet_Reader_Atv2.look d (by omega) hx with hx | hx
    rotate_left
    · exact hx
    rcases octet_Reader_Leftv1.look d (by omega) hx with hx | hx
    rotate_left
    · exact hx
    rcases octet_Reader_Leftv2.look d (by omega) hx with hx | hx
    rotate_left
    · exact hx
    rcases octet_Reader_Badv1.look d (by omega) hx with hx | hx
    rotate_left
    · exact hx
    rcases octet_Reader_Badv2.look d (by omega) hx with hx | hx
    rotate_left
    · exact hx
    rcases law02_known.look d (by omega) hx with hx | hx
    rotate_left
    · exact hx
    cases hx) (loopf := law02_OctetNobody.loops) (by
    have e : loopsOf (law02_OctetNobody.loops) 0 (codeOf Try.f6) = [] := by kernel_rfl
    rw [e]
    intro p hp
    cases hp) ((law02_OctetNobody.eq octet_Reader_Numv1 octet_Reader_Numv2 octet_Reader_Signedv1 octet_Reader_Signedv2 octet_Reader_Textv1 octet_Reader_Textv2 octet_Reader_Atv1 octet_Reader_Atv2 octet_Reader_Leftv1 octet_Reader_Leftv2 octet_Reader_Badv1 octet_Reader_Badv2 law02_known n465 n466 k).trans hx)
theorem law02_OctetNobody.look (d : Nat) (hd : 61 ≤ d) {e : Option Bool} {g : FuncId} {a : List AV} {h : Heap} {k : KR} (hx : law02_OctetNobody.get law02_OctetNobody e g a h k = some true) : e = some true ∨ callK Try.prog ht d g a h k = some true := by
  unfold law02_OctetNobody.get at hx
  split at hx
  · exact .inr (law02_OctetNobody.ok d hd _ _ _ hx)
  · exact .inl hx
end Go.Proofs.Ytpmgmpaodjcfjaa.g
