/- What the functions come to that G reaches, as plain functions; written by a program of this work, each told by Lean. -/
import Derived.Test.YtbpjepcgokoaiaaMG1
namespace Go.Proofs.Ytbpjepcgokoaiaa.g
open Go.AX
set_option linter.unusedVariables false
set_option maxRecDepth 100000
set_option maxHeartbeats 4000000
/-- function 18: the loop in block 0 -/
noncomputable def ref13_Put_L0.body (ref13_Put_L0 : (List (Int × Int × Int × Bool × Int × Unit)) → Int → (List Int) → ((List Int) → Option Bool) → Option Bool) (ref02_Putv1 : (List Int) → Int → Int → ((List Int) → Option Bool) → Option Bool) (ref13_Flag : Bool → (Int → Option Bool) → Option Bool) (ts326 : List (Int × Int × Int × Bool × Int × Unit)) (n327 : Int) (ns328 : List Int) (k1 : (List Int) → Option Bool) : Option Bool :=
  (cond_ (decide (n327 < (((List.length ts326) : Nat) : Int))) (cond_ ((decide ((0 : Int) ≤ n327)) && (decide (n327 < (((List.length ts326) : Nat) : Int)))) (ref02_Putv1 ns328 (List.getD ts326 (Int.toNat n327) ((0 : Int), ((0 : Int), ((0 : Int), (false, ((0 : Int), ())))))).1 (2 : Int)
  (fun ns345 => (cond_ ((decide ((0 : Int) ≤ n327)) && (decide (n327 < (((List.length ts326) : Nat) : Int)))) (ref02_Putv1 ns345 (List.getD ts326 (Int.toNat n327) ((0 : Int), ((0 : Int), ((0 : Int), (false, ((0 : Int), ())))))).2.1 (2 : Int)
  (fun ns346 => (cond_ ((decide ((0 : Int) ≤ n327)) && (decide (n327 < (((List.length ts326) : Nat) : Int)))) (ref02_Putv1 ns346 (List.getD ts326 (Int.toNat n327) ((0 : Int), ((0 : Int), ((0 : Int), (false, ((0 : Int), ())))))).2.2.1 (2 : Int)
  (fun ns347 => (cond_ ((decide ((0 : Int) ≤ n327)) && (decide (n327 < (((List.length ts326) : Nat) : Int)))) (ref02_Putv1 ns347 (List.getD ts326 (Int.toNat n327) ((0 : Int), ((0 : Int), ((0 : Int), (false, ((0 : Int), ())))))).2.2.2.2.1 (2 : Int)
  (fun ns348 => (cond_ ((decide ((0 : Int) ≤ n327)) && (decide (n327 < (((List.length ts326) : Nat) : Int)))) (ref13_Flag (List.getD ts326 (Int.toNat n327) ((0 : Int), ((0 : Int), ((0 : Int), (false, ((0 : Int), ())))))).2.2.2.1
  (fun n350 => (ref02_Putv1 ns348 n350 (1 : Int)
  (fun ns351 => (ref13_Put_L0 ts326 (IntKind.wrap .i64 (n327 + (1 : Int))) ns351 k1))))) none))) none))) none))) none))) none) (k1 ns328))
noncomputable def ref13_Put_L0 : Nat → (List (Int × Int × Int × Bool × Int × Unit)) → Int → (List Int) → ((List Int) → Option Bool) → Option Bool
  | 0 => fun _ _ _ _ => none
  | n + 1 => ref13_Put_L0.body (ref13_Put_L0 n) ref02_Putv1 ref13_Flag
noncomputable def ref13_Put_L0.get (F : (List (Int × Int × Int × Bool × Int × Unit)) → Int → (List Int) → ((List Int) → Option Bool) → Option Bool) (e : Option Bool) (st : St) (k : KE) : Option Bool := match st with
  | ⟨sl, hp, m⟩ => match Nat.beq m 2, pickS 57 [0, 1, 5] sl, hp with
    | true, some [(.ref [1, 0]), (.bv 0 50 (.st [(.int .i64), (.int .i64), (.int .i64), .bool, (.int .i64)]) ts326), (.d ⟨(.int .i64), n327⟩)], [([1, 0], ⟨5, 1, (.data (.int .u8) ns328)⟩)] => F ts326 n327 ns328 (fun y0 => k (.exit 0) ⟨fillS 57 [0] [(.ref [1, 0])], [([1, 0], ⟨5, 1, (.data (.int .u8) y0)⟩)], 2⟩)
    | _, _, _ => e
noncomputable def ref13_Put_L0.calls (F0 : (List Int) → Int → Int → ((List Int) → Option Bool) → Option Bool) (F1 : Bool → (Int → Option Bool) → Option Bool) : RecF := fun g a h k => (ref02_Putv1.get F0 (ref13_Flag.get F1 none g a h k) g a h k)
noncomputable def ref13_Put_L0.loops : LoopF := fun b => none
set_option maxRecDepth 100000 in
theorem ref13_Put_L0.step (S : (List (Int × Int × Int × Bool × Int × Unit)) → Int → (List Int) → ((List Int) → Option Bool) → Option Bool) (F0 : (List Int) → Int → Int → ((List Int) → Option Bool) → Option Bool) (F1 : Bool → (Int → Option Bool) → Option Bool) (ts326 : List (Int × Int × Int × Bool × Int × Unit)) (n327 : Int) (ns328 : List Int) (k : KE) : execL Try.prog ht 18 (callfOf (ref13_Put_L0.calls F0 F1)) (ref13_Put_L0.loops) 0 (loopAt 0 (codeOf Try.f18)) ⟨fillS 57 [0, 1, 5] [(.ref [1, 0]), (.bv 0 50 (.st [(.int .i64), (.int .i64), (.int .i64), .bool, (.int .i64)]) ts326), (.d ⟨(.int .i64), n327⟩)], [([1, 0], ⟨5, 1, (.data (.int .u8) ns328)⟩)], 2⟩ (again (ref13_Put_L0.get S none) (plan Try.prog (ht 18 0)) k) = ref13_Put_L0.body S F0 F1 ts326 n327 ns328 (fun y0 => k (.exit 0) ⟨fillS 57 [0] [(.ref [1, 0])], [([1, 0], ⟨5, 1, (.data (.int .u8) y0)⟩)], 2⟩) := by kernel_rfl
theorem ref13_Put_L0.ok (d : Nat) (hd : 1 ≤ d) : ∀ n st k, ref13_Put_L0.get (ref13_Put_L0 n) none st k = some true → iter n (plan Try.prog (ht 18 0)) (fun st k => execK Try.prog ht 18 (callfOf (callK Try.prog ht d)) 0 (loopAt 0 (codeOf Try.f18)) st k) st k = some true :=
  loop_ok (lfn := fun n st k => ref13_Put_L0.get (ref13_Put_L0 n) none st k) (rec := ref13_Put_L0.calls ref02_Putv1 ref13_Flag) (fun g a h k hx => by
    rcases ref02_Putv1.look d (by omega) hx with hx | hx
    rotate_left
    · exact hx
    rcases ref13_Flag.look d (by omega) hx with hx | hx
    rotate_left
    · exact hx
    cases hx) (loopf := ref13_Put_L0.loops) (by
    have e : loopsOf (ref13_Put_L0.loops) 0 (loopAt 0 (codeOf Try.f18)) = [] := by kernel_rfl
    rw [e]
    intro p hp
    cases hp) (fun st k h => by
    obtain ⟨sl, hp, m⟩ := st
    unfold ref13_Put_L0.get at h
    dsimp only at h
    split at h
    · have h' : (none : Option Bool) = some true := h
      cases h'
    · cases h) (fun n st k h => by
    obtain ⟨sl, hp, m⟩ := st
    unfold ref13_Put_L0.get at h
    dsimp only at h
    split at h
    · rename_i h1 h2
      obtain rfl := pickS_ok h2
      obtain rfl := Nat.eq_of_beq_eq_true h1
      exact (ref13_Put_L0.step (ref13_Put_L0 n) ref02_Putv1 ref13_Flag _ _ _ k).trans h
    · cases h)
theorem ref13_Put_L0.look {F : (List (Int × Int × Int × Bool × Int × Unit)) → Int → (List Int) → ((List Int) → Option Bool) → Option Bool} {e : Option Bool} {st : St} {k : KE} (hx : ref13_Put_L0.get F e st k = some true) : e = some true ∨ ref13_Put_L0.get F none st k = some true := by
  obtain ⟨sl, hp, m⟩ := st
  unfold ref13_Put_L0.get at hx ⊢
  dsimp only at hx ⊢
  split at hx
  · exact .inr hx
  · exact .inl hx
/-- function 18: sheerleg/sheerlegref13.Put -/
noncomputable def ref13_Put.body (ref02_Put : (List Int) → Int → Int → ((List Int) → Option Bool) → Option Bool) (ref13_Put_L0 : (List (Int × Int × Int × Bool × Int × Unit)) → Int → (List Int) → ((List Int) → Option Bool) → Option Bool) (ns307 : List Int) (ts308 : List (Int × Int × Int × Bool × Int × Unit)) (k1 : (List Int) → Option Bool) : Option Bool :=
  (ref02_Put ns307 (((List.length ts308) : Nat) : Int) (2 : Int)
  (fun ns325 => (ref13_Put_L0 ts308 (0 : Int) ns325
  (fun ns352 => (k1 ns352)))))
noncomputable def ref13_Put (ns307 : List Int) (ts308 : List (Int × Int × Int × Bool × Int × Unit)) (k1 : (List Int) → Option Bool) : Option Bool := ref13_Put.body ref02_Put (ref13_Put_L0 ROUNDS) ns307 ts308 k1
noncomputable def ref13_Put.get (F : (List Int) → (List (Int × Int × Int × Bool × Int × Unit)) → ((List Int) → Option Bool) → Option Bool) (e : Option Bool) (g : FuncId) (a : List AV) (h : Heap) (k : KR) : Option Bool := match g, a, h with
  | 18, [(.bv 0 5 (.int .u8) ns307), (.bv 0 50 (.st [(.int .i64), (.int .i64), (.int .i64), .bool, (.int .i64)]) ts308)], [] => F ns307 ts308 (fun y0 => k (.ref [1, 0]) [([1, 0], ⟨5, 1, (.data (.int .u8) y0)⟩)])
  | _, _, _ => e
noncomputable def ref13_Put.calls (F0 : (List Int) → Int → Int → ((List Int) → Option Bool) → Option Bool) : RecF := fun g a h k => (ref02_Put.get F0 none g a h k)
noncomputable def ref13_Put.loops (L0 : (List (Int × Int × Int × Bool × Int × Unit)) → Int → (List Int) → ((List Int) → Option Bool) → Option Bool) : LoopF := fun b => match Nat.beq b 0 with | true => some (fun st k => (ref13_Put_L0.get L0 none st k)) | false => none
set_option maxRecDepth 100000 in
theorem ref13_Put.eq (F0 : (List Int) → Int → Int → ((List Int) → Option Bool) → Option Bool) (L0 : (List (Int × Int × Int × Bool × Int × Unit)) → Int → (List Int) → ((List Int) → Option Bool) → Option Bool) (ns307 : List Int) (ts308 : List (Int × Int × Int × Bool × Int × Unit)) (k : KR) : execL Try.prog ht 18 (callfOf (ref13_Put.calls F0)) (ref13_Put.loops L0) 0 (codeOf Try.f18) ⟨[(.bv 0 5 (.int .u8) ns307), (.bv 0 50 (.st [(.int .i64), (.int .i64), (.int .i64), .bool, (.int .i64)]) ts308)] ++ List.replicate (Try.f18.ntmps - ([(.bv 0 5 (.int .u8) ns307), (.bv 0 50 (.st [(.int .i64), (.int .i64), (.int .i64), .bool, (.int .i64)]) ts308)] : List AV).length) .undef, [], 2⟩ (leave Try.prog Try.f18 k) = ref13_Put.body F0 L0 ns307 ts308 (fun y0 => k (.ref [1, 0]) [([1, 0], ⟨5, 1, (.data (.int .u8) y0)⟩)]) := by kernel_rfl
theorem ref13_Put.ok (d : Nat) (hd : 2 ≤ d) (ns307 : List Int) (ts308 : List (Int × Int × Int × Bool × Int × Unit)) (k : KR) (hx : ref13_Put ns307 ts308 (fun y0 => k (.ref [1, 0]) [([1, 0], ⟨5, 1, (.data (.int .u8) y0)⟩)]) = some true) : callK Try.prog ht d 18 [(.bv 0 5 (.int .u8) ns307), (.bv 0 50 (.st [(.int .i64), (.int .i64), (.int .i64), .bool, (.int .i64)]) ts308)] [] k = some true := by
  obtain ⟨d, rfl⟩ : ∃ e, d = e + 1 := ⟨d - 1, by omega⟩
  exact fn_ok (c := codeOf Try.f18) Try.func18 (by kernel_rfl) (rec := ref13_Put.calls ref02_Put) (fun g a h k hx => by
    rcases ref02_Put.look d (by omega) hx with hx | hx
    rotate_left
    · exact hx
    cases hx) (loopf := ref13_Put.loops (ref13_Put_L0 ROUNDS)) (by
    have e : loopsOf (ref13_Put.loops (ref13_Put_L0 ROUNDS)) 0 (codeOf Try.f18) = [(0, loopAt 0 (codeOf Try.f18))] := by kernel_rfl
    rw [e]
    intro p hp
    simp only [List.mem_cons, List.not_mem_nil, or_false] at hp
    rcases hp with rfl
    · refine loopRef_of (callf := callfOf (callK Try.prog ht d)) (callfOf_ref (callK_mono d)) fun lf st k hb hx => ?_
      cases hb
      rcases ref13_Put_L0.look hx with hx | hx
      rotate_left
      · exact ref13_Put_L0.ok d (by omega) _ _ _ hx
      cases hx) ((ref13_Put.eq ref02_Put (ref13_Put_L0 ROUNDS) ns307 ts308 k).trans hx)
theorem ref13_Put.look (d : Nat) (hd : 2 ≤ d) {e : Option Bool} {g : FuncId} {a : List AV} {h : Heap} {k : KR} (hx : ref13_Put.get ref13_Put e g a h k = some true) : e = some true ∨ callK Try.prog ht d g a h k = some true := by
  unfold ref13_Put.get at hx
  split at hx
  · exact .inr (ref13_Put.ok d hd _ _ _ hx)
  · exact .inl hx
/-- function 19: sheerleg/octet.New -/
noncomputable def octet_New.body (ns354 : List Int) (k1 : Int → Bool → Bool → (List Int) → Option Bool) : Option Bool :=
  (cond_ (Nat.ble (((0 : Nat) + (List.length ns354)) * (1 : Nat)) (140737488355328 : Nat)) (k1 (0 : Int) true false ([] ++ ns354)) none)
noncomputable def octet_New (ns354 : List Int) (k1 : Int → Bool → Bool → (List Int) → Option Bool) : Option Bool := octet_New.body ns354 k1
noncomputable def octet_New.get (F : (List Int) → (Int → Bool → Bool → (List Int) → Option Bool) → Option Bool) (e : Option Bool) (g : FuncId) (a : List AV) (h : Heap) (k : KR) : Option Bool := match g, a, h with
  | 19, [(.bv 0 5 (.int .u8) ns354)], [] => F ns354 (fun y0 y1 y2 y3 => k (.ptr [1, 0] 0 0) [([1, 0], ⟨57, 4, (.mix [(.agg [(.ref [1, 1]), (.d ⟨(.int .i64), y0⟩), (.d ⟨.bool, y1⟩), (.d ⟨.bool, y2⟩)])])⟩), ([1, 1], ⟨5, 1, (.data (.int .u8) y3)⟩)])
  | _, _, _ => e
noncomputable def octet_New.calls : RecF := fun g a h k => none
noncomputable def octet_New.loops : LoopF := fun b => none
set_option maxRecDepth 100000 in
theorem octet_New.eq (ns354 : List Int) (k : KR) : execL Try.prog ht 19 (callfOf (octet_New.calls)) (octet_New.loops) 0 (codeOf Try.f19) ⟨[(.bv 0 5 (.int .u8) ns354)] ++ List.replicate (Try.f19.ntmps - ([(.bv 0 5 (.int .u8) ns354)] : List AV).length) .undef, [], 2⟩ (leave Try.prog Try.f19 k) = octet_New.body ns354 (fun y0 y1 y2 y3 => k (.ptr [1, 0] 0 0) [([1, 0], ⟨57, 4, (.mix [(.agg [(.ref [1, 1]), (.d ⟨(.int .i64), y0⟩), (.d ⟨.bool, y1⟩), (.d ⟨.bool, y2⟩)])])⟩), ([1, 1], ⟨5, 1, (.data (.int .u8) y3)⟩)]) := by kernel_rfl
theorem octet_New.ok (d : Nat) (hd : 1 ≤ d) (ns354 : List Int) (k : KR) (hx : octet_New ns354 (fun y0 y1 y2 y3 => k (.ptr [1, 0] 0 0) [([1, 0], ⟨57, 4, (.mix [(.agg [(.ref [1, 1]), (.d ⟨(.int .i64), y0⟩), (.d ⟨.bool, y1⟩), (.d ⟨.bool, y2⟩)])])⟩), ([1, 1], ⟨5, 1, (.data (.int .u8) y3)⟩)]) = some true) : callK Try.prog ht d 19 [(.bv 0 5 (.int .u8) ns354)] [] k = some true := by
  obtain ⟨d, rfl⟩ : ∃ e, d = e + 1 := ⟨d - 1, by omega⟩
  exact fn_ok (c := codeOf Try.f19) Try.func19 (by kernel_rfl) (rec := octet_New.calls) (fun g a h k hx => by
    cases hx) (loopf := octet_New.loops) (by
    have e : loopsOf (octet_New.loops) 0 (codeOf Try.f19) = [] := by kernel_rfl
    rw [e]
    intro p hp
    cases hp) ((octet_New.eq ns354 k).trans hx)
theorem octet_New.look (d : Nat) (hd : 1 ≤ d) {e : Option Bool} {g : FuncId} {a : List AV} {h : Heap} {k : KR} (hx : octet_New.get octet_New e g a h k = some true) : e = some true ∨ callK Try.prog ht d g a h k = some true := by
  unfold octet_New.get at hx
  split at hx
  · exact .inr (octet_New.ok d hd _ _ hx)
  · exact .inl hx
/-- function 30: (*sheerleg/octet.Reader).Bad -/
noncomputable def octet_Reader_Bad.body (n378 : Int) (b379 : Bool) (b380 : Bool) (ns381 : List Int) (k1 : Bool → Int → Bool → Bool → (List Int) → Option Bool) : Option Bool :=
  (cond_ (! (! b379)) (k1 b380 n378 b379 b380 ns381) (k1 true n378 b379 b380 ns381))
noncomputable def octet_Reader_Bad (n378 : Int) (b379 : Bool) (b380 : Bool) (ns381 : List Int) (k1 : Bool → Int → Bool → Bool → (List Int) → Option Bool) : Option Bool := octet_Reader_Bad.body n378 b379 b380 ns381 k1
noncomputable def octet_Reader_Bad.get (F : Int → Bool → Bool → (List Int) → (Bool → Int → Bool → Bool → (List Int) → Option Bool) → Option Bool) (e : Option Bool) (g : FuncId) (a : List AV) (h : Heap) (k : KR) : Option Bool := match g, a, h with
  | 30, [(.ptr [0, 0] 0 0)], [([0, 0], ⟨57, 4, (.mix [(.agg [(.ref [0, 1]), (.d ⟨(.int .i64), n378⟩), (.d ⟨.bool, b379⟩), (.d ⟨.bool, b380⟩)])])⟩), ([0, 1], ⟨5, 1, (.data (.int .u8) ns381)⟩)] => F n378 b379 b380 ns381 (fun y0 y1 y2 y3 y4 => k (.d ⟨.bool, y0⟩) [([0, 0], ⟨57, 4, (.mix [(.agg [(.ref [0, 1]), (.d ⟨(.int .i64), y1⟩), (.d ⟨.bool, y2⟩), (.d ⟨.bool, y3⟩)])])⟩), ([0, 1], ⟨5, 1, (.data (.int .u8) y4)⟩)])
  | _, _, _ => e
noncomputable def octet_Reader_Bad.calls : RecF := fun g a h k => none
noncomputable def octet_Reader_Bad.loops : LoopF := fun b => none
set_option maxRecDepth 100000 in
theorem octet_Reader_Bad.eq (n378 : Int) (b379 : Bool) (b380 : Bool) (ns381 : List Int) (k : KR) : execL Try.prog ht 30 (callfOf (octet_Reader_Bad.calls)) (octet_Reader_Bad.loops) 0 (codeOf Try.f30) ⟨[(.ptr [0, 0] 0 0)] ++ List.replicate (Try.f30.ntmps - ([(.ptr [0, 0] 0 0)] : List AV).length) .undef, [([0, 0], ⟨57, 4, (.mix [(.agg [(.ref [0, 1]), (.d ⟨(.int .i64), n378⟩), (.d ⟨.bool, b379⟩), (.d ⟨.bool, b380⟩)])])⟩), ([0, 1], ⟨5, 1, (.data (.int .u8) ns381)⟩)], 2⟩ (leave Try.prog Try.f30 k) = octet_Reader_Bad.body n378 b379 b380 ns381 (fun y0 y1 y2 y3 y4 => k (.d ⟨.bool, y0⟩) [([0, 0], ⟨57, 4, (.mix [(.agg [(.ref [0, 1]), (.d ⟨(.int .i64), y1⟩), (.d ⟨.bool, y2⟩), (.d ⟨.bool, y3⟩)])])⟩), ([0, 1], ⟨5, 1, (.data (.int .u8) y4)⟩)]) := by kernel_rfl
theorem octet_Reader_Bad.ok (d : Nat) (hd : 1 ≤ d) (n378 : Int) (b379 : Bool) (b380 : Bool) (ns381 : List Int) (k : KR) (hx : octet_Reader_Bad n378 b379 b380 ns381 (fun y0 y1 y2 y3 y4 => k (.d ⟨.bool, y0⟩) [([0, 0], ⟨57, 4, (.mix [(.agg [(.ref [0, 1]), (.d ⟨(.int .i64), y1⟩), (.d ⟨.bool, y2⟩), (.d ⟨.bool, y3⟩)])])⟩), ([0, 1], ⟨5, 1, (.data (.int .u8) y4)⟩)]) = some true) : callK Try.prog ht d 30 [(.ptr [0, 0] 0 0)] [([0, 0], ⟨57, 4, (.mix [(.agg [(.ref [0, 1]), (.d ⟨(.int .i64), n378⟩), (.d ⟨.bool, b379⟩), (.d ⟨.bool, b380⟩)])])⟩), ([0, 1], ⟨5, 1, (.data (.int .u8) ns381)⟩)] k = some true := by
  obtain ⟨d, rfl⟩ : ∃ e, d = e + 1 := ⟨d - 1, by omega⟩
  exact fn_ok (c := codeOf Try.f30) Try.func30 (by kernel_rfl) (rec := octet_Reader_Bad.calls) (fun g a h k hx => by
    cases hx) (loopf := octet_Reader_Bad.loops) (by
    have e : loopsOf (octet_Reader_Bad.loops) 0 (codeOf Try.f30) = [] := by kernel_rfl
    rw [e]
    intro p hp
    cases hp) ((octet_Reader_Bad.eq n378 b379 b380 ns381 k).trans hx)
theorem octet_Reader_Bad.look (d : Nat) (hd : 1 ≤ d) {e : Option Bool} {g : FuncId} {a : List AV} {h : Heap} {k : KR} (hx : octet_Reader_Bad.get octet_Reader_Bad e g a h k = some true) : e = some true ∨ callK Try.prog ht d g a h k = some true := by
  unfold octet_Reader_Bad.get at hx
  split at hx
  · exact .inr (octet_Reader_Bad.ok d hd _ _ _ _ _ hx)
  · exact .inl hx
/-- function 35: (*sheerleg/octet.Reader).Left -/
noncomputable def octet_Reader_Left.body (n387 : Int) (b388 : Bool) (b389 : Bool) (ns390 : List Int) (k1 : Int → Int → Bool → Bool → (List Int) → Option Bool) : Option Bool :=
  (k1 (IntKind.wrap .i64 ((((List.length ns390) : Nat) : Int) - n387)) n387 b388 b389 ns390)
noncomputable def octet_Reader_Left (n387 : Int) (b388 : Bool) (b389 : Bool) (ns390 : List Int) (k1 : Int → Int → Bool → Bool → (List Int) → Option Bool) : Option Bool := octet_Reader_Left.body n387 b388 b389 ns390 k1
noncomputable def octet_Reader_Left.get (F : Int → Bool → Bool → (List Int) → (Int → Int → Bool → Bool → (List Int) → Option Bool) → Option Bool) (e : Option Bool) (g : FuncId) (a : List AV) (h : Heap) (k : KR) : Option Bool := match g, a, h with
  | 35, [(.ptr [0, 0] 0 0)], [([0, 0], ⟨57, 4, (.mix [(.agg [(.ref [0, 1]), (.d ⟨(.int .i64), n387⟩), (.d ⟨.bool, b388⟩), (.d ⟨.bool, b389⟩)])])⟩), ([0, 1], ⟨5, 1, (.data (.int .u8) ns390)⟩)] => F n387 b388 b389 ns390 (fun y0 y1 y2 y3 y4 => k (.d ⟨(.int .i64), y0⟩) [([0, 0], ⟨57, 4, (.mix [(.agg [(.ref [0, 1]), (.d ⟨(.int .i64), y1⟩), (.d ⟨.bool, y2⟩), (.d ⟨.bool, y3⟩)])])⟩), ([0, 1], ⟨5, 1, (.data (.int .u8) y4)⟩)])
  | _, _, _ => e
noncomputable def octet_Reader_Left.calls : RecF := fun g a h k => none
noncomputable def octet_Reader_Left.loops : LoopF := fun b => none
set_option maxRecDepth 100000 in
theorem octet_Reader_Left.eq (n387 : Int) (b388 : Bool) (b389 : Bool) (ns390 : List Int) (k : KR) : execL Try.prog ht 35 (callfOf (octet_Reader_Left.calls)) (octet_Reader_Left.loops) 0 (codeOf Try.f35) ⟨[(.ptr [0, 0] 0 0)] ++ List.replicate (Try.f35.ntmps - ([(.ptr [0, 0] 0 0)] : List AV).length) .undef, [([0, 0], ⟨57, 4, (.mix [(.agg [(.ref [0, 1]), (.d ⟨(.int .i64), n387⟩), (.d ⟨.bool, b388⟩), (.d ⟨.bool, b389⟩)])])⟩), ([0, 1], ⟨5, 1, (.data (.int .u8) ns390)⟩)], 2⟩ (leave Try.prog Try.f35 k) = octet_Reader_Left.body n387 b388 b389 ns390 (fun y0 y1 y2 y3 y4 => k (.d ⟨(.int .i64), y0⟩) [([0, 0], ⟨57, 4, (.mix [(.agg [(.ref [0, 1]), (.d ⟨(.int .i64), y1⟩), (.d ⟨.bool, y2⟩), (.d ⟨.bool, y3⟩)])])⟩), ([0, 1], ⟨5, 1, (.data (.int .u8) y4)⟩)]) := by kernel_rfl
theorem octet_Reader_Left.ok (d : Nat) (hd : 1 ≤ d) (n387 : Int) (b388 : Bool) (b389 : Bool) (ns390 : List Int) (k : KR) (hx : octet_Reader_Left n387 b388 b389 ns390 (fun y0 y1 y2 y3 y4 => k (.d ⟨(.int .i64), y0⟩) [([0, 0], ⟨57, 4, (.mix [(.agg [(.ref [0, 1]), (.d ⟨(.int .i64), y1⟩), (.d ⟨.bool, y2⟩), (.d ⟨.bool, y3⟩)])])⟩), ([0, 1], ⟨5, 1, (.data (.int .u8) y4)⟩)]) = some true) : callK Try.prog ht d 35 [(.ptr [0, 0] 0 0)] [([0, 0], ⟨57, 4, (.mix [(.agg [(.ref [0, 1]), (.d ⟨(.int .i64), n387⟩), (.d ⟨.bool, b388⟩), (.d ⟨.bool, b389⟩)])])⟩), ([0, 1], ⟨5, 1, (.data (.int .u8) ns390)⟩)] k = some true := by
  obtain ⟨d, rfl⟩ : ∃ e, d = e + 1 := ⟨d - 1, by omega⟩
  exact fn_ok (c := codeOf Try.f35) Try.func35 (by kernel_rfl) (rec := octet_Reader_Left.calls) (fun g a h k hx => by
    cases hx) (loopf := octet_Reader_Left.loops) (by
    have e : loopsOf (octet_Reader_Left.loops) 0 (codeOf Try.f35) = [] := by kernel_rfl
    rw [e]
    intro p hp
    cases hp) ((octet_Reader_Left.eq n387 b388 b389 ns390 k).trans hx)
theorem octet_Reader_Left.look (d : Nat) (hd : 1 ≤ d) {e : Option Bool} {g : FuncId} {a : List AV} {h : Heap} {k : KR} (hx : octet_Reader_Left.get octet_Reader_Left e g a h k = some true) : e = some true ∨ callK Try.prog ht d g a h k = some true := by
  unfold octet_Reader_Left.get at hx
  split at hx
  · exact .inr (octet_Reader_Left.ok d hd _ _ _ _ _ hx)
  · exact .inl hx
/-- function 36: (*sheerleg/octet.Reader).spoil -/
noncomputable def octet_Reader_spoil.body (n396 : Int) (b397 : Bool) (b398 : Bool) (ns399 : List Int) (k1 : Int → Bool → Bool → (List Int) → Option Bool) : Option Bool :=
  (k1 n396 b397 true ns399)
noncomputable def octet_Reader_spoil (n396 : Int) (b397 : Bool) (b398 : Bool) (ns399 : List Int) (k1 : Int → Bool → Bool → (List Int) → Option Bool) : Option Bool := octet_Reader_spoil.body n396 b397 b398 ns399 k1
noncomputable def octet_Reader_spoil.get (F : Int → Bool → Bool → (List Int) → (Int → Bool → Bool → (List Int) → Option Bool) → Option Bool) (e : Option Bool) (g : FuncId) (a : List AV) (h : Heap) (k : KR) : Option Bool := match g, a, h with
  | 36, [(.ptr [0, 0] 0 0)], [([0, 0], ⟨57, 4, (.mix [(.agg [(.ref [0, 1]), (.d ⟨(.int .i64), n396⟩), (.d ⟨.bool, b397⟩), (.d ⟨.bool, b398⟩)])])⟩), ([0, 1], ⟨5, 1, (.data (.int .u8) ns399)⟩)] => F n396 b397 b398 ns399 (fun y0 y1 y2 y3 => k (.tup []) [([0, 0], ⟨57, 4, (.mix [(.agg [(.ref [0, 1]), (.d ⟨(.int .i64), y0⟩), (.d ⟨.bool, y1⟩), (.d ⟨.bool, y2⟩)])])⟩), ([0, 1], ⟨5, 1, (.data (.int .u8) y3)⟩)])
  | _, _, _ => e
noncomputable def octet_Reader_spoil.calls : RecF := fun g a h k => none
noncomputable def octet_Reader_spoil.loops : LoopF := fun b => none
set_option maxRecDepth 100000 in
theorem octet_Reader_spoil.eq (n396 : Int) (b397 : Bool) (b398 : Bool) (ns399 : List Int) (k : KR) : execL Try.prog ht 36 (callfOf (octet_Reader_spoil.calls)) (octet_Reader_spoil.loops) 0 (codeOf Try.f36) ⟨[(.ptr [0, 0] 0 0)] ++ List.replicate (Try.f36.ntmps - ([(.ptr [0, 0] 0 0)] : List AV).length) .undef, [([0, 0], ⟨57, 4, (.mix [(.agg [(.ref [0, 1]), (.d ⟨(.int .i64), n396⟩), (.d ⟨.bool, b397⟩), (.d ⟨.bool, b398⟩)])])⟩), ([0, 1], ⟨5, 1, (.data (.int .u8) ns399)⟩)], 2⟩ (leave Try.prog Try.f36 k) = octet_Reader_spoil.body n396 b397 b398 ns399 (fun y0 y1 y2 y3 => k (.tup []) [([0, 0], ⟨57, 4, (.mix [(.agg [(.ref [0, 1]), (.d ⟨(.int .i64), y0⟩), (.d ⟨.bool, y1⟩), (.d ⟨.bool, y2⟩)])])⟩), ([0, 1], ⟨5, 1, (.data (.int .u8) y3)⟩)]) := by kernel_rfl
theorem octet_Reader_spoil.ok (d : Nat) (hd : 1 ≤ d) (n396 : Int) (b397 : Bool) (b398 : Bool) (ns399 : List Int) (k : KR) (hx : octet_Reader_spoil n396 b397 b398 ns399 (fun y0 y1 y2 y3 => k (.tup []) [([0, 0], ⟨57, 4, (.mix [(.agg [(.ref [0, 1]), (.d ⟨(.int .i64), y0⟩), (.d ⟨.bool, y1⟩), (.d ⟨.bool, y2⟩)])])⟩), ([0, 1], ⟨5, 1, (.data (.int .u8) y3)⟩)]) = some true) : callK Try.prog ht d 36 [(.ptr [0, 0] 0 0)] [([0, 0], ⟨57, 4, (.mix [(.agg [(.ref [0, 1]), (.d ⟨(.int .i64), n396⟩), (.d ⟨.bool, b397⟩), (.d ⟨.bool, b398⟩)])])⟩), ([0, 1], ⟨5, 1, (.data (.int .u8) ns399)⟩)] k = some true := by
  obtain ⟨d, rfl⟩ : ∃ e, d = e + 1 := ⟨d - 1, by omega⟩
  exact fn_ok (c := codeOf Try.f36) Try.func36 (by kernel_rfl) (rec := octet_Reader_spoil.calls) (fun g a h k hx => by
    cases hx) (loopf := octet_Reader_spoil.loops) (by
    have e : loopsOf (octet_Reader_spoil.loops) 0 (codeOf Try.f36) = [] := by kernel_rfl
    rw [e]
    intro p hp
    cases hp) ((octet_Reader_spoil.eq n396 b397 b398 ns399 k).trans hx)
theorem octet_Reader_spoil.look (d : Nat) (hd : 1 ≤ d) {e : Option Bool} {g : FuncId} {a : List AV} {h : Heap} {k : KR} (hx : octet_Reader_spoil.get octet_Reader_spoil e g a h k = some true) : e = some true ∨ callK Try.prog ht d g a h k = some true := by
  unfold octet_Reader_spoil.get at hx
  split at hx
  · exact .inr (octet_Reader_spoil.ok d hd _ _ _ _ _ hx)
  · exact .inl hx
/-- function 34: (*sheerleg/octet.Reader).take -/
noncomputable def octet_Reader_take.body (octet_Reader_Bad : Int → Bool → Bool → (List Int) → (Bool → Int → Bool → Bool → (List Int) → Option Bool) → Option Bool) (octet_Reader_Left : Int → Bool → Bool → (List Int) → (Int → Int → Bool → Bool → (List Int) → Option Bool) → Option Bool) (octet_Reader_spoil : Int → Bool → Bool → (List Int) → (Int → Bool → Bool → (List Int) → Option Bool) → Option Bool) (n373 : Int) (n374 : Int) (b375 : Bool) (b376 : Bool) (ns377 : List Int) (k1 : Int → Bool → Bool → (List Int) → (List Int) → Option Bool) (k2 : Nat → Nat → Int → Bool → Bool → (List Int) → Option Bool) : Option Bool :=
  (octet_Reader_Bad n374 b375 b376 ns377
  (fun b382 n383 b384 b385 ns386 => (cond_ (! b382) (cond_ (! (decide (n373 < (0 : Int)))) (octet_Reader_Left n383 b384 b385 ns386
  (fun n391 n392 b393 b394 ns395 => (cond_ (decide (n373 > n391)) (octet_Reader_spoil n392 b393 b394 ns395
  (fun n400 b401 b402 ns403 => (k1 n400 b401 b402 ns403 []))) (cond_ (((decide ((0 : Int) ≤ (IntKind.wrap .i64 ((IntKind.wrap .i64 (n392 + n373)) - n373)))) && (decide ((IntKind.wrap .i64 ((IntKind.wrap .i64 (n392 + n373)) - n373)) ≤ (IntKind.wrap .i64 (n392 + n373))))) && (decide ((IntKind.wrap .i64 (n392 + n373)) ≤ (((List.length ns395) : Nat) : Int)))) (k2 (Int.toNat (IntKind.wrap .i64 ((IntKind.wrap .i64 (n392 + n373)) - n373))) (Int.toNat ((IntKind.wrap .i64 (n392 + n373)) - (IntKind.wrap .i64 ((IntKind.wrap .i64 (n392 + n373)) - n373)))) (IntKind.wrap .i64 (n392 + n373)) b393 b394 ns395) none)))) (octet_Reader_spoil n383 b384 b385 ns386
  (fun n404 b405 b406 ns407 => (k1 n404 b405 b406 ns407 [])))) (octet_Reader_spoil n383 b384 b385 ns386
  (fun n408 b409 b410 ns411 => (k1 n408 b409 b410 ns411 []))))))
noncomputable def octet_Reader_take (n373 : Int) (n374 : Int) (b375 : Bool) (b376 : Bool) (ns377 : List Int) (k1 : Int → Bool → Bool → (List Int) → (List Int) → Option Bool) (k2 : Nat → Nat → Int → Bool → Bool → (List Int) → Option Bool) : Option Bool := octet_Reader_take.body octet_Reader_Bad octet_Reader_Left octet_Reader_spoil n373 n374 b375 b376 ns377 k1 k2
noncomputable def octet_Reader_take.get (F : Int → Int → Bool → Bool → (List Int) → (Int → Bool → Bool → (List Int) → (List Int) → Option Bool) → (Nat → Nat → Int → Bool → Bool → (List Int) → Option Bool) → Option Bool) (e : Option Bool) (g : FuncId) (a : List AV) (h : Heap) (k : KR) : Option Bool := match g, a, h with
  | 34, [(.ptr [0, 0] 0 0), (.d ⟨(.int .i64), n373⟩)], [([0, 0], ⟨57, 4, (.mix [(.agg [(.ref [0, 1]), (.d ⟨(.int .i64), n374⟩), (.d ⟨.bool, b375⟩), (.d ⟨.bool, b376⟩)])])⟩), ([0, 1], ⟨5, 1, (.data (.int .u8) ns377)⟩)] => F n373 n374 b375 b376 ns377 (fun y0 y1 y2 y3 y4 => k (.ref [1, 0]) [([0, 0], ⟨57, 4, (.mix [(.agg [(.ref [0, 1]), (.d ⟨(.int .i64), y0⟩), (.d ⟨.bool, y1⟩), (.d ⟨.bool, y2⟩)])])⟩), ([0, 1], ⟨5, 1, (.data (.int .u8) y3)⟩), ([1, 0], ⟨5, 1, (.data (.int .u8) y4)⟩)]) (fun y0 y1 y2 y3 y4 y5 => k (.cut [0, 1] y0 y1) [([0, 0], ⟨57, 4, (.mix [(.agg [(.ref [0, 1]), (.d ⟨(.int .i64), y2⟩), (.d ⟨.bool, y3⟩), (.d ⟨.bool, y4⟩)])])⟩), ([0, 1], ⟨5, 1, (.data (.int .u8) y5)⟩)])
  | _, _, _ => e
noncomputable def octet_Reader_take.calls (F0 : Int → Bool → Bool → (List Int) → (Bool → Int → Bool → Bool → (List Int) → Option Bool) → Option Bool) (F1 : Int → Bool → Bool → (List Int) → (Int → Int → Bool → Bool → (List Int) → Option Bool) → Option Bool) (F2 : Int → Bool → Bool → (List Int) → (Int → Bool → Bool → (List Int) → Option Bool) → Option Bool) : RecF := fun g a h k => (octet_Reader_Bad.get F0 (octet_Reader_Left.get F1 (octet_Reader_spoil.get F2 none g a h k) g a h k) g a h k)
noncomputable def octet_Reader_take.loops : LoopF := fun b => none
set_option maxRecDepth 100000 in
theorem octet_Reader_take.eq (F0 : Int → Bool → Bool → (List Int) → (Bool → Int → Bool → Bool → (List Int) → Option Bool) → Option Bool) (F1 : Int → Bool → Bool → (List Int) → (Int → Int → Bool → Bool → (List Int) → Option Bool) → Option Bool) (F2 : Int → Bool → Bool → (List Int) → (Int → Bool → Bool → (List Int) → Option Bool) → Option Bool) (n373 : Int) (n374 : Int) (b375 : Bool) (b376 : Bool) (ns377 : List Int) (k : KR) : execL Try.prog ht 34 (callfOf (octet_Reader_take.calls F0 F1 F2)) (octet_Reader_take.loops) 0 (codeOf Try.f34) ⟨[(.ptr [0, 0] 0 0), (.d ⟨(.int .i64), n373⟩)] ++ List.replicate (Try.f34.ntmps - ([(.ptr [0, 0] 0 0), (.d ⟨(.int .i64), n373⟩)] : List AV).length) .undef, [([0, 0], ⟨57, 4, (.mix [(.agg [(.ref [0, 1]), (.d ⟨(.int .i64), n374⟩), (.d ⟨.bool, b375⟩), (.d ⟨.bool, b376⟩)])])⟩), ([0, 1], ⟨5, 1, (.data (.int .u8) ns377)⟩)], 2⟩ (leave Try.prog Try.f34 k) = octet_Reader_take.body F0 F1 F2 n373 n374 b375 b376 ns377 (fun y0 y1 y2 y3 y4 => k (.ref [1, 0]) [([0, 0], ⟨57, 4, (.mix [(.agg [(.ref [0, 1]), (.d ⟨(.int .i64), y0⟩), (.d ⟨.bool, y1⟩), (.d ⟨.bool, y2⟩)])])⟩), ([0, 1], ⟨5, 1, (.data (.int .u8) y3)⟩), ([1, 0], ⟨5, 1, (.data (.int .u8) y4)⟩)]) (fun y0 y1 y2 y3 y4 y5 => k (.cut [0, 1] y0 y1) [([0, 0], ⟨57, 4, (.mix [(.agg [(.ref [0, 1]), (.d ⟨(.int .i64), y2⟩), (.d ⟨.bool, y3⟩), (.d ⟨.bool, y4⟩)])])⟩), ([0, 1], ⟨5, 1, (.data (.int .u8) y5)⟩)]) := by kernel_rfl
theorem octet_Reader_take.ok (d : Nat) (hd : 2 ≤ d) (n373 : Int) (n374 : Int) (b375 : Bool) (b376 : Bool) (ns377 : List Int) (k : KR) (hx : octet_Reader_take n373 n374 b375 b376 ns377 (fun y0 y1 y2 y3 y4 => k (.ref [1, 0]) [([0, 0], ⟨57, 4, (.mix [(.agg [(.ref [0, 1]), (.d ⟨(.int .i64), y0⟩), (.d ⟨.bool, y1⟩), (.d ⟨.bool, y2⟩)])])⟩), ([0, 1], ⟨5, 1, (.data (.int .u8) y3)⟩), ([1, 0], ⟨5, 1, (.data (.int .u8) y4)⟩)]) (fun y0 y1 y2 y3 y4 y5 => k (.cut [0, 1] y0 y1) [([0, 0], ⟨57, 4, (.mix [(.agg [(.ref [0, 1]), (.d ⟨(.int .i64), y2⟩), (.d ⟨.bool, y3⟩), (.d ⟨.bool, y4⟩)])])⟩), ([0, 1], ⟨5, 1, (.data (.int .u8) y5)⟩)]) = some true) : callK Try.prog ht d 34 [(.ptr [0, 0] 0 0), (.d ⟨(.int .i64), n373⟩)] [([0, 0], ⟨57, 4, (.mix [(.agg [(.ref [0, 1]), (.d ⟨(.int .i64), n374⟩), (.d ⟨.bool, b375⟩), (.d ⟨.bool, b376⟩)])])⟩), ([0, 1], ⟨5, 1, (.data (.int .u8) ns377)⟩)] k = some true := by
  obtain ⟨d, rfl⟩ : ∃ e, d = e + 1 := ⟨d - 1, by omega⟩
  exact fn_ok (c := codeOf Try.f34) Try.func34 (by kernel_rfl) (rec := octet_Reader_take.calls octet_Reader_Bad octet_Reader_Left octet_Reader_spoil) (fun g a h k hx => by
    rcases octet_Reader_Bad.look d (by omega) hx with hx | hx
    rotate_left
    · exact hx
    rcases octet_Reader_Left.look d (by omega) hx with hx | hx
    rotate_left
    · exact hx
    rcases octet_Reader_spoil.look d (by omega) hx with hx | hx
    rotate_left
    · exact hx
    cases hx) (loopf := octet_Reader_take.loops) (by
    have e : loopsOf (octet_Reader_take.loops) 0 (codeOf Try.f34) = [] := by kernel_rfl
    rw [e]
    intro p hp
    cases hp) ((octet_Reader_take.eq octet_Reader_Bad octet_Reader_Left octet_Reader_spoil n373 n374 b375 b376 ns377 k).trans hx)
theorem octet_Reader_take.look (d : Nat) (hd : 2 ≤ d) {e : Option Bool} {g : FuncId} {a : List AV} {h : Heap} {k : KR} (hx : octet_Reader_take.get octet_Reader_take e g a h k = some true) : e = some true ∨ callK Try.prog ht d g a h k = some true := by
  unfold octet_Reader_take.get at hx
  split at hx
  · exact .inr (octet_Reader_take.ok d hd _ _ _ _ _ _ hx)
  · exact .inl hx
/-- function 33: the loop in block 0 -/
noncomputable def octet_number_L0.body (octet_number_L0 : Int → Int → Int → Int → Bool → Bool → (List Int) → (List Int) → (Int → Int → Bool → Bool → (List Int) → (List Int) → Option Bool) → Option Bool) (n417 : Int) (n418 : Int) (n419 : Int) (n420 : Int) (b421 : Bool) (b422 : Bool) (ns423 : List Int) (ns424 : List Int) (k1 : Int → Int → Bool → Bool → (List Int) → (List Int) → Option Bool) : Option Bool :=
  (cond_ (decide (n419 < n418)) (cond_ ((decide ((0 : Int) ≤ n419)) && (decide (n419 < (((List.length ns424) : Nat) : Int)))) (octet_number_L0 (IntKind.wrap .i64 (((@BitVec.toNat (64 : Nat) ((@BitVec.ofInt (64 : Nat) (IntKind.wrap .i64 (n417 * (256 : Int)))) ||| (@BitVec.ofInt (64 : Nat) (IntKind.wrap .i64 (List.getD ns424 (Int.toNat n419) (0 : Int)))))) : Nat) : Int)) n418 (IntKind.wrap .i64 (n419 + (1 : Int))) n420 b421 b422 ns423 ns424 k1) none) (k1 n417 n420 b421 b422 ns423 ns424))
noncomputable def octet_number_L0 : Nat → Int → Int → Int → Int → Bool → Bool → (List Int) → (List Int) → (Int → Int → Bool → Bool → (List Int) → (List Int) → Option Bool) → Option Bool
  | 0 => fun _ _ _ _ _ _ _ _ _ => none
  | n + 1 => octet_number_L0.body (octet_number_L0 n)
noncomputable def octet_number_L0.get (F : Int → Int → Int → Int → Bool → Bool → (List Int) → (List Int) → (Int → Int → Bool → Bool → (List Int) → (List Int) → Option Bool) → Option Bool) (e : Option Bool) (st : St) (k : KE) : Option Bool := match st with
  | ⟨sl, hp, m⟩ => match Nat.beq m 2, pickS 33 [6, 7, 19, 20, 21] sl, hp with
    | true, some [(.d ⟨(.int .i64), n417⟩), (.ref [1, 0]), (.ref [1, 0]), (.d ⟨(.int .i64), n418⟩), (.d ⟨(.int .i64), n419⟩)], [([0, 0], ⟨57, 4, (.mix [(.agg [(.ref [0, 1]), (.d ⟨(.int .i64), n420⟩), (.d ⟨.bool, b421⟩), (.d ⟨.bool, b422⟩)])])⟩), ([0, 1], ⟨5, 1, (.data (.int .u8) ns423)⟩), ([1, 0], ⟨5, 1, (.data (.int .u8) ns424)⟩)] => F n417 n418 n419 n420 b421 b422 ns423 ns424 (fun y0 y1 y2 y3 y4 y5 => k (.exit 0) ⟨fillS 33 [6, 7] [(.d ⟨(.int .i64), y0⟩), (.ref [1, 0])], [([0, 0], ⟨57, 4, (.mix [(.agg [(.ref [0, 1]), (.d ⟨(.int .i64), y1⟩), (.d ⟨.bool, y2⟩), (.d ⟨.bool, y3⟩)])])⟩), ([0, 1], ⟨5, 1, (.data (.int .u8) y4)⟩), ([1, 0], ⟨5, 1, (.data (.int .u8) y5)⟩)], 2⟩)
    | _, _, _ => e
noncomputable def octet_number_L0.calls : RecF := fun g a h k => none
noncomputable def octet_number_L0.loops : LoopF := fun b => none
set_option maxRecDepth 100000 in
theorem octet_number_L0.step (S : Int → Int → Int → Int → Bool → Bool → (List Int) → (List Int) → (Int → Int → Bool → Bool → (List Int) → (List Int) → Option Bool) → Option Bool) (n417 : Int) (n418 : Int) (n419 : Int) (n420 : Int) (b421 : Bool) (b422 : Bool) (ns423 : List Int) (ns424 : List Int) (k : KE) : execL Try.prog ht 33 (callfOf (octet_number_L0.calls)) (octet_number_L0.loops) 0 (loopAt 0 (codeOf Try.f33)) ⟨fillS 33 [6, 7, 19, 20, 21] [(.d ⟨(.int .i64), n417⟩), (.ref [1, 0]), (.ref [1, 0]), (.d ⟨(.int .i64), n418⟩), (.d ⟨(.int .i64), n419⟩)], [([0, 0], ⟨57, 4, (.mix [(.agg [(.ref [0, 1]), (.d ⟨(.int .i64), n420⟩), (.d ⟨.bool, b421⟩), (.d ⟨.bool, b422⟩)])])⟩), ([0, 1], ⟨5, 1, (.data (.int .u8) ns423)⟩), ([1, 0], ⟨5, 1, (.data (.int .u8) ns424)⟩)], 2⟩ (again (octet_number_L0.get S none) (plan Try.prog (ht 33 0)) k) = octet_number_L0.body S n417 n418 n419 n420 b421 b422 ns423 ns424 (fun y0 y1 y2 y3 y4 y5 => k (.exit 0) ⟨fillS 33 [6, 7] [(.d ⟨(.int .i64), y0⟩), (.ref [1, 0])], [([0, 0], ⟨57, 4, (.mix [(.agg [(.ref [0, 1]), (.d ⟨(.int .i64), y1⟩), (.d ⟨.bool, y2⟩), (.d ⟨.bool, y3⟩)])])⟩), ([0, 1], ⟨5, 1, (.data (.int .u8) y4)⟩), ([1, 0], ⟨5, 1, (.data (.int .u8) y5)⟩)], 2⟩) := by kernel_rfl
theorem octet_number_L0.ok (d : Nat) (hd : 0 ≤ d) : ∀ n st k, octet_number_L0.get (octet_number_L0 n) none st k = some true → iter n (plan Try.prog (ht 33 0)) (fun st k => execK Try.prog ht 33 (callfOf (callK Try.prog ht d)) 0 (loopAt 0 (codeOf Try.f33)) st k) st k = some true :=
  loop_ok (lfn := fun n st k => octet_number_L0.get (octet_number_L0 n) none st k) (rec := octet_number_L0.calls) (fun g a h k hx => by
    cases hx) (loopf := octet_number_L0.loops) (by
    have e : loopsOf (octet_number_L0.loops) 0 (loopAt 0 (codeOf Try.f33)) = [] := by kernel_rfl
    rw [e]
    intro p hp
    cases hp) (fun st k h => by
    obtain ⟨sl, hp, m⟩ := st
    unfold octet_number_L0.get at h
    dsimp only at h
    split at h
    · have h' : (none : Option Bool) = some true := h
      cases h'
    · cases h) (fun n st k h => by
    obtain ⟨sl, hp, m⟩ := st
    unfold octet_number_L0.get at h
    dsimp only at h
    split at h
    · rename_i h1 h2
      obtain rfl := pickS_ok h2
      obtain rfl := Nat.eq_of_beq_eq_true h1
      exact (octet_number_L0.step (octet_number_L0 n) _ _ _ _ _ _ _ _ k).trans h
    · cases h)
theorem octet_number_L0.look {F : Int → Int → Int → Int → Bool → Bool → (List Int) → (List Int) → (Int → Int → Bool → Bool → (List Int) → (List Int) → Option Bool) → Option Bool} {e : Option Bool} {st : St} {k : KE} (hx : octet_number_L0.get F e st k = some true) : e = some true ∨ octet_number_L0.get F none st k = some true := by
  obtain ⟨sl, hp, m⟩ := st
  unfold octet_number_L0.get at hx ⊢
  dsimp only at hx ⊢
  split at hx
  · exact .inr hx
  · exact .inl hx
/-- function 33: the loop in block 0 -/
noncomputable def octet_number_L0v1.body (octet_number_L0v1 : Int → Nat → Nat → Nat → Nat → Int → Int → Int → Bool → Bool → (List Int) → (Int → Nat → Nat → Int → Bool → Bool → (List Int) → Option Bool) → Option Bool) (n437 : Int) (m438 : Nat) (m439 : Nat) (m440 : Nat) (m441 : Nat) (n442 : Int) (n443 : Int) (n444 : Int) (b445 : Bool) (b446 : Bool) (ns447 : List Int) (k1 : Int → Nat → Nat → Int → Bool → Bool → (List Int) → Option Bool) : Option Bool :=
  (cond_ (decide (n443 < n442)) (cond_ ((decide ((0 : Int) ≤ n443)) && (decide (n443 < ((m441 : Nat) : Int)))) (octet_number_L0v1 (IntKind.wrap .i64 (((@BitVec.toNat (64 : Nat) ((@BitVec.ofInt (64 : Nat) (IntKind.wrap .i64 (n437 * (256 : Int)))) ||| (@BitVec.ofInt (64 : Nat) (IntKind.wrap .i64 (List.getD ns447 (m440 + (Int.toNat n443)) (0 : Int)))))) : Nat) : Int)) m438 m439 m440 m441 n442 (IntKind.wrap .i64 (n443 + (1 : Int))) n444 b445 b446 ns447 k1) none) (k1 n437 m438 m439 n444 b445 b446 ns447))
noncomputable def octet_number_L0v1 : Nat → Int → Nat → Nat → Nat → Nat → Int → Int → Int → Bool → Bool → (List Int) → (Int → Nat → Nat → Int → Bool → Bool → (List Int) → Option Bool) → Option Bool
  | 0 => fun _ _ _ _ _ _ _ _ _ _ _ _ => none
  | n + 1 => octet_number_L0v1.body (octet_number_L0v1 n)
noncomputable def octet_number_L0v1.get (F : Int → Nat → Nat → Nat → Nat → Int → Int → Int → Bool → Bool → (List Int) → (Int → Nat → Nat → Int → Bool → Bool → (List Int) → Option Bool) → Option Bool) (e : Option Bool) (st : St) (k : KE) : Option Bool := match st with
  | ⟨sl, hp, m⟩ => match Nat.beq m 2, pickS 33 [6, 7, 19, 20, 21] sl, hp with
    | true, some [(.d ⟨(.int .i64), n437⟩), (.cut [0, 1] m438 m439), (.cut [0, 1] m440 m441), (.d ⟨(.int .i64), n442⟩), (.d ⟨(.int .i64), n443⟩)], [([0, 0], ⟨57, 4, (.mix [(.agg [(.ref [0, 1]), (.d ⟨(.int .i64), n444⟩), (.d ⟨.bool, b445⟩), (.d ⟨.bool, b446⟩)])])⟩), ([0, 1], ⟨5, 1, (.data (.int .u8) ns447)⟩)] => F n437 m438 m439 m440 m441 n442 n443 n444 b445 b446 ns447 (fun y0 y1 y2 y3 y4 y5 y6 => k (.exit 0) ⟨fillS 33 [6, 7] [(.d ⟨(.int .i64), y0⟩), (.cut [0, 1] y1 y2)], [([0, 0], ⟨57, 4, (.mix [(.agg [(.ref [0, 1]), (.d ⟨(.int .i64), y3⟩), (.d ⟨.bool, y4⟩), (.d ⟨.bool, y5⟩)])])⟩), ([0, 1], ⟨5, 1, (.data (.int .u8) y6)⟩)], 2⟩)
    | _, _, _ => e
noncomputable def octet_number_L0v1.calls : RecF := fun g a h k => none
noncomputable def octet_number_L0v1.loops : LoopF := fun b => none
set_option maxRecDepth 100000 in
theorem octet_number_L0v1.step (S : Int → Nat → Nat → Nat → Nat → Int → Int → Int → Bool → Bool → (List Int) → (Int → Nat → Nat → Int → Bool → Bool → (List Int) → Option Bool) → Option Bool) (n437 : Int) (m438 : Nat) (m439 : Nat) (m440 : Nat) (m441 : Nat) (n442 : Int) (n443 : Int) (n444 : Int) (b445 : Bool) (b446 : Bool) (ns447 : List Int) (k : KE) : execL Try.prog ht 33 (callfOf (octet_number_L0v1.calls)) (octet_number_L0v1.loops) 0 (loopAt 0 (codeOf Try.f33)) ⟨fillS 33 [6, 7, 19, 20, 21] [(.d ⟨(.int .i64), n437⟩), (.cut [0, 1] m438 m439), (.cut [0, 1] m440 m441), (.d ⟨(.int .i64), n442⟩), (.d ⟨(.int .i64), n443⟩)], [([0, 0], ⟨57, 4, (.mix [(.agg [(.ref [0, 1]), (.d ⟨(.int .i64), n444⟩), (.d ⟨.bool, b445⟩), (.d ⟨.bool, b446⟩)])])⟩), ([0, 1], ⟨5, 1, (.data (.int .u8) ns447)⟩)], 2⟩ (again (octet_number_L0v1.get S none) (plan Try.prog (ht 33 0)) k) = octet_number_L0v1.body S n437 m438 m439 m440 m441 n442 n443 n444 b445 b446 ns447 (fun y0 y1 y2 y3 y4 y5 y6 => k (.exit 0) ⟨fillS 33 [6, 7] [(.d ⟨(.int .i64), y0⟩), (.cut [0, 1] y1 y2)], [([0, 0], ⟨57, 4, (.mix [(.agg [(.ref [0, 1]), (.d ⟨(.int .i64), y3⟩), (.d ⟨.bool, y4⟩), (.d ⟨.bool, y5⟩)])])⟩), ([0, 1], ⟨5, 1, (.data (.int .u8) y6)⟩)], 2⟩) := by kernel_rfl
theorem octet_number_L0v1.ok (d : Nat) (hd : 0 ≤ d) : ∀ n st k, octet_number_L0v1.get (octet_number_L0v1 n) none st k = some true → iter n (plan Try.prog (ht 33 0)) (fun st k => execK Try.prog ht 33 (callfOf (callK Try.prog ht d)) 0 (loopAt 0 (codeOf Try.f33)) st k) st k = some true :=
  loop_ok (lfn := fun n st k => octet_number_L0v1.get (octet_number_L0v1 n) none st k) (rec := octet_number_L0v1.calls) (fun g a h k hx => by
    cases hx) (loopf := octet_number_L0v1.loops) (by
    have e : loopsOf (octet_number_L0v1.loops) 0 (loopAt 0 (codeOf Try.f33)) = [] := by kernel_rfl
    rw [e]
    intro p hp
    cases hp) (fun st k h => by
    obtain ⟨sl, hp, m⟩ := st
    unfold octet_number_L0v1.get at h
    dsimp only at h
    split at h
    · have h' : (none : Option Bool) = some true := h
      cases h'
    · cases h) (fun n st k h => by
    obtain ⟨sl, hp, m⟩ := st
    unfold octet_number_L0v1.get at h
    dsimp only at h
    split at h
    · rename_i h1 h2
      obtain rfl := pickS_ok h2
      obtain rfl := Nat.eq_of_beq_eq_true h1
      exact (octet_number_L0v1.step (octet_number_L0v1 n) _ _ _ _ _ _ _ _ _ _ _ k).trans h
    · cases h)
theorem octet_number_L0v1.look {F : Int → Nat → Nat → Nat → Nat → Int → Int → Int → Bool → Bool → (List Int) → (Int → Nat → Nat → Int → Bool → Bool → (List Int) → Option Bool) → Option Bool} {e : Option Bool} {st : St} {k : KE} (hx : octet_number_L0v1.get F e st k = some true) : e = some true ∨ octet_number_L0v1.get F none st k = some true := by
  obtain ⟨sl, hp, m⟩ := st
  unfold octet_number_L0v1.get at hx ⊢
  dsimp only at hx ⊢
  split at hx
  · exact .inr hx
  · exact .inl hx
/-- function 33: sheerleg/octet.number -/
noncomputable def octet_number.body (octet_Reader_take : Int → Int → Bool → Bool → (List Int) → (Int → Bool → Bool → (List Int) → (List Int) → Option Bool) → (Nat → Nat → Int → Bool → Bool → (List Int) → Option Bool) → Option Bool) (octet_number_L0 : Int → Int → Int → Int → Bool → Bool → (List Int) → (List Int) → (Int → Int → Bool → Bool → (List Int) → (List Int) → Option Bool) → Option Bool) (octet_number_L0v1 : Int → Nat → Nat → Nat → Nat → Int → Int → Int → Bool → Bool → (List Int) → (Int → Nat → Nat → Int → Bool → Bool → (List Int) → Option Bool) → Option Bool) (n368 : Int) (n369 : Int) (b370 : Bool) (b371 : Bool) (ns372 : List Int) (k1 : Int → Int → Bool → Bool → (List Int) → (List Int) → Option Bool) (k2 : Int → Nat → Nat → Int → Bool → Bool → (List Int) → Option Bool) : Option Bool :=
  (cond_ (! (decide (n368 < (1 : Int)))) (cond_ (decide (n368 > (8 : Int))) (octet_Reader_take (-1 : Int) n369 b370 b371 ns372
  (fun n412 b413 b414 ns415 ns416 => (octet_number_L0 (0 : Int) (((List.length ns416) : Nat) : Int) (0 : Int) n412 b413 b414 ns415 ns416
  (fun n425 n426 b427 b428 ns429 ns430 => (k1 n425 n426 b427 b428 ns429 ns430))))
  (fun m431 m432 n433 b434 b435 ns436 => (octet_number_L0v1 (0 : Int) m431 m432 m431 m432 ((m432 : Nat) : Int) (0 : Int) n433 b434 b435 ns436
  (fun n448 m449 m450 n451 b452 b453 ns454 => (k2 n448 m449 m450 n451 b452 b453 ns454))))) (octet_Reader_take n368 n369 b370 b371 ns372
  (fun n455 b456 b457 ns458 ns459 => (octet_number_L0 (0 : Int) (((List.length ns459) : Nat) : Int) (0 : Int) n455 b456 b457 ns458 ns459
  (fun n460 n461 b462 b463 ns464 ns465 => (k1 n460 n461 b462 b463 ns464 ns465))))
  (fun m466 m467 n468 b469 b470 ns471 => (octet_number_L0v1 (0 : Int) m466 m467 m466 m467 ((m467 : Nat) : Int) (0 : Int) n468 b469 b470 ns471
  (fun n472 m473 m474 n475 b476 b477 ns478 => (k2 n472 m473 m474 n475 b476 b477 ns478)))))) (octet_Reader_take (-1 : Int) n369 b370 b371 ns372
  (fun n479 b480 b481 ns482 ns483 => (octet_number_L0 (0 : Int) (((List.length ns483) : Nat) : Int) (0 : Int) n479 b480 b481 ns482 ns483
  (fun n484 n485 b486 b487 ns488 ns489 => (k1 n484 n485 b486 b487 ns488 ns489))))
  (fun m490 m491 n492 b493 b494 ns495 => (octet_number_L0v1 (0 : Int) m490 m491 m490 m491 ((m491 : Nat) : Int) (0 : Int) n492 b493 b494 ns495
  (fun n496 m497 m498 n499 b500 b501 ns502 => (k2 n496 m497 m498 n499 b500 b501 ns502))))))
noncomputable def octet_number (n368 : Int) (n369 : Int) (b370 : Bool) (b371 : Bool) (ns372 : List Int) (k1 : Int → Int → Bool → Bool → (List Int) → (List Int) → Option Bool) (k2 : Int → Nat → Nat → Int → Bool → Bool → (List Int) → Option Bool) : Option Bool := octet_number.body octet_Reader_take (octet_number_L0 ROUNDS) (octet_number_L0v1 ROUNDS) n368 n369 b370 b371 ns372 k1 k2
noncomputable def octet_number.get (F : Int → Int → Bool → Bool → (List Int) → (Int → Int → Bool → Bool → (List Int) → (List Int) → Option Bool) → (Int → Nat → Nat → Int → Bool → Bool → (List Int) → Option Bool) → Option Bool) (e : Option Bool) (g : FuncId) (a : List AV) (h : Heap) (k : KR) : Option Bool := match g, a, h with
  | 33, [(.fn (.func 34) [(.ptr [0, 0] 0 0)] []), (.d ⟨(.int .i64), n368⟩)], [([0, 0], ⟨57, 4, (.mix [(.agg [(.ref [0, 1]), (.d ⟨(.int .i64), n369⟩), (.d ⟨.bool, b370⟩), (.d ⟨.bool, b371⟩)])])⟩), ([0, 1], ⟨5, 1, (.data (.int .u8) ns372)⟩)] => F n368 n369 b370 b371 ns372 (fun y0 y1 y2 y3 y4 y5 => k (.tup [(.d ⟨(.int .i64), y0⟩), (.ref [1, 0])]) [([0, 0], ⟨57, 4, (.mix [(.agg [(.ref [0, 1]), (.d ⟨(.int .i64), y1⟩), (.d ⟨.bool, y2⟩), (.d ⟨.bool, y3⟩)])])⟩), ([0, 1], ⟨5, 1, (.data (.int .u8) y4)⟩), ([1, 0], ⟨5, 1, (.data (.int .u8) y5)⟩)]) (fun y0 y1 y2 y3 y4 y5 y6 => k (.tup [(.d ⟨(.int .i64), y0⟩), (.cut [0, 1] y1 y2)]) [([0, 0], ⟨57, 4, (.mix [(.agg [(.ref [0, 1]), (.d ⟨(.int .i64), y3⟩), (.d ⟨.bool, y4⟩), (.d ⟨.bool, y5⟩)])])⟩), ([0, 1], ⟨5, 1, (.data (.int .u8) y6)⟩)])
  | _, _, _ => e
noncomputable def octet_number.calls (F0 : Int → Int → Bool → Bool → (List Int) → (Int → Bool → Bool → (List Int) → (List Int) → Option Bool) → (Nat → Nat → Int → Bool → Bool → (List Int) → Option Bool) → Option Bool) : RecF := fun g a h k => (octet_Reader_take.get F0 none g a h k)
noncomputable def octet_number.loops (L0 : Int → Int → Int → Int → Bool → Bool → (List Int) → (List Int) → (Int → Int → Bool → Bool → (List Int) → (List Int) → Option Bool) → Option Bool) (L1 : Int → Nat → Nat → Nat → Nat → Int → Int → Int → Bool → Bool → (List Int) → (Int → Nat → Nat → Int → Bool → Bool → (List Int) → Option Bool) → Option Bool) : LoopF := fun b => match Nat.beq b 0 with | true => some (fun st k => (octet_number_L0.get L0 (octet_number_L0v1.get L1 none st k) st k)) | false => none
set_option maxRecDepth 100000 in
theorem octet_number.eq (F0 : Int → Int → Bool → Bool → (List Int) → (Int → Bool → Bool → (List Int) → (List Int) → Option Bool) → (Nat → Nat → Int → Bool → Bool → (List Int) → Option Bool) → Option Bool) (L0 : Int → Int → Int → Int → Bool → Bool → (List Int) → (List Int) → (Int → Int → Bool → Bool → (List Int) → (List Int) → Option Bool) → Option Bool) (L1 : Int → Nat → Nat → Nat → Nat → Int → Int → Int → Bool → Bool → (List Int) → (Int → Nat → Nat → Int → Bool → Bool → (List Int) → Option Bool) → Option Bool) (n368 : Int) (n369 : Int) (b370 : Bool) (b371 : Bool) (ns372 : List Int) (k : KR) : execL Try.prog ht 33 (callfOf (octet_number.calls F0)) (octet_number.loops L0 L1) 0 (codeOf Try.f33) ⟨[(.fn (.func 34) [(.ptr [0, 0] 0 0)] []), (.d ⟨(.int .i64), n368⟩)] ++ List.replicate (Try.f33.ntmps - ([(.fn (.func 34) [(.ptr [0, 0] 0 0)] []), (.d ⟨(.int .i64), n368⟩)] : List AV).length) .undef, [([0, 0], ⟨57, 4, (.mix [(.agg [(.ref [0, 1]), (.d ⟨(.int .i64), n369⟩), (.d ⟨.bool, b370⟩), (.d ⟨.bool, b371⟩)])])⟩), ([0, 1], ⟨5, 1, (.data (.int .u8) ns372)⟩)], 2⟩ (leave Try.prog Try.f33 k) = octet_number.body F0 L0 L1 n368 n369 b370 b371 ns372 (fun y0 y1 y2 y3 y4 y5 => k (.tup [(.d ⟨(.int .i64), y0⟩), (.ref [1, 0])]) [([0, 0], ⟨57, 4, (.mix [(.agg [(.ref [0, 1]), (.d ⟨(.int .i64), y1⟩), (.d ⟨.bool, y2⟩), (.d ⟨.bool, y3⟩)])])⟩), ([0, 1], ⟨5, 1, (.data (.int .u8) y4)⟩), ([1, 0], ⟨5, 1, (.data (.int .u8) y5)⟩)]) (fun y0 y1 y2 y3 y4 y5 y6 => k (.tup [(.d ⟨(.int .i64), y0⟩), (.cut [0, 1] y1 y2)]) [([0, 0], ⟨57, 4, (.mix [(.agg [(.ref [0, 1]), (.d ⟨(.int .i64), y3⟩), (.d ⟨.bool, y4⟩), (.d ⟨.bool, y5⟩)])])⟩), ([0, 1], ⟨5, 1, (.data (.int .u8) y6)⟩)]) := by kernel_rfl
theorem octet_number.ok (d : Nat) (hd : 3 ≤ d) (n368 : Int) (n369 : Int) (b370 : Bool) (b371 : Bool) (ns372 : List Int) (k : KR) (hx : octet_number n368 n369 b370 b371 ns372 (fun y0 y1 y2 y3 y4 y5 => k (.tup [(.d ⟨(.int .i64), y0⟩), (.ref [1, 0])]) [([0, 0], ⟨57, 4, (.mix [(.agg [(.ref [0, 1]), (.d ⟨(.int .i64), y1⟩), (.d ⟨.bool, y2⟩), (.d ⟨.bool, y3⟩)])])⟩), ([0, 1], ⟨5, 1, (.data (.int .u8) y4)⟩), ([1, 0], ⟨5, 1, (.data (.int .u8) y5)⟩)]) (fun y0 y1 y2 y3 y4 y5 y6 => k (.tup [(.d ⟨(.int .i64), y0⟩), (.cut [0, 1] y1 y2)]) [([0, 0], ⟨57, 4, (.mix [(.agg [(.ref [0, 1]), (.d ⟨(.int .i64), y3⟩), (.d ⟨.bool, y4⟩), (.d ⟨.bool, y5⟩)])])⟩), ([0, 1], ⟨5, 1, (.data (.int .u8) y6)⟩)]) = some true) : callK Try.prog ht d 33 [(.fn (.func 34) [(.ptr [0, 0] 0 0)] []), (.d ⟨(.int .i64), n368⟩)] [([0, 0], ⟨57, 4, (.mix [(.agg [(.ref [0, 1]), (.d ⟨(.int .i64), n369⟩), (.d ⟨.bool, b370⟩), (.d ⟨.bool, b371⟩)])])⟩), ([0, 1], ⟨5, 1, (.data (.int .u8) ns372)⟩)] k = some true := by
  obtain ⟨d, rfl⟩ : ∃ e, d = e + 1 := ⟨d - 1, by omega⟩
  exact fn_ok (c := codeOf Try.f33) Try.func33 (by kernel_rfl) (rec := octet_number.calls octet_Reader_take) (fun g a h k hx => by
    rcases octet_Reader_take.look d (by omega) hx with hx | hx
    rotate_left
    · exact hx
    cases hx) (loopf := octet_number.loops (octet_number_L0 ROUNDS) (octet_number_L0v1 ROUNDS)) (by
    have e : loopsOf (octet_number.loops (octet_number_L0 ROUNDS) (octet_number_L0v1 ROUNDS)) 0 (codeOf Try.f33) = [(0, loopAt 0 (codeOf Try.f33))] := by kernel_rfl
    rw [e]
    intro p hp
    simp only [List.mem_cons, List.not_mem_nil, or_false] at hp
    rcases hp with rfl
    · refine loopRef_of (callf := callfOf (callK Try.prog ht d)) (callfOf_ref (callK_mono d)) fun lf st k hb hx => ?_
      cases hb
      rcases octet_number_L0.look hx with hx | hx
      rotate_left
      · exact octet_number_L0.ok d (by omega) _ _ _ hx
      rcases octet_number_L0v1.look hx with hx | hx
      rotate_left
      · exact octet_number_L0v1.ok d (by omega) _ _ _ hx
      cases hx) ((octet_number.eq octet_Reader_take (octet_number_L0 ROUNDS) (octet_number_L0v1 ROUNDS) n368 n369 b370 b371 ns372 k).trans hx)
theorem octet_number.look (d : Nat) (hd : 3 ≤ d) {e : Option Bool} {g : FuncId} {a : List AV} {h : Heap} {k : KR} (hx : octet_number.get octet_number e g a h k = some true) : e = some true ∨ callK Try.prog ht d g a h k = some true := by
  unfold octet_number.get at hx
  split at hx
  · exact .inr (octet_number.ok d hd _ _ _ _ _ _ hx)
  · exact .inl hx
/-- function 29: (*sheerleg/octet.Reader).Num -/
noncomputable def octet_Reader_Num.body (octet_number : Int → Int → Bool → Bool → (List Int) → (Int → Int → Bool → Bool → (List Int) → (List Int) → Option Bool) → (Int → Nat → Nat → Int → Bool → Bool → (List Int) → Option Bool) → Option Bool) (n363 : Int) (n364 : Int) (b365 : Bool) (b366 : Bool) (ns367 : List Int) (k1 : Int → Int → Bool → Bool → (List Int) → Option Bool) : Option Bool :=
  (octet_number n363 n364 b365 b366 ns367
  (fun n503 n504 b505 b506 ns507 ns508 => (k1 n503 n504 b505 b506 ns507))
  (fun n509 m510 m511 n512 b513 b514 ns515 => (k1 n509 n512 b513 b514 ns515)))
noncomputable def octet_Reader_Num (n363 : Int) (n364 : Int) (b365 : Bool) (b366 : Bool) (ns367 : List Int) (k1 : Int → Int → Bool → Bool → (List Int) → Option Bool) : Option Bool := octet_Reader_Num.body octet_number n363 n364 b365 b366 ns367 k1
noncomputable def octet_Reader_Num.get (F : Int → Int → Bool → Bool → (List Int) → (Int → Int → Bool → Bool → (List Int) → Option Bool) → Option Bool) (e : Option Bool) (g : FuncId) (a : List AV) (h : Heap) (k : KR) : Option Bool := match g, a, h with
  | 29, [(.ptr [0, 0] 0 0), (.d ⟨(.int .i64), n363⟩)], [([0, 0], ⟨57, 4, (.mix [(.agg [(.ref [0, 1]), (.d ⟨(.int .i64), n364⟩), (.d ⟨.bool, b365⟩), (.d ⟨.bool, b366⟩)])])⟩), ([0, 1], ⟨5, 1, (.data (.int .u8) ns367)⟩)] => F n363 n364 b365 b366 ns367 (fun y0 y1 y2 y3 y4 => k (.d ⟨(.int .i64), y0⟩) [([0, 0], ⟨57, 4, (.mix [(.agg [(.ref [0, 1]), (.d ⟨(.int .i64), y1⟩), (.d ⟨.bool, y2⟩), (.d ⟨.bool, y3⟩)])])⟩), ([0, 1], ⟨5, 1, (.data (.int .u8) y4)⟩)])
  | _, _, _ => e
noncomputable def octet_Reader_Num.calls (F0 : Int → Int → Bool → Bool → (List Int) → (Int → Int → Bool → Bool → (List Int) → (List Int) → Option Bool) → (Int → Nat → Nat → Int → Bool → Bool → (List Int) → Option Bool) → Option Bool) : RecF := fun g a h k => (octet_number.get F0 none g a h k)
noncomputable def octet_Reader_Num.loops : LoopF := fun b => none
set_option maxRecDepth 100000 in
theorem octet_Reader_Num.eq (F0 : Int → Int → Bool → Bool → (List Int) → (Int → Int → Bool → Bool → (List Int) → (List Int) → Option Bool) → (Int → Nat → Nat → Int → Bool → Bool → (List Int) → Option Bool) → Option Bool) (n363 : Int) (n364 : Int) (b365 : Bool) (b366 : Bool) (ns367 : List Int) (k : KR) : execL Try.prog ht 29 (callfOf (octet_Reader_Num.calls F0)) (octet_Reader_Num.loops) 0 (codeOf Try.f29) ⟨[(.ptr [0, 0] 0 0), (.d ⟨(.int .i64), n363⟩)] ++ List.replicate (Try.f29.ntmps - ([(.ptr [0, 0] 0 0), (.d ⟨(.int .i64), n363⟩)] : List AV).length) .undef, [([0, 0], ⟨57, 4, (.mix [(.agg [(.ref [0, 1]), (.d ⟨(.int .i64), n364⟩), (.d ⟨.bool, b365⟩), (.d ⟨.bool, b366⟩)])])⟩), ([0, 1], ⟨5, 1, (.data (.int .u8) ns367)⟩)], 2⟩ (leave Try.prog Try.f29 k) = octet_Reader_Num.body F0 n363 n364 b365 b366 ns367 (fun y0 y1 y2 y3 y4 => k (.d ⟨(.int .i64), y0⟩) [([0, 0], ⟨57, 4, (.mix [(.agg [(.ref [0, 1]), (.d ⟨(.int .i64), y1⟩), (.d ⟨.bool, y2⟩), (.d ⟨.bool, y3⟩)])])⟩), ([0, 1], ⟨5, 1, (.data (.int .u8) y4)⟩)]) := by kernel_rfl
theorem octet_Reader_Num.ok (d : Nat) (hd : 4 ≤ d) (n363 : Int) (n364 : Int) (b365 : Bool) (b366 : Bool) (ns367 : List Int) (k : KR) (hx : octet_Reader_Num n363 n364 b365 b366 ns367 (fun y0 y1 y2 y3 y4 => k (.d ⟨(.int .i64), y0⟩) [([0, 0], ⟨57, 4, (.mix [(.agg [(.ref [0, 1]), (.d ⟨(.int .i64), y1⟩), (.d ⟨.bool, y2⟩), (.d ⟨.bool, y3⟩)])])⟩), ([0, 1], ⟨5, 1, (.data (.int .u8) y4)⟩)]) = some true) : callK Try.prog ht d 29 [(.ptr [0, 0] 0 0), (.d ⟨(.int .i64), n363⟩)] [([0, 0], ⟨57, 4, (.mix [(.agg [(.ref [0, 1]), (.d ⟨(.int .i64), n364⟩), (.d ⟨.bool, b365⟩), (.d ⟨.bool, b366⟩)])])⟩), ([0, 1], ⟨5, 1, (.data (.int .u8) ns367)⟩)] k = some true := by
  obtain ⟨d, rfl⟩ : ∃ e, d = e + 1 := ⟨d - 1, by omega⟩
  exact fn_ok (c := codeOf Try.f29) Try.func29 (by kernel_rfl) (rec := octet_Reader_Num.calls octet_number) (fun g a h k hx => by
    rcases octet_number.look d (by omega) hx with hx | hx
    rotate_left
    · exact hx
    cases hx) (loopf := octet_Reader_Num.loops) (by
    have e : loopsOf (octet_Reader_Num.loops) 0 (codeOf Try.f29) = [] := by kernel_rfl
    rw [e]
    intro p hp
    cases hp) ((octet_Reader_Num.eq octet_number n363 n364 b365 b366 ns367 k).trans hx)
theorem octet_Reader_Num.look (d : Nat) (hd : 4 ≤ d) {e : Option Bool} {g : FuncId} {a : List AV} {h : Heap} {k : KR} (hx : octet_Reader_Num.get octet_Reader_Num e g a h k = some true) : e = some true ∨ callK Try.prog ht d g a h k = some true := by
  unfold octet_Reader_Num.get at hx
  split at hx
  · exact .inr (octet_Reader_Num.ok d hd _ _ _ _ _ _ hx)
  · exact .inl hx
/-- function 31: the loop in block 0 -/
noncomputable def ref02_Num_L0.body (ref02_Num_L0 : Int → Bool → Int → Int → ((List Int) × Int × Bool × Unit) → Int → Bool → (Int → Bool → Int → ((List Int) × Int × Bool × Unit) → Int → Bool → Option Bool) → Option Bool) (n677 : Int) (b678 : Bool) (n679 : Int) (n680 : Int) (t681 : (List Int) × Int × Bool × Unit) (n682 : Int) (b683 : Bool) (k1 : Int → Bool → Int → ((List Int) × Int × Bool × Unit) → Int → Bool → Option Bool) : Option Bool :=
  (cond_ (decide (n680 < n677)) (cond_ ((decide ((0 : Int) ≤ (IntKind.wrap .i64 (t681.2.1 + n680)))) && (decide ((IntKind.wrap .i64 (t681.2.1 + n680)) < (((List.length t681.1) : Nat) : Int)))) (ref02_Num_L0 n677 b678 (IntKind.wrap .u64 ((IntKind.wrap .u64 (n679 * (256 : Int))) + (IntKind.wrap .u64 (List.getD t681.1 (Int.toNat (IntKind.wrap .i64 (t681.2.1 + n680))) (0 : Int))))) (IntKind.wrap .i64 (n680 + (1 : Int))) t681 n682 b683 k1) none) (k1 n677 b678 n679 t681 n682 b683))
noncomputable def ref02_Num_L0 : Nat → Int → Bool → Int → Int → ((List Int) × Int × Bool × Unit) → Int → Bool → (Int → Bool → Int → ((List Int) × Int × Bool × Unit) → Int → Bool → Option Bool) → Option Bool
  | 0 => fun _ _ _ _ _ _ _ _ => none
  | n + 1 => ref02_Num_L0.body (ref02_Num_L0 n)
noncomputable def ref02_Num_L0.get (F : Int → Bool → Int → Int → ((List Int) × Int × Bool × Unit) → Int → Bool → (Int → Bool → Int → ((List Int) × Int × Bool × Unit) → Int → Bool → Option Bool) → Option Bool) (e : Option Bool) (st : St) (k : KE) : Option Bool := match st with
  | ⟨sl, hp, m⟩ => match Nat.beq m 2, pickS 83 [1, 2, 3, 6, 8, 9] sl, hp with
    | true, some [(.d ⟨(.int .i64), n677⟩), (.d ⟨.bool, b678⟩), (.ptr [1, 0] 0 0), (.ptr [1, 1] 0 0), (.d ⟨(.int .u64), n679⟩), (.d ⟨(.int .i64), n680⟩)], [([1, 0], ⟨44, 3, (.data (.st [(.sl 5 (.int .u8)), (.int .i64), .bool]) [t681])⟩), ([1, 1], ⟨44, 3, (.mix [(.agg [.nils, (.d ⟨(.int .i64), n682⟩), (.d ⟨.bool, b683⟩)])])⟩)] => F n677 b678 n679 n680 t681 n682 b683 (fun y0 y1 y2 y3 y4 y5 => k (.exit 0) ⟨fillS 83 [1, 2, 3, 6, 8] [(.d ⟨(.int .i64), y0⟩), (.d ⟨.bool, y1⟩), (.ptr [1, 0] 0 0), (.ptr [1, 1] 0 0), (.d ⟨(.int .u64), y2⟩)], [([1, 0], ⟨44, 3, (.data (.st [(.sl 5 (.int .u8)), (.int .i64), .bool]) [y3])⟩), ([1, 1], ⟨44, 3, (.mix [(.agg [.nils, (.d ⟨(.int .i64), y4⟩), (.d ⟨.bool, y5⟩)])])⟩)], 2⟩)
    | _, _, _ => e
noncomputable def ref02_Num_L0.calls : RecF := fun g a h k => none
noncomputable def ref02_Num_L0.loops : LoopF := fun b => none
set_option maxRecDepth 100000 in
theorem ref02_Num_L0.step (S : Int → Bool → Int → Int → ((List Int) × Int × Bool × Unit) → Int → Bool → (Int → Bool → Int → ((List Int) × Int × Bool × Unit) → Int → Bool → Option Bool) → Option Bool) (n677 : Int) (b678 : Bool) (n679 : Int) (n680 : Int) (t681 : (List Int) × Int × Bool × Unit) (n682 : Int) (b683 : Bool) (k : KE) : execL Try.prog ht 31 (callfOf (ref02_Num_L0.calls)) (ref02_Num_L0.loops) 0 (loopAt 0 (codeOf Try.f31)) ⟨fillS 83 [1, 2, 3, 6, 8, 9] [(.d ⟨(.int .i64), n677⟩), (.d ⟨.bool, b678⟩), (.ptr [1, 0] 0 0), (.ptr [1, 1] 0 0), (.d ⟨(.int .u64), n679⟩), (.d ⟨(.int .i64), n680⟩)], [([1, 0], ⟨44, 3, (.data (.st [(.sl 5 (.int .u8)), (.int .i64), .bool]) [t681])⟩), ([1, 1], ⟨44, 3, (.mix [(.agg [.nils, (.d ⟨(.int .i64), n682⟩), (.d ⟨.bool, b683⟩)])])⟩)], 2⟩ (again (ref02_Num_L0.get S none) (plan Try.prog (ht 31 0)) k) = ref02_Num_L0.body S n677 b678 n679 n680 t681 n682 b683 (fun y0 y1 y2 y3 y4 y5 => k (.exit 0) ⟨fillS 83 [1, 2, 3, 6, 8] [(.d ⟨(.int .i64), y0⟩), (.d ⟨.bool, y1⟩), (.ptr [1, 0] 0 0), (.ptr [1, 1] 0 0), (.d ⟨(.int .u64), y2⟩)], [([1, 0], ⟨44, 3, (.data (.st [(.sl 5 (.int .u8)), (.int .i64), .bool]) [y3])⟩), ([1, 1], ⟨44, 3, (.mix [(.agg [.nils, (.d ⟨(.int .i64), y4⟩), (.d ⟨.bool, y5⟩)])])⟩)], 2⟩) := by kernel_rfl
theorem ref02_Num_L0.ok (d : Nat) (hd : 0 ≤ d) : ∀ n st k, ref02_Num_L0.get (ref02_Num_L0 n) none st k = some true → iter n (plan Try.prog (ht 31 0)) (fun st k => execK Try.prog ht 31 (callfOf (callK Try.prog ht d)) 0 (loopAt 0 (codeOf Try.f31)) st k) st k = some true :=
  loop_ok (lfn := fun n st k => ref02_Num_L0.get (ref02_Num_L0 n) none st k) (rec := ref02_Num_L0.calls) (fun g a h k hx => by
    cases hx) (loopf := ref02_Num_L0.loops) (by
    have e : loopsOf (ref02_Num_L0.loops) 0 (loopAt 0 (codeOf Try.f31)) = [] := by kernel_rfl
    rw [e]
    intro p hp
    cases hp) (fun st k h => by
    obtain ⟨sl, hp, m⟩ := st
    unfold ref02_Num_L0.get at h
    dsimp only at h
    split at h
    · have h' : (none : Option Bool) = some true := h
      cases h'
    · cases h) (fun n st k h => by
    obtain ⟨sl, hp, m⟩ := st
    unfold ref02_Num_L0.get at h
    dsimp only at h
    split at h
    · rename_i h1 h2
      obtain rfl := pickS_ok h2
      obtain rfl := Nat.eq_of_beq_eq_true h1
      exact (ref02_Num_L0.step (ref02_Num_L0 n) _ _ _ _ _ _ _ k).trans h
    · cases h)
theorem ref02_Num_L0.look {F : Int → Bool → Int → Int → ((List Int) × Int × Bool × Unit) → Int → Bool → (Int → Bool → Int → ((List Int) × Int × Bool × Unit) → Int → Bool → Option Bool) → Option Bool} {e : Option Bool} {st : St} {k : KE} (hx : ref02_Num_L0.get F e st k = some true) : e = some true ∨ ref02_Num_L0.get F none st k = some true := by
  obtain ⟨sl, hp, m⟩ := st
  unfold ref02_Num_L0.get at hx ⊢
  dsimp only at hx ⊢
  split at hx
  · exact .inr hx
  · exact .inl hx
/-- function 31: the loop in block 2 -/
noncomputable def ref02_Num_L2.body (ref02_Num_L2 : Int → Int → Int → Int → ((List Int) × Int × Bool × Unit) → Int → Bool → (Int → Int → Int → ((List Int) × Int × Bool × Unit) → Int → Bool → Option Bool) → Option Bool) (n690 : Int) (n691 : Int) (n692 : Int) (n693 : Int) (t694 : (List Int) × Int × Bool × Unit) (n695 : Int) (b696 : Bool) (k1 : Int → Int → Int → ((List Int) × Int × Bool × Unit) → Int → Bool → Option Bool) : Option Bool :=
  (cond_ (decide (n693 < n690)) (ref02_Num_L2 n690 n691 (IntKind.wrap .u64 (n692 * (256 : Int))) (IntKind.wrap .i64 (n693 + (1 : Int))) t694 n695 b696 k1) (k1 n690 n691 n692 t694 n695 b696))
noncomputable def ref02_Num_L2 : Nat → Int → Int → Int → Int → ((List Int) × Int × Bool × Unit) → Int → Bool → (Int → Int → Int → ((List Int) × Int × Bool × Unit) → Int → Bool → Option Bool) → Option Bool
  | 0 => fun _ _ _ _ _ _ _ _ => none
  | n + 1 => ref02_Num_L2.body (ref02_Num_L2 n)
noncomputable def ref02_Num_L2.get (F : Int → Int → Int → Int → ((List Int) × Int × Bool × Unit) → Int → Bool → (Int → Int → Int → ((List Int) × Int × Bool × Unit) → Int → Bool → Option Bool) → Option Bool) (e : Option Bool) (st : St) (k : KE) : Option Bool := match st with
  | ⟨sl, hp, m⟩ => match Nat.beq m 2, pickS 83 [1, 3, 6, 8, 10, 11] sl, hp with
    | true, some [(.d ⟨(.int .i64), n690⟩), (.ptr [1, 0] 0 0), (.ptr [1, 1] 0 0), (.d ⟨(.int .u64), n691⟩), (.d ⟨(.int .u64), n692⟩), (.d ⟨(.int .i64), n693⟩)], [([1, 0], ⟨44, 3, (.data (.st [(.sl 5 (.int .u8)), (.int .i64), .bool]) [t694])⟩), ([1, 1], ⟨44, 3, (.mix [(.agg [.nils, (.d ⟨(.int .i64), n695⟩), (.d ⟨.bool, b696⟩)])])⟩)] => F n690 n691 n692 n693 t694 n695 b696 (fun y0 y1 y2 y3 y4 y5 => k (.exit 2) ⟨fillS 83 [1, 3, 6, 8, 10] [(.d ⟨(.int .i64), y0⟩), (.ptr [1, 0] 0 0), (.ptr [1, 1] 0 0), (.d ⟨(.int .u64), y1⟩), (.d ⟨(.int .u64), y2⟩)], [([1, 0], ⟨44, 3, (.data (.st [(.sl 5 (.int .u8)), (.int .i64), .bool]) [y3])⟩), ([1, 1], ⟨44, 3, (.mix [(.agg [.nils, (.d ⟨(.int .i64), y4⟩), (.d ⟨.bool, y5⟩)])])⟩)], 2⟩)
    | _, _, _ => e
noncomputable def ref02_Num_L2.calls : RecF := fun g a h k => none
noncomputable def ref02_Num_L2.loops : LoopF := fun b => none
set_option maxRecDepth 100000 in
theorem ref02_Num_L2.step (S : Int → Int → Int → Int → ((List Int) × Int × Bool × Unit) → Int → Bool → (Int → Int → Int → ((List Int) × Int × Bool × Unit) → Int → Bool → Option Bool) → Option Bool) (n690 : Int) (n691 : Int) (n692 : Int) (n693 : Int) (t694 : (List Int) × Int × Bool × Unit) (n695 : Int) (b696 : Bool) (k : KE) : execL Try.prog ht 31 (callfOf (ref02_Num_L2.calls)) (ref02_Num_L2.loops) 2 (loopAt 2 (codeOf Try.f31)) ⟨fillS 83 [1, 3, 6, 8, 10, 11] [(.d ⟨(.int .i64), n690⟩), (.ptr [1, 0] 0 0), (.ptr [1, 1] 0 0), (.d ⟨(.int .u64), n691⟩), (.d ⟨(.int .u64), n692⟩), (.d ⟨(.int .i64), n693⟩)], [([1, 0], ⟨44, 3, (.data (.st [(.sl 5 (.int .u8)), (.int .i64), .bool]) [t694])⟩), ([1, 1], ⟨44, 3, (.mix [(.agg [.nils, (.d ⟨(.int .i64), n695⟩), (.d ⟨.bool, b696⟩)])])⟩)], 2⟩ (again (ref02_Num_L2.get S none) (plan Try.prog (ht 31 2)) k) = ref02_Num_L2.body S n690 n691 n692 n693 t694 n695 b696 (fun y0 y1 y2 y3 y4 y5 => k (.exit 2) ⟨fillS 83 [1, 3, 6, 8, 10] [(.d ⟨(.int .i64), y0⟩), (.ptr [1, 0] 0 0), (.ptr [1, 1] 0 0), (.d ⟨(.int .u64), y1⟩), (.d ⟨(.int .u64), y2⟩)], [([1, 0], ⟨44, 3, (.data (.st [(.sl 5 (.int .u8)), (.int .i64), .bool]) [y3])⟩), ([1, 1], ⟨44, 3, (.mix [(.agg [.nils, (.d ⟨(.int .i64), y4⟩), (.d ⟨.bool, y5⟩)])])⟩)], 2⟩) := by kernel_rfl
theorem ref02_Num_L2.ok (d : Nat) (hd : 0 ≤ d) : ∀ n st k, ref02_Num_L2.get (ref02_Num_L2 n) none st k = some true → iter n (plan Try.prog (ht 31 2)) (fun st k => execK Try.prog ht 31 (callfOf (callK Try.prog ht d)) 2 (loopAt 2 (codeOf Try.f31)) st k) st k = some true :=
  loop_ok (lfn := fun n st k => ref02_Num_L2.get (ref02_Num_L2 n) none st k) (rec := ref02_Num_L2.calls) (fun g a h k hx => by
    cases hx) (loopf := ref02_Num_L2.loops) (by
    have e : loopsOf (ref02_Num_L2.loops) 2 (loopAt 2 (codeOf Try.f31)) = [] := by kernel_rfl
    rw [e]
    intro p hp
    cases hp) (fun st k h => by
    obtain ⟨sl, hp, m⟩ := st
    unfold ref02_Num_L2.get at h
    dsimp only at h
    split at h
    · have h' : (none : Option Bool) = some true := h
      cases h'
    · cases h) (fun n st k h => by
    obtain ⟨sl, hp, m⟩ := st
    unfold ref02_Num_L2.get at h
    dsimp only at h
    split at h
    · rename_i h1 h2
      obtain rfl := pickS_ok h2
      obtain rfl := Nat.eq_of_beq_eq_true h1
      exact (ref02_Num_L2.step (ref02_Num_L2 n) _ _ _ _ _ _ _ k).trans h
    · cases h)
theorem ref02_Num_L2.look {F : Int → Int → Int → Int → ((List Int) × Int × Bool × Unit) → Int → Bool → (Int → Int → Int → ((List Int) × Int × Bool × Unit) → Int → Bool → Option Bool) → Option Bool} {e : Option Bool} {st : St} {k : KE} (hx : ref02_Num_L2.get F e st k = some true) : e = some true ∨ ref02_Num_L2.get F none st k = some true := by
  obtain ⟨sl, hp, m⟩ := st
  unfold ref02_Num_L2.get at hx ⊢
  dsimp only at hx ⊢
  split at hx
  · exact .inr hx
  · exact .inl hx
/-- function 31: sheerleg/sheerlegref02.Num -/
noncomputable def ref02_Num.body (ref02_Num_L0 : Int → Bool → Int → Int → ((List Int) × Int × Bool × Unit) → Int → Bool → (Int → Bool → Int → ((List Int) × Int × Bool × Unit) → Int → Bool → Option Bool) → Option Bool) (ref02_Num_L2 : Int → Int → Int → Int → ((List Int) × Int × Bool × Unit) → Int → Bool → (Int → Int → Int → ((List Int) × Int × Bool × Unit) → Int → Bool → Option Bool) → Option Bool) (t674 : (List Int) × Int × Bool × Unit) (n675 : Int) (b676 : Bool) (k1 : ((List Int) × Int × Bool × Unit) → Int → Option Bool) : Option Bool :=
  (cond_ (! t674.2.2.1) (cond_ (! (decide (n675 < (1 : Int)))) (cond_ (! (decide (n675 > (8 : Int)))) (cond_ (decide (n675 > (IntKind.wrap .i64 ((((List.length t674.1) : Nat) : Int) - t674.2.1)))) (k1 ((t674.1, (t674.2.1, (true, ()))).1, ((t674.1, (t674.2.1, (true, ()))).2.1, (true, ()))) (0 : Int)) (ref02_Num_L0 n675 b676 (0 : Int) (0 : Int) t674 (0 : Int) false
  (fun n684 b685 n686 t687 n688 b689 => (cond_ b685 (cond_ (decide (n684 < (8 : Int))) (cond_ ((decide ((0 : Int) ≤ t687.2.1)) && (decide (t687.2.1 < (((List.length t687.1) : Nat) : Int)))) (cond_ (decide ((List.getD t687.1 (Int.toNat t687.2.1) (0 : Int)) ≥ (128 : Int))) (ref02_Num_L2 n684 n686 (1 : Int) (0 : Int) t687 n688 b689
  (fun n697 n698 n699 t700 n701 b702 => (k1 ((t700.1, ((IntKind.wrap .i64 (t700.2.1 + n697)), (t700.2.2.1, ()))).1, ((t700.1, ((IntKind.wrap .i64 (t700.2.1 + n697)), (t700.2.2.1, ()))).2.1, ((t700.1, ((IntKind.wrap .i64 (t700.2.1 + n697)), (t700.2.2.1, ()))).2.2.1, ()))) (IntKind.wrap .i64 (IntKind.wrap .u64 (n698 - n699)))))) (k1 ((t687.1, ((IntKind.wrap .i64 (t687.2.1 + n684)), (t687.2.2.1, ()))).1, ((t687.1, ((IntKind.wrap .i64 (t687.2.1 + n684)), (t687.2.2.1, ()))).2.1, ((t687.1, ((IntKind.wrap .i64 (t687.2.1 + n684)), (t687.2.2.1, ()))).2.2.1, ()))) (IntKind.wrap .i64 n686))) none) (k1 ((t687.1, ((IntKind.wrap .i64 (t687.2.1 + n684)), (t687.2.2.1, ()))).1, ((t687.1, ((IntKind.wrap .i64 (t687.2.1 + n684)), (t687.2.2.1, ()))).2.1, ((t687.1, ((IntKind.wrap .i64 (t687.2.1 + n684)), (t687.2.2.1, ()))).2.2.1, ()))) (IntKind.wrap .i64 n686))) (k1 ((t687.1, ((IntKind.wrap .i64 (t687.2.1 + n684)), (t687.2.2.1, ()))).1, ((t687.1, ((IntKind.wrap .i64 (t687.2.1 + n684)), (t687.2.2.1, ()))).2.1, ((t687.1, ((IntKind.wrap .i64 (t687.2.1 + n684)), (t687.2.2.1, ()))).2.2.1, ()))) (IntKind.wrap .i64 n686)))))) (k1 ((t674.1, (t674.2.1, (true, ()))).1, ((t674.1, (t674.2.1, (true, ()))).2.1, (true, ()))) (0 : Int))) (k1 ((t674.1, (t674.2.1, (true, ()))).1, ((t674.1, (t674.2.1, (true, ()))).2.1, (true, ()))) (0 : Int))) (k1 ((t674.1, (t674.2.1, (true, ()))).1, ((t674.1, (t674.2.1, (true, ()))).2.1, (true, ()))) (0 : Int)))
noncomputable def ref02_Num (t674 : (List Int) × Int × Bool × Unit) (n675 : Int) (b676 : Bool) (k1 : ((List Int) × Int × Bool × Unit) → Int → Option Bool) : Option Bool := ref02_Num.body (ref02_Num_L0 ROUNDS) (ref02_Num_L2 ROUNDS) t674 n675 b676 k1
noncomputable def ref02_Num.get (F : ((List Int) × Int × Bool × Unit) → Int → Bool → (((List Int) × Int × Bool × Unit) → Int → Option Bool) → Option Bool) (e : Option Bool) (g : FuncId) (a : List AV) (h : Heap) (k : KR) : Option Bool := match g, a, h with
  | 31, [(.d ⟨(.st [(.sl 5 (.int .u8)), (.int .i64), .bool]), t674⟩), (.d ⟨(.int .i64), n675⟩), (.d ⟨.bool, b676⟩)], [] => F t674 n675 b676 (fun y0 y1 => k (.tup [(.d ⟨(.st [(.sl 5 (.int .u8)), (.int .i64), .bool]), y0⟩), (.d ⟨(.int .i64), y1⟩)]) [])
  | _, _, _ => e
noncomputable def ref02_Num.calls : RecF := fun g a h k => none
noncomputable def ref02_Num.loops (L0 : Int → Bool → Int → Int → ((List Int) × Int × Bool × Unit) → Int → Bool → (Int → Bool → Int → ((List Int) × Int × Bool × Unit) → Int → Bool → Option Bool) → Option Bool) (L1 : Int → Int → Int → Int → ((List Int) × Int × Bool × Unit) → Int → Bool → (Int → Int → Int → ((List Int) × Int × Bool × Unit) → Int → Bool → Option Bool) → Option Bool) : LoopF := fun b => match Nat.beq b 0 with | true => some (fun st k => (ref02_Num_L0.get L0 none st k)) | false => match Nat.beq b 2 with | true => some (fun st k => (ref02_Num_L2.get L1 none st k)) | false => none
set_option maxRecDepth 100000 in
theorem ref02_Num.eq (L0 : Int → Bool → Int → Int → ((List Int) × Int × Bool × Unit) → Int → Bool → (Int → Bool → Int → ((List Int) × Int × Bool × Unit) → Int → Bool → Option Bool) → Option Bool) (L1 : Int → Int → Int → Int → ((List Int) × Int × Bool × Unit) → Int → Bool → (Int → Int → Int → ((List Int) × Int × Bool × Unit) → Int → Bool → Option Bool) → Option Bool) (t674 : (List Int) × Int × Bool × Unit) (n675 : Int) (b676 : Bool) (k : KR) : execL Try.prog ht 31 (callfOf (ref02_Num.calls)) (ref02_Num.loops L0 L1) 0 (codeOf Try.f31) ⟨[(.d ⟨(.st [(.sl 5 (.int .u8)), (.int .i64), .bool]), t674⟩), (.d ⟨(.int .i64), n675⟩), (.d ⟨.bool, b676⟩)] ++ List.replicate (Try.f31.ntmps - ([(.d ⟨(.st [(.sl 5 (.int .u8)), (.int .i64), .bool]), t674⟩), (.d ⟨(.int .i64), n675⟩), (.d ⟨.bool, b676⟩)] : List AV).length) .undef, [], 2⟩ (leave Try.prog Try.f31 k) = ref02_Num.body L0 L1 t674 n675 b676 (fun y0 y1 => k (.tup [(.d ⟨(.st [(.sl 5 (.int .u8)), (.int .i64), .bool]), y0⟩), (.d ⟨(.int .i64), y1⟩)]) []) := by kernel_rfl
theorem ref02_Num.ok (d : Nat) (hd : 1 ≤ d) (t674 : (List Int) × Int × Bool × Unit) (n675 : Int) (b676 : Bool) (k : KR) (hx : ref02_Num t674 n675 b676 (fun y0 y1 => k (.tup [(.d ⟨(.st [(.sl 5 (.int .u8)), (.int .i64), .bool]), y0⟩), (.d ⟨(.int .i64), y1⟩)]) []) = some true) : callK Try.prog ht d 31 [(.d ⟨(.st [(.sl 5 (.int .u8)), (.int .i64), .bool]), t674⟩), (.d ⟨(.int .i64), n675⟩), (.d ⟨.bool, b676⟩)] [] k = some true := by
  obtain ⟨d, rfl⟩ : ∃ e, d = e + 1 := ⟨d - 1, by omega⟩
  exact fn_ok (c := codeOf Try.f31) Try.func31 (by kernel_rfl) (rec := ref02_Num.calls) (fun g a h k hx => by
    cases hx) (loopf := ref02_Num.loops (ref02_Num_L0 ROUNDS) (ref02_Num_L2 ROUNDS)) (by
    have e : loopsOf (ref02_Num.loops (ref02_Num_L0 ROUNDS) (ref02_Num_L2 ROUNDS)) 0 (codeOf Try.f31) = [(0, loopAt 0 (codeOf Try.f31)), (2, loopAt 2 (codeOf Try.f31))] := by kernel_rfl
    rw [e]
    intro p hp
    simp only [List.mem_cons, List.not_mem_nil, or_false] at hp
    rcases hp with rfl | rfl
    · refine loopRef_of (callf := callfOf (callK Try.prog ht d)) (callfOf_ref (callK_mono d)) fun lf st k hb hx => ?_
      cases hb
      rcases ref02_Num_L0.look hx with hx | hx
      rotate_left
      · exact ref02_Num_L0.ok d (by omega) _ _ _ hx
      cases hx
    · refine loopRef_of (callf := callfOf (callK Try.prog ht d)) (callfOf_ref (callK_mono d)) fun lf st k hb hx => ?_
      cases hb
      rcases ref02_Num_L2.look hx with hx | hx
      rotate_left
      · exact ref02_Num_L2.ok d (by omega) _ _ _ hx
      cases hx) ((ref02_Num.eq (ref02_Num_L0 ROUNDS) (ref02_Num_L2 ROUNDS) t674 n675 b676 k).trans hx)
theorem ref02_Num.look (d : Nat) (hd : 1 ≤ d) {e : Option Bool} {g : FuncId} {a : List AV} {h : Heap} {k : KR} (hx : ref02_Num.get ref02_Num e g a h k = some true) : e = some true ∨ callK Try.prog ht d g a h k = some true := by
  unfold ref02_Num.get at hx
  split at hx
  · exact .inr (ref02_Num.ok d hd _ _ _ _ hx)
  · exact .inl hx
/-- function 32: the loop in block 0 -/
noncomputable def ref13_Nums_L0.body (ref13_Nums_L0 : (List Int) → Int → ((List Int) × Int × Bool × Unit) → Int → Bool → (List Int) → (((List Int) × Int × Bool × Unit) → Int → Bool → (List Int) → Option Bool) → Option Bool) (ref02_Num : ((List Int) × Int × Bool × Unit) → Int → Bool → (((List Int) × Int × Bool × Unit) → Int → Option Bool) → Option Bool) (ns744 : List Int) (n745 : Int) (t746 : (List Int) × Int × Bool × Unit) (n747 : Int) (b748 : Bool) (ns749 : List Int) (k1 : ((List Int) × Int × Bool × Unit) → Int → Bool → (List Int) → Option Bool) : Option Bool :=
  (cond_ (decide (n745 < (((List.length ns744) : Nat) : Int))) (cond_ ((decide ((0 : Int) ≤ n745)) && (decide (n745 < (((List.length ns744) : Nat) : Int)))) (ref02_Num t746 (List.getD ns744 (Int.toNat n745) (0 : Int)) false
  (fun t750 n751 => (cond_ (Nat.ble (((List.length ns749) + (List.length (n751 :: []))) * (8 : Nat)) (140737488355328 : Nat)) (ref13_Nums_L0 ns744 (IntKind.wrap .i64 (n745 + (1 : Int))) (t750.1, (t750.2.1, (t750.2.2.1, ()))) n747 b748 (ns749 ++ (n751 :: [])) k1) none))) none) (k1 t746 n747 b748 ns749))
noncomputable def ref13_Nums_L0 : Nat → (List Int) → Int → ((List Int) × Int × Bool × Unit) → Int → Bool → (List Int) → (((List Int) × Int × Bool × Unit) → Int → Bool → (List Int) → Option Bool) → Option Bool
  | 0 => fun _ _ _ _ _ _ _ => none
  | n + 1 => ref13_Nums_L0.body (ref13_Nums_L0 n) ref02_Num
noncomputable def ref13_Nums_L0.get (F : (List Int) → Int → ((List Int) × Int × Bool × Unit) → Int → Bool → (List Int) → (((List Int) × Int × Bool × Unit) → Int → Bool → (List Int) → Option Bool) → Option Bool) (e : Option Bool) (st : St) (k : KE) : Option Bool := match st with
  | ⟨sl, hp, m⟩ => match Nat.beq m 2, pickS 32 [1, 2, 4, 6, 7] sl, hp with
    | true, some [(.bv 1 3 (.int .i64) ns744), (.ptr [1, 0] 0 0), (.ptr [1, 1] 0 0), (.ref [1, 2]), (.d ⟨(.int .i64), n745⟩)], [([1, 0], ⟨44, 3, (.data (.st [(.sl 5 (.int .u8)), (.int .i64), .bool]) [t746])⟩), ([1, 1], ⟨44, 3, (.mix [(.agg [.nils, (.d ⟨(.int .i64), n747⟩), (.d ⟨.bool, b748⟩)])])⟩), ([1, 2], ⟨2, 1, (.data (.int .i64) ns749)⟩)] => F ns744 n745 t746 n747 b748 ns749 (fun y0 y1 y2 y3 => k (.exit 0) ⟨fillS 32 [2, 4, 6] [(.ptr [1, 0] 0 0), (.ptr [1, 1] 0 0), (.ref [1, 2])], [([1, 0], ⟨44, 3, (.data (.st [(.sl 5 (.int .u8)), (.int .i64), .bool]) [y0])⟩), ([1, 1], ⟨44, 3, (.mix [(.agg [.nils, (.d ⟨(.int .i64), y1⟩), (.d ⟨.bool, y2⟩)])])⟩), ([1, 2], ⟨2, 1, (.data (.int .i64) y3)⟩)], 2⟩)
    | _, _, _ => e
noncomputable def ref13_Nums_L0.calls (F0 : ((List Int) × Int × Bool × Unit) → Int → Bool → (((List Int) × Int × Bool × Unit) → Int → Option Bool) → Option Bool) : RecF := fun g a h k => (ref02_Num.get F0 none g a h k)
noncomputable def ref13_Nums_L0.loops : LoopF := fun b => none
set_option maxRecDepth 100000 in
theorem ref13_Nums_L0.step (S : (List Int) → Int → ((List Int) × Int × Bool × Unit) → Int → Bool → (List Int) → (((List Int) × Int × Bool × Unit) → Int → Bool → (List Int) → Option Bool) → Option Bool) (F0 : ((List Int) × Int × Bool × Unit) → Int → Bool → (((List Int) × Int × Bool × Unit) → Int → Option Bool) → Option Bool) (ns744 : List Int) (n745 : Int) (t746 : (List Int) × Int × Bool × Unit) (n747 : Int) (b748 : Bool) (ns749 : List Int) (k : KE) : execL Try.prog ht 32 (callfOf (ref13_Nums_L0.calls F0)) (ref13_Nums_L0.loops) 0 (loopAt 0 (codeOf Try.f32)) ⟨fillS 32 [1, 2, 4, 6, 7] [(.bv 1 3 (.int .i64) ns744), (.ptr [1, 0] 0 0), (.ptr [1, 1] 0 0), (.ref [1, 2]), (.d ⟨(.int .i64), n745⟩)], [([1, 0], ⟨44, 3, (.data (.st [(.sl 5 (.int .u8)), (.int .i64), .bool]) [t746])⟩), ([1, 1], ⟨44, 3, (.mix [(.agg [.nils, (.d ⟨(.int .i64), n747⟩), (.d ⟨.bool, b748⟩)])])⟩), ([1, 2], ⟨2, 1, (.data (.int .i64) ns749)⟩)], 2⟩ (again (ref13_Nums_L0.get S none) (plan Try.prog (ht 32 0)) k) = ref13_Nums_L0.body S F0 ns744 n745 t746 n747 b748 ns749 (fun y0 y1 y2 y3 => k (.exit 0) ⟨fillS 32 [2, 4, 6] [(.ptr [1, 0] 0 0), (.ptr [1, 1] 0 0), (.ref [1, 2])], [([1, 0], ⟨44, 3, (.data (.st [(.sl 5 (.int .u8)), (.int .i64), .bool]) [y0])⟩), ([1, 1], ⟨44, 3, (.mix [(.agg [.nils, (.d ⟨(.int .i64), y1⟩), (.d ⟨.bool, y2⟩)])])⟩), ([1, 2], ⟨2, 1, (.data (.int .i64) y3)⟩)], 2⟩) := by kernel_rfl
theorem ref13_Nums_L0.ok (d : Nat) (hd : 1 ≤ d) : ∀ n st k, ref13_Nums_L0.get (ref13_Nums_L0 n) none st k = some true → iter n (plan Try.prog (ht 32 0)) (fun st k => execK Try.prog ht 32 (callfOf (callK Try.prog ht d)) 0 (loopAt 0 (codeOf Try.f32)) st k) st k = some true :=
  loop_ok (lfn := fun n st k => ref13_Nums_L0.get (ref13_Nums_L0 n) none st k) (rec := ref13_Nums_L0.calls ref02_Num) (fun g a h k hx => by
    rcases ref02_Num.look d (by omega) hx with hx | hx
    rotate_left
    · exact hx
    cases hx) (loopf := ref13_Nums_L0.loops) (by
    have e : loopsOf (ref13_Nums_L0.loops) 0 (loopAt 0 (codeOf Try.f32)) = [] := by kernel_rfl
    rw [e]
    intro p hp
    cases hp) (fun st k h => by
    obtain ⟨sl, hp, m⟩ := st
    unfold ref13_Nums_L0.get at h
    dsimp only at h
    split at h
    · have h' : (none : Option Bool) = some true := h
      cases h'
    · cases h) (fun n st k h => by
    obtain ⟨sl, hp, m⟩ := st
    unfold ref13_Nums_L0.get at h
    dsimp only at h
    split at h
    · rename_i h1 h2
      obtain rfl := pickS_ok h2
      obtain rfl := Nat.eq_of_beq_eq_true h1
      exact (ref13_Nums_L0.step (ref13_Nums_L0 n) ref02_Num _ _ _ _ _ _ k).trans h
    · cases h)
theorem ref13_Nums_L0.look {F : (List Int) → Int → ((List Int) × Int × Bool × Unit) → Int → Bool → (List Int) → (((List Int) × Int × Bool × Unit) → Int → Bool → (List Int) → Option Bool) → Option Bool} {e : Option Bool} {st : St} {k : KE} (hx : ref13_Nums_L0.get F e st k = some true) : e = some true ∨ ref13_Nums_L0.get F none st k = some true := by
  obtain ⟨sl, hp, m⟩ := st
  unfold ref13_Nums_L0.get at hx ⊢
  dsimp only at hx ⊢
  split at hx
  · exact .inr hx
  · exact .inl hx
/-- function 32: sheerleg/sheerlegref13.Nums -/
noncomputable def ref13_Nums.body (ref13_Nums_L0 : (List Int) → Int → ((List Int) × Int × Bool × Unit) → Int → Bool → (List Int) → (((List Int) × Int × Bool × Unit) → Int → Bool → (List Int) → Option Bool) → Option Bool) (t742 : (List Int) × Int × Bool × Unit) (ns743 : List Int) (k1 : ((List Int) × Int × Bool × Unit) → (List Int) → Option Bool) : Option Bool :=
  (ref13_Nums_L0 ns743 (0 : Int) t742 (0 : Int) false []
  (fun t752 n753 b754 ns755 => (k1 (t752.1, (t752.2.1, (t752.2.2.1, ()))) ns755)))
noncomputable def ref13_Nums (t742 : (List Int) × Int × Bool × Unit) (ns743 : List Int) (k1 : ((List Int) × Int × Bool × Unit) → (List Int) → Option Bool) : Option Bool := ref13_Nums.body (ref13_Nums_L0 ROUNDS) t742 ns743 k1
noncomputable def ref13_Nums.get (F : ((List Int) × Int × Bool × Unit) → (List Int) → (((List Int) × Int × Bool × Unit) → (List Int) → Option Bool) → Option Bool) (e : Option Bool) (g : FuncId) (a : List AV) (h : Heap) (k : KR) : Option Bool := match g, a, h with
  | 32, [(.d ⟨(.st [(.sl 5 (.int .u8)), (.int .i64), .bool]), t742⟩), (.bv 1 3 (.int .i64) ns743)], [] => F t742 ns743 (fun y0 y1 => k (.tup [(.d ⟨(.st [(.sl 5 (.int .u8)), (.int .i64), .bool]), y0⟩), (.ref [1, 0])]) [([1, 0], ⟨2, 1, (.data (.int .i64) y1)⟩)])
  | _, _, _ => e
noncomputable def ref13_Nums.calls : RecF := fun g a h k => none
noncomputable def ref13_Nums.loops (L0 : (List Int) → Int → ((List Int) × Int × Bool × Unit) → Int → Bool → (List Int) → (((List Int) × Int × Bool × Unit) → Int → Bool → (List Int) → Option Bool) → Option Bool) : LoopF := fun b => match Nat.beq b 0 with | true => some (fun st k => (ref13_Nums_L0.get L0 none st k)) | false => none
set_option maxRecDepth 100000 in
theorem ref13_Nums.eq (L0 : (List Int) → Int → ((List Int) × Int × Bool × Unit) → Int → Bool → (List Int) → (((List Int) × Int × Bool × Unit) → Int → Bool → (List Int) → Option Bool) → Option Bool) (t742 : (List Int) × Int × Bool × Unit) (ns743 : List Int) (k : KR) : execL Try.prog ht 32 (callfOf (ref13_Nums.calls)) (ref13_Nums.loops L0) 0 (codeOf Try.f32) ⟨[(.d ⟨(.st [(.sl 5 (.int .u8)), (.int .i64), .bool]), t742⟩), (.bv 1 3 (.int .i64) ns743)] ++ List.replicate (Try.f32.ntmps - ([(.d ⟨(.st [(.sl 5 (.int .u8)), (.int .i64), .bool]), t742⟩), (.bv 1 3 (.int .i64) ns743)] : List AV).length) .undef, [], 2⟩ (leave Try.prog Try.f32 k) = ref13_Nums.body L0 t742 ns743 (fun y0 y1 => k (.tup [(.d ⟨(.st [(.sl 5 (.int .u8)), (.int .i64), .bool]), y0⟩), (.ref [1, 0])]) [([1, 0], ⟨2, 1, (.data (.int .i64) y1)⟩)]) := by kernel_rfl
theorem ref13_Nums.ok (d : Nat) (hd : 2 ≤ d) (t742 : (List Int) × Int × Bool × Unit) (ns743 : List Int) (k : KR) (hx : ref13_Nums t742 ns743 (fun y0 y1 => k (.tup [(.d ⟨(.st [(.sl 5 (.int .u8)), (.int .i64), .bool]), y0⟩), (.ref [1, 0])]) [([1, 0], ⟨2, 1, (.data (.int .i64) y1)⟩)]) = some true) : callK Try.prog ht d 32 [(.d ⟨(.st [(.sl 5 (.int .u8)), (.int .i64), .bool]), t742⟩), (.bv 1 3 (.int .i64) ns743)] [] k = some true := by
  obtain ⟨d, rfl⟩ : ∃ e, d = e + 1 := ⟨d - 1, by omega⟩
  exact fn_ok (c := codeOf Try.f32) Try.func32 (by kernel_rfl) (rec := ref13_Nums.calls) (fun g a h k hx => by
    cases hx) (loopf := ref13_Nums.loops (ref13_Nums_L0 ROUNDS)) (by
    have e : loopsOf (ref13_Nums.loops (ref13_Nums_L0 ROUNDS)) 0 (codeOf Try.f32) = [(0, loopAt 0 (codeOf Try.f32))] := by kernel_rfl
    rw [e]
    intro p hp
    simp only [List.mem_cons, List.not_mem_nil, or_false] at hp
    rcases hp with rfl
    · refine loopRef_of (callf := callfOf (callK Try.prog ht d)) (callfOf_ref (callK_mono d)) fun lf st k hb hx => ?_
      cases hb
      rcases ref13_Nums_L0.look hx with hx | hx
      rotate_left
      · exact ref13_Nums_L0.ok d (by omega) _ _ _ hx
      cases hx) ((ref13_Nums.eq (ref13_Nums_L0 ROUNDS) t742 ns743 k).trans hx)
theorem ref13_Nums.look (d : Nat) (hd : 2 ≤ d) {e : Option Bool} {g : FuncId} {a : List AV} {h : Heap} {k : KR} (hx : ref13_Nums.get ref13_Nums e g a h k = some true) : e = some true ∨ callK Try.prog ht d g a h k = some true := by
  unfold ref13_Nums.get at hx
  split at hx
  · exact .inr (ref13_Nums.ok d hd _ _ _ hx)
  · exact .inl hx
/-- function 21: the loop in block 0 -/
noncomputable def ref13_Get_L0.body (ref13_Get_L0 : Int → Int → ((List Int) × Int × Bool × Unit) → Int → Bool → (List (Int × Int × Int × Bool × Int × Unit)) → (Int → (List Int) → Int → Bool → Option Bool) → (((List Int) × Int × Bool × Unit) → Int → Bool → (List (Int × Int × Int × Bool × Int × Unit)) → Option Bool) → Option Bool) (ref13_Nums : ((List Int) × Int × Bool × Unit) → (List Int) → (((List Int) × Int × Bool × Unit) → (List Int) → Option Bool) → Option Bool) (n776 : Int) (n777 : Int) (t778 : (List Int) × Int × Bool × Unit) (n779 : Int) (b780 : Bool) (ts781 : List (Int × Int × Int × Bool × Int × Unit)) (k1 : Int → (List Int) → Int → Bool → Option Bool) (k2 : ((List Int) × Int × Bool × Unit) → Int → Bool → (List (Int × Int × Int × Bool × Int × Unit)) → Option Bool) : Option Bool :=
  (cond_ (decide (n777 < n776)) (ref13_Nums t778 [(2 : Int), (2 : Int), (2 : Int), (2 : Int), (1 : Int)]
  (fun t782 ns783 => (cond_ (t782.1, (t782.2.1, (t782.2.2.1, ()))).2.2.1 (k1 (5 : Int) (t782.1, (t782.2.1, (t782.2.2.1, ()))).1 (t782.1, (t782.2.1, (t782.2.2.1, ()))).2.1 (t782.1, (t782.2.1, (t782.2.2.1, ()))).2.2.1) (cond_ (true && (decide ((4 : Int) < (((List.length ns783) : Nat) : Int)))) (cond_ (decide ((List.getD ns783 (4 : Nat) (0 : Int)) > (1 : Int))) (k1 (3 : Int) (t782.1, (t782.2.1, (t782.2.2.1, ()))).1 (t782.1, (t782.2.1, (t782.2.2.1, ()))).2.1 (t782.1, (t782.2.1, (t782.2.2.1, ()))).2.2.1) (cond_ (true && (decide ((0 : Int) < (((List.length ns783) : Nat) : Int)))) (cond_ (true && (decide ((1 : Int) < (((List.length ns783) : Nat) : Int)))) (cond_ (true && (decide ((2 : Int) < (((List.length ns783) : Nat) : Int)))) (cond_ (true && (decide ((3 : Int) < (((List.length ns783) : Nat) : Int)))) (cond_ (true && (decide ((4 : Int) < (((List.length ns783) : Nat) : Int)))) (cond_ (Nat.ble (((List.length ts781) + (List.length (((List.getD ns783 (0 : Nat) (0 : Int)), ((List.getD ns783 (1 : Nat) (0 : Int)), ((List.getD ns783 (2 : Nat) (0 : Int)), (((List.getD ns783 (4 : Nat) (0 : Int)) == (1 : Int)), ((List.getD ns783 (3 : Nat) (0 : Int)), ()))))) :: []))) * (40 : Nat)) (140737488355328 : Nat)) (ref13_Get_L0 n776 (IntKind.wrap .i64 (n777 + (1 : Int))) (t782.1, (t782.2.1, (t782.2.2.1, ()))) n779 b780 (ts781 ++ (((List.getD ns783 (0 : Nat) (0 : Int)), ((List.getD ns783 (1 : Nat) (0 : Int)), ((List.getD ns783 (2 : Nat) (0 : Int)), (((List.getD ns783 (4 : Nat) (0 : Int)) == (1 : Int)), ((List.getD ns783 (3 : Nat) (0 : Int)), ()))))) :: [])) k1 k2) none) none) none) none) none) none)) none)))) (k2 t778 n779 b780 ts781))
noncomputable def ref13_Get_L0 : Nat → Int → Int → ((List Int) × Int × Bool × Unit) → Int → Bool → (List (Int × Int × Int × Bool × Int × Unit)) → (Int → (List Int) → Int → Bool → Option Bool) → (((List Int) × Int × Bool × Unit) → Int → Bool → (List (Int × Int × Int × Bool × Int × Unit)) → Option Bool) → Option Bool
  | 0 => fun _ _ _ _ _ _ _ _ => none
  | n + 1 => ref13_Get_L0.body (ref13_Get_L0 n) ref13_Nums
noncomputable def ref13_Get_L0.get (F : Int → Int → ((List Int) × Int × Bool × Unit) → Int → Bool → (List (Int × Int × Int × Bool × Int × Unit)) → (Int → (List Int) → Int → Bool → Option Bool) → (((List Int) × Int × Bool × Unit) → Int → Bool → (List (Int × Int × Int × Bool × Int × Unit)) → Option Bool) → Option Bool) (e : Option Bool) (st : St) (k : KE) : Option Bool := match st with
  | ⟨sl, hp, m⟩ => match Nat.beq m 2, pickS 61 [1, 2, 5, 6, 7] sl, hp with
    | true, some [(.ptr [1, 0] 0 0), (.ptr [1, 1] 0 0), (.d ⟨(.int .i64), n776⟩), (.ref [1, 2]), (.d ⟨(.int .i64), n777⟩)], [([1, 0], ⟨44, 3, (.data (.st [(.sl 5 (.int .u8)), (.int .i64), .bool]) [t778])⟩), ([1, 1], ⟨44, 3, (.mix [(.agg [.nils, (.d ⟨(.int .i64), n779⟩), (.d ⟨.bool, b780⟩)])])⟩), ([1, 2], ⟨50, 5, (.data (.st [(.int .i64), (.int .i64), (.int .i64), .bool, (.int .i64)]) ts781)⟩)] => F n776 n777 t778 n779 b780 ts781 (fun y0 y1 y2 y3 => k .ret ⟨fillS 61 [2, 3, 4] [(.ptr [1, 0] 0 0), .nils, (.d ⟨(.int .i64), y0⟩)], [([1, 0], ⟨44, 3, (.mix [(.agg [(.d ⟨(.sl 5 (.int .u8)), y1⟩), (.d ⟨(.int .i64), y2⟩), (.d ⟨.bool, y3⟩)])])⟩)], 2⟩) (fun y0 y1 y2 y3 => k (.exit 0) ⟨fillS 61 [1, 2, 6] [(.ptr [1, 0] 0 0), (.ptr [1, 1] 0 0), (.ref [1, 2])], [([1, 0], ⟨44, 3, (.data (.st [(.sl 5 (.int .u8)), (.int .i64), .bool]) [y0])⟩), ([1, 1], ⟨44, 3, (.mix [(.agg [.nils, (.d ⟨(.int .i64), y1⟩), (.d ⟨.bool, y2⟩)])])⟩), ([1, 2], ⟨50, 5, (.data (.st [(.int .i64), (.int .i64), (.int .i64), .bool, (.int .i64)]) y3)⟩)], 2⟩)
    | _, _, _ => e
noncomputable def ref13_Get_L0.calls (F0 : ((List Int) × Int × Bool × Unit) → (List Int) → (((List Int) × Int × Bool × Unit) → (List Int) → Option Bool) → Option Bool) : RecF := fun g a h k => (ref13_Nums.get F0 none g a h k)
noncomputable def ref13_Get_L0.loops : LoopF := fun b => none
set_option maxRecDepth 100000 in
theorem ref13_Get_L0.step (S : Int → Int → ((List Int) × Int × Bool × Unit) → Int → Bool → (List (Int × Int × Int × Bool × Int × Unit)) → (Int → (List Int) → Int → Bool → Option Bool) → (((List Int) × Int × Bool × Unit) → Int → Bool → (List (Int × Int × Int × Bool × Int × Unit)) → Option Bool) → Option Bool) (F0 : ((List Int) × Int × Bool × Unit) → (List Int) → (((List Int) × Int × Bool × Unit) → (List Int) → Option Bool) → Option Bool) (n776 : Int) (n777 : Int) (t778 : (List Int) × Int × Bool × Unit) (n779 : Int) (b780 : Bool) (ts781 : List (Int × Int × Int × Bool × Int × Unit)) (k : KE) : execL Try.prog ht 21 (callfOf (ref13_Get_L0.calls F0)) (ref13_Get_L0.loops) 0 (loopAt 0 (codeOf Try.f21)) ⟨fillS 61 [1, 2, 5, 6, 7] [(.ptr [1, 0] 0 0), (.ptr [1, 1] 0 0), (.d ⟨(.int .i64), n776⟩), (.ref [1, 2]), (.d ⟨(.int .i64), n777⟩)], [([1, 0], ⟨44, 3, (.data (.st [(.sl 5 (.int .u8)), (.int .i64), .bool]) [t778])⟩), ([1, 1], ⟨44, 3, (.mix [(.agg [.nils, (.d ⟨(.int .i64), n779⟩), (.d ⟨.bool, b780⟩)])])⟩), ([1, 2], ⟨50, 5, (.data (.st [(.int .i64), (.int .i64), (.int .i64), .bool, (.int .i64)]) ts781)⟩)], 2⟩ (again (ref13_Get_L0.get S none) (plan Try.prog (ht 21 0)) k) = ref13_Get_L0.body S F0 n776 n777 t778 n779 b780 ts781 (fun y0 y1 y2 y3 => k .ret ⟨fillS 61 [2, 3, 4] [(.ptr [1, 0] 0 0), .nils, (.d ⟨(.int .i64), y0⟩)], [([1, 0], ⟨44, 3, (.mix [(.agg [(.d ⟨(.sl 5 (.int .u8)), y1⟩), (.d ⟨(.int .i64), y2⟩), (.d ⟨.bool, y3⟩)])])⟩)], 2⟩) (fun y0 y1 y2 y3 => k (.exit 0) ⟨fillS 61 [1, 2, 6] [(.ptr [1, 0] 0 0), (.ptr [1, 1] 0 0), (.ref [1, 2])], [([1, 0], ⟨44, 3, (.data (.st [(.sl 5 (.int .u8)), (.int .i64), .bool]) [y0])⟩), ([1, 1], ⟨44, 3, (.mix [(.agg [.nils, (.d ⟨(.int .i64), y1⟩), (.d ⟨.bool, y2⟩)])])⟩), ([1, 2], ⟨50, 5, (.data (.st [(.int .i64), (.int .i64), (.int .i64), .bool, (.int .i64)]) y3)⟩)], 2⟩) := by kernel_rfl
theorem ref13_Get_L0.ok (d : Nat) (hd : 2 ≤ d) : ∀ n st k, ref13_Get_L0.get (ref13_Get_L0 n) none st k = some true → iter n (plan Try.prog (ht 21 0)) (fun st k => execK Try.prog ht 21 (callfOf (callK Try.prog ht d)) 0 (loopAt 0 (codeOf Try.f21)) st k) st k = some true :=
  loop_ok (lfn := fun n st k => ref13_Get_L0.get (ref13_Get_L0 n) none st k) (rec := ref13_Get_L0.calls ref13_Nums) (fun g a h k hx => by
    rcases ref13_Nums.look d (by omega) hx with hx | hx
    rotate_left
    · exact hx
    cases hx) (loopf := ref13_Get_L0.loops) (by
    have e : loopsOf (ref13_Get_L0.loops) 0 (loopAt 0 (codeOf Try.f21)) = [] := by kernel_rfl
    rw [e]
    intro p hp
    cases hp) (fun st k h => by
    obtain ⟨sl, hp, m⟩ := st
    unfold ref13_Get_L0.get at h
    dsimp only at h
    split at h
    · have h' : (none : Option Bool) = some true := h
      cases h'
    · cases h) (fun n st k h => by
    obtain ⟨sl, hp, m⟩ := st
    unfold ref13_Get_L0.get at h
    dsimp only at h
    split at h
    · rename_i h1 h2
      obtain rfl := pickS_ok h2
      obtain rfl := Nat.eq_of_beq_eq_true h1
      exact (ref13_Get_L0.step (ref13_Get_L0 n) ref13_Nums _ _ _ _ _ _ k).trans h
    · cases h)
theorem ref13_Get_L0.look {F : Int → Int → ((List Int) × Int × Bool × Unit) → Int → Bool → (List (Int × Int × Int × Bool × Int × Unit)) → (Int → (List Int) → Int → Bool → Option Bool) → (((List Int) × Int × Bool × Unit) → Int → Bool → (List (Int × Int × Int × Bool × Int × Unit)) → Option Bool) → Option Bool} {e : Option Bool} {st : St} {k : KE} (hx : ref13_Get_L0.get F e st k = some true) : e = some true ∨ ref13_Get_L0.get F none st k = some true := by
  obtain ⟨sl, hp, m⟩ := st
  unfold ref13_Get_L0.get at hx ⊢
  dsimp only at hx ⊢
  split at hx
  · exact .inr hx
  · exact .inl hx
/-- function 21: sheerleg/sheerlegref13.Get -/
noncomputable def ref13_Get.body (ref02_Num : ((List Int) × Int × Bool × Unit) → Int → Bool → (((List Int) × Int × Bool × Unit) → Int → Option Bool) → Option Bool) (ref13_Get_L0 : Int → Int → ((List Int) × Int × Bool × Unit) → Int → Bool → (List (Int × Int × Int × Bool × Int × Unit)) → (Int → (List Int) → Int → Bool → Option Bool) → (((List Int) × Int × Bool × Unit) → Int → Bool → (List (Int × Int × Int × Bool × Int × Unit)) → Option Bool) → Option Bool) (t773 : (List Int) × Int × Bool × Unit) (k1 : ((List Int) × Int × Bool × Unit) → Int → (List (Int × Int × Int × Bool × Int × Unit)) → Option Bool) : Option Bool :=
  (ref02_Num t773 (2 : Int) false
  (fun t774 n775 => (ref13_Get_L0 n775 (0 : Int) t774 (0 : Int) false []
  (fun n784 l785 n786 b787 => (k1 (l785, (n786, (b787, ()))) n784 []))
  (fun t788 n789 b790 ts791 => (cond_ t788.2.2.1 (k1 (t788.1, (t788.2.1, (t788.2.2.1, ()))) (5 : Int) []) (k1 (t788.1, (t788.2.1, (t788.2.2.1, ()))) (0 : Int) ts791))))))
noncomputable def ref13_Get (t773 : (List Int) × Int × Bool × Unit) (k1 : ((List Int) × Int × Bool × Unit) → Int → (List (Int × Int × Int × Bool × Int × Unit)) → Option Bool) : Option Bool := ref13_Get.body ref02_Num (ref13_Get_L0 ROUNDS) t773 k1
noncomputable def ref13_Get.get (F : ((List Int) × Int × Bool × Unit) → (((List Int) × Int × Bool × Unit) → Int → (List (Int × Int × Int × Bool × Int × Unit)) → Option Bool) → Option Bool) (e : Option Bool) (g : FuncId) (a : List AV) (h : Heap) (k : KR) : Option Bool := match g, a, h with
  | 21, [(.d ⟨(.st [(.sl 5 (.int .u8)), (.int .i64), .bool]), t773⟩)], [] => F t773 (fun y0 y1 y2 => k (.tup [(.d ⟨(.st [(.sl 5 (.int .u8)), (.int .i64), .bool]), y0⟩), (.ref [1, 0]), (.d ⟨(.int .i64), y1⟩)]) [([1, 0], ⟨50, 5, (.data (.st [(.int .i64), (.int .i64), (.int .i64), .bool, (.int .i64)]) y2)⟩)])
  | _, _, _ => e
noncomputable def ref13_Get.calls (F0 : ((List Int) × Int × Bool × Unit) → Int → Bool → (((List Int) × Int × Bool × Unit) → Int → Option Bool) → Option Bool) : RecF := fun g a h k => (ref02_Num.get F0 none g a h k)
noncomputable def ref13_Get.loops (L0 : Int → Int → ((List Int) × Int × Bool × Unit) → Int → Bool → (List (Int × Int × Int × Bool × Int × Unit)) → (Int → (List Int) → Int → Bool → Option Bool) → (((List Int) × Int × Bool × Unit) → Int → Bool → (List (Int × Int × Int × Bool × Int × Unit)) → Option Bool) → Option Bool) : LoopF := fun b => match Nat.beq b 0 with | true => some (fun st k => (ref13_Get_L0.get L0 none st k)) | false => none
set_option maxRecDepth 100000 in
theorem ref13_Get.eq (F0 : ((List Int) × Int × Bool × Unit) → Int → Bool → (((List Int) × Int × Bool × Unit) → Int → Option Bool) → Option Bool) (L0 : Int → Int → ((List Int) × Int × Bool × Unit) → Int → Bool → (List (Int × Int × Int × Bool × Int × Unit)) → (Int → (List Int) → Int → Bool → Option Bool) → (((List Int) × Int × Bool × Unit) → Int → Bool → (List (Int × Int × Int × Bool × Int × Unit)) → Option Bool) → Option Bool) (t773 : (List Int) × Int × Bool × Unit) (k : KR) : execL Try.prog ht 21 (callfOf (ref13_Get.calls F0)) (ref13_Get.loops L0) 0 (codeOf Try.f21) ⟨[(.d ⟨(.st [(.sl 5 (.int .u8)), (.int .i64), .bool]), t773⟩)] ++ List.replicate (Try.f21.ntmps - ([(.d ⟨(.st [(.sl 5 (.int .u8)), (.int .i64), .bool]), t773⟩)] : List AV).length) .undef, [], 2⟩ (leave Try.prog Try.f21 k) = ref13_Get.body F0 L0 t773 (fun y0 y1 y2 => k (.tup [(.d ⟨(.st [(.sl 5 (.int .u8)), (.int .i64), .bool]), y0⟩), (.ref [1, 0]), (.d ⟨(.int .i64), y1⟩)]) [([1, 0], ⟨50, 5, (.data (.st [(.int .i64), (.int .i64), (.int .i64), .bool, (.int .i64)]) y2)⟩)]) := by kernel_rfl
theorem ref13_Get.ok (d : Nat) (hd : 3 ≤ d) (t773 : (List Int) × Int × Bool × Unit) (k : KR) (hx : ref13_Get t773 (fun y0 y1 y2 => k (.tup [(.d ⟨(.st [(.sl 5 (.int .u8)), (.int .i64), .bool]), y0⟩), (.ref [1, 0]), (.d ⟨(.int .i64), y1⟩)]) [([1, 0], ⟨50, 5, (.data (.st [(.int .i64), (.int .i64), (.int .i64), .bool, (.int .i64)]) y2)⟩)]) = some true) : callK Try.prog ht d 21 [(.d ⟨(.st [(.sl 5 (.int .u8)), (.int .i64), .bool]), t773⟩)] [] k = some true := by
  obtain ⟨d, rfl⟩ : ∃ e, d = e + 1 := ⟨d - 1, by omega⟩
  exact fn_ok (c := codeOf Try.f21) Try.func21 (by kernel_rfl) (rec := ref13_Get.calls ref02_Num) (fun g a h k hx => by
    rcases ref02_Num.look d (by omega) hx with hx | hx
    rotate_left
    · exact hx
    cases hx) (loopf := ref13_Get.loops (ref13_Get_L0 ROUNDS)) (by
    have e : loopsOf (ref13_Get.loops (ref13_Get_L0 ROUNDS)) 0 (codeOf Try.f21) = [(0, loopAt 0 (codeOf Try.f21))] := by kernel_rfl
    rw [e]
    intro p hp
    simp only [List.mem_cons, List.not_mem_nil, or_false] at hp
    rcases hp with rfl
    · refine loopRef_of (callf := callfOf (callK Try.prog ht d)) (callfOf_ref (callK_mono d)) fun lf st k hb hx => ?_
      cases hb
      rcases ref13_Get_L0.look hx with hx | hx
      rotate_left
      · exact ref13_Get_L0.ok d (by omega) _ _ _ hx
      cases hx) ((ref13_Get.eq ref02_Num (ref13_Get_L0 ROUNDS) t773 k).trans hx)
theorem ref13_Get.look (d : Nat) (hd : 3 ≤ d) {e : Option Bool} {g : FuncId} {a : List AV} {h : Heap} {k : KR} (hx : ref13_Get.get ref13_Get e g a h k = some true) : e = some true ∨ callK Try.prog ht d g a h k = some true := by
  unfold ref13_Get.get at hx
  split at hx
  · exact .inr (ref13_Get.ok d hd _ _ hx)
  · exact .inl hx
/-- function 22: (*sheerleg/octet.Reader).At -/
noncomputable def octet_Reader_At.body (n796 : Int) (b797 : Bool) (b798 : Bool) (ns799 : List Int) (k1 : Int → Int → Bool → Bool → (List Int) → Option Bool) : Option Bool :=
  (k1 n796 n796 b797 b798 ns799)
noncomputable def octet_Reader_At (n796 : Int) (b797 : Bool) (b798 : Bool) (ns799 : List Int) (k1 : Int → Int → Bool → Bool → (List Int) → Option Bool) : Option Bool := octet_Reader_At.body n796 b797 b798 ns799 k1
noncomputable def octet_Reader_At.get (F : Int → Bool → Bool → (List Int) → (Int → Int → Bool → Bool → (List Int) → Option Bool) → Option Bool) (e : Option Bool) (g : FuncId) (a : List AV) (h : Heap) (k : KR) : Option Bool := match g, a, h with
  | 22, [(.ptr [0, 0] 0 0)], [([0, 0], ⟨57, 4, (.mix [(.agg [(.ref [0, 1]), (.d ⟨(.int .i64), n796⟩), (.d ⟨.bool, b797⟩), (.d ⟨.bool, b798⟩)])])⟩), ([0, 1], ⟨5, 1, (.data (.int .u8) ns799)⟩)] => F n796 b797 b798 ns799 (fun y0 y1 y2 y3 y4 => k (.d ⟨(.int .i64), y0⟩) [([0, 0], ⟨57, 4, (.mix [(.agg [(.ref [0, 1]), (.d ⟨(.int .i64), y1⟩), (.d ⟨.bool, y2⟩), (.d ⟨.bool, y3⟩)])])⟩), ([0, 1], ⟨5, 1, (.data (.int .u8) y4)⟩)])
  | _, _, _ => e
noncomputable def octet_Reader_At.calls : RecF := fun g a h k => none
noncomputable def octet_Reader_At.loops : LoopF := fun b => none
set_option maxRecDepth 100000 in
theorem octet_Reader_At.eq (n796 : Int) (b797 : Bool) (b798 : Bool) (ns799 : List Int) (k : KR) : execL Try.prog ht 22 (callfOf (octet_Reader_At.calls)) (octet_Reader_At.loops) 0 (codeOf Try.f22) ⟨[(.ptr [0, 0] 0 0)] ++ List.replicate (Try.f22.ntmps - ([(.ptr [0, 0] 0 0)] : List AV).length) .undef, [([0, 0], ⟨57, 4, (.mix [(.agg [(.ref [0, 1]), (.d ⟨(.int .i64), n796⟩), (.d ⟨.bool, b797⟩), (.d ⟨.bool, b798⟩)])])⟩), ([0, 1], ⟨5, 1, (.data (.int .u8) ns799)⟩)], 2⟩ (leave Try.prog Try.f22 k) = octet_Reader_At.body n796 b797 b798 ns799 (fun y0 y1 y2 y3 y4 => k (.d ⟨(.int .i64), y0⟩) [([0, 0], ⟨57, 4, (.mix [(.agg [(.ref [0, 1]), (.d ⟨(.int .i64), y1⟩), (.d ⟨.bool, y2⟩), (.d ⟨.bool, y3⟩)])])⟩), ([0, 1], ⟨5, 1, (.data (.int .u8) y4)⟩)]) := by kernel_rfl
theorem octet_Reader_At.ok (d : Nat) (hd : 1 ≤ d) (n796 : Int) (b797 : Bool) (b798 : Bool) (ns799 : List Int) (k : KR) (hx : octet_Reader_At n796 b797 b798 ns799 (fun y0 y1 y2 y3 y4 => k (.d ⟨(.int .i64), y0⟩) [([0, 0], ⟨57, 4, (.mix [(.agg [(.ref [0, 1]), (.d ⟨(.int .i64), y1⟩), (.d ⟨.bool, y2⟩), (.d ⟨.bool, y3⟩)])])⟩), ([0, 1], ⟨5, 1, (.data (.int .u8) y4)⟩)]) = some true) : callK Try.prog ht d 22 [(.ptr [0, 0] 0 0)] [([0, 0], ⟨57, 4, (.mix [(.agg [(.ref [0, 1]), (.d ⟨(.int .i64), n796⟩), (.d ⟨.bool, b797⟩), (.d ⟨.bool, b798⟩)])])⟩), ([0, 1], ⟨5, 1, (.data (.int .u8) ns799)⟩)] k = some true := by
  obtain ⟨d, rfl⟩ : ∃ e, d = e + 1 := ⟨d - 1, by omega⟩
  exact fn_ok (c := codeOf Try.f22) Try.func22 (by kernel_rfl) (rec := octet_Reader_At.calls) (fun g a h k hx => by
    cases hx) (loopf := octet_Reader_At.loops) (by
    have e : loopsOf (octet_Reader_At.loops) 0 (codeOf Try.f22) = [] := by kernel_rfl
    rw [e]
    intro p hp
    cases hp) ((octet_Reader_At.eq n796 b797 b798 ns799 k).trans hx)
theorem octet_Reader_At.look (d : Nat) (hd : 1 ≤ d) {e : Option Bool} {g : FuncId} {a : List AV} {h : Heap} {k : KR} (hx : octet_Reader_At.get octet_Reader_At e g a h k = some true) : e = some true ∨ callK Try.prog ht d g a h k = some true := by
  unfold octet_Reader_At.get at hx
  split at hx
  · exact .inr (octet_Reader_At.ok d hd _ _ _ _ _ hx)
  · exact .inl hx
/-- function 30: (*sheerleg/octet.Reader).Bad -/
noncomputable def octet_Reader_Badv1.body (k1 : Bool → Option Bool) : Option Bool :=
  (k1 true)
noncomputable def octet_Reader_Badv1 (k1 : Bool → Option Bool) : Option Bool := octet_Reader_Badv1.body k1
noncomputable def octet_Reader_Badv1.get (F : (Bool → Option Bool) → Option Bool) (e : Option Bool) (g : FuncId) (a : List AV) (h : Heap) (k : KR) : Option Bool := match g, a, h with
  | 30, [.nilp], [] => F (fun y0 => k (.d ⟨.bool, y0⟩) [])
  | _, _, _ => e
noncomputable def octet_Reader_Badv1.calls : RecF := fun g a h k => none
noncomputable def octet_Reader_Badv1.loops : LoopF := fun b => none
set_option maxRecDepth 100000 in
theorem octet_Reader_Badv1.eq (k : KR) : execL Try.prog ht 30 (callfOf (octet_Reader_Badv1.calls)) (octet_Reader_Badv1.loops) 0 (codeOf Try.f30) ⟨[.nilp] ++ List.replicate (Try.f30.ntmps - ([.nilp] : List AV).length) .undef, [], 2⟩ (leave Try.prog Try.f30 k) = octet_Reader_Badv1.body (fun y0 => k (.d ⟨.bool, y0⟩) []) := by kernel_rfl
theorem octet_Reader_Badv1.ok (d : Nat) (hd : 1 ≤ d) (k : KR) (hx : octet_Reader_Badv1 (fun y0 => k (.d ⟨.bool, y0⟩) []) = some true) : callK Try.prog ht d 30 [.nilp] [] k = some true := by
  obtain ⟨d, rfl⟩ : ∃ e, d = e + 1 := ⟨d - 1, by omega⟩
  exact fn_ok (c := codeOf Try.f30) Try.func30 (by kernel_rfl) (rec := octet_Reader_Badv1.calls) (fun g a h k hx => by
    cases hx) (loopf := octet_Reader_Badv1.loops) (by
    have e : loopsOf (octet_Reader_Badv1.loops) 0 (codeOf Try.f30) = [] := by kernel_rfl
    rw [e]
    intro p hp
    cases hp) ((octet_Reader_Badv1.eq k).trans hx)
theorem octet_Reader_Badv1.look (d : Nat) (hd : 1 ≤ d) {e : Option Bool} {g : FuncId} {a : List AV} {h : Heap} {k : KR} (hx : octet_Reader_Badv1.get octet_Reader_Badv1 e g a h k = some true) : e = some true ∨ callK Try.prog ht d g a h k = some true := by
  unfold octet_Reader_Badv1.get at hx
  split at hx
  · exact .inr (octet_Reader_Badv1.ok d hd _ hx)
  · exact .inl hx
/-- function 35: (*sheerleg/octet.Reader).Left -/
noncomputable def octet_Reader_Leftv1.body (k1 : Int → Option Bool) : Option Bool :=
  (k1 (0 : Int))
noncomputable def octet_Reader_Leftv1 (k1 : Int → Option Bool) : Option Bool := octet_Reader_Leftv1.body k1
noncomputable def octet_Reader_Leftv1.get (F : (Int → Option Bool) → Option Bool) (e : Option Bool) (g : FuncId) (a : List AV) (h : Heap) (k : KR) : Option Bool := match g, a, h with
  | 35, [.nilp], [] => F (fun y0 => k (.d ⟨(.int .i64), y0⟩) [])
  | _, _, _ => e
noncomputable def octet_Reader_Leftv1.calls : RecF := fun g a h k => none
noncomputable def octet_Reader_Leftv1.loops : LoopF := fun b => none
set_option maxRecDepth 100000 in
theorem octet_Reader_Leftv1.eq (k : KR) : execL Try.prog ht 35 (callfOf (octet_Reader_Leftv1.calls)) (octet_Reader_Leftv1.loops) 0 (codeOf Try.f35) ⟨[.nilp] ++ List.replicate (Try.f35.ntmps - ([.nilp] : List AV).length) .undef, [], 2⟩ (leave Try.prog Try.f35 k) = octet_Reader_Leftv1.body (fun y0 => k (.d ⟨(.int .i64), y0⟩) []) := by kernel_rfl
theorem octet_Reader_Leftv1.ok (d : Nat) (hd : 1 ≤ d) (k : KR) (hx : octet_Reader_Leftv1 (fun y0 => k (.d ⟨(.int .i64), y0⟩) []) = some true) : callK Try.prog ht d 35 [.nilp] [] k = some true := by
  obtain ⟨d, rfl⟩ : ∃ e, d = e + 1 := ⟨d - 1, by omega⟩
  exact fn_ok (c := codeOf Try.f35) Try.func35 (by kernel_rfl) (rec := octet_Reader_Leftv1.calls) (fun g a h k hx => by
    cases hx) (loopf := octet_Reader_Leftv1.loops) (by
    have e : loopsOf (octet_Reader_Leftv1.loops) 0 (codeOf Try.f35) = [] := by kernel_rfl
    rw [e]
    intro p hp
    cases hp) ((octet_Reader_Leftv1.eq k).trans hx)
theorem octet_Reader_Leftv1.look (d : Nat) (hd : 1 ≤ d) {e : Option Bool} {g : FuncId} {a : List AV} {h : Heap} {k : KR} (hx : octet_Reader_Leftv1.get octet_Reader_Leftv1 e g a h k = some true) : e = some true ∨ callK Try.prog ht d g a h k = some true := by
  unfold octet_Reader_Leftv1.get at hx
  split at hx
  · exact .inr (octet_Reader_Leftv1.ok d hd _ hx)
  · exact .inl hx
/-- function 36: (*sheerleg/octet.Reader).spoil -/
noncomputable def octet_Reader_spoilv1.body (k1 : Option Bool) : Option Bool :=
  (k1)
noncomputable def octet_Reader_spoilv1 (k1 : Option Bool) : Option Bool := octet_Reader_spoilv1.body k1
noncomputable def octet_Reader_spoilv1.get (F : (Option Bool) → Option Bool) (e : Option Bool) (g : FuncId) (a : List AV) (h : Heap) (k : KR) : Option Bool := match g, a, h with
  | 36, [.nilp], [] => F (k (.tup []) [])
  | _, _, _ => e
noncomputable def octet_Reader_spoilv1.calls : RecF := fun g a h k => none
noncomputable def octet_Reader_spoilv1.loops : LoopF := fun b => none
set_option maxRecDepth 100000 in
theorem octet_Reader_spoilv1.eq (k : KR) : execL Try.prog ht 36 (callfOf (octet_Reader_spoilv1.calls)) (octet_Reader_spoilv1.loops) 0 (codeOf Try.f36) ⟨[.nilp] ++ List.replicate (Try.f36.ntmps - ([.nilp] : List AV).length) .undef, [], 2⟩ (leave Try.prog Try.f36 k) = octet_Reader_spoilv1.body (k (.tup []) []) := by kernel_rfl
theorem octet_Reader_spoilv1.ok (d : Nat) (hd : 1 ≤ d) (k : KR) (hx : octet_Reader_spoilv1 (k (.tup []) []) = some true) : callK Try.prog ht d 36 [.nilp] [] k = some true := by
  obtain ⟨d, rfl⟩ : ∃ e, d = e + 1 := ⟨d - 1, by omega⟩
  exact fn_ok (c := codeOf Try.f36) Try.func36 (by kernel_rfl) (rec := octet_Reader_spoilv1.calls) (fun g a h k hx => by
    cases hx) (loopf := octet_Reader_spoilv1.loops) (by
    have e : loopsOf (octet_Reader_spoilv1.loops) 0 (codeOf Try.f36) = [] := by kernel_rfl
    rw [e]
    intro p hp
    cases hp) ((octet_Reader_spoilv1.eq k).trans hx)
theorem octet_Reader_spoilv1.look (d : Nat) (hd : 1 ≤ d) {e : Option Bool} {g : FuncId} {a : List AV} {h : Heap} {k : KR} (hx : octet_Reader_spoilv1.get octet_Reader_spoilv1 e g a h k = some true) : e = some true ∨ callK Try.prog ht d g a h k = some true := by
  unfold octet_Reader_spoilv1.get at hx
  split at hx
  · exact .inr (octet_Reader_spoilv1.ok d hd _ hx)
  · exact .inl hx
/-- function 34: (*sheerleg/octet.Reader).take -/
noncomputable def octet_Reader_takev1.body (octet_Reader_Badv1 : (Bool → Option Bool) → Option Bool) (octet_Reader_Leftv1 : (Int → Option Bool) → Option Bool) (octet_Reader_spoilv1 : (Option Bool) → Option Bool) (n807 : Int) (k1 : (List Int) → Option Bool) : Option Bool :=
  (octet_Reader_Badv1
  (fun b808 => (cond_ (! b808) (cond_ (! (decide (n807 < (0 : Int)))) (octet_Reader_Leftv1
  (fun n809 => (cond_ (decide (n807 > n809)) (octet_Reader_spoilv1
  (k1 [])) none))) (octet_Reader_spoilv1
  (k1 []))) (octet_Reader_spoilv1
  (k1 [])))))
noncomputable def octet_Reader_takev1 (n807 : Int) (k1 : (List Int) → Option Bool) : Option Bool := octet_Reader_takev1.body octet_Reader_Badv1 octet_Reader_Leftv1 octet_Reader_spoilv1 n807 k1
noncomputable def octet_Reader_takev1.get (F : Int → ((List Int) → Option Bool) → Option Bool) (e : Option Bool) (g : FuncId) (a : List AV) (h : Heap) (k : KR) : Option Bool := match g, a, h with
  | 34, [.nilp, (.d ⟨(.int .i64), n807⟩)], [] => F n807 (fun y0 => k (.ref [1, 0]) [([1, 0], ⟨5, 1, (.data (.int .u8) y0)⟩)])
  | _, _, _ => e
noncomputable def octet_Reader_takev1.calls (F0 : (Bool → Option Bool) → Option Bool) (F1 : (Int → Option Bool) → Option Bool) (F2 : (Option Bool) → Option Bool) : RecF := fun g a h k => (octet_Reader_Badv1.get F0 (octet_Reader_Leftv1.get F1 (octet_Reader_spoilv1.get F2 none g a h k) g a h k) g a h k)
noncomputable def octet_Reader_takev1.loops : LoopF := fun b => none
set_option maxRecDepth 100000 in
theorem octet_Reader_takev1.eq (F0 : (Bool → Option Bool) → Option Bool) (F1 : (Int → Option Bool) → Option Bool) (F2 : (Option Bool) → Option Bool) (n807 : Int) (k : KR) : execL Try.prog ht 34 (callfOf (octet_Reader_takev1.calls F0 F1 F2)) (octet_Reader_takev1.loops) 0 (codeOf Try.f34) ⟨[.nilp, (.d ⟨(.int .i64), n807⟩)] ++ List.replicate (Try.f34.ntmps - ([.nilp, (.d ⟨(.int .i64), n807⟩)] : List AV).length) .undef, [], 2⟩ (leave Try.prog Try.f34 k) = octet_Reader_takev1.body F0 F1 F2 n807 (fun y0 => k (.ref [1, 0]) [([1, 0], ⟨5, 1, (.data (.int .u8) y0)⟩)]) := by kernel_rfl
theorem octet_Reader_takev1.ok (d : Nat) (hd : 2 ≤ d) (n807 : Int) (k : KR) (hx : octet_Reader_takev1 n807 (fun y0 => k (.ref [1, 0]) [([1, 0], ⟨5, 1, (.data (.int .u8) y0)⟩)]) = some true) : callK Try.prog ht d 34 [.nilp, (.d ⟨(.int .i64), n807⟩)] [] k = some true := by
  obtain ⟨d, rfl⟩ : ∃ e, d = e + 1 := ⟨d - 1, by omega⟩
  exact fn_ok (c := codeOf Try.f34) Try.func34 (by kernel_rfl) (rec := octet_Reader_takev1.calls octet_Reader_Badv1 octet_Reader_Leftv1 octet_Reader_spoilv1) (fun g a h k hx => by
    rcases octet_Reader_Badv1.look d (by omega) hx with hx | hx
    rotate_left
    · exact hx
    rcases octet_Reader_Leftv1.look d (by omega) hx with hx | hx
    rotate_left
    · exact hx
    rcases octet_Reader_spoilv1.look d (by omega) hx with hx | hx
    rotate_left
    · exact hx
    cases hx) (loopf := octet_Reader_takev1.loops) (by
    have e : loopsOf (octet_Reader_takev1.loops) 0 (codeOf Try.f34) = [] := by kernel_rfl
    rw [e]
    intro p hp
    cases hp) ((octet_Reader_takev1.eq octet_Reader_Badv1 octet_Reader_Leftv1 octet_Reader_spoilv1 n807 k).trans hx)
theorem octet_Reader_takev1.look (d : Nat) (hd : 2 ≤ d) {e : Option Bool} {g : FuncId} {a : List AV} {h : Heap} {k : KR} (hx : octet_Reader_takev1.get octet_Reader_takev1 e g a h k = some true) : e = some true ∨ callK Try.prog ht d g a h k = some true := by
  unfold octet_Reader_takev1.get at hx
  split at hx
  · exact .inr (octet_Reader_takev1.ok d hd _ _ hx)
  · exact .inl hx
/-- function 33: the loop in block 0 -/
noncomputable def octet_numberv1_L0.body (octet_numberv1_L0 : Int → Int → Int → (List Int) → (Int → (List Int) → Option Bool) → Option Bool) (n811 : Int) (n812 : Int) (n813 : Int) (ns814 : List Int) (k1 : Int → (List Int) → Option Bool) : Option Bool :=
  (cond_ (decide (n813 < n812)) (cond_ ((decide ((0 : Int) ≤ n813)) && (decide (n813 < (((List.length ns814) : Nat) : Int)))) (octet_numberv1_L0 (IntKind.wrap .i64 (((@BitVec.toNat (64 : Nat) ((@BitVec.ofInt (64 : Nat) (IntKind.wrap .i64 (n811 * (256 : Int)))) ||| (@BitVec.ofInt (64 : Nat) (IntKind.wrap .i64 (List.getD ns814 (Int.toNat n813) (0 : Int)))))) : Nat) : Int)) n812 (IntKind.wrap .i64 (n813 + (1 : Int))) ns814 k1) none) (k1 n811 ns814))
noncomputable def octet_numberv1_L0 : Nat → Int → Int → Int → (List Int) → (Int → (List Int) → Option Bool) → Option Bool
  | 0 => fun _ _ _ _ _ => none
  | n + 1 => octet_numberv1_L0.body (octet_numberv1_L0 n)
noncomputable def octet_numberv1_L0.get (F : Int → Int → Int → (List Int) → (Int → (List Int) → Option Bool) → Option Bool) (e : Option Bool) (st : St) (k : KE) : Option Bool := match st with
  | ⟨sl, hp, m⟩ => match Nat.beq m 2, pickS 33 [6, 7, 19, 20, 21] sl, hp with
    | true, some [(.d ⟨(.int .i64), n811⟩), (.ref [1, 0]), (.ref [1, 0]), (.d ⟨(.int .i64), n812⟩), (.d ⟨(.int .i64), n813⟩)], [([1, 0], ⟨5, 1, (.data (.int .u8) ns814)⟩)] => F n811 n812 n813 ns814 (fun y0 y1 => k (.exit 0) ⟨fillS 33 [6, 7] [(.d ⟨(.int .i64), y0⟩), (.ref [1, 0])], [([1, 0], ⟨5, 1, (.data (.int .u8) y1)⟩)], 2⟩)
    | _, _, _ => e
noncomputable def octet_numberv1_L0.calls : RecF := fun g a h k => none
noncomputable def octet_numberv1_L0.loops : LoopF := fun b => none
set_option maxRecDepth 100000 in
theorem octet_numberv1_L0.step (S : Int → Int → Int → (List Int) → (Int → (List Int) → Option Bool) → Option Bool) (n811 : Int) (n812 : Int) (n813 : Int) (ns814 : List Int) (k : KE) : execL Try.prog ht 33 (callfOf (octet_numberv1_L0.calls)) (octet_numberv1_L0.loops) 0 (loopAt 0 (codeOf Try.f33)) ⟨fillS 33 [6, 7, 19, 20, 21] [(.d ⟨(.int .i64), n811⟩), (.ref [1, 0]), (.ref [1, 0]), (.d ⟨(.int .i64), n812⟩), (.d ⟨(.int .i64), n813⟩)], [([1, 0], ⟨5, 1, (.data (.int .u8) ns814)⟩)], 2⟩ (again (octet_numberv1_L0.get S none) (plan Try.prog (ht 33 0)) k) = octet_numberv1_L0.body S n811 n812 n813 ns814 (fun y0 y1 => k (.exit 0) ⟨fillS 33 [6, 7] [(.d ⟨(.int .i64), y0⟩), (.ref [1, 0])], [([1, 0], ⟨5, 1, (.data (.int .u8) y1)⟩)], 2⟩) := by kernel_rfl
theorem octet_numberv1_L0.ok (d : Nat) (hd : 0 ≤ d) : ∀ n st k, octet_numberv1_L0.get (octet_numberv1_L0 n) none st k = some true → iter n (plan Try.prog (ht 33 0)) (fun st k => execK Try.prog ht 33 (callfOf (callK Try.prog ht d)) 0 (loopAt 0 (codeOf Try.f33)) st k) st k = some true :=
  loop_ok (lfn := fun n st k => octet_numberv1_L0.get (octet_numberv1_L0 n) none st k) (rec := octet_numberv1_L0.calls) (fun g a h k hx => by
    cases hx) (loopf := octet_numberv1_L0.loops) (by
    have e : loopsOf (octet_numberv1_L0.loops) 0 (loopAt 0 (codeOf Try.f33)) = [] := by kernel_rfl
    rw [e]
    intro p hp
    cases hp) (fun st k h => by
    obtain ⟨sl, hp, m⟩ := st
    unfold octet_numberv1_L0.get at h
    dsimp only at h
    split at h
    · have h' : (none : Option Bool) = some true := h
      cases h'
    · cases h) (fun n st k h => by
    obtain ⟨sl, hp, m⟩ := st
    unfold octet_numberv1_L0.get at h
    dsimp only at h
    split at h
    · rename_i h1 h2
      obtain rfl := pickS_ok h2
      obtain rfl := Nat.eq_of_beq_eq_true h1
      exact (octet_numberv1_L0.step (octet_numberv1_L0 n) _ _ _ _ k).trans h
    · cases h)
theorem octet_numberv1_L0.look {F : Int → Int → Int → (List Int) → (Int → (List Int) → Option Bool) → Option Bool} {e : Option Bool} {st : St} {k : KE} (hx : octet_numberv1_L0.get F e st k = some true) : e = some true ∨ octet_numberv1_L0.get F none st k = some true := by
  obtain ⟨sl, hp, m⟩ := st
  unfold octet_numberv1_L0.get at hx ⊢
  dsimp only at hx ⊢
  split at hx
  · exact .inr hx
  · exact .inl hx
/-- function 33: sheerleg/octet.number -/
noncomputable def octet_numberv1.body (octet_Reader_takev1 : Int → ((List Int) → Option Bool) → Option Bool) (octet_numberv1_L0 : Int → Int → Int → (List Int) → (Int → (List Int) → Option Bool) → Option Bool) (n806 : Int) (k1 : Int → (List Int) → Option Bool) : Option Bool :=
  (cond_ (! (decide (n806 < (1 : Int)))) (cond_ (decide (n806 > (8 : Int))) (octet_Reader_takev1 (-1 : Int)
  (fun ns810 => (octet_numberv1_L0 (0 : Int) (((List.length ns810) : Nat) : Int) (0 : Int) ns810
  (fun n815 ns816 => (k1 n815 ns816))))) (octet_Reader_takev1 n806
  (fun ns817 => (octet_numberv1_L0 (0 : Int) (((List.length ns817) : Nat) : Int) (0 : Int) ns817
  (fun n818 ns819 => (k1 n818 ns819)))))) (octet_Reader_takev1 (-1 : Int)
  (fun ns820 => (octet_numberv1_L0 (0 : Int) (((List.length ns820) : Nat) : Int) (0 : Int) ns820
  (fun n821 ns822 => (k1 n821 ns822))))))
noncomputable def octet_numberv1 (n806 : Int) (k1 : Int → (List Int) → Option Bool) : Option Bool := octet_numberv1.body octet_Reader_takev1 (octet_numberv1_L0 ROUNDS) n806 k1
noncomputable def octet_numberv1.get (F : Int → (Int → (List Int) → Option Bool) → Option Bool) (e : Option Bool) (g : FuncId) (a : List AV) (h : Heap) (k : KR) : Option Bool := match g, a, h with
  | 33, [(.fn (.func 34) [.nilp] []), (.d ⟨(.int .i64), n806⟩)], [] => F n806 (fun y0 y1 => k (.tup [(.d ⟨(.int .i64), y0⟩), (.ref [1, 0])]) [([1, 0], ⟨5, 1, (.data (.int .u8) y1)⟩)])
  | _, _, _ => e
noncomputable def octet_numberv1.calls (F0 : Int → ((List Int) → Option Bool) → Option Bool) : RecF := fun g a h k => (octet_Reader_takev1.get F0 none g a h k)
noncomputable def octet_numberv1.loops (L0 : Int → Int → Int → (List Int) → (Int → (List Int) → Option Bool) → Option Bool) : LoopF := fun b => match Nat.beq b 0 with | true => some (fun st k => (octet_numberv1_L0.get L0 none st k)) | false => none
set_option maxRecDepth 100000 in
theorem octet_numberv1.eq (F0 : Int → ((List Int) → Option Bool) → Option Bool) (L0 : Int → Int → Int → (List Int) → (Int → (List Int) → Option Bool) → Option Bool) (n806 : Int) (k : KR) : execL Try.prog ht 33 (callfOf (octet_numberv1.calls F0)) (octet_numberv1.loops L0) 0 (codeOf Try.f33) ⟨[(.fn (.func 34) [.nilp] []), (.d ⟨(.int .i64), n806⟩)] ++ List.replicate (Try.f33.ntmps - ([(.fn (.func 34) [.nilp] []), (.d ⟨(.int .i64), n806⟩)] : List AV).length) .undef, [], 2⟩ (leave Try.prog Try.f33 k) = octet_numberv1.body F0 L0 n806 (fun y0 y1 => k (.tup [(.d ⟨(.int .i64), y0⟩), (.ref [1, 0])]) [([1, 0], ⟨5, 1, (.data (.int .u8) y1)⟩)]) := by kernel_rfl
theorem octet_numberv1.ok (d : Nat) (hd : 3 ≤ d) (n806 : Int) (k : KR) (hx : octet_numberv1 n806 (fun y0 y1 => k (.tup [(.d ⟨(.int .i64), y0⟩), (.ref [1, 0])]) [([1, 0], ⟨5, 1, (.data (.int .u8) y1)⟩)]) = some true) : callK Try.prog ht d 33 [(.fn (.func 34) [.nilp] []), (.d ⟨(.int .i64), n806⟩)] [] k = some true := by
  obtain ⟨d, rfl⟩ : ∃ e, d = e + 1 := ⟨d - 1, by omega⟩
  exact fn_ok (c := codeOf Try.f33) Try.func33 (by kernel_rfl) (rec := octet_numberv1.calls octet_Reader_takev1) (fun g a h k hx => by
    rcases octet_Reader_takev1.look d (by omega) hx with hx | hx
    rotate_left
    · exact hx
    cases hx) (loopf := octet_numberv1.loops (octet_numberv1_L0 ROUNDS)) (by
    have e : loopsOf (octet_numberv1.loops (octet_numberv1_L0 ROUNDS)) 0 (codeOf Try.f33) = [(0, loopAt 0 (codeOf Try.f33))] := by kernel_rfl
    rw [e]
    intro p hp
    simp only [List.mem_cons, List.not_mem_nil, or_false] at hp
    rcases hp with rfl
    · refine loopRef_of (callf := callfOf (callK Try.prog ht d)) (callfOf_ref (callK_mono d)) fun lf st k hb hx => ?_
      cases hb
      rcases octet_numberv1_L0.look hx with hx | hx
      rotate_left
      · exact octet_numberv1_L0.ok d (by omega) _ _ _ hx
      cases hx) ((octet_numberv1.eq octet_Reader_takev1 (octet_numberv1_L0 ROUNDS) n806 k).trans hx)
theorem octet_numberv1.look (d : Nat) (hd : 3 ≤ d) {e : Option Bool} {g : FuncId} {a : List AV} {h : Heap} {k : KR} (hx : octet_numberv1.get octet_numberv1 e g a h k = some true) : e = some true ∨ callK Try.prog ht d g a h k = some true := by
  unfold octet_numberv1.get at hx
  split at hx
  · exact .inr (octet_numberv1.ok d hd _ _ hx)
  · exact .inl hx
/-- function 29: (*sheerleg/octet.Reader).Num -/
noncomputable def octet_Reader_Numv1.body (octet_numberv1 : Int → (Int → (List Int) → Option Bool) → Option Bool) (n805 : Int) (k1 : Int → Option Bool) : Option Bool :=
  (octet_numberv1 n805
  (fun n823 ns824 => (k1 n823)))
noncomputable def octet_Reader_Numv1 (n805 : Int) (k1 : Int → Option Bool) : Option Bool := octet_Reader_Numv1.body octet_numberv1 n805 k1
noncomputable def octet_Reader_Numv1.get (F : Int → (Int → Option Bool) → Option Bool) (e : Option Bool) (g : FuncId) (a : List AV) (h : Heap) (k : KR) : Option Bool := match g, a, h with
  | 29, [.nilp, (.d ⟨(.int .i64), n805⟩)], [] => F n805 (fun y0 => k (.d ⟨(.int .i64), y0⟩) [])
  | _, _, _ => e
noncomputable def octet_Reader_Numv1.calls (F0 : Int → (Int → (List Int) → Option Bool) → Option Bool) : RecF := fun g a h k => (octet_numberv1.get F0 none g a h k)
noncomputable def octet_Reader_Numv1.loops : LoopF := fun b => none
set_option maxRecDepth 100000 in
theorem octet_Reader_Numv1.eq (F0 : Int → (Int → (List Int) → Option Bool) → Option Bool) (n805 : Int) (k : KR) : execL Try.prog ht 29 (callfOf (octet_Reader_Numv1.calls F0)) (octet_Reader_Numv1.loops) 0 (codeOf Try.f29) ⟨[.nilp, (.d ⟨(.int .i64), n805⟩)] ++ List.replicate (Try.f29.ntmps - ([.nilp, (.d ⟨(.int .i64), n805⟩)] : List AV).length) .undef, [], 2⟩ (leave Try.prog Try.f29 k) = octet_Reader_Numv1.body F0 n805 (fun y0 => k (.d ⟨(.int .i64), y0⟩) []) := by kernel_rfl
theorem octet_Reader_Numv1.ok (d : Nat) (hd : 4 ≤ d) (n805 : Int) (k : KR) (hx : octet_Reader_Numv1 n805 (fun y0 => k (.d ⟨(.int .i64), y0⟩) []) = some true) : callK Try.prog ht d 29 [.nilp, (.d ⟨(.int .i64), n805⟩)] [] k = some true := by
  obtain ⟨d, rfl⟩ : ∃ e, d = e + 1 := ⟨d - 1, by omega⟩
  exact fn_ok (c := codeOf Try.f29) Try.func29 (by kernel_rfl) (rec := octet_Reader_Numv1.calls octet_numberv1) (fun g a h k hx => by
    rcases octet_numberv1.look d (by omega) hx with hx | hx
    rotate_left
    · exact hx
    cases hx) (loopf := octet_Reader_Numv1.loops) (by
    have e : loopsOf (octet_Reader_Numv1.loops) 0 (codeOf Try.f29) = [] := by kernel_rfl
    rw [e]
    intro p hp
    cases hp) ((octet_Reader_Numv1.eq octet_numberv1 n805 k).trans hx)
theorem octet_Reader_Numv1.look (d : Nat) (hd : 4 ≤ d) {e : Option Bool} {g : FuncId} {a : List AV} {h : Heap} {k : KR} (hx : octet_Reader_Numv1.get octet_Reader_Numv1 e g a h k = some true) : e = some true ∨ callK Try.prog ht d g a h k = some true := by
  unfold octet_Reader_Numv1.get at hx
  split at hx
  · exact .inr (octet_Reader_Numv1.ok d hd _ _ hx)
  · exact .inl hx
/-- function 20: the loop in block 0 -/
noncomputable def runs_Get_L0.body (runs_Get_L0 : Int → Int → Int → Bool → Bool → (List Int) → (List (Int × Int × Int × Bool × Int × Unit)) → (Int → Int → Bool → Bool → (List Int) → Option Bool) → (Int → Bool → Bool → (List Int) → (List (Int × Int × Int × Bool × Int × Unit)) → Option Bool) → Option Bool) (octet_Reader_Num : Int → Int → Bool → Bool → (List Int) → (Int → Int → Bool → Bool → (List Int) → Option Bool) → Option Bool) (octet_Reader_Bad : Int → Bool → Bool → (List Int) → (Bool → Int → Bool → Bool → (List Int) → Option Bool) → Option Bool) (n856 : Int) (n857 : Int) (n858 : Int) (b859 : Bool) (b860 : Bool) (ns861 : List Int) (ts862 : List (Int × Int × Int × Bool × Int × Unit)) (k1 : Int → Int → Bool → Bool → (List Int) → Option Bool) (k2 : Int → Bool → Bool → (List Int) → (List (Int × Int × Int × Bool × Int × Unit)) → Option Bool) : Option Bool :=
  (cond_ (decide (n857 < n856)) (octet_Reader_Num (2 : Int) n858 b859 b860 ns861
  (fun n863 n864 b865 b866 ns867 => (octet_Reader_Num (2 : Int) n864 b865 b866 ns867
  (fun n868 n869 b870 b871 ns872 => (octet_Reader_Num (2 : Int) n869 b870 b871 ns872
  (fun n873 n874 b875 b876 ns877 => (octet_Reader_Num (2 : Int) n874 b875 b876 ns877
  (fun n878 n879 b880 b881 ns882 => (octet_Reader_Num (1 : Int) n879 b880 b881 ns882
  (fun n883 n884 b885 b886 ns887 => (octet_Reader_Bad n884 b885 b886 ns887
  (fun b888 n889 b890 b891 ns892 => (cond_ b888 (k1 (5 : Int) n889 b890 b891 ns892) (cond_ (decide (n883 > (1 : Int))) (k1 (3 : Int) n889 b890 b891 ns892) (cond_ (Nat.ble (((List.length ts862) + (List.length ((n863, (n868, (n873, ((n883 == (1 : Int)), (n878, ()))))) :: []))) * (40 : Nat)) (140737488355328 : Nat)) (runs_Get_L0 n856 (IntKind.wrap .i64 (n857 + (1 : Int))) n889 b890 b891 ns892 (ts862 ++ ((n863, (n868, (n873, ((n883 == (1 : Int)), (n878, ()))))) :: [])) k1 k2) none))))))))))))))) (k2 n858 b859 b860 ns861 ts862))
noncomputable def runs_Get_L0 : Nat → Int → Int → Int → Bool → Bool → (List Int) → (List (Int × Int × Int × Bool × Int × Unit)) → (Int → Int → Bool → Bool → (List Int) → Option Bool) → (Int → Bool → Bool → (List Int) → (List (Int × Int × Int × Bool × Int × Unit)) → Option Bool) → Option Bool
  | 0 => fun _ _ _ _ _ _ _ _ _ => none
  | n + 1 => runs_Get_L0.body (runs_Get_L0 n) octet_Reader_Num octet_Reader_Bad
noncomputable def runs_Get_L0.get (F : Int → Int → Int → Bool → Bool → (List Int) → (List (Int × Int × Int × Bool × Int × Unit)) → (Int → Int → Bool → Bool → (List Int) → Option Bool) → (Int → Bool → Bool → (List Int) → (List (Int × Int × Int × Bool × Int × Unit)) → Option Bool) → Option Bool) (e : Option Bool) (st : St) (k : KE) : Option Bool := match st with
  | ⟨sl, hp, m⟩ => match Nat.beq m 2, pickS 47 [0, 4, 9, 10] sl, hp with
    | true, some [(.ptr [0, 0] 0 0), (.ref [1, 0]), (.d ⟨(.int .i64), n856⟩), (.d ⟨(.int .i64), n857⟩)], [([0, 0], ⟨57, 4, (.mix [(.agg [(.ref [0, 1]), (.d ⟨(.int .i64), n858⟩), (.d ⟨.bool, b859⟩), (.d ⟨.bool, b860⟩)])])⟩), ([0, 1], ⟨5, 1, (.data (.int .u8) ns861)⟩), ([1, 0], ⟨50, 5, (.data (.st [(.int .i64), (.int .i64), (.int .i64), .bool, (.int .i64)]) ts862)⟩)] => F n856 n857 n858 b859 b860 ns861 ts862 (fun y0 y1 y2 y3 y4 => k .ret ⟨fillS 47 [2, 3] [.nils, (.d ⟨(.int .i64), y0⟩)], [([0, 0], ⟨57, 4, (.mix [(.agg [(.ref [0, 1]), (.d ⟨(.int .i64), y1⟩), (.d ⟨.bool, y2⟩), (.d ⟨.bool, y3⟩)])])⟩), ([0, 1], ⟨5, 1, (.data (.int .u8) y4)⟩)], 2⟩) (fun y0 y1 y2 y3 y4 => k (.exit 0) ⟨fillS 47 [0, 4] [(.ptr [0, 0] 0 0), (.ref [1, 0])], [([0, 0], ⟨57, 4, (.mix [(.agg [(.ref [0, 1]), (.d ⟨(.int .i64), y0⟩), (.d ⟨.bool, y1⟩), (.d ⟨.bool, y2⟩)])])⟩), ([0, 1], ⟨5, 1, (.data (.int .u8) y3)⟩), ([1, 0], ⟨50, 5, (.data (.st [(.int .i64), (.int .i64), (.int .i64), .bool, (.int .i64)]) y4)⟩)], 2⟩)
    | _, _, _ => e
noncomputable def runs_Get_L0.calls (F0 : Int → Int → Bool → Bool → (List Int) → (Int → Int → Bool → Bool → (List Int) → Option Bool) → Option Bool) (F1 : Int → Bool → Bool → (List Int) → (Bool → Int → Bool → Bool → (List Int) → Option Bool) → Option Bool) : RecF := fun g a h k => (octet_Reader_Num.get F0 (octet_Reader_Bad.get F1 none g a h k) g a h k)
noncomputable def runs_Get_L0.loops : LoopF := fun b => match Nat.beq b 2 with | true => none | false => none
set_option maxRecDepth 100000 in
theorem runs_Get_L0.step (S : Int → Int → Int → Bool → Bool → (List Int) → (List (Int × Int × Int × Bool × Int × Unit)) → (Int → Int → Bool → Bool → (List Int) → Option Bool) → (Int → Bool → Bool → (List Int) → (List (Int × Int × Int × Bool × Int × Unit)) → Option Bool) → Option Bool) (F0 : Int → Int → Bool → Bool → (List Int) → (Int → Int → Bool → Bool → (List Int) → Option Bool) → Option Bool) (F1 : Int → Bool → Bool → (List Int) → (Bool → Int → Bool → Bool → (List Int) → Option Bool) → Option Bool) (n856 : Int) (n857 : Int) (n858 : Int) (b859 : Bool) (b860 : Bool) (ns861 : List Int) (ts862 : List (Int × Int × Int × Bool × Int × Unit)) (k : KE) : execL Try.prog ht 20 (callfOf (runs_Get_L0.calls F0 F1)) (runs_Get_L0.loops) 0 (loopAt 0 (codeOf Try.f20)) ⟨fillS 47 [0, 4, 9, 10] [(.ptr [0, 0] 0 0), (.ref [1, 0]), (.d ⟨(.int .i64), n856⟩), (.d ⟨(.int .i64), n857⟩)], [([0, 0], ⟨57, 4, (.mix [(.agg [(.ref [0, 1]), (.d ⟨(.int .i64), n858⟩), (.d ⟨.bool, b859⟩), (.d ⟨.bool, b860⟩)])])⟩), ([0, 1], ⟨5, 1, (.data (.int .u8) ns861)⟩), ([1, 0], ⟨50, 5, (.data (.st [(.int .i64), (.int .i64), (.int .i64), .bool, (.int .i64)]) ts862)⟩)], 2⟩ (again (runs_Get_L0.get S none) (plan Try.prog (ht 20 0)) k) = runs_Get_L0.body S F0 F1 n856 n857 n858 b859 b860 ns861 ts862 (fun y0 y1 y2 y3 y4 => k .ret ⟨fillS 47 [2, 3] [.nils, (.d ⟨(.int .i64), y0⟩)], [([0, 0], ⟨57, 4, (.mix [(.agg [(.ref [0, 1]), (.d ⟨(.int .i64), y1⟩), (.d ⟨.bool, y2⟩), (.d ⟨.bool, y3⟩)])])⟩), ([0, 1], ⟨5, 1, (.data (.int .u8) y4)⟩)], 2⟩) (fun y0 y1 y2 y3 y4 => k (.exit 0) ⟨fillS 47 [0, 4] [(.ptr [0, 0] 0 0), (.ref [1, 0])], [([0, 0], ⟨57, 4, (.mix [(.agg [(.ref [0, 1]), (.d ⟨(.int .i64), y0⟩), (.d ⟨.bool, y1⟩), (.d ⟨.bool, y2⟩)])])⟩), ([0, 1], ⟨5, 1, (.data (.int .u8) y3)⟩), ([1, 0], ⟨50, 5, (.data (.st [(.int .i64), (.int .i64), (.int .i64), .bool, (.int .i64)]) y4)⟩)], 2⟩) := by kernel_rfl
theorem runs_Get_L0.ok (d : Nat) (hd : 4 ≤ d) : ∀ n st k, runs_Get_L0.get (runs_Get_L0 n) none st k = some true → iter n (plan Try.prog (ht 20 0)) (fun st k => execK Try.prog ht 20 (callfOf (callK Try.prog ht d)) 0 (loopAt 0 (codeOf Try.f20)) st k) st k = some true :=
  loop_ok (lfn := fun n st k => runs_Get_L0.get (runs_Get_L0 n) none st k) (rec := runs_Get_L0.calls octet_Reader_Num octet_Reader_Bad) (fun g a h k hx => by
    rcases octet_Reader_Num.look d (by omega) hx with hx | hx
    rotate_left
    · exact hx
    rcases octet_Reader_Bad.look d (by omega) hx with hx | hx
    rotate_left
    · exact hx
    cases hx) (loopf := runs_Get_L0.loops) (by
    have e : loopsOf (runs_Get_L0.loops) 0 (loopAt 0 (codeOf Try.f20)) = [] := by kernel_rfl
    rw [e]
    intro p hp
    cases hp) (fun st k h => by
    obtain ⟨sl, hp, m⟩ := st
    unfold runs_Get_L0.get at h
    dsimp only at h
    split at h
    · have h' : (none : Option Bool) = some true := h
      cases h'
    · cases h) (fun n st k h => by
    obtain ⟨sl, hp, m⟩ := st
    unfold runs_Get_L0.get at h
    dsimp only at h
    split at h
    · rename_i h1 h2
      obtain rfl := pickS_ok h2
      obtain rfl := Nat.eq_of_beq_eq_true h1
      exact (runs_Get_L0.step (runs_Get_L0 n) octet_Reader_Num octet_Reader_Bad _ _ _ _ _ _ _ k).trans h
    · cases h)
theorem runs_Get_L0.look {F : Int → Int → Int → Bool → Bool → (List Int) → (List (Int × Int × Int × Bool × Int × Unit)) → (Int → Int → Bool → Bool → (List Int) → Option Bool) → (Int → Bool → Bool → (List Int) → (List (Int × Int × Int × Bool × Int × Unit)) → Option Bool) → Option Bool} {e : Option Bool} {st : St} {k : KE} (hx : runs_Get_L0.get F e st k = some true) : e = some true ∨ runs_Get_L0.get F none st k = some true := by
  obtain ⟨sl, hp, m⟩ := st
  unfold runs_Get_L0.get at hx ⊢
  dsimp only at hx ⊢
  split at hx
  · exact .inr hx
  · exact .inl hx
/-- function 20: sheerleg/runs.Get -/
noncomputable def runs_Get.body (octet_Reader_Num : Int → Int → Bool → Bool → (List Int) → (Int → Int → Bool → Bool → (List Int) → Option Bool) → Option Bool) (octet_Reader_Bad : Int → Bool → Bool → (List Int) → (Bool → Int → Bool → Bool → (List Int) → Option Bool) → Option Bool) (runs_Get_L0 : Int → Int → Int → Bool → Bool → (List Int) → (List (Int × Int × Int × Bool × Int × Unit)) → (Int → Int → Bool → Bool → (List Int) → Option Bool) → (Int → Bool → Bool → (List Int) → (List (Int × Int × Int × Bool × Int × Unit)) → Option Bool) → Option Bool) (n847 : Int) (b848 : Bool) (b849 : Bool) (ns850 : List Int) (k1 : Int → Int → Bool → Bool → (List Int) → (List (Int × Int × Int × Bool × Int × Unit)) → Option Bool) : Option Bool :=
  (octet_Reader_Num (2 : Int) n847 b848 b849 ns850
  (fun n851 n852 b853 b854 ns855 => (runs_Get_L0 n851 (0 : Int) n852 b853 b854 ns855 []
  (fun n893 n894 b895 b896 ns897 => (k1 n893 n894 b895 b896 ns897 []))
  (fun n898 b899 b900 ns901 ts902 => (octet_Reader_Bad n898 b899 b900 ns901
  (fun b903 n904 b905 b906 ns907 => (cond_ b903 (k1 (5 : Int) n904 b905 b906 ns907 []) (k1 (0 : Int) n904 b905 b906 ns907 ts902))))))))
noncomputable def runs_Get (n847 : Int) (b848 : Bool) (b849 : Bool) (ns850 : List Int) (k1 : Int → Int → Bool → Bool → (List Int) → (List (Int × Int × Int × Bool × Int × Unit)) → Option Bool) : Option Bool := runs_Get.body octet_Reader_Num octet_Reader_Bad (runs_Get_L0 ROUNDS) n847 b848 b849 ns850 k1
noncomputable def runs_Get.get (F : Int → Bool → Bool → (List Int) → (Int → Int → Bool → Bool → (List Int) → (List (Int × Int × Int × Bool × Int × Unit)) → Option Bool) → Option Bool) (e : Option Bool) (g : FuncId) (a : List AV) (h : Heap) (k : KR) : Option Bool := match g, a, h with
  | 20, [(.ptr [0, 0] 0 0)], [([0, 0], ⟨57, 4, (.mix [(.agg [(.ref [0, 1]), (.d ⟨(.int .i64), n847⟩), (.d ⟨.bool, b848⟩), (.d ⟨.bool, b849⟩)])])⟩), ([0, 1], ⟨5, 1, (.data (.int .u8) ns850)⟩)] => F n847 b848 b849 ns850 (fun y0 y1 y2 y3 y4 y5 => k (.tup [(.ref [1, 0]), (.d ⟨(.int .i64), y0⟩)]) [([0, 0], ⟨57, 4, (.mix [(.agg [(.ref [0, 1]), (.d ⟨(.int .i64), y1⟩), (.d ⟨.bool, y2⟩), (.d ⟨.bool, y3⟩)])])⟩), ([0, 1], ⟨5, 1, (.data (.int .u8) y4)⟩), ([1, 0], ⟨50, 5, (.data (.st [(.int .i64), (.int .i64), (.int .i64), .bool, (.int .i64)]) y5)⟩)])
  | _, _, _ => e
noncomputable def runs_Get.calls (F0 : Int → Int → Bool → Bool → (List Int) → (Int → Int → Bool → Bool → (List Int) → Option Bool) → Option Bool) (F1 : Int → Bool → Bool → (List Int) → (Bool → Int → Bool → Bool → (List Int) → Option Bool) → Option Bool) : RecF := fun g a h k => (octet_Reader_Num.get F0 (octet_Reader_Bad.get F1 none g a h k) g a h k)
noncomputable def runs_Get.loops (L0 : Int → Int → Int → Bool → Bool → (List Int) → (List (Int × Int × Int × Bool × Int × Unit)) → (Int → Int → Bool → Bool → (List Int) → Option Bool) → (Int → Bool → Bool → (List Int) → (List (Int × Int × Int × Bool × Int × Unit)) → Option Bool) → Option Bool) : LoopF := fun b => match Nat.beq b 2 with | true => none | false => match Nat.beq b 0 with | true => some (fun st k => (runs_Get_L0.get L0 none st k)) | false => none
set_option maxRecDepth 100000 in
theorem runs_Get.eq (F0 : Int → Int → Bool → Bool → (List Int) → (Int → Int → Bool → Bool → (List Int) → Option Bool) → Option Bool) (F1 : Int → Bool → Bool → (List Int) → (Bool → Int → Bool → Bool → (List Int) → Option Bool) → Option Bool) (L0 : Int → Int → Int → Bool → Bool → (List Int) → (List (Int × Int × Int × Bool × Int × Unit)) → (Int → Int → Bool → Bool → (List Int) → Option Bool) → (Int → Bool → Bool → (List Int) → (List (Int × Int × Int × Bool × Int × Unit)) → Option Bool) → Option Bool) (n847 : Int) (b848 : Bool) (b849 : Bool) (ns850 : List Int) (k : KR) : execL Try.prog ht 20 (callfOf (runs_Get.calls F0 F1)) (runs_Get.loops L0) 0 (codeOf Try.f20) ⟨[(.ptr [0, 0] 0 0)] ++ List.replicate (Try.f20.ntmps - ([(.ptr [0, 0] 0 0)] : List AV).length) .undef, [([0, 0], ⟨57, 4, (.mix [(.agg [(.ref [0, 1]), (.d ⟨(.int .i64), n847⟩), (.d ⟨.bool, b848⟩), (.d ⟨.bool, b849⟩)])])⟩), ([0, 1], ⟨5, 1, (.data (.int .u8) ns850)⟩)], 2⟩ (leave Try.prog Try.f20 k) = runs_Get.body F0 F1 L0 n847 b848 b849 ns850 (fun y0 y1 y2 y3 y4 y5 => k (.tup [(.ref [1, 0]), (.d ⟨(.int .i64), y0⟩)]) [([0, 0], ⟨57, 4, (.mix [(.agg [(.ref [0, 1]), (.d ⟨(.int .i64), y1⟩), (.d ⟨.bool, y2⟩), (.d ⟨.bool, y3⟩)])])⟩), ([0, 1], ⟨5, 1, (.data (.int .u8) y4)⟩), ([1, 0], ⟨50, 5, (.data (.st [(.int .i64), (.int .i64), (.int .i64), .bool, (.int .i64)]) y5)⟩)]) := by kernel_rfl
theorem runs_Get.ok (d : Nat) (hd : 5 ≤ d) (n847 : Int) (b848 : Bool) (b849 : Bool) (ns850 : List Int) (k : KR) (hx : runs_Get n847 b848 b849 ns850 (fun y0 y1 y2 y3 y4 y5 => k (.tup [(.ref [1, 0]), (.d ⟨(.int .i64), y0⟩)]) [([0, 0], ⟨57, 4, (.mix [(.agg [(.ref [0, 1]), (.d ⟨(.int .i64), y1⟩), (.d ⟨.bool, y2⟩), (.d ⟨.bool, y3⟩)])])⟩), ([0, 1], ⟨5, 1, (.data (.int .u8) y4)⟩), ([1, 0], ⟨50, 5, (.data (.st [(.int .i64), (.int .i64), (.int .i64), .bool, (.int .i64)]) y5)⟩)]) = some true) : callK Try.prog ht d 20 [(.ptr [0, 0] 0 0)] [([0, 0], ⟨57, 4, (.mix [(.agg [(.ref [0, 1]), (.d ⟨(.int .i64), n847⟩), (.d ⟨.bool, b848⟩), (.d ⟨.bool, b849⟩)])])⟩), ([0, 1], ⟨5, 1, (.data (.int .u8) ns850)⟩)] k = some true := by
  obtain ⟨d, rfl⟩ : ∃ e, d = e + 1 := ⟨d - 1, by omega⟩
  exact fn_ok (c := codeOf Try.f20) Try.func20 (by kernel_rfl) (rec := runs_Get.calls octet_Reader_Num octet_Reader_Bad) (fun g a h k hx => by
    rcases octet_Reader_Num.look d (by omega) hx with hx | hx
    rotate_left
    · exact hx
    rcases octet_Reader_Bad.look d (by omega) hx with hx | hx
    rotate_left
    · exact hx
    cases hx) (loopf := runs_Get.loops (runs_Get_L0 ROUNDS)) (by
    have e : loopsOf (runs_Get.loops (runs_Get_L0 ROUNDS)) 0 (codeOf Try.f20) = [(0, loopAt 0 (codeOf Try.f20))] := by kernel_rfl
    rw [e]
    intro p hp
    simp only [List.mem_cons, List.not_mem_nil, or_false] at hp
    rcases hp with rfl
    · refine loopRef_of (callf := callfOf (callK Try.prog ht d)) (callfOf_ref (callK_mono d)) fun lf st k hb hx => ?_
      cases hb
      rcases runs_Get_L0.look hx with hx | hx
      rotate_left
      · exact runs_Get_L0.ok d (by omega) _ _ _ hx
      cases hx) ((runs_Get.eq octet_Reader_Num octet_Reader_Bad (runs_Get_L0 ROUNDS) n847 b848 b849 ns850 k).trans hx)
theorem runs_Get.look (d : Nat) (hd : 5 ≤ d) {e : Option Bool} {g : FuncId} {a : List AV} {h : Heap} {k : KR} (hx : runs_Get.get runs_Get e g a h k = some true) : e = some true ∨ callK Try.prog ht d g a h k = some true := by
  unfold runs_Get.get at hx
  split at hx
  · exact .inr (runs_Get.ok d hd _ _ _ _ _ hx)
  · exact .inl hx
/-- function 20: the loop in block 0 -/
noncomputable def runs_Getv1_L0.body (runs_Getv1_L0 : Int → Int → (List (Int × Int × Int × Bool × Int × Unit)) → (Int → Option Bool) → ((List (Int × Int × Int × Bool × Int × Unit)) → Option Bool) → Option Bool) (octet_Reader_Numv1 : Int → (Int → Option Bool) → Option Bool) (octet_Reader_Badv1 : (Bool → Option Bool) → Option Bool) (n924 : Int) (n925 : Int) (ts926 : List (Int × Int × Int × Bool × Int × Unit)) (k1 : Int → Option Bool) (k2 : (List (Int × Int × Int × Bool × Int × Unit)) → Option Bool) : Option Bool :=
  (cond_ (decide (n925 < n924)) (octet_Reader_Numv1 (2 : Int)
  (fun n927 => (octet_Reader_Numv1 (2 : Int)
  (fun n928 => (octet_Reader_Numv1 (2 : Int)
  (fun n929 => (octet_Reader_Numv1 (2 : Int)
  (fun n930 => (octet_Reader_Numv1 (1 : Int)
  (fun n931 => (octet_Reader_Badv1
  (fun b932 => (cond_ b932 (k1 (5 : Int)) (cond_ (decide (n931 > (1 : Int))) (k1 (3 : Int)) (cond_ (Nat.ble (((List.length ts926) + (List.length ((n927, (n928, (n929, ((n931 == (1 : Int)), (n930, ()))))) :: []))) * (40 : Nat)) (140737488355328 : Nat)) (runs_Getv1_L0 n924 (IntKind.wrap .i64 (n925 + (1 : Int))) (ts926 ++ ((n927, (n928, (n929, ((n931 == (1 : Int)), (n930, ()))))) :: [])) k1 k2) none))))))))))))))) (k2 ts926))
noncomputable def runs_Getv1_L0 : Nat → Int → Int → (List (Int × Int × Int × Bool × Int × Unit)) → (Int → Option Bool) → ((List (Int × Int × Int × Bool × Int × Unit)) → Option Bool) → Option Bool
  | 0 => fun _ _ _ _ _ => none
  | n + 1 => runs_Getv1_L0.body (runs_Getv1_L0 n) octet_Reader_Numv1 octet_Reader_Badv1
noncomputable def runs_Getv1_L0.get (F : Int → Int → (List (Int × Int × Int × Bool × Int × Unit)) → (Int → Option Bool) → ((List (Int × Int × Int × Bool × Int × Unit)) → Option Bool) → Option Bool) (e : Option Bool) (st : St) (k : KE) : Option Bool := match st with
  | ⟨sl, hp, m⟩ => match Nat.beq m 2, pickS 47 [0, 4, 9, 10] sl, hp with
    | true, some [.nilp, (.ref [1, 0]), (.d ⟨(.int .i64), n924⟩), (.d ⟨(.int .i64), n925⟩)], [([1, 0], ⟨50, 5, (.data (.st [(.int .i64), (.int .i64), (.int .i64), .bool, (.int .i64)]) ts926)⟩)] => F n924 n925 ts926 (fun y0 => k .ret ⟨fillS 47 [2, 3] [.nils, (.d ⟨(.int .i64), y0⟩)], [], 2⟩) (fun y0 => k (.exit 0) ⟨fillS 47 [0, 4] [.nilp, (.ref [1, 0])], [([1, 0], ⟨50, 5, (.data (.st [(.int .i64), (.int .i64), (.int .i64), .bool, (.int .i64)]) y0)⟩)], 2⟩)
    | _, _, _ => e
noncomputable def runs_Getv1_L0.calls (F0 : Int → (Int → Option Bool) → Option Bool) (F1 : (Bool → Option Bool) → Option Bool) : RecF := fun g a h k => (octet_Reader_Numv1.get F0 (octet_Reader_Badv1.get F1 none g a h k) g a h k)
noncomputable def runs_Getv1_L0.loops : LoopF := fun b => match Nat.beq b 2 with | true => none | false => none
set_option maxRecDepth 100000 in
theorem runs_Getv1_L0.step (S : Int → Int → (List (Int × Int × Int × Bool × Int × Unit)) → (Int → Option Bool) → ((List (Int × Int × Int × Bool × Int × Unit)) → Option Bool) → Option Bool) (F0 : Int → (Int → Option Bool) → Option Bool) (F1 : (Bool → Option Bool) → Option Bool) (n924 : Int) (n925 : Int) (ts926 : List (Int × Int × Int × Bool × Int × Unit)) (k : KE) : execL Try.prog ht 20 (callfOf (runs_Getv1_L0.calls F0 F1)) (runs_Getv1_L0.loops) 0 (loopAt 0 (codeOf Try.f20)) ⟨fillS 47 [0, 4, 9, 10] [.nilp, (.ref [1, 0]), (.d ⟨(.int .i64), n924⟩), (.d ⟨(.int .i64), n925⟩)], [([1, 0], ⟨50, 5, (.data (.st [(.int .i64), (.int .i64), (.int .i64), .bool, (.int .i64)]) ts926)⟩)], 2⟩ (again (runs_Getv1_L0.get S none) (plan Try.prog (ht 20 0)) k) = runs_Getv1_L0.body S F0 F1 n924 n925 ts926 (fun y0 => k .ret ⟨fillS 47 [2, 3] [.nils, (.d ⟨(.int .i64), y0⟩)], [], 2⟩) (fun y0 => k (.exit 0) ⟨fillS 47 [0, 4] [.nilp, (.ref [1, 0])], [([1, 0], ⟨50, 5, (.data (.st [(.int .i64), (.int .i64), (.int .i64), .bool, (.int .i64)]) y0)⟩)], 2⟩) := by kernel_rfl
theorem runs_Getv1_L0.ok (d : Nat) (hd : 4 ≤ d) : ∀ n st k, runs_Getv1_L0.get (runs_Getv1_L0 n) none st k = some true → iter n (plan Try.prog (ht 20 0)) (fun st k => execK Try.prog ht 20 (callfOf (callK Try.prog ht d)) 0 (loopAt 0 (codeOf Try.f20)) st k) st k = some true :=
  loop_ok (lfn := fun n st k => runs_Getv1_L0.get (runs_Getv1_L0 n) none st k) (rec := runs_Getv1_L0.calls octet_Reader_Numv1 octet_Reader_Badv1) (fun g a h k hx => by
    rcases octet_Reader_Numv1.look d (by omega) hx with hx | hx
    rotate_left
    · exact hx
    rcases octet_Reader_Badv1.look d (by omega) hx with hx | hx
    rotate_left
    · exact hx
    cases hx) (loopf := runs_Getv1_L0.loops) (by
    have e : loopsOf (runs_Getv1_L0.loops) 0 (loopAt 0 (codeOf Try.f20)) = [] := by kernel_rfl
    rw [e]
    intro p hp
    cases hp) (fun st k h => by
    obtain ⟨sl, hp, m⟩ := st
    unfold runs_Getv1_L0.get at h
    dsimp only at h
    split at h
    · have h' : (none : Option Bool) = some true := h
      cases h'
    · cases h) (fun n st k h => by
    obtain ⟨sl, hp, m⟩ := st
    unfold runs_Getv1_L0.get at h
    dsimp only at h
    split at h
    · rename_i h1 h2
      obtain rfl := pickS_ok h2
      obtain rfl := Nat.eq_of_beq_eq_true h1
      exact (runs_Getv1_L0.step (runs_Getv1_L0 n) octet_Reader_Numv1 octet_Reader_Badv1 _ _ _ k).trans h
    · cases h)
theorem runs_Getv1_L0.look {F : Int → Int → (List (Int × Int × Int × Bool × Int × Unit)) → (Int → Option Bool) → ((List (Int × Int × Int × Bool × Int × Unit)) → Option Bool) → Option Bool} {e : Option Bool} {st : St} {k : KE} (hx : runs_Getv1_L0.get F e st k = some true) : e = some true ∨ runs_Getv1_L0.get F none st k = some true := by
  obtain ⟨sl, hp, m⟩ := st
  unfold runs_Getv1_L0.get at hx ⊢
  dsimp only at hx ⊢
  split at hx
  · exact .inr hx
  · exact .inl hx
/-- function 20: sheerleg/runs.Get -/
noncomputable def runs_Getv1.body (octet_Reader_Numv1 : Int → (Int → Option Bool) → Option Bool) (octet_Reader_Badv1 : (Bool → Option Bool) → Option Bool) (runs_Getv1_L0 : Int → Int → (List (Int × Int × Int × Bool × Int × Unit)) → (Int → Option Bool) → ((List (Int × Int × Int × Bool × Int × Unit)) → Option Bool) → Option Bool) (k1 : Int → (List (Int × Int × Int × Bool × Int × Unit)) → Option Bool) : Option Bool :=
  (octet_Reader_Numv1 (2 : Int)
  (fun n923 => (runs_Getv1_L0 n923 (0 : Int) []
  (fun n933 => (k1 n933 []))
  (fun ts934 => (octet_Reader_Badv1
  (fun b935 => (cond_ b935 (k1 (5 : Int) []) (k1 (0 : Int) ts934))))))))
noncomputable def runs_Getv1 (k1 : Int → (List (Int × Int × Int × Bool × Int × Unit)) → Option Bool) : Option Bool := runs_Getv1.body octet_Reader_Numv1 octet_Reader_Badv1 (runs_Getv1_L0 ROUNDS) k1
noncomputable def runs_Getv1.get (F : (Int → (List (Int × Int × Int × Bool × Int × Unit)) → Option Bool) → Option Bool) (e : Option Bool) (g : FuncId) (a : List AV) (h : Heap) (k : KR) : Option Bool := match g, a, h with
  | 20, [.nilp], [] => F (fun y0 y1 => k (.tup [(.ref [1, 0]), (.d ⟨(.int .i64), y0⟩)]) [([1, 0], ⟨50, 5, (.data (.st [(.int .i64), (.int .i64), (.int .i64), .bool, (.int .i64)]) y1)⟩)])
  | _, _, _ => e
noncomputable def runs_Getv1.calls (F0 : Int → (Int → Option Bool) → Option Bool) (F1 : (Bool → Option Bool) → Option Bool) : RecF := fun g a h k => (octet_Reader_Numv1.get F0 (octet_Reader_Badv1.get F1 none g a h k) g a h k)
noncomputable def runs_Getv1.loops (L0 : Int → Int → (List (Int × Int × Int × Bool × Int × Unit)) → (Int → Option Bool) → ((List (Int × Int × Int × Bool × Int × Unit)) → Option Bool) → Option Bool) : LoopF := fun b => match Nat.beq b 2 with | true => none | false => match Nat.beq b 0 with | true => some (fun st k => (runs_Getv1_L0.get L0 none st k)) | false => none
set_option maxRecDepth 100000 in
theorem runs_Getv1.eq (F0 : Int → (Int → Option Bool) → Option Bool) (F1 : (Bool → Option Bool) → Option Bool) (L0 : Int → Int → (List (Int × Int × Int × Bool × Int × Unit)) → (Int → Option Bool) → ((List (Int × Int × Int × Bool × Int × Unit)) → Option Bool) → Option Bool) (k : KR) : execL Try.prog ht 20 (callfOf (runs_Getv1.calls F0 F1)) (runs_Getv1.loops L0) 0 (codeOf Try.f20) ⟨[.nilp] ++ List.replicate (Try.f20.ntmps - ([.nilp] : List AV).length) .undef, [], 2⟩ (leave Try.prog Try.f20 k) = runs_Getv1.body F0 F1 L0 (fun y0 y1 => k (.tup [(.ref [1, 0]), (.d ⟨(.int .i64), y0⟩)]) [([1, 0], ⟨50, 5, (.data (.st [(.int .i64), (.int .i64), (.int .i64), .bool, (.int .i64)]) y1)⟩)]) := by kernel_rfl
theorem runs_Getv1.ok (d : Nat) (hd : 5 ≤ d) (k : KR) (hx : runs_Getv1 (fun y0 y1 => k (.tup [(.ref [1, 0]), (.d ⟨(.int .i64), y0⟩)]) [([1, 0], ⟨50, 5, (.data (.st [(.int .i64), (.int .i64), (.int .i64), .bool, (.int .i64)]) y1)⟩)]) = some true) : callK Try.prog ht d 20 [.nilp] [] k = some true := by
  obtain ⟨d, rfl⟩ : ∃ e, d = e + 1 := ⟨d - 1, by omega⟩
  exact fn_ok (c := codeOf Try.f20) Try.func20 (by kernel_rfl) (rec := runs_Getv1.calls octet_Reader_Numv1 octet_Reader_Badv1) (fun g a h k hx => by
    rcases octet_Reader_Numv1.look d (by omega) hx with hx | hx
    rotate_left
    · exact hx
    rcases octet_Reader_Badv1.look d (by omega) hx with hx | hx
    rotate_left
    · exact hx
    cases hx) (loopf := runs_Getv1.loops (runs_Getv1_L0 ROUNDS)) (by
    have e : loopsOf (runs_Getv1.loops (runs_Getv1_L0 ROUNDS)) 0 (codeOf Try.f20) = [(0, loopAt 0 (codeOf Try.f20))] := by kernel_rfl
    rw [e]
    intro p hp
    simp only [List.mem_cons, List.not_mem_nil, or_false] at hp
    rcases hp with rfl
    · refine loopRef_of (callf := callfOf (callK Try.prog ht d)) (callfOf_ref (callK_mono d)) fun lf st k hb hx => ?_
      cases hb
      rcases runs_Getv1_L0.look hx with hx | hx
      rotate_left
      · exact runs_Getv1_L0.ok d (by omega) _ _ _ hx
      cases hx) ((runs_Getv1.eq octet_Reader_Numv1 octet_Reader_Badv1 (runs_Getv1_L0 ROUNDS) k).trans hx)
theorem runs_Getv1.look (d : Nat) (hd : 5 ≤ d) {e : Option Bool} {g : FuncId} {a : List AV} {h : Heap} {k : KR} (hx : runs_Getv1.get runs_Getv1 e g a h k = some true) : e = some true ∨ callK Try.prog ht d g a h k = some true := by
  unfold runs_Getv1.get at hx
  split at hx
  · exact .inr (runs_Getv1.ok d hd _ hx)
  · exact .inl hx
/-- function 5: sheerleg/sheerleglaw13.RunsOctets -/
noncomputable def law13_RunsOctets.body (law13_known : (Bool → Option Bool) → Option Bool) (runs_Put : (List Int) → (List (Int × Int × Int × Bool × Int × Unit)) → ((List Int) → Option Bool) → Option Bool) (ref13_Put : (List Int) → (List (Int × Int × Int × Bool × Int × Unit)) → ((List Int) → Option Bool) → Option Bool) (octet_New : (List Int) → (Int → Bool → Bool → (List Int) → Option Bool) → Option Bool) (runs_Get : Int → Bool → Bool → (List Int) → (Int → Int → Bool → Bool → (List Int) → (List (Int × Int × Int × Bool × Int × Unit)) → Option Bool) → Option Bool) (ref13_Get : ((List Int) × Int × Bool × Unit) → (((List Int) × Int × Bool × Unit) → Int → (List (Int × Int × Int × Bool × Int × Unit)) → Option Bool) → Option Bool) (ref13_Same : (List (Int × Int × Int × Bool × Int × Unit)) → (List (Int × Int × Int × Bool × Int × Unit)) → (Bool → Option Bool) → Option Bool) (octet_Reader_At : Int → Bool → Bool → (List Int) → (Int → Int → Bool → Bool → (List Int) → Option Bool) → Option Bool) (runs_Getv1 : (Int → (List (Int × Int × Int × Bool × Int × Unit)) → Option Bool) → Option Bool) (ts838 : List (Int × Int × Int × Bool × Int × Unit)) (ns839 : List Int) (k1 : Bool → Option Bool) : Option Bool :=
  (cond_ (! (decide ((((List.length ts838) : Nat) : Int) > (300 : Int)))) (cond_ (decide ((((List.length ns839) : Nat) : Int) > (1000 : Int))) (law13_known
  (fun b840 => (k1 b840))) (runs_Put ns839 ts838
  (fun ns841 => (ref13_Put ns839 ts838
  (fun ns842 => (cond_ (! ((ByteArray.toList (strOf ns841)) == (ByteArray.toList (strOf ns842)))) (k1 false) (octet_New ns839
  (fun n843 b844 b845 ns846 => (runs_Get n843 b844 b845 ns846
  (fun n908 n909 b910 b911 ns912 ts913 => (ref13_Get (ns839, ((0 : Int), (false, ())))
  (fun t914 n915 ts916 => (ref13_Same ts913 ts916
  (fun b917 => (cond_ (! (! b917)) (cond_ (! (n908 != n915)) (cond_ (n908 == (0 : Int)) (octet_Reader_At n909 b910 b911 ns912
  (fun n918 n919 b920 b921 ns922 => (cond_ (n918 != t914.2.1) (k1 false) (runs_Getv1
  (fun n936 ts937 => (cond_ (n936 == (5 : Int)) (law13_known
  (fun b938 => (k1 b938))) (k1 false))))))) (runs_Getv1
  (fun n939 ts940 => (cond_ (n939 == (5 : Int)) (law13_known
  (fun b941 => (k1 b941))) (k1 false))))) (k1 false)) (k1 false)))))))))))))))) (law13_known
  (fun b942 => (k1 b942))))
noncomputable def law13_RunsOctets (ts838 : List (Int × Int × Int × Bool × Int × Unit)) (ns839 : List Int) (k1 : Bool → Option Bool) : Option Bool := law13_RunsOctets.body law13_known runs_Put ref13_Put octet_New runs_Get ref13_Get ref13_Same octet_Reader_At runs_Getv1 ts838 ns839 k1
noncomputable def law13_RunsOctets.get (F : (List (Int × Int × Int × Bool × Int × Unit)) → (List Int) → (Bool → Option Bool) → Option Bool) (e : Option Bool) (g : FuncId) (a : List AV) (h : Heap) (k : KR) : Option Bool := match g, a, h with
  | 5, [(.bv 0 50 (.st [(.int .i64), (.int .i64), (.int .i64), .bool, (.int .i64)]) ts838), (.bv 0 5 (.int .u8) ns839)], [] => F ts838 ns839 (fun y0 => k (.d ⟨.bool, y0⟩) [])
  | _, _, _ => e
noncomputable def law13_RunsOctets.calls (F0 : (Bool → Option Bool) → Option Bool) (F1 : (List Int) → (List (Int × Int × Int × Bool × Int × Unit)) → ((List Int) → Option Bool) → Option Bool) (F2 : (List Int) → (List (Int × Int × Int × Bool × Int × Unit)) → ((List Int) → Option Bool) → Option Bool) (F3 : (List Int) → (Int → Bool → Bool → (List Int) → Option Bool) → Option Bool) (F4 : Int → Bool → Bool → (List Int) → (Int → Int → Bool → Bool → (List Int) → (List (Int × Int × Int × Bool × Int × Unit)) → Option Bool) → Option Bool) (F5 : ((List Int) × Int × Bool × Unit) → (((List Int) × Int × Bool × Unit) → Int → (List (Int × Int × Int × Bool × Int × Unit)) → Option Bool) → Option Bool) (F6 : (List (Int × Int × Int × Bool × Int × Unit)) → (List (Int × Int × Int × Bool × Int × Unit)) → (Bool → Option Bool) → Option Bool) (F7 : Int → Bool → Bool → (List Int) → (Int → Int → Bool → Bool → (List Int) → Option Bool) → Option Bool) (F8 : (Int → (List (Int × Int × Int × Bool × Int × Unit)) → Option Bool) → Option Bool) : RecF := fun g a h k => (law13_known.get F0 (runs_Put.get F1 (ref13_Put.get F2 (octet_New.get F3 (runs_Get.get F4 (ref13_Get.get F5 (ref13_Same.get F6 (octet_Reader_At.get F7 (runs_Getv1.get F8 none g a h k) g a h k) g a h k) g a h k) g a h k) g a h k) g a h k) g a h k) g a h k)
noncomputable def law13_RunsOctets.loops : LoopF := fun b => none
set_option maxRecDepth 100000 in
theorem law13_RunsOctets.eq (F0 : (Bool → Option Bool) → Option Bool) (F1 : (List Int) → (List (Int × Int × Int × Bool × Int × Unit)) → ((List Int) → Option Bool) → Option Bool) (F2 : (List Int) → (List (Int × Int × Int × Bool × Int × Unit)) → ((List Int) → Option Bool) → Option Bool) (F3 : (List Int) → (Int → Bool → Bool → (List Int) → Option Bool) → Option Bool) (F4 : Int → Bool → Bool → (List Int) → (Int → Int → Bool → Bool → (List Int) → (List (Int × Int × Int × Bool × Int × Unit)) → Option Bool) → Option Bool) (F5 : ((List Int) × Int × Bool × Unit) → (((List Int) × Int × Bool × Unit) → Int → (List (Int × Int × Int × Bool × Int × Unit)) → Option Bool) → Option Bool) (F6 : (List (Int × Int × Int × Bool × Int × Unit)) → (List (Int × Int × Int × Bool × Int × Unit)) → (Bool → Option Bool) → Option Bool) (F7 : Int → Bool → Bool → (List Int) → (Int → Int → Bool → Bool → (List Int) → Option Bool) → Option Bool) (F8 : (Int → (List (Int × Int × Int × Bool × Int × Unit)) → Option Bool) → Option Bool) (ts838 : List (Int × Int × Int × Bool × Int × Unit)) (ns839 : List Int) (k : KR) : execL Try.prog ht 5 (callfOf (law13_RunsOctets.calls F0 F1 F2 F3 F4 F5 F6 F7 F8)) (law13_RunsOctets.loops) 0 (codeOf Try.f5) ⟨[(.bv 0 50 (.st [(.int .i64), (.int .i64), (.int .i64), .bool, (.int .i64)]) ts838), (.bv 0 5 (.int .u8) ns839)] ++ List.replicate (Try.f5.ntmps - ([(.bv 0 50 (.st [(.int .i64), (.int .i64), (.int .i64), .bool, (.int .i64)]) ts838), (.bv 0 5 (.int .u8) ns839)] : List AV).length) .undef, [], 2⟩ (leave Try.prog Try.f5 k) = law13_RunsOctets.body F0 F1 F2 F3 F4 F5 F6 F7 F8 ts838 ns839 (fun y0 => k (.d ⟨.bool, y0⟩) []) := by kernel_rfl
theorem law13_RunsOctets.ok (d : Nat) (hd : 61 ≤ d) (ts838 : List (Int × Int × Int × Bool × Int × Unit)) (ns839 : List Int) (k : KR) (hx : law13_RunsOctets ts838 ns839 (fun y0 => k (.d ⟨.bool, y0⟩) []) = some true) : callK Try.prog ht d 5 [(.bv 0 50 (.st [(.int .i64), (.int .i64), (.int .i64), .bool, (.int .i64)]) ts838), (.bv 0 5 (.int .u8) ns839)] [] k = some true := by
  obtain ⟨d, rfl⟩ : ∃ e, d = e + 1 := ⟨d - 1, by omega⟩
  exact fn_ok (c := codeOf Try.f5) Try.func5 (by kernel_rfl) (rec := law13_RunsOctets.calls law13_known runs_Put ref13_Put octet_New runs_Get ref13_Get ref13_Same octet_Reader_At runs_Getv1) (fun g a h k hx => by
    rcases law13_known.look d (by omega) hx with hx | hx
    rotate_left
    · exact hx
    rcases runs_Put.look d (by omega) hx with hx | hx
    rotate_left
    · exact hx
    rcases ref13_Put.look d (by omega) hx with hx | hx
    rotate_left
    · exact hx
    rcases octet_New.look d (by omega) hx with hx | hx
    rotate_left
    · exact hx
    rcases runs_Get.look d (by omega) hx with hx | hx
    rotate_left
    · exact hx
    rcases ref13_Get.look d (by omega) hx with hx | hx
    rotate_left
    · exact hx
    rcases ref13_Same.look d (by omega) hx with hx | hx
    rotate_left
    · exact hx
    rcases octet_Reader_At.look d (by omega) hx with hx | hx
    rotate_left
    · exact hx
    rcases runs_Getv1.look d (by omega) hx with hx | hx
    rotate_left
    · exact hx
    cases hx) (loopf := law13_RunsOctets.loops) (by
    have e : loopsOf (law13_RunsOctets.loops) 0 (codeOf Try.f5) = [] := by kernel_rfl
    rw [e]
    intro p hp
    cases hp) ((law13_RunsOctets.eq law13_known runs_Put ref13_Put octet_New runs_Get ref13_Get ref13_Same octet_Reader_At runs_Getv1 ts838 ns839 k).trans hx)
theorem law13_RunsOctets.look (d : Nat) (hd : 61 ≤ d) {e : Option Bool} {g : FuncId} {a : List AV} {h : Heap} {k : KR} (hx : law13_RunsOctets.get law13_RunsOctets e g a h k = some true) : e = some true ∨ callK Try.prog ht d g a h k = some true := by
  unfold law13_RunsOctets.get at hx
  split at hx
  · exact .inr (law13_RunsOctets.ok d hd _ _ _ hx)
  · exact .inl hx
end Go.Proofs.Ytbpjepcgokoaiaa.g
