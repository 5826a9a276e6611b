-- Written by a program of this work (the print, with parts of our own); Lean checks it.
import Derived.Test.YtlcojcfnidpdgaaPGx0
namespace Go.Proofs.Ytlcojcfnidpdgaa.PG
open Go.RowKit Go.Proofs.YtlcojcfnidpdgaaW.PrintWords Go.Proofs.YtlcojcfnidpdgaaW.PrintLast Go.Proofs.YtlcojcfnidpdgaaW.PrintMore
attribute [local go_sem] max2_int min2_int max_two min_two max_three min_three max_four min_four   -- for this text's walks alone
set_option linter.unusedVariables false
set_option linter.unusedSimpArgs false

/-! ### num_quotient: function 22 -/
def num_quotient.f (a0 : Int) (a1 : Int) : Option (Int) := if a1 = (-1) then (some (wrap64 (-a0))) else (if a1 = 0 then (none) else (some (wrap64 (Int.tdiv a0 a1))))
set_option maxHeartbeats 8000000 in
set_option maxRecDepth 100000 in
theorem num_quotient.calls (a0 : Int) (a1 : Int) (r : Int) (w : World) (h : num_quotient.f a0 a1 = some r) :
    Calls Try.prog 22 #[.int .i64 a0, .int .i64 a1] w fun e w' => e = .returned (.int .i64 r) ∧ Drawn0 w w' := by
  have H : (if a1 = (-1) then (some (wrap64 (-a0))) else (if a1 = 0 then (none) else (some (wrap64 (Int.tdiv a0 a1))))) = some r := h
  clear h
  by_cases c3 : a1 = (-1)
  · rw [if_pos c3] at H
    have c3b0 : (a1 == (-1)) = true := beq_iff_eq.mpr c3
    have c3b1 : (a1 != (-1)) = false := bne_eq_false_iff_eq.mpr c3
    clear c3
    obtain rfl := Option.some.inj H
    go_enter Try.func22, Try.ntmps22
    go_wp2
    go_ret
    exact ⟨by first | rfl | (simp; done) | (simp [*]; done), by repeat (first | exact Drawn0.refl _ | apply Drawn0.step)⟩
  · rw [if_neg c3] at H
    have c3b0 : (a1 == (-1)) = false := beq_eq_false_iff_ne.mpr c3
    have c3b1 : (a1 != (-1)) = true := bne_iff_ne.mpr c3
    by_cases c4 : a1 = 0
    · rw [if_pos c4] at H
      exact absurd H (by simp)
    · rw [if_neg c4] at H
      have c4b0 : (a1 == 0) = false := beq_eq_false_iff_ne.mpr c4
      have c4b1 : (a1 != 0) = true := bne_iff_ne.mpr c4
      obtain rfl := Option.some.inj H
      go_enter Try.func22, Try.ntmps22
      go_wp2
      go_ret
      exact ⟨by first | rfl | (simp; done) | (simp [*]; done), by repeat (first | exact Drawn0.refl _ | apply Drawn0.step)⟩

/-! ### num_rest: function 23 -/
def num_rest.f (a0 : Int) (a1 : Int) : Option (Int) := (num_quotient.f a0 a1).bind fun t101 => (some (wrap64 (a0 - (wrap64 (a1 * t101)))))
set_option maxHeartbeats 8000000 in
set_option maxRecDepth 100000 in
theorem num_rest.calls (a0 : Int) (a1 : Int) (r : Int) (w : World) (h : num_rest.f a0 a1 = some r) :
    Calls Try.prog 23 #[.int .i64 a0, .int .i64 a1] w fun e w' => e = .returned (.int .i64 r) ∧ Drawn0 w w' := by
  have H : ((num_quotient.f a0 a1).bind fun t101 => (some (wrap64 (a0 - (wrap64 (a1 * t101)))))) = some r := h
  clear h
  replace H := Option.bind_eq_some_iff.mp H
  obtain ⟨t101, A30, H⟩ := H
  replace H : (some (wrap64 (a0 - (wrap64 (a1 * t101))))) = some r := H
  have A3 := Aside0.mk A30
  clear A30
  obtain rfl := Option.some.inj H
  go_enter Try.func23, Try.ntmps23
  go_wp2_with (first | ((with_reducible refine gate_callee (f := 22) rfl ?_); refine goesL_ (some 9) rfl rfl Try.func22 (by kernel_rfl) rfl #[.int .i64 a0, .int .i64 a1] rfl (by (try simp only [List.map_toArray, List.map_cons, List.map_nil]); first | done | rfl | (simp only [List.length_drop, List.length_take]; rfl)) ?_; (with_reducible refine (num_quotient.calls a0 a1 t101 _ A3.out).mono ?_); rintro e w' ⟨rfl, ⟨nd, rfl⟩⟩; refine ⟨_, rfl, ?_⟩))
  go_ret
  exact ⟨by first | rfl | (simp; done) | (simp [*]; done), by repeat (first | exact Drawn0.refl _ | apply Drawn0.step)⟩

/-! ### num_Do: function 7 -/
def num_Do_dfn (k : Int) : Value := if k = 4 then .func (.func 19) #[] #[] else if k = 5 then .func (.func 20) #[] #[] else if k = 6 then .func (.func 21) #[] #[] else if k = 7 then .func (.func 22) #[] #[] else if k = 8 then .func (.func 23) #[] #[] else if k = 9 then .func (.func 24) #[] #[] else if k = 10 then .func (.func 26) #[] #[] else .nilFunc
def num_Do_dby (k : Int) : Bool := k == 7 || k == 8
def num_Do_fres (op : Int) : Array Value := if 4 ≤ op ∧ op ≤ 10 then #[.int .i64 op, num_Do_dfn op, .bool (num_Do_dby op)] else #[.int .i64 0, .nilFunc, .bool false]
def num_Do_fok (op : Int) : Bool := decide (4 ≤ op ∧ op ≤ 10)
set_option maxHeartbeats 8000000 in
set_option maxRecDepth 100000 in
theorem num_Do_find (op : Int) (g : Nat) (w : World) (hc : ∀ k : Nat, k < 7 → w.cell? ⟨g,3*k,none⟩ = some (.int .i64 (4 + k)) ∧ w.cell? ⟨g,3*k+1,none⟩ = some (num_Do_dfn (4+k)) ∧ w.cell? ⟨g,3*k+2,none⟩ = some (.bool (num_Do_dby (4+k)))) : Calls Try.prog 18 #[.int .i64 op, .slice (some ⟨g, 0, none⟩) 7 7] w fun e w' => e = .returned (.tuple #[.agg (num_Do_fres op), .bool (num_Do_fok op)]) ∧ Below w.heap.size w w' := by
  go_enter Try.func18, Try.ntmps18
  have hg : g < w.heap.size := Go.block_lt_of_cell (hc 0 (by omega)).1
  have A : Hid (∀ k : Nat, k < 7 → w.cell? ⟨g,3*k,none⟩ = some (.int .i64 (4 + k)) ∧ w.cell? ⟨g,3*k+1,none⟩ = some (num_Do_dfn (4+k)) ∧ w.cell? ⟨g,3*k+2,none⟩ = some (.bool (num_Do_dby (4+k)))) := hc
  clear hc
  go_wp2
  go_loopw [10] (fun i wr => ∃ k : Nat, k ≤ 7 ∧ i = .int .i64 k ∧ (∀ j : Nat, j < k → 4 + (j : Int) ≠ op) ∧ wr.cell? ⟨w.heap.size, 0, none⟩ = some (.int .i64 0) ∧ wr.cell? ⟨w.heap.size, 1, none⟩ = some .nilFunc ∧ wr.cell? ⟨w.heap.size, 2, none⟩ = some (.bool false) ∧ wr.frozen? ⟨w.heap.size, 0, none⟩ = false ∧ wr.frozen? ⟨w.heap.size, 1, none⟩ = false ∧ wr.frozen? ⟨w.heap.size, 2, none⟩ = false ∧ Below w.heap.size w wr) (fun i _ => 7 - (intOf i).toNat)
  case atStart => 
    refine ⟨0, by omega, rfl, fun j hj => absurd hj (by omega), ?_⟩
    simp only [go_sem]
    exact ⟨rfl, rfl, rfl, trivial, trivial, trivial, Below.alloc (Below.refl _ _) (Nat.le_refl _) _⟩
  case round =>
    obtain ⟨k, hk, rfl, hne, c0, c1, c2, f0, f1, f2, hB⟩ := hrel
    have A2 : Hid (∀ j : Nat, j < k → 4 + (j : Int) ≠ op) := hne
    clear hne
    have hk7 : k = 0 ∨ k = 1 ∨ k = 2 ∨ k = 3 ∨ k = 4 ∨ k = 5 ∨ k = 6 ∨ k = 7 := by omega
    rcases hk7 with rfl | rfl | rfl | rfl | rfl | rfl | rfl | rfl
    · have := A.out 0 (by omega)
      have e0 : wr.cell? ⟨g, 0, none⟩ = some (.int .i64 4) := (hB.cell (by exact hg)).trans this.1
      have e1 : wr.cell? ⟨g, 1, none⟩ = some (.func (.func 19) #[] #[]) := (hB.cell (by exact hg)).trans this.2.1
      have e2 : wr.cell? ⟨g, 2, none⟩ = some (.bool false) := (hB.cell (by exact hg)).trans this.2.2
      have hsz : w.heap.size < wr.heap.size := Go.block_lt_of_cell c0
      have B2 : Hid (Below w.heap.size w wr) := hB
      clear this hB
      go_wp2
      · rename_i hd
        (try simp only [Exit.inBlock, Exit.then])
        refine bodyPost_ret (v := .tuple #[.agg (num_Do_fres op), .bool (num_Do_fok op)]) ?_ rfl ⟨rfl, ?_⟩
        · simp only [results, show Try.f18.results = #[.cell 4 34, .tmp 5] from rfl]
          go_simp
          have hop : op = 4 := by have := beq_iff_eq.mp hd; omega
          subst hop
          exact ⟨rfl, rfl⟩
        · have hB := B2.out
          have hS := Below.setCell (Below.setCell (Below.setCell hB (p := ⟨w.heap.size, 0, none⟩) (Nat.le_refl _) (.int .i64 4)) (p := ⟨w.heap.size, 1, none⟩) (Nat.le_refl _) (.func (.func 19) #[] #[])) (p := ⟨w.heap.size, 2, none⟩) (Nat.le_refl _) (.bool false)
          exact Below.alloc hS hS.size _
      · rename_i hd
        go_roundw
        case rel =>
          refine ⟨1, by omega, rfl, ?_, ?_, ?_, ?_, ?_, ?_, ?_, Below.alloc B2.out (by omega) _⟩
          · intro j hj
            rcases Nat.lt_or_ge j 0 with hj2 | hj2
            · exact A2.out j hj2
            · obtain rfl : j = 0 := by omega
              exact fun hh => (beq_eq_false_iff_ne.mp hd) (by omega)
          all_goals (go_simp; done)
        case measure => simp [intOf]
    · have := A.out 1 (by omega)
      have e0 : wr.cell? ⟨g, 3, none⟩ = some (.int .i64 5) := (hB.cell (by exact hg)).trans this.1
      have e1 : wr.cell? ⟨g, 4, none⟩ = some (.func (.func 20) #[] #[]) := (hB.cell (by exact hg)).trans this.2.1
      have e2 : wr.cell? ⟨g, 5, none⟩ = some (.bool false) := (hB.cell (by exact hg)).trans this.2.2
      have hsz : w.heap.size < wr.heap.size := Go.block_lt_of_cell c0
      have B2 : Hid (Below w.heap.size w wr) := hB
      clear this hB
      go_wp2
      · rename_i hd
        (try simp only [Exit.inBlock, Exit.then])
        refine bodyPost_ret (v := .tuple #[.agg (num_Do_fres op), .bool (num_Do_fok op)]) ?_ rfl ⟨rfl, ?_⟩
        · simp only [results, show Try.f18.results = #[.cell 4 34, .tmp 5] from rfl]
          go_simp
          have hop : op = 5 := by have := beq_iff_eq.mp hd; omega
          subst hop
          exact ⟨rfl, rfl⟩
        · have hB := B2.out
          have hS := Below.setCell (Below.setCell (Below.setCell hB (p := ⟨w.heap.size, 0, none⟩) (Nat.le_refl _) (.int .i64 5)) (p := ⟨w.heap.size, 1, none⟩) (Nat.le_refl _) (.func (.func 20) #[] #[])) (p := ⟨w.heap.size, 2, none⟩) (Nat.le_refl _) (.bool false)
          exact Below.alloc hS hS.size _
      · rename_i hd
        go_roundw
        case rel =>
          refine ⟨2, by omega, rfl, ?_, ?_, ?_, ?_, ?_, ?_, ?_, Below.alloc B2.out (by omega) _⟩
          · intro j hj
            rcases Nat.lt_or_ge j 1 with hj2 | hj2
            · exact A2.out j hj2
            · obtain rfl : j = 1 := by omega
              exact fun hh => (beq_eq_false_iff_ne.mp hd) (by omega)
          all_goals (go_simp; done)
        case measure => simp [intOf]
    · have := A.out 2 (by omega)
      have e0 : wr.cell? ⟨g, 6, none⟩ = some (.int .i64 6) := (hB.cell (by exact hg)).trans this.1
      have e1 : wr.cell? ⟨g, 7, none⟩ = some (.func (.func 21) #[] #[]) := (hB.cell (by exact hg)).trans this.2.1
      have e2 : wr.cell? ⟨g, 8, none⟩ = some (.bool false) := (hB.cell (by exact hg)).trans this.2.2
      have hsz : w.heap.size < wr.heap.size := Go.block_lt_of_cell c0
      have B2 : Hid (Below w.heap.size w wr) := hB
      clear this hB
      go_wp2
      · rename_i hd
        (try simp only [Exit.inBlock, Exit.then])
        refine bodyPost_ret (v := .tuple #[.agg (num_Do_fres op), .bool (num_Do_fok op)]) ?_ rfl ⟨rfl, ?_⟩
        · simp only [results, show Try.f18.results = #[.cell 4 34, .tmp 5] from rfl]
          go_simp
          have hop : op = 6 := by have := beq_iff_eq.mp hd; omega
          subst hop
          exact ⟨rfl, rfl⟩
        · have hB := B2.out
          have hS := Below.setCell (Below.setCell (Below.setCell hB (p := ⟨w.heap.size, 0, none⟩) (Nat.le_refl _) (.int .i64 6)) (p := ⟨w.heap.size, 1, none⟩) (Nat.le_refl _) (.func (.func 21) #[] #[])) (p := ⟨w.heap.size, 2, none⟩) (Nat.le_refl _) (.bool false)
          exact Below.alloc hS hS.size _
      · rename_i hd
        go_roundw
        case rel =>
          refine ⟨3, by omega, rfl, ?_, ?_, ?_, ?_, ?_, ?_, ?_, Below.alloc B2.out (by omega) _⟩
          · intro j hj
            rcases Nat.lt_or_ge j 2 with hj2 | hj2
            · exact A2.out j hj2
            · obtain rfl : j = 2 := by omega
              exact fun hh => (beq_eq_false_iff_ne.mp hd) (by omega)
          all_goals (go_simp; done)
        case measure => simp [intOf]
    · have := A.out 3 (by omega)
      have e0 : wr.cell? ⟨g, 9, none⟩ = some (.int .i64 7) := (hB.cell (by exact hg)).trans this.1
      have e1 : wr.cell? ⟨g, 10, none⟩ = some (.func (.func 22) #[] #[]) := (hB.cell (by exact hg)).trans this.2.1
      have e2 : wr.cell? ⟨g, 11, none⟩ = some (.bool true) := (hB.cell (by exact hg)).trans this.2.2
      have hsz : w.heap.size < wr.heap.size := Go.block_lt_of_cell c0
      have B2 : Hid (Below w.heap.size w wr) := hB
      clear this hB
      go_wp2
      · rename_i hd
        (try simp only [Exit.inBlock, Exit.then])
        refine bodyPost_ret (v := .tuple #[.agg (num_Do_fres op), .bool (num_Do_fok op)]) ?_ rfl ⟨rfl, ?_⟩
        · simp only [results, show Try.f18.results = #[.cell 4 34, .tmp 5] from rfl]
          go_simp
          have hop : op = 7 := by have := beq_iff_eq.mp hd; omega
          subst hop
          exact ⟨rfl, rfl⟩
        · have hB := B2.out
          have hS := Below.setCell (Below.setCell (Below.setCell hB (p := ⟨w.heap.size, 0, none⟩) (Nat.le_refl _) (.int .i64 7)) (p := ⟨w.heap.size, 1, none⟩) (Nat.le_refl _) (.func (.func 22) #[] #[])) (p := ⟨w.heap.size, 2, none⟩) (Nat.le_refl _) (.bool true)
          exact Below.alloc hS hS.size _
      · rename_i hd
        go_roundw
        case rel =>
          refine ⟨4, by omega, rfl, ?_, ?_, ?_, ?_, ?_, ?_, ?_, Below.alloc B2.out (by omega) _⟩
          · intro j hj
            rcases Nat.lt_or_ge j 3 with hj2 | hj2
            · exact A2.out j hj2
            · obtain rfl : j = 3 := by omega
              exact fun hh => (beq_eq_false_iff_ne.mp hd) (by omega)
          all_goals (go_simp; done)
        case measure => simp [intOf]
    · have := A.out 4 (by omega)
      have e0 : wr.cell? ⟨g, 12, none⟩ = some (.int .i64 8) := (hB.cell (by exact hg)).trans this.1
      have e1 : wr.cell? ⟨g, 13, none⟩ = some (.func (.func 23) #[] #[]) := (hB.cell (by exact hg)).trans this.2.1
      have e2 : wr.cell? ⟨g, 14, none⟩ = some (.bool true) := (hB.cell (by exact hg)).trans this.2.2
      have hsz : w.heap.size < wr.heap.size := Go.block_lt_of_cell c0
      have B2 : Hid (Below w.heap.size w wr) := hB
      clear this hB
      go_wp2
      · rename_i hd
        (try simp only [Exit.inBlock, Exit.then])
        refine bodyPost_ret (v := .tuple #[.agg (num_Do_fres op), .bool (num_Do_fok op)]) ?_ rfl ⟨rfl, ?_⟩
        · simp only [results, show Try.f18.results = #[.cell 4 34, .tmp 5] from rfl]
          go_simp
          have hop : op = 8 := by have := beq_iff_eq.mp hd; omega
          subst hop
          exact ⟨rfl, rfl⟩
        · have hB := B2.out
          have hS := Below.setCell (Below.setCell (Below.setCell hB (p := ⟨w.heap.size, 0, none⟩) (Nat.le_refl _) (.int .i64 8)) (p := ⟨w.heap.size, 1, none⟩) (Nat.le_refl _) (.func (.func 23) #[] #[])) (p := ⟨w.heap.size, 2, none⟩) (Nat.le_refl _) (.bool true)
          exact Below.alloc hS hS.size _
      · rename_i hd
        go_roundw
        case rel =>
          refine ⟨5, by omega, rfl, ?_, ?_, ?_, ?_, ?_, ?_, ?_, Below.alloc B2.out (by omega) _⟩
          · intro j hj
            rcases Nat.lt_or_ge j 4 with hj2 | hj2
            · exact A2.out j hj2
            · obtain rfl : j = 4 := by omega
              exact fun hh => (beq_eq_false_iff_ne.mp hd) (by omega)
          all_goals (go_simp; done)
        case measure => simp [intOf]
    · have := A.out 5 (by omega)
      have e0 : wr.cell? ⟨g, 15, none⟩ = some (.int .i64 9) := (hB.cell (by exact hg)).trans this.1
      have e1 : wr.cell? ⟨g, 16, none⟩ = some (.func (.func 24) #[] #[]) := (hB.cell (by exact hg)).trans this.2.1
      have e2 : wr.cell? ⟨g, 17, none⟩ = some (.bool false) := (hB.cell (by exact hg)).trans this.2.2
      have hsz : w.heap.size < wr.heap.size := Go.block_lt_of_cell c0
      have B2 : Hid (Below w.heap.size w wr) := hB
      clear this hB
      go_wp2
      · rename_i hd
        (try simp only [Exit.inBlock, Exit.then])
        refine bodyPost_ret (v := .tuple #[.agg (num_Do_fres op), .bool (num_Do_fok op)]) ?_ rfl ⟨rfl, ?_⟩
        · simp only [results, show Try.f18.results = #[.cell 4 34, .tmp 5] from rfl]
          go_simp
          have hop : op = 9 := by have := beq_iff_eq.mp hd; omega
          subst hop
          exact ⟨rfl, rfl⟩
        · have hB := B2.out
          have hS := Below.setCell (Below.setCell (Below.setCell hB (p := ⟨w.heap.size, 0, none⟩) (Nat.le_refl _) (.int .i64 9)) (p := ⟨w.heap.size, 1, none⟩) (Nat.le_refl _) (.func (.func 24) #[] #[])) (p := ⟨w.heap.size, 2, none⟩) (Nat.le_refl _) (.bool false)
          exact Below.alloc hS hS.size _
      · rename_i hd
        go_roundw
        case rel =>
          refine ⟨6, by omega, rfl, ?_, ?_, ?_, ?_, ?_, ?_, ?_, Below.alloc B2.out (by omega) _⟩
          · intro j hj
            rcases Nat.lt_or_ge j 5 with hj2 | hj2
            · exact A2.out j hj2
            · obtain rfl : j = 5 := by omega
              exact fun hh => (beq_eq_false_iff_ne.mp hd) (by omega)
          all_goals (go_simp; done)
        case measure => simp [intOf]
    · have := A.out 6 (by omega)
      have e0 : wr.cell? ⟨g, 18, none⟩ = some (.int .i64 10) := (hB.cell (by exact hg)).trans this.1
      have e1 : wr.cell? ⟨g, 19, none⟩ = some (.func (.func 26) #[] #[]) := (hB.cell (by exact hg)).trans this.2.1
      have e2 : wr.cell? ⟨g, 20, none⟩ = some (.bool false) := (hB.cell (by exact hg)).trans this.2.2
      have hsz : w.heap.size < wr.heap.size := Go.block_lt_of_cell c0
      have B2 : Hid (Below w.heap.size w wr) := hB
      clear this hB
      go_wp2
      · rename_i hd
        (try simp only [Exit.inBlock, Exit.then])
        refine bodyPost_ret (v := .tuple #[.agg (num_Do_fres op), .bool (num_Do_fok op)]) ?_ rfl ⟨rfl, ?_⟩
        · simp only [results, show Try.f18.results = #[.cell 4 34, .tmp 5] from rfl]
          go_simp
          have hop : op = 10 := by have := beq_iff_eq.mp hd; omega
          subst hop
          exact ⟨rfl, rfl⟩
        · have hB := B2.out
          have hS := Below.setCell (Below.setCell (Below.setCell hB (p := ⟨w.heap.size, 0, none⟩) (Nat.le_refl _) (.int .i64 10)) (p := ⟨w.heap.size, 1, none⟩) (Nat.le_refl _) (.func (.func 26) #[] #[])) (p := ⟨w.heap.size, 2, none⟩) (Nat.le_refl _) (.bool false)
          exact Below.alloc hS hS.size _
      · rename_i hd
        go_roundw
        case rel =>
          refine ⟨7, by omega, rfl, ?_, ?_, ?_, ?_, ?_, ?_, ?_, Below.alloc B2.out (by omega) _⟩
          · intro j hj
            rcases Nat.lt_or_ge j 6 with hj2 | hj2
            · exact A2.out j hj2
            · obtain rfl : j = 6 := by omega
              exact fun hh => (beq_eq_false_iff_ne.mp hd) (by omega)
          all_goals (go_simp; done)
        case measure => simp [intOf]
    · have hsz : w.heap.size < wr.heap.size := Go.block_lt_of_cell c0
      have B2 : Hid (Below w.heap.size w wr) := hB
      clear hB
      go_wp2
      (try simp only [Exit.inBlock, Exit.then])
      refine bodyPost_ret (v := .tuple #[.agg (num_Do_fres op), .bool (num_Do_fok op)]) ?_ rfl ⟨rfl, ?_⟩
      · simp only [results, show Try.f18.results = #[.cell 4 34, .tmp 5] from rfl]
        go_simp
        have hno : ¬ (4 ≤ op ∧ op ≤ 10) := fun hh => A2.out (op - 4).toNat (by omega) (by omega)
        exact ⟨by simp [num_Do_fres, hno], by simp [num_Do_fok]; omega⟩
      · skip
        have hB := B2.out
        exact Below.setCell (Below.setCell (Below.setCell hB (Nat.le_refl _) _) (Nat.le_refl _) _) (Nat.le_refl _) _

set_option maxHeartbeats 8000000 in
set_option maxRecDepth 100000 in
theorem num_Do_alloc_size (w : World) (o : Obj) : (w.alloc o).heap.size = w.heap.size + 1 := by unfold World.alloc; exact Array.size_push ..
set_option maxHeartbeats 8000000 in
set_option maxRecDepth 100000 in
theorem num_Do_fcases (op : Int) : (op = 4 ∨ op = 5 ∨ op = 6 ∨ op = 7 ∨ op = 8 ∨ op = 9 ∨ op = 10) ∨ (num_Do_fres op = #[.int .i64 0, .nilFunc, .bool false] ∧ num_Do_fok op = false ∧ ¬ (4 ≤ op ∧ op ≤ 10)) := by
  by_cases h : 4 ≤ op ∧ op ≤ 10
  · left; omega
  · right; exact ⟨by simp [num_Do_fres, h], by simp [num_Do_fok]; omega, h⟩
set_option maxHeartbeats 8000000 in
set_option maxRecDepth 100000 in
theorem num_Do_deeds (op : Int) (w : World) : Calls Try.prog 16 #[.int .i64 op] w fun e w' => e = .returned (.tuple #[.agg (num_Do_fres op), .bool (num_Do_fok op)]) ∧ Below w.heap.size w w' := by
  go_enter Try.func16, Try.ntmps16
  go_wp2_with fail
  go_at_call 18
  refine (num_Do_find op _ _ ?_).mono ?_
  · intro k hk
    have hk7 : k = 0 ∨ k = 1 ∨ k = 2 ∨ k = 3 ∨ k = 4 ∨ k = 5 ∨ k = 6 := by omega
    rcases hk7 with rfl | rfl | rfl | rfl | rfl | rfl | rfl <;> (go_simp; exact ⟨rfl, rfl⟩)
  · rintro e w1 ⟨rfl, hB⟩
    have hB0 := (Below.alloc (Below.alloc (Below.refl w.heap.size w) (Nat.le_refl _) (Obj.cells #[Value.int IntKind.i64 0, Value.nilFunc, Value.bool false] 34)) (by simp only [num_Do_alloc_size]; omega) (Obj.cells #[Value.int IntKind.i64 4, Value.func (Fn.func 19) #[] #[], Value.bool false, Value.int IntKind.i64 5,
                Value.func (Fn.func 20) #[] #[], Value.bool false, Value.int IntKind.i64 6,
                Value.func (Fn.func 21) #[] #[], Value.bool false, Value.int IntKind.i64 7,
                Value.func (Fn.func 22) #[] #[], Value.bool true, Value.int IntKind.i64 8,
                Value.func (Fn.func 23) #[] #[], Value.bool true, Value.int IntKind.i64 9,
                Value.func (Fn.func 24) #[] #[], Value.bool false, Value.int IntKind.i64 10,
                Value.func (Fn.func 26) #[] #[], Value.bool false] 34))
    have hC := hB0.trans (hB.mono (Nat.le_trans (Nat.le_add_right _ 2) (by simp only [num_Do_alloc_size]; omega)))
    have c0 : w1.cell? ⟨w.heap.size, 0, none⟩ = some (.int .i64 0) := (hB.cell (by simp only [num_Do_alloc_size]; omega)).trans (by go_simp)
    have c1 : w1.cell? ⟨w.heap.size, 1, none⟩ = some .nilFunc := (hB.cell (by simp only [num_Do_alloc_size]; omega)).trans (by go_simp)
    have c2 : w1.cell? ⟨w.heap.size, 2, none⟩ = some (.bool false) := (hB.cell (by simp only [num_Do_alloc_size]; omega)).trans (by go_simp)
    have f0 : w1.frozen? ⟨w.heap.size, 0, none⟩ = false := (hB.frozen (by simp only [num_Do_alloc_size]; omega)).trans (by go_simp)
    have f1 : w1.frozen? ⟨w.heap.size, 1, none⟩ = false := (hB.frozen (by simp only [num_Do_alloc_size]; omega)).trans (by go_simp)
    have f2 : w1.frozen? ⟨w.heap.size, 2, none⟩ = false := (hB.frozen (by simp only [num_Do_alloc_size]; omega)).trans (by go_simp)
    have hC' : Hid (Below w.heap.size w w1) := hC
    clear hB0 hB hC
    rcases num_Do_fcases op with hop | ⟨h1, h2, h3⟩
    · rcases hop with rfl | rfl | rfl | rfl | rfl | rfl | rfl
      all_goals
        simp only [num_Do_fres, num_Do_fok, num_Do_dfn, num_Do_dby, Int.reduceLE, Int.reduceEq, and_self, ite_true, ite_false, Int.reduceBEq, Bool.or_false, Bool.false_or, Bool.or_self, if_true, if_false, decide_true]
        go_wp2
        (try simp only [Exit.inBlock, Exit.then])
        refine bodyPost_ret (v := .tuple #[.agg (num_Do_fres _), .bool (num_Do_fok _)]) ?_ rfl ⟨rfl, ?_⟩
        · simp only [results, show Try.f16.results = #[.cell 2 34, .tmp 3] from rfl]
          go_simp
          exact ⟨rfl, rfl⟩
        · exact Below.setCell (Below.setCell (Below.setCell hC'.out (Nat.le_refl _) _) (Nat.le_refl _) _) (Nat.le_refl _) _
    · rw [h1, h2]
      go_wp2
      (try simp only [Exit.inBlock, Exit.then])
      refine bodyPost_ret (v := .tuple #[.agg (num_Do_fres op), .bool (num_Do_fok op)]) ?_ rfl ⟨by rw [h1, h2], ?_⟩
      · simp only [results, show Try.f16.results = #[.cell 2 34, .tmp 3] from rfl]
        go_simp
      · exact Below.setCell (Below.setCell (Below.setCell hC'.out (Nat.le_refl _) _) (Nat.le_refl _) _) (Nat.le_refl _) _

def num_Do.f (a0 a1 a2 : Int) : Option (Int × Bool) :=
  if a0 = 4 then some (wrap64 (a1 + a2), true) else if a0 = 5 then some (wrap64 (a1 - a2), true) else if a0 = 6 then some (wrap64 (a1 * a2), true)
  else if a0 = 7 then (if a2 = 0 then some (0, false) else (num_quotient.f a1 a2).bind fun t => some (t, true))
  else if a0 = 8 then (if a2 = 0 then some (0, false) else (num_rest.f a1 a2).bind fun t => some (t, true))
  else if a0 = 9 then some (if a1 < a2 then 1 else 0, true) else if a0 = 10 then some (if a1 = a2 then 1 else 0, true) else some (0, false)
set_option maxHeartbeats 8000000 in
set_option maxRecDepth 100000 in
theorem num_Do.calls (a0 : Int) (a1 : Int) (a2 : Int) (r1 : Int) (r2 : Bool) (w : World) (h : num_Do.f a0 a1 a2 = some (r1, r2)) :
    Calls Try.prog 7 #[.int .i64 a0, .int .i64 a1, .int .i64 a2] w fun e w' => e = .returned (.tuple #[.int .i64 r1, .bool r2]) ∧ Below w.heap.size w w' := by
  go_enter Try.func7, Try.ntmps7
  go_wp2_with fail
  go_at_call 16
  refine (num_Do_deeds _ _).mono ?_
  rintro e w1 ⟨rfl, hB⟩
  have hB' : Hid (Below w.heap.size w w1) := hB
  clear hB
  rcases num_Do_fcases a0 with hop | ⟨h1, h2, h3⟩
  · rcases hop with rfl | rfl | rfl | rfl | rfl | rfl | rfl
    all_goals
      simp only [num_Do_fres, num_Do_fok, num_Do_dfn, num_Do_dby, Int.reduceLE, Int.reduceEq, and_self, ite_true, ite_false, Int.reduceBEq, Bool.or_false, Bool.false_or, Bool.or_self, if_true, if_false, decide_true]
    · have h' : wrap64 (a1 + a2) = r1 ∧ true = r2 := by simpa [num_Do.f] using h
      obtain ⟨rfl, rfl⟩ := h'
      clear h
      go_wp2
      go_ret2
      exact ⟨rfl, Below.alloc hB'.out hB'.out.size _⟩
    · have h' : wrap64 (a1 - a2) = r1 ∧ true = r2 := by simpa [num_Do.f] using h
      obtain ⟨rfl, rfl⟩ := h'
      clear h
      go_wp2
      go_ret2
      exact ⟨rfl, Below.alloc hB'.out hB'.out.size _⟩
    · have h' : wrap64 (a1 * a2) = r1 ∧ true = r2 := by simpa [num_Do.f] using h
      obtain ⟨rfl, rfl⟩ := h'
      clear h
      go_wp2
      go_ret2
      exact ⟨rfl, Below.alloc hB'.out hB'.out.size _⟩
    · by_cases hc : a2 = 0
      · subst hc
        have h' : (0 : Int) = r1 ∧ false = r2 := by simpa [num_Do.f] using h
        obtain ⟨rfl, rfl⟩ := h'
        clear h
        go_wp2
        go_ret2
        exact ⟨rfl, Below.alloc hB'.out hB'.out.size _⟩
      · obtain ⟨hq, rfl⟩ : num_quotient.f a1 a2 = some r1 ∧ true = r2 := by
          cases hqq : num_quotient.f a1 a2 <;> simp_all [num_Do.f]
        have hc' : (a2 == 0) = false := by simpa using hc
        have HQ : Hid (num_quotient.f a1 a2 = some r1) := hq
        clear h hq hc
        go_wp2_with fail
        go_at_call 22
        refine (num_quotient.calls a1 a2 r1 _ HQ.out).mono ?_
        rintro e w2 ⟨rfl, hD⟩
        have hD2 : Hid (Below w.heap.size w w2) := (Below.alloc hB'.out hB'.out.size _).trans (hD.below.mono (by rw [num_Do_alloc_size]; have := hB'.out.size; omega))
        clear hD
        go_wp2
        go_ret2
        exact ⟨rfl, hD2.out⟩
    · by_cases hc : a2 = 0
      · subst hc
        have h' : (0 : Int) = r1 ∧ false = r2 := by simpa [num_Do.f] using h
        obtain ⟨rfl, rfl⟩ := h'
        clear h
        go_wp2
        go_ret2
        exact ⟨rfl, Below.alloc hB'.out hB'.out.size _⟩
      · obtain ⟨hq, rfl⟩ : num_rest.f a1 a2 = some r1 ∧ true = r2 := by
          cases hqq : num_rest.f a1 a2 <;> simp_all [num_Do.f]
        have hc' : (a2 == 0) = false := by simpa using hc
        have HQ : Hid (num_rest.f a1 a2 = some r1) := hq
        clear h hq hc
        go_wp2_with fail
        go_at_call 23
        refine (num_rest.calls a1 a2 r1 _ HQ.out).mono ?_
        rintro e w2 ⟨rfl, hD⟩
        have hD2 : Hid (Below w.heap.size w w2) := (Below.alloc hB'.out hB'.out.size _).trans (hD.below.mono (by rw [num_Do_alloc_size]; have := hB'.out.size; omega))
        clear hD
        go_wp2
        go_ret2
        exact ⟨rfl, hD2.out⟩
    · have h' : (if a1 < a2 then 1 else 0) = r1 ∧ true = r2 := by simpa [num_Do.f] using h
      obtain ⟨hr, rfl⟩ := h'
      clear h
      by_cases hlt : a1 < a2
      · have hd : decide (a1 < a2) = true := by simpa using hlt
        obtain rfl : (1 : Int) = r1 := by rw [← hr, if_pos hlt]
        clear hlt hr
        go_wp2
        go_ret2
        exact ⟨rfl, Below.alloc hB'.out hB'.out.size _⟩
      · have hd : decide (a1 < a2) = false := by simpa using hlt
        obtain rfl : (0 : Int) = r1 := by rw [← hr, if_neg hlt]
        clear hlt hr
        go_wp2
        go_ret2
        exact ⟨rfl, Below.alloc hB'.out hB'.out.size _⟩
    · have h' : (if a1 = a2 then 1 else 0) = r1 ∧ true = r2 := by simpa [num_Do.f] using h
      obtain ⟨hr, rfl⟩ := h'
      clear h
      by_cases hlt : a1 = a2
      · have hd : (a1 == a2) = true := by simpa using hlt
        obtain rfl : (1 : Int) = r1 := by rw [← hr, if_pos hlt]
        clear hlt hr
        go_wp2
        go_ret2
        exact ⟨rfl, Below.alloc hB'.out hB'.out.size _⟩
      · have hd : (a1 == a2) = false := by simpa using hlt
        obtain rfl : (0 : Int) = r1 := by rw [← hr, if_neg hlt]
        clear hlt hr
        go_wp2
        go_ret2
        exact ⟨rfl, Below.alloc hB'.out hB'.out.size _⟩
  · have h' : (0 : Int) = r1 ∧ false = r2 := by
      have e4 : a0 ≠ 4 := by omega
      have e5 : a0 ≠ 5 := by omega
      have e6 : a0 ≠ 6 := by omega
      have e7 : a0 ≠ 7 := by omega
      have e8 : a0 ≠ 8 := by omega
      have e9 : a0 ≠ 9 := by omega
      have e10 : a0 ≠ 10 := by omega
      simpa [num_Do.f, e4, e5, e6, e7, e8, e9, e10] using h
    obtain ⟨rfl, rfl⟩ := h'
    clear h h3
    rw [h1, h2]
    clear h1 h2
    go_wp2
    go_ret2
    exact ⟨rfl, Below.alloc hB'.out hB'.out.size _⟩

/-! ### sheerlegref01_Div: function 17 -/
def sheerlegref01_Div.f (a0 : Int) (a1 : Int) : Option (Int) := if a1 = (-1) then (some (wrap64 (-a0))) else (if a1 = 0 then (none) else (some (wrap64 (Int.tdiv a0 a1))))
set_option maxHeartbeats 8000000 in
set_option maxRecDepth 100000 in
theorem sheerlegref01_Div.calls (a0 : Int) (a1 : Int) (r : Int) (w : World) (h : sheerlegref01_Div.f a0 a1 = some r) :
    Calls Try.prog 17 #[.int .i64 a0, .int .i64 a1] w fun e w' => e = .returned (.int .i64 r) ∧ Drawn0 w w' := by
  have H : (if a1 = (-1) then (some (wrap64 (-a0))) else (if a1 = 0 then (none) else (some (wrap64 (Int.tdiv a0 a1))))) = some r := h
  clear h
  by_cases c3 : a1 = (-1)
  · rw [if_pos c3] at H
    have c3b0 : (a1 == (-1)) = true := beq_iff_eq.mpr c3
    have c3b1 : (a1 != (-1)) = false := bne_eq_false_iff_eq.mpr c3
    clear c3
    obtain rfl := Option.some.inj H
    go_enter Try.func17, Try.ntmps17
    go_wp2
    go_ret
    exact ⟨by first | rfl | (simp; done) | (simp [*]; done), by repeat (first | exact Drawn0.refl _ | apply Drawn0.step)⟩
  · rw [if_neg c3] at H
    have c3b0 : (a1 == (-1)) = false := beq_eq_false_iff_ne.mpr c3
    have c3b1 : (a1 != (-1)) = true := bne_iff_ne.mpr c3
    by_cases c4 : a1 = 0
    · rw [if_pos c4] at H
      exact absurd H (by simp)
    · rw [if_neg c4] at H
      have c4b0 : (a1 == 0) = false := beq_eq_false_iff_ne.mpr c4
      have c4b1 : (a1 != 0) = true := bne_iff_ne.mpr c4
      obtain rfl := Option.some.inj H
      go_enter Try.func17, Try.ntmps17
      go_wp2
      go_ret
      exact ⟨by first | rfl | (simp; done) | (simp [*]; done), by repeat (first | exact Drawn0.refl _ | apply Drawn0.step)⟩

/-! ### sheerlegref01_Do: function 8 -/
def sheerlegref01_Do.j0 : Nat → Int → Int → Int → Bool → Option (Int × Bool)
  | 0, _, _, _, _ => none
  | k + 1, x0, x1, x2, x43 => if x43 = true then (some (0, false)) else (if x0 = 7 then ((sheerlegref01_Div.f x1 x2).bind fun t102 => (some (t102, true))) else ((sheerlegref01_Div.f x1 x2).bind fun t103 => (some (wrap64 (x1 - (wrap64 (x2 * t103))), true))))
def sheerlegref01_Do.f (k : Nat) (a0 : Int) (a1 : Int) (a2 : Int) : Option (Int × Bool) := if a0 = 4 then (some (wrap64 (a1 + a2), true)) else (if a0 = 5 then (some (wrap64 (a1 - a2), true)) else (if a0 = 6 then (some (wrap64 (a1 * a2), true)) else (if a0 = 9 then (if a1 < a2 then (some (1, true)) else (some (0, true))) else (if a0 = 10 then (if a1 = a2 then (some (1, true)) else (some (0, true))) else (if a2 = 0 then (sheerlegref01_Do.j0 k a0 a1 a2 true) else (if a0 = 7 then (sheerlegref01_Do.j0 k a0 a1 a2 false) else (sheerlegref01_Do.j0 k a0 a1 a2 (a0 != 8))))))))
theorem sheerlegref01_Do.mono_l : ∀ k, (∀ y0 y1 y2 y3, LeO (sheerlegref01_Do.j0 k y0 y1 y2 y3) (sheerlegref01_Do.j0 (k + 1) y0 y1 y2 y3))
  | 0 => fun _ _ _ _ r h => by simp [sheerlegref01_Do.j0] at h
  | k + 1 => by
    have ih0 := sheerlegref01_Do.mono_l k
    · intro y0 y1 y2 y3
      unfold sheerlegref01_Do.j0
      repeat' first
      | (with_reducible exact ih0 _ _ _ _)
      | (with_reducible exact LeO.refl _)
      | (with_reducible exact LeO.none _)
      | (with_reducible refine LeO.ite ?_ ?_)
      | (with_reducible refine LeO.bind ?_ (fun _ => ?_))
      | exact ih0 _ _ _ _
      | exact LeO.none _
      | refine LeO.ite ?_ ?_
      | refine LeO.bind ?_ (fun _ => ?_)
theorem sheerlegref01_Do.mono : ∀ a0 a1 a2 k, LeO (sheerlegref01_Do.f k a0 a1 a2) (sheerlegref01_Do.f (k + 1) a0 a1 a2) := by
  intro a0 a1 a2 k
  have ih0 := sheerlegref01_Do.mono_l k
  unfold sheerlegref01_Do.f
  repeat' first
      | (with_reducible exact ih0 _ _ _ _)
      | (with_reducible exact LeO.refl _)
      | (with_reducible exact LeO.none _)
      | (with_reducible refine LeO.ite ?_ ?_)
      | (with_reducible refine LeO.bind ?_ (fun _ => ?_))
      | exact ih0 _ _ _ _
      | exact LeO.none _
      | refine LeO.ite ?_ ?_
      | refine LeO.bind ?_ (fun _ => ?_)
set_option maxHeartbeats 8000000 in
set_option maxRecDepth 100000 in
theorem sheerlegref01_Do.calls (k : Nat) (a0 : Int) (a1 : Int) (a2 : Int) (r1 : Int) (r2 : Bool) (w : World) (h : sheerlegref01_Do.f k a0 a1 a2 = some (r1, r2)) :
    Calls Try.prog 8 #[.int .i64 a0, .int .i64 a1, .int .i64 a2] w fun e w' => e = .returned (.tuple #[.int .i64 r1, .bool r2]) ∧ Drawn0 w w' := by
  have H : (if a0 = 4 then (some (wrap64 (a1 + a2), true)) else (if a0 = 5 then (some (wrap64 (a1 - a2), true)) else (if a0 = 6 then (some (wrap64 (a1 * a2), true)) else (if a0 = 9 then (if a1 < a2 then (some (1, true)) else (some (0, true))) else (if a0 = 10 then (if a1 = a2 then (some (1, true)) else (some (0, true))) else (if a2 = 0 then (sheerlegref01_Do.j0 k a0 a1 a2 true) else (if a0 = 7 then (sheerlegref01_Do.j0 k a0 a1 a2 false) else (sheerlegref01_Do.j0 k a0 a1 a2 (a0 != 8))))))))) = some (r1, r2) := h
  clear h
  by_cases c4 : a0 = 4
  · rw [if_pos c4] at H
    have c4b0 : (a0 == 4) = true := beq_iff_eq.mpr c4
    have c4b1 : (a0 != 4) = false := bne_eq_false_iff_eq.mpr c4
    clear c4
    simp only [Option.some.injEq, Prod.mk.injEq] at H
    obtain ⟨rfl, rfl⟩ := H
    go_enter Try.func8, Try.ntmps8
    go_wp2
    go_ret2
    exact ⟨by first | rfl | (simp; done) | (simp [*]; done), by repeat (first | exact Drawn0.refl _ | apply Drawn0.step)⟩
  · rw [if_neg c4] at H
    have c4b0 : (a0 == 4) = false := beq_eq_false_iff_ne.mpr c4
    have c4b1 : (a0 != 4) = true := bne_iff_ne.mpr c4
    by_cases c5 : a0 = 5
    · rw [if_pos c5] at H
      have c5b0 : (a0 == 5) = true := beq_iff_eq.mpr c5
      have c5b1 : (a0 != 5) = false := bne_eq_false_iff_eq.mpr c5
      clear c5
      simp only [Option.some.injEq, Prod.mk.injEq] at H
      obtain ⟨rfl, rfl⟩ := H
      go_enter Try.func8, Try.ntmps8
      go_wp2
      go_ret2
      exact ⟨by first | rfl | (simp; done) | (simp [*]; done), by repeat (first | exact Drawn0.refl _ | apply Drawn0.step)⟩
    · rw [if_neg c5] at H
      have c5b0 : (a0 == 5) = false := beq_eq_false_iff_ne.mpr c5
      have c5b1 : (a0 != 5) = true := bne_iff_ne.mpr c5
      by_cases c6 : a0 = 6
      · rw [if_pos c6] at H
        have c6b0 : (a0 == 6) = true := beq_iff_eq.mpr c6
        have c6b1 : (a0 != 6) = false := bne_eq_false_iff_eq.mpr c6
        clear c6
        simp only [Option.some.injEq, Prod.mk.injEq] at H
        obtain ⟨rfl, rfl⟩ := H
        go_enter Try.func8, Try.ntmps8
        go_wp2
        go_ret2
        exact ⟨by first | rfl | (simp; done) | (simp [*]; done), by repeat (first | exact Drawn0.refl _ | apply Drawn0.step)⟩
      · rw [if_neg c6] at H
        have c6b0 : (a0 == 6) = false := beq_eq_false_iff_ne.mpr c6
        have c6b1 : (a0 != 6) = true := bne_iff_ne.mpr c6
        by_cases c7 : a0 = 9
        · rw [if_pos c7] at H
          have c7b0 : (a0 == 9) = true := beq_iff_eq.mpr c7
          have c7b1 : (a0 != 9) = false := bne_eq_false_iff_eq.mpr c7
          clear c7
          by_cases c8 : a1 < a2
          · rw [if_pos c8] at H
            have c8b0 : decide (a1 < a2) = true := decide_eq_true c8
            clear c8
            simp only [Option.some.injEq, Prod.mk.injEq] at H
            obtain ⟨rfl, rfl⟩ := H
            go_enter Try.func8, Try.ntmps8
            go_wp2
            go_ret2
            exact ⟨by first | rfl | (simp; done) | (simp [*]; done), by repeat (first | exact Drawn0.refl _ | apply Drawn0.step)⟩
          · rw [if_neg c8] at H
            have c8b0 : decide (a1 < a2) = false := decide_eq_false c8
            clear c8
            simp only [Option.some.injEq, Prod.mk.injEq] at H
            obtain ⟨rfl, rfl⟩ := H
            go_enter Try.func8, Try.ntmps8
            go_wp2
            go_ret2
            exact ⟨by first | rfl | (simp; done) | (simp [*]; done), by repeat (first | exact Drawn0.refl _ | apply Drawn0.step)⟩
        · rw [if_neg c7] at H
          have c7b0 : (a0 == 9) = false := beq_eq_false_iff_ne.mpr c7
          have c7b1 : (a0 != 9) = true := bne_iff_ne.mpr c7
          by_cases c9 : a0 = 10
          · rw [if_pos c9] at H
            have c9b0 : (a0 == 10) = true := beq_iff_eq.mpr c9
            have c9b1 : (a0 != 10) = false := bne_eq_false_iff_eq.mpr c9
            clear c9
            by_cases c10 : a1 = a2
            · rw [if_pos c10] at H
              have c10b0 : (a1 == a2) = true := beq_iff_eq.mpr c10
              have c10b1 : (a1 != a2) = false := bne_eq_false_iff_eq.mpr c10
              clear c10
              simp only [Option.some.injEq, Prod.mk.injEq] at H
              obtain ⟨rfl, rfl⟩ := H
              go_enter Try.func8, Try.ntmps8
              go_wp2
              go_ret2
              exact ⟨by first | rfl | (simp; done) | (simp [*]; done), by repeat (first | exact Drawn0.refl _ | apply Drawn0.step)⟩
            · rw [if_neg c10] at H
              have c10b0 : (a1 == a2) = false := beq_eq_false_iff_ne.mpr c10
              have c10b1 : (a1 != a2) = true := bne_iff_ne.mpr c10
              simp only [Option.some.injEq, Prod.mk.injEq] at H
              obtain ⟨rfl, rfl⟩ := H
              go_enter Try.func8, Try.ntmps8
              go_wp2
              go_ret2
              exact ⟨by first | rfl | (simp; done) | (simp [*]; done), by repeat (first | exact Drawn0.refl _ | apply Drawn0.step)⟩
          · rw [if_neg c9] at H
            have c9b0 : (a0 == 10) = false := beq_eq_false_iff_ne.mpr c9
            have c9b1 : (a0 != 10) = true := bne_iff_ne.mpr c9
            have HC11 := Aside0.mk H
            clear H
            go_enter Try.func8, Try.ntmps8
            go_upto_region 16 with (fail)
            go_cut [43] (fun v43 wc => ∃ (kq : Nat) (x43_10 : Bool), v43 = .bool x43_10 ∧ Aside0 (sheerlegref01_Do.j0 kq a0 a1 a2 x43_10 = some (r1, r2)) ∧ Aside0 (kq ≤ k) ∧ Drawn0 w wc)
            case first =>
              have H := HC11.out
              clear HC11
              by_cases c12 : a2 = 0
              · rw [if_pos c12] at H
                have c12b0 : (a2 == 0) = true := beq_iff_eq.mpr c12
                have c12b1 : (a2 != 0) = false := bne_eq_false_iff_eq.mpr c12
                clear c12
                (first | rw [c12b0] | (simp only [i64_w, i32_w]; rw [c12b0]) | skip)
                have H' := Aside0.mk H
                clear H
                go_wp2
                go_meet
                case rel => exact ⟨_, (true), (by first | rfl | (simp; done) | (simp [*]; done)), H', ⟨by first | omega | exact Nat.le_refl _⟩, by repeat (first | exact Drawn0.refl _ | apply Drawn0.step)⟩
              · rw [if_neg c12] at H
                have c12b0 : (a2 == 0) = false := beq_eq_false_iff_ne.mpr c12
                have c12b1 : (a2 != 0) = true := bne_iff_ne.mpr c12
                (first | rw [c12b0] | (simp only [i64_w, i32_w]; rw [c12b0]) | skip)
                by_cases c13 : a0 = 7
                · rw [if_pos c13] at H
                  have c13b0 : (a0 == 7) = true := beq_iff_eq.mpr c13
                  have c13b1 : (a0 != 7) = false := bne_eq_false_iff_eq.mpr c13
                  clear c13
                  have H' := Aside0.mk H
                  clear H
                  go_wp2
                  go_meet
                  case rel => exact ⟨_, (false), (by first | rfl | (simp; done) | (simp [*]; done)), H', ⟨by first | omega | exact Nat.le_refl _⟩, by repeat (first | exact Drawn0.refl _ | apply Drawn0.step)⟩
                · rw [if_neg c13] at H
                  have c13b0 : (a0 == 7) = false := beq_eq_false_iff_ne.mpr c13
                  have c13b1 : (a0 != 7) = true := bne_iff_ne.mpr c13
                  have H' := Aside0.mk H
                  clear H
                  go_wp2
                  go_meet
                  case rel => exact ⟨_, ((a0 != 8)), (by first | rfl | (simp; done) | (simp [*]; done)), H', ⟨by first | omega | exact Nat.le_refl _⟩, by repeat (first | exact Drawn0.refl _ | apply Drawn0.step)⟩
            case rest =>
              clear HC11
              try clear c1
              try clear p2
              try clear c4
              try clear c4b0
              try clear c4b1
              try clear c5
              try clear c5b0
              try clear c5b1
              try clear c6
              try clear c6b0
              try clear c6b1
              try clear p6
              try clear c7
              try clear c7b0
              try clear c7b1
              try clear c8
              try clear c8b0
              try clear c9
              try clear c9b0
              try clear c9b1
              try clear c10
              try clear c10b0
              try clear c10b1
              try clear c12
              try clear c12b0
              try clear c12b1
              try clear c13
              try clear c13b0
              try clear c13b1
              obtain ⟨kq, x43_10, rfl, HA, HJ10, ⟨mc10, rfl⟩⟩ := hcut
              cases kq with
              | zero => exact absurd HA.out (by simp [sheerlegref01_Do.j0])
              | succ kj10 =>
                have H := HA.out
                clear HA
                simp only [sheerlegref01_Do.j0] at H
                by_cases c14 : x43_10 = true
                · subst c14
                  have H1 : (some (0, false)) = some (r1, r2) := by rw [if_pos rfl] at H; exact H
                  clear H
                  have H := H1
                  clear H1
                  simp only [Option.some.injEq, Prod.mk.injEq] at H
                  obtain ⟨rfl, rfl⟩ := H
                  go_wp2
                  go_ret2
                  exact ⟨by first | rfl | (simp; done) | (simp [*]; done), by repeat (first | exact Drawn0.refl _ | apply Drawn0.step)⟩
                · replace c14 := Bool.eq_false_iff.mpr c14
                  subst c14
                  have H1 : (if a0 = 7 then ((sheerlegref01_Div.f a1 a2).bind fun t102 => (some (t102, true))) else ((sheerlegref01_Div.f a1 a2).bind fun t103 => (some (wrap64 (a1 - (wrap64 (a2 * t103))), true)))) = some (r1, r2) := by rw [if_neg (show ¬ (false = true) by decide)] at H; exact H
                  clear H
                  have H := H1
                  clear H1
                  by_cases c15 : a0 = 7
                  · rw [if_pos c15] at H
                    have c15b0 : (a0 == 7) = true := beq_iff_eq.mpr c15
                    have c15b1 : (a0 != 7) = false := bne_eq_false_iff_eq.mpr c15
                    clear c15
                    replace H := Option.bind_eq_some_iff.mp H
                    obtain ⟨t102, A160, H⟩ := H
                    replace H : (some (t102, true)) = some (r1, r2) := H
                    have A16 := Aside0.mk A160
                    clear A160
                    simp only [Option.some.injEq, Prod.mk.injEq] at H
                    obtain ⟨rfl, rfl⟩ := H
                    go_wp2_with (first | ((with_reducible refine gate_callee (f := 17) rfl ?_); refine goesL_ (some 48) rfl rfl Try.func17 (by kernel_rfl) rfl #[.int .i64 a1, .int .i64 a2] rfl (by (try simp only [List.map_toArray, List.map_cons, List.map_nil]); first | done | rfl | (simp only [List.length_drop, List.length_take]; rfl)) ?_; (with_reducible refine (sheerlegref01_Div.calls a1 a2 t102 _ A16.out).mono ?_); rintro e w' ⟨rfl, ⟨nd, rfl⟩⟩; refine ⟨_, rfl, ?_⟩))
                    go_ret2
                    exact ⟨by first | rfl | (simp; done) | (simp [*]; done), by repeat (first | exact Drawn0.refl _ | apply Drawn0.step)⟩
                  · rw [if_neg c15] at H
                    have c15b0 : (a0 == 7) = false := beq_eq_false_iff_ne.mpr c15
                    have c15b1 : (a0 != 7) = true := bne_iff_ne.mpr c15
                    replace H := Option.bind_eq_some_iff.mp H
                    obtain ⟨t103, A170, H⟩ := H
                    replace H : (some (wrap64 (a1 - (wrap64 (a2 * t103))), true)) = some (r1, r2) := H
                    have A17 := Aside0.mk A170
                    clear A170
                    simp only [Option.some.injEq, Prod.mk.injEq] at H
                    obtain ⟨rfl, rfl⟩ := H
                    go_wp2_with (first | ((with_reducible refine gate_callee (f := 17) rfl ?_); refine goesL_ (some 53) rfl rfl Try.func17 (by kernel_rfl) rfl #[.int .i64 a1, .int .i64 a2] rfl (by (try simp only [List.map_toArray, List.map_cons, List.map_nil]); first | done | rfl | (simp only [List.length_drop, List.length_take]; rfl)) ?_; (with_reducible refine (sheerlegref01_Div.calls a1 a2 t103 _ A17.out).mono ?_); rintro e w' ⟨rfl, ⟨nd, rfl⟩⟩; refine ⟨_, rfl, ?_⟩))
                    go_ret2
                    exact ⟨by first | rfl | (simp; done) | (simp [*]; done), by repeat (first | exact Drawn0.refl _ | apply Drawn0.step)⟩

/-! ### num_Double: function 10 -/
def num_Double.l0 : Nat → Int → Int → Int → Option (Int × Bool)
  | 0, _, _, _ => none
  | k + 1, x0, x1, x2 => if x0 ≤ x2 then (if x0 ≥ x1 then (some (x0, true)) else (if x0 > (wrap64 (x2 - x0)) then (some (0, false)) else (num_Double.l0 k (wrap64 (x0 + x0)) x1 x2))) else (some (0, false))
def num_Double.f (k : Nat) (a0 : Int) (a1 : Int) (a2 : Int) : Option (Int × Bool) := if a0 < 1 then (some (0, false)) else (num_Double.l0 k a0 a1 a2)
theorem num_Double.mono_l : ∀ k, (∀ y0 y1 y2, LeO (num_Double.l0 k y0 y1 y2) (num_Double.l0 (k + 1) y0 y1 y2))
  | 0 => fun _ _ _ r h => by simp [num_Double.l0] at h
  | k + 1 => by
    have ih0 := num_Double.mono_l k
    · intro y0 y1 y2
      unfold num_Double.l0
      repeat' first
      | (with_reducible exact ih0 _ _ _)
      | (with_reducible exact LeO.refl _)
      | (with_reducible exact LeO.none _)
      | (with_reducible refine LeO.ite ?_ ?_)
      | (with_reducible refine LeO.bind ?_ (fun _ => ?_))
      | exact ih0 _ _ _
      | exact LeO.none _
      | refine LeO.ite ?_ ?_
      | refine LeO.bind ?_ (fun _ => ?_)
theorem num_Double.mono : ∀ a0 a1 a2 k, LeO (num_Double.f k a0 a1 a2) (num_Double.f (k + 1) a0 a1 a2) := by
  intro a0 a1 a2 k
  have ih0 := num_Double.mono_l k
  unfold num_Double.f
  repeat' first
      | (with_reducible exact ih0 _ _ _)
      | (with_reducible exact LeO.refl _)
      | (with_reducible exact LeO.none _)
      | (with_reducible refine LeO.ite ?_ ?_)
      | (with_reducible refine LeO.bind ?_ (fun _ => ?_))
      | exact ih0 _ _ _
      | exact LeO.none _
      | refine LeO.ite ?_ ?_
      | refine LeO.bind ?_ (fun _ => ?_)
set_option maxHeartbeats 8000000 in
set_option maxRecDepth 100000 in
theorem num_Double.calls (k : Nat) (a0 : Int) (a1 : Int) (a2 : Int) (r1 : Int) (r2 : Bool) (w : World) (h : num_Double.f k a0 a1 a2 = some (r1, r2)) :
    Calls Try.prog 10 #[.int .i64 a0, .int .i64 a1, .int .i64 a2] w fun e w' => e = .returned (.tuple #[.int .i64 r1, .bool r2]) ∧ Drawn0 w w' := by
  have H : (if a0 < 1 then (some (0, false)) else (num_Double.l0 k a0 a1 a2)) = some (r1, r2) := h
  clear h
  by_cases c4 : a0 < 1
  · rw [if_pos c4] at H
    have c4b0 : decide (a0 < 1) = true := decide_eq_true c4
    clear c4
    simp only [Option.some.injEq, Prod.mk.injEq] at H
    obtain ⟨rfl, rfl⟩ := H
    go_enter Try.func10, Try.ntmps10
    go_wp2
    go_ret2
    exact ⟨by first | rfl | (simp; done) | (simp [*]; done), by repeat (first | exact Drawn0.refl _ | apply Drawn0.step)⟩
  · rw [if_neg c4] at H
    have c4b0 : decide (a0 < 1) = false := decide_eq_false c4
    clear c4
    have H' := Aside0.mk H
    clear H
    go_enter Try.func10, Try.ntmps10
    go_wp2
    go_loopg [0] k (fun kq v0 w' => ∃ (x0_1 : Int), v0 = .int .i64 x0_1 ∧ Aside0 (num_Double.l0 kq x0_1 a1 a2 = some (r1, r2)) ∧ Aside0 (kq ≤ k) ∧ Drawn0 w w')
    case atStart => exact ⟨(a0), (by first | rfl | (simp; done) | (simp [*]; done)), H', ⟨Nat.le_refl _⟩, by repeat (first | exact Drawn0.refl _ | apply Drawn0.step)⟩
    case round =>
      clear H'
      try clear c1
      try clear p2
      try clear c4
      try clear c4b0
      obtain ⟨x0_1, rfl, HA, HK1, ⟨m1, rfl⟩⟩ := hrel
      cases gk with
      | zero => exact absurd HA.out (by simp [num_Double.l0])
      | succ k1 =>
        have H := HA.out
        clear HA
        simp only [num_Double.l0] at H
        by_cases c5 : x0_1 ≤ a2
        · rw [if_pos c5] at H
          have c5b0 : decide (x0_1 ≤ a2) = true := decide_eq_true c5
          clear c5
          by_cases c6 : x0_1 ≥ a1
          · rw [if_pos c6] at H
            have c6b0 : decide (a1 ≤ x0_1) = true := decide_eq_true c6
            clear c6
            simp only [Option.some.injEq, Prod.mk.injEq] at H
            obtain ⟨rfl, rfl⟩ := H
            go_wp2
            go_ret2
            exact ⟨by first | rfl | (simp; done) | (simp [*]; done), by repeat (first | exact Drawn0.refl _ | apply Drawn0.step)⟩
          · rw [if_neg c6] at H
            have c6b0 : decide (a1 ≤ x0_1) = false := decide_eq_false c6
            clear c6
            by_cases c7 : x0_1 > (wrap64 (a2 - x0_1))
            · rw [if_pos c7] at H
              have c7b0 : decide ((wrap64 (a2 - x0_1)) < x0_1) = true := decide_eq_true c7
              clear c7
              simp only [Option.some.injEq, Prod.mk.injEq] at H
              obtain ⟨rfl, rfl⟩ := H
              go_wp2
              go_ret2
              exact ⟨by first | rfl | (simp; done) | (simp [*]; done), by repeat (first | exact Drawn0.refl _ | apply Drawn0.step)⟩
            · rw [if_neg c7] at H
              have c7b0 : decide ((wrap64 (a2 - x0_1)) < x0_1) = false := decide_eq_false c7
              clear c7
              have H' := Aside0.mk H
              clear H
              go_wp2
              go_roundg k1
              case measure => have := HK1.out; omega
              case rel => exact ⟨(wrap64 (x0_1 + x0_1)), (by first | rfl | (simp; done) | (simp [*]; done)), H', ⟨by have := HK1.out; omega⟩, by repeat (first | exact Drawn0.refl _ | apply Drawn0.step)⟩
        · rw [if_neg c5] at H
          have c5b0 : decide (x0_1 ≤ a2) = false := decide_eq_false c5
          clear c5
          simp only [Option.some.injEq, Prod.mk.injEq] at H
          obtain ⟨rfl, rfl⟩ := H
          go_wp2
          go_ret2
          exact ⟨by first | rfl | (simp; done) | (simp [*]; done), by repeat (first | exact Drawn0.refl _ | apply Drawn0.step)⟩

end Go.Proofs.Ytlcojcfnidpdgaa.PG
