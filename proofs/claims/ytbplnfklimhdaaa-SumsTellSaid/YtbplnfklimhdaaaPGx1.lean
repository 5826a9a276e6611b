-- Written by a program of this work (the print, with parts of our own); Lean checks it.
import Derived.Test.YtbplnfklimhdaaaPGx0
namespace Go.Proofs.Ytbplnfklimhdaaa.PG
open Go.RowKit Go.Proofs.YtbplnfklimhdaaaW.PrintWords Go.Proofs.YtbplnfklimhdaaaW.PrintLast Go.Proofs.YtbplnfklimhdaaaW.PrintMore
attribute [local go_sem] max2_int min2_int max_two min_two max_three min_three max_four min_four   -- for this text's walks alone
set_option linter.unusedVariables false
set_option linter.unusedSimpArgs false

/-- A state of type 36 at block g of W; what its slices lead to came in by w0. -/
def IsS36 (w0 W : World) (g : Nat) (f0 : Int) (f1 : Int) (f2 : Bool) : Prop := W.heap[g]? = some (.cells #[.int .i64 f0, .int .i64 f1, .bool f2] 36 (0, 0)) ∧ w0.heap.size ≤ g
theorem IsS36.grown {w0 W : World} {g : Nat} {f0 : Int} {f1 : Int} {f2 : Bool} {W1 : World} {row : Option Nat} (h : IsS36 w0 W g f0 f1 f2) (hw : W.grownBy W1 row) (hne : some g ≠ row) : IsS36 w0 W1 g f0 f1 f2 := by
  obtain ⟨hb, hg⟩ := h
  exact ⟨blk_grown hb hw hne, hg⟩
theorem IsS36.own_neN {w0 W : World} {g : Nat} {f0 : Int} {f1 : Int} {f2 : Bool} {α : Type} {d : Kd α} {e : Nat} {base : Nat} {ok : Nat → Prop} {v : Value} {xs : List α} (h : IsS36 w0 W g f0 f1 f2) (ho : Kd.N d e W base ok v xs) (ht : e ≠ 36) : some g ≠ v.ownBlock := by
  obtain ⟨hb, hg⟩ := h
  exact Kd.N_ne ho hb ht
theorem IsS36.fresh {w0 W : World} {g : Nat} {f0 : Int} {f1 : Int} {f2 : Bool} (h : IsS36 w0 W g f0 f1 f2) : ∀ k, W.heap.size ≤ k → k ≠ g := by
  obtain ⟨hb, hg⟩ := h
  exact Kd.freshB hb
theorem IsS36.kept {w0 W : World} {g : Nat} {f0 : Int} {f1 : Int} {f2 : Bool} {W1 : World} {S : Nat → Prop} (h : IsS36 w0 W g f0 f1 f2) (hk : Kept W W1 S) (hne : ¬ S g) : IsS36 w0 W1 g f0 f1 f2 := by
  obtain ⟨hb, hg⟩ := h
  exact ⟨blk_kept hb hk hne, hg⟩
theorem IsS36.below {w0 W : World} {g : Nat} {f0 : Int} {f1 : Int} {f2 : Bool} {W1 : World} (h : IsS36 w0 W g f0 f1 f2) (hw : Below W.heap.size W W1) : IsS36 w0 W1 g f0 f1 f2 := h.grown (grown_of_below hw none) (by simp)
theorem IsS36.alloc {w0 W : World} {g : Nat} {f0 : Int} {f1 : Int} {f2 : Bool} (h : IsS36 w0 W g f0 f1 f2) (o : Obj) : IsS36 w0 (W.alloc o) g f0 f1 f2 := h.below (below_alloc (Below.refl _ _) o)
theorem IsS36.drewN {w0 W : World} {g : Nat} {f0 : Int} {f1 : Int} {f2 : Bool} (h : IsS36 w0 W g f0 f1 f2) (m : Nat) : IsS36 w0 (W.drewN m) g f0 f1 f2 := h
theorem IsS36.drew {w0 W : World} {g : Nat} {f0 : Int} {f1 : Int} {f2 : Bool} (h : IsS36 w0 W g f0 f1 f2) : IsS36 w0 W.drew g f0 f1 f2 := h
theorem IsS36.at_ {w0 W : World} {g : Nat} {f0 : Int} {f1 : Int} {f2 : Bool} {w' : World} {m : Nat} (hq : W.drewN m = w') (h : IsS36 w0 W g f0 f1 f2) : IsS36 w0 w' g f0 f1 f2 := by subst hq; exact IsS36.drewN h m
theorem IsS36.apart {w0 W : World} {g : Nat} {f0 : Int} {f1 : Int} {f2 : Bool} {α : Type} {d : Kd α} {e : Nat} {base : Nat} {ok : Nat → Prop} {v : Value} {xs : List α} (h : IsS36 w0 W g f0 f1 f2) (ho : d.R e W base ok v xs) (ht : ∀ q, q ∈ e :: d.E → q ≠ 36) : d.R e W base (fun k => ok k ∧ k ≠ g) v xs := by
  obtain ⟨hb, hg⟩ := h
  exact Kd.R_types ho hb ht
theorem IsS36.own_ne {w0 W : World} {g : Nat} {f0 : Int} {f1 : Int} {f2 : Bool} {α : Type} {d : Kd α} {e : Nat} {base : Nat} {ok : Nat → Prop} {v : Value} {xs : List α} (h : IsS36 w0 W g f0 f1 f2) (ho : d.R e W base ok v xs) (ht : e ≠ 36) : some g ≠ v.ownBlock := by
  obtain ⟨hb, hg⟩ := h
  exact Kd.R_ne ho hb ht
theorem IsS36.apartQ {w0 W : World} {g : Nat} {f0 : Int} {f1 : Int} {f2 : Bool} {α : Type} {d : Kd α} {e : Nat} {base : Nat} {ok : Nat → Prop} {v : Value} {xs : List α} (h : IsS36 w0 W g f0 f1 f2) (ho : d.Q e W base ok v xs) (ht : ∀ q, q ∈ e :: d.E → q ≠ 36) : d.Q e W base (fun k => ok k ∧ k ≠ g) v xs := by
  obtain ⟨hb, hg⟩ := h
  exact Kd.Q_types ho hb ht
theorem IsS36.own_neQ {w0 W : World} {g : Nat} {f0 : Int} {f1 : Int} {f2 : Bool} {α : Type} {d : Kd α} {e : Nat} {base : Nat} {ok : Nat → Prop} {v : Value} {xs : List α} (h : IsS36 w0 W g f0 f1 f2) (ho : d.Q e W base ok v xs) (ht : e ≠ 36) : some g ≠ v.ownBlock := by
  obtain ⟨hb, hg⟩ := h
  exact Kd.Q_ne ho hb ht
theorem IsS36.apartS {w0 W : World} {g : Nat} {f0 : Int} {f1 : Int} {f2 : Bool} {α : Type} {d : Kd α} {e : Nat} {base : Nat} {ok : Nat → Prop} {v : Value} {xs : List α} (h : IsS36 w0 W g f0 f1 f2) (ho : d.S e W base ok v xs) (ht : ∀ q, q ∈ e :: d.E → q ≠ 36) : d.S e W base (fun k => ok k ∧ k ≠ g) v xs := by
  obtain ⟨hb, hg⟩ := h
  exact Kd.S_types ho hb ht
theorem IsS36.own_neS {w0 W : World} {g : Nat} {f0 : Int} {f1 : Int} {f2 : Bool} {α : Type} {d : Kd α} {e : Nat} {base : Nat} {ok : Nat → Prop} {v : Value} {xs : List α} (h : IsS36 w0 W g f0 f1 f2) (ho : d.S e W base ok v xs) (ht : e ≠ 36) : some g ≠ v.ownBlock := by
  obtain ⟨hb, hg⟩ := h
  exact Kd.S_ne ho hb ht
theorem IsS36.lt {w0 W : World} {g : Nat} {f0 : Int} {f1 : Int} {f2 : Bool} (h : IsS36 w0 W g f0 f1 f2) : g < W.heap.size := by
  obtain ⟨hb, hg⟩ := h
  exact blk_lt hb
theorem IsS36.ge {w0 W : World} {g : Nat} {f0 : Int} {f1 : Int} {f2 : Bool} (h : IsS36 w0 W g f0 f1 f2) : w0.heap.size ≤ g := by
  obtain ⟨hb, hg⟩ := h
  exact hg
theorem IsS36.ne_blk {w0 W : World} {g : Nat} {f0 : Int} {f1 : Int} {f2 : Bool} {a : Nat} {cs : Array Value} {t : TypeId} {fr : Nat × Nat} (h : IsS36 w0 W g f0 f1 f2) (hb2 : W.heap[a]? = some (.cells cs t fr)) (ht : t ≠ 36) : g ≠ a := by
  obtain ⟨hb, hg⟩ := h
  rintro rfl
  rw [hb] at hb2
  injection hb2 with hb2
  injection hb2 with _ ht2
  exact ht ht2.symm
theorem IsS36.far {w0 W : World} {g : Nat} {f0 : Int} {f1 : Int} {f2 : Bool} {p : Addr} (h : IsS36 w0 W g f0 f1 f2) (hne : g ≠ p.block) (u : Value) : IsS36 w0 (W.setCell p u) g f0 f1 f2 := by
  obtain ⟨hb, hg⟩ := h
  exact ⟨blk_far hb hne u, hg⟩
theorem cellS36_0 {W : World} {g : Nat} {f0 : Int} {f1 : Int} {f2 : Bool} (h : W.heap[g]? = some (.cells #[.int .i64 f0, .int .i64 f1, .bool f2] 36 (0, 0))) : W.cell? ⟨g, 0, none⟩ = some (.int .i64 f0) := (blk_cell h 0).trans rfl
theorem IsS36.set_0 {w0 W : World} {g : Nat} {f0 : Int} {f1 : Int} {f2 : Bool} (h : IsS36 w0 W g f0 f1 f2) (x : Int) : IsS36 w0 (W.setCell ⟨g, 0, none⟩ (.int .i64 x)) g x f1 f2 := by
  obtain ⟨hb, hg⟩ := h
  exact ⟨by simpa using blk_set hb 0 (.int .i64 x), hg⟩
theorem cellS36_1 {W : World} {g : Nat} {f0 : Int} {f1 : Int} {f2 : Bool} (h : W.heap[g]? = some (.cells #[.int .i64 f0, .int .i64 f1, .bool f2] 36 (0, 0))) : W.cell? ⟨g, 1, none⟩ = some (.int .i64 f1) := (blk_cell h 1).trans rfl
theorem IsS36.set_1 {w0 W : World} {g : Nat} {f0 : Int} {f1 : Int} {f2 : Bool} (h : IsS36 w0 W g f0 f1 f2) (x : Int) : IsS36 w0 (W.setCell ⟨g, 1, none⟩ (.int .i64 x)) g f0 x f2 := by
  obtain ⟨hb, hg⟩ := h
  exact ⟨by simpa using blk_set hb 1 (.int .i64 x), hg⟩
theorem cellS36_2 {W : World} {g : Nat} {f0 : Int} {f1 : Int} {f2 : Bool} (h : W.heap[g]? = some (.cells #[.int .i64 f0, .int .i64 f1, .bool f2] 36 (0, 0))) : W.cell? ⟨g, 2, none⟩ = some (.bool f2) := (blk_cell h 2).trans rfl
theorem IsS36.set_2 {w0 W : World} {g : Nat} {f0 : Int} {f1 : Int} {f2 : Bool} (h : IsS36 w0 W g f0 f1 f2) (x : Bool) : IsS36 w0 (W.setCell ⟨g, 2, none⟩ (.bool x)) g f0 f1 x := by
  obtain ⟨hb, hg⟩ := h
  exact ⟨by simpa using blk_set hb 2 (.bool x), hg⟩
theorem IsS36.new (w0 W : World) (f0 : Int) (f1 : Int) (f2 : Bool) (hB : Below w0.heap.size w0 W) : IsS36 w0 (W.alloc (.cells #[.int .i64 f0, .int .i64 f1, .bool f2] 36)) W.heap.size f0 f1 f2 := ⟨by simpa using heap_alloc_new W _, hB.size⟩

/-! ### sum_New: function 13 -/
def sum_New.f  : Option (Int × Int × Bool) := some (1, 0, true)
set_option maxHeartbeats 8000000 in
set_option maxRecDepth 100000 in
theorem sum_New.calls  (r1 : Int) (r2 : Int) (r3 : Bool) (w0 w : World) (hB : Below w0.heap.size w0 w) (h : sum_New.f  = some (r1, r2, r3)) :
    Calls Try.prog 13 #[] w fun e w' => ∃ g_ : Nat, e = .returned (.pointer (some ⟨g_, 0, none⟩)) ∧ IsS36 w0 w' g_ r1 r2 r3 ∧ Below w0.heap.size w0 w' ∧ Below w.heap.size w w' := by
  have hu36 := Try.underlying36
  have HBW := Aside0.mk (Below.refl w.heap.size w)
  have HW0 := Aside0.mk hB.size
  have HB := Aside0.mk hB
  clear hB
  have H : (some (1, 0, true)) = some (r1, r2, r3) := h
  clear h
  simp only [Option.some.injEq, Prod.mk.injEq] at H
  obtain ⟨rfl, rfl, rfl⟩ := H
  go_enter Try.func13, Try.ntmps13
  go_wp2_with (first | ((with_reducible refine gate_dst (N := 2) rfl ?_); refine box_event ?hg (N := 2) ?hd (cs := #[.int .i64 1, .int .i64 0, .bool true]) (t := 36) ?hr ?_; (case hd => rfl); (case hg => rfl); (case hr => first | (go_simp; done) | (go_simp; rfl)); intro gb101 hg w1 hbox hb; have n0_ := Aside0.mk (below_step HBW.out hb); have n1_ := Aside0.mk (below_step (by repeat (first | (with_reducible first | exact HB.out | apply below_alloc | apply pw_below_drewN | apply below_drew1) | exact HB.out)) hb); have n2_ := Aside0.mk (hbox); have n3_ := Aside0.mk ((by rw [hg]; exact (below_size (by repeat (first | (with_reducible first | exact HBW.out | apply below_alloc | apply pw_below_drewN | apply below_drew1) | exact HBW.out))) : w.heap.size ≤ gb101)); have n4_ := Aside0.mk ((Nat.le_trans HW0.out (by rw [hg]; exact (below_size (by repeat (first | (with_reducible first | exact HBW.out | apply below_alloc | apply pw_below_drewN | apply below_drew1) | exact HBW.out))) : w.heap.size ≤ gb101) : w0.heap.size ≤ gb101)); clear HBW; clear HB; have HBW := n0_; have HB := n1_; have BK101 := n2_; have GW101 := n3_; have GE101 := n4_; clear n0_ n1_ n2_ n3_ n4_; clear hb hbox hg))
  go_ret
  exact ⟨_, rfl, (show IsS36 w0 _ gb101 1 0 true from ⟨by (with_reducible repeat (first | refine blk_drewN ?_ _ | refine blk_drew ?_ | refine blk_alloc ?_ _)); exact BK101.out, GE101.out⟩), by repeat (first | (with_reducible first | exact HB.out | apply below_alloc | apply pw_below_drewN | apply below_drew1 | refine below_set ?_ GE101.out) | exact HB.out), by repeat (first | (with_reducible first | exact HBW.out | apply below_alloc | apply pw_below_drewN | apply below_drew1 | refine below_set ?_ GW101.out) | exact HBW.out)⟩

/-! ### sum_Adder_Sum: function 15 -/
def sum_Adder_Sum.f (s0_0 : Int) (s0_1 : Int) (s0_2 : Bool) : Option (Int × Int × Int × Bool) := if s0_2 = true then (some (Go.bits .or .i64 (wrap64 (s0_1 * 65536)) s0_0, s0_0, s0_1, s0_2)) else (some (0, s0_0, s0_1, s0_2))
set_option maxHeartbeats 8000000 in
set_option maxRecDepth 100000 in
theorem sum_Adder_Sum.calls (g : Nat) (s0_0 : Int) (s0_1 : Int) (s0_2 : Bool) (r1 : Int) (r2 : Int) (r3 : Int) (r4 : Bool) (w0 w : World) (hI : IsS36 w0 w g s0_0 s0_1 s0_2) (hB : Below w0.heap.size w0 w) (h : sum_Adder_Sum.f s0_0 s0_1 s0_2 = some (r1, r2, r3, r4)) :
    Calls Try.prog 15 #[.pointer (some ⟨g, 0, none⟩)] w fun e w' => e = .returned (.int .i64 r1) ∧ IsS36 w0 w' g r2 r3 r4 ∧ Below w0.heap.size w0 w' ∧ KeepBut w w' g none := by
  have hnpeql_31 : ∀ W_ : World, (binOp .eql 31 (.pointer (some ⟨g, 0, none⟩)) (.pointer none)).run Try.prog W_ = .ok (.bool false) W_ := fun W_ => by kernel_rfl
  have HI0 := Aside0.mk hI
  have HK := Aside0.mk (KeepBut.refl w g none)
  have HL := Aside0.mk hB.size
  clear hI
  have HW0 := Aside0.mk hB.size
  have HB := Aside0.mk hB
  clear hB
  have H : (if s0_2 = true then (some (Go.bits .or .i64 (wrap64 (s0_1 * 65536)) s0_0, s0_0, s0_1, s0_2)) else (some (0, s0_0, s0_1, s0_2))) = some (r1, r2, r3, r4) := h
  clear h
  by_cases c2 : s0_2 = true
  · subst c2
    have H1 : (some (Go.bits .or .i64 (wrap64 (s0_1 * 65536)) s0_0, s0_0, s0_1, true)) = some (r1, r2, r3, r4) := by rw [if_pos rfl] at H; exact H
    clear H
    have H := H1
    clear H1
    simp only [Option.some.injEq, Prod.mk.injEq] at H
    obtain ⟨rfl, rfl, rfl, rfl⟩ := H
    obtain ⟨HGz3, hgz3⟩ := HI0.out
    have hcz3_0 := cellS36_0 HGz3
    have hcz3_1 := cellS36_1 HGz3
    have hcz3_2 := cellS36_2 HGz3
    have hfz3_0 := blk_frozen HGz3 0
    have hfz3_1 := blk_frozen HGz3 1
    have hfz3_2 := blk_frozen HGz3 2
    clear HGz3 hgz3
    go_enter Try.func15, Try.ntmps15
    go_wp2
    repeat (go_quiet (fail); try go_wp2)
    go_ret
    exact ⟨by first | rfl | (simp [errW_none, errW_some] <;> rfl) | (simp [*, errW_none, errW_some] <;> rfl), by repeat (first | (with_reducible first | exact HI0.out | apply IsS36.alloc | apply IsS36.drewN | apply IsS36.drew | apply IsS36.set_0 | apply IsS36.set_1 | apply IsS36.set_2) | exact HI0.out), by repeat (first | (with_reducible first | exact HB.out | apply below_alloc | apply pw_below_drewN | apply below_drew1 | refine below_set ?_ (IsS36.ge HI0.out)) | exact HB.out), by repeat (first | (with_reducible first | exact HK.out | apply KeepBut.set_ | apply keep_drewN | apply keep_drew | apply keep_alloc) | exact HK.out)⟩
  · replace c2 := Bool.eq_false_iff.mpr c2
    subst c2
    have H1 : (some (0, s0_0, s0_1, false)) = some (r1, r2, r3, r4) := by rw [if_neg (show ¬ (false = true) by decide)] at H; exact H
    clear H
    have H := H1
    clear H1
    simp only [Option.some.injEq, Prod.mk.injEq] at H
    obtain ⟨rfl, rfl, rfl, rfl⟩ := H
    obtain ⟨HGz4, hgz4⟩ := HI0.out
    have hcz4_0 := cellS36_0 HGz4
    have hcz4_1 := cellS36_1 HGz4
    have hcz4_2 := cellS36_2 HGz4
    have hfz4_0 := blk_frozen HGz4 0
    have hfz4_1 := blk_frozen HGz4 1
    have hfz4_2 := blk_frozen HGz4 2
    clear HGz4 hgz4
    go_enter Try.func15, Try.ntmps15
    go_wp2
    repeat (go_quiet (fail); try go_wp2)
    go_ret
    exact ⟨by first | rfl | (simp [errW_none, errW_some] <;> rfl) | (simp [*, errW_none, errW_some] <;> rfl), by repeat (first | (with_reducible first | exact HI0.out | apply IsS36.alloc | apply IsS36.drewN | apply IsS36.drew | apply IsS36.set_0 | apply IsS36.set_1 | apply IsS36.set_2) | exact HI0.out), by repeat (first | (with_reducible first | exact HB.out | apply below_alloc | apply pw_below_drewN | apply below_drew1 | refine below_set ?_ (IsS36.ge HI0.out)) | exact HB.out), by repeat (first | (with_reducible first | exact HK.out | apply KeepBut.set_ | apply keep_drewN | apply keep_drew | apply keep_alloc) | exact HK.out)⟩

/-! ### sum_Adder_Add: function 14 -/
def sum_Adder_Add_one (a x : Int) : Int := Int.tmod (wrap64 (a + wrap64 x)) 65521
def sum_Adder_Add_two (b a : Int) : Int := Int.tmod (wrap64 (b + a)) 65521
def sum_Adder_Add_go : List Int → Int → Int → Int × Int
  | [], a, b => (a, b)
  | x :: xs, a, b => sum_Adder_Add_go xs (sum_Adder_Add_one a x) (sum_Adder_Add_two b (sum_Adder_Add_one a x))
set_option maxHeartbeats 8000000 in
set_option maxRecDepth 100000 in
theorem sum_Adder_Add_go_snoc : ∀ (l : List Int) (x a b : Int), sum_Adder_Add_go (l ++ [x]) a b = (sum_Adder_Add_one (sum_Adder_Add_go l a b).1 x, sum_Adder_Add_two (sum_Adder_Add_go l a b).2 (sum_Adder_Add_one (sum_Adder_Add_go l a b).1 x))
  | [], _, _, _ => rfl
  | y :: l, x, a, b => sum_Adder_Add_go_snoc l x _ _
set_option maxHeartbeats 8000000 in
set_option maxRecDepth 100000 in
theorem sum_Adder_Add_add (g : Nat) (A : Option Addr) (c : Nat) (l : List Int) (a b : Int) (w0 w : World) (hI : IsS36 w0 w g a b true) (hB : Below w0.heap.size w0 w) (hr : Kd.C (Kd.int .u8) w A l.length l) (hf : ∀ ad, A = some ad → 0 < l.length → ad.block ≠ g) :
    Calls Try.prog 14 #[.pointer (some ⟨g, 0, none⟩), .slice A l.length c] w fun e w' => e = .returned (.tuple #[]) ∧ IsS36 w0 w' g (sum_Adder_Add_go l a b).1 (sum_Adder_Add_go l a b).2 true ∧ Below w0.heap.size w0 w' ∧ KeepBut w w' g none := by
  have X : Hid (IsS36 w0 w g a b true ∧ Below w0.heap.size w0 w ∧ (∀ W, KeepBut w W g none → Kd.C (Kd.int .u8) W A l.length l) ∧ l.length ≤ 9223372036854775807) := ⟨hI, hB, fun W hk => Kd.C_keep (0 : Int) hr hk hf, hr.2.1⟩
  have c_2 := (blk_cell hI.1 2).trans rfl
  obtain ⟨K, hK⟩ : ∃ K, K = l.length := ⟨_, rfl⟩
  have HK : Hid (K = l.length) := hK
  rw [← hK]
  clear hI hB hr hK hf
  go_enter Try.func14, Try.ntmps14
  go_wp2
  go_loopw [17] (fun i wr => ∃ k : Nat, k ≤ K ∧ i = .int .i64 k ∧ IsS36 w0 wr g (sum_Adder_Add_go (l.take k) a b).1 (sum_Adder_Add_go (l.take k) a b).2 true ∧ Below w0.heap.size w0 wr ∧ KeepBut w wr g none) (fun i _ => K - (intOf i).toNat)
  case atStart => exact ⟨0, by omega, rfl, X.out.1, X.out.2.1, KeepBut.refl _ _ _⟩
  case round =>
    obtain ⟨k, hk, rfl, hI, hB, hKB⟩ := hrel
    by_cases hkK : k < K
    · have d : decide ((k : Int) < (K : Int)) = true := decide_eq_true (by omega)
      obtain ⟨ad, hA, hcell⟩ := Kd.at_int (X.out.2.2.1 wr hKB) (k : Int) (by omega) (by have := HK.out; omega)
      subst hA
      rw [Int.toNat_natCast] at hcell
      obtain ⟨pa, hpa⟩ : ∃ pa, pa = sum_Adder_Add_go (l.take k) a b := ⟨_, rfl⟩
      rw [← hpa] at hI
      obtain ⟨a0, b0⟩ := pa
      have Y : Hid (IsS36 w0 wr g a0 b0 true ∧ Below w0.heap.size w0 wr ∧ KeepBut w wr g none ∧ (a0, b0) = sum_Adder_Add_go (l.take k) a b) := ⟨hI, hB, hKB, hpa⟩
      have c_0 := (blk_cell hI.1 0).trans rfl
      have c_1 := (blk_cell hI.1 1).trans rfl
      have f_0 := blk_frozen hI.1 0
      clear hI hB hKB hpa
      go_wp2
      generalize ha1 : (wrap64 (a0 + wrap64 (rd l (k : Int)))).tmod 65521 = a1
      have hI2 : IsS36 w0 (wr.setCell ⟨g, 0, none⟩ (.int .i64 a1)) g a1 b0 true := IsS36.set_0 Y.out.1 a1
      have hB2 : Below w0.heap.size w0 (wr.setCell ⟨g, 0, none⟩ (.int .i64 a1)) := Below.setCell Y.out.2.1 Y.out.1.2 _
      have hK2 : KeepBut w (wr.setCell ⟨g, 0, none⟩ (.int .i64 a1)) g none := KeepBut.set_ Y.out.2.2.1 _ _
      clear c_0 c_1 f_0 hcell
      generalize wr.setCell ⟨g, 0, none⟩ (.int .i64 a1) = w2 at hI2 hB2 hK2 ⊢
      have Z : Hid (IsS36 w0 w2 g a1 b0 true ∧ Below w0.heap.size w0 w2 ∧ KeepBut w w2 g none ∧ (wrap64 (a0 + wrap64 (rd l (k : Int)))).tmod 65521 = a1) := ⟨hI2, hB2, hK2, ha1⟩
      have c_0 := (blk_cell hI2.1 0).trans rfl
      have c_1 := (blk_cell hI2.1 1).trans rfl
      have f_1 := blk_frozen hI2.1 1
      clear hI2 hB2 hK2 ha1
      go_still_tail 13, (by kernel_rfl)
      change wpList _ _ _ _ _ w2.drew
      have hI3 : IsS36 w0 w2.drew g a1 b0 true := IsS36.drew Z.out.1
      have hB3 : Below w0.heap.size w0 w2.drew := below_drew1 Z.out.2.1
      have hK3 : KeepBut w w2.drew g none := Z.out.2.2.1
      clear c_0 c_1 f_1
      generalize w2.drew = w3 at hI3 hB3 hK3 ⊢
      have c_1 := (blk_cell hI3.1 1).trans rfl
      have f_1 := blk_frozen hI3.1 1
      have V : Hid (IsS36 w0 w3 g a1 b0 true ∧ Below w0.heap.size w0 w3 ∧ KeepBut w w3 g none) := ⟨hI3, hB3, hK3⟩
      clear hI3 hB3 hK3
      go_wp2
      have hs : l.take (k + 1) = l.take k ++ [rd l k] := by
        have hkl : k < l.length := by rw [← HK.out]; exact hkK
        rw [List.take_add_one, rd, Int.toNat_natCast, List.getD_eq_getElem?_getD]
        simp [hkl]
      have hg : sum_Adder_Add_go (l.take (k + 1)) a b = (a1, (wrap64 (b0 + a1)).tmod 65521) := by
        rw [hs, sum_Adder_Add_go_snoc, ← Y.out.2.2.2]
        show (sum_Adder_Add_one a0 _, sum_Adder_Add_two b0 (sum_Adder_Add_one a0 _)) = _
        rw [show sum_Adder_Add_one a0 (rd l (k : Int)) = a1 from Z.out.2.2.2]
        rfl
      have hk1 : wrap64 ((k : Int) + 1) = ((k + 1 : Nat) : Int) := by have := X.out.2.2.2; have := HK.out; unfold wrap64; omega
      try rw [hk1]
      go_roundw
      case rel =>
        refine ⟨k + 1, by omega, by first | rfl | (congr 1; omega), ?_, Below.setCell V.out.2.1 V.out.1.2 _, KeepBut.set_ V.out.2.2 _ _⟩
        rw [hg]
        exact IsS36.set_1 V.out.1 ((wrap64 (b0 + a1)).tmod 65521)
      case measure => simp [intOf]; omega
    · have d : decide ((k : Int) < (K : Int)) = false := decide_eq_false (by omega)
      have hkk : k = K := by omega
      subst hkk
      have Y : Hid (IsS36 w0 wr g (sum_Adder_Add_go (l.take k) a b).1 (sum_Adder_Add_go (l.take k) a b).2 true ∧ Below w0.heap.size w0 wr ∧ KeepBut w wr g none) := ⟨hI, hB, hKB⟩
      clear hI hB hKB
      go_wp2
      go_end0
      refine ⟨rfl, ?_⟩
      have := Y.out
      rw [List.take_of_length_le (by rw [HK.out]; exact Nat.le_refl _)] at this
      exact this
def sum_Adder_Add.f (s0_0 : Int) (s0_1 : Int) (s0_2 : Bool) (l1 : List Int) : Option (Int × Int × Bool) := if s0_2 = true then some ((sum_Adder_Add_go l1 s0_0 s0_1).1, (sum_Adder_Add_go l1 s0_0 s0_1).2, true) else some (s0_0, s0_1, false)
set_option maxHeartbeats 8000000 in
set_option maxRecDepth 100000 in
theorem sum_Adder_Add.calls (g : Nat) (s0_0 : Int) (s0_1 : Int) (s0_2 : Bool) (A1 : Option Addr) (c1 : Nat) (l1 : List Int) (r1 : Int) (r2 : Int) (r3 : Bool) (w0 w : World) (hI : IsS36 w0 w g s0_0 s0_1 s0_2) (hB : Below w0.heap.size w0 w) (hr1 : Kd.C (Kd.int .u8) w A1 l1.length l1) (hc1 : l1.length ≤ c1) (hf1 : ∀ ad, A1 = some ad → 0 < l1.length → ad.block ≠ g) (h : sum_Adder_Add.f s0_0 s0_1 s0_2 l1 = some (r1, r2, r3)) :
    Calls Try.prog 14 #[.pointer (some ⟨g, 0, none⟩), .slice A1 l1.length c1] w fun e w' => e = .returned (.tuple #[]) ∧ IsS36 w0 w' g r1 r2 r3 ∧ Below w0.heap.size w0 w' ∧ KeepBut w w' g none := by
  unfold sum_Adder_Add.f at h
  cases s0_2
  · rw [if_neg (by decide)] at h
    simp only [Option.some.injEq, Prod.mk.injEq] at h
    obtain ⟨rfl, rfl, rfl⟩ := h
    have X : Hid (IsS36 w0 w g s0_0 s0_1 false ∧ Below w0.heap.size w0 w) := ⟨hI, hB⟩
    have c_2 := (blk_cell hI.1 2).trans rfl
    clear hI hB hr1 hc1 hf1
    go_enter Try.func14, Try.ntmps14
    go_wp2
    (try simp only [Exit.inBlock, Exit.then])
    first | refine bodyPost_ret (results_none rfl _ _ _) rfl ?_ | refine bodyPost_end (results_none rfl _ _ _) rfl ?_
    exact ⟨rfl, X.out.1, X.out.2, KeepBut.refl _ _ _⟩
  · rw [if_pos rfl] at h
    simp only [Option.some.injEq, Prod.mk.injEq] at h
    obtain ⟨rfl, rfl, rfl⟩ := h
    exact sum_Adder_Add_add g A1 c1 l1 s0_0 s0_1 w0 w hI hB hr1 hf1

/-! ### sum_Of: function 9 -/
theorem sum_Of_lt {w : World} {ad : Addr} {A : Option Addr} {n : Nat} {l : List Int} {k : IntKind} (h : Kd.C (Kd.int k) w A n l) (hA : A = some ad) (hp : 0 < n) : ad.block < w.heap.size := by
  obtain ⟨ad2, h2, hc⟩ := Kd.at_int h 0 (by omega) (by omega)
  rw [hA] at h2
  obtain rfl := Option.some.inj h2
  have := Go.block_lt_of_cell hc
  simpa [Addr.add] using this
set_option maxHeartbeats 8000000 in
set_option maxRecDepth 100000 in
theorem sum_Of_feed (g : Nat) (A : Option Addr) (c : Nat) (l : List Int) (a b : Int) (w0 w : World) (hI : IsS36 w0 w g a b true) (hB : Below w0.heap.size w0 w) (hr : Kd.C (Kd.int .u8) w0 A l.length l) :
    Calls Try.prog 18 #[.func (.func 14) #[.pointer (some ⟨g, 0, none⟩)] #[], .slice A l.length c] w fun e w' => e = .returned (.tuple #[]) ∧ IsS36 w0 w' g (sum_Adder_Add_go l a b).1 (sum_Adder_Add_go l a b).2 true ∧ Below w0.heap.size w0 w' ∧ KeepBut w w' g none := by
  have X : Hid (IsS36 w0 w g a b true ∧ Below w0.heap.size w0 w ∧ Kd.C (Kd.int .u8) w0 A l.length l) := ⟨hI, hB, hr⟩
  clear hI hB hr
  go_enter Try.func18, Try.ntmps18
  go_wp2_with fail
  go_at_call 14
  refine (sum_Adder_Add_add g A c l a b w0 _ X.out.1 X.out.2.1 (Kd.C_below X.out.2.2 X.out.2.1) (fun ad hA hp => by have := sum_Of_lt (X.out.2.2) hA hp; have := X.out.1.2; omega)).mono ?_
  rintro e w2 ⟨rfl, hQ⟩
  have HQ : Hid (IsS36 w0 w2 g (sum_Adder_Add_go l a b).1 (sum_Adder_Add_go l a b).2 true ∧ Below w0.heap.size w0 w2 ∧ KeepBut w w2 g none) := hQ
  clear hQ
  go_wp2
  go_end0
  exact ⟨rfl, HQ.out⟩
def sum_Of.f (l0 : List Int) : Option Int := some (Go.bits .or .i64 (wrap64 ((sum_Adder_Add_go l0 1 0).2 * 65536)) (sum_Adder_Add_go l0 1 0).1)
set_option maxHeartbeats 8000000 in
set_option maxRecDepth 100000 in
theorem sum_Of.calls (A0 : Option Addr) (c0 : Nat) (l0 : List Int) (r : Int) (w : World) (hr0 : Kd.C (Kd.int .u8) w A0 l0.length l0) (hc0 : l0.length ≤ c0) (h : sum_Of.f l0 = some r) :
    Calls Try.prog 9 #[.slice A0 l0.length c0] w fun e w' => e = .returned (.int .i64 r) ∧ Below w.heap.size w w' := by
  have X : Hid (Kd.C (Kd.int .u8) w A0 l0.length l0 ∧ sum_Of.f l0 = some r) := ⟨hr0, h⟩
  clear hr0 hc0 h
  go_enter Try.func9, Try.ntmps9
  go_wp2_with fail
  go_at_call 13
  refine (sum_New.calls 1 0 true w _ (Below.refl _ _) rfl).mono ?_
  rintro e w1 ⟨g, rfl, hI1, hB1, _⟩
  have X1 : Hid (IsS36 w w1 g 1 0 true ∧ Below w.heap.size w w1) := ⟨hI1, hB1⟩
  clear hI1 hB1
  go_wp2_with fail
  go_at_call 18
  refine (sum_Of_feed g A0 c0 l0 1 0 w _ X1.out.1 X1.out.2 X.out.1).mono ?_
  rintro e w2 ⟨rfl, hI2, hB2, hK2⟩
  have X2 : Hid (IsS36 w w2 g (sum_Adder_Add_go l0 1 0).1 (sum_Adder_Add_go l0 1 0).2 true ∧ Below w.heap.size w w2) := ⟨hI2, hB2⟩
  clear hI2 hB2 hK2
  go_wp2_with fail
  go_at_call 15
  refine (sum_Adder_Sum.calls g _ _ true _ _ _ _ w _ X2.out.1 X2.out.2 rfl).mono ?_
  rintro e w3 ⟨rfl, hI3, hB3, _⟩
  have hr : Go.bits .or .i64 (wrap64 ((sum_Adder_Add_go l0 1 0).2 * 65536)) (sum_Adder_Add_go l0 1 0).1 = r := Option.some.inj X.out.2
  have HB3 : Hid (Below w.heap.size w w3 ∧ Go.bits .or .i64 (wrap64 ((sum_Adder_Add_go l0 1 0).2 * 65536)) (sum_Adder_Add_go l0 1 0).1 = r) := ⟨hB3, hr⟩
  clear hI3 hB3 hr
  go_wp2
  go_ret
  exact ⟨by show Ending.returned (.int .i64 _) = _; rw [HB3.out.2], HB3.out.1⟩

/-- A reader at block g of W; its bytes are a row of its own. -/
def IsS45 (w0 W : World) (g : Nat) (f0 : List Int) (f1 : Int) (f2 : Bool) (f3 : Bool) : Prop := ∃ A0 c0, W.heap[g]? = some (.cells #[.slice A0 f0.length c0, .int .i64 f1, .bool f2, .bool f3] 45 (0, 0)) ∧ w0.heap.size ≤ g ∧ Kd.R (Kd.int .u8) 5 W w0.heap.size (fun _ => True) (.slice A0 f0.length c0) f0
def NoBytes45 (W : World) (row : Option Nat) : Prop := ∀ k, row = some k → ∀ cells fr, W.heap[k]? ≠ some (.cells cells 5 fr)
section
variable {w0 W W1 : World} {g : Nat} {f0 : List Int} {f1 : Int} {f2 f3 : Bool} {row : Option Nat}
theorem IsS45.grown (h : IsS45 w0 W g f0 f1 f2 f3) (hw : W.grownBy W1 row) (hne : some g ≠ row ∧ NoBytes45 W row) : IsS45 w0 W1 g f0 f1 f2 f3 := by
  obtain ⟨A0, c0, hb, hg, hr⟩ := h
  refine ⟨A0, c0, blk_grown hb hw hne.1, hg, Kd.R_mono (Kd.R_grown (Kd.R_bound hr) hw ?_) (fun _ _ => trivial)⟩
  rintro k ⟨_, _, _, q, hq, cells, hc⟩ he
  have hq' : q = 5 := by simpa [Kd.int, Kd.scalar] using hq
  subst hq'
  exact hne.2 k he.symm cells _ hc
theorem IsS45.below (h : IsS45 w0 W g f0 f1 f2 f3) (hw : Below W.heap.size W W1) : IsS45 w0 W1 g f0 f1 f2 f3 := by
  obtain ⟨A0, c0, hb, hg, hr⟩ := h
  exact ⟨A0, c0, (hw.block g (blk_lt hb)).trans hb, hg, Kd.R_below hr hw⟩
theorem IsS45.alloc (h : IsS45 w0 W g f0 f1 f2 f3) (o : Obj) : IsS45 w0 (W.alloc o) g f0 f1 f2 f3 := h.below (below_alloc (Below.refl _ _) o)
theorem IsS45.drewN (h : IsS45 w0 W g f0 f1 f2 f3) (m : Nat) : IsS45 w0 (W.drewN m) g f0 f1 f2 f3 := h.below (pw_below_drewN (Below.refl _ _) m)
theorem IsS45.drew (h : IsS45 w0 W g f0 f1 f2 f3) : IsS45 w0 W.drew g f0 f1 f2 f3 := h.below (below_drew (Below.refl _ _))
theorem IsS45.at_ {w' : World} {m : Nat} (hq : W.drewN m = w') (h : IsS45 w0 W g f0 f1 f2 f3) : IsS45 w0 w' g f0 f1 f2 f3 := by subst hq; exact IsS45.drewN h m
theorem IsS45.fresh (h : IsS45 w0 W g f0 f1 f2 f3) : ∀ k, W.heap.size ≤ k → k ≠ g := by
  obtain ⟨A0, c0, hb, hg, hr⟩ := h
  exact Kd.freshB hb
theorem IsS45.apart {α : Type} {d : Kd α} {e : Nat} {base : Nat} {ok : Nat → Prop} {v : Value} {xs : List α} (h : IsS45 w0 W g f0 f1 f2 f3) (ho : d.R e W base ok v xs) (ht : ∀ q, q ∈ e :: d.E → q ≠ 45) : d.R e W base (fun k => ok k ∧ k ≠ g) v xs := by
  obtain ⟨A0, c0, hb, hg, hr⟩ := h
  exact Kd.R_types ho hb ht
theorem IsS45.apartS {α : Type} {d : Kd α} {e : Nat} {base : Nat} {ok : Nat → Prop} {v : Value} {xs : List α} (h : IsS45 w0 W g f0 f1 f2 f3) (ho : d.S e W base ok v xs) (ht : ∀ q, q ∈ e :: d.E → q ≠ 45) : d.S e W base (fun k => ok k ∧ k ≠ g) v xs := by
  obtain ⟨A0, c0, hb, hg, hr⟩ := h
  exact Kd.S_types ho hb ht
theorem noBytes45_R {α : Type} {d : Kd α} {e : Nat} {base : Nat} {ok : Nat → Prop} {v : Value} {xs : List α} (ho : d.R e W base ok v xs) (ht : e ≠ 5) : NoBytes45 W v.ownBlock := by
  intro k hk cells fr hc
  obtain ⟨inner, hown⟩ := Kd.R_own ho
  obtain ⟨cells2, hc2⟩ := own_typed hown k hk
  rw [hc] at hc2
  injection hc2 with hc2
  injection hc2 with _ h2
  exact ht h2.symm
theorem IsS45.own_ne {α : Type} {d : Kd α} {e : Nat} {base : Nat} {ok : Nat → Prop} {v : Value} {xs : List α} (h : IsS45 w0 W g f0 f1 f2 f3) (ho : d.R e W base ok v xs) (ht : e ≠ 45 ∧ e ≠ 5) : some g ≠ v.ownBlock ∧ NoBytes45 W v.ownBlock := by
  obtain ⟨A0, c0, hb, hg, hr⟩ := h
  exact ⟨Kd.R_ne ho hb ht.1, noBytes45_R ho ht.2⟩
theorem IsS45.own_neS {α : Type} {d : Kd α} {e : Nat} {base : Nat} {ok : Nat → Prop} {v : Value} {xs : List α} (h : IsS45 w0 W g f0 f1 f2 f3) (ho : d.S e W base ok v xs) (ht : e ≠ 45 ∧ e ≠ 5) : some g ≠ v.ownBlock ∧ NoBytes45 W v.ownBlock := by
  obtain ⟨A0, c0, hb, hg, hr⟩ := h
  exact ⟨Kd.S_ne ho hb ht.1, noBytes45_R (Kd.S_R ho) ht.2⟩
theorem IsS45.lt (h : IsS45 w0 W g f0 f1 f2 f3) : g < W.heap.size := by
  obtain ⟨A0, c0, hb, hg, hr⟩ := h
  exact blk_lt hb
theorem IsS45.ge (h : IsS45 w0 W g f0 f1 f2 f3) : w0.heap.size ≤ g := by
  obtain ⟨A0, c0, hb, hg, hr⟩ := h
  exact hg
theorem IsS45.ne_blk {a : Nat} {cs : Array Value} {t : TypeId} {fr : Nat × Nat} (h : IsS45 w0 W g f0 f1 f2 f3) (hb2 : W.heap[a]? = some (.cells cs t fr)) (ht : t ≠ 45) : g ≠ a := by
  obtain ⟨A0, c0, hb, hg, hr⟩ := h
  rintro rfl
  rw [hb] at hb2
  injection hb2 with hb2
  injection hb2 with _ ht2
  exact ht ht2.symm
theorem IsS45.far {p : Addr} (h : IsS45 w0 W g f0 f1 f2 f3) (hne : g ≠ p.block ∧ NoBytes45 W (some p.block)) (u : Value) : IsS45 w0 (W.setCell p u) g f0 f1 f2 f3 := by
  obtain ⟨A0, c0, hb, hg, hr⟩ := h
  refine ⟨A0, c0, blk_far hb hne.1 u, hg, Kd.R_mono (Kd.R_far (Kd.R_bound hr) ?_ u) (fun _ _ => trivial)⟩
  rintro k ⟨_, _, _, q, hq, cells, hc⟩ he
  have hq' : q = 5 := by simpa [Kd.int, Kd.scalar] using hq
  subst hq'
  exact hne.2 k (by rw [he]) cells _ hc
theorem cellS45_0 {A0 : Option Addr} {c0 : Nat} (h : W.heap[g]? = some (.cells #[.slice A0 f0.length c0, .int .i64 f1, .bool f2, .bool f3] 45 (0, 0))) : W.cell? ⟨g, 0, none⟩ = some (.slice A0 f0.length c0) := (blk_cell h 0).trans rfl
theorem cellS45_1 {A0 : Option Addr} {c0 : Nat} (h : W.heap[g]? = some (.cells #[.slice A0 f0.length c0, .int .i64 f1, .bool f2, .bool f3] 45 (0, 0))) : W.cell? ⟨g, 1, none⟩ = some (.int .i64 f1) := (blk_cell h 1).trans rfl
theorem cellS45_2 {A0 : Option Addr} {c0 : Nat} (h : W.heap[g]? = some (.cells #[.slice A0 f0.length c0, .int .i64 f1, .bool f2, .bool f3] 45 (0, 0))) : W.cell? ⟨g, 2, none⟩ = some (.bool f2) := (blk_cell h 2).trans rfl
theorem cellS45_3 {A0 : Option Addr} {c0 : Nat} (h : W.heap[g]? = some (.cells #[.slice A0 f0.length c0, .int .i64 f1, .bool f2, .bool f3] 45 (0, 0))) : W.cell? ⟨g, 3, none⟩ = some (.bool f3) := (blk_cell h 3).trans rfl
theorem IsS45.set_1 (h : IsS45 w0 W g f0 f1 f2 f3) (x : Int) : IsS45 w0 (W.setCell ⟨g, 1, none⟩ (.int .i64 x)) g f0 x f2 f3 := by
  obtain ⟨A0, c0, hb, hg, hr⟩ := h
  exact ⟨A0, c0, by simpa using blk_set hb 1 (.int .i64 x), hg, Kd.R_set hr hb (by decide) 1 _⟩
theorem IsS45.set_2 (h : IsS45 w0 W g f0 f1 f2 f3) (x : Bool) : IsS45 w0 (W.setCell ⟨g, 2, none⟩ (.bool x)) g f0 f1 x f3 := by
  obtain ⟨A0, c0, hb, hg, hr⟩ := h
  exact ⟨A0, c0, by simpa using blk_set hb 2 (.bool x), hg, Kd.R_set hr hb (by decide) 2 _⟩
theorem IsS45.set_3 (h : IsS45 w0 W g f0 f1 f2 f3) (x : Bool) : IsS45 w0 (W.setCell ⟨g, 3, none⟩ (.bool x)) g f0 f1 f2 x := by
  obtain ⟨A0, c0, hb, hg, hr⟩ := h
  exact ⟨A0, c0, by simpa using blk_set hb 3 (.bool x), hg, Kd.R_set hr hb (by decide) 3 _⟩
end

/-! ### octet_Reader_Bad: function 23 -/
def octet_Reader_Bad.f (s0_0 : List Int) (s0_1 : Int) (s0_2 : Bool) (s0_3 : Bool) : Option (Bool × Int × Bool × Bool) := if s0_2 = true then (some (s0_3, s0_1, s0_2, s0_3)) else (some (true, s0_1, s0_2, s0_3))
set_option maxHeartbeats 8000000 in
set_option maxRecDepth 100000 in
theorem octet_Reader_Bad.calls (g : Nat) (s0_0 : List Int) (s0_1 : Int) (s0_2 : Bool) (s0_3 : Bool) (r1 : Bool) (r2 : Int) (r3 : Bool) (r4 : Bool) (w0 w : World) (hI : IsS45 w0 w g s0_0 s0_1 s0_2 s0_3) (hB : Below w0.heap.size w0 w) (h : octet_Reader_Bad.f s0_0 s0_1 s0_2 s0_3 = some (r1, r2, r3, r4)) :
    Calls Try.prog 23 #[.pointer (some ⟨g, 0, none⟩)] w fun e w' => e = .returned (.bool r1) ∧ IsS45 w0 w' g s0_0 r2 r3 r4 ∧ Below w0.heap.size w0 w' ∧ KeepBut w w' g none := by
  have hnpeql_38 : ∀ W_ : World, (binOp .eql 38 (.pointer (some ⟨g, 0, none⟩)) (.pointer none)).run Try.prog W_ = .ok (.bool false) W_ := fun W_ => by kernel_rfl
  have HI0 := Aside0.mk hI
  have HK := Aside0.mk (KeepBut.refl w g none)
  have HL := Aside0.mk hB.size
  clear hI
  have HW0 := Aside0.mk hB.size
  have HB := Aside0.mk hB
  clear hB
  have H : (if s0_2 = true then (some (s0_3, s0_1, s0_2, s0_3)) else (some (true, s0_1, s0_2, s0_3))) = some (r1, r2, r3, r4) := h
  clear h
  by_cases c2 : s0_2 = true
  · subst c2
    have H1 : (some (s0_3, s0_1, true, s0_3)) = some (r1, r2, r3, r4) := by rw [if_pos rfl] at H; exact H
    clear H
    have H := H1
    clear H1
    simp only [Option.some.injEq, Prod.mk.injEq] at H
    obtain ⟨rfl, rfl, rfl, rfl⟩ := H
    obtain ⟨ASz3_0, cSz3_0, HGz3, hgz3, HSz3_0⟩ := HI0.out
    have hcz3_0 := cellS45_0 HGz3
    have hcz3_1 := cellS45_1 HGz3
    have hcz3_2 := cellS45_2 HGz3
    have hcz3_3 := cellS45_3 HGz3
    have hfz3_1 := blk_frozen HGz3 1
    have hfz3_2 := blk_frozen HGz3 2
    have hfz3_3 := blk_frozen HGz3 3
    clear HGz3 hgz3
    go_enter Try.func23, Try.ntmps23
    go_wp2
    go_ret
    exact ⟨by first | rfl | (simp [errW_none, errW_some] <;> rfl) | (simp [*, errW_none, errW_some] <;> rfl), by repeat (first | (with_reducible first | exact HI0.out | apply IsS45.alloc | apply IsS45.drewN | apply IsS45.drew | apply IsS45.set_1 | apply IsS45.set_2 | apply IsS45.set_3) | exact HI0.out), by repeat (first | (with_reducible first | exact HB.out | apply below_alloc | apply pw_below_drewN | apply below_drew1 | refine below_set ?_ (IsS45.ge HI0.out)) | exact HB.out), by repeat (first | (with_reducible first | exact HK.out | apply KeepBut.set_ | apply keep_drewN | apply keep_drew | apply keep_alloc) | exact HK.out)⟩
  · replace c2 := Bool.eq_false_iff.mpr c2
    subst c2
    have H1 : (some (true, s0_1, false, s0_3)) = some (r1, r2, r3, r4) := by rw [if_neg (show ¬ (false = true) by decide)] at H; exact H
    clear H
    have H := H1
    clear H1
    simp only [Option.some.injEq, Prod.mk.injEq] at H
    obtain ⟨rfl, rfl, rfl, rfl⟩ := H
    obtain ⟨ASz4_0, cSz4_0, HGz4, hgz4, HSz4_0⟩ := HI0.out
    have hcz4_0 := cellS45_0 HGz4
    have hcz4_1 := cellS45_1 HGz4
    have hcz4_2 := cellS45_2 HGz4
    have hcz4_3 := cellS45_3 HGz4
    have hfz4_1 := blk_frozen HGz4 1
    have hfz4_2 := blk_frozen HGz4 2
    have hfz4_3 := blk_frozen HGz4 3
    clear HGz4 hgz4
    go_enter Try.func23, Try.ntmps23
    go_wp2
    go_ret
    exact ⟨by first | rfl | (simp [errW_none, errW_some] <;> rfl) | (simp [*, errW_none, errW_some] <;> rfl), by repeat (first | (with_reducible first | exact HI0.out | apply IsS45.alloc | apply IsS45.drewN | apply IsS45.drew | apply IsS45.set_1 | apply IsS45.set_2 | apply IsS45.set_3) | exact HI0.out), by repeat (first | (with_reducible first | exact HB.out | apply below_alloc | apply pw_below_drewN | apply below_drew1 | refine below_set ?_ (IsS45.ge HI0.out)) | exact HB.out), by repeat (first | (with_reducible first | exact HK.out | apply KeepBut.set_ | apply keep_drewN | apply keep_drew | apply keep_alloc) | exact HK.out)⟩

/-! ### octet_New: function 16 -/
set_option maxHeartbeats 8000000 in
theorem octet_New_info : (Try.prog.info? 5).map (fun i => (i.zero, i.size, i.bytes)) = some (some (.int .u8 0), 1, 1) := by kernel_rfl
def octet_New.f (l0 : List Int) : Option (List Int × Int × Bool × Bool) := if l0.length < 140737488355328 then some (l0, 0, true, false) else none
set_option maxHeartbeats 8000000 in
set_option maxRecDepth 100000 in
theorem octet_New.calls (A0 : Option Addr) (c0 : Nat) (l0 : List Int) (r1 : List Int) (r2 : Int) (r3 : Bool) (r4 : Bool) (w0 w : World) (hB : Below w0.heap.size w0 w) (hr0 : Kd.C (Kd.int .u8) w A0 l0.length l0) (hc0 : l0.length ≤ c0) (h : octet_New.f l0 = some (r1, r2, r3, r4)) :
    Calls Try.prog 16 #[.slice A0 l0.length c0] w fun e w' => ∃ g_ : Nat, e = .returned (.pointer (some ⟨g_, 0, none⟩)) ∧ IsS45 w0 w' g_ r1 r2 r3 r4 ∧ Below w0.heap.size w0 w' ∧ Below w.heap.size w w' := by
  unfold octet_New.f at h
  by_cases hcap : l0.length < 140737488355328
  case neg => rw [if_neg hcap] at h; cases h
  rw [if_pos hcap] at h
  simp only [Option.some.injEq, Prod.mk.injEq] at h
  obtain ⟨rfl, rfl, rfl, rfl⟩ := h
  have A : Hid (l0.length < 140737488355328 ∧ Kd.C (Kd.int .u8) w A0 l0.length l0) := ⟨hcap, hr0⟩
  have XB : Hid (Below w0.heap.size w0 w) := hB
  clear hcap hr0 hc0 hB
  go_enter Try.func16, Try.ntmps16
  go_wp2_with (first | ((with_reducible refine gate_dst (N := 3) rfl ?_); refine Kd.R_lit (Kd.int .u8) _ 5 ?hg (N := 3) ?hd (xs := ([] : List Int)) (inner := []) (ok := fun _ => True) (okp := fun _ => True) ?hr ?hp (fun _ hk => hk) trivial (Below.refl _ _) (Nat.le_refl _) (by simp) ?_; (case hd => rfl); (case hg => rfl); (case hr => first | (go_simp; done) | (go_simp; rfl)); (case hp => exact (Reps.none _ _)); intro v1 w1 ho hb hg_ hnew_; clear hg_ hnew_; have O1 : Hid (Kd.R (Kd.int .u8) 5 w1 w.heap.size (fun _ => True) v1 [] ∧ Below w.heap.size w w1) := ⟨ho, hb⟩; clear ho hb) | ((with_reducible refine gate_builtin (b := .append) (xs := #[.tmp 3, .tmp 4]) rfl ?_); at_builtin; refine Kd.R_append_rows (Kd.int .u8) (w0 := w) w.heap.size rfl (.tmp 3) (.tmp 4) 22 5 (.int .u8 0) 1 rfl Try.underlying22 octet_New_info rfl (by decide) (by omega) v1 [] l0 _ _ _ (fun _ => True) (fun _ => False) rfl rfl O1.out.1 (Kd.C_below A.out.2 O1.out.2) (fun _ _ h => h) (fun _ h => h.elim) (fun _ _ => trivial) O1.out.2 O1.out.2.size (by have := A.out.1; simp; omega) ?_; intro v2 w2 ho hb hg hat; have O2 : Hid (Kd.R (Kd.int .u8) 5 w2 w.heap.size (fun _ => True) v2 l0 ∧ Below w.heap.size w w2) := ⟨by simpa using ho, hb⟩; clear ho hb hg hat; obtain ⟨A2, c2, hv2⟩ := Kd.R_slice O2.out.1; subst hv2))
  go_ret
  have hB2 : Below w0.heap.size w0 w2 := XB.out.trans (O2.out.2.mono XB.out.size)
  refine ⟨w2.heap.size, rfl, ⟨A2, c2, by simpa using Go.heap_alloc_new w2 _, hB2.size, Kd.R_lower (Kd.R_alloc O2.out.1 _) XB.out.size⟩, below_alloc hB2 _, below_alloc O2.out.2 _⟩

/-! ### octet_Reader_Left: function 24 -/
def octet_Reader_Left.f (s0_0 : List Int) (s0_1 : Int) (s0_2 : Bool) (s0_3 : Bool) : Option (Int × Int × Bool × Bool) := some (wrap64 ((s0_0.length : Int) - s0_1), s0_1, s0_2, s0_3)
set_option maxHeartbeats 8000000 in
set_option maxRecDepth 100000 in
theorem octet_Reader_Left.calls (g : Nat) (s0_0 : List Int) (s0_1 : Int) (s0_2 : Bool) (s0_3 : Bool) (r1 : Int) (r2 : Int) (r3 : Bool) (r4 : Bool) (w0 w : World) (hI : IsS45 w0 w g s0_0 s0_1 s0_2 s0_3) (hB : Below w0.heap.size w0 w) (h : octet_Reader_Left.f s0_0 s0_1 s0_2 s0_3 = some (r1, r2, r3, r4)) :
    Calls Try.prog 24 #[.pointer (some ⟨g, 0, none⟩)] w fun e w' => e = .returned (.int .i64 r1) ∧ IsS45 w0 w' g s0_0 r2 r3 r4 ∧ Below w0.heap.size w0 w' ∧ KeepBut w w' g none := by
  have hnpeql_38 : ∀ W_ : World, (binOp .eql 38 (.pointer (some ⟨g, 0, none⟩)) (.pointer none)).run Try.prog W_ = .ok (.bool false) W_ := fun W_ => by kernel_rfl
  have HI0 := Aside0.mk hI
  have HK := Aside0.mk (KeepBut.refl w g none)
  have HL := Aside0.mk hB.size
  clear hI
  have HW0 := Aside0.mk hB.size
  have HB := Aside0.mk hB
  clear hB
  have H : (some (wrap64 ((s0_0.length : Int) - s0_1), s0_1, s0_2, s0_3)) = some (r1, r2, r3, r4) := h
  clear h
  simp only [Option.some.injEq, Prod.mk.injEq] at H
  obtain ⟨rfl, rfl, rfl, rfl⟩ := H
  obtain ⟨ASz2_0, cSz2_0, HGz2, hgz2, HSz2_0⟩ := HI0.out
  have hcz2_0 := cellS45_0 HGz2
  have hcz2_1 := cellS45_1 HGz2
  have hcz2_2 := cellS45_2 HGz2
  have hcz2_3 := cellS45_3 HGz2
  have hfz2_1 := blk_frozen HGz2 1
  have hfz2_2 := blk_frozen HGz2 2
  have hfz2_3 := blk_frozen HGz2 3
  clear HGz2 hgz2
  go_enter Try.func24, Try.ntmps24
  go_wp2
  repeat (go_quiet (fail); try go_wp2)
  go_ret
  exact ⟨by first | rfl | (simp [errW_none, errW_some] <;> rfl) | (simp [*, errW_none, errW_some] <;> rfl), by repeat (first | (with_reducible first | exact HI0.out | apply IsS45.alloc | apply IsS45.drewN | apply IsS45.drew | apply IsS45.set_1 | apply IsS45.set_2 | apply IsS45.set_3) | exact HI0.out), by repeat (first | (with_reducible first | exact HB.out | apply below_alloc | apply pw_below_drewN | apply below_drew1 | refine below_set ?_ (IsS45.ge HI0.out)) | exact HB.out), by repeat (first | (with_reducible first | exact HK.out | apply KeepBut.set_ | apply keep_drewN | apply keep_drew | apply keep_alloc) | exact HK.out)⟩

/-! ### octet_Reader_spoil: function 25 -/
def octet_Reader_spoil.f (s0_0 : List Int) (s0_1 : Int) (s0_2 : Bool) (s0_3 : Bool) : Option (Int × Bool × Bool) := some (s0_1, s0_2, true)
set_option maxHeartbeats 8000000 in
set_option maxRecDepth 100000 in
theorem octet_Reader_spoil.calls (g : Nat) (s0_0 : List Int) (s0_1 : Int) (s0_2 : Bool) (s0_3 : Bool) (r1 : Int) (r2 : Bool) (r3 : Bool) (w0 w : World) (hI : IsS45 w0 w g s0_0 s0_1 s0_2 s0_3) (hB : Below w0.heap.size w0 w) (h : octet_Reader_spoil.f s0_0 s0_1 s0_2 s0_3 = some (r1, r2, r3)) :
    Calls Try.prog 25 #[.pointer (some ⟨g, 0, none⟩)] w fun e w' => e = .returned (.tuple #[]) ∧ IsS45 w0 w' g s0_0 r1 r2 r3 ∧ Below w0.heap.size w0 w' ∧ KeepBut w w' g none := by
  have hnpneq_38 : ∀ W_ : World, (binOp .neq 38 (.pointer (some ⟨g, 0, none⟩)) (.pointer none)).run Try.prog W_ = .ok (.bool true) W_ := fun W_ => by kernel_rfl
  have HI0 := Aside0.mk hI
  have HK := Aside0.mk (KeepBut.refl w g none)
  have HL := Aside0.mk hB.size
  clear hI
  have HW0 := Aside0.mk hB.size
  have HB := Aside0.mk hB
  clear hB
  have H : (some (s0_1, s0_2, true)) = some (r1, r2, r3) := h
  clear h
  simp only [Option.some.injEq, Prod.mk.injEq] at H
  obtain ⟨rfl, rfl, rfl⟩ := H
  obtain ⟨ASz2_0, cSz2_0, HGz2, hgz2, HSz2_0⟩ := HI0.out
  have hcz2_0 := cellS45_0 HGz2
  have hcz2_1 := cellS45_1 HGz2
  have hcz2_2 := cellS45_2 HGz2
  have hcz2_3 := cellS45_3 HGz2
  have hfz2_1 := blk_frozen HGz2 1
  have hfz2_2 := blk_frozen HGz2 2
  have hfz2_3 := blk_frozen HGz2 3
  clear HGz2 hgz2
  go_enter Try.func25, Try.ntmps25
  go_wp2
  first | go_end0 | ((try simp only [Exit.inBlock, Exit.then]); refine bodyPost_ret (results_none rfl _ _ _) rfl ?_)
  exact ⟨by first | rfl | (simp [errW_none, errW_some] <;> rfl) | (simp [*, errW_none, errW_some] <;> rfl), by repeat (first | (with_reducible first | exact HI0.out | apply IsS45.alloc | apply IsS45.drewN | apply IsS45.drew | apply IsS45.set_1 | apply IsS45.set_2 | apply IsS45.set_3) | exact HI0.out), by repeat (first | (with_reducible first | exact HB.out | apply below_alloc | apply pw_below_drewN | apply below_drew1 | refine below_set ?_ (IsS45.ge HI0.out)) | exact HB.out), by repeat (first | (with_reducible first | exact HK.out | apply KeepBut.set_ | apply keep_drewN | apply keep_drew | apply keep_alloc) | exact HK.out)⟩

/-! ### octet_Reader_Num: function 17 -/
set_option maxHeartbeats 8000000 in
set_option maxRecDepth 100000 in
theorem octet_Reader_Num_keepTrans {w w1 w2 : World} {g : Nat} (h1 : KeepBut w w1 g none) (h2 : KeepBut w1 w2 g none) : KeepBut w w2 g none :=
  ⟨Nat.le_trans h1.1 h2.1, fun i hi hg hr => (h2.2 i (Nat.lt_of_lt_of_le hi h1.1) hg hr).trans (h1.2 i hi hg hr)⟩
set_option maxHeartbeats 8000000 in
set_option maxRecDepth 100000 in
theorem octet_Reader_Num_take_ok (g : Nat) (l : List Int) (at_ n : Int) (w0 w : World) (hI : IsS45 w0 w g l at_ true false) (hB : Below w0.heap.size w0 w) (h0 : 0 ≤ at_) (hn : 0 ≤ n) (hl : at_ + n ≤ l.length) :
    Calls Try.prog 22 #[.pointer (some ⟨g, 0, none⟩), .int .i64 n] w fun e w' => ∃ A c, e = .returned (.slice A n.toNat c) ∧ Kd.C (Kd.int .u8) w' A n.toNat ((l.take (at_ + n).toNat).drop at_.toNat) ∧ IsS45 w0 w' g l (at_ + n) true false ∧ Below w0.heap.size w0 w' ∧ KeepBut w w' g none := by
  have hmax : l.length ≤ 9223372036854775807 := by obtain ⟨A0, c0, hb, hg, hr⟩ := hI; exact (Kd.R_reads' hr).2.2.2.1
  have X : Hid (IsS45 w0 w g l at_ true false ∧ Below w0.heap.size w0 w) := ⟨hI, hB⟩
  clear hI hB
  have d1 : decide (n < 0) = false := decide_eq_false (by omega)
  have hn1 : Hid (0 ≤ at_ ∧ 0 ≤ n ∧ at_ + n ≤ l.length ∧ l.length ≤ 9223372036854775807) := ⟨h0, hn, hl, hmax⟩
  go_enter Try.func22, Try.ntmps22
  go_wp2_with fail
  go_at_call 23
  refine (octet_Reader_Bad.calls g l at_ true false false at_ true false w0 _ X.out.1 X.out.2 rfl).mono ?_
  rintro e w1 ⟨rfl, hI1, hB1, hK1⟩
  have X1 : Hid (IsS45 w0 w1 g l at_ true false ∧ Below w0.heap.size w0 w1 ∧ KeepBut w w1 g none) := ⟨hI1, hB1, hK1⟩
  clear hI1 hB1 hK1
  go_wp2_with fail
  go_at_call 24
  refine (octet_Reader_Left.calls g l at_ true false ((l.length : Int) - at_) at_ true false w0 _ X1.out.1 X1.out.2.1 (by unfold octet_Reader_Left.f; rw [show wrap64 ((l.length : Int) - at_) = (l.length : Int) - at_ by unfold wrap64; omega])).mono ?_
  rintro e w2 ⟨rfl, hI2, hB2, hK2⟩
  have d2 : decide ((l.length : Int) - at_ < n) = false := decide_eq_false (by omega)
  obtain ⟨A0, c0, hb, hg, hr⟩ := hI2
  have c_1 := (blk_cell hb 1).trans rfl
  have f_1 := blk_frozen hb 1
  have X2 : Hid (w2.heap[g]? = some (.cells #[.slice A0 l.length c0, .int .i64 at_, .bool true, .bool false] 45 (0, 0)) ∧ w0.heap.size ≤ g ∧ Kd.R (Kd.int .u8) 5 w2 w0.heap.size (fun _ => True) (.slice A0 l.length c0) l ∧ Below w0.heap.size w0 w2 ∧ KeepBut w w2 g none) := ⟨hb, hg, hr, hB2, octet_Reader_Num_keepTrans X1.out.2.2 hK2⟩
  clear hb hg hr hB2 hK2
  go_wp2
  have hb3 : (w2.setCell ⟨g, 1, none⟩ (.int .i64 (at_ + n))).heap[g]? = some (.cells #[.slice A0 l.length c0, .int .i64 (at_ + n), .bool true, .bool false] 45 (0, 0)) := by simpa using blk_set X2.out.1 1 (.int .i64 (at_ + n))
  have hR3 : Kd.R (Kd.int .u8) 5 (w2.setCell ⟨g, 1, none⟩ (.int .i64 (at_ + n))) w0.heap.size (fun _ => True) (.slice A0 l.length c0) l := Kd.R_set X2.out.2.2.1 X2.out.1 (by decide) 1 _
  have hB3 : Below w0.heap.size w0 (w2.setCell ⟨g, 1, none⟩ (.int .i64 (at_ + n))) := Below.setCell X2.out.2.2.2.1 X2.out.2.1 _
  have hK3 : KeepBut w (w2.setCell ⟨g, 1, none⟩ (.int .i64 (at_ + n))) g none := KeepBut.set_ X2.out.2.2.2.2 _ _
  clear c_1 f_1
  generalize w2.setCell ⟨g, 1, none⟩ (.int .i64 (at_ + n)) = w3 at hb3 hR3 hB3 hK3 ⊢
  have X3 : Hid (IsS45 w0 w3 g l (at_ + n) true false ∧ Below w0.heap.size w0 w3 ∧ KeepBut w w3 g none ∧ Kd.R (Kd.int .u8) 5 w3 w0.heap.size (fun _ => True) (.slice A0 l.length c0) l) := ⟨⟨A0, c0, hb3, X2.out.2.1, hR3⟩, hB3, hK3, hR3⟩
  have c_0 := (blk_cell hb3 0).trans rfl
  have c_1 := (blk_cell hb3 1).trans rfl
  clear hb3 hR3 hB3 hK3
  obtain ⟨i5, hi5, hz0, hz1, hz2⟩ := info_parts (show (Try.prog.info? 5).map (fun i => (i.zero, i.size, i.bytes)) = some (some (.int .u8 0), 1, 1) by kernel_rfl)
  obtain ⟨A', hA, hR, hLen⟩ := print_mid_int (P := Try.prog) (k := .u8) 22 5 Try.underlying22 hi5 hz1 A0 c0 l at_ (at_ + n) hn1.out.1 (by omega) (by omega) (Kd.R_reads' X3.out.2.2.2).2.1
  have hlen : ((l.take (at_ + n).toNat).drop at_.toNat).length = n.toNat := by simp; omega
  rw [hlen] at hA hR
  have XR : Hid (Kd.C (Kd.int .u8) w3 A' n.toNat ((l.take (at_ + n).toNat).drop at_.toNat)) := by
    exact Kd.C_of_reads (d := (0 : Int)) (h1 := fun _ => rfl) (hR w3 (Kd.reads_of_C (enc := Value.int .u8) (d := (0 : Int)) (h1 := fun _ => rfl) (Kd.R_reads' X3.out.2.2.2).2.2))
  clear hR hLen hi5 hz0 hz1 hz2 hlen
  have s1 : IntKind.i64.wrap (at_ + n - n) = at_ := by rw [show at_ + n - n = at_ by omega]; exact (i64_w _).trans (by unfold wrap64; omega)
  have s2 : wrap64 at_ = at_ := by unfold wrap64; omega
  clear d1 d2 h0 hn hl hmax
  go_quiet (fail)
  go_wp2
  go_ret
  exact ⟨A', _, rfl, Kd.C_drewN XR.out _, IsS45.drewN X3.out.1 _, pw_below_drewN X3.out.2.1 _, X3.out.2.2.1⟩
set_option maxHeartbeats 8000000 in
set_option maxRecDepth 100000 in
theorem octet_Reader_Num_take_no (g : Nat) (l : List Int) (at_ n : Int) (live bad : Bool) (w0 w : World) (hI : IsS45 w0 w g l at_ live bad) (hB : Below w0.heap.size w0 w) (h0 : 0 ≤ at_ ∧ at_ ≤ l.length) (hn : live = false ∨ bad = true ∨ n < 0 ∨ (l.length : Int) - at_ < n) :
    Calls Try.prog 22 #[.pointer (some ⟨g, 0, none⟩), .int .i64 n] w fun e w' => e = .returned (.slice none 0 0) ∧ IsS45 w0 w' g l at_ live true ∧ Below w0.heap.size w0 w' ∧ KeepBut w w' g none := by
  have hmax : l.length ≤ 9223372036854775807 := by obtain ⟨A0, c0, hb, hg, hr⟩ := hI; exact (Kd.R_reads' hr).2.2.2.1
  have X : Hid (IsS45 w0 w g l at_ live bad ∧ Below w0.heap.size w0 w) := ⟨hI, hB⟩
  have hL : Hid (octet_Reader_Left.f l at_ live bad = some ((l.length : Int) - at_, at_, live, bad)) := by unfold octet_Reader_Left.f; rw [show wrap64 ((l.length : Int) - at_) = (l.length : Int) - at_ by unfold wrap64; omega]; rfl
  have hb : Hid (octet_Reader_Bad.f l at_ live bad = some (!live || bad, at_, live, bad)) := by unfold octet_Reader_Bad.f; cases live <;> rfl
  have hN : Hid (live = false ∨ bad = true ∨ n < 0 ∨ (l.length : Int) - at_ < n) := hn
  clear hI hB h0 hmax hn
  go_enter Try.func22, Try.ntmps22
  go_wp2_with fail
  go_at_call 23
  refine (octet_Reader_Bad.calls g l at_ live bad (!live || bad) at_ live bad w0 _ X.out.1 X.out.2 hb.out).mono ?_
  rintro e w1 ⟨rfl, hI1, hB1, hK1⟩
  have X1 : Hid (IsS45 w0 w1 g l at_ live bad ∧ Below w0.heap.size w0 w1 ∧ KeepBut w w1 g none) := ⟨hI1, hB1, hK1⟩
  clear hI1 hB1 hK1
  obtain ⟨nb, hnb⟩ : ∃ nb, nb = (!live || bad) := ⟨_, rfl⟩
  rw [← hnb]
  have hNB : Hid (nb = (!live || bad)) := hnb
  clear hnb
  have fin : ∀ W : World, IsS45 w0 W g l at_ live bad → Below w0.heap.size w0 W → KeepBut w W g none → Calls Try.prog 25 #[.pointer (some ⟨g, 0, none⟩)] W fun e w' => e = .returned (.tuple #[]) ∧ IsS45 w0 w' g l at_ live true ∧ Below w0.heap.size w0 w' ∧ KeepBut w w' g none := by
    intro W h1 h2 h3
    refine (octet_Reader_spoil.calls g l at_ live bad at_ live true w0 W h1 h2 rfl).mono ?_
    rintro e w' ⟨rfl, h4, h5, h6⟩
    exact ⟨rfl, h4, h5, octet_Reader_Num_keepTrans h3 h6⟩
  have F : Hid (∀ W : World, IsS45 w0 W g l at_ live bad → Below w0.heap.size w0 W → KeepBut w W g none → Calls Try.prog 25 #[.pointer (some ⟨g, 0, none⟩)] W fun e w' => e = .returned (.tuple #[]) ∧ IsS45 w0 w' g l at_ live true ∧ Below w0.heap.size w0 w' ∧ KeepBut w w' g none) := fin
  clear fin
  cases nb
  · by_cases h1 : n < 0
    · have d1 : decide (n < 0) = true := decide_eq_true h1
      clear h1
      go_wp2_with fail
      go_at_call 25
      refine (F.out _ X1.out.1 X1.out.2.1 X1.out.2.2).mono ?_
      rintro e w2 ⟨rfl, hI2, hB2, hK2⟩
      have X2 : Hid (IsS45 w0 w2 g l at_ live true ∧ Below w0.heap.size w0 w2 ∧ KeepBut w w2 g none) := ⟨hI2, hB2, hK2⟩
      clear hI2 hB2 hK2
      go_wp2
      go_ret
      exact ⟨rfl, X2.out⟩
    · have d1 : decide (n < 0) = false := decide_eq_false h1
      have d2 : Hid ((l.length : Int) - at_ < n) := by
        have h2 := hNB.out; have h3 := hN.out
        rcases h3 with h3 | h3 | h3 | h3
        · rw [h3] at h2; cases h2
        · rw [h3] at h2; cases live <;> cases h2
        · exact absurd h3 h1
        · exact h3
      clear h1
      go_wp2_with fail
      go_at_call 24
      refine (octet_Reader_Left.calls g l at_ live bad ((l.length : Int) - at_) at_ live bad w0 _ X1.out.1 X1.out.2.1 hL.out).mono ?_
      rintro e w2 ⟨rfl, hI2, hB2, hK2⟩
      have X2 : Hid (IsS45 w0 w2 g l at_ live bad ∧ Below w0.heap.size w0 w2 ∧ KeepBut w w2 g none) := ⟨hI2, hB2, octet_Reader_Num_keepTrans X1.out.2.2 hK2⟩
      clear hI2 hB2 hK2
      have d3 : decide ((l.length : Int) - at_ < n) = true := decide_eq_true d2.out
      go_wp2_with fail
      go_at_call 25
      refine (F.out _ X2.out.1 X2.out.2.1 X2.out.2.2).mono ?_
      rintro e w3 ⟨rfl, hI3, hB3, hK3⟩
      have X3 : Hid (IsS45 w0 w3 g l at_ live true ∧ Below w0.heap.size w0 w3 ∧ KeepBut w w3 g none) := ⟨hI3, hB3, hK3⟩
      clear hI3 hB3 hK3
      go_wp2
      go_ret
      exact ⟨rfl, X3.out⟩
  · go_wp2_with fail
    go_at_call 25
    refine (F.out _ X1.out.1 X1.out.2.1 X1.out.2.2).mono ?_
    rintro e w2 ⟨rfl, hI2, hB2, hK2⟩
    have X2 : Hid (IsS45 w0 w2 g l at_ live true ∧ Below w0.heap.size w0 w2 ∧ KeepBut w w2 g none) := ⟨hI2, hB2, hK2⟩
    clear hI2 hB2 hK2
    go_wp2
    go_ret
    exact ⟨rfl, X2.out⟩
def octet_Reader_Num_num : List Int → Int → Int
  | [], n => n
  | x :: xs, n => octet_Reader_Num_num xs (Go.bits .or .i64 (wrap64 (n * 256)) (wrap64 x))
set_option maxHeartbeats 8000000 in
set_option maxRecDepth 100000 in
theorem octet_Reader_Num_num_snoc : ∀ (l : List Int) (x n : Int), octet_Reader_Num_num (l ++ [x]) n = Go.bits .or .i64 (wrap64 (octet_Reader_Num_num l n * 256)) (wrap64 x)
  | [], _, _ => rfl
  | y :: l, x, n => octet_Reader_Num_num_snoc l x _
set_option maxHeartbeats 8000000 in
set_option maxRecDepth 100000 in
theorem octet_Reader_Num_number_ok (g : Nat) (l : List Int) (at_ n : Int) (w0 w : World) (hI : IsS45 w0 w g l at_ true false) (hB : Below w0.heap.size w0 w) (h0 : 0 ≤ at_) (h1 : 1 ≤ n) (h8 : n ≤ 8) (hl : at_ + n ≤ l.length) :
    Calls Try.prog 21 #[.func (.func 22) #[.pointer (some ⟨g, 0, none⟩)] #[], .int .i64 n] w fun e w' => ∃ A c, e = .returned (.tuple #[.int .i64 (octet_Reader_Num_num ((l.take (at_ + n).toNat).drop at_.toNat) 0), .slice A n.toNat c]) ∧ IsS45 w0 w' g l (at_ + n) true false ∧ Below w0.heap.size w0 w' ∧ KeepBut w w' g none := by
  obtain ⟨m, rfl⟩ : ∃ m : Nat, n = m := ⟨n.toNat, by omega⟩
  have hlen : ((l.take (at_ + m).toNat).drop at_.toNat).length = m := by simp; omega
  have d1 : decide ((m : Int) < 1) = false := decide_eq_false (by omega)
  have d2 : decide (8 < (m : Int)) = false := decide_eq_false (by omega)
  have X : Hid (IsS45 w0 w g l at_ true false ∧ Below w0.heap.size w0 w ∧ 0 ≤ at_ ∧ at_ + m ≤ l.length ∧ m ≤ 8) := ⟨hI, hB, h0, hl, by omega⟩
  have hlen' : Hid (((l.take (at_ + m).toNat).drop at_.toNat).length = m) := hlen
  clear hI hB h0 h1 h8 hl hlen
  go_enter Try.func21, Try.ntmps21
  go_wp2_with fail
  go_at_call 22
  refine (octet_Reader_Num_take_ok g l at_ m w0 _ X.out.1 X.out.2.1 X.out.2.2.1 (by omega) X.out.2.2.2.1).mono ?_
  rintro e w1 ⟨A, c, rfl, hC, hI1, hB1, hK1⟩
  have X1 : Hid (IsS45 w0 w1 g l (at_ + m) true false ∧ Below w0.heap.size w0 w1 ∧ KeepBut w w1 g none) := ⟨hI1, hB1, hK1⟩
  obtain ⟨bs, hbs⟩ : ∃ bs, bs = (l.take (at_ + m).toNat).drop at_.toNat := ⟨_, rfl⟩
  have hC1 : Kd.C (Kd.int .u8) w1 A m bs := by rw [hbs]; exact hC
  have XB : Hid (bs = (l.take (at_ + m).toNat).drop at_.toNat ∧ Kd.C (Kd.int .u8) w1 A m bs ∧ bs.length = m) := ⟨hbs, hC1, by rw [hbs]; exact hlen'.out⟩
  rw [Int.toNat_natCast]
  clear hC hI1 hB1 hK1 hbs hC1 d1 d2
  go_wp2
  go_loop [6, 21] (fun v i => ∃ k : Nat, k ≤ m ∧ i = .int .i64 k ∧ v = .int .i64 (octet_Reader_Num_num (bs.take k) 0)) (fun _ i => m - (intOf i).toNat)
  case atStart => exact ⟨0, by omega, rfl, rfl⟩
  case round =>
    obtain ⟨k, hk, rfl, rfl⟩ := hrel
    by_cases hkm : k < m
    · obtain ⟨ad, hA, hcell⟩ := Kd.at_int (XB.out.2.1) (k : Int) (by omega) (by omega)
      subst hA
      rw [Int.toNat_natCast] at hcell
      have d : decide ((k : Int) < (m : Int)) = true := decide_eq_true (by omega)
      go_wp2
      have hk1 : wrap64 ((k : Int) + 1) = ((k + 1 : Nat) : Int) := by have := X.out.2.2.2.2; unfold wrap64; omega
      have hs : bs.take (k + 1) = bs.take k ++ [rd bs k] := by
        have hkl : k < bs.length := by rw [XB.out.2.2]; exact hkm
        rw [List.take_add_one, rd, Int.toNat_natCast, List.getD_eq_getElem?_getD]
        simp [hkl]
      rw [hk1]
      go_round
      case rel => exact ⟨k + 1, by omega, rfl, by rw [hs, octet_Reader_Num_num_snoc]⟩
      case measure => simp [intOf]; omega
    · have d : decide ((k : Int) < (m : Int)) = false := decide_eq_false (by omega)
      have hkk : k = m := by omega
      subst hkk
      go_wp2
      go_ret2
      refine ⟨⟨A, c, ?_⟩, X1.out⟩
      show Ending.returned (.tuple #[.int .i64 (octet_Reader_Num_num (bs.take k) 0), .slice A k c]) = _
      rw [List.take_of_length_le (by rw [XB.out.2.2]; exact Nat.le_refl _), XB.out.1]
set_option maxHeartbeats 8000000 in
set_option maxRecDepth 100000 in
theorem octet_Reader_Num_number_no (g : Nat) (l : List Int) (at_ n : Int) (live bad : Bool) (w0 w : World) (hI : IsS45 w0 w g l at_ live bad) (hB : Below w0.heap.size w0 w) (h0 : 0 ≤ at_ ∧ at_ ≤ l.length) (hn : live = false ∨ bad = true ∨ n < 1 ∨ 8 < n ∨ (l.length : Int) - at_ < n) :
    Calls Try.prog 21 #[.func (.func 22) #[.pointer (some ⟨g, 0, none⟩)] #[], .int .i64 n] w fun e w' => e = .returned (.tuple #[.int .i64 0, .slice none 0 0]) ∧ IsS45 w0 w' g l at_ live true ∧ Below w0.heap.size w0 w' ∧ KeepBut w w' g none := by
  have X : Hid (IsS45 w0 w g l at_ live bad ∧ Below w0.heap.size w0 w ∧ (0 ≤ at_ ∧ at_ ≤ l.length) ∧ (live = false ∨ bad = true ∨ n < 1 ∨ 8 < n ∨ (l.length : Int) - at_ < n)) := ⟨hI, hB, h0, hn⟩
  clear hI hB h0 hn
  go_enter Try.func21, Try.ntmps21
  by_cases h1 : n < 1
  · have d1 : decide (n < 1) = true := decide_eq_true h1
    clear h1
    go_wp2_with fail
    go_at_call 22
    refine (octet_Reader_Num_take_no g l at_ (-1) live bad w0 _ X.out.1 X.out.2.1 X.out.2.2.1 (by omega)).mono ?_
    rintro e w1 ⟨rfl, hI1, hB1, hK1⟩
    have X1 : Hid (IsS45 w0 w1 g l at_ live true ∧ Below w0.heap.size w0 w1 ∧ KeepBut w w1 g none) := ⟨hI1, hB1, hK1⟩
    clear hI1 hB1 hK1
    go_wp2
    go_loop [6, 21] (fun v i => v = .int .i64 0 ∧ i = .int .i64 0) (fun _ _ => 0)
    case atStart => exact ⟨rfl, rfl⟩
    case round =>
      obtain ⟨rfl, rfl⟩ := hrel
      go_wp2
      go_ret2
      exact ⟨rfl, X1.out⟩
  · have d1 : decide (n < 1) = false := decide_eq_false h1
    by_cases h8 : 8 < n
    · have d2 : decide (8 < n) = true := decide_eq_true h8
      clear h1 h8
      go_wp2_with fail
      go_at_call 22
      refine (octet_Reader_Num_take_no g l at_ (-1) live bad w0 _ X.out.1 X.out.2.1 X.out.2.2.1 (by omega)).mono ?_
      rintro e w1 ⟨rfl, hI1, hB1, hK1⟩
      have X1 : Hid (IsS45 w0 w1 g l at_ live true ∧ Below w0.heap.size w0 w1 ∧ KeepBut w w1 g none) := ⟨hI1, hB1, hK1⟩
      clear hI1 hB1 hK1
      go_wp2
      go_loop [6, 21] (fun v i => v = .int .i64 0 ∧ i = .int .i64 0) (fun _ _ => 0)
      case atStart => exact ⟨rfl, rfl⟩
      case round =>
        obtain ⟨rfl, rfl⟩ := hrel
        go_wp2
        go_ret2
        exact ⟨rfl, X1.out⟩
    · have d2 : decide (8 < n) = false := decide_eq_false h8
      have X0 : Hid (live = false ∨ bad = true ∨ n < 0 ∨ (l.length : Int) - at_ < n) := by
        have := X.out.2.2.2; show _ ∨ _ ∨ _ ∨ _
        rcases this with h | h | h | h | h
        · exact .inl h
        · exact .inr (.inl h)
        · exact absurd h h1
        · exact absurd h h8
        · exact .inr (.inr (.inr h))
      clear h1 h8
      go_wp2_with fail
      go_at_call 22
      refine (octet_Reader_Num_take_no g l at_ n live bad w0 _ X.out.1 X.out.2.1 X.out.2.2.1 X0.out).mono ?_
      rintro e w1 ⟨rfl, hI1, hB1, hK1⟩
      have X1 : Hid (IsS45 w0 w1 g l at_ live true ∧ Below w0.heap.size w0 w1 ∧ KeepBut w w1 g none) := ⟨hI1, hB1, hK1⟩
      clear hI1 hB1 hK1
      go_wp2
      go_loop [6, 21] (fun v i => v = .int .i64 0 ∧ i = .int .i64 0) (fun _ _ => 0)
      case atStart => exact ⟨rfl, rfl⟩
      case round =>
        obtain ⟨rfl, rfl⟩ := hrel
        go_wp2
        go_ret2
        exact ⟨rfl, X1.out⟩
def octet_Reader_Num.f (l : List Int) (at_ : Int) (live bad : Bool) (n : Int) : Option (Int × Int × Bool × Bool) :=
  if 0 ≤ at_ ∧ at_ ≤ l.length then (if live = true ∧ bad = false ∧ 1 ≤ n ∧ n ≤ 8 ∧ n ≤ (l.length : Int) - at_ then some (octet_Reader_Num_num ((l.take (at_ + n).toNat).drop at_.toNat) 0, at_ + n, live, bad) else some (0, at_, live, true)) else none
set_option maxHeartbeats 8000000 in
set_option maxRecDepth 100000 in
theorem octet_Reader_Num.calls (g : Nat) (s0_0 : List Int) (s0_1 : Int) (s0_2 : Bool) (s0_3 : Bool) (a1 : Int) (r1 : Int) (r2 : Int) (r3 : Bool) (r4 : Bool) (w0 w : World) (hI : IsS45 w0 w g s0_0 s0_1 s0_2 s0_3) (hB : Below w0.heap.size w0 w) (h : octet_Reader_Num.f s0_0 s0_1 s0_2 s0_3 a1 = some (r1, r2, r3, r4)) :
    Calls Try.prog 17 #[.pointer (some ⟨g, 0, none⟩), .int .i64 a1] w fun e w' => e = .returned (.int .i64 r1) ∧ IsS45 w0 w' g s0_0 r2 r3 r4 ∧ Below w0.heap.size w0 w' ∧ KeepBut w w' g none := by
  unfold octet_Reader_Num.f at h
  by_cases hA : 0 ≤ s0_1 ∧ s0_1 ≤ s0_0.length
  case neg => rw [if_neg hA] at h; cases h
  rw [if_pos hA] at h
  by_cases hC : s0_2 = true ∧ s0_3 = false ∧ 1 ≤ a1 ∧ a1 ≤ 8 ∧ a1 ≤ (s0_0.length : Int) - s0_1
  · rw [if_pos hC] at h
    obtain ⟨rfl, rfl, h1, h8, hl⟩ := hC
    simp only [Option.some.injEq, Prod.mk.injEq] at h
    obtain ⟨hr1, rfl, rfl, rfl⟩ := h
    have X : Hid (IsS45 w0 w g s0_0 s0_1 true false ∧ Below w0.heap.size w0 w ∧ (0 ≤ s0_1 ∧ 1 ≤ a1 ∧ a1 ≤ 8 ∧ s0_1 + a1 ≤ s0_0.length) ∧ octet_Reader_Num_num ((s0_0.take (s0_1 + a1).toNat).drop s0_1.toNat) 0 = r1) := ⟨hI, hB, ⟨hA.1, h1, h8, by omega⟩, hr1⟩
    clear hI hB hA h1 h8 hl hr1
    go_enter Try.func17, Try.ntmps17
    go_wp2_with fail
    go_at_call 21
    refine (octet_Reader_Num_number_ok g s0_0 s0_1 a1 w0 _ X.out.1 X.out.2.1 X.out.2.2.1.1 X.out.2.2.1.2.1 X.out.2.2.1.2.2.1 X.out.2.2.1.2.2.2).mono ?_
    rintro e w1 ⟨A, c, rfl, hI1, hB1, hK1⟩
    have X1 : Hid (IsS45 w0 w1 g s0_0 (s0_1 + a1) true false ∧ Below w0.heap.size w0 w1 ∧ KeepBut w w1 g none) := ⟨hI1, hB1, hK1⟩
    clear hI1 hB1 hK1
    go_wp2
    go_ret
    exact ⟨by show Ending.returned (.int .i64 _) = _; rw [← X.out.2.2.2], X1.out⟩
  · rw [if_neg hC] at h
    simp only [Option.some.injEq, Prod.mk.injEq] at h
    obtain ⟨rfl, rfl, rfl, rfl⟩ := h
    have hn : s0_2 = false ∨ s0_3 = true ∨ a1 < 1 ∨ 8 < a1 ∨ (s0_0.length : Int) - s0_1 < a1 := by
      cases s0_2
      · exact .inl rfl
      · cases s0_3
        · refine .inr (.inr ?_)
          have : ¬ (1 ≤ a1 ∧ a1 ≤ 8 ∧ a1 ≤ (s0_0.length : Int) - s0_1) := fun hh => hC ⟨rfl, rfl, hh⟩
          omega
        · exact .inr (.inl rfl)
    have X : Hid (IsS45 w0 w g s0_0 s0_1 s0_2 s0_3 ∧ Below w0.heap.size w0 w ∧ (0 ≤ s0_1 ∧ s0_1 ≤ s0_0.length) ∧ (s0_2 = false ∨ s0_3 = true ∨ a1 < 1 ∨ 8 < a1 ∨ (s0_0.length : Int) - s0_1 < a1)) := ⟨hI, hB, hA, hn⟩
    clear hI hB hA hn hC
    go_enter Try.func17, Try.ntmps17
    go_wp2_with fail
    go_at_call 21
    refine (octet_Reader_Num_number_no g s0_0 s0_1 a1 s0_2 s0_3 w0 _ X.out.1 X.out.2.1 X.out.2.2.1 X.out.2.2.2).mono ?_
    rintro e w1 ⟨rfl, hI1, hB1, hK1⟩
    have X1 : Hid (IsS45 w0 w1 g s0_0 s0_1 s0_2 true ∧ Below w0.heap.size w0 w1 ∧ KeepBut w w1 g none) := ⟨hI1, hB1, hK1⟩
    clear hI1 hB1 hK1
    go_wp2
    go_ret
    exact ⟨rfl, X1.out⟩

end Go.Proofs.Ytbplnfklimhdaaa.PG
