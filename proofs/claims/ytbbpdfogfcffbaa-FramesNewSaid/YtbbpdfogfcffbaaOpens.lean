/- What a parameter's datum reads as, kind by kind: from the judge's reading of data (trod) to the print's own reading (Kd.K, Kd.C). No conditions. -/
import Derived.Test.YtbbpdfogfcffbaaWWords
import Derived.ChangeArms
import Derived.Deep.Slices
import Derived.WideShapes
namespace Go.Proofs.YtbbpdfogfcffbaaOp
open Go.RowKit Go.Proofs.YtbbpdfogfcffbaaW.PrintWords

/-- The cells of a datum of type t read as d says, and what is read is well formed. -/
def Opens {α : Type} (P : Program) (d : Kd α) (ok : α → Prop) (t : TypeId) : Prop :=
  P.cellsOf t = d.sz ∧ ∀ (H : Type) (enc : TypeId × Value → H) (w : World) (base : Nat) (spare : Nat → Bool) (held : Bool) (fuel : Nat) (cs : List Value) (x : DataW H × List MemPlace),
    DataW.trod enc P w base spare held fuel t cs = some x → ∃ y, d.K w y cs ∧ ok y

section
variable {P : Program} {t e : TypeId}
theorem opens_int {k : IntKind} (ht : P.underlying t = some (.int k)) (hc : P.cellsOf t = 1) : Opens P (Kd.int k) (fun n => (Lit.int k n).wf = true) t :=
  ⟨hc, fun H enc w base spare held fuel cs x h => by
    obtain ⟨n, rfl, _, hw⟩ := DataW.trod_int ht h
    exact ⟨n, rfl, hw⟩⟩
theorem opens_bool (ht : P.underlying t = some .bool) (hc : P.cellsOf t = 1) : Opens P Kd.bool (fun _ => True) t :=
  ⟨hc, fun H enc w base spare held fuel cs x h => by
    obtain ⟨b, rfl, _⟩ := DataW.trod_bool ht h
    exact ⟨b, rfl, trivial⟩⟩
theorem opens_string (ht : P.underlying t = some .string) (hc : P.cellsOf t = 1) : Opens P Kd.string (fun s => s.size ≤ maxLen) t :=
  ⟨hc, fun H enc w base spare held fuel cs x h => by
    obtain ⟨s, rfl, _, hs⟩ := DataW.trod_string ht h
    exact ⟨s, rfl, hs⟩⟩
theorem choose_list {α : Type} {p : Nat → α → Prop} : ∀ (n : Nat), (∀ i, i < n → ∃ y, p i y) → ∃ l : List α, l.length = n ∧ ∀ i y, l[i]? = some y → p i y
  | 0, _ => ⟨[], rfl, fun i y h => by simp at h⟩
  | n + 1, h => by
    obtain ⟨l, hl, hp⟩ := choose_list n (fun i hi => h i (by omega))
    obtain ⟨y, hy⟩ := h n (by omega)
    refine ⟨l ++ [y], by simp [hl], fun i z hz => ?_⟩
    by_cases hi : i < n
    · rw [List.getElem?_append_left (by omega)] at hz; exact hp i z hz
    · rw [List.getElem?_append_right (by omega)] at hz
      have : i = n := by
        have := (List.getElem?_eq_some_iff.1 hz).1
        simp at this; omega
      subst this
      rw [hl, Nat.sub_self] at hz
      simp at hz; subst hz; exact hy
theorem add_add (a : Addr) (n m : Nat) (u : Value) {w : World} {base : Nat} {k : Nat} {cs : List Value} (h : w.cells? base (a.add n) k = some cs) (hm : cs[m]? = some u) : w.cell? (a.add (n + m)) = some u := by
  obtain ⟨h1, h2, h3⟩ := World.cells?_some h
  have hmk : m < k := by
    rw [← h2]; exact (List.getElem?_eq_some_iff.1 hm).1
  rw [← hm, ← h3 m hmk]
  congr 1
  cases a with | mk b o s => 
  rcases n with _ | n
  · simp [Addr.add]
  · rcases m with _ | m
    · simp [Addr.add]
    · simp [Addr.add, Nat.add_assoc]
theorem opens_slice {α : Type} {d : Kd α} {ok : α → Prop} (ht : P.underlying t = some (.slice e)) (hc : P.cellsOf t = 1) (he : Opens P d ok e) : Opens P (Kd.slice e d) (fun xs => xs.length ≤ maxLen ∧ ∀ x ∈ xs, ok x) t :=
  ⟨hc, fun H enc w base spare held fuel cs x h => by
    rcases Go.Deep.open_slice ht h with ⟨rfl, _⟩ | ⟨a, len, cap, m, n, D, Pl, rfl, hb, hl, hm, hmm, _, hx⟩
    · exact ⟨[], ⟨none, 0, rfl, Nat.le_refl _, ⟨rfl, Nat.zero_le _, fun h => absurd h (Nat.lt_irrefl 0)⟩⟩, Nat.zero_le _, fun x hx => by cases hx⟩
    · have hlm : len ≤ m := by rw [hmm]; split <;> omega
      obtain ⟨l, hll, hp⟩ := choose_list (p := fun i y => (∃ c, c.length = d.sz ∧ d.K w y c ∧ ∀ j u, c[j]? = some u → w.cell? (a.add (i * d.sz + j)) = some u) ∧ ok y) len (fun i hi => by
        obtain ⟨cs', h1, h2⟩ := hx i (by omega)
        obtain ⟨y, hy, ho⟩ := he.2 H enc w base spare held n cs' _ h2
        rw [he.1] at h1
        exact ⟨y, ⟨cs', d.K_len hy, hy, fun j u hj => add_add a _ _ u h1 hj⟩, ho⟩)
      subst hll
      refine ⟨l, ⟨some a, cap, rfl, hl, ⟨rfl, ?_, fun _ => ⟨a, rfl, fun i y hy => ?_⟩⟩⟩, by omega, fun y hy => ?_⟩
      · have : maxLen ≤ 9223372036854775807 := by decide
        omega
      · exact (hp i y hy).1
      · obtain ⟨i, hi⟩ := List.getElem?_of_mem hy
        exact (hp i y hi).2⟩
/-- Fields from one place on, to the end. -/
def OpensF {α : Type} (P : Program) (d : Kd α) (ok : α → Prop) (fs : List Field) (off : Nat) : Prop :=
  ∀ (H : Type) (enc : TypeId × Value → H) (w : World) (base : Nat) (spare : Nat → Bool) (held : Bool) (fuel : Nat) (cs : List Value), cs.length = off + d.sz →
    (∀ f ∈ fs, ∃ x, DataW.trod enc P w base spare held fuel f.type ((cs.drop f.offset).take (P.cellsOf f.type)) = some x) → ∃ y, d.K w y (cs.drop off) ∧ ok y
theorem opensF_one {α : Type} {d : Kd α} {ok : α → Prop} {f : Field} {off : Nat} (hf : f.offset = off) (h : Opens P d ok f.type) : OpensF P d ok [f] off := by
  intro H enc w base spare held fuel cs hl hx
  obtain ⟨x, hx⟩ := hx f (List.mem_singleton.2 rfl)
  subst hf
  rw [h.1, List.take_of_length_le (by rw [List.length_drop]; omega)] at hx
  exact h.2 H enc w base spare held fuel _ x hx
theorem opensF_cons {α β : Type} {d : Kd α} {d' : Kd β} {ok : α → Prop} {ok' : β → Prop} {f : Field} {fs : List Field} {off off' : Nat} (hf : f.offset = off) (ho : off' = off + d.sz) (h : Opens P d ok f.type) (h' : OpensF P d' ok' fs off') :
    OpensF P (Kd.pair d d') (fun y => ok y.1 ∧ ok' y.2) (f :: fs) off := by
  intro H enc w base spare held fuel cs hl hx
  subst hf ho
  have hl' : cs.length = f.offset + (d.sz + d'.sz) := hl
  obtain ⟨y', hy', ho'⟩ := h' H enc w base spare held fuel cs (by omega) (fun g hg => hx g (List.mem_cons_of_mem _ hg))
  obtain ⟨x, hx⟩ := hx f List.mem_cons_self
  rw [h.1] at hx
  obtain ⟨y, hy, ho⟩ := h.2 H enc w base spare held fuel _ x hx
  refine ⟨(y, y'), ⟨_, _, ?_, hy, hy'⟩, ho, ho'⟩
  rw [← List.drop_drop, List.take_append_drop]
theorem opens_struct {α β : Type} {d : Kd α} {ok : α → Prop} {fs : Array Field} (f : β → α) (mk : α → β) (hfm : ∀ y, f (mk y) = y) (ht : P.underlying t = some (.struct fs)) (hc : P.cellsOf t = d.sz) (h : OpensF P d ok fs.toList 0) :
    Opens P (Kd.iso d f) (fun x => ok (f x)) t :=
  ⟨hc, fun H enc w base spare held fuel cs x hx => by
    obtain ⟨xs, n, rfl, _, hl, hxl, hfi⟩ := DataW.trod_struct ht hx
    obtain ⟨y, hy, ho⟩ := h H enc w base spare held n cs (by omega) (fun g hg => by
      obtain ⟨i, hi⟩ := List.getElem?_of_mem hg
      have hi' : fs[i]? = some g := by rw [← Array.getElem?_toList]; exact hi
      have hlt : i < xs.length := by
        rw [hxl]; exact (Array.getElem?_eq_some_iff.1 hi').1
      exact ⟨xs[i], by rw [hfi i g hi', List.getElem?_eq_getElem hlt]⟩)
    refine ⟨mk y, ?_, ?_⟩
    · show d.K w (f (mk y)) cs
      rw [hfm]; exact hy
    · show ok (f (mk y))
      rw [hfm]; exact ho⟩
theorem opens_imp {α : Type} {d : Kd α} {ok ok' : α → Prop} (h : Opens P d ok t) (hi : ∀ x, ok x → ok' x) : Opens P d ok' t :=
  ⟨h.1, fun H enc w base spare held fuel cs x hx => by
    obtain ⟨y, hy, ho⟩ := h.2 H enc w base spare held fuel cs x hx
    exact ⟨y, hy, hi y ho⟩⟩
end
end Go.Proofs.YtbbpdfogfcffbaaOp
