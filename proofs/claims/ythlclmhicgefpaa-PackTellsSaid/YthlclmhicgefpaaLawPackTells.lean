/- The law PackTells: for every input the call returns true, and each argument reads as it did before; no conditions. -/
import Derived.Test.YthlclmhicgefpaaRows
import Derived.Test.YthlclmhicgefpaaPurePackTells
import Derived.WalkKit
import Derived.ProofKit
import Derived.OpenShut
import Derived.ShutString
import Derived.ChangeOld
import Derived.Below
import Derived.SizedLaws
import Derived.Carry
namespace Go.Proofs.Ythlclmhicgefpaa.packTells
open Go.ChangeShapes Go.WideShapes Go.ChangeAt Go.RowKit Go.AX Go.Proofs.Ythlclmhicgefpaa.k
set_option linter.unusedVariables false
theorem own : ownKnob Try.prog.godebug = none := by kernel_rfl
theorem laidOut : laidOutB Try.prog = true := by kernel_rfl
def tys : List Ty := [Ty18, Ty0]
theorem tysOf : typesOf Try.prog Try.f3.params.toList = some tys := by kernel_rfl
theorem answers : ∀ x : Ty.Ts tys, okDs tys x → callK Try.prog ht 12 3 ((cellsT tys x).map argA) [] fin = some true := by
  intro x hx
  obtain ⟨a0, a1, u⟩ := x
  obtain ⟨h0, h1, hu⟩ : okD Ty18 a0 ∧ okD Ty0 a1 ∧ True := ⟨(okDs_cons.1 hx).1, (okDs_cons.1 (okDs_cons.1 hx).2).1, trivial⟩
  exact law35_PackTells.ok 12 (Nat.le_refl _) ((a0, a1, ()), ()) fin (holds a0 a1 h0 h1)
def zeros (P : Program) (ts : List TypeId) : List Value := ts.map fun t => match P.info? t with
  | some i => match i.zero with
    | some z => z
    | none => undef
  | none => undef
set_option maxRecDepth 100000 in
theorem lifted (os : Os) (started : os.Started) (H : Type) (enc : TypeId × Value → H) :
    ReturnsInHanded {} Try.checked os 3 .any (Rows.packTellsSpec.pre6 enc Try.prog Try.f3 Rows.packTellsRow.domain false) (Rows.packTellsSpec.post enc Try.prog Try.f3 false true false false) := by
  refine returnsInHanded_of_change_sized (C := Try.checked) own started (by kernel_rfl) Try.func3
    (ChangeSpec.witness6 (enc := enc) (C := Try.checked) false ⟨#[], (zeros Try.prog Try.f3.params.toList).toArray, []⟩ 8 (by kernel_rfl) (by kernel_rfl) (by kernel_rfl) (by kernel_rfl)) ?_
  intro W base args ds gs before hval hW hcnd hsz _
  have hW' := hW
  obtain ⟨p, q, hA, hV, rfl, hfz, hnd⟩ := hW
  obtain ⟨rfl, rfl⟩ := trodVars_none hV
  refine (law_calls (by kernel_rfl) (by kernel_rfl) tysOf answers (fun j t v h1 h2 => ⟨.any, base, hval j t v (by rw [← Array.getElem?_toList]; exact h1) (by rw [← Array.getElem?_toList]; exact h2)⟩) hA).mono fun e W' ⟨he, bel⟩ => ?_
  subst he
  have hS := trodAll_stay laidOut bel (by kernel_rfl) hA
  rw [Try.params3] at hA
  obtain ⟨v0, vs0, d0, ds0, p0, q0, hv0, rfl, rfl, t0, r0⟩ := trodAll_cons hA
  obtain ⟨v1, vs1, d1, ds1, p1, q1, hv1, rfl, rfl, t1, r1⟩ := trodAll_cons r0
  obtain ⟨hvn, rfl, rfl⟩ := trodAll_nil r1
  exact ⟨_, rfl, _, _, _, [], _, [], hW', trodAll_mk1 (shut_bool Try.underlying4 _), hS, rfl, bel.frame _, fun h => by cases h⟩
theorem over : Rows.packTellsRow.holds Try.pinned (OpenSpec.ofChange Rows.packTellsSpec) :=
  OpenClaim.holds_of_wide 3 Try.f3 rfl rfl rfl rfl rfl rfl rfl ⟨rfl, rfl, rfl, rfl, rfl⟩ rfl rfl rfl rfl rfl (by kernel_rfl) Try.func3 (by kernel_rfl)
    (of_decide_eq_true (by kernel_rfl)) (by unfold Func.isWrapper; first | (rw [if_pos (by decide +kernel)]; kernel_rfl) | (rw [if_neg (by decide +kernel)]; exact ⟨rfl, rfl⟩))
    (fun os started H enc _ => lifted os started H enc)
theorem proved : Rows.PackTellsSaid := over
#print axioms proved
end Go.Proofs.Ythlclmhicgefpaa.packTells
namespace Go.Proofs.Ythlclmhicgefpaa
/-- The row, under a short name, for the claim. -/
theorem packTells_holds : Rows.PackTellsSaid := packTells.proved
end Go.Proofs.Ythlclmhicgefpaa
