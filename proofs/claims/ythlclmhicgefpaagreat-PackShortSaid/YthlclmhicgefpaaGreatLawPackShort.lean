/- The law PackShort: for every input the call returns true, and each argument reads as it did before; no conditions. -/
import Derived.Test.YthlclmhicgefpaaGreatRows
import Derived.Test.YthlclmhicgefpaaGreatPurePackShort
import Derived.WalkKit
import Derived.ProofKit
import Derived.OpenShut
import Derived.ShutString
import Derived.ChangeOld
import Derived.Below
import Derived.SizedLaws
import Derived.Carry
namespace Go.Proofs.YthlclmhicgefpaaGreat.packShort
open Go.ChangeShapes Go.WideShapes Go.ChangeAt Go.RowKit Go.AX Go.Proofs.YthlclmhicgefpaaGreat.s
set_option linter.unusedVariables false
theorem own : ownKnob Tryz.prog.godebug = none := by kernel_rfl
theorem laidOut : laidOutB Tryz.prog = true := by kernel_rfl
def tys : List Ty := [(.sl 87 Ty29), Ty8, (.int .i64)]
theorem tysOf : typesOf Tryz.prog Tryz.f4.params.toList = some tys := by kernel_rfl
theorem answers : ∀ x : Ty.Ts tys, okDs tys x → callK Tryz.prog ht 13 4 ((cellsT tys x).map argA) [] fin = some true := by
  intro x hx
  obtain ⟨a0, a1, a2, u⟩ := x
  obtain ⟨h0, h1, h2, hu⟩ : okD (.sl 87 Ty29) a0 ∧ okD Ty8 a1 ∧ okD (.int .i64) a2 ∧ True := ⟨(okDs_cons.1 hx).1, (okDs_cons.1 (okDs_cons.1 hx).2).1, (okDs_cons.1 (okDs_cons.1 (okDs_cons.1 hx).2).2).1, trivial⟩
  exact law35_PackShort.ok 13 (Nat.le_refl _) ((a0, a1, a2, ()), ()) fin (holds a0 a1 a2 h0 h1 h2)
def zeros (P : Program) (ts : List TypeId) : List Value := ts.map fun t => match P.info? t with
  | some i => match i.zero with
    | some z => z
    | none => undef
  | none => undef
set_option maxRecDepth 100000 in
theorem lifted (os : Os) (started : os.Started) (H : Type) (enc : TypeId × Value → H) :
    ReturnsInHanded {} Tryz.checked os 4 .any (Rows.packShortSpec.pre6 enc Tryz.prog Tryz.f4 Rows.packShortRow.domain false) (Rows.packShortSpec.post enc Tryz.prog Tryz.f4 false true false false) := by
  refine returnsInHanded_of_change_sized (C := Tryz.checked) own started (by kernel_rfl) Tryz.func4
    (ChangeSpec.witness6 (enc := enc) (C := Tryz.checked) false ⟨#[], (zeros Tryz.prog Tryz.f4.params.toList).toArray, []⟩ 8 (by kernel_rfl) (by kernel_rfl) (by kernel_rfl) (by kernel_rfl)) ?_
  intro W base args ds gs before hval hW hcnd hsz _
  have hW' := hW
  obtain ⟨p, q, hA, hV, rfl, hfz, hnd⟩ := hW
  obtain ⟨rfl, rfl⟩ := trodVars_none hV
  refine (law_calls (by kernel_rfl) (by kernel_rfl) tysOf answers (fun j t v h1 h2 => ⟨.any, base, hval j t v (by rw [← Array.getElem?_toList]; exact h1) (by rw [← Array.getElem?_toList]; exact h2)⟩) hA).mono fun e W' ⟨he, bel⟩ => ?_
  subst he
  have hS := trodAll_stay laidOut bel (by kernel_rfl) hA
  rw [Tryz.params4] at hA
  obtain ⟨v0, vs0, d0, ds0, p0, q0, hv0, rfl, rfl, t0, r0⟩ := trodAll_cons hA
  obtain ⟨v1, vs1, d1, ds1, p1, q1, hv1, rfl, rfl, t1, r1⟩ := trodAll_cons r0
  obtain ⟨v2, vs2, d2, ds2, p2, q2, hv2, rfl, rfl, t2, r2⟩ := trodAll_cons r1
  obtain ⟨hvn, rfl, rfl⟩ := trodAll_nil r2
  exact ⟨_, rfl, _, _, _, [], _, [], hW', trodAll_mk1 (shut_bool Tryz.underlying4 _), hS, rfl, bel.frame _, fun h => by cases h⟩
theorem over : Rows.packShortRow.holds Tryz.pinned (OpenSpec.ofChange Rows.packShortSpec) :=
  OpenClaim.holds_of_wide 4 Tryz.f4 rfl rfl rfl rfl rfl rfl rfl ⟨rfl, rfl, rfl, rfl, rfl⟩ rfl rfl rfl rfl rfl (by kernel_rfl) Tryz.func4 (by kernel_rfl)
    (of_decide_eq_true (by kernel_rfl)) (by unfold Func.isWrapper; first | (rw [if_pos (by decide +kernel)]; kernel_rfl) | (rw [if_neg (by decide +kernel)]; exact ⟨rfl, rfl⟩))
    (fun os started H enc _ => lifted os started H enc)
theorem proved : Rows.PackShortSaid := over
#print axioms proved
end Go.Proofs.YthlclmhicgefpaaGreat.packShort
namespace Go.Proofs.YthlclmhicgefpaaGreat
/-- The row, under a short name, for the claim. -/
theorem packShort_holds : Rows.PackShortSaid := packShort.proved
end Go.Proofs.YthlclmhicgefpaaGreat
