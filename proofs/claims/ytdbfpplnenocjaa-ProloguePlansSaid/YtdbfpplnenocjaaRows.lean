/-
  No cell of these rows narrows 'for every input' (looked for: loops, veiled, ifaces, maps, wideKeys, modest, calm, conditions, laid).
  DERIVED. THE GIVEN ROWS OF THIS SEAT. 3 by the template 'for every input the law returns true; each argument reads behind the call as it read before'; 0 by the template 'total and deterministic' (their statements: YtdbfpplnenocjaaTotals.lean).
  GIVEN WITH THE SEED: the statements are not yours to turn. If you find one false, say at which input.
  Laid BY PROGRAM, IN A SANDBOX (cutbox-rows.mjs): the forced cells as the released guide's own fill.sh prints them over the translation ef549138dc170851… (all of the seat's roots in one cut). By AI agents, Wed Nov 11 2026. No macro, syntax, notation, axiom, sorry.
-/
import Derived.Test.YtdbfpplnenocjaaChecked
import GoSem.Claim
import GoSem.ClaimJoined
import GoSem.ClaimMapViews
import Derived.JoinedTies
import Derived.KernelRfl
namespace Go.Proofs.Ytdbfpplnenocjaa
/- THE CELL 'sum', in the pinned program and in every row, IS THE sha256 OF THE DUMP (.gsa) THAT YtdbfpplnenocjaaProg.lean LOADS. Nothing in Lean hashes anything: it is a label: what it is worth is what the hold of that sum in a sandbox is worth. -/
noncomputable def Try.pinned : Pinned := { name := "ytdbfpplnenocjaa", sum := "ef549138dc170851534ad052f9b4e6db98b6cddfa5eceb1eff0dee21e94b9364", checked := Try.checked }
namespace Rows
def none {H : Type} : Left H := { results := [], args := [] }

/-- 'sheerleglaw28.PrologueChecks': WHATEVER THE INPUT: true; the input reads as it did. -/
def prologueChecksSpec : ChangeSpec := { name := "prologueChecks", fn := fun _ => fun
  | [d1, d2, d3, d4] => { results := [.lit (.bool true)], args := [d1, d2, d3, d4] }
  | _ => none }
def prologueChecksRow : OpenClaim := { program := "ytdbfpplnenocjaa", sum := "ef549138dc170851534ad052f9b4e6db98b6cddfa5eceb1eff0dee21e94b9364", func := "sheerleg/sheerleglaw28.PrologueChecks", spec := "prologueChecks", apart := false }
def PrologueChecksSaid : Prop := prologueChecksRow.holds Try.pinned (OpenSpec.ofChange prologueChecksSpec)

/-- ITS FALSE NEIGHBOUR: 'it returns false'. Refute it at one input. -/
def prologueChecksWrong : ChangeSpec := { name := "prologueChecks", fn := fun _ => fun
  | [d1, d2, d3, d4] => { results := [.lit (.bool false)], args := [d1, d2, d3, d4] }
  | _ => none }
def PrologueChecksWrongFalsely : Prop := prologueChecksRow.holds Try.pinned (OpenSpec.ofChange prologueChecksWrong)

/-- 'sheerleglaw28.ProloguePlans': WHATEVER THE INPUT: true; the input reads as it did. -/
def prologuePlansSpec : ChangeSpec := { name := "prologuePlans", fn := fun _ => fun
  | [d1, d2, d3, d4, d5] => { results := [.lit (.bool true)], args := [d1, d2, d3, d4, d5] }
  | _ => none }
def prologuePlansRow : OpenClaim := { program := "ytdbfpplnenocjaa", sum := "ef549138dc170851534ad052f9b4e6db98b6cddfa5eceb1eff0dee21e94b9364", func := "sheerleg/sheerleglaw28.ProloguePlans", spec := "prologuePlans", apart := false }
def ProloguePlansSaid : Prop := prologuePlansRow.holds Try.pinned (OpenSpec.ofChange prologuePlansSpec)

/-- ITS FALSE NEIGHBOUR: 'it returns false'. Refute it at one input. -/
def prologuePlansWrong : ChangeSpec := { name := "prologuePlans", fn := fun _ => fun
  | [d1, d2, d3, d4, d5] => { results := [.lit (.bool false)], args := [d1, d2, d3, d4, d5] }
  | _ => none }
def ProloguePlansWrongFalsely : Prop := prologuePlansRow.holds Try.pinned (OpenSpec.ofChange prologuePlansWrong)

/-- 'sheerleglaw28.PrologueEnough': WHATEVER THE INPUT: true; the input reads as it did. -/
def prologueEnoughSpec : ChangeSpec := { name := "prologueEnough", fn := fun _ => fun
  | [d1, d2, d3, d4] => { results := [.lit (.bool true)], args := [d1, d2, d3, d4] }
  | _ => none }
def prologueEnoughRow : OpenClaim := { program := "ytdbfpplnenocjaa", sum := "ef549138dc170851534ad052f9b4e6db98b6cddfa5eceb1eff0dee21e94b9364", func := "sheerleg/sheerleglaw28.PrologueEnough", spec := "prologueEnough", apart := false }
def PrologueEnoughSaid : Prop := prologueEnoughRow.holds Try.pinned (OpenSpec.ofChange prologueEnoughSpec)

/-- ITS FALSE NEIGHBOUR: 'it returns false'. Refute it at one input. -/
def prologueEnoughWrong : ChangeSpec := { name := "prologueEnough", fn := fun _ => fun
  | [d1, d2, d3, d4] => { results := [.lit (.bool false)], args := [d1, d2, d3, d4] }
  | _ => none }
def PrologueEnoughWrongFalsely : Prop := prologueEnoughRow.holds Try.pinned (OpenSpec.ofChange prologueEnoughWrong)

/- THE SECOND FORM. 'bulk': how many values and letters a reading holds, each counted each time it is reached (what is shared counts as often as it is met; a slice's spare places count too). A statement '..UptoSaid' is the law's where the arguments, and the package variables that the reading takes, are together of bulk at most 1048576: NARROWER than '..Said'. Prove '..Said' where nothing that the law and all that it calls make is longer than what came in: it says more and counts as full. Else prove '..UptoSaid'. A law counts once. -/
mutual
def uptoBulk {H : Type} : DataW H → Nat
  | .lit (.string bytes) => bytes.length + 1
  | .lit _ => 1
  | .nil => 1
  | .ptr d => uptoBulk d + 1
  | .slice elems spare => uptoBulkAll elems + uptoBulkAll spare + 1
  | .agg parts => uptoBulkAll parts + 1
  | .iface _ d => uptoBulk d + 1
  | .map entries => uptoBulkEntries entries + 1
  | .held _ => 1
def uptoBulkAll {H : Type} : List (DataW H) → Nat
  | [] => 0
  | d :: r => uptoBulk d + uptoBulkAll r
def uptoBulkEntries {H : Type} : List (Lit × DataW H) → Nat
  | [] => 0
  | x :: r => uptoBulkEntry x + uptoBulkEntries r
def uptoBulkEntry {H : Type} : Lit × DataW H → Nat
  | (.string bytes, d) => bytes.length + uptoBulk d + 1
  | (_, d) => uptoBulk d + 1
 end
def uptoSmall : (H : Type) → List (DataW H) → Bool := fun _ ds => decide (uptoBulkAll ds ≤ 1048576)
def OpenSpec.upto (s : _root_.Go.ChangeSpec) : _root_.Go.OpenSpec := { _root_.Go.OpenSpec.ofChange s with cond := some uptoSmall }

/-- 'sheerleglaw28.PrologueChecks', WHERE WHAT IT READS IS OF BULK AT MOST 1048576: true; the input reads as it did. -/
def prologueChecksUptoRow : OpenClaim := { program := "ytdbfpplnenocjaa", sum := "ef549138dc170851534ad052f9b4e6db98b6cddfa5eceb1eff0dee21e94b9364", func := "sheerleg/sheerleglaw28.PrologueChecks", spec := "prologueChecks", apart := false, narrowed := true }
def PrologueChecksUptoSaid : Prop := prologueChecksUptoRow.holds Try.pinned (OpenSpec.upto prologueChecksSpec)

/-- 'sheerleglaw28.ProloguePlans', WHERE WHAT IT READS IS OF BULK AT MOST 1048576: true; the input reads as it did. -/
def prologuePlansUptoRow : OpenClaim := { program := "ytdbfpplnenocjaa", sum := "ef549138dc170851534ad052f9b4e6db98b6cddfa5eceb1eff0dee21e94b9364", func := "sheerleg/sheerleglaw28.ProloguePlans", spec := "prologuePlans", apart := false, narrowed := true }
def ProloguePlansUptoSaid : Prop := prologuePlansUptoRow.holds Try.pinned (OpenSpec.upto prologuePlansSpec)

/-- 'sheerleglaw28.PrologueEnough', WHERE WHAT IT READS IS OF BULK AT MOST 1048576: true; the input reads as it did. -/
def prologueEnoughUptoRow : OpenClaim := { program := "ytdbfpplnenocjaa", sum := "ef549138dc170851534ad052f9b4e6db98b6cddfa5eceb1eff0dee21e94b9364", func := "sheerleg/sheerleglaw28.PrologueEnough", spec := "prologueEnough", apart := false, narrowed := true }
def PrologueEnoughUptoSaid : Prop := prologueEnoughUptoRow.holds Try.pinned (OpenSpec.upto prologueEnoughSpec)

end Rows
end Go.Proofs.Ytdbfpplnenocjaa
