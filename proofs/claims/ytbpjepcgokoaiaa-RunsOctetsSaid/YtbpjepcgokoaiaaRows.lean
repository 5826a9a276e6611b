/-
  No cell of these rows narrows 'for every input' (looked for: loops, veiled, ifaces, maps, wideKeys, modest, calm, conditions, laid).
  DERIVED. THE GIVEN ROWS OF THIS SEAT. 3 by the template 'for every input the law returns true; each argument reads behind the call as it read before'; 0 by the template 'total and deterministic' (their statements: YtbpjepcgokoaiaaTotals.lean).
  GIVEN WITH THE SEED: the statements are not yours to turn. If you find one false, say at which input.
  Laid BY PROGRAM, IN A SANDBOX (cutbox-rows.mjs): the forced cells as the released guide's own fill.sh prints them over the translation 1ae5ee805b2a6e9d… (all of the seat's roots in one cut). By AI agents, Wed Nov 11 2026. No macro, syntax, notation, axiom, sorry.
-/
import Derived.Test.YtbpjepcgokoaiaaChecked
import GoSem.Claim
import GoSem.ClaimJoined
import GoSem.ClaimMapViews
import Derived.JoinedTies
import Derived.KernelRfl
namespace Go.Proofs.Ytbpjepcgokoaiaa
/- THE CELL 'sum', in the pinned program and in every row, IS THE sha256 OF THE DUMP (.gsa) THAT YtbpjepcgokoaiaaProg.lean LOADS. Nothing in Lean hashes anything: it is a label: what it is worth is what the hold of that sum in a sandbox is worth. -/
noncomputable def Try.pinned : Pinned := { name := "ytbpjepcgokoaiaa", sum := "1ae5ee805b2a6e9dd27fadc92681804b45341e412433e389355f40f9791a4b94", checked := Try.checked }
namespace Rows
def none {H : Type} : Left H := { results := [], args := [] }

/-- 'sheerleglaw13.RunsMade': WHATEVER THE INPUT: true; the input reads as it did. -/
def runsMadeSpec : ChangeSpec := { name := "runsMade", fn := fun _ => fun
  | [d1, d2] => { results := [.lit (.bool true)], args := [d1, d2] }
  | _ => none }
def runsMadeRow : OpenClaim := { program := "ytbpjepcgokoaiaa", sum := "1ae5ee805b2a6e9dd27fadc92681804b45341e412433e389355f40f9791a4b94", func := "sheerleg/sheerleglaw13.RunsMade", spec := "runsMade", unfollowed := true, recurses := true, apart := false }
def RunsMadeSaid : Prop := runsMadeRow.holds Try.pinned (OpenSpec.ofChange runsMadeSpec)

/-- ITS FALSE NEIGHBOUR: 'it returns false'. Refute it at one input. -/
def runsMadeWrong : ChangeSpec := { name := "runsMade", fn := fun _ => fun
  | [d1, d2] => { results := [.lit (.bool false)], args := [d1, d2] }
  | _ => none }
def RunsMadeWrongFalsely : Prop := runsMadeRow.holds Try.pinned (OpenSpec.ofChange runsMadeWrong)

/-- 'sheerleglaw13.RunsTold': WHATEVER THE INPUT: true; the input reads as it did. -/
def runsToldSpec : ChangeSpec := { name := "runsTold", fn := fun _ => fun
  | [d1, d2, d3] => { results := [.lit (.bool true)], args := [d1, d2, d3] }
  | _ => none }
def runsToldRow : OpenClaim := { program := "ytbpjepcgokoaiaa", sum := "1ae5ee805b2a6e9dd27fadc92681804b45341e412433e389355f40f9791a4b94", func := "sheerleg/sheerleglaw13.RunsTold", spec := "runsTold", unfollowed := true, recurses := true, apart := false }
def RunsToldSaid : Prop := runsToldRow.holds Try.pinned (OpenSpec.ofChange runsToldSpec)

/-- ITS FALSE NEIGHBOUR: 'it returns false'. Refute it at one input. -/
def runsToldWrong : ChangeSpec := { name := "runsTold", fn := fun _ => fun
  | [d1, d2, d3] => { results := [.lit (.bool false)], args := [d1, d2, d3] }
  | _ => none }
def RunsToldWrongFalsely : Prop := runsToldRow.holds Try.pinned (OpenSpec.ofChange runsToldWrong)

/-- 'sheerleglaw13.RunsOctets': WHATEVER THE INPUT: true; the input reads as it did. -/
def runsOctetsSpec : ChangeSpec := { name := "runsOctets", fn := fun _ => fun
  | [d1, d2] => { results := [.lit (.bool true)], args := [d1, d2] }
  | _ => none }
def runsOctetsRow : OpenClaim := { program := "ytbpjepcgokoaiaa", sum := "1ae5ee805b2a6e9dd27fadc92681804b45341e412433e389355f40f9791a4b94", func := "sheerleg/sheerleglaw13.RunsOctets", spec := "runsOctets", unfollowed := true, recurses := true, apart := false }
def RunsOctetsSaid : Prop := runsOctetsRow.holds Try.pinned (OpenSpec.ofChange runsOctetsSpec)

/-- ITS FALSE NEIGHBOUR: 'it returns false'. Refute it at one input. -/
def runsOctetsWrong : ChangeSpec := { name := "runsOctets", fn := fun _ => fun
  | [d1, d2] => { results := [.lit (.bool false)], args := [d1, d2] }
  | _ => none }
def RunsOctetsWrongFalsely : Prop := runsOctetsRow.holds Try.pinned (OpenSpec.ofChange runsOctetsWrong)

/- THE SECOND FORM. 'bulk': how many values and letters a reading holds, each counted each time it is reached (what is shared counts as often as it is met; a slice's spare places count too). A statement '..UptoSaid' is the law's where the arguments, and the package variables that the reading takes, are together of bulk at most 1048576: NARROWER than '..Said'. Prove '..Said' where nothing that the law and all that it calls make is longer than what came in: it says more and counts as full. Else prove '..UptoSaid'. A law counts once. -/
mutual
def uptoBulk {H : Type} : DataW H → Nat
  | .lit (.string bytes) => bytes.length + 1
  | .lit _ => 1
  | .nil => 1
  | .ptr d => uptoBulk d + 1
  | .slice elems spare => uptoBulkAll elems + uptoBulkAll spare + 1
  | .agg parts => uptoBulkAll parts + 1
  | .iface _ d => uptoBulk d + 1
  | .map entries => uptoBulkEntries entries + 1
  | .held _ => 1
def uptoBulkAll {H : Type} : List (DataW H) → Nat
  | [] => 0
  | d :: r => uptoBulk d + uptoBulkAll r
def uptoBulkEntries {H : Type} : List (Lit × DataW H) → Nat
  | [] => 0
  | x :: r => uptoBulkEntry x + uptoBulkEntries r
def uptoBulkEntry {H : Type} : Lit × DataW H → Nat
  | (.string bytes, d) => bytes.length + uptoBulk d + 1
  | (_, d) => uptoBulk d + 1
 end
def uptoSmall : (H : Type) → List (DataW H) → Bool := fun _ ds => decide (uptoBulkAll ds ≤ 1048576)
def OpenSpec.upto (s : _root_.Go.ChangeSpec) : _root_.Go.OpenSpec := { _root_.Go.OpenSpec.ofChange s with cond := some uptoSmall }

/-- 'sheerleglaw13.RunsMade', WHERE WHAT IT READS IS OF BULK AT MOST 1048576: true; the input reads as it did. -/
def runsMadeUptoRow : OpenClaim := { program := "ytbpjepcgokoaiaa", sum := "1ae5ee805b2a6e9dd27fadc92681804b45341e412433e389355f40f9791a4b94", func := "sheerleg/sheerleglaw13.RunsMade", spec := "runsMade", unfollowed := true, recurses := true, apart := false, narrowed := true }
def RunsMadeUptoSaid : Prop := runsMadeUptoRow.holds Try.pinned (OpenSpec.upto runsMadeSpec)

/-- 'sheerleglaw13.RunsTold', WHERE WHAT IT READS IS OF BULK AT MOST 1048576: true; the input reads as it did. -/
def runsToldUptoRow : OpenClaim := { program := "ytbpjepcgokoaiaa", sum := "1ae5ee805b2a6e9dd27fadc92681804b45341e412433e389355f40f9791a4b94", func := "sheerleg/sheerleglaw13.RunsTold", spec := "runsTold", unfollowed := true, recurses := true, apart := false, narrowed := true }
def RunsToldUptoSaid : Prop := runsToldUptoRow.holds Try.pinned (OpenSpec.upto runsToldSpec)

/-- 'sheerleglaw13.RunsOctets', WHERE WHAT IT READS IS OF BULK AT MOST 1048576: true; the input reads as it did. -/
def runsOctetsUptoRow : OpenClaim := { program := "ytbpjepcgokoaiaa", sum := "1ae5ee805b2a6e9dd27fadc92681804b45341e412433e389355f40f9791a4b94", func := "sheerleg/sheerleglaw13.RunsOctets", spec := "runsOctets", unfollowed := true, recurses := true, apart := false, narrowed := true }
def RunsOctetsUptoSaid : Prop := runsOctetsUptoRow.holds Try.pinned (OpenSpec.upto runsOctetsSpec)

end Rows
end Go.Proofs.Ytbpjepcgokoaiaa
