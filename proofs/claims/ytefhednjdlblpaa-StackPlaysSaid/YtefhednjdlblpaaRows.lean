/-
  No cell of these rows narrows 'for every input' (looked for: loops, veiled, ifaces, maps, wideKeys, modest, calm, conditions, laid).
  DERIVED. THE GIVEN ROWS OF THIS SEAT. 4 by the template 'for every input the law returns true; each argument reads behind the call as it read before'; 0 by the template 'total and deterministic' (their statements: YtefhednjdlblpaaTotals.lean).
  GIVEN WITH THE SEED: the statements are not yours to turn. If you find one false, say at which input.
  Laid BY PROGRAM, IN A SANDBOX (cutbox-rows.mjs): the forced cells as the released guide's own fill.sh prints them over the translation 755f3172f57290b5… (all of the seat's roots in one cut). By AI agents, Wed Nov 11 2026. No macro, syntax, notation, axiom, sorry.
-/
import Derived.Test.YtefhednjdlblpaaChecked
import GoSem.Claim
import GoSem.ClaimJoined
import GoSem.ClaimMapViews
import Derived.JoinedTies
import Derived.KernelRfl
namespace Go.Proofs.Ytefhednjdlblpaa
/- THE CELL 'sum', in the pinned program and in every row, IS THE sha256 OF THE DUMP (.gsa) THAT YtefhednjdlblpaaProg.lean LOADS. Nothing in Lean hashes anything: it is a label: what it is worth is what the hold of that sum in a sandbox is worth. -/
noncomputable def Try.pinned : Pinned := { name := "ytefhednjdlblpaa", sum := "755f3172f57290b5a8e746bab61cbe7d7b22bb4575f6485d00f51dd86a3a8a19", checked := Try.checked }
namespace Rows
def none {H : Type} : Left H := { results := [], args := [] }

/-- 'sheerleglaw39.StackKeeps': WHATEVER THE INPUT: true; the input reads as it did. -/
def stackKeepsSpec : ChangeSpec := { name := "stackKeeps", fn := fun _ => fun
  | [d1, d2] => { results := [.lit (.bool true)], args := [d1, d2] }
  | _ => none }
def stackKeepsRow : OpenClaim := { program := "ytefhednjdlblpaa", sum := "755f3172f57290b5a8e746bab61cbe7d7b22bb4575f6485d00f51dd86a3a8a19", func := "sheerleg/sheerleglaw39.StackKeeps", spec := "stackKeeps", unfollowed := true, recurses := true, apart := false }
def StackKeepsSaid : Prop := stackKeepsRow.holds Try.pinned (OpenSpec.ofChange stackKeepsSpec)

/-- ITS FALSE NEIGHBOUR: 'it returns false'. Refute it at one input. -/
def stackKeepsWrong : ChangeSpec := { name := "stackKeeps", fn := fun _ => fun
  | [d1, d2] => { results := [.lit (.bool false)], args := [d1, d2] }
  | _ => none }
def StackKeepsWrongFalsely : Prop := stackKeepsRow.holds Try.pinned (OpenSpec.ofChange stackKeepsWrong)

/-- 'sheerleglaw39.StackPlays': WHATEVER THE INPUT: true; the input reads as it did. -/
def stackPlaysSpec : ChangeSpec := { name := "stackPlays", fn := fun _ => fun
  | [d1, d2, d3] => { results := [.lit (.bool true)], args := [d1, d2, d3] }
  | _ => none }
def stackPlaysRow : OpenClaim := { program := "ytefhednjdlblpaa", sum := "755f3172f57290b5a8e746bab61cbe7d7b22bb4575f6485d00f51dd86a3a8a19", func := "sheerleg/sheerleglaw39.StackPlays", spec := "stackPlays", unfollowed := true, recurses := true, apart := false }
def StackPlaysSaid : Prop := stackPlaysRow.holds Try.pinned (OpenSpec.ofChange stackPlaysSpec)

/-- ITS FALSE NEIGHBOUR: 'it returns false'. Refute it at one input. -/
def stackPlaysWrong : ChangeSpec := { name := "stackPlays", fn := fun _ => fun
  | [d1, d2, d3] => { results := [.lit (.bool false)], args := [d1, d2, d3] }
  | _ => none }
def StackPlaysWrongFalsely : Prop := stackPlaysRow.holds Try.pinned (OpenSpec.ofChange stackPlaysWrong)

/-- 'sheerleglaw39.StackNobody': WHATEVER THE INPUT: true; the input reads as it did. -/
def stackNobodySpec : ChangeSpec := { name := "stackNobody", fn := fun _ => fun
  | [d1, d2] => { results := [.lit (.bool true)], args := [d1, d2] }
  | _ => none }
def stackNobodyRow : OpenClaim := { program := "ytefhednjdlblpaa", sum := "755f3172f57290b5a8e746bab61cbe7d7b22bb4575f6485d00f51dd86a3a8a19", func := "sheerleg/sheerleglaw39.StackNobody", spec := "stackNobody", unfollowed := true, recurses := true, apart := false }
def StackNobodySaid : Prop := stackNobodyRow.holds Try.pinned (OpenSpec.ofChange stackNobodySpec)

/-- ITS FALSE NEIGHBOUR: 'it returns false'. Refute it at one input. -/
def stackNobodyWrong : ChangeSpec := { name := "stackNobody", fn := fun _ => fun
  | [d1, d2] => { results := [.lit (.bool false)], args := [d1, d2] }
  | _ => none }
def StackNobodyWrongFalsely : Prop := stackNobodyRow.holds Try.pinned (OpenSpec.ofChange stackNobodyWrong)

/-- 'sheerleglaw39.StackLow': WHATEVER THE INPUT: true; the input reads as it did. -/
def stackLowSpec : ChangeSpec := { name := "stackLow", fn := fun _ => fun
  | [d1, d2] => { results := [.lit (.bool true)], args := [d1, d2] }
  | _ => none }
def stackLowRow : OpenClaim := { program := "ytefhednjdlblpaa", sum := "755f3172f57290b5a8e746bab61cbe7d7b22bb4575f6485d00f51dd86a3a8a19", func := "sheerleg/sheerleglaw39.StackLow", spec := "stackLow", unfollowed := true, recurses := true, apart := false }
def StackLowSaid : Prop := stackLowRow.holds Try.pinned (OpenSpec.ofChange stackLowSpec)

/-- ITS FALSE NEIGHBOUR: 'it returns false'. Refute it at one input. -/
def stackLowWrong : ChangeSpec := { name := "stackLow", fn := fun _ => fun
  | [d1, d2] => { results := [.lit (.bool false)], args := [d1, d2] }
  | _ => none }
def StackLowWrongFalsely : Prop := stackLowRow.holds Try.pinned (OpenSpec.ofChange stackLowWrong)

/- THE SECOND FORM. 'bulk': how many values and letters a reading holds, each counted each time it is reached (what is shared counts as often as it is met; a slice's spare places count too). A statement '..UptoSaid' is the law's where the arguments, and the package variables that the reading takes, are together of bulk at most 1048576: NARROWER than '..Said'. Prove '..Said' where nothing that the law and all that it calls make is longer than what came in: it says more and counts as full. Else prove '..UptoSaid'. A law counts once. -/
mutual
def uptoBulk {H : Type} : DataW H → Nat
  | .lit (.string bytes) => bytes.length + 1
  | .lit _ => 1
  | .nil => 1
  | .ptr d => uptoBulk d + 1
  | .slice elems spare => uptoBulkAll elems + uptoBulkAll spare + 1
  | .agg parts => uptoBulkAll parts + 1
  | .iface _ d => uptoBulk d + 1
  | .map entries => uptoBulkEntries entries + 1
  | .held _ => 1
def uptoBulkAll {H : Type} : List (DataW H) → Nat
  | [] => 0
  | d :: r => uptoBulk d + uptoBulkAll r
def uptoBulkEntries {H : Type} : List (Lit × DataW H) → Nat
  | [] => 0
  | x :: r => uptoBulkEntry x + uptoBulkEntries r
def uptoBulkEntry {H : Type} : Lit × DataW H → Nat
  | (.string bytes, d) => bytes.length + uptoBulk d + 1
  | (_, d) => uptoBulk d + 1
 end
def uptoSmall : (H : Type) → List (DataW H) → Bool := fun _ ds => decide (uptoBulkAll ds ≤ 1048576)
def OpenSpec.upto (s : _root_.Go.ChangeSpec) : _root_.Go.OpenSpec := { _root_.Go.OpenSpec.ofChange s with cond := some uptoSmall }

/-- 'sheerleglaw39.StackKeeps', WHERE WHAT IT READS IS OF BULK AT MOST 1048576: true; the input reads as it did. -/
def stackKeepsUptoRow : OpenClaim := { program := "ytefhednjdlblpaa", sum := "755f3172f57290b5a8e746bab61cbe7d7b22bb4575f6485d00f51dd86a3a8a19", func := "sheerleg/sheerleglaw39.StackKeeps", spec := "stackKeeps", unfollowed := true, recurses := true, apart := false, narrowed := true }
def StackKeepsUptoSaid : Prop := stackKeepsUptoRow.holds Try.pinned (OpenSpec.upto stackKeepsSpec)

/-- 'sheerleglaw39.StackPlays', WHERE WHAT IT READS IS OF BULK AT MOST 1048576: true; the input reads as it did. -/
def stackPlaysUptoRow : OpenClaim := { program := "ytefhednjdlblpaa", sum := "755f3172f57290b5a8e746bab61cbe7d7b22bb4575f6485d00f51dd86a3a8a19", func := "sheerleg/sheerleglaw39.StackPlays", spec := "stackPlays", unfollowed := true, recurses := true, apart := false, narrowed := true }
def StackPlaysUptoSaid : Prop := stackPlaysUptoRow.holds Try.pinned (OpenSpec.upto stackPlaysSpec)

/-- 'sheerleglaw39.StackNobody', WHERE WHAT IT READS IS OF BULK AT MOST 1048576: true; the input reads as it did. -/
def stackNobodyUptoRow : OpenClaim := { program := "ytefhednjdlblpaa", sum := "755f3172f57290b5a8e746bab61cbe7d7b22bb4575f6485d00f51dd86a3a8a19", func := "sheerleg/sheerleglaw39.StackNobody", spec := "stackNobody", unfollowed := true, recurses := true, apart := false, narrowed := true }
def StackNobodyUptoSaid : Prop := stackNobodyUptoRow.holds Try.pinned (OpenSpec.upto stackNobodySpec)

/-- 'sheerleglaw39.StackLow', WHERE WHAT IT READS IS OF BULK AT MOST 1048576: true; the input reads as it did. -/
def stackLowUptoRow : OpenClaim := { program := "ytefhednjdlblpaa", sum := "755f3172f57290b5a8e746bab61cbe7d7b22bb4575f6485d00f51dd86a3a8a19", func := "sheerleg/sheerleglaw39.StackLow", spec := "stackLow", unfollowed := true, recurses := true, apart := false, narrowed := true }
def StackLowUptoSaid : Prop := stackLowUptoRow.holds Try.pinned (OpenSpec.upto stackLowSpec)

end Rows
end Go.Proofs.Ytefhednjdlblpaa
