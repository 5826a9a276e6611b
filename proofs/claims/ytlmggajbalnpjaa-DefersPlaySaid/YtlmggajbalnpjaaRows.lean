/-
  No cell of these rows narrows 'for every input' (looked for: loops, veiled, ifaces, maps, wideKeys, modest, calm, conditions, laid).
  DERIVED. THE GIVEN ROWS OF THIS SEAT. 3 by the template 'for every input the law returns true; each argument reads behind the call as it read before'; 0 by the template 'total and deterministic' (their statements: YtlmggajbalnpjaaTotals.lean).
  GIVEN WITH THE SEED: the statements are not yours to turn. If you find one false, say at which input.
  Laid BY PROGRAM, IN A SANDBOX (cutbox-rows.mjs): the forced cells as the released guide's own fill.sh prints them over the translation 4c3a85628dcee7dd… (all of the seat's roots in one cut). By AI agents, Wed Nov 11 2026. No macro, syntax, notation, axiom, sorry.
-/
import Derived.Test.YtlmggajbalnpjaaChecked
import GoSem.Claim
import GoSem.ClaimJoined
import GoSem.ClaimMapViews
import Derived.JoinedTies
import Derived.KernelRfl
namespace Go.Proofs.Ytlmggajbalnpjaa
/- THE CELL 'sum', in the pinned program and in every row, IS THE sha256 OF THE DUMP (.gsa) THAT YtlmggajbalnpjaaProg.lean LOADS. Nothing in Lean hashes anything: it is a label: what it is worth is what the hold of that sum in a sandbox is worth. -/
noncomputable def Try.pinned : Pinned := { name := "ytlmggajbalnpjaa", sum := "4c3a85628dcee7ddd5109d097f8f247561350def7a39a90ec925f3e08c36af8d", checked := Try.checked }
namespace Rows
def none {H : Type} : Left H := { results := [], args := [] }

/-- 'sheerleglaw40.DefersPlay': WHATEVER THE INPUT: true; the input reads as it did. -/
def defersPlaySpec : ChangeSpec := { name := "defersPlay", fn := fun _ => fun
  | [d] => { results := [.lit (.bool true)], args := [d] }
  | _ => none }
def defersPlayRow : OpenClaim := { program := "ytlmggajbalnpjaa", sum := "4c3a85628dcee7ddd5109d097f8f247561350def7a39a90ec925f3e08c36af8d", func := "sheerleg/sheerleglaw40.DefersPlay", spec := "defersPlay", apart := false }
def DefersPlaySaid : Prop := defersPlayRow.holds Try.pinned (OpenSpec.ofChange defersPlaySpec)

/-- ITS FALSE NEIGHBOUR: 'it returns false'. Refute it at one input. -/
def defersPlayWrong : ChangeSpec := { name := "defersPlay", fn := fun _ => fun
  | [d] => { results := [.lit (.bool false)], args := [d] }
  | _ => none }
def DefersPlayWrongFalsely : Prop := defersPlayRow.holds Try.pinned (OpenSpec.ofChange defersPlayWrong)

/-- 'sheerleglaw40.DefersLast': WHATEVER THE INPUT: true; the input reads as it did. -/
def defersLastSpec : ChangeSpec := { name := "defersLast", fn := fun _ => fun
  | [d1, d2, d3] => { results := [.lit (.bool true)], args := [d1, d2, d3] }
  | _ => none }
def defersLastRow : OpenClaim := { program := "ytlmggajbalnpjaa", sum := "4c3a85628dcee7ddd5109d097f8f247561350def7a39a90ec925f3e08c36af8d", func := "sheerleg/sheerleglaw40.DefersLast", spec := "defersLast", apart := false }
def DefersLastSaid : Prop := defersLastRow.holds Try.pinned (OpenSpec.ofChange defersLastSpec)

/-- ITS FALSE NEIGHBOUR: 'it returns false'. Refute it at one input. -/
def defersLastWrong : ChangeSpec := { name := "defersLast", fn := fun _ => fun
  | [d1, d2, d3] => { results := [.lit (.bool false)], args := [d1, d2, d3] }
  | _ => none }
def DefersLastWrongFalsely : Prop := defersLastRow.holds Try.pinned (OpenSpec.ofChange defersLastWrong)

/-- 'sheerleglaw40.DefersNobody': WHATEVER THE INPUT: true; the input reads as it did. -/
def defersNobodySpec : ChangeSpec := { name := "defersNobody", fn := fun _ => fun
  | [d1, d2] => { results := [.lit (.bool true)], args := [d1, d2] }
  | _ => none }
def defersNobodyRow : OpenClaim := { program := "ytlmggajbalnpjaa", sum := "4c3a85628dcee7ddd5109d097f8f247561350def7a39a90ec925f3e08c36af8d", func := "sheerleg/sheerleglaw40.DefersNobody", spec := "defersNobody", apart := false }
def DefersNobodySaid : Prop := defersNobodyRow.holds Try.pinned (OpenSpec.ofChange defersNobodySpec)

/-- ITS FALSE NEIGHBOUR: 'it returns false'. Refute it at one input. -/
def defersNobodyWrong : ChangeSpec := { name := "defersNobody", fn := fun _ => fun
  | [d1, d2] => { results := [.lit (.bool false)], args := [d1, d2] }
  | _ => none }
def DefersNobodyWrongFalsely : Prop := defersNobodyRow.holds Try.pinned (OpenSpec.ofChange defersNobodyWrong)

/- THE SECOND FORM. 'bulk': how many values and letters a reading holds, each counted each time it is reached (what is shared counts as often as it is met; a slice's spare places count too). A statement '..UptoSaid' is the law's where the arguments, and the package variables that the reading takes, are together of bulk at most 1048576: NARROWER than '..Said'. Prove '..Said' where nothing that the law and all that it calls make is longer than what came in: it says more and counts as full. Else prove '..UptoSaid'. A law counts once. -/
mutual
def uptoBulk {H : Type} : DataW H → Nat
  | .lit (.string bytes) => bytes.length + 1
  | .lit _ => 1
  | .nil => 1
  | .ptr d => uptoBulk d + 1
  | .slice elems spare => uptoBulkAll elems + uptoBulkAll spare + 1
  | .agg parts => uptoBulkAll parts + 1
  | .iface _ d => uptoBulk d + 1
  | .map entries => uptoBulkEntries entries + 1
  | .held _ => 1
def uptoBulkAll {H : Type} : List (DataW H) → Nat
  | [] => 0
  | d :: r => uptoBulk d + uptoBulkAll r
def uptoBulkEntries {H : Type} : List (Lit × DataW H) → Nat
  | [] => 0
  | x :: r => uptoBulkEntry x + uptoBulkEntries r
def uptoBulkEntry {H : Type} : Lit × DataW H → Nat
  | (.string bytes, d) => bytes.length + uptoBulk d + 1
  | (_, d) => uptoBulk d + 1
 end
def uptoSmall : (H : Type) → List (DataW H) → Bool := fun _ ds => decide (uptoBulkAll ds ≤ 1048576)
def OpenSpec.upto (s : _root_.Go.ChangeSpec) : _root_.Go.OpenSpec := { _root_.Go.OpenSpec.ofChange s with cond := some uptoSmall }

/-- 'sheerleglaw40.DefersPlay', WHERE WHAT IT READS IS OF BULK AT MOST 1048576: true; the input reads as it did. -/
def defersPlayUptoRow : OpenClaim := { program := "ytlmggajbalnpjaa", sum := "4c3a85628dcee7ddd5109d097f8f247561350def7a39a90ec925f3e08c36af8d", func := "sheerleg/sheerleglaw40.DefersPlay", spec := "defersPlay", apart := false, narrowed := true }
def DefersPlayUptoSaid : Prop := defersPlayUptoRow.holds Try.pinned (OpenSpec.upto defersPlaySpec)

/-- 'sheerleglaw40.DefersLast', WHERE WHAT IT READS IS OF BULK AT MOST 1048576: true; the input reads as it did. -/
def defersLastUptoRow : OpenClaim := { program := "ytlmggajbalnpjaa", sum := "4c3a85628dcee7ddd5109d097f8f247561350def7a39a90ec925f3e08c36af8d", func := "sheerleg/sheerleglaw40.DefersLast", spec := "defersLast", apart := false, narrowed := true }
def DefersLastUptoSaid : Prop := defersLastUptoRow.holds Try.pinned (OpenSpec.upto defersLastSpec)

/-- 'sheerleglaw40.DefersNobody', WHERE WHAT IT READS IS OF BULK AT MOST 1048576: true; the input reads as it did. -/
def defersNobodyUptoRow : OpenClaim := { program := "ytlmggajbalnpjaa", sum := "4c3a85628dcee7ddd5109d097f8f247561350def7a39a90ec925f3e08c36af8d", func := "sheerleg/sheerleglaw40.DefersNobody", spec := "defersNobody", apart := false, narrowed := true }
def DefersNobodyUptoSaid : Prop := defersNobodyUptoRow.holds Try.pinned (OpenSpec.upto defersNobodySpec)

end Rows
end Go.Proofs.Ytlmggajbalnpjaa
