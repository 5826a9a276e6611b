/-
  No cell of these rows narrows 'for every input' (looked for: loops, veiled, ifaces, maps, wideKeys, modest, calm, conditions, laid).
  DERIVED. THE GIVEN ROWS OF THIS SEAT. 4 by the template 'for every input the law returns true; each argument reads behind the call as it read before'; 0 by the template 'total and deterministic' (their statements: YtbbpdfogfcffbaaTotals.lean).
  GIVEN WITH THE SEED: the statements are not yours to turn. If you find one false, say at which input.
  Laid BY PROGRAM, IN A SANDBOX (cutbox-rows.mjs): the forced cells as the released guide's own fill.sh prints them over the translation 12fd300c84623b60… (all of the seat's roots in one cut). By AI agents, Wed Nov 11 2026. No macro, syntax, notation, axiom, sorry.
-/
import Derived.Test.YtbbpdfogfcffbaaChecked
import GoSem.Claim
import GoSem.ClaimJoined
import GoSem.ClaimMapViews
import Derived.JoinedTies
import Derived.KernelRfl
namespace Go.Proofs.Ytbbpdfogfcffbaa
/- THE CELL 'sum', in the pinned program and in every row, IS THE sha256 OF THE DUMP (.gsa) THAT YtbbpdfogfcffbaaProg.lean LOADS. Nothing in Lean hashes anything: it is a label: what it is worth is what the hold of that sum in a sandbox is worth. -/
noncomputable def Try.pinned : Pinned := { name := "ytbbpdfogfcffbaa", sum := "12fd300c84623b6005b5d2a905910fcea28a4c042d4c0eb63054e11d6b0e4be6", checked := Try.checked }
namespace Rows
def none {H : Type} : Left H := { results := [], args := [] }

/-- 'sheerleglaw36.FramesNew': WHATEVER THE INPUT: true; the input reads as it did. -/
def framesNewSpec : ChangeSpec := { name := "framesNew", fn := fun _ => fun
  | [d1, d2, d3, d4] => { results := [.lit (.bool true)], args := [d1, d2, d3, d4] }
  | _ => none }
def framesNewRow : OpenClaim := { program := "ytbbpdfogfcffbaa", sum := "12fd300c84623b6005b5d2a905910fcea28a4c042d4c0eb63054e11d6b0e4be6", func := "sheerleg/sheerleglaw36.FramesNew", spec := "framesNew", apart := false }
def FramesNewSaid : Prop := framesNewRow.holds Try.pinned (OpenSpec.ofChange framesNewSpec)

/-- ITS FALSE NEIGHBOUR: 'it returns false'. Refute it at one input. -/
def framesNewWrong : ChangeSpec := { name := "framesNew", fn := fun _ => fun
  | [d1, d2, d3, d4] => { results := [.lit (.bool false)], args := [d1, d2, d3, d4] }
  | _ => none }
def FramesNewWrongFalsely : Prop := framesNewRow.holds Try.pinned (OpenSpec.ofChange framesNewWrong)

/-- 'sheerleglaw36.FramesTell': WHATEVER THE INPUT: true; the input reads as it did. -/
def framesTellSpec : ChangeSpec := { name := "framesTell", fn := fun _ => fun
  | [d1, d2, d3, d4] => { results := [.lit (.bool true)], args := [d1, d2, d3, d4] }
  | _ => none }
def framesTellRow : OpenClaim := { program := "ytbbpdfogfcffbaa", sum := "12fd300c84623b6005b5d2a905910fcea28a4c042d4c0eb63054e11d6b0e4be6", func := "sheerleg/sheerleglaw36.FramesTell", spec := "framesTell", apart := false }
def FramesTellSaid : Prop := framesTellRow.holds Try.pinned (OpenSpec.ofChange framesTellSpec)

/-- ITS FALSE NEIGHBOUR: 'it returns false'. Refute it at one input. -/
def framesTellWrong : ChangeSpec := { name := "framesTell", fn := fun _ => fun
  | [d1, d2, d3, d4] => { results := [.lit (.bool false)], args := [d1, d2, d3, d4] }
  | _ => none }
def FramesTellWrongFalsely : Prop := framesTellRow.holds Try.pinned (OpenSpec.ofChange framesTellWrong)

/-- 'sheerleglaw36.FramesApart': WHATEVER THE INPUT: true; the input reads as it did. -/
def framesApartSpec : ChangeSpec := { name := "framesApart", fn := fun _ => fun
  | [d1, d2, d3] => { results := [.lit (.bool true)], args := [d1, d2, d3] }
  | _ => none }
def framesApartRow : OpenClaim := { program := "ytbbpdfogfcffbaa", sum := "12fd300c84623b6005b5d2a905910fcea28a4c042d4c0eb63054e11d6b0e4be6", func := "sheerleg/sheerleglaw36.FramesApart", spec := "framesApart", apart := false }
def FramesApartSaid : Prop := framesApartRow.holds Try.pinned (OpenSpec.ofChange framesApartSpec)

/-- ITS FALSE NEIGHBOUR: 'it returns false'. Refute it at one input. -/
def framesApartWrong : ChangeSpec := { name := "framesApart", fn := fun _ => fun
  | [d1, d2, d3] => { results := [.lit (.bool false)], args := [d1, d2, d3] }
  | _ => none }
def FramesApartWrongFalsely : Prop := framesApartRow.holds Try.pinned (OpenSpec.ofChange framesApartWrong)

/-- 'sheerleglaw36.FramesSlots': WHATEVER THE INPUT: true; the input reads as it did. -/
def framesSlotsSpec : ChangeSpec := { name := "framesSlots", fn := fun _ => fun
  | [d1, d2, d3, d4] => { results := [.lit (.bool true)], args := [d1, d2, d3, d4] }
  | _ => none }
def framesSlotsRow : OpenClaim := { program := "ytbbpdfogfcffbaa", sum := "12fd300c84623b6005b5d2a905910fcea28a4c042d4c0eb63054e11d6b0e4be6", func := "sheerleg/sheerleglaw36.FramesSlots", spec := "framesSlots", apart := false }
def FramesSlotsSaid : Prop := framesSlotsRow.holds Try.pinned (OpenSpec.ofChange framesSlotsSpec)

/-- ITS FALSE NEIGHBOUR: 'it returns false'. Refute it at one input. -/
def framesSlotsWrong : ChangeSpec := { name := "framesSlots", fn := fun _ => fun
  | [d1, d2, d3, d4] => { results := [.lit (.bool false)], args := [d1, d2, d3, d4] }
  | _ => none }
def FramesSlotsWrongFalsely : Prop := framesSlotsRow.holds Try.pinned (OpenSpec.ofChange framesSlotsWrong)

/- THE SECOND FORM. 'bulk': how many values and letters a reading holds, each counted each time it is reached (what is shared counts as often as it is met; a slice's spare places count too). A statement '..UptoSaid' is the law's where the arguments, and the package variables that the reading takes, are together of bulk at most 1048576: NARROWER than '..Said'. Prove '..Said' where nothing that the law and all that it calls make is longer than what came in: it says more and counts as full. Else prove '..UptoSaid'. A law counts once. -/
mutual
def uptoBulk {H : Type} : DataW H → Nat
  | .lit (.string bytes) => bytes.length + 1
  | .lit _ => 1
  | .nil => 1
  | .ptr d => uptoBulk d + 1
  | .slice elems spare => uptoBulkAll elems + uptoBulkAll spare + 1
  | .agg parts => uptoBulkAll parts + 1
  | .iface _ d => uptoBulk d + 1
  | .map entries => uptoBulkEntries entries + 1
  | .held _ => 1
def uptoBulkAll {H : Type} : List (DataW H) → Nat
  | [] => 0
  | d :: r => uptoBulk d + uptoBulkAll r
def uptoBulkEntries {H : Type} : List (Lit × DataW H) → Nat
  | [] => 0
  | x :: r => uptoBulkEntry x + uptoBulkEntries r
def uptoBulkEntry {H : Type} : Lit × DataW H → Nat
  | (.string bytes, d) => bytes.length + uptoBulk d + 1
  | (_, d) => uptoBulk d + 1
 end
def uptoSmall : (H : Type) → List (DataW H) → Bool := fun _ ds => decide (uptoBulkAll ds ≤ 1048576)
def OpenSpec.upto (s : _root_.Go.ChangeSpec) : _root_.Go.OpenSpec := { _root_.Go.OpenSpec.ofChange s with cond := some uptoSmall }

/-- 'sheerleglaw36.FramesNew', WHERE WHAT IT READS IS OF BULK AT MOST 1048576: true; the input reads as it did. -/
def framesNewUptoRow : OpenClaim := { program := "ytbbpdfogfcffbaa", sum := "12fd300c84623b6005b5d2a905910fcea28a4c042d4c0eb63054e11d6b0e4be6", func := "sheerleg/sheerleglaw36.FramesNew", spec := "framesNew", apart := false, narrowed := true }
def FramesNewUptoSaid : Prop := framesNewUptoRow.holds Try.pinned (OpenSpec.upto framesNewSpec)

/-- 'sheerleglaw36.FramesTell', WHERE WHAT IT READS IS OF BULK AT MOST 1048576: true; the input reads as it did. -/
def framesTellUptoRow : OpenClaim := { program := "ytbbpdfogfcffbaa", sum := "12fd300c84623b6005b5d2a905910fcea28a4c042d4c0eb63054e11d6b0e4be6", func := "sheerleg/sheerleglaw36.FramesTell", spec := "framesTell", apart := false, narrowed := true }
def FramesTellUptoSaid : Prop := framesTellUptoRow.holds Try.pinned (OpenSpec.upto framesTellSpec)

/-- 'sheerleglaw36.FramesApart', WHERE WHAT IT READS IS OF BULK AT MOST 1048576: true; the input reads as it did. -/
def framesApartUptoRow : OpenClaim := { program := "ytbbpdfogfcffbaa", sum := "12fd300c84623b6005b5d2a905910fcea28a4c042d4c0eb63054e11d6b0e4be6", func := "sheerleg/sheerleglaw36.FramesApart", spec := "framesApart", apart := false, narrowed := true }
def FramesApartUptoSaid : Prop := framesApartUptoRow.holds Try.pinned (OpenSpec.upto framesApartSpec)

/-- 'sheerleglaw36.FramesSlots', WHERE WHAT IT READS IS OF BULK AT MOST 1048576: true; the input reads as it did. -/
def framesSlotsUptoRow : OpenClaim := { program := "ytbbpdfogfcffbaa", sum := "12fd300c84623b6005b5d2a905910fcea28a4c042d4c0eb63054e11d6b0e4be6", func := "sheerleg/sheerleglaw36.FramesSlots", spec := "framesSlots", apart := false, narrowed := true }
def FramesSlotsUptoSaid : Prop := framesSlotsUptoRow.holds Try.pinned (OpenSpec.upto framesSlotsSpec)

end Rows
end Go.Proofs.Ytbbpdfogfcffbaa
