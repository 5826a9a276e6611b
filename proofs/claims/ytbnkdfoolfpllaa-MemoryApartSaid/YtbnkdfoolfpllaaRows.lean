/-
  No cell of these rows narrows 'for every input' (looked for: loops, veiled, ifaces, maps, wideKeys, modest, calm, conditions, laid).
  DERIVED. THE GIVEN ROWS OF THIS SEAT. 4 by the template 'for every input the law returns true; each argument reads behind the call as it read before'; 0 by the template 'total and deterministic' (their statements: YtbnkdfoolfpllaaTotals.lean).
  GIVEN WITH THE SEED: the statements are not yours to turn. If you find one false, say at which input.
  Laid BY PROGRAM, IN A SANDBOX (cutbox-rows.mjs): the forced cells as the released guide's own fill.sh prints them over the translation dccc7ec95b2d3d89… (all of the seat's roots in one cut). By AI agents, Wed Nov 11 2026. No macro, syntax, notation, axiom, sorry.
-/
import Derived.Test.YtbnkdfoolfpllaaChecked
import GoSem.Claim
import GoSem.ClaimJoined
import GoSem.ClaimMapViews
import Derived.JoinedTies
import Derived.KernelRfl
namespace Go.Proofs.Ytbnkdfoolfpllaa
/- THE CELL 'sum', in the pinned program and in every row, IS THE sha256 OF THE DUMP (.gsa) THAT YtbnkdfoolfpllaaProg.lean LOADS. Nothing in Lean hashes anything: it is a label: what it is worth is what the hold of that sum in a sandbox is worth. -/
noncomputable def Try.pinned : Pinned := { name := "ytbnkdfoolfpllaa", sum := "dccc7ec95b2d3d89683f31b706c91fe89af02185678c62e154fd5591b654c8d0", checked := Try.checked }
namespace Rows
def none {H : Type} : Left H := { results := [], args := [] }

/-- 'sheerleglaw38.MemoryPlays': WHATEVER THE INPUT: true; the input reads as it did. -/
def memoryPlaysSpec : ChangeSpec := { name := "memoryPlays", fn := fun _ => fun
  | [d1, d2] => { results := [.lit (.bool true)], args := [d1, d2] }
  | _ => none }
def memoryPlaysRow : OpenClaim := { program := "ytbnkdfoolfpllaa", sum := "dccc7ec95b2d3d89683f31b706c91fe89af02185678c62e154fd5591b654c8d0", func := "sheerleg/sheerleglaw38.MemoryPlays", spec := "memoryPlays", unfollowed := true, recurses := true, apart := false }
def MemoryPlaysSaid : Prop := memoryPlaysRow.holds Try.pinned (OpenSpec.ofChange memoryPlaysSpec)

/-- ITS FALSE NEIGHBOUR: 'it returns false'. Refute it at one input. -/
def memoryPlaysWrong : ChangeSpec := { name := "memoryPlays", fn := fun _ => fun
  | [d1, d2] => { results := [.lit (.bool false)], args := [d1, d2] }
  | _ => none }
def MemoryPlaysWrongFalsely : Prop := memoryPlaysRow.holds Try.pinned (OpenSpec.ofChange memoryPlaysWrong)

/-- 'sheerleglaw38.MemoryApart': WHATEVER THE INPUT: true; the input reads as it did. -/
def memoryApartSpec : ChangeSpec := { name := "memoryApart", fn := fun _ => fun
  | [d1, d2, d3] => { results := [.lit (.bool true)], args := [d1, d2, d3] }
  | _ => none }
def memoryApartRow : OpenClaim := { program := "ytbnkdfoolfpllaa", sum := "dccc7ec95b2d3d89683f31b706c91fe89af02185678c62e154fd5591b654c8d0", func := "sheerleg/sheerleglaw38.MemoryApart", spec := "memoryApart", unfollowed := true, recurses := true, apart := false }
def MemoryApartSaid : Prop := memoryApartRow.holds Try.pinned (OpenSpec.ofChange memoryApartSpec)

/-- ITS FALSE NEIGHBOUR: 'it returns false'. Refute it at one input. -/
def memoryApartWrong : ChangeSpec := { name := "memoryApart", fn := fun _ => fun
  | [d1, d2, d3] => { results := [.lit (.bool false)], args := [d1, d2, d3] }
  | _ => none }
def MemoryApartWrongFalsely : Prop := memoryApartRow.holds Try.pinned (OpenSpec.ofChange memoryApartWrong)

/-- 'sheerleglaw38.MemoryNobody': WHATEVER THE INPUT: true; the input reads as it did. -/
def memoryNobodySpec : ChangeSpec := { name := "memoryNobody", fn := fun _ => fun
  | [d1, d2] => { results := [.lit (.bool true)], args := [d1, d2] }
  | _ => none }
def memoryNobodyRow : OpenClaim := { program := "ytbnkdfoolfpllaa", sum := "dccc7ec95b2d3d89683f31b706c91fe89af02185678c62e154fd5591b654c8d0", func := "sheerleg/sheerleglaw38.MemoryNobody", spec := "memoryNobody", unfollowed := true, recurses := true, apart := false }
def MemoryNobodySaid : Prop := memoryNobodyRow.holds Try.pinned (OpenSpec.ofChange memoryNobodySpec)

/-- ITS FALSE NEIGHBOUR: 'it returns false'. Refute it at one input. -/
def memoryNobodyWrong : ChangeSpec := { name := "memoryNobody", fn := fun _ => fun
  | [d1, d2] => { results := [.lit (.bool false)], args := [d1, d2] }
  | _ => none }
def MemoryNobodyWrongFalsely : Prop := memoryNobodyRow.holds Try.pinned (OpenSpec.ofChange memoryNobodyWrong)

/-- 'sheerleglaw38.MemoryItems': WHATEVER THE INPUT: true; the input reads as it did. -/
def memoryItemsSpec : ChangeSpec := { name := "memoryItems", fn := fun _ => fun
  | [d1, d2, d3, d4] => { results := [.lit (.bool true)], args := [d1, d2, d3, d4] }
  | _ => none }
def memoryItemsRow : OpenClaim := { program := "ytbnkdfoolfpllaa", sum := "dccc7ec95b2d3d89683f31b706c91fe89af02185678c62e154fd5591b654c8d0", func := "sheerleg/sheerleglaw38.MemoryItems", spec := "memoryItems", unfollowed := true, recurses := true, apart := false }
def MemoryItemsSaid : Prop := memoryItemsRow.holds Try.pinned (OpenSpec.ofChange memoryItemsSpec)

/-- ITS FALSE NEIGHBOUR: 'it returns false'. Refute it at one input. -/
def memoryItemsWrong : ChangeSpec := { name := "memoryItems", fn := fun _ => fun
  | [d1, d2, d3, d4] => { results := [.lit (.bool false)], args := [d1, d2, d3, d4] }
  | _ => none }
def MemoryItemsWrongFalsely : Prop := memoryItemsRow.holds Try.pinned (OpenSpec.ofChange memoryItemsWrong)

/- THE SECOND FORM. 'bulk': how many values and letters a reading holds, each counted each time it is reached (what is shared counts as often as it is met; a slice's spare places count too). A statement '..UptoSaid' is the law's where the arguments, and the package variables that the reading takes, are together of bulk at most 1048576: NARROWER than '..Said'. Prove '..Said' where nothing that the law and all that it calls make is longer than what came in: it says more and counts as full. Else prove '..UptoSaid'. A law counts once. -/
mutual
def uptoBulk {H : Type} : DataW H → Nat
  | .lit (.string bytes) => bytes.length + 1
  | .lit _ => 1
  | .nil => 1
  | .ptr d => uptoBulk d + 1
  | .slice elems spare => uptoBulkAll elems + uptoBulkAll spare + 1
  | .agg parts => uptoBulkAll parts + 1
  | .iface _ d => uptoBulk d + 1
  | .map entries => uptoBulkEntries entries + 1
  | .held _ => 1
def uptoBulkAll {H : Type} : List (DataW H) → Nat
  | [] => 0
  | d :: r => uptoBulk d + uptoBulkAll r
def uptoBulkEntries {H : Type} : List (Lit × DataW H) → Nat
  | [] => 0
  | x :: r => uptoBulkEntry x + uptoBulkEntries r
def uptoBulkEntry {H : Type} : Lit × DataW H → Nat
  | (.string bytes, d) => bytes.length + uptoBulk d + 1
  | (_, d) => uptoBulk d + 1
 end
def uptoSmall : (H : Type) → List (DataW H) → Bool := fun _ ds => decide (uptoBulkAll ds ≤ 1048576)
def OpenSpec.upto (s : _root_.Go.ChangeSpec) : _root_.Go.OpenSpec := { _root_.Go.OpenSpec.ofChange s with cond := some uptoSmall }

/-- 'sheerleglaw38.MemoryPlays', WHERE WHAT IT READS IS OF BULK AT MOST 1048576: true; the input reads as it did. -/
def memoryPlaysUptoRow : OpenClaim := { program := "ytbnkdfoolfpllaa", sum := "dccc7ec95b2d3d89683f31b706c91fe89af02185678c62e154fd5591b654c8d0", func := "sheerleg/sheerleglaw38.MemoryPlays", spec := "memoryPlays", unfollowed := true, recurses := true, apart := false, narrowed := true }
def MemoryPlaysUptoSaid : Prop := memoryPlaysUptoRow.holds Try.pinned (OpenSpec.upto memoryPlaysSpec)

/-- 'sheerleglaw38.MemoryApart', WHERE WHAT IT READS IS OF BULK AT MOST 1048576: true; the input reads as it did. -/
def memoryApartUptoRow : OpenClaim := { program := "ytbnkdfoolfpllaa", sum := "dccc7ec95b2d3d89683f31b706c91fe89af02185678c62e154fd5591b654c8d0", func := "sheerleg/sheerleglaw38.MemoryApart", spec := "memoryApart", unfollowed := true, recurses := true, apart := false, narrowed := true }
def MemoryApartUptoSaid : Prop := memoryApartUptoRow.holds Try.pinned (OpenSpec.upto memoryApartSpec)

/-- 'sheerleglaw38.MemoryNobody', WHERE WHAT IT READS IS OF BULK AT MOST 1048576: true; the input reads as it did. -/
def memoryNobodyUptoRow : OpenClaim := { program := "ytbnkdfoolfpllaa", sum := "dccc7ec95b2d3d89683f31b706c91fe89af02185678c62e154fd5591b654c8d0", func := "sheerleg/sheerleglaw38.MemoryNobody", spec := "memoryNobody", unfollowed := true, recurses := true, apart := false, narrowed := true }
def MemoryNobodyUptoSaid : Prop := memoryNobodyUptoRow.holds Try.pinned (OpenSpec.upto memoryNobodySpec)

/-- 'sheerleglaw38.MemoryItems', WHERE WHAT IT READS IS OF BULK AT MOST 1048576: true; the input reads as it did. -/
def memoryItemsUptoRow : OpenClaim := { program := "ytbnkdfoolfpllaa", sum := "dccc7ec95b2d3d89683f31b706c91fe89af02185678c62e154fd5591b654c8d0", func := "sheerleg/sheerleglaw38.MemoryItems", spec := "memoryItems", unfollowed := true, recurses := true, apart := false, narrowed := true }
def MemoryItemsUptoSaid : Prop := memoryItemsUptoRow.holds Try.pinned (OpenSpec.upto memoryItemsSpec)

end Rows
end Go.Proofs.Ytbnkdfoolfpllaa
