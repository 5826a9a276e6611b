-- Written by a program of this work (the print, with parts of our own); Lean checks it.
import Derived.Test.YtffcgkfdjifjkaaProg
import Derived.Below
import Derived.Deep.Draws
import Derived.Deep.AppendLies
import Derived.Maps.AppendAt
import Derived.OwnWalk
import Derived.Laws.BytesArg
import Derived.Laws.MakeOwn
import Derived.Laws.OwnMore
import Derived.Deep.OwnRows
import Derived.Tactics
import Derived.Lib.ConvBytes
import Derived.Laws.Slices
import Derived.WalkKit
import Derived.KernelRfl
import Derived.RowKit3
import Derived.Deep.LoopGhost
import Derived.Deep.QuietTactic
import Derived.BigQuiet
import Derived.WideLaws
import Derived.Deep.DeepCutAuto
import Derived.Deep.CutBlock
import Derived.Deep.RegionHeld3
import Derived.Laws.Rows
import Derived.Lib.AppendStr
import Derived.ArgAppend
import Derived.Laws.IdiomCopy
import Derived.OrdersHeld
import Derived.Laws.BitsLemmas
import Derived.RowKit
import Derived.Laws.EntriesVeiled
import Derived.Laws.Tables
import Derived.Test.YtffcgkfdjifjkaaWWords
import Derived.Test.YtffcgkfdjifjkaaWLast
import Derived.Test.YtffcgkfdjifjkaaWTab
import Derived.Test.YtffcgkfdjifjkaaWFour
import Derived.Test.YtffcgkfdjifjkaaWQPut
import Derived.Test.YtffcgkfdjifjkaaWApart
import Derived.Test.YtffcgkfdjifjkaaWArr
import Derived.Test.YtffcgkfdjifjkaaWZeros
import Derived.Test.YtffcgkfdjifjkaaWFoot
import Derived.Test.YtffcgkfdjifjkaaWKept
import Derived.Test.YtffcgkfdjifjkaaWShare
import Derived.Test.YtffcgkfdjifjkaaWN
import Derived.Test.YtffcgkfdjifjkaaWFootNe
import Derived.Test.YtffcgkfdjifjkaaWAt
import Derived.Test.YtffcgkfdjifjkaaWEqStruct
import Derived.Test.YtffcgkfdjifjkaaWRepsOne
import Derived.Test.YtffcgkfdjifjkaaWInv
import Derived.Test.YtffcgkfdjifjkaaWInvWords
import Derived.Test.YtffcgkfdjifjkaaWGuard
import Derived.Test.YtffcgkfdjifjkaaWNEv
import Derived.Test.YtffcgkfdjifjkaaWMore
namespace Go.Proofs.Ytffcgkfdjifjkaa.PG
open Go.RowKit Go.Proofs.YtffcgkfdjifjkaaW.PrintWords Go.Proofs.YtffcgkfdjifjkaaW.PrintLast Go.Proofs.YtffcgkfdjifjkaaW.PrintMore
attribute [local go_sem] max2_int min2_int max_two min_two max_three min_three max_four min_four   -- for this text's walks alone
set_option linter.unusedVariables false
set_option linter.unusedSimpArgs false



def errW : Option Int → Value
  | none => .nilIface
  | some c => .iface 0 (.int .i64 c)
theorem errW_none : errW none = .nilIface := rfl
theorem errW_some (c : Int) : errW (some c) = .iface 0 (.int .i64 c) := rfl

theorem info5 : (Try.prog.info? 5).map (fun i => (i.zero, i.size, i.bytes)) = some (some (.int .u8 0), 1, 1) := by kernel_rfl
theorem info9 : (Try.prog.info? 9).map (fun i => (i.zero, i.size, i.bytes)) = some (some (.string ⟨#[]⟩), 1, 16) := by kernel_rfl
-- the values' own types

end Go.Proofs.Ytffcgkfdjifjkaa.PG
