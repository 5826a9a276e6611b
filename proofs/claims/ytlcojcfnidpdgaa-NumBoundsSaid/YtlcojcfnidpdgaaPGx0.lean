-- Written by a program of this work (the print, with parts of our own); Lean checks it.
import Derived.Test.YtlcojcfnidpdgaaProg
import Derived.Below
import Derived.Deep.Draws
import Derived.Deep.AppendLies
import Derived.Maps.AppendAt
import Derived.OwnWalk
import Derived.Laws.BytesArg
import Derived.Laws.MakeOwn
import Derived.Laws.OwnMore
import Derived.Deep.OwnRows
import Derived.Tactics
import Derived.Lib.ConvBytes
import Derived.Laws.Slices
import Derived.WalkKit
import Derived.KernelRfl
import Derived.RowKit3
import Derived.Deep.LoopGhost
import Derived.Deep.QuietTactic
import Derived.BigQuiet
import Derived.WideLaws
import Derived.Deep.DeepCutAuto
import Derived.Deep.CutBlock
import Derived.Deep.RegionHeld3
import Derived.Laws.Rows
import Derived.Lib.AppendStr
import Derived.ArgAppend
import Derived.Laws.IdiomCopy
import Derived.OrdersHeld
import Derived.Laws.BitsLemmas
import Derived.RowKit
import Derived.Laws.EntriesVeiled
import Derived.Test.YtlcojcfnidpdgaaWWords
import Derived.Test.YtlcojcfnidpdgaaWLast
import Derived.Test.YtlcojcfnidpdgaaWTab
import Derived.Test.YtlcojcfnidpdgaaWFour
import Derived.Test.YtlcojcfnidpdgaaWQPut
import Derived.Test.YtlcojcfnidpdgaaWApart
import Derived.Test.YtlcojcfnidpdgaaWArr
import Derived.Test.YtlcojcfnidpdgaaWZeros
import Derived.Test.YtlcojcfnidpdgaaWFoot
import Derived.Test.YtlcojcfnidpdgaaWKept
import Derived.Test.YtlcojcfnidpdgaaWShare
import Derived.Test.YtlcojcfnidpdgaaWN
import Derived.Test.YtlcojcfnidpdgaaWFootNe
import Derived.Test.YtlcojcfnidpdgaaWAt
import Derived.Test.YtlcojcfnidpdgaaWEqStruct
import Derived.Test.YtlcojcfnidpdgaaWRepsOne
import Derived.Test.YtlcojcfnidpdgaaWInv
import Derived.Test.YtlcojcfnidpdgaaWInvWords
import Derived.Test.YtlcojcfnidpdgaaWGuard
import Derived.Test.YtlcojcfnidpdgaaWNEv
import Derived.Test.YtlcojcfnidpdgaaWMore
namespace Go.Proofs.Ytlcojcfnidpdgaa.PG
open Go.RowKit Go.Proofs.YtlcojcfnidpdgaaW.PrintWords Go.Proofs.YtlcojcfnidpdgaaW.PrintLast Go.Proofs.YtlcojcfnidpdgaaW.PrintMore
attribute [local go_sem] max2_int min2_int max_two min_two max_three min_three max_four min_four   -- for this text's walks alone
set_option linter.unusedVariables false
set_option linter.unusedSimpArgs false



def errW : Option Int → Value
  | none => .nilIface
  | some c => .iface 0 (.int .i64 c)
theorem errW_none : errW none = .nilIface := rfl
theorem errW_some (c : Int) : errW (some c) = .iface 0 (.int .i64 c) := rfl

-- the values' own types

end Go.Proofs.Ytlcojcfnidpdgaa.PG
