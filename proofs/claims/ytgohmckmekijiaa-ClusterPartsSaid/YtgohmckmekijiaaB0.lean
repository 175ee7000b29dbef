/- The walk of small Go functions of package cluster to their answers in plain Lean; no further condition. -/
import Derived.Test.YtgohmckmekijiaaProg
import Derived.Below
import Derived.Deep.Draws
import Derived.Deep.AppendLies
import Derived.Maps.AppendAt
import Derived.OwnWalk
import Derived.Laws.BytesArg
import Derived.Laws.MakeOwn
import Derived.Laws.OwnMore
import Derived.Deep.OwnRows
import Derived.Tactics
import Derived.Lib.ConvBytes
import Derived.Laws.Slices
import Derived.WalkKit
import Derived.KernelRfl
import Derived.RowKit3
import Derived.Deep.LoopGhost
import Derived.Deep.QuietTactic
import Derived.BigQuiet
import Derived.WideLaws
import Derived.Deep.DeepCutAuto
import Derived.Deep.CutBlock
import Derived.Deep.RegionHeld3
import Derived.Laws.Rows
import Derived.Lib.AppendStr
import Derived.ArgAppend
import Derived.Laws.IdiomCopy
import Derived.OrdersHeld
import Derived.Laws.BitsLemmas
import Derived.RowKit
import Derived.Test.YtgohmckmekijiaaWWords
import Derived.Test.YtgohmckmekijiaaWLast
import Derived.Test.YtgohmckmekijiaaWTab
import Derived.Test.YtgohmckmekijiaaWFour
import Derived.Test.YtgohmckmekijiaaWQPut
import Derived.Test.YtgohmckmekijiaaWApart
import Derived.Test.YtgohmckmekijiaaWArr
import Derived.Test.YtgohmckmekijiaaWZeros
import Derived.Test.YtgohmckmekijiaaWFoot
import Derived.Test.YtgohmckmekijiaaWKept
import Derived.Test.YtgohmckmekijiaaWShare
import Derived.Test.YtgohmckmekijiaaWN
import Derived.Test.YtgohmckmekijiaaWFootNe
import Derived.Test.YtgohmckmekijiaaWAt
import Derived.Test.YtgohmckmekijiaaWEqStruct
import Derived.Test.YtgohmckmekijiaaWRepsOne
import Derived.Test.YtgohmckmekijiaaWInv
import Derived.Test.YtgohmckmekijiaaWInvWords
import Derived.Test.YtgohmckmekijiaaWGuard
import Derived.Test.YtgohmckmekijiaaWNEv
import Derived.Test.YtgohmckmekijiaaWMore
namespace Go.Proofs.Ytgohmckmekijiaa.PBase
open Go.RowKit Go.Proofs.YtgohmckmekijiaaW.PrintWords Go.Proofs.YtgohmckmekijiaaW.PrintLast Go.Proofs.YtgohmckmekijiaaW.PrintMore
attribute [local go_sem] max2_int min2_int max_two min_two max_three min_three max_four min_four   -- for this text's walks alone
set_option linter.unusedVariables false
set_option linter.unusedSimpArgs false



def errW : Option Int → Value
  | none => .nilIface
  | some c => .iface 0 (.int .i64 c)
theorem errW_none : errW none = .nilIface := rfl
theorem errW_some (c : Int) : errW (some c) = .iface 0 (.int .i64 c) := rfl

-- the values' own types

end Go.Proofs.Ytgohmckmekijiaa.PBase
