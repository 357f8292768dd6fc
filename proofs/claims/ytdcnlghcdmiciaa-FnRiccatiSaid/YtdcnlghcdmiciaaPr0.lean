-- Written by this session's own print (wip/tools/mkmp.py) out of the translation. Lean checks it.
import Derived.Test.YtdcnlghcdmiciaaProg
import Derived.Test.YtdcnlghcdmiciaaSh
import Derived.Below
import Derived.Deep.Draws
import Derived.Deep.AppendLies
import Derived.Maps.AppendAt
import Derived.OwnWalk
import Derived.Laws.BytesArg
import Derived.Laws.MakeOwn
import Derived.Laws.OwnMore
import Derived.Deep.OwnRows
import Derived.Tactics
import Derived.Lib.ConvBytes
import Derived.Laws.Slices
import Derived.WalkKit
import Derived.KernelRfl
import Derived.RowKit3
import Derived.Deep.LoopGhost
import Derived.Deep.QuietTactic
import Derived.BigQuiet
import Derived.WideLaws
import Derived.Deep.DeepCutAuto
import Derived.Deep.CutBlock
import Derived.Deep.RegionHeld3
import Derived.Laws.Rows
import Derived.Lib.AppendStr
import Derived.ArgAppend
import Derived.Laws.IdiomCopy
import Derived.OrdersHeld
import Derived.Laws.BitsLemmas
import Derived.RowKit
import Derived.Test.YtdcnlghcdmiciaaWWords
import Derived.Test.YtdcnlghcdmiciaaWLast
import Derived.Test.YtdcnlghcdmiciaaWTab
import Derived.Test.YtdcnlghcdmiciaaWFour
import Derived.Test.YtdcnlghcdmiciaaWArr
import Derived.Test.YtdcnlghcdmiciaaWFoot
import Derived.Test.YtdcnlghcdmiciaaWKept
import Derived.Test.YtdcnlghcdmiciaaWGuard
import Derived.Test.YtdcnlghcdmiciaaWQPut
import Derived.Test.YtdcnlghcdmiciaaWApart
import Derived.Test.YtdcnlghcdmiciaaWZeros
import Derived.Test.YtdcnlghcdmiciaaWN
import Derived.Test.YtdcnlghcdmiciaaWFootNe
import Derived.Test.YtdcnlghcdmiciaaWAt
import Derived.Test.YtdcnlghcdmiciaaWEqStruct
import Derived.Test.YtdcnlghcdmiciaaWRepsOne
import Derived.Test.YtdcnlghcdmiciaaWShare
import Derived.Test.YtdcnlghcdmiciaaWNEv
import Derived.Test.YtdcnlghcdmiciaaWMore
namespace Go.Proofs.Ytdcnlghcdmiciaa.Pr
open Go.RowKit Go.Proofs.YtdcnlghcdmiciaaW.PrintWords Go.Proofs.YtdcnlghcdmiciaaW.PrintLast Go.Proofs.YtdcnlghcdmiciaaW.PrintMore
attribute [local go_sem] max2_int min2_int max_two min_two max_three min_three max_four min_four   -- for this text's walks alone
set_option linter.unusedVariables false
set_option linter.unusedSimpArgs false



def errW : Option Int → Value
  | none => .nilIface
  | some c => .iface 0 (.int .i64 c)
theorem errW_none : errW none = .nilIface := rfl
theorem errW_some (c : Int) : errW (some c) = .iface 0 (.int .i64 c) := rfl

-- the values' own types

end Go.Proofs.Ytdcnlghcdmiciaa.Pr
