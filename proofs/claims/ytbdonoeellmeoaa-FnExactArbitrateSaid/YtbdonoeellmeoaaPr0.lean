-- Written by this session's own print (wip/tools/mkmp.py) out of the translation. Lean checks it.
import Derived.Test.YtbdonoeellmeoaaProg
import Derived.Test.YtbdonoeellmeoaaSh
import Derived.Below
import Derived.Deep.Draws
import Derived.Deep.AppendLies
import Derived.Maps.AppendAt
import Derived.OwnWalk
import Derived.Laws.BytesArg
import Derived.Laws.MakeOwn
import Derived.Laws.OwnMore
import Derived.Deep.OwnRows
import Derived.Tactics
import Derived.Lib.ConvBytes
import Derived.Laws.Slices
import Derived.WalkKit
import Derived.KernelRfl
import Derived.RowKit3
import Derived.Deep.LoopGhost
import Derived.Deep.QuietTactic
import Derived.BigQuiet
import Derived.WideLaws
import Derived.Deep.DeepCutAuto
import Derived.Deep.CutBlock
import Derived.Deep.RegionHeld3
import Derived.Laws.Rows
import Derived.Lib.AppendStr
import Derived.ArgAppend
import Derived.Laws.IdiomCopy
import Derived.OrdersHeld
import Derived.Laws.BitsLemmas
import Derived.RowKit
import Derived.Test.YtbdonoeellmeoaaWWords
import Derived.Test.YtbdonoeellmeoaaWLast
import Derived.Test.YtbdonoeellmeoaaWTab
import Derived.Test.YtbdonoeellmeoaaWFour
import Derived.Test.YtbdonoeellmeoaaWArr
import Derived.Test.YtbdonoeellmeoaaWFoot
import Derived.Test.YtbdonoeellmeoaaWKept
import Derived.Test.YtbdonoeellmeoaaWGuard
import Derived.Test.YtbdonoeellmeoaaWQPut
import Derived.Test.YtbdonoeellmeoaaWApart
import Derived.Test.YtbdonoeellmeoaaWZeros
import Derived.Test.YtbdonoeellmeoaaWN
import Derived.Test.YtbdonoeellmeoaaWFootNe
import Derived.Test.YtbdonoeellmeoaaWAt
import Derived.Test.YtbdonoeellmeoaaWEqStruct
import Derived.Test.YtbdonoeellmeoaaWRepsOne
import Derived.Test.YtbdonoeellmeoaaWShare
import Derived.Test.YtbdonoeellmeoaaWNEv
import Derived.Test.YtbdonoeellmeoaaWMore
namespace Go.Proofs.Ytbdonoeellmeoaa.Pr
open Go.RowKit Go.Proofs.YtbdonoeellmeoaaW.PrintWords Go.Proofs.YtbdonoeellmeoaaW.PrintLast Go.Proofs.YtbdonoeellmeoaaW.PrintMore
attribute [local go_sem] max2_int min2_int max_two min_two max_three min_three max_four min_four   -- for this text's walks alone
set_option linter.unusedVariables false
set_option linter.unusedSimpArgs false



def errW : Option Int → Value
  | none => .nilIface
  | some c => .iface 0 (.int .i64 c)
theorem errW_none : errW none = .nilIface := rfl
theorem errW_some (c : Int) : errW (some c) = .iface 0 (.int .i64 c) := rfl

theorem info3 : (Try.prog.info? 3).map (fun i => (i.zero, i.size, i.bytes)) = some (some (.int .i64 0), 1, 8) := by kernel_rfl
theorem info5 : (Try.prog.info? 5).map (fun i => (i.zero, i.size, i.bytes)) = some (some (.int .u8 0), 1, 1) := by kernel_rfl
-- the values' own types

end Go.Proofs.Ytbdonoeellmeoaa.Pr
