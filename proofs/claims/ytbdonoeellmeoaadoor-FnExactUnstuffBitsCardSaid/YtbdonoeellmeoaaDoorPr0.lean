-- Written by this session's own print (wip/tools/mkmp.py) out of the translation. Lean checks it.
import Derived.Test.YtbdonoeellmeoaaDoorProg
import Derived.Test.YtbdonoeellmeoaaDoorSh
import Derived.Test.YtbdonoeellmeoaaDoorShMake
import Derived.Below
import Derived.Deep.Draws
import Derived.Deep.AppendLies
import Derived.Maps.AppendAt
import Derived.OwnWalk
import Derived.Laws.BytesArg
import Derived.Laws.MakeOwn
import Derived.Laws.OwnMore
import Derived.Deep.OwnRows
import Derived.Tactics
import Derived.Lib.ConvBytes
import Derived.Laws.Slices
import Derived.WalkKit
import Derived.KernelRfl
import Derived.RowKit3
import Derived.Deep.LoopGhost
import Derived.Deep.QuietTactic
import Derived.BigQuiet
import Derived.WideLaws
import Derived.Deep.DeepCutAuto
import Derived.Deep.CutBlock
import Derived.Deep.RegionHeld3
import Derived.Laws.Rows
import Derived.Lib.AppendStr
import Derived.ArgAppend
import Derived.Laws.IdiomCopy
import Derived.OrdersHeld
import Derived.Laws.BitsLemmas
import Derived.RowKit
import Derived.Test.YtbdonoeellmeoaaDoorWWords
import Derived.Test.YtbdonoeellmeoaaDoorWLast
import Derived.Test.YtbdonoeellmeoaaDoorWTab
import Derived.Test.YtbdonoeellmeoaaDoorWFour
import Derived.Test.YtbdonoeellmeoaaDoorWArr
import Derived.Test.YtbdonoeellmeoaaDoorWFoot
import Derived.Test.YtbdonoeellmeoaaDoorWKept
import Derived.Test.YtbdonoeellmeoaaDoorWGuard
import Derived.Test.YtbdonoeellmeoaaDoorWQPut
import Derived.Test.YtbdonoeellmeoaaDoorWApart
import Derived.Test.YtbdonoeellmeoaaDoorWZeros
import Derived.Test.YtbdonoeellmeoaaDoorWN
import Derived.Test.YtbdonoeellmeoaaDoorWFootNe
import Derived.Test.YtbdonoeellmeoaaDoorWAt
import Derived.Test.YtbdonoeellmeoaaDoorWEqStruct
import Derived.Test.YtbdonoeellmeoaaDoorWRepsOne
import Derived.Test.YtbdonoeellmeoaaDoorWShare
import Derived.Test.YtbdonoeellmeoaaDoorWNEv
import Derived.Test.YtbdonoeellmeoaaDoorWMore
namespace Go.Proofs.YtbdonoeellmeoaaDoor.Pr
open Go.RowKit Go.Proofs.YtbdonoeellmeoaaDoorW.PrintWords Go.Proofs.YtbdonoeellmeoaaDoorW.PrintLast Go.Proofs.YtbdonoeellmeoaaDoorW.PrintMore
attribute [local go_sem] max2_int min2_int max_two min_two max_three min_three max_four min_four   -- for this text's walks alone
set_option linter.unusedVariables false
set_option linter.unusedSimpArgs false



def errW : Option Int → Value
  | none => .nilIface
  | some c => .iface 0 (.int .i64 c)
theorem errW_none : errW none = .nilIface := rfl
theorem errW_some (c : Int) : errW (some c) = .iface 0 (.int .i64 c) := rfl

theorem info5 : (Tryd.prog.info? 5).map (fun i => (i.zero, i.size, i.bytes)) = some (some (.int .u8 0), 1, 1) := by kernel_rfl
-- the values' own types

end Go.Proofs.YtbdonoeellmeoaaDoor.Pr
