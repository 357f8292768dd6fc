-- Joined and pruned by wip/tools/prune.py out of this session's own texts (ShMake)
import Derived.Test.YtbdonoeellmeoaaZbs1
import Derived.Laws.MakeOwn
/-
Own text: make with a capacity of its own.
-/
namespace Go.Proofs.Ytbdonoeellmeoaa.Pr
open Go.RowKit Go.Proofs.YtbdonoeellmeoaaW.PrintWords Go.Proofs.YtbdonoeellmeoaaW.PrintLast
section
open Go.Proofs.YtbdonoeellmeoaaW.PrintWords.Kd
variable {P : Program} {ops : Array Oper} {rest : List Oper} {o : Oper} {a : Act} {Q : Exit → Act → World → Prop} {α : Type}
end
end Go.Proofs.Ytbdonoeellmeoaa.Pr
