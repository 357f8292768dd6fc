-- Joined and pruned by wip/tools/prune.py out of this session's own texts (ShMake)
import Derived.Test.YtcldlljnaijmhaaZfc1
import Derived.Laws.MakeOwn
/-
Own text: make with a capacity of its own.
-/
namespace Go.Proofs.Ytcldlljnaijmhaa.Pr
open Go.RowKit Go.Proofs.YtcldlljnaijmhaaW.PrintWords Go.Proofs.YtcldlljnaijmhaaW.PrintLast
section
open Go.Proofs.YtcldlljnaijmhaaW.PrintWords.Kd
variable {P : Program} {ops : Array Oper} {rest : List Oper} {o : Oper} {a : Act} {Q : Exit → Act → World → Prop} {α : Type}
end
end Go.Proofs.Ytcldlljnaijmhaa.Pr
