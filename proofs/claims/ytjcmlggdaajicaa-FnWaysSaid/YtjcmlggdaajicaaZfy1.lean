-- Joined and pruned by wip/tools/prune.py out of this session's own texts (ShMake)
import Derived.Test.YtjcmlggdaajicaaZfy0
import Derived.Laws.MakeOwn
/-
Own text: make with a capacity of its own.
-/
namespace Go.Proofs.Ytjcmlggdaajicaa.Pr
open Go.RowKit Go.Proofs.YtjcmlggdaajicaaW.PrintWords Go.Proofs.YtjcmlggdaajicaaW.PrintLast
section
open Go.Proofs.YtjcmlggdaajicaaW.PrintWords.Kd
variable {P : Program} {ops : Array Oper} {rest : List Oper} {o : Oper} {a : Act} {Q : Exit → Act → World → Prop} {α : Type}
end
end Go.Proofs.Ytjcmlggdaajicaa.Pr
