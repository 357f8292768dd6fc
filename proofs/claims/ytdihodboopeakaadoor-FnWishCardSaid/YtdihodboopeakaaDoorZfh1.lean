-- Joined and pruned by wip/tools/prune.py out of this session's own texts (ShMake)
import Derived.Test.YtdihodboopeakaaDoorZfh0
import Derived.Laws.MakeOwn
/-
Own text: make with a capacity of its own.
-/
namespace Go.Proofs.YtdihodboopeakaaDoor.Pr
open Go.RowKit Go.Proofs.YtdihodboopeakaaDoorW.PrintWords Go.Proofs.YtdihodboopeakaaDoorW.PrintLast
section
open Go.Proofs.YtdihodboopeakaaDoorW.PrintWords.Kd
variable {P : Program} {ops : Array Oper} {rest : List Oper} {o : Oper} {a : Act} {Q : Exit → Act → World → Prop} {α : Type}
end
end Go.Proofs.YtdihodboopeakaaDoor.Pr
