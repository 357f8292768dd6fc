/- impl.RunFlat by hand: what it computes. -/
import Derived.Test.YtkhkgfihodljmaaPrd1
namespace Go.Proofs.Ytkhkgfihodljmaa.Pr
open Go.RowKit Go.Proofs.YtkhkgfihodljmaaW.PrintWords Go.Proofs.YtkhkgfihodljmaaW.PrintLast Go.Proofs.YtkhkgfihodljmaaW.PrintMore
set_option linter.unusedVariables false
def isB (l0 : List (List Int)) (s : Int) : Bool := decide (0 ≤ s ∧ s < (l0.length : Int) ∧ 0 < (rd_L2 l0 s).length)
def impl_RunFlat.l1 : Nat → List (List Int) → Int → List Int → List Int → Int → Option (List Int × Bool)
  | 0, _, _, _, _, _ => none
  | k + 1, x0, x1, x11, x44, x46 => if x46 < (x44.length : Int) then (if 0 ≤ x46 then (if 0 ≤ x1 then (if x1 < (x0.length : Int) then (if 0 ≤ (rd x44 x46) then (if (rd x44 x46) < ((rd_L2 x0 x1).length : Int) then (if isB x0 (rd (rd_L2 x0 x1) (rd x44 x46)) = true then (if x11.length < 17592186044416 then (impl_RunFlat.l1 k x0 (rd (rd_L2 x0 x1) (rd x44 x46)) (x11 ++ [rd (rd_L2 x0 x1) (rd x44 x46)]) x44 (wrap64 (x46 + 1))) else (none)) else (some (([] : List Int), false))) else (none)) else (none)) else (none)) else (none)) else (none)) else (some (x11, true))
def impl_RunFlat.l0 : Nat → List (List Int) → Int → List Int → Int → Option (List Int × Bool)
  | 0, _, _, _, _ => none
  | k + 1, x0, x1, x2, x24 => if x24 < (x0.length : Int) then (if 0 ≤ x24 then (if ((rd_L2 x0 x24).length : Int) = 0 then (impl_RunFlat.l0 k x0 x1 x2 (wrap64 (x24 + 1))) else (if ((rd_L2 x0 x24).length : Int) = 6 then (impl_RunFlat.l0 k x0 x1 x2 (wrap64 (x24 + 1))) else (some (([] : List Int), false)))) else (none)) else (if isB x0 x1 = true then (impl_RunFlat.l1 k x0 x1 [x1] x2 0) else (some (([] : List Int), false)))
def impl_RunFlat.f (k : Nat) (l0 : List (List Int)) (a1 : Int) (l2 : List Int) : Option (List Int × Bool) := if (l0.length : Int) > 12 then (some (([] : List Int), false)) else ((impl_goodEvents.f k l2).bind fun t => (if t = true then (impl_RunFlat.l0 k l0 a1 l2 0) else (some (([] : List Int), false))))
end Go.Proofs.Ytkhkgfihodljmaa.Pr
