/- impl.stuff by hand: what it computes. -/
import Derived.Test.YtbdonoeellmeoaaPureStuff
import Derived.Test.YtbdonoeellmeoaaWLast
namespace Go.Proofs.Ytbdonoeellmeoaa.Pr
open Go.RowKit Go.Proofs.YtbdonoeellmeoaaW.PrintWords Go.Proofs.YtbdonoeellmeoaaW.PrintLast
def impl_stuff.f (s : ByteArray) : Option ByteArray := if s.size ≤ 100000 then some (strOfNums (Pure.stf 0 0 (bytesOf s))) else none
end Go.Proofs.Ytbdonoeellmeoaa.Pr
