/- impl.stuff by hand: what it computes. -/
import Derived.Test.YtbdonoeellmeoaaDoorPureStuff
import Derived.Test.YtbdonoeellmeoaaDoorWLast
namespace Go.Proofs.YtbdonoeellmeoaaDoor.Pr
open Go.RowKit Go.Proofs.YtbdonoeellmeoaaDoorW.PrintWords Go.Proofs.YtbdonoeellmeoaaDoorW.PrintLast
def impl_stuff.f (s : ByteArray) : Option ByteArray := if s.size ≤ 100000 then some (strOfNums (Pure.stf 0 0 (bytesOf s))) else none
end Go.Proofs.YtbdonoeellmeoaaDoor.Pr
