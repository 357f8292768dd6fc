/- impl.goodBits by hand: what it computes. -/
import Derived.Test.YtbdonoeellmeoaaDoorWWords
namespace Go.Proofs.YtbdonoeellmeoaaDoor.Pr
open Go.RowKit Go.Proofs.YtbdonoeellmeoaaDoorW.PrintWords
/-- All of a string's bytes are bits. -/
def all01 (s : ByteArray) : Bool := s.data.toList.all fun b => b == 48 || b == 49
def impl_goodBits.f (s : ByteArray) : Option Bool := some (decide (s.size ≤ 300) && all01 s)
end Go.Proofs.YtbdonoeellmeoaaDoor.Pr
