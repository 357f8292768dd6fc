/- impl.oddRune and impl.goodName by hand: what they compute. -/
import Derived.Test.YtdihodboopeakaaDoorWWords
import Derived.Lib.RuneCount
import GoSem.Core.Utf8
namespace Go.Proofs.YtdihodboopeakaaDoor.Pr
open Go.RowKit Go.Proofs.YtdihodboopeakaaDoorW.PrintWords
/-- A rune (with its width) that no name has. -/
def badRune (d : Nat × Nat) : Bool := decide ((d.1 = 65533 ∧ d.2 = 1) ∨ (d.1 < 128 ∧ ¬ ((97 ≤ d.1 ∧ d.1 ≤ 122) ∨ (65 ≤ d.1 ∧ d.1 ≤ 90))))
def oddFrom (s : ByteArray) : Nat → Nat → Int
  | 0, _ => -1
  | f + 1, pos => if pos < s.size then (if badRune (Utf8.decode s pos) = true then (pos : Int) else oddFrom s f (pos + (Utf8.decode s pos).2)) else -1
def oddOf (s : ByteArray) : Int := oddFrom s s.size 0
def impl_oddRune.f (s : ByteArray) : Option Int := if s.size ≤ 140737488355328 then some (oddOf s) else none
def impl_goodName.f (s : ByteArray) : Option Bool := if s.size ≤ 140737488355328 then some (decide (1 ≤ Lib.runeCount s ∧ Lib.runeCount s ≤ 12 ∧ oddOf s < 0)) else none
end Go.Proofs.YtdihodboopeakaaDoor.Pr
