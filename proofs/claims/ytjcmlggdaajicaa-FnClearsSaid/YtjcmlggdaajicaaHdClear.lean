/-
Own text, by hand: what (Cells).clear comes to, where the cells are few and both places are cells.
-/
import Derived.Test.YtjcmlggdaajicaaPr0
namespace Go.Proofs.Ytjcmlggdaajicaa.Pr
open Go.RowKit Go.Proofs.YtjcmlggdaajicaaW.PrintWords Go.Proofs.YtjcmlggdaajicaaW.PrintLast
/-- The corners of a cell, as the program goes through them. -/
def cornX : Nat → Int
  | 0 => -1
  | 1 => -1
  | _ => 1
def cornY : Nat → Int
  | 0 => -1
  | 1 => 1
  | 2 => -1
  | _ => 1
/-- On which side of the line a corner lies. -/
def sideOf (x1 y1 x2 y2 x y : Int) (k : Nat) : Int := (x2 - x1) * (y + cornY k - y1) - (y2 - y1) * (x + cornX k - x1)
def lessTo (x1 y1 x2 y2 x y : Int) : Nat → Bool
  | 0 => false
  | k + 1 => lessTo x1 y1 x2 y2 x y k || decide (sideOf x1 y1 x2 y2 x y k ≤ 0)
def moreTo (x1 y1 x2 y2 x y : Int) : Nat → Bool
  | 0 => false
  | k + 1 => moreTo x1 y1 x2 y2 x y k || decide (sideOf x1 y1 x2 y2 x y k ≥ 0)
def maxI (a b : Int) : Int := if a < b then b else a
def minI (a b : Int) : Int := if b < a then b else a
/-- The line's box doesn't come near the cell. -/
def farOf (x1 y1 x2 y2 x y : Int) : Bool := decide (maxI x1 x2 < x - 1) || decide (minI x1 x2 > x + 1) || decide (maxI y1 y2 < y - 1) || decide (minI y1 y2 > y + 1)
/-- Cell number c stands in the way. -/
def blocks (w : Int) (l : List Int) (a b : Int) (c : Nat) : Bool :=
  !(l.getD c 0 == 0) && !(farOf (2 * (a % w)) (2 * (a / w)) (2 * (b % w)) (2 * (b / w)) (2 * ((c : Int) % w)) (2 * ((c : Int) / w))) &&
    (lessTo (2 * (a % w)) (2 * (a / w)) (2 * (b % w)) (2 * (b / w)) (2 * ((c : Int) % w)) (2 * ((c : Int) / w)) 4 && moreTo (2 * (a % w)) (2 * (a / w)) (2 * (b % w)) (2 * (b / w)) (2 * ((c : Int) % w)) (2 * ((c : Int) / w)) 4)
theorem prod_bound {u v : Int} (hu0 : -600 ≤ u) (hu1 : u ≤ 600) (hv0 : -600 ≤ v) (hv1 : v ≤ 600) : -360000 ≤ u * v ∧ u * v ≤ 360000 := by
  have h1 := Int.mul_nonneg (show 0 ≤ 600 - u by omega) (show 0 ≤ 600 - v by omega)
  have h2 := Int.mul_nonneg (show 0 ≤ 600 + u by omega) (show 0 ≤ 600 + v by omega)
  have h3 := Int.mul_nonneg (show 0 ≤ 600 - u by omega) (show 0 ≤ 600 + v by omega)
  have h4 := Int.mul_nonneg (show 0 ≤ 600 + u by omega) (show 0 ≤ 600 - v by omega)
  rw [Int.sub_mul, Int.mul_sub, Int.mul_sub] at h1
  rw [Int.add_mul, Int.mul_add, Int.mul_add] at h2
  rw [Int.sub_mul, Int.mul_add, Int.mul_add] at h3
  rw [Int.add_mul, Int.mul_sub, Int.mul_sub] at h4
  omega
theorem side_eq {x1 y1 x2 y2 x y dx dy : Int} (bx1 : 0 ≤ x1 ∧ x1 ≤ 30) (by1 : 0 ≤ y1 ∧ y1 ≤ 510) (bx2 : 0 ≤ x2 ∧ x2 ≤ 30) (by2 : 0 ≤ y2 ∧ y2 ≤ 510) (bx : 0 ≤ x ∧ x ≤ 30) (by_ : 0 ≤ y ∧ y ≤ 510) (hdx : -1 ≤ dx ∧ dx ≤ 1) (hdy : -1 ≤ dy ∧ dy ≤ 1) :
    wrap64 (wrap64 ((x2 - x1) * (y + dy - y1)) - wrap64 ((y2 - y1) * (x + dx - x1))) = (x2 - x1) * (y + dy - y1) - (y2 - y1) * (x + dx - x1) := by
  have h1 := prod_bound (u := x2 - x1) (v := y + dy - y1) (by omega) (by omega) (by omega) (by omega)
  have h2 := prod_bound (u := y2 - y1) (v := x + dx - x1) (by omega) (by omega) (by omega) (by omega)
  generalize (x2 - x1) * (y + dy - y1) = p at *
  generalize (y2 - y1) * (x + dx - x1) = q at *
  have e1 : wrap64 p = p := by unfold wrap64; omega
  have e2 : wrap64 q = q := by unfold wrap64; omega
  rw [e1, e2]
  unfold wrap64
  omega
def impl_Cells_clear.f (a0_0 : Int) (l0_1 : List Int) (a1 : Int) (a2 : Int) : Option Bool :=
  if 1 ≤ a0_0 ∧ a0_0 ≤ 16 ∧ l0_1.length ≤ 256 ∧ 0 ≤ a1 ∧ a1 < l0_1.length ∧ 0 ≤ a2 ∧ a2 < l0_1.length then some ((List.range l0_1.length).all fun c => !blocks a0_0 l0_1 a1 a2 c) else none
end Go.Proofs.Ytjcmlggdaajicaa.Pr
