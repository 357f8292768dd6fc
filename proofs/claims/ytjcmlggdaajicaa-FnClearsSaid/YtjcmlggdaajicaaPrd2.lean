-- Written by this session's own print (wip/tools/mkmp.py) out of the translation. Lean checks it.
import Derived.Test.YtjcmlggdaajicaaPr0
import Derived.Test.YtjcmlggdaajicaaHdClear
import Derived.Test.YtjcmlggdaajicaaPrd1
namespace Go.Proofs.Ytjcmlggdaajicaa.Pr
open Go.RowKit Go.Proofs.YtjcmlggdaajicaaW.PrintWords Go.Proofs.YtjcmlggdaajicaaW.PrintLast Go.Proofs.YtjcmlggdaajicaaW.PrintMore
attribute [local go_sem] max2_int min2_int max_two min_two max_three min_three max_four min_four   -- for this text's walks alone
set_option linter.unusedVariables false
set_option linter.unusedSimpArgs false

/-! ### impl_Clear: function 13 -/
def impl_Clear.f (k : Nat) (a0_0 : Int) (l0_1 : List Int) (a1 : Int) (a2 : Int) : Option (Bool) := (impl_GoodCells.f k a0_0 l0_1).bind fun t107 => (if t107 = true then ((impl_Cells_free.f a0_0 l0_1 a1).bind fun t108 => (if t108 = true then ((impl_Cells_free.f a0_0 l0_1 a2).bind fun t109 => (if t109 = true then ((impl_Cells_clear.f a0_0 l0_1 a1 a2).bind fun t110 => (some t110)) else (some false))) else (some false))) else (some false))
theorem impl_Clear.mono : ∀ a0 a1 a2 a3 k, LeO (impl_Clear.f k a0 a1 a2 a3) (impl_Clear.f (k + 1) a0 a1 a2 a3) := by
  intro a0 a1 a2 a3 k
  unfold impl_Clear.f
  repeat' first | (with_reducible first | exact impl_GoodCells.mono _ _ _ | exact LeO.refl _ | exact LeO.none _ | refine LeO.ite ?_ ?_ | refine LeO.bind ?_ (fun _ => ?_)) | exact impl_GoodCells.mono _ _ _ | exact LeO.none _ | refine LeO.ite ?_ ?_ | refine LeO.bind ?_ (fun _ => ?_)

/-! ### spec_l12Sized: function 47 -/
def spec_l12Sized.f (a0 : Int) (a1 : Int) : Option (Bool) := if a0 ≥ 1 then (if a0 ≤ 16 then (if a1 ≥ a0 then (if a0 = 0 then (none) else (if (Int.tmod a1 a0) = 0 then (some (decide ((wrap64 (Int.tdiv a1 a0)) ≤ 16))) else (some false))) else (some false)) else (some false)) else (some false)

/-! ### spec_GoodCells: function 28 -/
def spec_GoodCells.l0 : Nat → List Int → Int → Int → Option (Bool)
  | 0, _, _, _ => none
  | k + 1, x13, x14, x15 => if x15 < x14 then (if 0 ≤ x15 then (if x15 < (x13.length : Int) then (if (rd x13 x15) < 0 then (some false) else (if (rd x13 x15) > 2 then (some false) else (spec_GoodCells.l0 k x13 x14 (wrap64 (x15 + 1))))) else (none)) else (none)) else (some true)
def spec_GoodCells.f (k : Nat) (a0_0 : Int) (l0_1 : List Int) : Option (Bool) := (spec_l12Sized.f a0_0 (l0_1.length : Int)).bind fun t112 => (if t112 = true then (spec_GoodCells.l0 k l0_1 (l0_1.length : Int) 0) else (some false))
theorem spec_GoodCells.mono_l : ∀ k, (∀ y0 y1 y2, LeO (spec_GoodCells.l0 k y0 y1 y2) (spec_GoodCells.l0 (k + 1) y0 y1 y2))
  | 0 => fun _ _ _ r h => by simp [spec_GoodCells.l0] at h
  | k + 1 => by
    have ih0 := spec_GoodCells.mono_l k
    · intro y0 y1 y2
      unfold spec_GoodCells.l0
      repeat' first | (with_reducible first | exact ih0 _ _ _ | exact LeO.refl _ | exact LeO.none _ | refine LeO.ite ?_ ?_ | refine LeO.bind ?_ (fun _ => ?_)) | exact ih0 _ _ _ | exact LeO.none _ | refine LeO.ite ?_ ?_ | refine LeO.bind ?_ (fun _ => ?_)
theorem spec_GoodCells.mono : ∀ a0 a1 k, LeO (spec_GoodCells.f k a0 a1) (spec_GoodCells.f (k + 1) a0 a1) := by
  intro a0 a1 k
  have ih0 := spec_GoodCells.mono_l k
  unfold spec_GoodCells.f
  repeat' first | (with_reducible first | exact ih0 _ _ _ | exact LeO.refl _ | exact LeO.none _ | refine LeO.ite ?_ ?_ | refine LeO.bind ?_ (fun _ => ?_)) | exact ih0 _ _ _ | exact LeO.none _ | refine LeO.ite ?_ ?_ | refine LeO.bind ?_ (fun _ => ?_)

/-! ### spec_l12Free: function 43 -/
def spec_l12Free.f (a0_0 : Int) (l0_1 : List Int) (a1 : Int) : Option (Bool) := if a1 ≥ 0 then (if a1 < (l0_1.length : Int) then (if 0 ≤ a1 then (some ((rd l0_1 a1) == 0)) else (none)) else (some false)) else (some false)

/-! ### spec_l18Meets: function 55 -/
mutual
def spec_l18Meets.j0 : Nat → Int → Int → Int → Int → Int → Int → Int → Int → Bool → Option (Bool)
  | 0, _, _, _, _, _, _, _, _, _ => none
  | k + 1, x0, x1, x2, x3, x13, x14, x15, x16, x75 => if x75 = true then (some false) else ((some (([x13, x14] : List Int) : List Int)).bind fun y116 => (spec_l18Meets.l0 k x0 x1 x15 x16 (wrap64 (x2 - x0)) (wrap64 (x3 - x1)) 0 0 y116 (y116.length : Int) 0))
def spec_l18Meets.l0 : Nat → Int → Int → Int → Int → Int → Int → Int → Int → List Int → Int → Int → Option (Bool)
  | 0, _, _, _, _, _, _, _, _, _, _, _ => none
  | k + 1, x0, x1, x15, x16, x17, x18, x19, x20, x84, x85, x86 => if x86 < x85 then (if 0 ≤ x86 then (if x86 < (x84.length : Int) then ((some (([x15, x16] : List Int) : List Int)).bind fun y120 => (spec_l18Meets.l1 k x0 x1 x15 x16 x17 x18 x19 x20 (rd x84 x86) x84 x85 x86 y120 (y120.length : Int) 0)) else (none)) else (none)) else (if x19 < 4 then (some (decide (x20 < 4))) else (some false))
def spec_l18Meets.l1 : Nat → Int → Int → Int → Int → Int → Int → Int → Int → Int → List Int → Int → Int → List Int → Int → Int → Option (Bool)
  | 0, _, _, _, _, _, _, _, _, _, _, _, _, _, _, _ => none
  | k + 1, x0, x1, x15, x16, x17, x18, x19, x20, x22, x84, x85, x86, x92, x93, x94 => if x94 < x93 then (if 0 ≤ x94 then (if x94 < (x92.length : Int) then (if (wrap64 ((wrap64 (x17 * (wrap64 ((rd x92 x94) - x1)))) - (wrap64 (x18 * (wrap64 (x22 - x0)))))) > 0 then (if (wrap64 ((wrap64 (x17 * (wrap64 ((rd x92 x94) - x1)))) - (wrap64 (x18 * (wrap64 (x22 - x0)))))) < 0 then (spec_l18Meets.l1 k x0 x1 x15 x16 x17 x18 (wrap64 (x19 + 1)) (wrap64 (x20 + 1)) x22 x84 x85 x86 x92 x93 (wrap64 (x94 + 1))) else (spec_l18Meets.l1 k x0 x1 x15 x16 x17 x18 (wrap64 (x19 + 1)) x20 x22 x84 x85 x86 x92 x93 (wrap64 (x94 + 1)))) else (if (wrap64 ((wrap64 (x17 * (wrap64 ((rd x92 x94) - x1)))) - (wrap64 (x18 * (wrap64 (x22 - x0)))))) < 0 then (spec_l18Meets.l1 k x0 x1 x15 x16 x17 x18 x19 (wrap64 (x20 + 1)) x22 x84 x85 x86 x92 x93 (wrap64 (x94 + 1))) else (spec_l18Meets.l1 k x0 x1 x15 x16 x17 x18 x19 x20 x22 x84 x85 x86 x92 x93 (wrap64 (x94 + 1))))) else (none)) else (none)) else (spec_l18Meets.l0 k x0 x1 x15 x16 x17 x18 x19 x20 x84 x85 (wrap64 (x86 + 1)))
end
def spec_l18Meets.f (k : Nat) (a0 : Int) (a1 : Int) (a2 : Int) (a3 : Int) (a4 : Int) (a5 : Int) : Option (Bool) := if a0 < (wrap64 ((wrap64 (2 * a4)) - 1)) then (if a2 < (wrap64 ((wrap64 (2 * a4)) - 1)) then (spec_l18Meets.j0 k a0 a1 a2 a3 (wrap64 ((wrap64 (2 * a4)) - 1)) (wrap64 ((wrap64 (2 * a4)) + 1)) (wrap64 ((wrap64 (2 * a5)) - 1)) (wrap64 ((wrap64 (2 * a5)) + 1)) true) else (if a0 > (wrap64 ((wrap64 (2 * a4)) + 1)) then (if a2 > (wrap64 ((wrap64 (2 * a4)) + 1)) then (spec_l18Meets.j0 k a0 a1 a2 a3 (wrap64 ((wrap64 (2 * a4)) - 1)) (wrap64 ((wrap64 (2 * a4)) + 1)) (wrap64 ((wrap64 (2 * a5)) - 1)) (wrap64 ((wrap64 (2 * a5)) + 1)) true) else (if a1 < (wrap64 ((wrap64 (2 * a5)) - 1)) then (if a3 < (wrap64 ((wrap64 (2 * a5)) - 1)) then (spec_l18Meets.j0 k a0 a1 a2 a3 (wrap64 ((wrap64 (2 * a4)) - 1)) (wrap64 ((wrap64 (2 * a4)) + 1)) (wrap64 ((wrap64 (2 * a5)) - 1)) (wrap64 ((wrap64 (2 * a5)) + 1)) true) else (if a1 > (wrap64 ((wrap64 (2 * a5)) + 1)) then (spec_l18Meets.j0 k a0 a1 a2 a3 (wrap64 ((wrap64 (2 * a4)) - 1)) (wrap64 ((wrap64 (2 * a4)) + 1)) (wrap64 ((wrap64 (2 * a5)) - 1)) (wrap64 ((wrap64 (2 * a5)) + 1)) (decide (a3 > (wrap64 ((wrap64 (2 * a5)) + 1))))) else (spec_l18Meets.j0 k a0 a1 a2 a3 (wrap64 ((wrap64 (2 * a4)) - 1)) (wrap64 ((wrap64 (2 * a4)) + 1)) (wrap64 ((wrap64 (2 * a5)) - 1)) (wrap64 ((wrap64 (2 * a5)) + 1)) false))) else (if a1 > (wrap64 ((wrap64 (2 * a5)) + 1)) then (spec_l18Meets.j0 k a0 a1 a2 a3 (wrap64 ((wrap64 (2 * a4)) - 1)) (wrap64 ((wrap64 (2 * a4)) + 1)) (wrap64 ((wrap64 (2 * a5)) - 1)) (wrap64 ((wrap64 (2 * a5)) + 1)) (decide (a3 > (wrap64 ((wrap64 (2 * a5)) + 1))))) else (spec_l18Meets.j0 k a0 a1 a2 a3 (wrap64 ((wrap64 (2 * a4)) - 1)) (wrap64 ((wrap64 (2 * a4)) + 1)) (wrap64 ((wrap64 (2 * a5)) - 1)) (wrap64 ((wrap64 (2 * a5)) + 1)) false)))) else (if a1 < (wrap64 ((wrap64 (2 * a5)) - 1)) then (if a3 < (wrap64 ((wrap64 (2 * a5)) - 1)) then (spec_l18Meets.j0 k a0 a1 a2 a3 (wrap64 ((wrap64 (2 * a4)) - 1)) (wrap64 ((wrap64 (2 * a4)) + 1)) (wrap64 ((wrap64 (2 * a5)) - 1)) (wrap64 ((wrap64 (2 * a5)) + 1)) true) else (if a1 > (wrap64 ((wrap64 (2 * a5)) + 1)) then (spec_l18Meets.j0 k a0 a1 a2 a3 (wrap64 ((wrap64 (2 * a4)) - 1)) (wrap64 ((wrap64 (2 * a4)) + 1)) (wrap64 ((wrap64 (2 * a5)) - 1)) (wrap64 ((wrap64 (2 * a5)) + 1)) (decide (a3 > (wrap64 ((wrap64 (2 * a5)) + 1))))) else (spec_l18Meets.j0 k a0 a1 a2 a3 (wrap64 ((wrap64 (2 * a4)) - 1)) (wrap64 ((wrap64 (2 * a4)) + 1)) (wrap64 ((wrap64 (2 * a5)) - 1)) (wrap64 ((wrap64 (2 * a5)) + 1)) false))) else (if a1 > (wrap64 ((wrap64 (2 * a5)) + 1)) then (spec_l18Meets.j0 k a0 a1 a2 a3 (wrap64 ((wrap64 (2 * a4)) - 1)) (wrap64 ((wrap64 (2 * a4)) + 1)) (wrap64 ((wrap64 (2 * a5)) - 1)) (wrap64 ((wrap64 (2 * a5)) + 1)) (decide (a3 > (wrap64 ((wrap64 (2 * a5)) + 1))))) else (spec_l18Meets.j0 k a0 a1 a2 a3 (wrap64 ((wrap64 (2 * a4)) - 1)) (wrap64 ((wrap64 (2 * a4)) + 1)) (wrap64 ((wrap64 (2 * a5)) - 1)) (wrap64 ((wrap64 (2 * a5)) + 1)) false))))) else (if a0 > (wrap64 ((wrap64 (2 * a4)) + 1)) then (if a2 > (wrap64 ((wrap64 (2 * a4)) + 1)) then (spec_l18Meets.j0 k a0 a1 a2 a3 (wrap64 ((wrap64 (2 * a4)) - 1)) (wrap64 ((wrap64 (2 * a4)) + 1)) (wrap64 ((wrap64 (2 * a5)) - 1)) (wrap64 ((wrap64 (2 * a5)) + 1)) true) else (if a1 < (wrap64 ((wrap64 (2 * a5)) - 1)) then (if a3 < (wrap64 ((wrap64 (2 * a5)) - 1)) then (spec_l18Meets.j0 k a0 a1 a2 a3 (wrap64 ((wrap64 (2 * a4)) - 1)) (wrap64 ((wrap64 (2 * a4)) + 1)) (wrap64 ((wrap64 (2 * a5)) - 1)) (wrap64 ((wrap64 (2 * a5)) + 1)) true) else (if a1 > (wrap64 ((wrap64 (2 * a5)) + 1)) then (spec_l18Meets.j0 k a0 a1 a2 a3 (wrap64 ((wrap64 (2 * a4)) - 1)) (wrap64 ((wrap64 (2 * a4)) + 1)) (wrap64 ((wrap64 (2 * a5)) - 1)) (wrap64 ((wrap64 (2 * a5)) + 1)) (decide (a3 > (wrap64 ((wrap64 (2 * a5)) + 1))))) else (spec_l18Meets.j0 k a0 a1 a2 a3 (wrap64 ((wrap64 (2 * a4)) - 1)) (wrap64 ((wrap64 (2 * a4)) + 1)) (wrap64 ((wrap64 (2 * a5)) - 1)) (wrap64 ((wrap64 (2 * a5)) + 1)) false))) else (if a1 > (wrap64 ((wrap64 (2 * a5)) + 1)) then (spec_l18Meets.j0 k a0 a1 a2 a3 (wrap64 ((wrap64 (2 * a4)) - 1)) (wrap64 ((wrap64 (2 * a4)) + 1)) (wrap64 ((wrap64 (2 * a5)) - 1)) (wrap64 ((wrap64 (2 * a5)) + 1)) (decide (a3 > (wrap64 ((wrap64 (2 * a5)) + 1))))) else (spec_l18Meets.j0 k a0 a1 a2 a3 (wrap64 ((wrap64 (2 * a4)) - 1)) (wrap64 ((wrap64 (2 * a4)) + 1)) (wrap64 ((wrap64 (2 * a5)) - 1)) (wrap64 ((wrap64 (2 * a5)) + 1)) false)))) else (if a1 < (wrap64 ((wrap64 (2 * a5)) - 1)) then (if a3 < (wrap64 ((wrap64 (2 * a5)) - 1)) then (spec_l18Meets.j0 k a0 a1 a2 a3 (wrap64 ((wrap64 (2 * a4)) - 1)) (wrap64 ((wrap64 (2 * a4)) + 1)) (wrap64 ((wrap64 (2 * a5)) - 1)) (wrap64 ((wrap64 (2 * a5)) + 1)) true) else (if a1 > (wrap64 ((wrap64 (2 * a5)) + 1)) then (spec_l18Meets.j0 k a0 a1 a2 a3 (wrap64 ((wrap64 (2 * a4)) - 1)) (wrap64 ((wrap64 (2 * a4)) + 1)) (wrap64 ((wrap64 (2 * a5)) - 1)) (wrap64 ((wrap64 (2 * a5)) + 1)) (decide (a3 > (wrap64 ((wrap64 (2 * a5)) + 1))))) else (spec_l18Meets.j0 k a0 a1 a2 a3 (wrap64 ((wrap64 (2 * a4)) - 1)) (wrap64 ((wrap64 (2 * a4)) + 1)) (wrap64 ((wrap64 (2 * a5)) - 1)) (wrap64 ((wrap64 (2 * a5)) + 1)) false))) else (if a1 > (wrap64 ((wrap64 (2 * a5)) + 1)) then (spec_l18Meets.j0 k a0 a1 a2 a3 (wrap64 ((wrap64 (2 * a4)) - 1)) (wrap64 ((wrap64 (2 * a4)) + 1)) (wrap64 ((wrap64 (2 * a5)) - 1)) (wrap64 ((wrap64 (2 * a5)) + 1)) (decide (a3 > (wrap64 ((wrap64 (2 * a5)) + 1))))) else (spec_l18Meets.j0 k a0 a1 a2 a3 (wrap64 ((wrap64 (2 * a4)) - 1)) (wrap64 ((wrap64 (2 * a4)) + 1)) (wrap64 ((wrap64 (2 * a5)) - 1)) (wrap64 ((wrap64 (2 * a5)) + 1)) false))))
theorem spec_l18Meets.mono_l : ∀ k, (∀ y0 y1 y2 y3 y4 y5 y6 y7 y8, LeO (spec_l18Meets.j0 k y0 y1 y2 y3 y4 y5 y6 y7 y8) (spec_l18Meets.j0 (k + 1) y0 y1 y2 y3 y4 y5 y6 y7 y8)) ∧ (∀ y0 y1 y2 y3 y4 y5 y6 y7 y8 y9 y10, LeO (spec_l18Meets.l0 k y0 y1 y2 y3 y4 y5 y6 y7 y8 y9 y10) (spec_l18Meets.l0 (k + 1) y0 y1 y2 y3 y4 y5 y6 y7 y8 y9 y10)) ∧ (∀ y0 y1 y2 y3 y4 y5 y6 y7 y8 y9 y10 y11 y12 y13 y14, LeO (spec_l18Meets.l1 k y0 y1 y2 y3 y4 y5 y6 y7 y8 y9 y10 y11 y12 y13 y14) (spec_l18Meets.l1 (k + 1) y0 y1 y2 y3 y4 y5 y6 y7 y8 y9 y10 y11 y12 y13 y14))
  | 0 => ⟨fun _ _ _ _ _ _ _ _ _ r h => by simp [spec_l18Meets.j0] at h, fun _ _ _ _ _ _ _ _ _ _ _ r h => by simp [spec_l18Meets.l0] at h, fun _ _ _ _ _ _ _ _ _ _ _ _ _ _ _ r h => by simp [spec_l18Meets.l1] at h⟩
  | k + 1 => by
    obtain ⟨ih0, ih1, ih2⟩ := spec_l18Meets.mono_l k
    refine ⟨?_, ?_, ?_⟩
    · intro y0 y1 y2 y3 y4 y5 y6 y7 y8
      unfold spec_l18Meets.j0
      repeat' first | (with_reducible first | exact ih0 _ _ _ _ _ _ _ _ _ | exact ih1 _ _ _ _ _ _ _ _ _ _ _ | exact ih2 _ _ _ _ _ _ _ _ _ _ _ _ _ _ _ | exact LeO.refl _ | exact LeO.none _ | refine LeO.ite ?_ ?_ | refine LeO.bind ?_ (fun _ => ?_)) | exact ih0 _ _ _ _ _ _ _ _ _ | exact ih1 _ _ _ _ _ _ _ _ _ _ _ | exact ih2 _ _ _ _ _ _ _ _ _ _ _ _ _ _ _ | exact LeO.none _ | refine LeO.ite ?_ ?_ | refine LeO.bind ?_ (fun _ => ?_)
    · intro y0 y1 y2 y3 y4 y5 y6 y7 y8 y9 y10
      unfold spec_l18Meets.l0
      repeat' first | (with_reducible first | exact ih0 _ _ _ _ _ _ _ _ _ | exact ih1 _ _ _ _ _ _ _ _ _ _ _ | exact ih2 _ _ _ _ _ _ _ _ _ _ _ _ _ _ _ | exact LeO.refl _ | exact LeO.none _ | refine LeO.ite ?_ ?_ | refine LeO.bind ?_ (fun _ => ?_)) | exact ih0 _ _ _ _ _ _ _ _ _ | exact ih1 _ _ _ _ _ _ _ _ _ _ _ | exact ih2 _ _ _ _ _ _ _ _ _ _ _ _ _ _ _ | exact LeO.none _ | refine LeO.ite ?_ ?_ | refine LeO.bind ?_ (fun _ => ?_)
    · intro y0 y1 y2 y3 y4 y5 y6 y7 y8 y9 y10 y11 y12 y13 y14
      unfold spec_l18Meets.l1
      repeat' first | (with_reducible first | exact ih0 _ _ _ _ _ _ _ _ _ | exact ih1 _ _ _ _ _ _ _ _ _ _ _ | exact ih2 _ _ _ _ _ _ _ _ _ _ _ _ _ _ _ | exact LeO.refl _ | exact LeO.none _ | refine LeO.ite ?_ ?_ | refine LeO.bind ?_ (fun _ => ?_)) | exact ih0 _ _ _ _ _ _ _ _ _ | exact ih1 _ _ _ _ _ _ _ _ _ _ _ | exact ih2 _ _ _ _ _ _ _ _ _ _ _ _ _ _ _ | exact LeO.none _ | refine LeO.ite ?_ ?_ | refine LeO.bind ?_ (fun _ => ?_)
theorem spec_l18Meets.mono : ∀ a0 a1 a2 a3 a4 a5 k, LeO (spec_l18Meets.f k a0 a1 a2 a3 a4 a5) (spec_l18Meets.f (k + 1) a0 a1 a2 a3 a4 a5) := by
  intro a0 a1 a2 a3 a4 a5 k
  obtain ⟨ih0, ih1, ih2⟩ := spec_l18Meets.mono_l k
  unfold spec_l18Meets.f
  repeat' first | (with_reducible first | exact ih0 _ _ _ _ _ _ _ _ _ | exact ih1 _ _ _ _ _ _ _ _ _ _ _ | exact ih2 _ _ _ _ _ _ _ _ _ _ _ _ _ _ _ | exact LeO.refl _ | exact LeO.none _ | refine LeO.ite ?_ ?_ | refine LeO.bind ?_ (fun _ => ?_)) | exact ih0 _ _ _ _ _ _ _ _ _ | exact ih1 _ _ _ _ _ _ _ _ _ _ _ | exact ih2 _ _ _ _ _ _ _ _ _ _ _ _ _ _ _ | exact LeO.none _ | refine LeO.ite ?_ ?_ | refine LeO.bind ?_ (fun _ => ?_)

/-! ### spec_l18Clear: function 39 -/
mutual
def spec_l18Clear.j0 : Nat → Int → Int → Bool → Int → List Int → Option (Bool)
  | 0, _, _, _, _, _ => none
  | k + 1, x1, x2, x21, x125000, x125001 => if x21 = true then (some false) else (if x125000 = 0 then (none) else (spec_l18Clear.l0 k (Int.tmod x1 x125000) (wrap64 (Int.tdiv x1 x125000)) (Int.tmod x2 x125000) (wrap64 (Int.tdiv x2 x125000)) (x125001.length : Int) 0 x125000 x125001))
def spec_l18Clear.l0 : Nat → Int → Int → Int → Int → Int → Int → Int → List Int → Option (Bool)
  | 0, _, _, _, _, _, _, _, _ => none
  | k + 1, x7, x8, x9, x10, x40, x41, x125000, x125001 => if x41 < x40 then (if 0 ≤ x41 then (if x41 < (x125001.length : Int) then (if (rd x125001 x41) = 0 then (spec_l18Clear.l0 k x7 x8 x9 x10 x40 (wrap64 (x41 + 1)) x125000 x125001) else (if x125000 = 0 then (none) else ((spec_l18Meets.f k (wrap64 (2 * x7)) (wrap64 (2 * x8)) (wrap64 (2 * x9)) (wrap64 (2 * x10)) (Int.tmod x41 x125000) (wrap64 (Int.tdiv x41 x125000))).bind fun t128 => (if t128 = true then (some false) else (spec_l18Clear.l0 k x7 x8 x9 x10 x40 (wrap64 (x41 + 1)) x125000 x125001))))) else (none)) else (none)) else (some true)
end
def spec_l18Clear.f (k : Nat) (a0_0 : Int) (l0_1 : List Int) (a1 : Int) (a2 : Int) : Option (Bool) := (spec_l12Free.f a0_0 l0_1 a1).bind fun t125 => (if t125 = true then ((spec_l12Free.f a0_0 l0_1 a2).bind fun t126 => (spec_l18Clear.j0 k a1 a2 (!t126) a0_0 l0_1)) else (spec_l18Clear.j0 k a1 a2 true a0_0 l0_1))
theorem spec_l18Clear.mono_l : ∀ k, (∀ y0 y1 y2 y3 y4, LeO (spec_l18Clear.j0 k y0 y1 y2 y3 y4) (spec_l18Clear.j0 (k + 1) y0 y1 y2 y3 y4)) ∧ (∀ y0 y1 y2 y3 y4 y5 y6 y7, LeO (spec_l18Clear.l0 k y0 y1 y2 y3 y4 y5 y6 y7) (spec_l18Clear.l0 (k + 1) y0 y1 y2 y3 y4 y5 y6 y7))
  | 0 => ⟨fun _ _ _ _ _ r h => by simp [spec_l18Clear.j0] at h, fun _ _ _ _ _ _ _ _ r h => by simp [spec_l18Clear.l0] at h⟩
  | k + 1 => by
    obtain ⟨ih0, ih1⟩ := spec_l18Clear.mono_l k
    refine ⟨?_, ?_⟩
    · intro y0 y1 y2 y3 y4
      unfold spec_l18Clear.j0
      repeat' first | (with_reducible first | exact ih0 _ _ _ _ _ | exact ih1 _ _ _ _ _ _ _ _ | exact spec_l18Meets.mono _ _ _ _ _ _ _ | exact LeO.refl _ | exact LeO.none _ | refine LeO.ite ?_ ?_ | refine LeO.bind ?_ (fun _ => ?_)) | exact ih0 _ _ _ _ _ | exact ih1 _ _ _ _ _ _ _ _ | exact spec_l18Meets.mono _ _ _ _ _ _ _ | exact LeO.none _ | refine LeO.ite ?_ ?_ | refine LeO.bind ?_ (fun _ => ?_)
    · intro y0 y1 y2 y3 y4 y5 y6 y7
      unfold spec_l18Clear.l0
      repeat' first | (with_reducible first | exact ih0 _ _ _ _ _ | exact ih1 _ _ _ _ _ _ _ _ | exact spec_l18Meets.mono _ _ _ _ _ _ _ | exact LeO.refl _ | exact LeO.none _ | refine LeO.ite ?_ ?_ | refine LeO.bind ?_ (fun _ => ?_)) | exact ih0 _ _ _ _ _ | exact ih1 _ _ _ _ _ _ _ _ | exact spec_l18Meets.mono _ _ _ _ _ _ _ | exact LeO.none _ | refine LeO.ite ?_ ?_ | refine LeO.bind ?_ (fun _ => ?_)
theorem spec_l18Clear.mono : ∀ a0 a1 a2 a3 k, LeO (spec_l18Clear.f k a0 a1 a2 a3) (spec_l18Clear.f (k + 1) a0 a1 a2 a3) := by
  intro a0 a1 a2 a3 k
  obtain ⟨ih0, ih1⟩ := spec_l18Clear.mono_l k
  unfold spec_l18Clear.f
  repeat' first | (with_reducible first | exact ih0 _ _ _ _ _ | exact ih1 _ _ _ _ _ _ _ _ | exact spec_l18Meets.mono _ _ _ _ _ _ _ | exact LeO.refl _ | exact LeO.none _ | refine LeO.ite ?_ ?_ | refine LeO.bind ?_ (fun _ => ?_)) | exact ih0 _ _ _ _ _ | exact ih1 _ _ _ _ _ _ _ _ | exact spec_l18Meets.mono _ _ _ _ _ _ _ | exact LeO.none _ | refine LeO.ite ?_ ?_ | refine LeO.bind ?_ (fun _ => ?_)

/-! ### spec_MostClear: function 19 -/
mutual
def spec_MostClear.j0 : Nat → Int → Bool → Int → List Int → Option (List Int)
  | 0, _, _, _, _ => none
  | k + 1, x1, x15, x130000, x130001 => if x15 = true then (some ([] : List Int)) else (spec_MostClear.l0 k x1 ([] : List Int) (x130001.length : Int) 0 x130000 x130001)
def spec_MostClear.l0 : Nat → Int → List Int → Int → Int → Int → List Int → Option (List Int)
  | 0, _, _, _, _, _, _ => none
  | k + 1, x1, x5, x18, x19, x130000, x130001 => if x19 < x18 then ((spec_l18Clear.f k x130000 x130001 x1 x19).bind fun t132 => (if t132 = true then (if x5.length < 17592186044416 then (spec_MostClear.l0 k x1 (x5 ++ [x19]) x18 (wrap64 (x19 + 1)) x130000 x130001) else (none)) else (spec_MostClear.l0 k x1 x5 x18 (wrap64 (x19 + 1)) x130000 x130001))) else (some x5)
end
def spec_MostClear.f (k : Nat) (a0_0 : Int) (l0_1 : List Int) (a1 : Int) : Option (List Int) := (spec_GoodCells.f k a0_0 l0_1).bind fun t130 => (if t130 = true then ((spec_l12Free.f a0_0 l0_1 a1).bind fun t131 => (spec_MostClear.j0 k a1 (!t131) a0_0 l0_1)) else (spec_MostClear.j0 k a1 true a0_0 l0_1))
theorem spec_MostClear.mono_l : ∀ k, (∀ y0 y1 y2 y3, LeO (spec_MostClear.j0 k y0 y1 y2 y3) (spec_MostClear.j0 (k + 1) y0 y1 y2 y3)) ∧ (∀ y0 y1 y2 y3 y4 y5, LeO (spec_MostClear.l0 k y0 y1 y2 y3 y4 y5) (spec_MostClear.l0 (k + 1) y0 y1 y2 y3 y4 y5))
  | 0 => ⟨fun _ _ _ _ r h => by simp [spec_MostClear.j0] at h, fun _ _ _ _ _ _ r h => by simp [spec_MostClear.l0] at h⟩
  | k + 1 => by
    obtain ⟨ih0, ih1⟩ := spec_MostClear.mono_l k
    refine ⟨?_, ?_⟩
    · intro y0 y1 y2 y3
      unfold spec_MostClear.j0
      repeat' first | (with_reducible first | exact ih0 _ _ _ _ | exact ih1 _ _ _ _ _ _ | exact spec_GoodCells.mono _ _ _ | exact spec_l18Clear.mono _ _ _ _ _ | exact LeO.refl _ | exact LeO.none _ | refine LeO.ite ?_ ?_ | refine LeO.bind ?_ (fun _ => ?_)) | exact ih0 _ _ _ _ | exact ih1 _ _ _ _ _ _ | exact spec_GoodCells.mono _ _ _ | exact spec_l18Clear.mono _ _ _ _ _ | exact LeO.none _ | refine LeO.ite ?_ ?_ | refine LeO.bind ?_ (fun _ => ?_)
    · intro y0 y1 y2 y3 y4 y5
      unfold spec_MostClear.l0
      repeat' first | (with_reducible first | exact ih0 _ _ _ _ | exact ih1 _ _ _ _ _ _ | exact spec_GoodCells.mono _ _ _ | exact spec_l18Clear.mono _ _ _ _ _ | exact LeO.refl _ | exact LeO.none _ | refine LeO.ite ?_ ?_ | refine LeO.bind ?_ (fun _ => ?_)) | exact ih0 _ _ _ _ | exact ih1 _ _ _ _ _ _ | exact spec_GoodCells.mono _ _ _ | exact spec_l18Clear.mono _ _ _ _ _ | exact LeO.none _ | refine LeO.ite ?_ ?_ | refine LeO.bind ?_ (fun _ => ?_)
theorem spec_MostClear.mono : ∀ a0 a1 a2 k, LeO (spec_MostClear.f k a0 a1 a2) (spec_MostClear.f (k + 1) a0 a1 a2) := by
  intro a0 a1 a2 k
  obtain ⟨ih0, ih1⟩ := spec_MostClear.mono_l k
  unfold spec_MostClear.f
  repeat' first | (with_reducible first | exact ih0 _ _ _ _ | exact ih1 _ _ _ _ _ _ | exact spec_GoodCells.mono _ _ _ | exact spec_l18Clear.mono _ _ _ _ _ | exact LeO.refl _ | exact LeO.none _ | refine LeO.ite ?_ ?_ | refine LeO.bind ?_ (fun _ => ?_)) | exact ih0 _ _ _ _ | exact ih1 _ _ _ _ _ _ | exact spec_GoodCells.mono _ _ _ | exact spec_l18Clear.mono _ _ _ _ _ | exact LeO.none _ | refine LeO.ite ?_ ?_ | refine LeO.bind ?_ (fun _ => ?_)

/-! ### impl_MostClear: function 20 -/
mutual
def impl_MostClear.j0 : Nat → Int → Bool → Int → List Int → Option (List Int)
  | 0, _, _, _, _ => none
  | k + 1, x1, x15, x137000, x137001 => if x15 = true then (some ([] : List Int)) else (impl_MostClear.l0 k x1 ([] : List Int) (x137001.length : Int) 0 x137000 x137001)
def impl_MostClear.l0 : Nat → Int → List Int → Int → Int → Int → List Int → Option (List Int)
  | 0, _, _, _, _, _, _ => none
  | k + 1, x1, x5, x18, x19, x137000, x137001 => if x19 < x18 then ((impl_Cells_free.f x137000 x137001 x19).bind fun t139 => (if t139 = true then ((impl_Cells_clear.f x137000 x137001 x1 x19).bind fun t140 => (if t140 = true then (if x5.length < 17592186044416 then (impl_MostClear.l0 k x1 (x5 ++ [x19]) x18 (wrap64 (x19 + 1)) x137000 x137001) else (none)) else (impl_MostClear.l0 k x1 x5 x18 (wrap64 (x19 + 1)) x137000 x137001))) else (impl_MostClear.l0 k x1 x5 x18 (wrap64 (x19 + 1)) x137000 x137001))) else (some x5)
end
def impl_MostClear.f (k : Nat) (a0_0 : Int) (l0_1 : List Int) (a1 : Int) : Option (List Int) := (impl_GoodCells.f k a0_0 l0_1).bind fun t137 => (if t137 = true then ((impl_Cells_free.f a0_0 l0_1 a1).bind fun t138 => (impl_MostClear.j0 k a1 (!t138) a0_0 l0_1)) else (impl_MostClear.j0 k a1 true a0_0 l0_1))
theorem impl_MostClear.mono_l : ∀ k, (∀ y0 y1 y2 y3, LeO (impl_MostClear.j0 k y0 y1 y2 y3) (impl_MostClear.j0 (k + 1) y0 y1 y2 y3)) ∧ (∀ y0 y1 y2 y3 y4 y5, LeO (impl_MostClear.l0 k y0 y1 y2 y3 y4 y5) (impl_MostClear.l0 (k + 1) y0 y1 y2 y3 y4 y5))
  | 0 => ⟨fun _ _ _ _ r h => by simp [impl_MostClear.j0] at h, fun _ _ _ _ _ _ r h => by simp [impl_MostClear.l0] at h⟩
  | k + 1 => by
    obtain ⟨ih0, ih1⟩ := impl_MostClear.mono_l k
    refine ⟨?_, ?_⟩
    · intro y0 y1 y2 y3
      unfold impl_MostClear.j0
      repeat' first | (with_reducible first | exact ih0 _ _ _ _ | exact ih1 _ _ _ _ _ _ | exact impl_GoodCells.mono _ _ _ | exact LeO.refl _ | exact LeO.none _ | refine LeO.ite ?_ ?_ | refine LeO.bind ?_ (fun _ => ?_)) | exact ih0 _ _ _ _ | exact ih1 _ _ _ _ _ _ | exact impl_GoodCells.mono _ _ _ | exact LeO.none _ | refine LeO.ite ?_ ?_ | refine LeO.bind ?_ (fun _ => ?_)
    · intro y0 y1 y2 y3 y4 y5
      unfold impl_MostClear.l0
      repeat' first | (with_reducible first | exact ih0 _ _ _ _ | exact ih1 _ _ _ _ _ _ | exact impl_GoodCells.mono _ _ _ | exact LeO.refl _ | exact LeO.none _ | refine LeO.ite ?_ ?_ | refine LeO.bind ?_ (fun _ => ?_)) | exact ih0 _ _ _ _ | exact ih1 _ _ _ _ _ _ | exact impl_GoodCells.mono _ _ _ | exact LeO.none _ | refine LeO.ite ?_ ?_ | refine LeO.bind ?_ (fun _ => ?_)
theorem impl_MostClear.mono : ∀ a0 a1 a2 k, LeO (impl_MostClear.f k a0 a1 a2) (impl_MostClear.f (k + 1) a0 a1 a2) := by
  intro a0 a1 a2 k
  obtain ⟨ih0, ih1⟩ := impl_MostClear.mono_l k
  unfold impl_MostClear.f
  repeat' first | (with_reducible first | exact ih0 _ _ _ _ | exact ih1 _ _ _ _ _ _ | exact impl_GoodCells.mono _ _ _ | exact LeO.refl _ | exact LeO.none _ | refine LeO.ite ?_ ?_ | refine LeO.bind ?_ (fun _ => ?_)) | exact ih0 _ _ _ _ | exact ih1 _ _ _ _ _ _ | exact impl_GoodCells.mono _ _ _ | exact LeO.none _ | refine LeO.ite ?_ ?_ | refine LeO.bind ?_ (fun _ => ?_)

/-- A state of type 72 at block g of W; what its slices lead to came in by w0. -/
def IsS72 (w0 W : World) (g : Nat) (f0 : List Int) (f1 : Int) (f2 : Int) : Prop := ∃ A0 c0, W.heap[g]? = some (.cells #[.slice A0 f0.length c0, .int .i64 f1, .int .u64 f2] 72 (0, 0)) ∧ w0.heap.size ≤ g ∧ Kd.C (Kd.int .u8) w0 A0 f0.length f0
theorem IsS72.grown {w0 W : World} {g : Nat} {f0 : List Int} {f1 : Int} {f2 : Int} {W1 : World} {row : Option Nat} (h : IsS72 w0 W g f0 f1 f2) (hw : W.grownBy W1 row) (hne : some g ≠ row) : IsS72 w0 W1 g f0 f1 f2 := by
  obtain ⟨A0, c0, hb, hg, hr0⟩ := h
  exact ⟨A0, c0, blk_grown hb hw hne, hg, hr0⟩
theorem IsS72.own_neN {w0 W : World} {g : Nat} {f0 : List Int} {f1 : Int} {f2 : Int} {α : Type} {d : Kd α} {e : Nat} {base : Nat} {ok : Nat → Prop} {v : Value} {xs : List α} (h : IsS72 w0 W g f0 f1 f2) (ho : Kd.N d e W base ok v xs) (ht : e ≠ 72) : some g ≠ v.ownBlock := by
  obtain ⟨A0, c0, hb, hg, hr0⟩ := h
  exact Kd.N_ne ho hb ht
theorem IsS72.fresh {w0 W : World} {g : Nat} {f0 : List Int} {f1 : Int} {f2 : Int} (h : IsS72 w0 W g f0 f1 f2) : ∀ k, W.heap.size ≤ k → k ≠ g := by
  obtain ⟨A0, c0, hb, hg, hr0⟩ := h
  exact Kd.freshB hb
theorem IsS72.kept {w0 W : World} {g : Nat} {f0 : List Int} {f1 : Int} {f2 : Int} {W1 : World} {S : Nat → Prop} (h : IsS72 w0 W g f0 f1 f2) (hk : Kept W W1 S) (hne : ¬ S g) : IsS72 w0 W1 g f0 f1 f2 := by
  obtain ⟨A0, c0, hb, hg, hr0⟩ := h
  exact ⟨A0, c0, blk_kept hb hk hne, hg, hr0⟩
theorem IsS72.below {w0 W : World} {g : Nat} {f0 : List Int} {f1 : Int} {f2 : Int} {W1 : World} (h : IsS72 w0 W g f0 f1 f2) (hw : Below W.heap.size W W1) : IsS72 w0 W1 g f0 f1 f2 := h.grown (grown_of_below hw none) (by simp)
theorem IsS72.alloc {w0 W : World} {g : Nat} {f0 : List Int} {f1 : Int} {f2 : Int} (h : IsS72 w0 W g f0 f1 f2) (o : Obj) : IsS72 w0 (W.alloc o) g f0 f1 f2 := h.below (below_alloc (Below.refl _ _) o)
theorem IsS72.drewN {w0 W : World} {g : Nat} {f0 : List Int} {f1 : Int} {f2 : Int} (h : IsS72 w0 W g f0 f1 f2) (m : Nat) : IsS72 w0 (W.drewN m) g f0 f1 f2 := h
theorem IsS72.drew {w0 W : World} {g : Nat} {f0 : List Int} {f1 : Int} {f2 : Int} (h : IsS72 w0 W g f0 f1 f2) : IsS72 w0 W.drew g f0 f1 f2 := h
theorem IsS72.at_ {w0 W : World} {g : Nat} {f0 : List Int} {f1 : Int} {f2 : Int} {w' : World} {m : Nat} (hq : W.drewN m = w') (h : IsS72 w0 W g f0 f1 f2) : IsS72 w0 w' g f0 f1 f2 := by subst hq; exact IsS72.drewN h m
theorem IsS72.apart {w0 W : World} {g : Nat} {f0 : List Int} {f1 : Int} {f2 : Int} {α : Type} {d : Kd α} {e : Nat} {base : Nat} {ok : Nat → Prop} {v : Value} {xs : List α} (h : IsS72 w0 W g f0 f1 f2) (ho : d.R e W base ok v xs) (ht : ∀ q, q ∈ e :: d.E → q ≠ 72) : d.R e W base (fun k => ok k ∧ k ≠ g) v xs := by
  obtain ⟨A0, c0, hb, hg, hr0⟩ := h
  exact Kd.R_types ho hb ht
theorem IsS72.own_ne {w0 W : World} {g : Nat} {f0 : List Int} {f1 : Int} {f2 : Int} {α : Type} {d : Kd α} {e : Nat} {base : Nat} {ok : Nat → Prop} {v : Value} {xs : List α} (h : IsS72 w0 W g f0 f1 f2) (ho : d.R e W base ok v xs) (ht : e ≠ 72) : some g ≠ v.ownBlock := by
  obtain ⟨A0, c0, hb, hg, hr0⟩ := h
  exact Kd.R_ne ho hb ht
theorem IsS72.apartQ {w0 W : World} {g : Nat} {f0 : List Int} {f1 : Int} {f2 : Int} {α : Type} {d : Kd α} {e : Nat} {base : Nat} {ok : Nat → Prop} {v : Value} {xs : List α} (h : IsS72 w0 W g f0 f1 f2) (ho : d.Q e W base ok v xs) (ht : ∀ q, q ∈ e :: d.E → q ≠ 72) : d.Q e W base (fun k => ok k ∧ k ≠ g) v xs := by
  obtain ⟨A0, c0, hb, hg, hr0⟩ := h
  exact Kd.Q_types ho hb ht
theorem IsS72.own_neQ {w0 W : World} {g : Nat} {f0 : List Int} {f1 : Int} {f2 : Int} {α : Type} {d : Kd α} {e : Nat} {base : Nat} {ok : Nat → Prop} {v : Value} {xs : List α} (h : IsS72 w0 W g f0 f1 f2) (ho : d.Q e W base ok v xs) (ht : e ≠ 72) : some g ≠ v.ownBlock := by
  obtain ⟨A0, c0, hb, hg, hr0⟩ := h
  exact Kd.Q_ne ho hb ht
theorem IsS72.apartS {w0 W : World} {g : Nat} {f0 : List Int} {f1 : Int} {f2 : Int} {α : Type} {d : Kd α} {e : Nat} {base : Nat} {ok : Nat → Prop} {v : Value} {xs : List α} (h : IsS72 w0 W g f0 f1 f2) (ho : d.S e W base ok v xs) (ht : ∀ q, q ∈ e :: d.E → q ≠ 72) : d.S e W base (fun k => ok k ∧ k ≠ g) v xs := by
  obtain ⟨A0, c0, hb, hg, hr0⟩ := h
  exact Kd.S_types ho hb ht
theorem IsS72.own_neS {w0 W : World} {g : Nat} {f0 : List Int} {f1 : Int} {f2 : Int} {α : Type} {d : Kd α} {e : Nat} {base : Nat} {ok : Nat → Prop} {v : Value} {xs : List α} (h : IsS72 w0 W g f0 f1 f2) (ho : d.S e W base ok v xs) (ht : e ≠ 72) : some g ≠ v.ownBlock := by
  obtain ⟨A0, c0, hb, hg, hr0⟩ := h
  exact Kd.S_ne ho hb ht
theorem IsS72.lt {w0 W : World} {g : Nat} {f0 : List Int} {f1 : Int} {f2 : Int} (h : IsS72 w0 W g f0 f1 f2) : g < W.heap.size := by
  obtain ⟨A0, c0, hb, hg, hr0⟩ := h
  exact blk_lt hb
theorem IsS72.ge {w0 W : World} {g : Nat} {f0 : List Int} {f1 : Int} {f2 : Int} (h : IsS72 w0 W g f0 f1 f2) : w0.heap.size ≤ g := by
  obtain ⟨A0, c0, hb, hg, hr0⟩ := h
  exact hg
theorem IsS72.ne_blk {w0 W : World} {g : Nat} {f0 : List Int} {f1 : Int} {f2 : Int} {a : Nat} {cs : Array Value} {t : TypeId} {fr : Nat × Nat} (h : IsS72 w0 W g f0 f1 f2) (hb2 : W.heap[a]? = some (.cells cs t fr)) (ht : t ≠ 72) : g ≠ a := by
  obtain ⟨A0, c0, hb, hg, hr0⟩ := h
  rintro rfl
  rw [hb] at hb2
  injection hb2 with hb2
  injection hb2 with _ ht2
  exact ht ht2.symm
theorem IsS72.far {w0 W : World} {g : Nat} {f0 : List Int} {f1 : Int} {f2 : Int} {p : Addr} (h : IsS72 w0 W g f0 f1 f2) (hne : g ≠ p.block) (u : Value) : IsS72 w0 (W.setCell p u) g f0 f1 f2 := by
  obtain ⟨A0, c0, hb, hg, hr0⟩ := h
  exact ⟨A0, c0, blk_far hb hne u, hg, hr0⟩
theorem cellS72_0 {W : World} {g : Nat} {A0 : Option Addr} {c0 : Nat} {f0 : List Int} {f1 : Int} {f2 : Int} (h : W.heap[g]? = some (.cells #[.slice A0 f0.length c0, .int .i64 f1, .int .u64 f2] 72 (0, 0))) : W.cell? ⟨g, 0, none⟩ = some (.slice A0 f0.length c0) := (blk_cell h 0).trans rfl
theorem cellS72_1 {W : World} {g : Nat} {A0 : Option Addr} {c0 : Nat} {f0 : List Int} {f1 : Int} {f2 : Int} (h : W.heap[g]? = some (.cells #[.slice A0 f0.length c0, .int .i64 f1, .int .u64 f2] 72 (0, 0))) : W.cell? ⟨g, 1, none⟩ = some (.int .i64 f1) := (blk_cell h 1).trans rfl
theorem IsS72.set_1 {w0 W : World} {g : Nat} {f0 : List Int} {f1 : Int} {f2 : Int} (h : IsS72 w0 W g f0 f1 f2) (x : Int) : IsS72 w0 (W.setCell ⟨g, 1, none⟩ (.int .i64 x)) g f0 x f2 := by
  obtain ⟨A0, c0, hb, hg, hr0⟩ := h
  exact ⟨A0, c0, by simpa using blk_set hb 1 (.int .i64 x), hg, hr0⟩
theorem cellS72_2 {W : World} {g : Nat} {A0 : Option Addr} {c0 : Nat} {f0 : List Int} {f1 : Int} {f2 : Int} (h : W.heap[g]? = some (.cells #[.slice A0 f0.length c0, .int .i64 f1, .int .u64 f2] 72 (0, 0))) : W.cell? ⟨g, 2, none⟩ = some (.int .u64 f2) := (blk_cell h 2).trans rfl
theorem IsS72.set_2 {w0 W : World} {g : Nat} {f0 : List Int} {f1 : Int} {f2 : Int} (h : IsS72 w0 W g f0 f1 f2) (x : Int) : IsS72 w0 (W.setCell ⟨g, 2, none⟩ (.int .u64 x)) g f0 f1 x := by
  obtain ⟨A0, c0, hb, hg, hr0⟩ := h
  exact ⟨A0, c0, by simpa using blk_set hb 2 (.int .u64 x), hg, hr0⟩
theorem IsS72.new (w0 W : World) (A0 : Option Addr) (c0 : Nat) (f0 : List Int) (f1 : Int) (f2 : Int) (hB : Below w0.heap.size w0 W) (hr0 : Kd.C (Kd.int .u8) w0 A0 f0.length f0) : IsS72 w0 (W.alloc (.cells #[.slice A0 f0.length c0, .int .i64 f1, .int .u64 f2] 72)) W.heap.size f0 f1 f2 := ⟨A0, c0, by simpa using heap_alloc_new W _, hB.size, hr0⟩

/-! ### spec_l1Cur_next: function 68 -/
def spec_l1Cur_next.f (s0_0 : List Int) (s0_1 : Int) (s0_2 : Int) : Option (Int × Int × Int) := if s0_1 < (s0_0.length : Int) then (if 0 ≤ s0_1 then (if (wrap64 (s0_1 + 1)) ≤ (s0_0.length : Int) then (some (wrap64 (rd s0_0 s0_1), wrap64 (s0_1 + 1), IntKind.u64.wrap ((IntKind.u64.wrap ((IntKind.u64.wrap (s0_2 * 6364136223846793005)) + (IntKind.u64.wrap (wrap64 (rd s0_0 s0_1))))) + 1442695040888963407))) else (some (wrap64 (Go.bits .and .u64 ((IntKind.u64.wrap ((IntKind.u64.wrap ((IntKind.u64.wrap (s0_2 * 6364136223846793005)) + (IntKind.u64.wrap (wrap64 (rd s0_0 s0_1))))) + 1442695040888963407)) / 1099511627776) 255), wrap64 (s0_1 + 1), IntKind.u64.wrap ((IntKind.u64.wrap ((IntKind.u64.wrap (s0_2 * 6364136223846793005)) + (IntKind.u64.wrap (wrap64 (rd s0_0 s0_1))))) + 1442695040888963407)))) else (none)) else (if (wrap64 (s0_1 + 1)) ≤ (s0_0.length : Int) then (some (0, wrap64 (s0_1 + 1), IntKind.u64.wrap ((IntKind.u64.wrap ((IntKind.u64.wrap (s0_2 * 6364136223846793005)) + 0)) + 1442695040888963407))) else (some (wrap64 (Go.bits .and .u64 ((IntKind.u64.wrap ((IntKind.u64.wrap ((IntKind.u64.wrap (s0_2 * 6364136223846793005)) + 0)) + 1442695040888963407)) / 1099511627776) 255), wrap64 (s0_1 + 1), IntKind.u64.wrap ((IntKind.u64.wrap ((IntKind.u64.wrap (s0_2 * 6364136223846793005)) + 0)) + 1442695040888963407))))

/-! ### spec_l1Cur_pick: function 62 -/
def spec_l1Cur_pick.f (s0_0 : List Int) (s0_1 : Int) (s0_2 : Int) (a1 : Int) : Option (Int × Int × Int) := if a1 ≤ 1 then (some (0, s0_1, s0_2)) else ((spec_l1Cur_next.f s0_0 s0_1 s0_2).bind fun bt145 => (if a1 > 200 then ((spec_l1Cur_next.f s0_0 bt145.2.1 bt145.2.2).bind fun bt148 => (if a1 = 0 then (none) else (some (Int.tmod (wrap64 ((wrap64 (bt145.1 * 256)) + bt148.1)) a1, bt148.2.1, bt148.2.2)))) else (if a1 = 0 then (none) else (some (Int.tmod bt145.1 a1, bt145.2.1, bt145.2.2)))))

/-! ### spec_l1Cur_one: function 61 -/
def spec_l1Cur_one.f (s0_0 : List Int) (s0_1 : Int) (s0_2 : Int) (a1 : Int) : Option (Bool × Int × Int) := (spec_l1Cur_pick.f s0_0 s0_1 s0_2 a1).bind fun bt151 => (some ((bt151.1 == 0), bt151.2.1, bt151.2.2))

/-! ### spec_l1Cur_among: function 67 -/
def spec_l1Cur_among.f (s0_0 : List Int) (s0_1 : Int) (s0_2 : Int) (l1 : List Int) : Option (Int × Int × Int) := (spec_l1Cur_pick.f s0_0 s0_1 s0_2 (l1.length : Int)).bind fun bt154 => (if 0 ≤ bt154.1 then (if bt154.1 < (l1.length : Int) then (some (rd l1 bt154.1, bt154.2.1, bt154.2.2)) else (none)) else (none))

/-! ### spec_l1Cur_extent: function 66 -/
def spec_l1Cur_extent.f (s0_0 : List Int) (s0_1 : Int) (s0_2 : Int) : Option (Int × Int × Int × Int) := (spec_l1Cur_one.f s0_0 s0_1 s0_2 12).bind fun bt158 => (if bt158.1 = true then ((spec_l1Cur_among.f s0_0 bt158.2.1 bt158.2.2 (([16, 1, 17, 0] : List Int))).bind fun bt164 => ((spec_l1Cur_among.f s0_0 bt164.2.1 bt164.2.2 (([16, 1, 0, 17] : List Int))).bind fun bt170 => (some (bt164.1, bt170.1, bt170.2.1, bt170.2.2)))) else ((spec_l1Cur_pick.f s0_0 bt158.2.1 bt158.2.2 6).bind fun bt173 => ((spec_l1Cur_pick.f s0_0 bt173.2.1 bt173.2.2 6).bind fun bt176 => (some (wrap64 (1 + bt173.1), wrap64 (1 + bt176.1), bt176.2.1, bt176.2.2)))))

/-! ### spec_l1Cur_cells: function 59 -/
mutual
def spec_l1Cur_cells.l0 : Nat → Int → Int → Int → Int → List Int → Int → Int → Int → List Int → Option (Int × List Int × Int × Int)
  | 0, _, _, _, _, _, _, _, _, _ => none
  | k + 1, x3, x4, x6, x7, x1000, x1001, x1002, x185000, x185001 => if x7 < (wrap64 (x3 * x4)) then ((spec_l1Cur_pick.f x1000 x1001 x1002 10).bind fun bt188 => (if bt188.1 < x6 then ((spec_l1Cur_one.f x1000 bt188.2.1 bt188.2.2 20).bind fun bt191 => (if bt191.1 = true then (if x185001.length < 17592186044416 then (spec_l1Cur_cells.l0 k x3 x4 x6 (wrap64 (x7 + 1)) x1000 bt191.2.1 bt191.2.2 x185000 (x185001 ++ [2])) else (none)) else (if x185001.length < 17592186044416 then (spec_l1Cur_cells.l0 k x3 x4 x6 (wrap64 (x7 + 1)) x1000 bt191.2.1 bt191.2.2 x185000 (x185001 ++ [1])) else (none)))) else ((spec_l1Cur_one.f x1000 bt188.2.1 bt188.2.2 20).bind fun bt200 => (if bt200.1 = true then (if x185001.length < 17592186044416 then (spec_l1Cur_cells.l0 k x3 x4 x6 (wrap64 (x7 + 1)) x1000 bt200.2.1 bt200.2.2 x185000 (x185001 ++ [2])) else (none)) else (if x185001.length < 17592186044416 then (spec_l1Cur_cells.l0 k x3 x4 x6 (wrap64 (x7 + 1)) x1000 bt200.2.1 bt200.2.2 x185000 (x185001 ++ [0])) else (none)))))) else ((spec_l1Cur_one.f x1000 x1001 x1002 24).bind fun bt209 => (if bt209.1 = true then (spec_l1Cur_cells.j1 k (decide ((x185001.length : Int) > 0)) x1000 bt209.2.1 bt209.2.2 x185000 x185001) else (spec_l1Cur_cells.j1 k false x1000 bt209.2.1 bt209.2.2 x185000 x185001)))
def spec_l1Cur_cells.j1 : Nat → Bool → List Int → Int → Int → Int → List Int → Option (Int × List Int × Int × Int)
  | 0, _, _, _, _, _, _ => none
  | k + 1, x44, x1000, x1001, x1002, x185000, x185001 => if x44 = true then ((spec_l1Cur_among.f x1000 x1001 x1002 (([(-1), 3] : List Int))).bind fun bt215 => (if 0 < (x185001.length : Int) then ((some (x185001.set (0 : Int).toNat bt215.1 : List Int)).bind fun y218 => ((spec_l1Cur_one.f x1000 bt215.2.1 bt215.2.2 30).bind fun bt219 => (if bt219.1 = true then (if y218.length < 17592186044416 then (some (x185000, (y218 ++ [0]), bt219.2.1, bt219.2.2)) else (none)) else (some (x185000, y218, bt219.2.1, bt219.2.2))))) else (none))) else ((spec_l1Cur_one.f x1000 x1001 x1002 30).bind fun bt225 => (if bt225.1 = true then (if x185001.length < 17592186044416 then (some (x185000, (x185001 ++ [0]), bt225.2.1, bt225.2.2)) else (none)) else (some (x185000, x185001, bt225.2.1, bt225.2.2))))
end
def spec_l1Cur_cells.f (k : Nat) (s0_0 : List Int) (s0_1 : Int) (s0_2 : Int) : Option (Int × List Int × Int × Int) := (spec_l1Cur_extent.f s0_0 s0_1 s0_2).bind fun bt180 => ((spec_l1Cur_pick.f s0_0 bt180.2.2.1 bt180.2.2.2 5).bind fun bt185 => (spec_l1Cur_cells.l0 k bt180.1 bt180.2.1 bt185.1 0 s0_0 bt185.2.1 bt185.2.2 bt180.1 ([] : List Int)))
theorem spec_l1Cur_cells.mono_l : ∀ k, (∀ y0 y1 y2 y3 y4 y5 y6 y7 y8, LeO (spec_l1Cur_cells.l0 k y0 y1 y2 y3 y4 y5 y6 y7 y8) (spec_l1Cur_cells.l0 (k + 1) y0 y1 y2 y3 y4 y5 y6 y7 y8)) ∧ (∀ y0 y1 y2 y3 y4 y5, LeO (spec_l1Cur_cells.j1 k y0 y1 y2 y3 y4 y5) (spec_l1Cur_cells.j1 (k + 1) y0 y1 y2 y3 y4 y5))
  | 0 => ⟨fun _ _ _ _ _ _ _ _ _ r h => by simp [spec_l1Cur_cells.l0] at h, fun _ _ _ _ _ _ r h => by simp [spec_l1Cur_cells.j1] at h⟩
  | k + 1 => by
    obtain ⟨ih0, ih1⟩ := spec_l1Cur_cells.mono_l k
    refine ⟨?_, ?_⟩
    · intro y0 y1 y2 y3 y4 y5 y6 y7 y8
      unfold spec_l1Cur_cells.l0
      repeat' first | (with_reducible first | exact ih0 _ _ _ _ _ _ _ _ _ | exact ih1 _ _ _ _ _ _ | exact LeO.refl _ | exact LeO.none _ | refine LeO.ite ?_ ?_ | refine LeO.bind ?_ (fun _ => ?_)) | exact ih0 _ _ _ _ _ _ _ _ _ | exact ih1 _ _ _ _ _ _ | exact LeO.none _ | refine LeO.ite ?_ ?_ | refine LeO.bind ?_ (fun _ => ?_)
    · intro y0 y1 y2 y3 y4 y5
      unfold spec_l1Cur_cells.j1
      repeat' first | (with_reducible first | exact ih0 _ _ _ _ _ _ _ _ _ | exact ih1 _ _ _ _ _ _ | exact LeO.refl _ | exact LeO.none _ | refine LeO.ite ?_ ?_ | refine LeO.bind ?_ (fun _ => ?_)) | exact ih0 _ _ _ _ _ _ _ _ _ | exact ih1 _ _ _ _ _ _ | exact LeO.none _ | refine LeO.ite ?_ ?_ | refine LeO.bind ?_ (fun _ => ?_)
theorem spec_l1Cur_cells.mono : ∀ a0 a1 a2 k, LeO (spec_l1Cur_cells.f k a0 a1 a2) (spec_l1Cur_cells.f (k + 1) a0 a1 a2) := by
  intro a0 a1 a2 k
  obtain ⟨ih0, ih1⟩ := spec_l1Cur_cells.mono_l k
  unfold spec_l1Cur_cells.f
  repeat' first | (with_reducible first | exact ih0 _ _ _ _ _ _ _ _ _ | exact ih1 _ _ _ _ _ _ | exact LeO.refl _ | exact LeO.none _ | refine LeO.ite ?_ ?_ | refine LeO.bind ?_ (fun _ => ?_)) | exact ih0 _ _ _ _ _ _ _ _ _ | exact ih1 _ _ _ _ _ _ | exact LeO.none _ | refine LeO.ite ?_ ?_ | refine LeO.bind ?_ (fun _ => ?_)

/-! ### spec_AllPlaces: function 60 -/
def spec_AllPlaces.l0 : Nat → List Int → Int → Int → Int → List Int → Option (List Int)
  | 0, _, _, _, _, _ => none
  | k + 1, x3, x10, x11, x232000, x232001 => if x11 < x10 then (if 0 ≤ x11 then (if x11 < (x232001.length : Int) then (if (rd x232001 x11) = 0 then (if x3.length < 17592186044416 then (spec_AllPlaces.l0 k (x3 ++ [x11]) x10 (wrap64 (x11 + 1)) x232000 x232001) else (none)) else (spec_AllPlaces.l0 k x3 x10 (wrap64 (x11 + 1)) x232000 x232001)) else (none)) else (none)) else (some x3)
def spec_AllPlaces.f (k : Nat) (a0_0 : Int) (l0_1 : List Int) : Option (List Int) := (spec_GoodCells.f k a0_0 l0_1).bind fun t232 => (if t232 = true then (spec_AllPlaces.l0 k ([] : List Int) (l0_1.length : Int) 0 a0_0 l0_1) else (some ([] : List Int)))
theorem spec_AllPlaces.mono_l : ∀ k, (∀ y0 y1 y2 y3 y4, LeO (spec_AllPlaces.l0 k y0 y1 y2 y3 y4) (spec_AllPlaces.l0 (k + 1) y0 y1 y2 y3 y4))
  | 0 => fun _ _ _ _ _ r h => by simp [spec_AllPlaces.l0] at h
  | k + 1 => by
    have ih0 := spec_AllPlaces.mono_l k
    · intro y0 y1 y2 y3 y4
      unfold spec_AllPlaces.l0
      repeat' first | (with_reducible first | exact ih0 _ _ _ _ _ | exact spec_GoodCells.mono _ _ _ | exact LeO.refl _ | exact LeO.none _ | refine LeO.ite ?_ ?_ | refine LeO.bind ?_ (fun _ => ?_)) | exact ih0 _ _ _ _ _ | exact spec_GoodCells.mono _ _ _ | exact LeO.none _ | refine LeO.ite ?_ ?_ | refine LeO.bind ?_ (fun _ => ?_)
theorem spec_AllPlaces.mono : ∀ a0 a1 k, LeO (spec_AllPlaces.f k a0 a1) (spec_AllPlaces.f (k + 1) a0 a1) := by
  intro a0 a1 k
  have ih0 := spec_AllPlaces.mono_l k
  unfold spec_AllPlaces.f
  repeat' first | (with_reducible first | exact ih0 _ _ _ _ _ | exact spec_GoodCells.mono _ _ _ | exact LeO.refl _ | exact LeO.none _ | refine LeO.ite ?_ ?_ | refine LeO.bind ?_ (fun _ => ?_)) | exact ih0 _ _ _ _ _ | exact spec_GoodCells.mono _ _ _ | exact LeO.none _ | refine LeO.ite ?_ ?_ | refine LeO.bind ?_ (fun _ => ?_)

/-! ### spec_l1Cur_ends: function 46 -/
def spec_l1Cur_ends.j0 : Nat → List Int → Bool → List Int → Int → Int → Int → List Int → Option (Int × List Int × Int × Int × Int × Int)
  | 0, _, _, _, _, _, _, _ => none
  | k + 1, x6, x17, x1000, x1001, x1002, x245000, x245001 => if x17 = true then ((spec_l1Cur_pick.f x1000 x1001 x1002 (wrap64 ((x245001.length : Int) + 1))).bind fun bt251 => ((spec_l1Cur_pick.f x1000 bt251.2.1 bt251.2.2 (wrap64 ((x245001.length : Int) + 1))).bind fun bt254 => (some (x245000, x245001, bt251.1, wrap64 (bt254.1 - 1), bt254.2.1, bt254.2.2)))) else ((spec_l1Cur_pick.f x1000 x1001 x1002 (x6.length : Int)).bind fun bt257 => (if 0 ≤ bt257.1 then (if bt257.1 < (x6.length : Int) then ((spec_l1Cur_pick.f x1000 bt257.2.1 bt257.2.2 (x6.length : Int)).bind fun bt261 => (if 0 ≤ bt261.1 then (if bt261.1 < (x6.length : Int) then (some (x245000, x245001, rd x6 bt257.1, rd x6 bt261.1, bt261.2.1, bt261.2.2)) else (none)) else (none))) else (none)) else (none)))
def spec_l1Cur_ends.f (k : Nat) (s0_0 : List Int) (s0_1 : Int) (s0_2 : Int) : Option (Int × List Int × Int × Int × Int × Int) := (spec_l1Cur_cells.f k s0_0 s0_1 s0_2).bind fun bt238 => ((spec_AllPlaces.f k bt238.1 bt238.2.1).bind fun t245 => (if (t245.length : Int) = 0 then (spec_l1Cur_ends.j0 k t245 true s0_0 bt238.2.2.1 bt238.2.2.2 bt238.1 bt238.2.1) else ((spec_l1Cur_one.f s0_0 bt238.2.2.1 bt238.2.2.2 16).bind fun bt248 => (spec_l1Cur_ends.j0 k t245 bt248.1 s0_0 bt248.2.1 bt248.2.2 bt238.1 bt238.2.1))))
theorem spec_l1Cur_ends.mono_l : ∀ k, (∀ y0 y1 y2 y3 y4 y5 y6, LeO (spec_l1Cur_ends.j0 k y0 y1 y2 y3 y4 y5 y6) (spec_l1Cur_ends.j0 (k + 1) y0 y1 y2 y3 y4 y5 y6))
  | 0 => fun _ _ _ _ _ _ _ r h => by simp [spec_l1Cur_ends.j0] at h
  | k + 1 => by
    have ih0 := spec_l1Cur_ends.mono_l k
    · intro y0 y1 y2 y3 y4 y5 y6
      unfold spec_l1Cur_ends.j0
      repeat' first | (with_reducible first | exact ih0 _ _ _ _ _ _ _ | exact spec_AllPlaces.mono _ _ _ | exact spec_l1Cur_cells.mono _ _ _ _ | exact LeO.refl _ | exact LeO.none _ | refine LeO.ite ?_ ?_ | refine LeO.bind ?_ (fun _ => ?_)) | exact ih0 _ _ _ _ _ _ _ | exact spec_AllPlaces.mono _ _ _ | exact spec_l1Cur_cells.mono _ _ _ _ | exact LeO.none _ | refine LeO.ite ?_ ?_ | refine LeO.bind ?_ (fun _ => ?_)
theorem spec_l1Cur_ends.mono : ∀ a0 a1 a2 k, LeO (spec_l1Cur_ends.f k a0 a1 a2) (spec_l1Cur_ends.f (k + 1) a0 a1 a2) := by
  intro a0 a1 a2 k
  have ih0 := spec_l1Cur_ends.mono_l k
  unfold spec_l1Cur_ends.f
  repeat' first | (with_reducible first | exact ih0 _ _ _ _ _ _ _ | exact spec_AllPlaces.mono _ _ _ | exact spec_l1Cur_cells.mono _ _ _ _ | exact LeO.refl _ | exact LeO.none _ | refine LeO.ite ?_ ?_ | refine LeO.bind ?_ (fun _ => ?_)) | exact ih0 _ _ _ _ _ _ _ | exact spec_AllPlaces.mono _ _ _ | exact spec_l1Cur_cells.mono _ _ _ _ | exact LeO.none _ | refine LeO.ite ?_ ?_ | refine LeO.bind ?_ (fun _ => ?_)

/-! ### spec_DrawMostClear: function 26 -/
def spec_DrawMostClear.f (k : Nat) (l0 : List Int) : Option (Int × List Int × Int) := (spec_l1Cur_ends.f k l0 0 0).bind fun bt267 => (some (bt267.1, bt267.2.1, bt267.2.2.1))
theorem spec_DrawMostClear.mono : ∀ a0 k, LeO (spec_DrawMostClear.f k a0) (spec_DrawMostClear.f (k + 1) a0) := by
  intro a0 k
  unfold spec_DrawMostClear.f
  repeat' first | (with_reducible first | exact spec_l1Cur_ends.mono _ _ _ _ | exact LeO.refl _ | exact LeO.none _ | refine LeO.ite ?_ ?_ | refine LeO.bind ?_ (fun _ => ?_)) | exact spec_l1Cur_ends.mono _ _ _ _ | exact LeO.none _ | refine LeO.ite ?_ ?_ | refine LeO.bind ?_ (fun _ => ?_)

/-! ### laws_zRising: function 27 -/
def laws_zRising.l0 : Nat → List Int → Int → Option (Bool)
  | 0, _, _ => none
  | k + 1, x0, x3 => if x3 < (x0.length : Int) then (if 0 ≤ x3 then (if 0 ≤ (wrap64 (x3 - 1)) then (if (wrap64 (x3 - 1)) < (x0.length : Int) then (if (rd x0 x3) ≤ (rd x0 (wrap64 (x3 - 1))) then (some false) else (laws_zRising.l0 k x0 (wrap64 (x3 + 1)))) else (none)) else (none)) else (none)) else (some true)
def laws_zRising.f (k : Nat) (l0 : List Int) : Option (Bool) := laws_zRising.l0 k l0 1
theorem laws_zRising.mono_l : ∀ k, (∀ y0 y1, LeO (laws_zRising.l0 k y0 y1) (laws_zRising.l0 (k + 1) y0 y1))
  | 0 => fun _ _ r h => by simp [laws_zRising.l0] at h
  | k + 1 => by
    have ih0 := laws_zRising.mono_l k
    · intro y0 y1
      unfold laws_zRising.l0
      repeat' first | (with_reducible first | exact ih0 _ _ | exact LeO.refl _ | exact LeO.none _ | refine LeO.ite ?_ ?_ | refine LeO.bind ?_ (fun _ => ?_)) | exact ih0 _ _ | exact LeO.none _ | refine LeO.ite ?_ ?_ | refine LeO.bind ?_ (fun _ => ?_)
theorem laws_zRising.mono : ∀ a0 k, LeO (laws_zRising.f k a0) (laws_zRising.f (k + 1) a0) := by
  intro a0 k
  have ih0 := laws_zRising.mono_l k
  unfold laws_zRising.f
  repeat' first | (with_reducible first | exact ih0 _ _ | exact LeO.refl _ | exact LeO.none _ | refine LeO.ite ?_ ?_ | refine LeO.bind ?_ (fun _ => ?_)) | exact ih0 _ _ | exact LeO.none _ | refine LeO.ite ?_ ?_ | refine LeO.bind ?_ (fun _ => ?_)

/-! ### laws_zIn: function 29 -/
def laws_zIn.l0 : Nat → Int → List Int → Int → Int → Option (Bool)
  | 0, _, _, _, _ => none
  | k + 1, x1, x7, x8, x9 => if x9 < x8 then (if 0 ≤ x9 then (if x9 < (x7.length : Int) then (if (rd x7 x9) = x1 then (some true) else (laws_zIn.l0 k x1 x7 x8 (wrap64 (x9 + 1)))) else (none)) else (none)) else (some false)
def laws_zIn.f (k : Nat) (l0 : List Int) (a1 : Int) : Option (Bool) := laws_zIn.l0 k a1 l0 (l0.length : Int) 0
theorem laws_zIn.mono_l : ∀ k, (∀ y0 y1 y2 y3, LeO (laws_zIn.l0 k y0 y1 y2 y3) (laws_zIn.l0 (k + 1) y0 y1 y2 y3))
  | 0 => fun _ _ _ _ r h => by simp [laws_zIn.l0] at h
  | k + 1 => by
    have ih0 := laws_zIn.mono_l k
    · intro y0 y1 y2 y3
      unfold laws_zIn.l0
      repeat' first | (with_reducible first | exact ih0 _ _ _ _ | exact LeO.refl _ | exact LeO.none _ | refine LeO.ite ?_ ?_ | refine LeO.bind ?_ (fun _ => ?_)) | exact ih0 _ _ _ _ | exact LeO.none _ | refine LeO.ite ?_ ?_ | refine LeO.bind ?_ (fun _ => ?_)
theorem laws_zIn.mono : ∀ a0 a1 k, LeO (laws_zIn.f k a0 a1) (laws_zIn.f (k + 1) a0 a1) := by
  intro a0 a1 k
  have ih0 := laws_zIn.mono_l k
  unfold laws_zIn.f
  repeat' first | (with_reducible first | exact ih0 _ _ _ _ | exact LeO.refl _ | exact LeO.none _ | refine LeO.ite ?_ ?_ | refine LeO.bind ?_ (fun _ => ?_)) | exact ih0 _ _ _ _ | exact LeO.none _ | refine LeO.ite ?_ ?_ | refine LeO.bind ?_ (fun _ => ?_)

/-! ### laws_FnClears: function 7 -/
mutual
def laws_FnClears.j0 : Nat → Int → List Int → Bool → Int → List Int → Option (Bool)
  | 0, _, _, _, _, _ => none
  | k + 1, x4, x5, x29, x285000, x285001 => if x29 = true then (some false) else ((spec_GoodCells.f k x285000 x285001).bind fun t292 => (if t292 = true then (laws_FnClears.l0 k x4 x5 (x285001.length : Int) 0 x285000 x285001) else (some ((x5.length : Int) == 0))))
def laws_FnClears.l0 : Nat → Int → List Int → Int → Int → Int → List Int → Option (Bool)
  | 0, _, _, _, _, _, _ => none
  | k + 1, x4, x5, x38, x39, x285000, x285001 => if x39 < x38 then ((impl_Clear.f k x285000 x285001 x4 x39).bind fun t293 => ((laws_zIn.f k x5 x39).bind fun t294 => (if (t293 != t294) = true then (some false) else ((impl_Clear.f k x285000 x285001 x39 x4).bind fun t295 => ((laws_zIn.f k x5 x39).bind fun t296 => (if (t295 != t296) = true then (some false) else (laws_FnClears.l0 k x4 x5 x38 (wrap64 (x39 + 1)) x285000 x285001))))))) else (some true)
end
def laws_FnClears.f (k : Nat) (l0 : List Int) : Option (Bool) := if (l0.length : Int) > 1048576 then (some true) else ((spec_DrawMostClear.f k l0).bind fun bt279 => ((impl_MostClear.f k bt279.1 bt279.2.1 bt279.2.2).bind fun t285 => ((spec_MostClear.f k bt279.1 bt279.2.1 bt279.2.2).bind fun t288 => (if (t285.length : Int) = (t288.length : Int) then ((laws_zRising.f k t285).bind fun t291 => (laws_FnClears.j0 k bt279.2.2 t285 (!t291) bt279.1 bt279.2.1)) else (laws_FnClears.j0 k bt279.2.2 t285 true bt279.1 bt279.2.1)))))
theorem laws_FnClears.mono_l : ∀ k, (∀ y0 y1 y2 y3 y4, LeO (laws_FnClears.j0 k y0 y1 y2 y3 y4) (laws_FnClears.j0 (k + 1) y0 y1 y2 y3 y4)) ∧ (∀ y0 y1 y2 y3 y4 y5, LeO (laws_FnClears.l0 k y0 y1 y2 y3 y4 y5) (laws_FnClears.l0 (k + 1) y0 y1 y2 y3 y4 y5))
  | 0 => ⟨fun _ _ _ _ _ r h => by simp [laws_FnClears.j0] at h, fun _ _ _ _ _ _ r h => by simp [laws_FnClears.l0] at h⟩
  | k + 1 => by
    obtain ⟨ih0, ih1⟩ := laws_FnClears.mono_l k
    refine ⟨?_, ?_⟩
    · intro y0 y1 y2 y3 y4
      unfold laws_FnClears.j0
      repeat' first | (with_reducible first | exact ih0 _ _ _ _ _ | exact ih1 _ _ _ _ _ _ | exact impl_Clear.mono _ _ _ _ _ | exact impl_MostClear.mono _ _ _ _ | exact laws_zIn.mono _ _ _ | exact laws_zRising.mono _ _ | exact spec_DrawMostClear.mono _ _ | exact spec_GoodCells.mono _ _ _ | exact spec_MostClear.mono _ _ _ _ | exact LeO.refl _ | exact LeO.none _ | refine LeO.ite ?_ ?_ | refine LeO.bind ?_ (fun _ => ?_)) | exact ih0 _ _ _ _ _ | exact ih1 _ _ _ _ _ _ | exact impl_Clear.mono _ _ _ _ _ | exact impl_MostClear.mono _ _ _ _ | exact laws_zIn.mono _ _ _ | exact laws_zRising.mono _ _ | exact spec_DrawMostClear.mono _ _ | exact spec_GoodCells.mono _ _ _ | exact spec_MostClear.mono _ _ _ _ | exact LeO.none _ | refine LeO.ite ?_ ?_ | refine LeO.bind ?_ (fun _ => ?_)
    · intro y0 y1 y2 y3 y4 y5
      unfold laws_FnClears.l0
      repeat' first | (with_reducible first | exact ih0 _ _ _ _ _ | exact ih1 _ _ _ _ _ _ | exact impl_Clear.mono _ _ _ _ _ | exact impl_MostClear.mono _ _ _ _ | exact laws_zIn.mono _ _ _ | exact laws_zRising.mono _ _ | exact spec_DrawMostClear.mono _ _ | exact spec_GoodCells.mono _ _ _ | exact spec_MostClear.mono _ _ _ _ | exact LeO.refl _ | exact LeO.none _ | refine LeO.ite ?_ ?_ | refine LeO.bind ?_ (fun _ => ?_)) | exact ih0 _ _ _ _ _ | exact ih1 _ _ _ _ _ _ | exact impl_Clear.mono _ _ _ _ _ | exact impl_MostClear.mono _ _ _ _ | exact laws_zIn.mono _ _ _ | exact laws_zRising.mono _ _ | exact spec_DrawMostClear.mono _ _ | exact spec_GoodCells.mono _ _ _ | exact spec_MostClear.mono _ _ _ _ | exact LeO.none _ | refine LeO.ite ?_ ?_ | refine LeO.bind ?_ (fun _ => ?_)
theorem laws_FnClears.mono : ∀ a0 k, LeO (laws_FnClears.f k a0) (laws_FnClears.f (k + 1) a0) := by
  intro a0 k
  obtain ⟨ih0, ih1⟩ := laws_FnClears.mono_l k
  unfold laws_FnClears.f
  repeat' first | (with_reducible first | exact ih0 _ _ _ _ _ | exact ih1 _ _ _ _ _ _ | exact impl_Clear.mono _ _ _ _ _ | exact impl_MostClear.mono _ _ _ _ | exact laws_zIn.mono _ _ _ | exact laws_zRising.mono _ _ | exact spec_DrawMostClear.mono _ _ | exact spec_GoodCells.mono _ _ _ | exact spec_MostClear.mono _ _ _ _ | exact LeO.refl _ | exact LeO.none _ | refine LeO.ite ?_ ?_ | refine LeO.bind ?_ (fun _ => ?_)) | exact ih0 _ _ _ _ _ | exact ih1 _ _ _ _ _ _ | exact impl_Clear.mono _ _ _ _ _ | exact impl_MostClear.mono _ _ _ _ | exact laws_zIn.mono _ _ _ | exact laws_zRising.mono _ _ | exact spec_DrawMostClear.mono _ _ | exact spec_GoodCells.mono _ _ _ | exact spec_MostClear.mono _ _ _ _ | exact LeO.none _ | refine LeO.ite ?_ ?_ | refine LeO.bind ?_ (fun _ => ?_)

/-! ### laws_szIntS: function 38 -/
def laws_szIntS.f (l0 : List Int) (a1 : Int) : Option (Int) := if (wrap64 (a1 - (l0.length : Int))) < 0 then (some (-1)) else (some (wrap64 (a1 - (l0.length : Int))))

/-! ### laws_szCells: function 10 -/
def laws_szCells.f (a0_0 : Int) (l0_1 : List Int) (a1 : Int) : Option (Int) := (laws_szIntS.f l0_1 a1).bind fun t298 => (if t298 < 0 then (some (-1)) else (some t298))

/-! ### laws_toIntS: function 16 -/
def laws_toIntS.l0 : Nat → List Int → List Int → Int → Option (List Int)
  | 0, _, _, _ => none
  | k + 1, x0, x3, x4 => if x4 < (x0.length : Int) then (if 0 ≤ x4 then (if x4 < (x3.length : Int) then (laws_toIntS.l0 k x0 (x3.set (x4 : Int).toNat (rd x0 x4)) (wrap64 (x4 + 1))) else (none)) else (none)) else (some x3)
def laws_toIntS.f (k : Nat) (l0 : List Int) : Option (List Int) := if 0 ≤ (l0.length : Int) then (if ((l0.length : Int) : Int).toNat ≤ 35184372088832 then (laws_toIntS.l0 k l0 (List.replicate ((l0.length : Int) : Int).toNat 0) 0) else (none)) else (none)
theorem laws_toIntS.mono_l : ∀ k, (∀ y0 y1 y2, LeO (laws_toIntS.l0 k y0 y1 y2) (laws_toIntS.l0 (k + 1) y0 y1 y2))
  | 0 => fun _ _ _ r h => by simp [laws_toIntS.l0] at h
  | k + 1 => by
    have ih0 := laws_toIntS.mono_l k
    · intro y0 y1 y2
      unfold laws_toIntS.l0
      repeat' first | (with_reducible first | exact ih0 _ _ _ | exact LeO.refl _ | exact LeO.none _ | refine LeO.ite ?_ ?_ | refine LeO.bind ?_ (fun _ => ?_)) | exact ih0 _ _ _ | exact LeO.none _ | refine LeO.ite ?_ ?_ | refine LeO.bind ?_ (fun _ => ?_)
theorem laws_toIntS.mono : ∀ a0 k, LeO (laws_toIntS.f k a0) (laws_toIntS.f (k + 1) a0) := by
  intro a0 k
  have ih0 := laws_toIntS.mono_l k
  unfold laws_toIntS.f
  repeat' first | (with_reducible first | exact ih0 _ _ _ | exact LeO.refl _ | exact LeO.none _ | refine LeO.ite ?_ ?_ | refine LeO.bind ?_ (fun _ => ?_)) | exact ih0 _ _ _ | exact LeO.none _ | refine LeO.ite ?_ ?_ | refine LeO.bind ?_ (fun _ => ?_)

/-! ### laws_toCells: function 12 -/
def laws_toCells.f (k : Nat) (a0_0 : Int) (l0_1 : List Int) : Option (Int × List Int) := (laws_toIntS.f k l0_1).bind fun t307 => (some (a0_0, t307))
theorem laws_toCells.mono : ∀ a0 a1 k, LeO (laws_toCells.f k a0 a1) (laws_toCells.f (k + 1) a0 a1) := by
  intro a0 a1 k
  unfold laws_toCells.f
  repeat' first | (with_reducible first | exact laws_toIntS.mono _ _ | exact LeO.refl _ | exact LeO.none _ | refine LeO.ite ?_ ?_ | refine LeO.bind ?_ (fun _ => ?_)) | exact laws_toIntS.mono _ _ | exact LeO.none _ | refine LeO.ite ?_ ?_ | refine LeO.bind ?_ (fun _ => ?_)

/-! ### laws_eqIntS: function 18 -/
def laws_eqIntS.l0 : Nat → List Int → List Int → Int → Option (Bool)
  | 0, _, _, _ => none
  | k + 1, x0, x1, x5 => if x5 < (x0.length : Int) then (if 0 ≤ x5 then (if x5 < (x1.length : Int) then (if (rd x0 x5) = (rd x1 x5) then (laws_eqIntS.l0 k x0 x1 (wrap64 (x5 + 1))) else (some false)) else (none)) else (none)) else (some true)
def laws_eqIntS.f (k : Nat) (l0 : List Int) (l1 : List Int) : Option (Bool) := if (l0.length : Int) = (l1.length : Int) then (laws_eqIntS.l0 k l0 l1 0) else (some false)
theorem laws_eqIntS.mono_l : ∀ k, (∀ y0 y1 y2, LeO (laws_eqIntS.l0 k y0 y1 y2) (laws_eqIntS.l0 (k + 1) y0 y1 y2))
  | 0 => fun _ _ _ r h => by simp [laws_eqIntS.l0] at h
  | k + 1 => by
    have ih0 := laws_eqIntS.mono_l k
    · intro y0 y1 y2
      unfold laws_eqIntS.l0
      repeat' first | (with_reducible first | exact ih0 _ _ _ | exact LeO.refl _ | exact LeO.none _ | refine LeO.ite ?_ ?_ | refine LeO.bind ?_ (fun _ => ?_)) | exact ih0 _ _ _ | exact LeO.none _ | refine LeO.ite ?_ ?_ | refine LeO.bind ?_ (fun _ => ?_)
theorem laws_eqIntS.mono : ∀ a0 a1 k, LeO (laws_eqIntS.f k a0 a1) (laws_eqIntS.f (k + 1) a0 a1) := by
  intro a0 a1 k
  have ih0 := laws_eqIntS.mono_l k
  unfold laws_eqIntS.f
  repeat' first | (with_reducible first | exact ih0 _ _ _ | exact LeO.refl _ | exact LeO.none _ | refine LeO.ite ?_ ?_ | refine LeO.bind ?_ (fun _ => ?_)) | exact ih0 _ _ _ | exact LeO.none _ | refine LeO.ite ?_ ?_ | refine LeO.bind ?_ (fun _ => ?_)

/-! ### laws_eqCells: function 14 -/
def laws_eqCells.f (k : Nat) (a0_0 : Int) (l0_1 : List Int) (a1_0 : Int) (l1_1 : List Int) : Option (Bool) := if a0_0 = a1_0 then ((laws_eqIntS.f k l0_1 l1_1).bind fun t314 => (if t314 = true then (some true) else (some false))) else (some false)
theorem laws_eqCells.mono : ∀ a0 a1 a2 a3 k, LeO (laws_eqCells.f k a0 a1 a2 a3) (laws_eqCells.f (k + 1) a0 a1 a2 a3) := by
  intro a0 a1 a2 a3 k
  unfold laws_eqCells.f
  repeat' first | (with_reducible first | exact laws_eqIntS.mono _ _ _ | exact LeO.refl _ | exact LeO.none _ | refine LeO.ite ?_ ?_ | refine LeO.bind ?_ (fun _ => ?_)) | exact laws_eqIntS.mono _ _ _ | exact LeO.none _ | refine LeO.ite ?_ ?_ | refine LeO.bind ?_ (fun _ => ?_)

/-! ### laws_markIntS: function 22 -/
def laws_markIntS.l0 : Nat → List Int → Int → Int → Option (Int × List Int)
  | 0, _, _, _ => none
  | k + 1, x0, x1, x5 => if x5 < (x0.length : Int) then (if 0 ≤ x5 then (laws_markIntS.l0 k (x0.set (x5 : Int).toNat x1) (wrap64 (x1 + 1)) (wrap64 (x5 + 1))) else (none)) else (some (x1, x0))
def laws_markIntS.f (k : Nat) (l0 : List Int) (a1 : Int) : Option (Int × List Int) := laws_markIntS.l0 k l0 a1 0
theorem laws_markIntS.mono_l : ∀ k, (∀ y0 y1 y2, LeO (laws_markIntS.l0 k y0 y1 y2) (laws_markIntS.l0 (k + 1) y0 y1 y2))
  | 0 => fun _ _ _ r h => by simp [laws_markIntS.l0] at h
  | k + 1 => by
    have ih0 := laws_markIntS.mono_l k
    · intro y0 y1 y2
      unfold laws_markIntS.l0
      repeat' first | (with_reducible first | exact ih0 _ _ _ | exact LeO.refl _ | exact LeO.none _ | refine LeO.ite ?_ ?_ | refine LeO.bind ?_ (fun _ => ?_)) | exact ih0 _ _ _ | exact LeO.none _ | refine LeO.ite ?_ ?_ | refine LeO.bind ?_ (fun _ => ?_)
theorem laws_markIntS.mono : ∀ a0 a1 k, LeO (laws_markIntS.f k a0 a1) (laws_markIntS.f (k + 1) a0 a1) := by
  intro a0 a1 k
  have ih0 := laws_markIntS.mono_l k
  unfold laws_markIntS.f
  repeat' first | (with_reducible first | exact ih0 _ _ _ | exact LeO.refl _ | exact LeO.none _ | refine LeO.ite ?_ ?_ | refine LeO.bind ?_ (fun _ => ?_)) | exact ih0 _ _ _ | exact LeO.none _ | refine LeO.ite ?_ ?_ | refine LeO.bind ?_ (fun _ => ?_)

/-! ### laws_markCells: function 21 -/
def laws_markCells.f (k : Nat) (a0_0 : Int) (l0_1 : List Int) (a1 : Int) : Option (Int × List Int) := (laws_markIntS.f k l0_1 a1).bind fun bt317 => (some (bt317.1, bt317.2))
theorem laws_markCells.mono : ∀ a0 a1 a2 k, LeO (laws_markCells.f k a0 a1 a2) (laws_markCells.f (k + 1) a0 a1 a2) := by
  intro a0 a1 a2 k
  unfold laws_markCells.f
  repeat' first | (with_reducible first | exact laws_markIntS.mono _ _ _ | exact LeO.refl _ | exact LeO.none _ | refine LeO.ite ?_ ?_ | refine LeO.bind ?_ (fun _ => ?_)) | exact laws_markIntS.mono _ _ _ | exact LeO.none _ | refine LeO.ite ?_ ?_ | refine LeO.bind ?_ (fun _ => ?_)

/-! ### spec_l4Abs: function 57 -/
def spec_l4Abs.f (a0 : Int) : Option (Int) := if a0 < 0 then (some (wrap64 (-a0))) else (some a0)

/-! ### spec_l18Step: function 44 -/
def spec_l18Step.j0 : Nat → Int → Int → Bool → Int → List Int → Option (Int)
  | 0, _, _, _, _, _ => none
  | k + 1, x1, x2, x18, x320000, x320001 => if x18 = true then (some 0) else (if x320000 = 0 then (none) else ((spec_l4Abs.f (wrap64 ((Int.tmod x2 x320000) - (Int.tmod x1 x320000)))).bind fun t322 => ((spec_l4Abs.f (wrap64 ((wrap64 (Int.tdiv x2 x320000)) - (wrap64 (Int.tdiv x1 x320000))))).bind fun t323 => (if (wrap64 (t322 + t323)) = 1 then (some 1) else (if t322 = 1 then (if t323 = 1 then ((spec_l12Free.f x320000 x320001 (wrap64 (x1 + (wrap64 ((Int.tmod x2 x320000) - (Int.tmod x1 x320000)))))).bind fun t324 => (if t324 = true then ((spec_l12Free.f x320000 x320001 (wrap64 (x1 + (wrap64 ((wrap64 ((wrap64 (Int.tdiv x2 x320000)) - (wrap64 (Int.tdiv x1 x320000)))) * x320000))))).bind fun t325 => (if t325 = true then (some 2) else (some 0))) else (some 0))) else (some 0)) else (some 0))))))
def spec_l18Step.f (k : Nat) (a0_0 : Int) (l0_1 : List Int) (a1 : Int) (a2 : Int) : Option (Int) := (spec_l12Free.f a0_0 l0_1 a1).bind fun t320 => (if t320 = true then ((spec_l12Free.f a0_0 l0_1 a2).bind fun t321 => (spec_l18Step.j0 k a1 a2 (!t321) a0_0 l0_1)) else (spec_l18Step.j0 k a1 a2 true a0_0 l0_1))
theorem spec_l18Step.mono_l : ∀ k, (∀ y0 y1 y2 y3 y4, LeO (spec_l18Step.j0 k y0 y1 y2 y3 y4) (spec_l18Step.j0 (k + 1) y0 y1 y2 y3 y4))
  | 0 => fun _ _ _ _ _ r h => by simp [spec_l18Step.j0] at h
  | k + 1 => by
    have ih0 := spec_l18Step.mono_l k
    · intro y0 y1 y2 y3 y4
      unfold spec_l18Step.j0
      repeat' first | (with_reducible first | exact ih0 _ _ _ _ _ | exact LeO.refl _ | exact LeO.none _ | refine LeO.ite ?_ ?_ | refine LeO.bind ?_ (fun _ => ?_)) | exact ih0 _ _ _ _ _ | exact LeO.none _ | refine LeO.ite ?_ ?_ | refine LeO.bind ?_ (fun _ => ?_)
theorem spec_l18Step.mono : ∀ a0 a1 a2 a3 k, LeO (spec_l18Step.f k a0 a1 a2 a3) (spec_l18Step.f (k + 1) a0 a1 a2 a3) := by
  intro a0 a1 a2 a3 k
  have ih0 := spec_l18Step.mono_l k
  unfold spec_l18Step.f
  repeat' first | (with_reducible first | exact ih0 _ _ _ _ _ | exact LeO.refl _ | exact LeO.none _ | refine LeO.ite ?_ ?_ | refine LeO.bind ?_ (fun _ => ?_)) | exact ih0 _ _ _ _ _ | exact LeO.none _ | refine LeO.ite ?_ ?_ | refine LeO.bind ?_ (fun _ => ?_)

/-! ### spec_l12Has: function 63 -/
def spec_l12Has.f (a0 : Int) (a1 : Int) (a2 : Int) (a3 : Int) : Option (Bool) := if a2 ≥ 0 then (if a2 < a0 then (if a3 ≥ 0 then (if a0 = 0 then (none) else (some (decide (a3 < (wrap64 (Int.tdiv a1 a0)))))) else (some false)) else (some false)) else (some false)

/-! ### spec_l18Around: function 49 -/
mutual
def spec_l18Around.l0 : Nat → Int → List Int → Int → Int → List Int → Option (List Int)
  | 0, _, _, _, _, _ => none
  | k + 1, x1, x5, x6, x327000, x327001 => if x6 ≤ 1 then (spec_l18Around.l1 k x1 x5 x6 (-1) x327000 x327001) else (some x5)
def spec_l18Around.l1 : Nat → Int → List Int → Int → Int → Int → List Int → Option (List Int)
  | 0, _, _, _, _, _, _ => none
  | k + 1, x1, x5, x6, x7, x327000, x327001 => if x7 ≤ 1 then (if x327000 = 0 then (none) else ((spec_l12Has.f x327000 (x327001.length : Int) (wrap64 ((Int.tmod x1 x327000) + x7)) (wrap64 ((wrap64 (Int.tdiv x1 x327000)) + x6))).bind fun t327 => (if t327 = true then (if x7 = 0 then (if x6 = 0 then (spec_l18Around.l1 k x1 x5 x6 (wrap64 (x7 + 1)) x327000 x327001) else (if x5.length < 17592186044416 then (spec_l18Around.l1 k x1 (x5 ++ [wrap64 ((wrap64 ((wrap64 ((wrap64 (Int.tdiv x1 x327000)) + x6)) * x327000)) + (wrap64 ((Int.tmod x1 x327000) + x7)))]) x6 (wrap64 (x7 + 1)) x327000 x327001) else (none))) else (if x5.length < 17592186044416 then (spec_l18Around.l1 k x1 (x5 ++ [wrap64 ((wrap64 ((wrap64 ((wrap64 (Int.tdiv x1 x327000)) + x6)) * x327000)) + (wrap64 ((Int.tmod x1 x327000) + x7)))]) x6 (wrap64 (x7 + 1)) x327000 x327001) else (none))) else (spec_l18Around.l1 k x1 x5 x6 (wrap64 (x7 + 1)) x327000 x327001)))) else (spec_l18Around.l0 k x1 x5 (wrap64 (x6 + 1)) x327000 x327001)
end
def spec_l18Around.f (k : Nat) (a0_0 : Int) (l0_1 : List Int) (a1 : Int) : Option (List Int) := spec_l18Around.l0 k a1 ([] : List Int) (-1) a0_0 l0_1
theorem spec_l18Around.mono_l : ∀ k, (∀ y0 y1 y2 y3 y4, LeO (spec_l18Around.l0 k y0 y1 y2 y3 y4) (spec_l18Around.l0 (k + 1) y0 y1 y2 y3 y4)) ∧ (∀ y0 y1 y2 y3 y4 y5, LeO (spec_l18Around.l1 k y0 y1 y2 y3 y4 y5) (spec_l18Around.l1 (k + 1) y0 y1 y2 y3 y4 y5))
  | 0 => ⟨fun _ _ _ _ _ r h => by simp [spec_l18Around.l0] at h, fun _ _ _ _ _ _ r h => by simp [spec_l18Around.l1] at h⟩
  | k + 1 => by
    obtain ⟨ih0, ih1⟩ := spec_l18Around.mono_l k
    refine ⟨?_, ?_⟩
    · intro y0 y1 y2 y3 y4
      unfold spec_l18Around.l0
      repeat' first | (with_reducible first | exact ih0 _ _ _ _ _ | exact ih1 _ _ _ _ _ _ | exact LeO.refl _ | exact LeO.none _ | refine LeO.ite ?_ ?_ | refine LeO.bind ?_ (fun _ => ?_)) | exact ih0 _ _ _ _ _ | exact ih1 _ _ _ _ _ _ | exact LeO.none _ | refine LeO.ite ?_ ?_ | refine LeO.bind ?_ (fun _ => ?_)
    · intro y0 y1 y2 y3 y4 y5
      unfold spec_l18Around.l1
      repeat' first | (with_reducible first | exact ih0 _ _ _ _ _ | exact ih1 _ _ _ _ _ _ | exact LeO.refl _ | exact LeO.none _ | refine LeO.ite ?_ ?_ | refine LeO.bind ?_ (fun _ => ?_)) | exact ih0 _ _ _ _ _ | exact ih1 _ _ _ _ _ _ | exact LeO.none _ | refine LeO.ite ?_ ?_ | refine LeO.bind ?_ (fun _ => ?_)
theorem spec_l18Around.mono : ∀ a0 a1 a2 k, LeO (spec_l18Around.f k a0 a1 a2) (spec_l18Around.f (k + 1) a0 a1 a2) := by
  intro a0 a1 a2 k
  obtain ⟨ih0, ih1⟩ := spec_l18Around.mono_l k
  unfold spec_l18Around.f
  repeat' first | (with_reducible first | exact ih0 _ _ _ _ _ | exact ih1 _ _ _ _ _ _ | exact LeO.refl _ | exact LeO.none _ | refine LeO.ite ?_ ?_ | refine LeO.bind ?_ (fun _ => ?_)) | exact ih0 _ _ _ _ _ | exact ih1 _ _ _ _ _ _ | exact LeO.none _ | refine LeO.ite ?_ ?_ | refine LeO.bind ?_ (fun _ => ?_)

/-! ### spec_l18Sign: function 64 -/
def spec_l18Sign.f (a0 : Int) : Option (Int) := if a0 < 0 then (some (-1)) else (if a0 > 0 then (some 1) else (some 0))

/-! ### spec_l18Cmp: function 50 -/
def spec_l18Cmp.j0 : Nat → Int → Int → Bool → Option (Int)
  | 0, _, _, _ => none
  | k + 1, x0, x1, x13 => if x13 = true then ((spec_l18Sign.f x0).bind fun t336 => (some t336)) else (if x0 = 0 then ((spec_l18Sign.f x1).bind fun t337 => (some t337)) else (if (wrap64 (x0 * x0)) > (wrap64 ((wrap64 (2 * x1)) * x1)) then ((spec_l18Sign.f x0).bind fun t338 => (some t338)) else ((spec_l18Sign.f x1).bind fun t339 => (some t339))))
def spec_l18Cmp.f (k : Nat) (a0 : Int) (a1 : Int) : Option (Int) := (spec_l18Sign.f a0).bind fun t334 => ((spec_l18Sign.f a1).bind fun t335 => (if t334 = t335 then (spec_l18Cmp.j0 k a0 a1 true) else (spec_l18Cmp.j0 k a0 a1 (a1 == 0))))
theorem spec_l18Cmp.mono_l : ∀ k, (∀ y0 y1 y2, LeO (spec_l18Cmp.j0 k y0 y1 y2) (spec_l18Cmp.j0 (k + 1) y0 y1 y2))
  | 0 => fun _ _ _ r h => by simp [spec_l18Cmp.j0] at h
  | k + 1 => by
    have ih0 := spec_l18Cmp.mono_l k
    · intro y0 y1 y2
      unfold spec_l18Cmp.j0
      repeat' first | (with_reducible first | exact ih0 _ _ _ | exact LeO.refl _ | exact LeO.none _ | refine LeO.ite ?_ ?_ | refine LeO.bind ?_ (fun _ => ?_)) | exact ih0 _ _ _ | exact LeO.none _ | refine LeO.ite ?_ ?_ | refine LeO.bind ?_ (fun _ => ?_)
theorem spec_l18Cmp.mono : ∀ a0 a1 k, LeO (spec_l18Cmp.f k a0 a1) (spec_l18Cmp.f (k + 1) a0 a1) := by
  intro a0 a1 k
  have ih0 := spec_l18Cmp.mono_l k
  unfold spec_l18Cmp.f
  repeat' first | (with_reducible first | exact ih0 _ _ _ | exact LeO.refl _ | exact LeO.none _ | refine LeO.ite ?_ ?_ | refine LeO.bind ?_ (fun _ => ?_)) | exact ih0 _ _ _ | exact LeO.none _ | refine LeO.ite ?_ ?_ | refine LeO.bind ?_ (fun _ => ?_)

/-! ### impl_sign: function 65 -/
def impl_sign.f (a0 : Int) : Option (Int) := if a0 < 0 then (some (-1)) else (if a0 > 0 then (some 1) else (some 0))

/-! ### impl_cmpCost: function 51 -/
def impl_cmpCost.f (a0 : Int) (a1 : Int) : Option (Int) := (impl_sign.f a0).bind fun t391 => ((impl_sign.f a1).bind fun t392 => (if (wrap64 (t391 * t392)) ≥ 0 then ((impl_sign.f (wrap64 (a0 + a1))).bind fun t393 => (some t393)) else ((impl_sign.f a0).bind fun t394 => ((impl_sign.f (wrap64 ((wrap64 (a0 * a0)) - (wrap64 ((wrap64 (2 * a1)) * a1))))).bind fun t395 => (some (wrap64 (t394 * t395)))))))

/-! ### impl_Cells_next: function 58 -/
def impl_Cells_next.f (a0_0 : Int) (l0_1 : List Int) (a1 : Int) (a2 : Int) (a3 : Int) : Option (Int) := if a0_0 = 0 then (none) else (if (wrap64 ((Int.tmod a1 a0_0) + a2)) < 0 then (some (-1)) else (if (wrap64 ((Int.tmod a1 a0_0) + a2)) ≥ a0_0 then (some (-1)) else (if (wrap64 ((wrap64 (Int.tdiv a1 a0_0)) + a3)) < 0 then (some (-1)) else (if (wrap64 ((wrap64 (Int.tdiv a1 a0_0)) + a3)) ≥ (wrap64 ((l0_1.length : Int) / a0_0)) then (some (-1)) else (some (wrap64 ((wrap64 ((wrap64 ((wrap64 (Int.tdiv a1 a0_0)) + a3)) * a0_0)) + (wrap64 ((Int.tmod a1 a0_0) + a2)))))))))

/-! ### impl_Cells_step: function 45 -/
def impl_Cells_step.j0 : Nat → Int → Int → Bool → Int → List Int → Option (Int × Int × Bool)
  | 0, _, _, _, _, _ => none
  | k + 1, x1, x2, x19, x398000, x398001 => if x19 = true then (some (0, 0, false)) else (if x398000 = 0 then (none) else (if (wrap64 ((wrap64 ((wrap64 ((Int.tmod x2 x398000) - (Int.tmod x1 x398000))) * (wrap64 ((Int.tmod x2 x398000) - (Int.tmod x1 x398000))))) + (wrap64 ((wrap64 ((wrap64 (Int.tdiv x2 x398000)) - (wrap64 (Int.tdiv x1 x398000)))) * (wrap64 ((wrap64 (Int.tdiv x2 x398000)) - (wrap64 (Int.tdiv x1 x398000)))))))) = 1 then (some (1, 0, true)) else (if (wrap64 ((wrap64 ((wrap64 ((Int.tmod x2 x398000) - (Int.tmod x1 x398000))) * (wrap64 ((Int.tmod x2 x398000) - (Int.tmod x1 x398000))))) + (wrap64 ((wrap64 ((wrap64 (Int.tdiv x2 x398000)) - (wrap64 (Int.tdiv x1 x398000)))) * (wrap64 ((wrap64 (Int.tdiv x2 x398000)) - (wrap64 (Int.tdiv x1 x398000)))))))) = 2 then ((impl_Cells_next.f x398000 x398001 x1 (wrap64 ((Int.tmod x2 x398000) - (Int.tmod x1 x398000))) 0).bind fun t401 => ((impl_Cells_free.f x398000 x398001 t401).bind fun t402 => (if t402 = true then ((impl_Cells_next.f x398000 x398001 x1 0 (wrap64 ((wrap64 (Int.tdiv x2 x398000)) - (wrap64 (Int.tdiv x1 x398000))))).bind fun t403 => ((impl_Cells_free.f x398000 x398001 t403).bind fun t404 => (some (0, 1, t404)))) else (some (0, 1, false))))) else (some (0, 0, false)))))
def impl_Cells_step.f (k : Nat) (a0_0 : Int) (l0_1 : List Int) (a1 : Int) (a2 : Int) : Option (Int × Int × Bool) := (impl_Cells_free.f a0_0 l0_1 a1).bind fun t399 => (if t399 = true then ((impl_Cells_free.f a0_0 l0_1 a2).bind fun t400 => (impl_Cells_step.j0 k a1 a2 (!t400) a0_0 l0_1)) else (impl_Cells_step.j0 k a1 a2 true a0_0 l0_1))
theorem impl_Cells_step.mono_l : ∀ k, (∀ y0 y1 y2 y3 y4, LeO (impl_Cells_step.j0 k y0 y1 y2 y3 y4) (impl_Cells_step.j0 (k + 1) y0 y1 y2 y3 y4))
  | 0 => fun _ _ _ _ _ r h => by simp [impl_Cells_step.j0] at h
  | k + 1 => by
    have ih0 := impl_Cells_step.mono_l k
    · intro y0 y1 y2 y3 y4
      unfold impl_Cells_step.j0
      repeat' first | (with_reducible first | exact ih0 _ _ _ _ _ | exact LeO.refl _ | exact LeO.none _ | refine LeO.ite ?_ ?_ | refine LeO.bind ?_ (fun _ => ?_)) | exact ih0 _ _ _ _ _ | exact LeO.none _ | refine LeO.ite ?_ ?_ | refine LeO.bind ?_ (fun _ => ?_)
theorem impl_Cells_step.mono : ∀ a0 a1 a2 a3 k, LeO (impl_Cells_step.f k a0 a1 a2 a3) (impl_Cells_step.f (k + 1) a0 a1 a2 a3) := by
  intro a0 a1 a2 a3 k
  have ih0 := impl_Cells_step.mono_l k
  unfold impl_Cells_step.f
  repeat' first | (with_reducible first | exact ih0 _ _ _ _ _ | exact LeO.refl _ | exact LeO.none _ | refine LeO.ite ?_ ?_ | refine LeO.bind ?_ (fun _ => ?_)) | exact ih0 _ _ _ _ _ | exact LeO.none _ | refine LeO.ite ?_ ?_ | refine LeO.bind ?_ (fun _ => ?_)

/-! ### impl_Cells_around: function 52 -/
mutual
def impl_Cells_around.l0 : Nat → Int → List Int → List (S66) → Int → Int → List Int → Option (List Int × (List (S66)))
  | 0, _, _, _, _, _, _ => none
  | k + 1, x1, x6, x7, x8, x406000, x406001 => if x8 ≤ 1 then (impl_Cells_around.l1 k x1 x6 x7 x8 (-1) x406000 x406001) else (some (x6, x7))
def impl_Cells_around.l1 : Nat → Int → List Int → List (S66) → Int → Int → Int → List Int → Option (List Int × (List (S66)))
  | 0, _, _, _, _, _, _, _ => none
  | k + 1, x1, x6, x7, x8, x9, x406000, x406001 => if x9 ≤ 1 then ((impl_Cells_next.f x406000 x406001 x1 x9 x8).bind fun t406 => (if t406 < 0 then (impl_Cells_around.j2 k x1 x6 x7 x8 x9 t406 true x406000 x406001) else (impl_Cells_around.j2 k x1 x6 x7 x8 x9 t406 (t406 == x1) x406000 x406001))) else (impl_Cells_around.l0 k x1 x6 x7 (wrap64 (x8 + 1)) x406000 x406001)
def impl_Cells_around.j2 : Nat → Int → List Int → List (S66) → Int → Int → Int → Bool → Int → List Int → Option (List Int × (List (S66)))
  | 0, _, _, _, _, _, _, _, _, _ => none
  | k + 1, x1, x6, x7, x8, x9, x10, x32, x406000, x406001 => if x32 = true then (impl_Cells_around.l1 k x1 x6 x7 x8 (wrap64 (x9 + 1)) x406000 x406001) else ((impl_Cells_step.f k x406000 x406001 x1 x10).bind fun bt407 => (if bt407.2.2 = true then ((some (([x10] : List Int) : List Int)).bind fun y411 => (if x6.length + y411.length < 17592186044416 then ((some (([(⟨bt407.1, bt407.2.1⟩ : S66)] : List (S66)) : List (S66))).bind fun y417 => (if x7.length + y417.length < 8796093022208 then (impl_Cells_around.l1 k x1 (x6 ++ y411) (x7 ++ y417) x8 (wrap64 (x9 + 1)) x406000 x406001) else (none))) else (none))) else (impl_Cells_around.l1 k x1 x6 x7 x8 (wrap64 (x9 + 1)) x406000 x406001)))
end
def impl_Cells_around.f (k : Nat) (a0_0 : Int) (l0_1 : List Int) (a1 : Int) : Option (List Int × (List (S66))) := impl_Cells_around.l0 k a1 ([] : List Int) ([] : List (S66)) (-1) a0_0 l0_1
theorem impl_Cells_around.mono_l : ∀ k, (∀ y0 y1 y2 y3 y4 y5, LeO (impl_Cells_around.l0 k y0 y1 y2 y3 y4 y5) (impl_Cells_around.l0 (k + 1) y0 y1 y2 y3 y4 y5)) ∧ (∀ y0 y1 y2 y3 y4 y5 y6, LeO (impl_Cells_around.l1 k y0 y1 y2 y3 y4 y5 y6) (impl_Cells_around.l1 (k + 1) y0 y1 y2 y3 y4 y5 y6)) ∧ (∀ y0 y1 y2 y3 y4 y5 y6 y7 y8, LeO (impl_Cells_around.j2 k y0 y1 y2 y3 y4 y5 y6 y7 y8) (impl_Cells_around.j2 (k + 1) y0 y1 y2 y3 y4 y5 y6 y7 y8))
  | 0 => ⟨fun _ _ _ _ _ _ r h => by simp [impl_Cells_around.l0] at h, fun _ _ _ _ _ _ _ r h => by simp [impl_Cells_around.l1] at h, fun _ _ _ _ _ _ _ _ _ r h => by simp [impl_Cells_around.j2] at h⟩
  | k + 1 => by
    obtain ⟨ih0, ih1, ih2⟩ := impl_Cells_around.mono_l k
    refine ⟨?_, ?_, ?_⟩
    · intro y0 y1 y2 y3 y4 y5
      unfold impl_Cells_around.l0
      repeat' first | (with_reducible first | exact ih0 _ _ _ _ _ _ | exact ih1 _ _ _ _ _ _ _ | exact ih2 _ _ _ _ _ _ _ _ _ | exact impl_Cells_step.mono _ _ _ _ _ | exact LeO.refl _ | exact LeO.none _ | refine LeO.ite ?_ ?_ | refine LeO.bind ?_ (fun _ => ?_)) | exact ih0 _ _ _ _ _ _ | exact ih1 _ _ _ _ _ _ _ | exact ih2 _ _ _ _ _ _ _ _ _ | exact impl_Cells_step.mono _ _ _ _ _ | exact LeO.none _ | refine LeO.ite ?_ ?_ | refine LeO.bind ?_ (fun _ => ?_)
    · intro y0 y1 y2 y3 y4 y5 y6
      unfold impl_Cells_around.l1
      repeat' first | (with_reducible first | exact ih0 _ _ _ _ _ _ | exact ih1 _ _ _ _ _ _ _ | exact ih2 _ _ _ _ _ _ _ _ _ | exact impl_Cells_step.mono _ _ _ _ _ | exact LeO.refl _ | exact LeO.none _ | refine LeO.ite ?_ ?_ | refine LeO.bind ?_ (fun _ => ?_)) | exact ih0 _ _ _ _ _ _ | exact ih1 _ _ _ _ _ _ _ | exact ih2 _ _ _ _ _ _ _ _ _ | exact impl_Cells_step.mono _ _ _ _ _ | exact LeO.none _ | refine LeO.ite ?_ ?_ | refine LeO.bind ?_ (fun _ => ?_)
    · intro y0 y1 y2 y3 y4 y5 y6 y7 y8
      unfold impl_Cells_around.j2
      repeat' first | (with_reducible first | exact ih0 _ _ _ _ _ _ | exact ih1 _ _ _ _ _ _ _ | exact ih2 _ _ _ _ _ _ _ _ _ | exact impl_Cells_step.mono _ _ _ _ _ | exact LeO.refl _ | exact LeO.none _ | refine LeO.ite ?_ ?_ | refine LeO.bind ?_ (fun _ => ?_)) | exact ih0 _ _ _ _ _ _ | exact ih1 _ _ _ _ _ _ _ | exact ih2 _ _ _ _ _ _ _ _ _ | exact impl_Cells_step.mono _ _ _ _ _ | exact LeO.none _ | refine LeO.ite ?_ ?_ | refine LeO.bind ?_ (fun _ => ?_)
theorem impl_Cells_around.mono : ∀ a0 a1 a2 k, LeO (impl_Cells_around.f k a0 a1 a2) (impl_Cells_around.f (k + 1) a0 a1 a2) := by
  intro a0 a1 a2 k
  obtain ⟨ih0, ih1, ih2⟩ := impl_Cells_around.mono_l k
  unfold impl_Cells_around.f
  repeat' first | (with_reducible first | exact ih0 _ _ _ _ _ _ | exact ih1 _ _ _ _ _ _ _ | exact ih2 _ _ _ _ _ _ _ _ _ | exact impl_Cells_step.mono _ _ _ _ _ | exact LeO.refl _ | exact LeO.none _ | refine LeO.ite ?_ ?_ | refine LeO.bind ?_ (fun _ => ?_)) | exact ih0 _ _ _ _ _ _ | exact ih1 _ _ _ _ _ _ _ | exact ih2 _ _ _ _ _ _ _ _ _ | exact impl_Cells_step.mono _ _ _ _ _ | exact LeO.none _ | refine LeO.ite ?_ ?_ | refine LeO.bind ?_ (fun _ => ?_)

/-! ### laws_eqWay: function 32 -/
def laws_eqWay.f (k : Nat) (l0_0 : List Int) (a0_1 : Int) (a0_2 : Int) (l1_0 : List Int) (a1_1 : Int) (a1_2 : Int) : Option (Bool) := (laws_eqIntS.f k l0_0 l1_0).bind fun t430 => (if t430 = true then (if a0_1 = a1_1 then (if a0_2 = a1_2 then (some true) else (some false)) else (some false)) else (some false))
theorem laws_eqWay.mono : ∀ a0 a1 a2 a3 a4 a5 k, LeO (laws_eqWay.f k a0 a1 a2 a3 a4 a5) (laws_eqWay.f (k + 1) a0 a1 a2 a3 a4 a5) := by
  intro a0 a1 a2 a3 a4 a5 k
  unfold laws_eqWay.f
  repeat' first | (with_reducible first | exact laws_eqIntS.mono _ _ _ | exact LeO.refl _ | exact LeO.none _ | refine LeO.ite ?_ ?_ | refine LeO.bind ?_ (fun _ => ?_)) | exact laws_eqIntS.mono _ _ _ | exact LeO.none _ | refine LeO.ite ?_ ?_ | refine LeO.bind ?_ (fun _ => ?_)

/-! ### laws_markWay: function 33 -/
def laws_markWay.f (k : Nat) (l0_0 : List Int) (a0_1 : Int) (a0_2 : Int) (a1 : Int) : Option (Int × List Int) := (laws_markIntS.f k l0_0 a1).bind fun bt432 => (some (bt432.1, bt432.2))
theorem laws_markWay.mono : ∀ a0 a1 a2 a3 k, LeO (laws_markWay.f k a0 a1 a2 a3) (laws_markWay.f (k + 1) a0 a1 a2 a3) := by
  intro a0 a1 a2 a3 k
  unfold laws_markWay.f
  repeat' first | (with_reducible first | exact laws_markIntS.mono _ _ _ | exact LeO.refl _ | exact LeO.none _ | refine LeO.ite ?_ ?_ | refine LeO.bind ?_ (fun _ => ?_)) | exact laws_markIntS.mono _ _ _ | exact LeO.none _ | refine LeO.ite ?_ ?_ | refine LeO.bind ?_ (fun _ => ?_)

/-! ### laws_heldIntS: function 23 -/
def laws_heldIntS.l0 : Nat → List Int → Int → Int → Option (Int)
  | 0, _, _, _ => none
  | k + 1, x0, x1, x5 => if x5 < (x0.length : Int) then (if 0 ≤ x5 then (if (rd x0 x5) = x1 then (laws_heldIntS.l0 k x0 (wrap64 (x1 + 1)) (wrap64 (x5 + 1))) else (some (-1))) else (none)) else (some x1)
def laws_heldIntS.f (k : Nat) (l0 : List Int) (a1 : Int) : Option (Int) := laws_heldIntS.l0 k l0 a1 0
theorem laws_heldIntS.mono_l : ∀ k, (∀ y0 y1 y2, LeO (laws_heldIntS.l0 k y0 y1 y2) (laws_heldIntS.l0 (k + 1) y0 y1 y2))
  | 0 => fun _ _ _ r h => by simp [laws_heldIntS.l0] at h
  | k + 1 => by
    have ih0 := laws_heldIntS.mono_l k
    · intro y0 y1 y2
      unfold laws_heldIntS.l0
      repeat' first | (with_reducible first | exact ih0 _ _ _ | exact LeO.refl _ | exact LeO.none _ | refine LeO.ite ?_ ?_ | refine LeO.bind ?_ (fun _ => ?_)) | exact ih0 _ _ _ | exact LeO.none _ | refine LeO.ite ?_ ?_ | refine LeO.bind ?_ (fun _ => ?_)
theorem laws_heldIntS.mono : ∀ a0 a1 k, LeO (laws_heldIntS.f k a0 a1) (laws_heldIntS.f (k + 1) a0 a1) := by
  intro a0 a1 k
  have ih0 := laws_heldIntS.mono_l k
  unfold laws_heldIntS.f
  repeat' first | (with_reducible first | exact ih0 _ _ _ | exact LeO.refl _ | exact LeO.none _ | refine LeO.ite ?_ ?_ | refine LeO.bind ?_ (fun _ => ?_)) | exact ih0 _ _ _ | exact LeO.none _ | refine LeO.ite ?_ ?_ | refine LeO.bind ?_ (fun _ => ?_)

/-! ### laws_heldWay: function 34 -/
def laws_heldWay.f (k : Nat) (l0_0 : List Int) (a0_1 : Int) (a0_2 : Int) (a1 : Int) : Option (Int) := (laws_heldIntS.f k l0_0 a1).bind fun t436 => (if t436 < 0 then (some (-1)) else (some t436))
theorem laws_heldWay.mono : ∀ a0 a1 a2 a3 k, LeO (laws_heldWay.f k a0 a1 a2 a3) (laws_heldWay.f (k + 1) a0 a1 a2 a3) := by
  intro a0 a1 a2 a3 k
  unfold laws_heldWay.f
  repeat' first | (with_reducible first | exact laws_heldIntS.mono _ _ _ | exact LeO.refl _ | exact LeO.none _ | refine LeO.ite ?_ ?_ | refine LeO.bind ?_ (fun _ => ?_)) | exact laws_heldIntS.mono _ _ _ | exact LeO.none _ | refine LeO.ite ?_ ?_ | refine LeO.bind ?_ (fun _ => ?_)

/-! ### spec_Clear: function 11 -/
def spec_Clear.f (k : Nat) (a0_0 : Int) (l0_1 : List Int) (a1 : Int) (a2 : Int) : Option (Bool) := (spec_GoodCells.f k a0_0 l0_1).bind fun t444 => (if t444 = true then ((spec_l18Clear.f k a0_0 l0_1 a1 a2).bind fun t445 => (some t445)) else (some false))
theorem spec_Clear.mono : ∀ a0 a1 a2 a3 k, LeO (spec_Clear.f k a0 a1 a2 a3) (spec_Clear.f (k + 1) a0 a1 a2 a3) := by
  intro a0 a1 a2 a3 k
  unfold spec_Clear.f
  repeat' first | (with_reducible first | exact spec_GoodCells.mono _ _ _ | exact spec_l18Clear.mono _ _ _ _ _ | exact LeO.refl _ | exact LeO.none _ | refine LeO.ite ?_ ?_ | refine LeO.bind ?_ (fun _ => ?_)) | exact spec_GoodCells.mono _ _ _ | exact spec_l18Clear.mono _ _ _ _ _ | exact LeO.none _ | refine LeO.ite ?_ ?_ | refine LeO.bind ?_ (fun _ => ?_)

/-! ### impl_WayCost: function 17 -/
mutual
def impl_WayCost.j0 : Nat → List Int → Bool → Int → List Int → Option (Int × Int × Bool)
  | 0, _, _, _, _ => none
  | k + 1, x1, x31, x447000, x447001 => if x31 = true then (some (0, 0, false)) else (impl_WayCost.l0 k x1 1 x447000 x447001 0 0)
def impl_WayCost.l0 : Nat → List Int → Int → Int → List Int → Int → Int → Option (Int × Int × Bool)
  | 0, _, _, _, _, _, _ => none
  | k + 1, x1, x8, x447000, x447001, x451000, x451001 => if x8 < (x1.length : Int) then (if 0 ≤ (wrap64 (x8 - 1)) then (if (wrap64 (x8 - 1)) < (x1.length : Int) then (if 0 ≤ x8 then ((impl_Cells_step.f k x447000 x447001 (rd x1 (wrap64 (x8 - 1))) (rd x1 x8)).bind fun bt453 => (if bt453.2.2 = true then (impl_WayCost.l0 k x1 (wrap64 (x8 + 1)) x447000 x447001 (wrap64 (x451000 + bt453.1)) (wrap64 (x451001 + bt453.2.1))) else (some (0, 0, false)))) else (none)) else (none)) else (none)) else (some (x451000, x451001, true))
end
def impl_WayCost.f (k : Nat) (a0_0 : Int) (l0_1 : List Int) (l1 : List Int) : Option (Int × Int × Bool) := (impl_GoodCells.f k a0_0 l0_1).bind fun t447 => (if t447 = true then (if (l1.length : Int) < 1 then (impl_WayCost.j0 k l1 true a0_0 l0_1) else (if (l1.length : Int) > 256 then (impl_WayCost.j0 k l1 true a0_0 l0_1) else (if 0 < (l1.length : Int) then ((impl_Cells_free.f a0_0 l0_1 (rd l1 0)).bind fun t449 => (impl_WayCost.j0 k l1 (!t449) a0_0 l0_1)) else (none)))) else (impl_WayCost.j0 k l1 true a0_0 l0_1))
theorem impl_WayCost.mono_l : ∀ k, (∀ y0 y1 y2 y3, LeO (impl_WayCost.j0 k y0 y1 y2 y3) (impl_WayCost.j0 (k + 1) y0 y1 y2 y3)) ∧ (∀ y0 y1 y2 y3 y4 y5, LeO (impl_WayCost.l0 k y0 y1 y2 y3 y4 y5) (impl_WayCost.l0 (k + 1) y0 y1 y2 y3 y4 y5))
  | 0 => ⟨fun _ _ _ _ r h => by simp [impl_WayCost.j0] at h, fun _ _ _ _ _ _ r h => by simp [impl_WayCost.l0] at h⟩
  | k + 1 => by
    obtain ⟨ih0, ih1⟩ := impl_WayCost.mono_l k
    refine ⟨?_, ?_⟩
    · intro y0 y1 y2 y3
      unfold impl_WayCost.j0
      repeat' first | (with_reducible first | exact ih0 _ _ _ _ | exact ih1 _ _ _ _ _ _ | exact impl_Cells_step.mono _ _ _ _ _ | exact impl_GoodCells.mono _ _ _ | exact LeO.refl _ | exact LeO.none _ | refine LeO.ite ?_ ?_ | refine LeO.bind ?_ (fun _ => ?_)) | exact ih0 _ _ _ _ | exact ih1 _ _ _ _ _ _ | exact impl_Cells_step.mono _ _ _ _ _ | exact impl_GoodCells.mono _ _ _ | exact LeO.none _ | refine LeO.ite ?_ ?_ | refine LeO.bind ?_ (fun _ => ?_)
    · intro y0 y1 y2 y3 y4 y5
      unfold impl_WayCost.l0
      repeat' first | (with_reducible first | exact ih0 _ _ _ _ | exact ih1 _ _ _ _ _ _ | exact impl_Cells_step.mono _ _ _ _ _ | exact impl_GoodCells.mono _ _ _ | exact LeO.refl _ | exact LeO.none _ | refine LeO.ite ?_ ?_ | refine LeO.bind ?_ (fun _ => ?_)) | exact ih0 _ _ _ _ | exact ih1 _ _ _ _ _ _ | exact impl_Cells_step.mono _ _ _ _ _ | exact impl_GoodCells.mono _ _ _ | exact LeO.none _ | refine LeO.ite ?_ ?_ | refine LeO.bind ?_ (fun _ => ?_)
theorem impl_WayCost.mono : ∀ a0 a1 a2 k, LeO (impl_WayCost.f k a0 a1 a2) (impl_WayCost.f (k + 1) a0 a1 a2) := by
  intro a0 a1 a2 k
  obtain ⟨ih0, ih1⟩ := impl_WayCost.mono_l k
  unfold impl_WayCost.f
  repeat' first | (with_reducible first | exact ih0 _ _ _ _ | exact ih1 _ _ _ _ _ _ | exact impl_Cells_step.mono _ _ _ _ _ | exact impl_GoodCells.mono _ _ _ | exact LeO.refl _ | exact LeO.none _ | refine LeO.ite ?_ ?_ | refine LeO.bind ?_ (fun _ => ?_)) | exact ih0 _ _ _ _ | exact ih1 _ _ _ _ _ _ | exact impl_Cells_step.mono _ _ _ _ _ | exact impl_GoodCells.mono _ _ _ | exact LeO.none _ | refine LeO.ite ?_ ?_ | refine LeO.bind ?_ (fun _ => ?_)

/-! ### impl_PulledWay: function 25 -/
mutual
def impl_PulledWay.j0 : Nat → List Int → Bool → Int → List Int → Option (List Int × Bool)
  | 0, _, _, _, _ => none
  | k + 1, x1, x23, x458000, x458001 => if x23 = true then (some (([] : List Int), false)) else (impl_PulledWay.l0 k x1 x1 (x1.length : Int) 0 x458000 x458001)
def impl_PulledWay.l0 : Nat → List Int → List Int → Int → Int → Int → List Int → Option (List Int × Bool)
  | 0, _, _, _, _, _, _ => none
  | k + 1, x1, x24, x25, x26, x458000, x458001 => if x26 < x25 then (if 0 ≤ x26 then (if x26 < (x24.length : Int) then ((impl_Cells_free.f x458000 x458001 (rd x24 x26)).bind fun t460 => (if t460 = true then (if x26 > 0 then (if 0 ≤ (wrap64 (x26 - 1)) then (if (wrap64 (x26 - 1)) < (x1.length : Int) then ((impl_Cells_clear.f x458000 x458001 (rd x1 (wrap64 (x26 - 1))) (rd x24 x26)).bind fun t462 => (if t462 = true then (impl_PulledWay.l0 k x1 x24 x25 (wrap64 (x26 + 1)) x458000 x458001) else (some (([] : List Int), false)))) else (none)) else (none)) else (impl_PulledWay.l0 k x1 x24 x25 (wrap64 (x26 + 1)) x458000 x458001)) else (some (([] : List Int), false)))) else (none)) else (none)) else (if 0 < (x1.length : Int) then (impl_PulledWay.l1 k x1 (([rd x1 0] : List Int)) 0 x458000 x458001) else (none))
def impl_PulledWay.l1 : Nat → List Int → List Int → Int → Int → List Int → Option (List Int × Bool)
  | 0, _, _, _, _, _ => none
  | k + 1, x1, x8, x9, x458000, x458001 => if x9 < (wrap64 ((x1.length : Int) - 1)) then (impl_PulledWay.l2 k x1 x8 x9 (wrap64 ((x1.length : Int) - 1)) x458000 x458001) else (some (x8, true))
def impl_PulledWay.l2 : Nat → List Int → List Int → Int → Int → Int → List Int → Option (List Int × Bool)
  | 0, _, _, _, _, _, _ => none
  | k + 1, x1, x8, x9, x10, x458000, x458001 => if 0 ≤ x9 then (if x9 < (x1.length : Int) then (if 0 ≤ x10 then (if x10 < (x1.length : Int) then ((impl_Cells_clear.f x458000 x458001 (rd x1 x9) (rd x1 x10)).bind fun t469 => (if t469 = true then (if x8.length < 17592186044416 then (impl_PulledWay.l1 k x1 (x8 ++ [rd x1 x10]) x10 x458000 x458001) else (none)) else (impl_PulledWay.l2 k x1 x8 x9 (wrap64 (x10 - 1)) x458000 x458001))) else (none)) else (none)) else (none)) else (none)
end
def impl_PulledWay.f (k : Nat) (a0_0 : Int) (l0_1 : List Int) (l1 : List Int) : Option (List Int × Bool) := (impl_GoodCells.f k a0_0 l0_1).bind fun t458 => (if t458 = true then (if (l1.length : Int) < 1 then (impl_PulledWay.j0 k l1 true a0_0 l0_1) else (impl_PulledWay.j0 k l1 (decide ((l1.length : Int) > 256)) a0_0 l0_1)) else (impl_PulledWay.j0 k l1 true a0_0 l0_1))
theorem impl_PulledWay.mono_l : ∀ k, (∀ y0 y1 y2 y3, LeO (impl_PulledWay.j0 k y0 y1 y2 y3) (impl_PulledWay.j0 (k + 1) y0 y1 y2 y3)) ∧ (∀ y0 y1 y2 y3 y4 y5, LeO (impl_PulledWay.l0 k y0 y1 y2 y3 y4 y5) (impl_PulledWay.l0 (k + 1) y0 y1 y2 y3 y4 y5)) ∧ (∀ y0 y1 y2 y3 y4, LeO (impl_PulledWay.l1 k y0 y1 y2 y3 y4) (impl_PulledWay.l1 (k + 1) y0 y1 y2 y3 y4)) ∧ (∀ y0 y1 y2 y3 y4 y5, LeO (impl_PulledWay.l2 k y0 y1 y2 y3 y4 y5) (impl_PulledWay.l2 (k + 1) y0 y1 y2 y3 y4 y5))
  | 0 => ⟨fun _ _ _ _ r h => by simp [impl_PulledWay.j0] at h, fun _ _ _ _ _ _ r h => by simp [impl_PulledWay.l0] at h, fun _ _ _ _ _ r h => by simp [impl_PulledWay.l1] at h, fun _ _ _ _ _ _ r h => by simp [impl_PulledWay.l2] at h⟩
  | k + 1 => by
    obtain ⟨ih0, ih1, ih2, ih3⟩ := impl_PulledWay.mono_l k
    refine ⟨?_, ?_, ?_, ?_⟩
    · intro y0 y1 y2 y3
      unfold impl_PulledWay.j0
      repeat' first | (with_reducible first | exact ih0 _ _ _ _ | exact ih1 _ _ _ _ _ _ | exact ih2 _ _ _ _ _ | exact ih3 _ _ _ _ _ _ | exact impl_GoodCells.mono _ _ _ | exact LeO.refl _ | exact LeO.none _ | refine LeO.ite ?_ ?_ | refine LeO.bind ?_ (fun _ => ?_)) | exact ih0 _ _ _ _ | exact ih1 _ _ _ _ _ _ | exact ih2 _ _ _ _ _ | exact ih3 _ _ _ _ _ _ | exact impl_GoodCells.mono _ _ _ | exact LeO.none _ | refine LeO.ite ?_ ?_ | refine LeO.bind ?_ (fun _ => ?_)
    · intro y0 y1 y2 y3 y4 y5
      unfold impl_PulledWay.l0
      repeat' first | (with_reducible first | exact ih0 _ _ _ _ | exact ih1 _ _ _ _ _ _ | exact ih2 _ _ _ _ _ | exact ih3 _ _ _ _ _ _ | exact impl_GoodCells.mono _ _ _ | exact LeO.refl _ | exact LeO.none _ | refine LeO.ite ?_ ?_ | refine LeO.bind ?_ (fun _ => ?_)) | exact ih0 _ _ _ _ | exact ih1 _ _ _ _ _ _ | exact ih2 _ _ _ _ _ | exact ih3 _ _ _ _ _ _ | exact impl_GoodCells.mono _ _ _ | exact LeO.none _ | refine LeO.ite ?_ ?_ | refine LeO.bind ?_ (fun _ => ?_)
    · intro y0 y1 y2 y3 y4
      unfold impl_PulledWay.l1
      repeat' first | (with_reducible first | exact ih0 _ _ _ _ | exact ih1 _ _ _ _ _ _ | exact ih2 _ _ _ _ _ | exact ih3 _ _ _ _ _ _ | exact impl_GoodCells.mono _ _ _ | exact LeO.refl _ | exact LeO.none _ | refine LeO.ite ?_ ?_ | refine LeO.bind ?_ (fun _ => ?_)) | exact ih0 _ _ _ _ | exact ih1 _ _ _ _ _ _ | exact ih2 _ _ _ _ _ | exact ih3 _ _ _ _ _ _ | exact impl_GoodCells.mono _ _ _ | exact LeO.none _ | refine LeO.ite ?_ ?_ | refine LeO.bind ?_ (fun _ => ?_)
    · intro y0 y1 y2 y3 y4 y5
      unfold impl_PulledWay.l2
      repeat' first | (with_reducible first | exact ih0 _ _ _ _ | exact ih1 _ _ _ _ _ _ | exact ih2 _ _ _ _ _ | exact ih3 _ _ _ _ _ _ | exact impl_GoodCells.mono _ _ _ | exact LeO.refl _ | exact LeO.none _ | refine LeO.ite ?_ ?_ | refine LeO.bind ?_ (fun _ => ?_)) | exact ih0 _ _ _ _ | exact ih1 _ _ _ _ _ _ | exact ih2 _ _ _ _ _ | exact ih3 _ _ _ _ _ _ | exact impl_GoodCells.mono _ _ _ | exact LeO.none _ | refine LeO.ite ?_ ?_ | refine LeO.bind ?_ (fun _ => ?_)
theorem impl_PulledWay.mono : ∀ a0 a1 a2 k, LeO (impl_PulledWay.f k a0 a1 a2) (impl_PulledWay.f (k + 1) a0 a1 a2) := by
  intro a0 a1 a2 k
  obtain ⟨ih0, ih1, ih2, ih3⟩ := impl_PulledWay.mono_l k
  unfold impl_PulledWay.f
  repeat' first | (with_reducible first | exact ih0 _ _ _ _ | exact ih1 _ _ _ _ _ _ | exact ih2 _ _ _ _ _ | exact ih3 _ _ _ _ _ _ | exact impl_GoodCells.mono _ _ _ | exact LeO.refl _ | exact LeO.none _ | refine LeO.ite ?_ ?_ | refine LeO.bind ?_ (fun _ => ?_)) | exact ih0 _ _ _ _ | exact ih1 _ _ _ _ _ _ | exact ih2 _ _ _ _ _ | exact ih3 _ _ _ _ _ _ | exact impl_GoodCells.mono _ _ _ | exact LeO.none _ | refine LeO.ite ?_ ?_ | refine LeO.bind ?_ (fun _ => ?_)

/-! ### spec_DrawShortestWay: function 35 -/
def spec_DrawShortestWay.f (k : Nat) (l0 : List Int) : Option (Int × List Int × Int × Int) := (spec_l1Cur_ends.f k l0 0 0).bind fun bt476 => (some (bt476.1, bt476.2.1, bt476.2.2.1, bt476.2.2.2.1))
theorem spec_DrawShortestWay.mono : ∀ a0 k, LeO (spec_DrawShortestWay.f k a0) (spec_DrawShortestWay.f (k + 1) a0) := by
  intro a0 k
  unfold spec_DrawShortestWay.f
  repeat' first | (with_reducible first | exact spec_l1Cur_ends.mono _ _ _ _ | exact LeO.refl _ | exact LeO.none _ | refine LeO.ite ?_ ?_ | refine LeO.bind ?_ (fun _ => ?_)) | exact spec_l1Cur_ends.mono _ _ _ _ | exact LeO.none _ | refine LeO.ite ?_ ?_ | refine LeO.bind ?_ (fun _ => ?_)

/-! ### spec_l1Cur_stroll: function 53 -/
mutual
def spec_l1Cur_stroll.j2 : Nat → List Int → List Int → Int → Int → Int → List Int → Option (List Int × Int × Int)
  | 0, _, _, _, _, _, _ => none
  | k + 1, x7, x1000, x1001, x1002, x485000, x485001 => (spec_l1Cur_one.f x1000 x1001 x1002 16).bind fun bt513 => (if bt513.1 = true then ((spec_l1Cur_pick.f x1000 bt513.2.1 bt513.2.2 (wrap64 ((x485001.length : Int) + 1))).bind fun bt516 => (if x7.length < 17592186044416 then (some ((x7 ++ [bt516.1]), bt516.2.1, bt516.2.2)) else (none))) else (some (x7, bt513.2.1, bt513.2.2)))
def spec_l1Cur_stroll.l0 : Nat → Int → List Int → Int → List Int → Int → Int → Int → List Int → Option (List Int × Int × Int)
  | 0, _, _, _, _, _, _, _, _ => none
  | k + 1, x6, x7, x8, x1000, x1001, x1002, x485000, x485001 => if x8 > 0 then ((spec_l18Around.f k x485000 x485001 x6).bind fun t498 => (spec_l1Cur_stroll.l1 k x6 x7 x8 ([] : List Int) t498 (t498.length : Int) 0 x1000 x1001 x1002 x485000 x485001)) else (spec_l1Cur_stroll.j2 k x7 x1000 x1001 x1002 x485000 x485001)
def spec_l1Cur_stroll.l1 : Nat → Int → List Int → Int → List Int → List Int → Int → Int → List Int → Int → Int → Int → List Int → Option (List Int × Int × Int)
  | 0, _, _, _, _, _, _, _, _, _, _, _, _ => none
  | k + 1, x6, x7, x8, x9, x34, x35, x36, x1000, x1001, x1002, x485000, x485001 => if x36 < x35 then (if 0 ≤ x36 then (if x36 < (x34.length : Int) then ((spec_l18Step.f k x485000 x485001 x6 (rd x34 x36)).bind fun t502 => (if t502 > 0 then (if x9.length < 17592186044416 then (spec_l1Cur_stroll.l1 k x6 x7 x8 (x9 ++ [rd x34 x36]) x34 x35 (wrap64 (x36 + 1)) x1000 x1001 x1002 x485000 x485001) else (none)) else (spec_l1Cur_stroll.l1 k x6 x7 x8 x9 x34 x35 (wrap64 (x36 + 1)) x1000 x1001 x1002 x485000 x485001))) else (none)) else (none)) else (if (x9.length : Int) = 0 then (spec_l1Cur_stroll.j2 k x7 x1000 x1001 x1002 x485000 x485001) else ((spec_l1Cur_pick.f x1000 x1001 x1002 (x9.length : Int)).bind fun bt506 => (if 0 ≤ bt506.1 then (if bt506.1 < (x9.length : Int) then (if x7.length < 17592186044416 then (spec_l1Cur_stroll.l0 k (rd x9 bt506.1) (x7 ++ [rd x9 bt506.1]) (wrap64 (x8 - 1)) x1000 bt506.2.1 bt506.2.2 x485000 x485001) else (none)) else (none)) else (none))))
end
def spec_l1Cur_stroll.f (k : Nat) (s0_0 : List Int) (s0_1 : Int) (s0_2 : Int) (a1_0 : Int) (l1_1 : List Int) : Option (List Int × Int × Int) := (spec_AllPlaces.f k a1_0 l1_1).bind fun t485 => (if (t485.length : Int) = 0 then (some (([] : List Int), s0_1, s0_2)) else ((spec_l1Cur_pick.f s0_0 s0_1 s0_2 (t485.length : Int)).bind fun bt488 => (if 0 ≤ bt488.1 then (if bt488.1 < (t485.length : Int) then ((spec_l1Cur_pick.f s0_0 bt488.2.1 bt488.2.2 12).bind fun bt495 => (spec_l1Cur_stroll.l0 k (rd t485 bt488.1) (([rd t485 bt488.1] : List Int)) bt495.1 s0_0 bt495.2.1 bt495.2.2 a1_0 l1_1)) else (none)) else (none))))
theorem spec_l1Cur_stroll.mono_l : ∀ k, (∀ y0 y1 y2 y3 y4 y5, LeO (spec_l1Cur_stroll.j2 k y0 y1 y2 y3 y4 y5) (spec_l1Cur_stroll.j2 (k + 1) y0 y1 y2 y3 y4 y5)) ∧ (∀ y0 y1 y2 y3 y4 y5 y6 y7, LeO (spec_l1Cur_stroll.l0 k y0 y1 y2 y3 y4 y5 y6 y7) (spec_l1Cur_stroll.l0 (k + 1) y0 y1 y2 y3 y4 y5 y6 y7)) ∧ (∀ y0 y1 y2 y3 y4 y5 y6 y7 y8 y9 y10 y11, LeO (spec_l1Cur_stroll.l1 k y0 y1 y2 y3 y4 y5 y6 y7 y8 y9 y10 y11) (spec_l1Cur_stroll.l1 (k + 1) y0 y1 y2 y3 y4 y5 y6 y7 y8 y9 y10 y11))
  | 0 => ⟨fun _ _ _ _ _ _ r h => by simp [spec_l1Cur_stroll.j2] at h, fun _ _ _ _ _ _ _ _ r h => by simp [spec_l1Cur_stroll.l0] at h, fun _ _ _ _ _ _ _ _ _ _ _ _ r h => by simp [spec_l1Cur_stroll.l1] at h⟩
  | k + 1 => by
    obtain ⟨ih0, ih1, ih2⟩ := spec_l1Cur_stroll.mono_l k
    refine ⟨?_, ?_, ?_⟩
    · intro y0 y1 y2 y3 y4 y5
      unfold spec_l1Cur_stroll.j2
      repeat' first | (with_reducible first | exact ih0 _ _ _ _ _ _ | exact ih1 _ _ _ _ _ _ _ _ | exact ih2 _ _ _ _ _ _ _ _ _ _ _ _ | exact spec_AllPlaces.mono _ _ _ | exact spec_l18Around.mono _ _ _ _ | exact spec_l18Step.mono _ _ _ _ _ | exact LeO.refl _ | exact LeO.none _ | refine LeO.ite ?_ ?_ | refine LeO.bind ?_ (fun _ => ?_)) | exact ih0 _ _ _ _ _ _ | exact ih1 _ _ _ _ _ _ _ _ | exact ih2 _ _ _ _ _ _ _ _ _ _ _ _ | exact spec_AllPlaces.mono _ _ _ | exact spec_l18Around.mono _ _ _ _ | exact spec_l18Step.mono _ _ _ _ _ | exact LeO.none _ | refine LeO.ite ?_ ?_ | refine LeO.bind ?_ (fun _ => ?_)
    · intro y0 y1 y2 y3 y4 y5 y6 y7
      unfold spec_l1Cur_stroll.l0
      repeat' first | (with_reducible first | exact ih0 _ _ _ _ _ _ | exact ih1 _ _ _ _ _ _ _ _ | exact ih2 _ _ _ _ _ _ _ _ _ _ _ _ | exact spec_AllPlaces.mono _ _ _ | exact spec_l18Around.mono _ _ _ _ | exact spec_l18Step.mono _ _ _ _ _ | exact LeO.refl _ | exact LeO.none _ | refine LeO.ite ?_ ?_ | refine LeO.bind ?_ (fun _ => ?_)) | exact ih0 _ _ _ _ _ _ | exact ih1 _ _ _ _ _ _ _ _ | exact ih2 _ _ _ _ _ _ _ _ _ _ _ _ | exact spec_AllPlaces.mono _ _ _ | exact spec_l18Around.mono _ _ _ _ | exact spec_l18Step.mono _ _ _ _ _ | exact LeO.none _ | refine LeO.ite ?_ ?_ | refine LeO.bind ?_ (fun _ => ?_)
    · intro y0 y1 y2 y3 y4 y5 y6 y7 y8 y9 y10 y11
      unfold spec_l1Cur_stroll.l1
      repeat' first | (with_reducible first | exact ih0 _ _ _ _ _ _ | exact ih1 _ _ _ _ _ _ _ _ | exact ih2 _ _ _ _ _ _ _ _ _ _ _ _ | exact spec_AllPlaces.mono _ _ _ | exact spec_l18Around.mono _ _ _ _ | exact spec_l18Step.mono _ _ _ _ _ | exact LeO.refl _ | exact LeO.none _ | refine LeO.ite ?_ ?_ | refine LeO.bind ?_ (fun _ => ?_)) | exact ih0 _ _ _ _ _ _ | exact ih1 _ _ _ _ _ _ _ _ | exact ih2 _ _ _ _ _ _ _ _ _ _ _ _ | exact spec_AllPlaces.mono _ _ _ | exact spec_l18Around.mono _ _ _ _ | exact spec_l18Step.mono _ _ _ _ _ | exact LeO.none _ | refine LeO.ite ?_ ?_ | refine LeO.bind ?_ (fun _ => ?_)
theorem spec_l1Cur_stroll.mono : ∀ a0 a1 a2 a3 a4 k, LeO (spec_l1Cur_stroll.f k a0 a1 a2 a3 a4) (spec_l1Cur_stroll.f (k + 1) a0 a1 a2 a3 a4) := by
  intro a0 a1 a2 a3 a4 k
  obtain ⟨ih0, ih1, ih2⟩ := spec_l1Cur_stroll.mono_l k
  unfold spec_l1Cur_stroll.f
  repeat' first | (with_reducible first | exact ih0 _ _ _ _ _ _ | exact ih1 _ _ _ _ _ _ _ _ | exact ih2 _ _ _ _ _ _ _ _ _ _ _ _ | exact spec_AllPlaces.mono _ _ _ | exact spec_l18Around.mono _ _ _ _ | exact spec_l18Step.mono _ _ _ _ _ | exact LeO.refl _ | exact LeO.none _ | refine LeO.ite ?_ ?_ | refine LeO.bind ?_ (fun _ => ?_)) | exact ih0 _ _ _ _ _ _ | exact ih1 _ _ _ _ _ _ _ _ | exact ih2 _ _ _ _ _ _ _ _ _ _ _ _ | exact spec_AllPlaces.mono _ _ _ | exact spec_l18Around.mono _ _ _ _ | exact spec_l18Step.mono _ _ _ _ _ | exact LeO.none _ | refine LeO.ite ?_ ?_ | refine LeO.bind ?_ (fun _ => ?_)

/-! ### spec_Strolled: function 36 -/
def spec_Strolled.f (k : Nat) (l0 : List Int) (a1_0 : Int) (l1_1 : List Int) : Option (List Int) := (spec_l1Cur_stroll.f k l0 0 0 a1_0 l1_1).bind fun bt524 => (some bt524.1)
theorem spec_Strolled.mono : ∀ a0 a1 a2 k, LeO (spec_Strolled.f k a0 a1 a2) (spec_Strolled.f (k + 1) a0 a1 a2) := by
  intro a0 a1 a2 k
  unfold spec_Strolled.f
  repeat' first | (with_reducible first | exact spec_l1Cur_stroll.mono _ _ _ _ _ _ | exact LeO.refl _ | exact LeO.none _ | refine LeO.ite ?_ ?_ | refine LeO.bind ?_ (fun _ => ?_)) | exact spec_l1Cur_stroll.mono _ _ _ _ _ _ | exact LeO.none _ | refine LeO.ite ?_ ?_ | refine LeO.bind ?_ (fun _ => ?_)

/-! ### impl_between: function 54 -/
def impl_between.f (a0 : Int) (a1 : Int) (a2 : Int) : Option (Bool) := if a0 ≥ a1 then (some (decide (a0 ≤ a2))) else (some false)

/-! ### impl_CmpCost: function 37 -/
def impl_CmpCost.l0 : Nat → Int → Int → Int → Int → List Int → Int → Int → Option (Int × Bool)
  | 0, _, _, _, _, _, _, _ => none
  | k + 1, x0, x1, x2, x3, x16, x17, x18 => if x18 < x17 then (if 0 ≤ x18 then (if x18 < (x16.length : Int) then ((impl_between.f (rd x16 x18) 0 1000000).bind fun t533 => (if t533 = true then (impl_CmpCost.l0 k x0 x1 x2 x3 x16 x17 (wrap64 (x18 + 1))) else (some (0, false)))) else (none)) else (none)) else ((impl_cmpCost.f (wrap64 (x0 - x2)) (wrap64 (x1 - x3))).bind fun t534 => (some (t534, true)))
def impl_CmpCost.f (k : Nat) (a0 : Int) (a1 : Int) (a2 : Int) (a3 : Int) : Option (Int × Bool) := (some (([a0, a1, a2, a3] : List Int) : List Int)).bind fun y529 => (impl_CmpCost.l0 k a0 a1 a2 a3 y529 (y529.length : Int) 0)
theorem impl_CmpCost.mono_l : ∀ k, (∀ y0 y1 y2 y3 y4 y5 y6, LeO (impl_CmpCost.l0 k y0 y1 y2 y3 y4 y5 y6) (impl_CmpCost.l0 (k + 1) y0 y1 y2 y3 y4 y5 y6))
  | 0 => fun _ _ _ _ _ _ _ r h => by simp [impl_CmpCost.l0] at h
  | k + 1 => by
    have ih0 := impl_CmpCost.mono_l k
    · intro y0 y1 y2 y3 y4 y5 y6
      unfold impl_CmpCost.l0
      repeat' first | (with_reducible first | exact ih0 _ _ _ _ _ _ _ | exact LeO.refl _ | exact LeO.none _ | refine LeO.ite ?_ ?_ | refine LeO.bind ?_ (fun _ => ?_)) | exact ih0 _ _ _ _ _ _ _ | exact LeO.none _ | refine LeO.ite ?_ ?_ | refine LeO.bind ?_ (fun _ => ?_)
theorem impl_CmpCost.mono : ∀ a0 a1 a2 a3 k, LeO (impl_CmpCost.f k a0 a1 a2 a3) (impl_CmpCost.f (k + 1) a0 a1 a2 a3) := by
  intro a0 a1 a2 a3 k
  have ih0 := impl_CmpCost.mono_l k
  unfold impl_CmpCost.f
  repeat' first | (with_reducible first | exact ih0 _ _ _ _ _ _ _ | exact LeO.refl _ | exact LeO.none _ | refine LeO.ite ?_ ?_ | refine LeO.bind ?_ (fun _ => ?_)) | exact ih0 _ _ _ _ _ _ _ | exact LeO.none _ | refine LeO.ite ?_ ?_ | refine LeO.bind ?_ (fun _ => ?_)

end Go.Proofs.Ytjcmlggdaajicaa.Pr
