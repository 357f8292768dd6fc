-- Written by this session's own print (wip/tools/mkmp.py) out of the translation. Lean checks it.
import Derived.Test.YtbdonoeellmeoaaPr0
namespace Go.Proofs.Ytbdonoeellmeoaa.Pr
open Go.RowKit Go.Proofs.YtbdonoeellmeoaaW.PrintWords Go.Proofs.YtbdonoeellmeoaaW.PrintLast Go.Proofs.YtbdonoeellmeoaaW.PrintMore
attribute [local go_sem] max2_int min2_int max_two min_two max_three min_three max_four min_four   -- for this text's walks alone
set_option linter.unusedVariables false
set_option linter.unusedSimpArgs false

/-! ### spec_Arbitrate: function 13 -/
mutual
def spec_Arbitrate.j0 : Nat → List Int → Bool → Option (Int × List Int × Bool)
  | 0, _, _ => none
  | k + 1, x0, x23 => if x23 = true then (some (0, ([] : List Int), false)) else (spec_Arbitrate.l0 k x0 x0 (x0.length : Int) 0)
def spec_Arbitrate.l0 : Nat → List Int → List Int → Int → Int → Option (Int × List Int × Bool)
  | 0, _, _, _, _ => none
  | k + 1, x0, x24, x25, x26 => if x26 < x25 then (if 0 ≤ x26 then (if x26 < (x24.length : Int) then (if (rd x24 x26) < 0 then (some (0, ([] : List Int), false)) else (if (rd x24 x26) > 2047 then (some (0, ([] : List Int), false)) else (spec_Arbitrate.l0 k x0 x24 x25 (wrap64 (x26 + 1))))) else (none)) else (none)) else (if 0 ≤ (x0.length : Int) then (if ((x0.length : Int) : Int).toNat ≤ 35184372088832 then ((some (List.replicate ((x0.length : Int) : Int).toNat 0 : List Int)).bind fun y102 => (spec_Arbitrate.l1 k x0 y102 (y102.length : Int) 0)) else (none)) else (none))
def spec_Arbitrate.l1 : Nat → List Int → List Int → Int → Int → Option (Int × List Int × Bool)
  | 0, _, _, _, _ => none
  | k + 1, x0, x7, x41, x42 => if x42 < x41 then (if 0 ≤ x42 then (if x42 < (x7.length : Int) then (spec_Arbitrate.l1 k x0 (x7.set (x42 : Int).toNat (-1)) x41 (wrap64 (x42 + 1))) else (none)) else (none)) else (spec_Arbitrate.l2 k x0 x7 0)
def spec_Arbitrate.l2 : Nat → List Int → List Int → Int → Option (Int × List Int × Bool)
  | 0, _, _, _ => none
  | k + 1, x0, x7, x9 => if x9 < 11 then (spec_Arbitrate.l3 k x0 x7 x9 false x0 (x0.length : Int) 0) else (spec_Arbitrate.l5 k x7 0)
def spec_Arbitrate.l3 : Nat → List Int → List Int → Int → Bool → List Int → Int → Int → Option (Int × List Int × Bool)
  | 0, _, _, _, _, _, _, _ => none
  | k + 1, x0, x7, x9, x10, x53, x54, x55 => if x55 < x54 then (if 0 ≤ x55 then (if x55 < (x53.length : Int) then (if x10 = true then (spec_Arbitrate.l3 k x0 x7 x9 true x53 x54 (wrap64 (x55 + 1))) else (if x55 < (x7.length : Int) then (if (rd x7 x55) < 0 then (if 0 ≤ (IntKind.u64.wrap (wrap64 (10 - x9))) then (spec_Arbitrate.l3 k x0 x7 x9 ((Go.bits .and .i64 (shr .i64 (rd x53 x55) (IntKind.u64.wrap (wrap64 (10 - x9)))) 1) == 0) x53 x54 (wrap64 (x55 + 1))) else (none)) else (spec_Arbitrate.l3 k x0 x7 x9 false x53 x54 (wrap64 (x55 + 1)))) else (none))) else (none)) else (none)) else (spec_Arbitrate.l4 k x0 x7 x9 x10 x0 (x0.length : Int) 0)
def spec_Arbitrate.l4 : Nat → List Int → List Int → Int → Bool → List Int → Int → Int → Option (Int × List Int × Bool)
  | 0, _, _, _, _, _, _, _ => none
  | k + 1, x0, x7, x9, x10, x78, x79, x80 => if x80 < x79 then (if 0 ≤ x80 then (if x80 < (x78.length : Int) then (if x10 = true then (if x80 < (x7.length : Int) then (if (rd x7 x80) < 0 then (if 0 ≤ (IntKind.u64.wrap (wrap64 (10 - x9))) then (if (Go.bits .and .i64 (shr .i64 (rd x78 x80) (IntKind.u64.wrap (wrap64 (10 - x9)))) 1) = 1 then (spec_Arbitrate.l4 k x0 (x7.set (x80 : Int).toNat x9) x9 x10 x78 x79 (wrap64 (x80 + 1))) else (spec_Arbitrate.l4 k x0 x7 x9 x10 x78 x79 (wrap64 (x80 + 1)))) else (none)) else (spec_Arbitrate.l4 k x0 x7 x9 x10 x78 x79 (wrap64 (x80 + 1)))) else (none)) else (spec_Arbitrate.l4 k x0 x7 x9 x10 x78 x79 (wrap64 (x80 + 1)))) else (none)) else (none)) else (spec_Arbitrate.l2 k x0 x7 (wrap64 (x9 + 1)))
def spec_Arbitrate.l5 : Nat → List Int → Int → Option (Int × List Int × Bool)
  | 0, _, _ => none
  | k + 1, x7, x15 => if 0 ≤ x15 then (if x15 < (x7.length : Int) then (if (rd x7 x15) ≥ 0 then (spec_Arbitrate.l5 k x7 (wrap64 (x15 + 1))) else (some (x15, x7, true))) else (none)) else (none)
end
def spec_Arbitrate.f (k : Nat) (l0 : List Int) : Option (Int × List Int × Bool) := if (l0.length : Int) < 1 then (spec_Arbitrate.j0 k l0 true) else (spec_Arbitrate.j0 k l0 (decide ((l0.length : Int) > 6)))
theorem spec_Arbitrate.mono_l : ∀ k, (∀ y0 y1, LeO (spec_Arbitrate.j0 k y0 y1) (spec_Arbitrate.j0 (k + 1) y0 y1)) ∧ (∀ y0 y1 y2 y3, LeO (spec_Arbitrate.l0 k y0 y1 y2 y3) (spec_Arbitrate.l0 (k + 1) y0 y1 y2 y3)) ∧ (∀ y0 y1 y2 y3, LeO (spec_Arbitrate.l1 k y0 y1 y2 y3) (spec_Arbitrate.l1 (k + 1) y0 y1 y2 y3)) ∧ (∀ y0 y1 y2, LeO (spec_Arbitrate.l2 k y0 y1 y2) (spec_Arbitrate.l2 (k + 1) y0 y1 y2)) ∧ (∀ y0 y1 y2 y3 y4 y5 y6, LeO (spec_Arbitrate.l3 k y0 y1 y2 y3 y4 y5 y6) (spec_Arbitrate.l3 (k + 1) y0 y1 y2 y3 y4 y5 y6)) ∧ (∀ y0 y1 y2 y3 y4 y5 y6, LeO (spec_Arbitrate.l4 k y0 y1 y2 y3 y4 y5 y6) (spec_Arbitrate.l4 (k + 1) y0 y1 y2 y3 y4 y5 y6)) ∧ (∀ y0 y1, LeO (spec_Arbitrate.l5 k y0 y1) (spec_Arbitrate.l5 (k + 1) y0 y1))
  | 0 => ⟨fun _ _ r h => by simp [spec_Arbitrate.j0] at h, fun _ _ _ _ r h => by simp [spec_Arbitrate.l0] at h, fun _ _ _ _ r h => by simp [spec_Arbitrate.l1] at h, fun _ _ _ r h => by simp [spec_Arbitrate.l2] at h, fun _ _ _ _ _ _ _ r h => by simp [spec_Arbitrate.l3] at h, fun _ _ _ _ _ _ _ r h => by simp [spec_Arbitrate.l4] at h, fun _ _ r h => by simp [spec_Arbitrate.l5] at h⟩
  | k + 1 => by
    obtain ⟨ih0, ih1, ih2, ih3, ih4, ih5, ih6⟩ := spec_Arbitrate.mono_l k
    refine ⟨?_, ?_, ?_, ?_, ?_, ?_, ?_⟩
    · intro y0 y1
      unfold spec_Arbitrate.j0
      repeat' first | (with_reducible first | exact ih0 _ _ | exact ih1 _ _ _ _ | exact ih2 _ _ _ _ | exact ih3 _ _ _ | exact ih4 _ _ _ _ _ _ _ | exact ih5 _ _ _ _ _ _ _ | exact ih6 _ _ | exact LeO.refl _ | exact LeO.none _ | refine LeO.ite ?_ ?_ | refine LeO.bind ?_ (fun _ => ?_)) | exact ih0 _ _ | exact ih1 _ _ _ _ | exact ih2 _ _ _ _ | exact ih3 _ _ _ | exact ih4 _ _ _ _ _ _ _ | exact ih5 _ _ _ _ _ _ _ | exact ih6 _ _ | exact LeO.none _ | refine LeO.ite ?_ ?_ | refine LeO.bind ?_ (fun _ => ?_)
    · intro y0 y1 y2 y3
      unfold spec_Arbitrate.l0
      repeat' first | (with_reducible first | exact ih0 _ _ | exact ih1 _ _ _ _ | exact ih2 _ _ _ _ | exact ih3 _ _ _ | exact ih4 _ _ _ _ _ _ _ | exact ih5 _ _ _ _ _ _ _ | exact ih6 _ _ | exact LeO.refl _ | exact LeO.none _ | refine LeO.ite ?_ ?_ | refine LeO.bind ?_ (fun _ => ?_)) | exact ih0 _ _ | exact ih1 _ _ _ _ | exact ih2 _ _ _ _ | exact ih3 _ _ _ | exact ih4 _ _ _ _ _ _ _ | exact ih5 _ _ _ _ _ _ _ | exact ih6 _ _ | exact LeO.none _ | refine LeO.ite ?_ ?_ | refine LeO.bind ?_ (fun _ => ?_)
    · intro y0 y1 y2 y3
      unfold spec_Arbitrate.l1
      repeat' first | (with_reducible first | exact ih0 _ _ | exact ih1 _ _ _ _ | exact ih2 _ _ _ _ | exact ih3 _ _ _ | exact ih4 _ _ _ _ _ _ _ | exact ih5 _ _ _ _ _ _ _ | exact ih6 _ _ | exact LeO.refl _ | exact LeO.none _ | refine LeO.ite ?_ ?_ | refine LeO.bind ?_ (fun _ => ?_)) | exact ih0 _ _ | exact ih1 _ _ _ _ | exact ih2 _ _ _ _ | exact ih3 _ _ _ | exact ih4 _ _ _ _ _ _ _ | exact ih5 _ _ _ _ _ _ _ | exact ih6 _ _ | exact LeO.none _ | refine LeO.ite ?_ ?_ | refine LeO.bind ?_ (fun _ => ?_)
    · intro y0 y1 y2
      unfold spec_Arbitrate.l2
      repeat' first | (with_reducible first | exact ih0 _ _ | exact ih1 _ _ _ _ | exact ih2 _ _ _ _ | exact ih3 _ _ _ | exact ih4 _ _ _ _ _ _ _ | exact ih5 _ _ _ _ _ _ _ | exact ih6 _ _ | exact LeO.refl _ | exact LeO.none _ | refine LeO.ite ?_ ?_ | refine LeO.bind ?_ (fun _ => ?_)) | exact ih0 _ _ | exact ih1 _ _ _ _ | exact ih2 _ _ _ _ | exact ih3 _ _ _ | exact ih4 _ _ _ _ _ _ _ | exact ih5 _ _ _ _ _ _ _ | exact ih6 _ _ | exact LeO.none _ | refine LeO.ite ?_ ?_ | refine LeO.bind ?_ (fun _ => ?_)
    · intro y0 y1 y2 y3 y4 y5 y6
      unfold spec_Arbitrate.l3
      repeat' first | (with_reducible first | exact ih0 _ _ | exact ih1 _ _ _ _ | exact ih2 _ _ _ _ | exact ih3 _ _ _ | exact ih4 _ _ _ _ _ _ _ | exact ih5 _ _ _ _ _ _ _ | exact ih6 _ _ | exact LeO.refl _ | exact LeO.none _ | refine LeO.ite ?_ ?_ | refine LeO.bind ?_ (fun _ => ?_)) | exact ih0 _ _ | exact ih1 _ _ _ _ | exact ih2 _ _ _ _ | exact ih3 _ _ _ | exact ih4 _ _ _ _ _ _ _ | exact ih5 _ _ _ _ _ _ _ | exact ih6 _ _ | exact LeO.none _ | refine LeO.ite ?_ ?_ | refine LeO.bind ?_ (fun _ => ?_)
    · intro y0 y1 y2 y3 y4 y5 y6
      unfold spec_Arbitrate.l4
      repeat' first | (with_reducible first | exact ih0 _ _ | exact ih1 _ _ _ _ | exact ih2 _ _ _ _ | exact ih3 _ _ _ | exact ih4 _ _ _ _ _ _ _ | exact ih5 _ _ _ _ _ _ _ | exact ih6 _ _ | exact LeO.refl _ | exact LeO.none _ | refine LeO.ite ?_ ?_ | refine LeO.bind ?_ (fun _ => ?_)) | exact ih0 _ _ | exact ih1 _ _ _ _ | exact ih2 _ _ _ _ | exact ih3 _ _ _ | exact ih4 _ _ _ _ _ _ _ | exact ih5 _ _ _ _ _ _ _ | exact ih6 _ _ | exact LeO.none _ | refine LeO.ite ?_ ?_ | refine LeO.bind ?_ (fun _ => ?_)
    · intro y0 y1
      unfold spec_Arbitrate.l5
      repeat' first | (with_reducible first | exact ih0 _ _ | exact ih1 _ _ _ _ | exact ih2 _ _ _ _ | exact ih3 _ _ _ | exact ih4 _ _ _ _ _ _ _ | exact ih5 _ _ _ _ _ _ _ | exact ih6 _ _ | exact LeO.refl _ | exact LeO.none _ | refine LeO.ite ?_ ?_ | refine LeO.bind ?_ (fun _ => ?_)) | exact ih0 _ _ | exact ih1 _ _ _ _ | exact ih2 _ _ _ _ | exact ih3 _ _ _ | exact ih4 _ _ _ _ _ _ _ | exact ih5 _ _ _ _ _ _ _ | exact ih6 _ _ | exact LeO.none _ | refine LeO.ite ?_ ?_ | refine LeO.bind ?_ (fun _ => ?_)
theorem spec_Arbitrate.mono : ∀ a0 k, LeO (spec_Arbitrate.f k a0) (spec_Arbitrate.f (k + 1) a0) := by
  intro a0 k
  obtain ⟨ih0, ih1, ih2, ih3, ih4, ih5, ih6⟩ := spec_Arbitrate.mono_l k
  unfold spec_Arbitrate.f
  repeat' first | (with_reducible first | exact ih0 _ _ | exact ih1 _ _ _ _ | exact ih2 _ _ _ _ | exact ih3 _ _ _ | exact ih4 _ _ _ _ _ _ _ | exact ih5 _ _ _ _ _ _ _ | exact ih6 _ _ | exact LeO.refl _ | exact LeO.none _ | refine LeO.ite ?_ ?_ | refine LeO.bind ?_ (fun _ => ?_)) | exact ih0 _ _ | exact ih1 _ _ _ _ | exact ih2 _ _ _ _ | exact ih3 _ _ _ | exact ih4 _ _ _ _ _ _ _ | exact ih5 _ _ _ _ _ _ _ | exact ih6 _ _ | exact LeO.none _ | refine LeO.ite ?_ ?_ | refine LeO.bind ?_ (fun _ => ?_)

/-! ### impl_between: function 29 -/
def impl_between.f (a0 : Int) (a1 : Int) (a2 : Int) : Option (Bool) := if a0 ≥ a1 then (some (decide (a0 ≤ a2))) else (some false)

/-! ### slices_Index_int_int: function 31 -/
def slices_Index_int_int.l0 : Nat → List Int → Int → Int → Int → Option (Int)
  | 0, _, _, _, _ => none
  | k + 1, x0, x1, x7, x8 => if x8 < x7 then (if 0 ≤ x8 then (if x8 < (x0.length : Int) then (if x1 = (rd x0 x8) then (some x8) else (slices_Index_int_int.l0 k x0 x1 x7 (wrap64 (x8 + 1)))) else (none)) else (none)) else (some (-1))
def slices_Index_int_int.f (k : Nat) (l0 : List Int) (a1 : Int) : Option (Int) := slices_Index_int_int.l0 k l0 a1 (l0.length : Int) 0
theorem slices_Index_int_int.mono_l : ∀ k, (∀ y0 y1 y2 y3, LeO (slices_Index_int_int.l0 k y0 y1 y2 y3) (slices_Index_int_int.l0 (k + 1) y0 y1 y2 y3))
  | 0 => fun _ _ _ _ r h => by simp [slices_Index_int_int.l0] at h
  | k + 1 => by
    have ih0 := slices_Index_int_int.mono_l k
    · intro y0 y1 y2 y3
      unfold slices_Index_int_int.l0
      repeat' first | (with_reducible first | exact ih0 _ _ _ _ | exact LeO.refl _ | exact LeO.none _ | refine LeO.ite ?_ ?_ | refine LeO.bind ?_ (fun _ => ?_)) | exact ih0 _ _ _ _ | exact LeO.none _ | refine LeO.ite ?_ ?_ | refine LeO.bind ?_ (fun _ => ?_)
theorem slices_Index_int_int.mono : ∀ a0 a1 k, LeO (slices_Index_int_int.f k a0 a1) (slices_Index_int_int.f (k + 1) a0 a1) := by
  intro a0 a1 k
  have ih0 := slices_Index_int_int.mono_l k
  unfold slices_Index_int_int.f
  repeat' first | (with_reducible first | exact ih0 _ _ _ _ | exact LeO.refl _ | exact LeO.none _ | refine LeO.ite ?_ ?_ | refine LeO.bind ?_ (fun _ => ?_)) | exact ih0 _ _ _ _ | exact LeO.none _ | refine LeO.ite ?_ ?_ | refine LeO.bind ?_ (fun _ => ?_)

/-! ### impl_Arbitrate: function 15 -/
mutual
def impl_Arbitrate.j0 : Nat → List Int → Bool → Option (Int × List Int × Bool)
  | 0, _, _ => none
  | k + 1, x0, x21 => if x21 = true then (some (0, ([] : List Int), false)) else (if 0 ≤ (x0.length : Int) then (if ((x0.length : Int) : Int).toNat ≤ 35184372088832 then (impl_Arbitrate.l0 k x0 (List.replicate ((x0.length : Int) : Int).toNat 0) x0 (x0.length : Int) 0) else (none)) else (none))
def impl_Arbitrate.l0 : Nat → List Int → List Int → List Int → Int → Int → Option (Int × List Int × Bool)
  | 0, _, _, _, _, _ => none
  | k + 1, x0, x5, x25, x26, x27 => if x27 < x26 then (if 0 ≤ x27 then (if x27 < (x25.length : Int) then ((impl_between.f (rd x25 x27) 0 2047).bind fun t117 => (if t117 = true then (if x27 < (x5.length : Int) then (impl_Arbitrate.l0 k x0 (x5.set (x27 : Int).toNat (-1)) x25 x26 (wrap64 (x27 + 1))) else (none)) else (some (0, ([] : List Int), false)))) else (none)) else (none)) else (impl_Arbitrate.l1 k x0 x5 0)
def impl_Arbitrate.l1 : Nat → List Int → List Int → Int → Option (Int × List Int × Bool)
  | 0, _, _, _ => none
  | k + 1, x0, x5, x39 => if x39 < 11 then (impl_Arbitrate.l2 k x0 x5 x39 1 x39 x0 (x0.length : Int) 0) else ((slices_Index_int_int.f k x5 (-1)).bind fun t119 => (some (t119, x5, true)))
def impl_Arbitrate.l2 : Nat → List Int → List Int → Int → Int → Int → List Int → Int → Int → Option (Int × List Int × Bool)
  | 0, _, _, _, _, _, _, _, _ => none
  | k + 1, x0, x5, x8, x9, x39, x42, x43, x44 => if x44 < x43 then (if 0 ≤ x44 then (if x44 < (x42.length : Int) then (if x44 < (x5.length : Int) then (if (rd x5 x44) < 0 then (if 0 ≤ (wrap64 (10 - x8)) then (impl_Arbitrate.l2 k x0 x5 x8 (Go.bits .and .i64 x9 (Go.bits .and .i64 (shr .i64 (rd x42 x44) (wrap64 (10 - x8))) 1)) x39 x42 x43 (wrap64 (x44 + 1))) else (none)) else (impl_Arbitrate.l2 k x0 x5 x8 x9 x39 x42 x43 (wrap64 (x44 + 1)))) else (none)) else (none)) else (none)) else (impl_Arbitrate.l3 k x0 x5 x8 x9 x39 x0 (x0.length : Int) 0)
def impl_Arbitrate.l3 : Nat → List Int → List Int → Int → Int → Int → List Int → Int → Int → Option (Int × List Int × Bool)
  | 0, _, _, _, _, _, _, _, _ => none
  | k + 1, x0, x5, x8, x9, x39, x62, x63, x64 => if x64 < x63 then (if 0 ≤ x64 then (if x64 < (x62.length : Int) then (if x64 < (x5.length : Int) then (if (rd x5 x64) < 0 then (if 0 ≤ (wrap64 (10 - x8)) then (if (Go.bits .and .i64 (shr .i64 (rd x62 x64) (wrap64 (10 - x8))) 1) > x9 then (impl_Arbitrate.l3 k x0 (x5.set (x64 : Int).toNat x8) x8 x9 x39 x62 x63 (wrap64 (x64 + 1))) else (impl_Arbitrate.l3 k x0 x5 x8 x9 x39 x62 x63 (wrap64 (x64 + 1)))) else (none)) else (impl_Arbitrate.l3 k x0 x5 x8 x9 x39 x62 x63 (wrap64 (x64 + 1)))) else (none)) else (none)) else (none)) else (impl_Arbitrate.l1 k x0 x5 (wrap64 (x39 + 1)))
end
def impl_Arbitrate.f (k : Nat) (l0 : List Int) : Option (Int × List Int × Bool) := if (l0.length : Int) < 1 then (impl_Arbitrate.j0 k l0 true) else (impl_Arbitrate.j0 k l0 (decide ((l0.length : Int) > 6)))
theorem impl_Arbitrate.mono_l : ∀ k, (∀ y0 y1, LeO (impl_Arbitrate.j0 k y0 y1) (impl_Arbitrate.j0 (k + 1) y0 y1)) ∧ (∀ y0 y1 y2 y3 y4, LeO (impl_Arbitrate.l0 k y0 y1 y2 y3 y4) (impl_Arbitrate.l0 (k + 1) y0 y1 y2 y3 y4)) ∧ (∀ y0 y1 y2, LeO (impl_Arbitrate.l1 k y0 y1 y2) (impl_Arbitrate.l1 (k + 1) y0 y1 y2)) ∧ (∀ y0 y1 y2 y3 y4 y5 y6 y7, LeO (impl_Arbitrate.l2 k y0 y1 y2 y3 y4 y5 y6 y7) (impl_Arbitrate.l2 (k + 1) y0 y1 y2 y3 y4 y5 y6 y7)) ∧ (∀ y0 y1 y2 y3 y4 y5 y6 y7, LeO (impl_Arbitrate.l3 k y0 y1 y2 y3 y4 y5 y6 y7) (impl_Arbitrate.l3 (k + 1) y0 y1 y2 y3 y4 y5 y6 y7))
  | 0 => ⟨fun _ _ r h => by simp [impl_Arbitrate.j0] at h, fun _ _ _ _ _ r h => by simp [impl_Arbitrate.l0] at h, fun _ _ _ r h => by simp [impl_Arbitrate.l1] at h, fun _ _ _ _ _ _ _ _ r h => by simp [impl_Arbitrate.l2] at h, fun _ _ _ _ _ _ _ _ r h => by simp [impl_Arbitrate.l3] at h⟩
  | k + 1 => by
    obtain ⟨ih0, ih1, ih2, ih3, ih4⟩ := impl_Arbitrate.mono_l k
    refine ⟨?_, ?_, ?_, ?_, ?_⟩
    · intro y0 y1
      unfold impl_Arbitrate.j0
      repeat' first | (with_reducible first | exact ih0 _ _ | exact ih1 _ _ _ _ _ | exact ih2 _ _ _ | exact ih3 _ _ _ _ _ _ _ _ | exact ih4 _ _ _ _ _ _ _ _ | exact slices_Index_int_int.mono _ _ _ | exact LeO.refl _ | exact LeO.none _ | refine LeO.ite ?_ ?_ | refine LeO.bind ?_ (fun _ => ?_)) | exact ih0 _ _ | exact ih1 _ _ _ _ _ | exact ih2 _ _ _ | exact ih3 _ _ _ _ _ _ _ _ | exact ih4 _ _ _ _ _ _ _ _ | exact slices_Index_int_int.mono _ _ _ | exact LeO.none _ | refine LeO.ite ?_ ?_ | refine LeO.bind ?_ (fun _ => ?_)
    · intro y0 y1 y2 y3 y4
      unfold impl_Arbitrate.l0
      repeat' first | (with_reducible first | exact ih0 _ _ | exact ih1 _ _ _ _ _ | exact ih2 _ _ _ | exact ih3 _ _ _ _ _ _ _ _ | exact ih4 _ _ _ _ _ _ _ _ | exact slices_Index_int_int.mono _ _ _ | exact LeO.refl _ | exact LeO.none _ | refine LeO.ite ?_ ?_ | refine LeO.bind ?_ (fun _ => ?_)) | exact ih0 _ _ | exact ih1 _ _ _ _ _ | exact ih2 _ _ _ | exact ih3 _ _ _ _ _ _ _ _ | exact ih4 _ _ _ _ _ _ _ _ | exact slices_Index_int_int.mono _ _ _ | exact LeO.none _ | refine LeO.ite ?_ ?_ | refine LeO.bind ?_ (fun _ => ?_)
    · intro y0 y1 y2
      unfold impl_Arbitrate.l1
      repeat' first | (with_reducible first | exact ih0 _ _ | exact ih1 _ _ _ _ _ | exact ih2 _ _ _ | exact ih3 _ _ _ _ _ _ _ _ | exact ih4 _ _ _ _ _ _ _ _ | exact slices_Index_int_int.mono _ _ _ | exact LeO.refl _ | exact LeO.none _ | refine LeO.ite ?_ ?_ | refine LeO.bind ?_ (fun _ => ?_)) | exact ih0 _ _ | exact ih1 _ _ _ _ _ | exact ih2 _ _ _ | exact ih3 _ _ _ _ _ _ _ _ | exact ih4 _ _ _ _ _ _ _ _ | exact slices_Index_int_int.mono _ _ _ | exact LeO.none _ | refine LeO.ite ?_ ?_ | refine LeO.bind ?_ (fun _ => ?_)
    · intro y0 y1 y2 y3 y4 y5 y6 y7
      unfold impl_Arbitrate.l2
      repeat' first | (with_reducible first | exact ih0 _ _ | exact ih1 _ _ _ _ _ | exact ih2 _ _ _ | exact ih3 _ _ _ _ _ _ _ _ | exact ih4 _ _ _ _ _ _ _ _ | exact slices_Index_int_int.mono _ _ _ | exact LeO.refl _ | exact LeO.none _ | refine LeO.ite ?_ ?_ | refine LeO.bind ?_ (fun _ => ?_)) | exact ih0 _ _ | exact ih1 _ _ _ _ _ | exact ih2 _ _ _ | exact ih3 _ _ _ _ _ _ _ _ | exact ih4 _ _ _ _ _ _ _ _ | exact slices_Index_int_int.mono _ _ _ | exact LeO.none _ | refine LeO.ite ?_ ?_ | refine LeO.bind ?_ (fun _ => ?_)
    · intro y0 y1 y2 y3 y4 y5 y6 y7
      unfold impl_Arbitrate.l3
      repeat' first | (with_reducible first | exact ih0 _ _ | exact ih1 _ _ _ _ _ | exact ih2 _ _ _ | exact ih3 _ _ _ _ _ _ _ _ | exact ih4 _ _ _ _ _ _ _ _ | exact slices_Index_int_int.mono _ _ _ | exact LeO.refl _ | exact LeO.none _ | refine LeO.ite ?_ ?_ | refine LeO.bind ?_ (fun _ => ?_)) | exact ih0 _ _ | exact ih1 _ _ _ _ _ | exact ih2 _ _ _ | exact ih3 _ _ _ _ _ _ _ _ | exact ih4 _ _ _ _ _ _ _ _ | exact slices_Index_int_int.mono _ _ _ | exact LeO.none _ | refine LeO.ite ?_ ?_ | refine LeO.bind ?_ (fun _ => ?_)
theorem impl_Arbitrate.mono : ∀ a0 k, LeO (impl_Arbitrate.f k a0) (impl_Arbitrate.f (k + 1) a0) := by
  intro a0 k
  obtain ⟨ih0, ih1, ih2, ih3, ih4⟩ := impl_Arbitrate.mono_l k
  unfold impl_Arbitrate.f
  repeat' first | (with_reducible first | exact ih0 _ _ | exact ih1 _ _ _ _ _ | exact ih2 _ _ _ | exact ih3 _ _ _ _ _ _ _ _ | exact ih4 _ _ _ _ _ _ _ _ | exact slices_Index_int_int.mono _ _ _ | exact LeO.refl _ | exact LeO.none _ | refine LeO.ite ?_ ?_ | refine LeO.bind ?_ (fun _ => ?_)) | exact ih0 _ _ | exact ih1 _ _ _ _ _ | exact ih2 _ _ _ | exact ih3 _ _ _ _ _ _ _ _ | exact ih4 _ _ _ _ _ _ _ _ | exact slices_Index_int_int.mono _ _ _ | exact LeO.none _ | refine LeO.ite ?_ ?_ | refine LeO.bind ?_ (fun _ => ?_)

/-- A state of type 57 at block g of W; what its slices lead to came in by w0. -/
def IsS57 (w0 W : World) (g : Nat) (f0 : List Int) (f1 : Int) (f2 : Int) : Prop := ∃ A0 c0, W.heap[g]? = some (.cells #[.slice A0 f0.length c0, .int .i64 f1, .int .u64 f2] 57 (0, 0)) ∧ w0.heap.size ≤ g ∧ Kd.C (Kd.int .u8) w0 A0 f0.length f0
theorem IsS57.grown {w0 W : World} {g : Nat} {f0 : List Int} {f1 : Int} {f2 : Int} {W1 : World} {row : Option Nat} (h : IsS57 w0 W g f0 f1 f2) (hw : W.grownBy W1 row) (hne : some g ≠ row) : IsS57 w0 W1 g f0 f1 f2 := by
  obtain ⟨A0, c0, hb, hg, hr0⟩ := h
  exact ⟨A0, c0, blk_grown hb hw hne, hg, hr0⟩
theorem IsS57.own_neN {w0 W : World} {g : Nat} {f0 : List Int} {f1 : Int} {f2 : Int} {α : Type} {d : Kd α} {e : Nat} {base : Nat} {ok : Nat → Prop} {v : Value} {xs : List α} (h : IsS57 w0 W g f0 f1 f2) (ho : Kd.N d e W base ok v xs) (ht : e ≠ 57) : some g ≠ v.ownBlock := by
  obtain ⟨A0, c0, hb, hg, hr0⟩ := h
  exact Kd.N_ne ho hb ht
theorem IsS57.fresh {w0 W : World} {g : Nat} {f0 : List Int} {f1 : Int} {f2 : Int} (h : IsS57 w0 W g f0 f1 f2) : ∀ k, W.heap.size ≤ k → k ≠ g := by
  obtain ⟨A0, c0, hb, hg, hr0⟩ := h
  exact Kd.freshB hb
theorem IsS57.kept {w0 W : World} {g : Nat} {f0 : List Int} {f1 : Int} {f2 : Int} {W1 : World} {S : Nat → Prop} (h : IsS57 w0 W g f0 f1 f2) (hk : Kept W W1 S) (hne : ¬ S g) : IsS57 w0 W1 g f0 f1 f2 := by
  obtain ⟨A0, c0, hb, hg, hr0⟩ := h
  exact ⟨A0, c0, blk_kept hb hk hne, hg, hr0⟩
theorem IsS57.below {w0 W : World} {g : Nat} {f0 : List Int} {f1 : Int} {f2 : Int} {W1 : World} (h : IsS57 w0 W g f0 f1 f2) (hw : Below W.heap.size W W1) : IsS57 w0 W1 g f0 f1 f2 := h.grown (grown_of_below hw none) (by simp)
theorem IsS57.alloc {w0 W : World} {g : Nat} {f0 : List Int} {f1 : Int} {f2 : Int} (h : IsS57 w0 W g f0 f1 f2) (o : Obj) : IsS57 w0 (W.alloc o) g f0 f1 f2 := h.below (below_alloc (Below.refl _ _) o)
theorem IsS57.drewN {w0 W : World} {g : Nat} {f0 : List Int} {f1 : Int} {f2 : Int} (h : IsS57 w0 W g f0 f1 f2) (m : Nat) : IsS57 w0 (W.drewN m) g f0 f1 f2 := h
theorem IsS57.drew {w0 W : World} {g : Nat} {f0 : List Int} {f1 : Int} {f2 : Int} (h : IsS57 w0 W g f0 f1 f2) : IsS57 w0 W.drew g f0 f1 f2 := h
theorem IsS57.at_ {w0 W : World} {g : Nat} {f0 : List Int} {f1 : Int} {f2 : Int} {w' : World} {m : Nat} (hq : W.drewN m = w') (h : IsS57 w0 W g f0 f1 f2) : IsS57 w0 w' g f0 f1 f2 := by subst hq; exact IsS57.drewN h m
theorem IsS57.apart {w0 W : World} {g : Nat} {f0 : List Int} {f1 : Int} {f2 : Int} {α : Type} {d : Kd α} {e : Nat} {base : Nat} {ok : Nat → Prop} {v : Value} {xs : List α} (h : IsS57 w0 W g f0 f1 f2) (ho : d.R e W base ok v xs) (ht : ∀ q, q ∈ e :: d.E → q ≠ 57) : d.R e W base (fun k => ok k ∧ k ≠ g) v xs := by
  obtain ⟨A0, c0, hb, hg, hr0⟩ := h
  exact Kd.R_types ho hb ht
theorem IsS57.own_ne {w0 W : World} {g : Nat} {f0 : List Int} {f1 : Int} {f2 : Int} {α : Type} {d : Kd α} {e : Nat} {base : Nat} {ok : Nat → Prop} {v : Value} {xs : List α} (h : IsS57 w0 W g f0 f1 f2) (ho : d.R e W base ok v xs) (ht : e ≠ 57) : some g ≠ v.ownBlock := by
  obtain ⟨A0, c0, hb, hg, hr0⟩ := h
  exact Kd.R_ne ho hb ht
theorem IsS57.apartQ {w0 W : World} {g : Nat} {f0 : List Int} {f1 : Int} {f2 : Int} {α : Type} {d : Kd α} {e : Nat} {base : Nat} {ok : Nat → Prop} {v : Value} {xs : List α} (h : IsS57 w0 W g f0 f1 f2) (ho : d.Q e W base ok v xs) (ht : ∀ q, q ∈ e :: d.E → q ≠ 57) : d.Q e W base (fun k => ok k ∧ k ≠ g) v xs := by
  obtain ⟨A0, c0, hb, hg, hr0⟩ := h
  exact Kd.Q_types ho hb ht
theorem IsS57.own_neQ {w0 W : World} {g : Nat} {f0 : List Int} {f1 : Int} {f2 : Int} {α : Type} {d : Kd α} {e : Nat} {base : Nat} {ok : Nat → Prop} {v : Value} {xs : List α} (h : IsS57 w0 W g f0 f1 f2) (ho : d.Q e W base ok v xs) (ht : e ≠ 57) : some g ≠ v.ownBlock := by
  obtain ⟨A0, c0, hb, hg, hr0⟩ := h
  exact Kd.Q_ne ho hb ht
theorem IsS57.apartS {w0 W : World} {g : Nat} {f0 : List Int} {f1 : Int} {f2 : Int} {α : Type} {d : Kd α} {e : Nat} {base : Nat} {ok : Nat → Prop} {v : Value} {xs : List α} (h : IsS57 w0 W g f0 f1 f2) (ho : d.S e W base ok v xs) (ht : ∀ q, q ∈ e :: d.E → q ≠ 57) : d.S e W base (fun k => ok k ∧ k ≠ g) v xs := by
  obtain ⟨A0, c0, hb, hg, hr0⟩ := h
  exact Kd.S_types ho hb ht
theorem IsS57.own_neS {w0 W : World} {g : Nat} {f0 : List Int} {f1 : Int} {f2 : Int} {α : Type} {d : Kd α} {e : Nat} {base : Nat} {ok : Nat → Prop} {v : Value} {xs : List α} (h : IsS57 w0 W g f0 f1 f2) (ho : d.S e W base ok v xs) (ht : e ≠ 57) : some g ≠ v.ownBlock := by
  obtain ⟨A0, c0, hb, hg, hr0⟩ := h
  exact Kd.S_ne ho hb ht
theorem IsS57.lt {w0 W : World} {g : Nat} {f0 : List Int} {f1 : Int} {f2 : Int} (h : IsS57 w0 W g f0 f1 f2) : g < W.heap.size := by
  obtain ⟨A0, c0, hb, hg, hr0⟩ := h
  exact blk_lt hb
theorem IsS57.ge {w0 W : World} {g : Nat} {f0 : List Int} {f1 : Int} {f2 : Int} (h : IsS57 w0 W g f0 f1 f2) : w0.heap.size ≤ g := by
  obtain ⟨A0, c0, hb, hg, hr0⟩ := h
  exact hg
theorem IsS57.ne_blk {w0 W : World} {g : Nat} {f0 : List Int} {f1 : Int} {f2 : Int} {a : Nat} {cs : Array Value} {t : TypeId} {fr : Nat × Nat} (h : IsS57 w0 W g f0 f1 f2) (hb2 : W.heap[a]? = some (.cells cs t fr)) (ht : t ≠ 57) : g ≠ a := by
  obtain ⟨A0, c0, hb, hg, hr0⟩ := h
  rintro rfl
  rw [hb] at hb2
  injection hb2 with hb2
  injection hb2 with _ ht2
  exact ht ht2.symm
theorem IsS57.far {w0 W : World} {g : Nat} {f0 : List Int} {f1 : Int} {f2 : Int} {p : Addr} (h : IsS57 w0 W g f0 f1 f2) (hne : g ≠ p.block) (u : Value) : IsS57 w0 (W.setCell p u) g f0 f1 f2 := by
  obtain ⟨A0, c0, hb, hg, hr0⟩ := h
  exact ⟨A0, c0, blk_far hb hne u, hg, hr0⟩
theorem cellS57_0 {W : World} {g : Nat} {A0 : Option Addr} {c0 : Nat} {f0 : List Int} {f1 : Int} {f2 : Int} (h : W.heap[g]? = some (.cells #[.slice A0 f0.length c0, .int .i64 f1, .int .u64 f2] 57 (0, 0))) : W.cell? ⟨g, 0, none⟩ = some (.slice A0 f0.length c0) := (blk_cell h 0).trans rfl
theorem cellS57_1 {W : World} {g : Nat} {A0 : Option Addr} {c0 : Nat} {f0 : List Int} {f1 : Int} {f2 : Int} (h : W.heap[g]? = some (.cells #[.slice A0 f0.length c0, .int .i64 f1, .int .u64 f2] 57 (0, 0))) : W.cell? ⟨g, 1, none⟩ = some (.int .i64 f1) := (blk_cell h 1).trans rfl
theorem IsS57.set_1 {w0 W : World} {g : Nat} {f0 : List Int} {f1 : Int} {f2 : Int} (h : IsS57 w0 W g f0 f1 f2) (x : Int) : IsS57 w0 (W.setCell ⟨g, 1, none⟩ (.int .i64 x)) g f0 x f2 := by
  obtain ⟨A0, c0, hb, hg, hr0⟩ := h
  exact ⟨A0, c0, by simpa using blk_set hb 1 (.int .i64 x), hg, hr0⟩
theorem cellS57_2 {W : World} {g : Nat} {A0 : Option Addr} {c0 : Nat} {f0 : List Int} {f1 : Int} {f2 : Int} (h : W.heap[g]? = some (.cells #[.slice A0 f0.length c0, .int .i64 f1, .int .u64 f2] 57 (0, 0))) : W.cell? ⟨g, 2, none⟩ = some (.int .u64 f2) := (blk_cell h 2).trans rfl
theorem IsS57.set_2 {w0 W : World} {g : Nat} {f0 : List Int} {f1 : Int} {f2 : Int} (h : IsS57 w0 W g f0 f1 f2) (x : Int) : IsS57 w0 (W.setCell ⟨g, 2, none⟩ (.int .u64 x)) g f0 f1 x := by
  obtain ⟨A0, c0, hb, hg, hr0⟩ := h
  exact ⟨A0, c0, by simpa using blk_set hb 2 (.int .u64 x), hg, hr0⟩
theorem IsS57.new (w0 W : World) (A0 : Option Addr) (c0 : Nat) (f0 : List Int) (f1 : Int) (f2 : Int) (hB : Below w0.heap.size w0 W) (hr0 : Kd.C (Kd.int .u8) w0 A0 f0.length f0) : IsS57 w0 (W.alloc (.cells #[.slice A0 f0.length c0, .int .i64 f1, .int .u64 f2] 57)) W.heap.size f0 f1 f2 := ⟨A0, c0, by simpa using heap_alloc_new W _, hB.size, hr0⟩

/-! ### spec_l1Cur_next: function 49 -/
def spec_l1Cur_next.f (s0_0 : List Int) (s0_1 : Int) (s0_2 : Int) : Option (Int × Int × Int) := if s0_1 < (s0_0.length : Int) then (if 0 ≤ s0_1 then (if (wrap64 (s0_1 + 1)) ≤ (s0_0.length : Int) then (some (wrap64 (rd s0_0 s0_1), wrap64 (s0_1 + 1), IntKind.u64.wrap ((IntKind.u64.wrap ((IntKind.u64.wrap (s0_2 * 6364136223846793005)) + (IntKind.u64.wrap (wrap64 (rd s0_0 s0_1))))) + 1442695040888963407))) else (some (wrap64 (Go.bits .and .u64 ((IntKind.u64.wrap ((IntKind.u64.wrap ((IntKind.u64.wrap (s0_2 * 6364136223846793005)) + (IntKind.u64.wrap (wrap64 (rd s0_0 s0_1))))) + 1442695040888963407)) / 1099511627776) 255), wrap64 (s0_1 + 1), IntKind.u64.wrap ((IntKind.u64.wrap ((IntKind.u64.wrap (s0_2 * 6364136223846793005)) + (IntKind.u64.wrap (wrap64 (rd s0_0 s0_1))))) + 1442695040888963407)))) else (none)) else (if (wrap64 (s0_1 + 1)) ≤ (s0_0.length : Int) then (some (0, wrap64 (s0_1 + 1), IntKind.u64.wrap ((IntKind.u64.wrap ((IntKind.u64.wrap (s0_2 * 6364136223846793005)) + 0)) + 1442695040888963407))) else (some (wrap64 (Go.bits .and .u64 ((IntKind.u64.wrap ((IntKind.u64.wrap ((IntKind.u64.wrap (s0_2 * 6364136223846793005)) + 0)) + 1442695040888963407)) / 1099511627776) 255), wrap64 (s0_1 + 1), IntKind.u64.wrap ((IntKind.u64.wrap ((IntKind.u64.wrap (s0_2 * 6364136223846793005)) + 0)) + 1442695040888963407))))

/-! ### spec_l1Cur_pick: function 32 -/
def spec_l1Cur_pick.f (s0_0 : List Int) (s0_1 : Int) (s0_2 : Int) (a1 : Int) : Option (Int × Int × Int) := if a1 ≤ 1 then (some (0, s0_1, s0_2)) else ((spec_l1Cur_next.f s0_0 s0_1 s0_2).bind fun bt126 => (if a1 > 200 then ((spec_l1Cur_next.f s0_0 bt126.2.1 bt126.2.2).bind fun bt129 => (if a1 = 0 then (none) else (some (Int.tmod (wrap64 ((wrap64 (bt126.1 * 256)) + bt129.1)) a1, bt129.2.1, bt129.2.2)))) else (if a1 = 0 then (none) else (some (Int.tmod bt126.1 a1, bt126.2.1, bt126.2.2)))))

/-! ### spec_l1Cur_one: function 33 -/
def spec_l1Cur_one.f (s0_0 : List Int) (s0_1 : Int) (s0_2 : Int) (a1 : Int) : Option (Bool × Int × Int) := (spec_l1Cur_pick.f s0_0 s0_1 s0_2 a1).bind fun bt132 => (some ((bt132.1 == 0), bt132.2.1, bt132.2.2))

/-! ### spec_l1Cur_among: function 34 -/
def spec_l1Cur_among.f (s0_0 : List Int) (s0_1 : Int) (s0_2 : Int) (l1 : List Int) : Option (Int × Int × Int) := (spec_l1Cur_pick.f s0_0 s0_1 s0_2 (l1.length : Int)).bind fun bt135 => (if 0 ≤ bt135.1 then (if bt135.1 < (l1.length : Int) then (some (rd l1 bt135.1, bt135.2.1, bt135.2.2)) else (none)) else (none))

/-! ### spec_DrawArbitrate: function 19 -/
mutual
def spec_DrawArbitrate.j0 : Nat → List Int → Int → List Int → Int → Int → Option (List Int)
  | 0, _, _, _, _, _ => none
  | k + 1, x4, x5, x140000, x140001, x140002 => spec_DrawArbitrate.l0 k x4 x5 x140000 x140001 x140002
def spec_DrawArbitrate.l0 : Nat → List Int → Int → List Int → Int → Int → Option (List Int)
  | 0, _, _, _, _, _ => none
  | k + 1, x4, x5, x140000, x140001, x140002 => if x5 > 0 then ((spec_l1Cur_pick.f x140000 x140001 x140002 12).bind fun bt152 => ((spec_l1Cur_one.f x140000 bt152.2.1 bt152.2.2 4).bind fun bt155 => (if bt155.1 = true then ((spec_l1Cur_pick.f x140000 bt155.2.1 bt155.2.2 2048).bind fun bt158 => ((spec_l1Cur_one.f x140000 bt158.2.1 bt158.2.2 60).bind fun bt161 => (if bt161.1 = true then (if x4.length < 17592186044416 then (spec_DrawArbitrate.l0 k (x4 ++ [(-1)]) (wrap64 (x5 - 1)) x140000 bt161.2.1 bt161.2.2) else (none)) else (if x4.length < 17592186044416 then (spec_DrawArbitrate.l0 k (x4 ++ [bt158.1]) (wrap64 (x5 - 1)) x140000 bt161.2.1 bt161.2.2) else (none))))) else ((spec_l1Cur_one.f x140000 bt155.2.1 bt155.2.2 60).bind fun bt170 => (if bt170.1 = true then (if x4.length < 17592186044416 then (spec_DrawArbitrate.l0 k (x4 ++ [(-1)]) (wrap64 (x5 - 1)) x140000 bt170.2.1 bt170.2.2) else (none)) else (if x4.length < 17592186044416 then (spec_DrawArbitrate.l0 k (x4 ++ [bt152.1]) (wrap64 (x5 - 1)) x140000 bt170.2.1 bt170.2.2) else (none))))))) else (some x4)
end
def spec_DrawArbitrate.f (k : Nat) (l0 : List Int) : Option (List Int) := (spec_l1Cur_pick.f l0 0 0 5).bind fun bt140 => ((spec_l1Cur_one.f l0 bt140.2.1 bt140.2.2 12).bind fun bt143 => (if bt143.1 = true then ((spec_l1Cur_among.f l0 bt143.2.1 bt143.2.2 (([0, 6, 7] : List Int))).bind fun bt149 => (spec_DrawArbitrate.j0 k ([] : List Int) bt149.1 l0 bt149.2.1 bt149.2.2)) else (spec_DrawArbitrate.j0 k ([] : List Int) (wrap64 (1 + bt140.1)) l0 bt143.2.1 bt143.2.2)))
theorem spec_DrawArbitrate.mono_l : ∀ k, (∀ y0 y1 y2 y3 y4, LeO (spec_DrawArbitrate.j0 k y0 y1 y2 y3 y4) (spec_DrawArbitrate.j0 (k + 1) y0 y1 y2 y3 y4)) ∧ (∀ y0 y1 y2 y3 y4, LeO (spec_DrawArbitrate.l0 k y0 y1 y2 y3 y4) (spec_DrawArbitrate.l0 (k + 1) y0 y1 y2 y3 y4))
  | 0 => ⟨fun _ _ _ _ _ r h => by simp [spec_DrawArbitrate.j0] at h, fun _ _ _ _ _ r h => by simp [spec_DrawArbitrate.l0] at h⟩
  | k + 1 => by
    obtain ⟨ih0, ih1⟩ := spec_DrawArbitrate.mono_l k
    refine ⟨?_, ?_⟩
    · intro y0 y1 y2 y3 y4
      unfold spec_DrawArbitrate.j0
      repeat' first | (with_reducible first | exact ih0 _ _ _ _ _ | exact ih1 _ _ _ _ _ | exact LeO.refl _ | exact LeO.none _ | refine LeO.ite ?_ ?_ | refine LeO.bind ?_ (fun _ => ?_)) | exact ih0 _ _ _ _ _ | exact ih1 _ _ _ _ _ | exact LeO.none _ | refine LeO.ite ?_ ?_ | refine LeO.bind ?_ (fun _ => ?_)
    · intro y0 y1 y2 y3 y4
      unfold spec_DrawArbitrate.l0
      repeat' first | (with_reducible first | exact ih0 _ _ _ _ _ | exact ih1 _ _ _ _ _ | exact LeO.refl _ | exact LeO.none _ | refine LeO.ite ?_ ?_ | refine LeO.bind ?_ (fun _ => ?_)) | exact ih0 _ _ _ _ _ | exact ih1 _ _ _ _ _ | exact LeO.none _ | refine LeO.ite ?_ ?_ | refine LeO.bind ?_ (fun _ => ?_)
theorem spec_DrawArbitrate.mono : ∀ a0 k, LeO (spec_DrawArbitrate.f k a0) (spec_DrawArbitrate.f (k + 1) a0) := by
  intro a0 k
  obtain ⟨ih0, ih1⟩ := spec_DrawArbitrate.mono_l k
  unfold spec_DrawArbitrate.f
  repeat' first | (with_reducible first | exact ih0 _ _ _ _ _ | exact ih1 _ _ _ _ _ | exact LeO.refl _ | exact LeO.none _ | refine LeO.ite ?_ ?_ | refine LeO.bind ?_ (fun _ => ?_)) | exact ih0 _ _ _ _ _ | exact ih1 _ _ _ _ _ | exact LeO.none _ | refine LeO.ite ?_ ?_ | refine LeO.bind ?_ (fun _ => ?_)

/-! ### spec_LeastFirst: function 20 -/
mutual
def spec_LeastFirst.j0 : Nat → List Int → Int → List Int → Bool → Option (Bool)
  | 0, _, _, _, _ => none
  | k + 1, x0, x1, x2, x19 => if x19 = true then (some false) else (if 0 ≤ x1 then (if x1 < (x0.length : Int) then (spec_LeastFirst.l0 k x1 x2 (rd x0 x1) x0 (x0.length : Int) 0) else (none)) else (none))
def spec_LeastFirst.l0 : Nat → Int → List Int → Int → List Int → Int → Int → Option (Bool)
  | 0, _, _, _, _, _, _ => none
  | k + 1, x1, x2, x7, x24, x25, x26 => if x26 < x25 then (if 0 ≤ x26 then (if x26 < (x24.length : Int) then (if (rd x24 x26) < x7 then (spec_LeastFirst.j2 k x1 x2 x7 x26 (rd x24 x26) x24 x25 x26 true) else (if (rd x24 x26) = x7 then (spec_LeastFirst.j2 k x1 x2 x7 x26 (rd x24 x26) x24 x25 x26 (decide (x26 < x1))) else (spec_LeastFirst.j2 k x1 x2 x7 x26 (rd x24 x26) x24 x25 x26 false))) else (none)) else (none)) else (some true)
def spec_LeastFirst.j2 : Nat → Int → List Int → Int → Int → Int → List Int → Int → Int → Bool → Option (Bool)
  | 0, _, _, _, _, _, _, _, _, _ => none
  | k + 1, x1, x2, x7, x8, x9, x24, x25, x26, x43 => if x43 = true then (some false) else (spec_LeastFirst.l1 k x1 x2 x7 x8 x9 (-1) 10 x24 x25 x26)
def spec_LeastFirst.l1 : Nat → Int → List Int → Int → Int → Int → Int → Int → List Int → Int → Int → Option (Bool)
  | 0, _, _, _, _, _, _, _, _, _, _ => none
  | k + 1, x1, x2, x7, x8, x9, x10, x11, x24, x25, x26 => if x11 ≥ 0 then (if 0 ≤ (IntKind.u64.wrap (x11)) then (if (Go.bits .and .i64 (shr .i64 x9 (IntKind.u64.wrap (x11))) 1) = (Go.bits .and .i64 (shr .i64 x7 (IntKind.u64.wrap (x11))) 1) then (spec_LeastFirst.l1 k x1 x2 x7 x8 x9 x10 (wrap64 (x11 - 1)) x24 x25 x26) else (if 0 ≤ x8 then (if x8 < (x2.length : Int) then (if (rd x2 x8) = (wrap64 (10 - x11)) then (spec_LeastFirst.l0 k x1 x2 x7 x24 x25 (wrap64 (x26 + 1))) else (some false)) else (none)) else (none))) else (none)) else (if 0 ≤ x8 then (if x8 < (x2.length : Int) then (if (rd x2 x8) = x10 then (spec_LeastFirst.l0 k x1 x2 x7 x24 x25 (wrap64 (x26 + 1))) else (some false)) else (none)) else (none))
end
def spec_LeastFirst.f (k : Nat) (l0 : List Int) (a1 : Int) (l2 : List Int) : Option (Bool) := if a1 < 0 then (spec_LeastFirst.j0 k l0 a1 l2 true) else (spec_LeastFirst.j0 k l0 a1 l2 (decide (a1 ≥ (l0.length : Int))))
theorem spec_LeastFirst.mono_l : ∀ k, (∀ y0 y1 y2 y3, LeO (spec_LeastFirst.j0 k y0 y1 y2 y3) (spec_LeastFirst.j0 (k + 1) y0 y1 y2 y3)) ∧ (∀ y0 y1 y2 y3 y4 y5, LeO (spec_LeastFirst.l0 k y0 y1 y2 y3 y4 y5) (spec_LeastFirst.l0 (k + 1) y0 y1 y2 y3 y4 y5)) ∧ (∀ y0 y1 y2 y3 y4 y5 y6 y7 y8, LeO (spec_LeastFirst.j2 k y0 y1 y2 y3 y4 y5 y6 y7 y8) (spec_LeastFirst.j2 (k + 1) y0 y1 y2 y3 y4 y5 y6 y7 y8)) ∧ (∀ y0 y1 y2 y3 y4 y5 y6 y7 y8 y9, LeO (spec_LeastFirst.l1 k y0 y1 y2 y3 y4 y5 y6 y7 y8 y9) (spec_LeastFirst.l1 (k + 1) y0 y1 y2 y3 y4 y5 y6 y7 y8 y9))
  | 0 => ⟨fun _ _ _ _ r h => by simp [spec_LeastFirst.j0] at h, fun _ _ _ _ _ _ r h => by simp [spec_LeastFirst.l0] at h, fun _ _ _ _ _ _ _ _ _ r h => by simp [spec_LeastFirst.j2] at h, fun _ _ _ _ _ _ _ _ _ _ r h => by simp [spec_LeastFirst.l1] at h⟩
  | k + 1 => by
    obtain ⟨ih0, ih1, ih2, ih3⟩ := spec_LeastFirst.mono_l k
    refine ⟨?_, ?_, ?_, ?_⟩
    · intro y0 y1 y2 y3
      unfold spec_LeastFirst.j0
      repeat' first | (with_reducible first | exact ih0 _ _ _ _ | exact ih1 _ _ _ _ _ _ | exact ih2 _ _ _ _ _ _ _ _ _ | exact ih3 _ _ _ _ _ _ _ _ _ _ | exact LeO.refl _ | exact LeO.none _ | refine LeO.ite ?_ ?_ | refine LeO.bind ?_ (fun _ => ?_)) | exact ih0 _ _ _ _ | exact ih1 _ _ _ _ _ _ | exact ih2 _ _ _ _ _ _ _ _ _ | exact ih3 _ _ _ _ _ _ _ _ _ _ | exact LeO.none _ | refine LeO.ite ?_ ?_ | refine LeO.bind ?_ (fun _ => ?_)
    · intro y0 y1 y2 y3 y4 y5
      unfold spec_LeastFirst.l0
      repeat' first | (with_reducible first | exact ih0 _ _ _ _ | exact ih1 _ _ _ _ _ _ | exact ih2 _ _ _ _ _ _ _ _ _ | exact ih3 _ _ _ _ _ _ _ _ _ _ | exact LeO.refl _ | exact LeO.none _ | refine LeO.ite ?_ ?_ | refine LeO.bind ?_ (fun _ => ?_)) | exact ih0 _ _ _ _ | exact ih1 _ _ _ _ _ _ | exact ih2 _ _ _ _ _ _ _ _ _ | exact ih3 _ _ _ _ _ _ _ _ _ _ | exact LeO.none _ | refine LeO.ite ?_ ?_ | refine LeO.bind ?_ (fun _ => ?_)
    · intro y0 y1 y2 y3 y4 y5 y6 y7 y8
      unfold spec_LeastFirst.j2
      repeat' first | (with_reducible first | exact ih0 _ _ _ _ | exact ih1 _ _ _ _ _ _ | exact ih2 _ _ _ _ _ _ _ _ _ | exact ih3 _ _ _ _ _ _ _ _ _ _ | exact LeO.refl _ | exact LeO.none _ | refine LeO.ite ?_ ?_ | refine LeO.bind ?_ (fun _ => ?_)) | exact ih0 _ _ _ _ | exact ih1 _ _ _ _ _ _ | exact ih2 _ _ _ _ _ _ _ _ _ | exact ih3 _ _ _ _ _ _ _ _ _ _ | exact LeO.none _ | refine LeO.ite ?_ ?_ | refine LeO.bind ?_ (fun _ => ?_)
    · intro y0 y1 y2 y3 y4 y5 y6 y7 y8 y9
      unfold spec_LeastFirst.l1
      repeat' first | (with_reducible first | exact ih0 _ _ _ _ | exact ih1 _ _ _ _ _ _ | exact ih2 _ _ _ _ _ _ _ _ _ | exact ih3 _ _ _ _ _ _ _ _ _ _ | exact LeO.refl _ | exact LeO.none _ | refine LeO.ite ?_ ?_ | refine LeO.bind ?_ (fun _ => ?_)) | exact ih0 _ _ _ _ | exact ih1 _ _ _ _ _ _ | exact ih2 _ _ _ _ _ _ _ _ _ | exact ih3 _ _ _ _ _ _ _ _ _ _ | exact LeO.none _ | refine LeO.ite ?_ ?_ | refine LeO.bind ?_ (fun _ => ?_)
theorem spec_LeastFirst.mono : ∀ a0 a1 a2 k, LeO (spec_LeastFirst.f k a0 a1 a2) (spec_LeastFirst.f (k + 1) a0 a1 a2) := by
  intro a0 a1 a2 k
  obtain ⟨ih0, ih1, ih2, ih3⟩ := spec_LeastFirst.mono_l k
  unfold spec_LeastFirst.f
  repeat' first | (with_reducible first | exact ih0 _ _ _ _ | exact ih1 _ _ _ _ _ _ | exact ih2 _ _ _ _ _ _ _ _ _ | exact ih3 _ _ _ _ _ _ _ _ _ _ | exact LeO.refl _ | exact LeO.none _ | refine LeO.ite ?_ ?_ | refine LeO.bind ?_ (fun _ => ?_)) | exact ih0 _ _ _ _ | exact ih1 _ _ _ _ _ _ | exact ih2 _ _ _ _ _ _ _ _ _ | exact ih3 _ _ _ _ _ _ _ _ _ _ | exact LeO.none _ | refine LeO.ite ?_ ?_ | refine LeO.bind ?_ (fun _ => ?_)

/-! ### laws_FnArbitrate: function 5 -/
def laws_FnArbitrate.f (k : Nat) (l0 : List Int) : Option (Bool) := if (l0.length : Int) > 1048576 then (some true) else ((spec_DrawArbitrate.f k l0).bind fun t183 => ((impl_Arbitrate.f k t183).bind fun bt186 => ((spec_Arbitrate.f k t183).bind fun bt191 => (if (bt186.2.2 != bt191.2.2) = true then (some false) else (if bt186.2.2 = true then (if (bt186.2.1.length : Int) = (t183.length : Int) then ((spec_LeastFirst.f k t183 bt186.1 bt186.2.1).bind fun t196 => (some t196)) else (some false)) else (some true))))))
theorem laws_FnArbitrate.mono : ∀ a0 k, LeO (laws_FnArbitrate.f k a0) (laws_FnArbitrate.f (k + 1) a0) := by
  intro a0 k
  unfold laws_FnArbitrate.f
  repeat' first | (with_reducible first | exact impl_Arbitrate.mono _ _ | exact spec_Arbitrate.mono _ _ | exact spec_DrawArbitrate.mono _ _ | exact spec_LeastFirst.mono _ _ _ _ | exact LeO.refl _ | exact LeO.none _ | refine LeO.ite ?_ ?_ | refine LeO.bind ?_ (fun _ => ?_)) | exact impl_Arbitrate.mono _ _ | exact spec_Arbitrate.mono _ _ | exact spec_DrawArbitrate.mono _ _ | exact spec_LeastFirst.mono _ _ _ _ | exact LeO.none _ | refine LeO.ite ?_ ?_ | refine LeO.bind ?_ (fun _ => ?_)

/-! ### laws_szByteS: function 27 -/
def laws_szByteS.f (l0 : List Int) (a1 : Int) : Option (Int) := if (wrap64 (a1 - (l0.length : Int))) < 0 then (some (-1)) else (some (wrap64 (a1 - (l0.length : Int))))

/-! ### laws_szFrame: function 8 -/
def laws_szFrame.f (a0_0 : Int) (l0_1 : List Int) (a1 : Int) : Option (Int) := (laws_szByteS.f l0_1 a1).bind fun t198 => (if t198 < 0 then (some (-1)) else (some t198))

/-! ### laws_toByteS: function 28 -/
def laws_toByteS.l0 : Nat → List Int → List Int → Int → Option (List Int)
  | 0, _, _, _ => none
  | k + 1, x0, x3, x4 => if x4 < (x0.length : Int) then (if 0 ≤ x4 then (if x4 < (x3.length : Int) then (laws_toByteS.l0 k x0 (x3.set (x4 : Int).toNat (rd x0 x4)) (wrap64 (x4 + 1))) else (none)) else (none)) else (some x3)
def laws_toByteS.f (k : Nat) (l0 : List Int) : Option (List Int) := if 0 ≤ (l0.length : Int) then (if ((l0.length : Int) : Int).toNat ≤ 281474976710656 then (laws_toByteS.l0 k l0 (List.replicate ((l0.length : Int) : Int).toNat 0) 0) else (none)) else (none)
theorem laws_toByteS.mono_l : ∀ k, (∀ y0 y1 y2, LeO (laws_toByteS.l0 k y0 y1 y2) (laws_toByteS.l0 (k + 1) y0 y1 y2))
  | 0 => fun _ _ _ r h => by simp [laws_toByteS.l0] at h
  | k + 1 => by
    have ih0 := laws_toByteS.mono_l k
    · intro y0 y1 y2
      unfold laws_toByteS.l0
      repeat' first | (with_reducible first | exact ih0 _ _ _ | exact LeO.refl _ | exact LeO.none _ | refine LeO.ite ?_ ?_ | refine LeO.bind ?_ (fun _ => ?_)) | exact ih0 _ _ _ | exact LeO.none _ | refine LeO.ite ?_ ?_ | refine LeO.bind ?_ (fun _ => ?_)
theorem laws_toByteS.mono : ∀ a0 k, LeO (laws_toByteS.f k a0) (laws_toByteS.f (k + 1) a0) := by
  intro a0 k
  have ih0 := laws_toByteS.mono_l k
  unfold laws_toByteS.f
  repeat' first | (with_reducible first | exact ih0 _ _ _ | exact LeO.refl _ | exact LeO.none _ | refine LeO.ite ?_ ?_ | refine LeO.bind ?_ (fun _ => ?_)) | exact ih0 _ _ _ | exact LeO.none _ | refine LeO.ite ?_ ?_ | refine LeO.bind ?_ (fun _ => ?_)

/-! ### laws_toFrame: function 10 -/
def laws_toFrame.f (k : Nat) (a0_0 : Int) (l0_1 : List Int) : Option (Int × List Int) := (laws_toByteS.f k l0_1).bind fun t207 => (some (a0_0, t207))
theorem laws_toFrame.mono : ∀ a0 a1 k, LeO (laws_toFrame.f k a0 a1) (laws_toFrame.f (k + 1) a0 a1) := by
  intro a0 a1 k
  unfold laws_toFrame.f
  repeat' first | (with_reducible first | exact laws_toByteS.mono _ _ | exact LeO.refl _ | exact LeO.none _ | refine LeO.ite ?_ ?_ | refine LeO.bind ?_ (fun _ => ?_)) | exact laws_toByteS.mono _ _ | exact LeO.none _ | refine LeO.ite ?_ ?_ | refine LeO.bind ?_ (fun _ => ?_)

/-! ### laws_eqByteS: function 30 -/
def laws_eqByteS.l0 : Nat → List Int → List Int → Int → Option (Bool)
  | 0, _, _, _ => none
  | k + 1, x0, x1, x5 => if x5 < (x0.length : Int) then (if 0 ≤ x5 then (if x5 < (x1.length : Int) then (if (rd x0 x5) = (rd x1 x5) then (laws_eqByteS.l0 k x0 x1 (wrap64 (x5 + 1))) else (some false)) else (none)) else (none)) else (some true)
def laws_eqByteS.f (k : Nat) (l0 : List Int) (l1 : List Int) : Option (Bool) := if (l0.length : Int) = (l1.length : Int) then (laws_eqByteS.l0 k l0 l1 0) else (some false)
theorem laws_eqByteS.mono_l : ∀ k, (∀ y0 y1 y2, LeO (laws_eqByteS.l0 k y0 y1 y2) (laws_eqByteS.l0 (k + 1) y0 y1 y2))
  | 0 => fun _ _ _ r h => by simp [laws_eqByteS.l0] at h
  | k + 1 => by
    have ih0 := laws_eqByteS.mono_l k
    · intro y0 y1 y2
      unfold laws_eqByteS.l0
      repeat' first | (with_reducible first | exact ih0 _ _ _ | exact LeO.refl _ | exact LeO.none _ | refine LeO.ite ?_ ?_ | refine LeO.bind ?_ (fun _ => ?_)) | exact ih0 _ _ _ | exact LeO.none _ | refine LeO.ite ?_ ?_ | refine LeO.bind ?_ (fun _ => ?_)
theorem laws_eqByteS.mono : ∀ a0 a1 k, LeO (laws_eqByteS.f k a0 a1) (laws_eqByteS.f (k + 1) a0 a1) := by
  intro a0 a1 k
  have ih0 := laws_eqByteS.mono_l k
  unfold laws_eqByteS.f
  repeat' first | (with_reducible first | exact ih0 _ _ _ | exact LeO.refl _ | exact LeO.none _ | refine LeO.ite ?_ ?_ | refine LeO.bind ?_ (fun _ => ?_)) | exact ih0 _ _ _ | exact LeO.none _ | refine LeO.ite ?_ ?_ | refine LeO.bind ?_ (fun _ => ?_)

/-! ### laws_eqFrame: function 12 -/
def laws_eqFrame.f (k : Nat) (a0_0 : Int) (l0_1 : List Int) (a1_0 : Int) (l1_1 : List Int) : Option (Bool) := if a0_0 = a1_0 then ((laws_eqByteS.f k l0_1 l1_1).bind fun t214 => (if t214 = true then (some true) else (some false))) else (some false)
theorem laws_eqFrame.mono : ∀ a0 a1 a2 a3 k, LeO (laws_eqFrame.f k a0 a1 a2 a3) (laws_eqFrame.f (k + 1) a0 a1 a2 a3) := by
  intro a0 a1 a2 a3 k
  unfold laws_eqFrame.f
  repeat' first | (with_reducible first | exact laws_eqByteS.mono _ _ _ | exact LeO.refl _ | exact LeO.none _ | refine LeO.ite ?_ ?_ | refine LeO.bind ?_ (fun _ => ?_)) | exact laws_eqByteS.mono _ _ _ | exact LeO.none _ | refine LeO.ite ?_ ?_ | refine LeO.bind ?_ (fun _ => ?_)

/-! ### spec_GoodFrame: function 9 -/
def spec_GoodFrame.f (a0_0 : Int) (l0_1 : List Int) : Option (Bool) := if a0_0 ≥ 0 then (if a0_0 ≤ 2047 then (some (decide ((l0_1.length : Int) ≤ 8))) else (some false)) else (some false)

/-! ### spec_l23Put: function 50 -/
def spec_l23Put.l0 : Nat → List Int → Int → Int → Option (List Int)
  | 0, _, _, _ => none
  | k + 1, x0, x1, x7 => if x7 ≥ 0 then (if 0 ≤ (IntKind.u64.wrap (x7)) then (if x0.length < 140737488355328 then (spec_l23Put.l0 k (x0 ++ [(wrap64 (48 + (Go.bits .and .i64 (shr .i64 x1 (IntKind.u64.wrap (x7))) 1))) % 256]) x1 (wrap64 (x7 - 1))) else (none)) else (none)) else (some x0)
def spec_l23Put.f (k : Nat) (l0 : List Int) (a1 : Int) (a2 : Int) : Option (List Int) := spec_l23Put.l0 k l0 a1 (wrap64 (a2 - 1))
theorem spec_l23Put.mono_l : ∀ k, (∀ y0 y1 y2, LeO (spec_l23Put.l0 k y0 y1 y2) (spec_l23Put.l0 (k + 1) y0 y1 y2))
  | 0 => fun _ _ _ r h => by simp [spec_l23Put.l0] at h
  | k + 1 => by
    have ih0 := spec_l23Put.mono_l k
    · intro y0 y1 y2
      unfold spec_l23Put.l0
      repeat' first | (with_reducible first | exact ih0 _ _ _ | exact LeO.refl _ | exact LeO.none _ | refine LeO.ite ?_ ?_ | refine LeO.bind ?_ (fun _ => ?_)) | exact ih0 _ _ _ | exact LeO.none _ | refine LeO.ite ?_ ?_ | refine LeO.bind ?_ (fun _ => ?_)
theorem spec_l23Put.mono : ∀ a0 a1 a2 k, LeO (spec_l23Put.f k a0 a1 a2) (spec_l23Put.f (k + 1) a0 a1 a2) := by
  intro a0 a1 a2 k
  have ih0 := spec_l23Put.mono_l k
  unfold spec_l23Put.f
  repeat' first | (with_reducible first | exact ih0 _ _ _ | exact LeO.refl _ | exact LeO.none _ | refine LeO.ite ?_ ?_ | refine LeO.bind ?_ (fun _ => ?_)) | exact ih0 _ _ _ | exact LeO.none _ | refine LeO.ite ?_ ?_ | refine LeO.bind ?_ (fun _ => ?_)

/-! ### spec_l23Crc: function 51 -/
def spec_l23Crc.l0 : Nat → ByteArray → Int → Int → Option (Int)
  | 0, _, _, _ => none
  | k + 1, x0, x3, x4 => if x4 < (x0.size : Int) then (if 0 ≤ x4 then (if (Go.bits .xor .i64 (Go.bits .and .i64 (x3 / 16384) 1) (((bt x0 x4) - 48) % 256)) = 1 then (spec_l23Crc.l0 k x0 (Go.bits .xor .i64 (Go.bits .and .i64 (wrap64 (x3 * 2)) 32767) 17817) (wrap64 (x4 + 1))) else (spec_l23Crc.l0 k x0 (Go.bits .and .i64 (wrap64 (x3 * 2)) 32767) (wrap64 (x4 + 1)))) else (none)) else (some x3)
def spec_l23Crc.f (k : Nat) (a0 : ByteArray) : Option (Int) := spec_l23Crc.l0 k a0 0 0
theorem spec_l23Crc.mono_l : ∀ k, (∀ y0 y1 y2, LeO (spec_l23Crc.l0 k y0 y1 y2) (spec_l23Crc.l0 (k + 1) y0 y1 y2))
  | 0 => fun _ _ _ r h => by simp [spec_l23Crc.l0] at h
  | k + 1 => by
    have ih0 := spec_l23Crc.mono_l k
    · intro y0 y1 y2
      unfold spec_l23Crc.l0
      repeat' first | (with_reducible first | exact ih0 _ _ _ | exact LeO.refl _ | exact LeO.none _ | refine LeO.ite ?_ ?_ | refine LeO.bind ?_ (fun _ => ?_)) | exact ih0 _ _ _ | exact LeO.none _ | refine LeO.ite ?_ ?_ | refine LeO.bind ?_ (fun _ => ?_)
theorem spec_l23Crc.mono : ∀ a0 k, LeO (spec_l23Crc.f k a0) (spec_l23Crc.f (k + 1) a0) := by
  intro a0 k
  have ih0 := spec_l23Crc.mono_l k
  unfold spec_l23Crc.f
  repeat' first | (with_reducible first | exact ih0 _ _ _ | exact LeO.refl _ | exact LeO.none _ | refine LeO.ite ?_ ?_ | refine LeO.bind ?_ (fun _ => ?_)) | exact ih0 _ _ _ | exact LeO.none _ | refine LeO.ite ?_ ?_ | refine LeO.bind ?_ (fun _ => ?_)

/-! ### spec_l23Body: function 36 -/
def spec_l23Body.l0 : Nat → List Int → List Int → Int → Int → Option (ByteArray)
  | 0, _, _, _, _ => none
  | k + 1, x3, x17, x18, x19 => if x19 < x18 then (if 0 ≤ x19 then (if x19 < (x17.length : Int) then ((spec_l23Put.f k x3 (wrap64 (rd x17 x19)) 8).bind fun t230 => (spec_l23Body.l0 k t230 x17 x18 (wrap64 (x19 + 1)))) else (none)) else (none)) else ((spec_l23Crc.f k (strOfNums x3)).bind fun t233 => ((spec_l23Put.f k x3 t233 15).bind fun t234 => (some (strOfNums t234))))
def spec_l23Body.f (k : Nat) (a0_0 : Int) (l0_1 : List Int) : Option (ByteArray) := (spec_l23Put.f k (([48] : List Int)) a0_0 11).bind fun t223 => ((spec_l23Put.f k t223 (l0_1.length : Int) 4).bind fun t226 => (spec_l23Body.l0 k t226 l0_1 (l0_1.length : Int) 0))
theorem spec_l23Body.mono_l : ∀ k, (∀ y0 y1 y2 y3, LeO (spec_l23Body.l0 k y0 y1 y2 y3) (spec_l23Body.l0 (k + 1) y0 y1 y2 y3))
  | 0 => fun _ _ _ _ r h => by simp [spec_l23Body.l0] at h
  | k + 1 => by
    have ih0 := spec_l23Body.mono_l k
    · intro y0 y1 y2 y3
      unfold spec_l23Body.l0
      repeat' first | (with_reducible first | exact ih0 _ _ _ _ | exact spec_l23Crc.mono _ _ | exact spec_l23Put.mono _ _ _ _ | exact LeO.refl _ | exact LeO.none _ | refine LeO.ite ?_ ?_ | refine LeO.bind ?_ (fun _ => ?_)) | exact ih0 _ _ _ _ | exact spec_l23Crc.mono _ _ | exact spec_l23Put.mono _ _ _ _ | exact LeO.none _ | refine LeO.ite ?_ ?_ | refine LeO.bind ?_ (fun _ => ?_)
theorem spec_l23Body.mono : ∀ a0 a1 k, LeO (spec_l23Body.f k a0 a1) (spec_l23Body.f (k + 1) a0 a1) := by
  intro a0 a1 k
  have ih0 := spec_l23Body.mono_l k
  unfold spec_l23Body.f
  repeat' first | (with_reducible first | exact ih0 _ _ _ _ | exact spec_l23Crc.mono _ _ | exact spec_l23Put.mono _ _ _ _ | exact LeO.refl _ | exact LeO.none _ | refine LeO.ite ?_ ?_ | refine LeO.bind ?_ (fun _ => ?_)) | exact ih0 _ _ _ _ | exact spec_l23Crc.mono _ _ | exact spec_l23Put.mono _ _ _ _ | exact LeO.none _ | refine LeO.ite ?_ ?_ | refine LeO.bind ?_ (fun _ => ?_)

/-! ### impl_GoodFrame: function 11 -/
def impl_GoodFrame.f (a0_0 : Int) (l0_1 : List Int) : Option (Bool) := (impl_between.f a0_0 0 2047).bind fun t241 => (if t241 = true then (some (decide ((l0_1.length : Int) ≤ 8))) else (some false))

/-! ### impl_binary: function 37 -/
def impl_binary.l0 : Nat → Int → Int → List Int → Int → Int → Option (ByteArray)
  | 0, _, _, _, _, _ => none
  | k + 1, x0, x1, x5, x10, x11 => if x11 < x10 then (if 0 ≤ (wrap64 ((wrap64 (x1 - 1)) - x11)) then (if 0 ≤ x11 then (if x11 < (x5.length : Int) then (impl_binary.l0 k x0 x1 (x5.set (x11 : Int).toNat ((wrap64 (48 + (Go.bits .and .i64 (shr .i64 x0 (wrap64 ((wrap64 (x1 - 1)) - x11))) 1))) % 256)) x10 (wrap64 (x11 + 1))) else (none)) else (none)) else (none)) else (some (strOfNums x5))
def impl_binary.f (k : Nat) (a0 : Int) (a1 : Int) : Option (ByteArray) := if 0 ≤ a1 then (if (a1 : Int).toNat ≤ 281474976710656 then ((some (List.replicate (a1 : Int).toNat 0 : List Int)).bind fun y242 => (impl_binary.l0 k a0 a1 y242 (y242.length : Int) 0)) else (none)) else (none)
theorem impl_binary.mono_l : ∀ k, (∀ y0 y1 y2 y3 y4, LeO (impl_binary.l0 k y0 y1 y2 y3 y4) (impl_binary.l0 (k + 1) y0 y1 y2 y3 y4))
  | 0 => fun _ _ _ _ _ r h => by simp [impl_binary.l0] at h
  | k + 1 => by
    have ih0 := impl_binary.mono_l k
    · intro y0 y1 y2 y3 y4
      unfold impl_binary.l0
      repeat' first | (with_reducible first | exact ih0 _ _ _ _ _ | exact LeO.refl _ | exact LeO.none _ | refine LeO.ite ?_ ?_ | refine LeO.bind ?_ (fun _ => ?_)) | exact ih0 _ _ _ _ _ | exact LeO.none _ | refine LeO.ite ?_ ?_ | refine LeO.bind ?_ (fun _ => ?_)
theorem impl_binary.mono : ∀ a0 a1 k, LeO (impl_binary.f k a0 a1) (impl_binary.f (k + 1) a0 a1) := by
  intro a0 a1 k
  have ih0 := impl_binary.mono_l k
  unfold impl_binary.f
  repeat' first | (with_reducible first | exact ih0 _ _ _ _ _ | exact LeO.refl _ | exact LeO.none _ | refine LeO.ite ?_ ?_ | refine LeO.bind ?_ (fun _ => ?_)) | exact ih0 _ _ _ _ _ | exact LeO.none _ | refine LeO.ite ?_ ?_ | refine LeO.bind ?_ (fun _ => ?_)

/-! ### impl_crc15: function 39 -/
def impl_crc15.l0 : Nat → ByteArray → Int → Int → Int → Option (Int)
  | 0, _, _, _, _ => none
  | k + 1, x0, x3, x7, x8 => if x8 < x7 then (if 0 ≤ x8 then (if x8 < (x0.size : Int) then (if (Go.bits .xor .i64 (x3 / 16384) (((bt x0 x8) - 48) % 256)) = 1 then (impl_crc15.l0 k x0 (Go.bits .xor .i64 (Go.bits .and .i64 (wrap64 (x3 * 2)) 32767) 17817) x7 (wrap64 (x8 + 1))) else (impl_crc15.l0 k x0 (Go.bits .and .i64 (wrap64 (x3 * 2)) 32767) x7 (wrap64 (x8 + 1)))) else (none)) else (none)) else (some x3)
def impl_crc15.f (k : Nat) (a0 : ByteArray) : Option (Int) := impl_crc15.l0 k a0 0 (a0.size : Int) 0
theorem impl_crc15.mono_l : ∀ k, (∀ y0 y1 y2 y3, LeO (impl_crc15.l0 k y0 y1 y2 y3) (impl_crc15.l0 (k + 1) y0 y1 y2 y3))
  | 0 => fun _ _ _ _ r h => by simp [impl_crc15.l0] at h
  | k + 1 => by
    have ih0 := impl_crc15.mono_l k
    · intro y0 y1 y2 y3
      unfold impl_crc15.l0
      repeat' first | (with_reducible first | exact ih0 _ _ _ _ | exact LeO.refl _ | exact LeO.none _ | refine LeO.ite ?_ ?_ | refine LeO.bind ?_ (fun _ => ?_)) | exact ih0 _ _ _ _ | exact LeO.none _ | refine LeO.ite ?_ ?_ | refine LeO.bind ?_ (fun _ => ?_)
theorem impl_crc15.mono : ∀ a0 k, LeO (impl_crc15.f k a0) (impl_crc15.f (k + 1) a0) := by
  intro a0 k
  have ih0 := impl_crc15.mono_l k
  unfold impl_crc15.f
  repeat' first | (with_reducible first | exact ih0 _ _ _ _ | exact LeO.refl _ | exact LeO.none _ | refine LeO.ite ?_ ?_ | refine LeO.bind ?_ (fun _ => ?_)) | exact ih0 _ _ _ _ | exact LeO.none _ | refine LeO.ite ?_ ?_ | refine LeO.bind ?_ (fun _ => ?_)

/-! ### spec_l1Cur_bytes: function 40 -/
def spec_l1Cur_bytes.l0 : Nat → List Int → Int → List Int → Int → Int → Option (List Int × Int × Int)
  | 0, _, _, _, _, _ => none
  | k + 1, x5, x6, x1000, x1001, x1002 => if x6 > 0 then ((spec_l1Cur_next.f x1000 x1001 x1002).bind fun bt263 => (if x5.length < 140737488355328 then (spec_l1Cur_bytes.l0 k (x5 ++ [(bt263.1) % 256]) (wrap64 (x6 - 1)) x1000 bt263.2.1 bt263.2.2) else (none))) else (some (x5, x1001, x1002))
def spec_l1Cur_bytes.f (k : Nat) (s0_0 : List Int) (s0_1 : Int) (s0_2 : Int) (a1 : Int) : Option (List Int × Int × Int) := (spec_l1Cur_pick.f s0_0 s0_1 s0_2 (wrap64 (a1 + 1))).bind fun bt260 => (spec_l1Cur_bytes.l0 k ([] : List Int) bt260.1 s0_0 bt260.2.1 bt260.2.2)
theorem spec_l1Cur_bytes.mono_l : ∀ k, (∀ y0 y1 y2 y3 y4, LeO (spec_l1Cur_bytes.l0 k y0 y1 y2 y3 y4) (spec_l1Cur_bytes.l0 (k + 1) y0 y1 y2 y3 y4))
  | 0 => fun _ _ _ _ _ r h => by simp [spec_l1Cur_bytes.l0] at h
  | k + 1 => by
    have ih0 := spec_l1Cur_bytes.mono_l k
    · intro y0 y1 y2 y3 y4
      unfold spec_l1Cur_bytes.l0
      repeat' first | (with_reducible first | exact ih0 _ _ _ _ _ | exact LeO.refl _ | exact LeO.none _ | refine LeO.ite ?_ ?_ | refine LeO.bind ?_ (fun _ => ?_)) | exact ih0 _ _ _ _ _ | exact LeO.none _ | refine LeO.ite ?_ ?_ | refine LeO.bind ?_ (fun _ => ?_)
theorem spec_l1Cur_bytes.mono : ∀ a0 a1 a2 a3 k, LeO (spec_l1Cur_bytes.f k a0 a1 a2 a3) (spec_l1Cur_bytes.f (k + 1) a0 a1 a2 a3) := by
  intro a0 a1 a2 a3 k
  have ih0 := spec_l1Cur_bytes.mono_l k
  unfold spec_l1Cur_bytes.f
  repeat' first | (with_reducible first | exact ih0 _ _ _ _ _ | exact LeO.refl _ | exact LeO.none _ | refine LeO.ite ?_ ?_ | refine LeO.bind ?_ (fun _ => ?_)) | exact ih0 _ _ _ _ _ | exact LeO.none _ | refine LeO.ite ?_ ?_ | refine LeO.bind ?_ (fun _ => ?_)

/-! ### spec_l1Cur_frame: function 41 -/
def spec_l1Cur_frame.f (k : Nat) (s0_0 : List Int) (s0_1 : Int) (s0_2 : Int) : Option (Int × List Int × Int × Int) := (spec_l1Cur_pick.f s0_0 s0_1 s0_2 40).bind fun bt270 => ((spec_l1Cur_bytes.f k s0_0 bt270.2.1 bt270.2.2 4).bind fun bt273 => ((spec_l1Cur_pick.f s0_0 bt273.2.1 bt273.2.2 12).bind fun bt279 => (if bt279.1 = 0 then ((spec_l1Cur_among.f s0_0 bt279.2.1 bt279.2.2 (([(-1), 0, 2047, 2048] : List Int))).bind fun bt285 => (some (bt285.1, bt273.1, bt285.2.1, bt285.2.2))) else (if bt279.1 = 1 then ((spec_l1Cur_bytes.f k s0_0 bt279.2.1 bt279.2.2 9).bind fun bt288 => (some (bt270.1, bt288.1, bt288.2.1, bt288.2.2))) else (if bt279.1 = 2 then ((spec_l1Cur_pick.f s0_0 bt279.2.1 bt279.2.2 2048).bind fun bt293 => (some (bt293.1, bt273.1, bt293.2.1, bt293.2.2))) else (if bt279.1 = 3 then ((spec_l1Cur_pick.f s0_0 bt279.2.1 bt279.2.2 9).bind fun bt296 => (if 0 ≤ bt296.1 then (if (bt296.1 : Int).toNat ≤ 281474976710656 then (some (bt270.1, (List.replicate (bt296.1 : Int).toNat 0), bt296.2.1, bt296.2.2)) else (none)) else (none))) else (some (bt270.1, bt273.1, bt279.2.1, bt279.2.2))))))))
theorem spec_l1Cur_frame.mono : ∀ a0 a1 a2 k, LeO (spec_l1Cur_frame.f k a0 a1 a2) (spec_l1Cur_frame.f (k + 1) a0 a1 a2) := by
  intro a0 a1 a2 k
  unfold spec_l1Cur_frame.f
  repeat' first | (with_reducible first | exact spec_l1Cur_bytes.mono _ _ _ _ _ | exact LeO.refl _ | exact LeO.none _ | refine LeO.ite ?_ ?_ | refine LeO.bind ?_ (fun _ => ?_)) | exact spec_l1Cur_bytes.mono _ _ _ _ _ | exact LeO.none _ | refine LeO.ite ?_ ?_ | refine LeO.bind ?_ (fun _ => ?_)

/-! ### spec_DrawRunBus: function 23 -/
mutual
def spec_DrawRunBus.j0 : Nat → List (S66) → Int → List Int → Int → Int → Option ((List (S66)) × Int × Int × List Int)
  | 0, _, _, _, _, _ => none
  | k + 1, x7, x8, x303000, x303001, x303002 => spec_DrawRunBus.l0 k x7 x8 x303000 x303001 x303002
def spec_DrawRunBus.l0 : Nat → List (S66) → Int → List Int → Int → Int → Option ((List (S66)) × Int × Int × List Int)
  | 0, _, _, _, _, _ => none
  | k + 1, x7, x8, x303000, x303001, x303002 => if x8 > 0 then ((spec_l1Cur_pick.f x303000 x303001 x303002 3).bind fun bt312 => ((spec_l1Cur_pick.f x303000 bt312.2.1 bt312.2.2 20).bind fun bt315 => ((spec_l1Cur_pick.f x303000 bt315.2.1 bt315.2.2 5).bind fun bt319 => (spec_DrawRunBus.l1 k x7 x8 bt319.1 x303000 bt319.2.1 bt319.2.2 ([] : List (S27)) (wrap64 (1 + bt312.1)) bt315.1 false)))) else ((spec_l1Cur_pick.f x303000 x303001 x303002 16).bind fun bt379 => ((spec_l1Cur_one.f x303000 bt379.2.1 bt379.2.2 16).bind fun bt382 => (if bt382.1 = true then ((spec_l1Cur_among.f x303000 bt382.2.1 bt382.2.2 (([(-1), 40, 41] : List Int))).bind fun bt388 => (spec_DrawRunBus.j3 k x7 bt388.1 x303000 bt388.2.1 bt388.2.2)) else (spec_DrawRunBus.j3 k x7 bt379.1 x303000 bt382.2.1 bt382.2.2))))
def spec_DrawRunBus.l1 : Nat → List (S66) → Int → Int → List Int → Int → Int → List (S27) → Int → Int → Bool → Option ((List (S66)) × Int × Int × List Int)
  | 0, _, _, _, _, _, _, _, _, _, _ => none
  | k + 1, x7, x8, x10, x303000, x303001, x303002, x319000, x319001, x319002, x319003 => if x10 > 0 then ((spec_l1Cur_pick.f x303000 x303001 x303002 9).bind fun bt322 => ((spec_l1Cur_bytes.f k x303000 bt322.2.1 bt322.2.2 2).bind fun bt325 => ((spec_l1Cur_one.f x303000 bt325.2.1 bt325.2.2 60).bind fun bt331 => (if bt331.1 = true then ((spec_l1Cur_frame.f k x303000 bt331.2.1 bt331.2.2).bind fun bt334 => (if x319000.length < 4398046511104 then (spec_DrawRunBus.l1 k x7 x8 (wrap64 (x10 - 1)) x303000 bt334.2.2.1 bt334.2.2.2 (x319000 ++ [(⟨bt334.1, bt334.2.1⟩ : S27)]) x319001 x319002 x319003) else (none))) else (if x319000.length < 4398046511104 then (spec_DrawRunBus.l1 k x7 x8 (wrap64 (x10 - 1)) x303000 bt331.2.1 bt331.2.2 (x319000 ++ [(⟨bt322.1, bt325.1⟩ : S27)]) x319001 x319002 x319003) else (none)))))) else ((spec_l1Cur_pick.f x303000 x303001 x303002 12).bind fun bt346 => (if bt346.1 = 0 then ((spec_l1Cur_pick.f x303000 bt346.2.1 bt346.2.2 15).bind fun bt349 => ((spec_l1Cur_one.f x303000 bt349.2.1 bt349.2.2 60).bind fun bt352 => (if bt352.1 = true then (if x7.length < 2932031007402 then (spec_DrawRunBus.l0 k (x7 ++ [(⟨x319000, x319001, wrap64 (240 + bt349.1), !x319003⟩ : S66)]) (wrap64 (x8 - 1)) x303000 bt352.2.1 bt352.2.2) else (none)) else (if x7.length < 2932031007402 then (spec_DrawRunBus.l0 k (x7 ++ [(⟨x319000, x319001, wrap64 (240 + bt349.1), x319003⟩ : S66)]) (wrap64 (x8 - 1)) x303000 bt352.2.1 bt352.2.2) else (none))))) else (if bt346.1 = 1 then ((spec_l1Cur_one.f x303000 bt346.2.1 bt346.2.2 60).bind fun bt361 => (if bt361.1 = true then (if x7.length < 2932031007402 then (spec_DrawRunBus.l0 k (x7 ++ [(⟨x319000, x319001, 255, !true⟩ : S66)]) (wrap64 (x8 - 1)) x303000 bt361.2.1 bt361.2.2) else (none)) else (if x7.length < 2932031007402 then (spec_DrawRunBus.l0 k (x7 ++ [(⟨x319000, x319001, 255, true⟩ : S66)]) (wrap64 (x8 - 1)) x303000 bt361.2.1 bt361.2.2) else (none)))) else ((spec_l1Cur_one.f x303000 bt346.2.1 bt346.2.2 60).bind fun bt370 => (if bt370.1 = true then (if x7.length < 2932031007402 then (spec_DrawRunBus.l0 k (x7 ++ [(⟨x319000, x319001, x319002, !x319003⟩ : S66)]) (wrap64 (x8 - 1)) x303000 bt370.2.1 bt370.2.2) else (none)) else (if x7.length < 2932031007402 then (spec_DrawRunBus.l0 k (x7 ++ [(⟨x319000, x319001, x319002, x319003⟩ : S66)]) (wrap64 (x8 - 1)) x303000 bt370.2.1 bt370.2.2) else (none)))))))
def spec_DrawRunBus.j3 : Nat → List (S66) → Int → List Int → Int → Int → Option ((List (S66)) × Int × Int × List Int)
  | 0, _, _, _, _, _ => none
  | k + 1, x7, x12, x303000, x303001, x303002 => (spec_l1Cur_pick.f x303000 x303001 x303002 6).bind fun bt391 => (spec_DrawRunBus.l2 k x7 x12 ([] : List Int) bt391.1 x303000 bt391.2.1 bt391.2.2)
def spec_DrawRunBus.l2 : Nat → List (S66) → Int → List Int → Int → List Int → Int → Int → Option ((List (S66)) × Int × Int × List Int)
  | 0, _, _, _, _, _, _, _ => none
  | k + 1, x7, x12, x13, x14, x303000, x303001, x303002 => if x14 > 0 then ((spec_l1Cur_pick.f x303000 x303001 x303002 16).bind fun bt394 => (if x13.length < 17592186044416 then (spec_DrawRunBus.l2 k x7 x12 (x13 ++ [bt394.1]) (wrap64 (x14 - 1)) x303000 bt394.2.1 bt394.2.2) else (none))) else ((spec_l1Cur_pick.f x303000 x303001 x303002 8).bind fun bt400 => (some (x7, x12, wrap64 (1 + bt400.1), x13)))
end
def spec_DrawRunBus.f (k : Nat) (l0 : List Int) : Option ((List (S66)) × Int × Int × List Int) := (spec_l1Cur_pick.f l0 0 0 4).bind fun bt303 => ((spec_l1Cur_one.f l0 bt303.2.1 bt303.2.2 16).bind fun bt306 => (if bt306.1 = true then ((spec_l1Cur_pick.f l0 bt306.2.1 bt306.2.2 3).bind fun bt309 => (spec_DrawRunBus.j0 k ([] : List (S66)) (wrap64 (5 + bt309.1)) l0 bt309.2.1 bt309.2.2)) else (spec_DrawRunBus.j0 k ([] : List (S66)) bt303.1 l0 bt306.2.1 bt306.2.2)))
theorem spec_DrawRunBus.mono_l : ∀ k, (∀ y0 y1 y2 y3 y4, LeO (spec_DrawRunBus.j0 k y0 y1 y2 y3 y4) (spec_DrawRunBus.j0 (k + 1) y0 y1 y2 y3 y4)) ∧ (∀ y0 y1 y2 y3 y4, LeO (spec_DrawRunBus.l0 k y0 y1 y2 y3 y4) (spec_DrawRunBus.l0 (k + 1) y0 y1 y2 y3 y4)) ∧ (∀ y0 y1 y2 y3 y4 y5 y6 y7 y8 y9, LeO (spec_DrawRunBus.l1 k y0 y1 y2 y3 y4 y5 y6 y7 y8 y9) (spec_DrawRunBus.l1 (k + 1) y0 y1 y2 y3 y4 y5 y6 y7 y8 y9)) ∧ (∀ y0 y1 y2 y3 y4, LeO (spec_DrawRunBus.j3 k y0 y1 y2 y3 y4) (spec_DrawRunBus.j3 (k + 1) y0 y1 y2 y3 y4)) ∧ (∀ y0 y1 y2 y3 y4 y5 y6, LeO (spec_DrawRunBus.l2 k y0 y1 y2 y3 y4 y5 y6) (spec_DrawRunBus.l2 (k + 1) y0 y1 y2 y3 y4 y5 y6))
  | 0 => ⟨fun _ _ _ _ _ r h => by simp [spec_DrawRunBus.j0] at h, fun _ _ _ _ _ r h => by simp [spec_DrawRunBus.l0] at h, fun _ _ _ _ _ _ _ _ _ _ r h => by simp [spec_DrawRunBus.l1] at h, fun _ _ _ _ _ r h => by simp [spec_DrawRunBus.j3] at h, fun _ _ _ _ _ _ _ r h => by simp [spec_DrawRunBus.l2] at h⟩
  | k + 1 => by
    obtain ⟨ih0, ih1, ih2, ih3, ih4⟩ := spec_DrawRunBus.mono_l k
    refine ⟨?_, ?_, ?_, ?_, ?_⟩
    · intro y0 y1 y2 y3 y4
      unfold spec_DrawRunBus.j0
      repeat' first | (with_reducible first | exact ih0 _ _ _ _ _ | exact ih1 _ _ _ _ _ | exact ih2 _ _ _ _ _ _ _ _ _ _ | exact ih3 _ _ _ _ _ | exact ih4 _ _ _ _ _ _ _ | exact spec_l1Cur_bytes.mono _ _ _ _ _ | exact spec_l1Cur_frame.mono _ _ _ _ | exact LeO.refl _ | exact LeO.none _ | refine LeO.ite ?_ ?_ | refine LeO.bind ?_ (fun _ => ?_)) | exact ih0 _ _ _ _ _ | exact ih1 _ _ _ _ _ | exact ih2 _ _ _ _ _ _ _ _ _ _ | exact ih3 _ _ _ _ _ | exact ih4 _ _ _ _ _ _ _ | exact spec_l1Cur_bytes.mono _ _ _ _ _ | exact spec_l1Cur_frame.mono _ _ _ _ | exact LeO.none _ | refine LeO.ite ?_ ?_ | refine LeO.bind ?_ (fun _ => ?_)
    · intro y0 y1 y2 y3 y4
      unfold spec_DrawRunBus.l0
      repeat' first | (with_reducible first | exact ih0 _ _ _ _ _ | exact ih1 _ _ _ _ _ | exact ih2 _ _ _ _ _ _ _ _ _ _ | exact ih3 _ _ _ _ _ | exact ih4 _ _ _ _ _ _ _ | exact spec_l1Cur_bytes.mono _ _ _ _ _ | exact spec_l1Cur_frame.mono _ _ _ _ | exact LeO.refl _ | exact LeO.none _ | refine LeO.ite ?_ ?_ | refine LeO.bind ?_ (fun _ => ?_)) | exact ih0 _ _ _ _ _ | exact ih1 _ _ _ _ _ | exact ih2 _ _ _ _ _ _ _ _ _ _ | exact ih3 _ _ _ _ _ | exact ih4 _ _ _ _ _ _ _ | exact spec_l1Cur_bytes.mono _ _ _ _ _ | exact spec_l1Cur_frame.mono _ _ _ _ | exact LeO.none _ | refine LeO.ite ?_ ?_ | refine LeO.bind ?_ (fun _ => ?_)
    · intro y0 y1 y2 y3 y4 y5 y6 y7 y8 y9
      unfold spec_DrawRunBus.l1
      repeat' first | (with_reducible first | exact ih0 _ _ _ _ _ | exact ih1 _ _ _ _ _ | exact ih2 _ _ _ _ _ _ _ _ _ _ | exact ih3 _ _ _ _ _ | exact ih4 _ _ _ _ _ _ _ | exact spec_l1Cur_bytes.mono _ _ _ _ _ | exact spec_l1Cur_frame.mono _ _ _ _ | exact LeO.refl _ | exact LeO.none _ | refine LeO.ite ?_ ?_ | refine LeO.bind ?_ (fun _ => ?_)) | exact ih0 _ _ _ _ _ | exact ih1 _ _ _ _ _ | exact ih2 _ _ _ _ _ _ _ _ _ _ | exact ih3 _ _ _ _ _ | exact ih4 _ _ _ _ _ _ _ | exact spec_l1Cur_bytes.mono _ _ _ _ _ | exact spec_l1Cur_frame.mono _ _ _ _ | exact LeO.none _ | refine LeO.ite ?_ ?_ | refine LeO.bind ?_ (fun _ => ?_)
    · intro y0 y1 y2 y3 y4
      unfold spec_DrawRunBus.j3
      repeat' first | (with_reducible first | exact ih0 _ _ _ _ _ | exact ih1 _ _ _ _ _ | exact ih2 _ _ _ _ _ _ _ _ _ _ | exact ih3 _ _ _ _ _ | exact ih4 _ _ _ _ _ _ _ | exact spec_l1Cur_bytes.mono _ _ _ _ _ | exact spec_l1Cur_frame.mono _ _ _ _ | exact LeO.refl _ | exact LeO.none _ | refine LeO.ite ?_ ?_ | refine LeO.bind ?_ (fun _ => ?_)) | exact ih0 _ _ _ _ _ | exact ih1 _ _ _ _ _ | exact ih2 _ _ _ _ _ _ _ _ _ _ | exact ih3 _ _ _ _ _ | exact ih4 _ _ _ _ _ _ _ | exact spec_l1Cur_bytes.mono _ _ _ _ _ | exact spec_l1Cur_frame.mono _ _ _ _ | exact LeO.none _ | refine LeO.ite ?_ ?_ | refine LeO.bind ?_ (fun _ => ?_)
    · intro y0 y1 y2 y3 y4 y5 y6
      unfold spec_DrawRunBus.l2
      repeat' first | (with_reducible first | exact ih0 _ _ _ _ _ | exact ih1 _ _ _ _ _ | exact ih2 _ _ _ _ _ _ _ _ _ _ | exact ih3 _ _ _ _ _ | exact ih4 _ _ _ _ _ _ _ | exact spec_l1Cur_bytes.mono _ _ _ _ _ | exact spec_l1Cur_frame.mono _ _ _ _ | exact LeO.refl _ | exact LeO.none _ | refine LeO.ite ?_ ?_ | refine LeO.bind ?_ (fun _ => ?_)) | exact ih0 _ _ _ _ _ | exact ih1 _ _ _ _ _ | exact ih2 _ _ _ _ _ _ _ _ _ _ | exact ih3 _ _ _ _ _ | exact ih4 _ _ _ _ _ _ _ | exact spec_l1Cur_bytes.mono _ _ _ _ _ | exact spec_l1Cur_frame.mono _ _ _ _ | exact LeO.none _ | refine LeO.ite ?_ ?_ | refine LeO.bind ?_ (fun _ => ?_)
theorem spec_DrawRunBus.mono : ∀ a0 k, LeO (spec_DrawRunBus.f k a0) (spec_DrawRunBus.f (k + 1) a0) := by
  intro a0 k
  obtain ⟨ih0, ih1, ih2, ih3, ih4⟩ := spec_DrawRunBus.mono_l k
  unfold spec_DrawRunBus.f
  repeat' first | (with_reducible first | exact ih0 _ _ _ _ _ | exact ih1 _ _ _ _ _ | exact ih2 _ _ _ _ _ _ _ _ _ _ | exact ih3 _ _ _ _ _ | exact ih4 _ _ _ _ _ _ _ | exact spec_l1Cur_bytes.mono _ _ _ _ _ | exact spec_l1Cur_frame.mono _ _ _ _ | exact LeO.refl _ | exact LeO.none _ | refine LeO.ite ?_ ?_ | refine LeO.bind ?_ (fun _ => ?_)) | exact ih0 _ _ _ _ _ | exact ih1 _ _ _ _ _ | exact ih2 _ _ _ _ _ _ _ _ _ _ | exact ih3 _ _ _ _ _ | exact ih4 _ _ _ _ _ _ _ | exact spec_l1Cur_bytes.mono _ _ _ _ _ | exact spec_l1Cur_frame.mono _ _ _ _ | exact LeO.none _ | refine LeO.ite ?_ ?_ | refine LeO.bind ?_ (fun _ => ?_)

/-! ### impl_goodTalker: function 42 -/
def impl_goodTalker.l0 : Nat → List (S27) → Int → Int → List (S27) → Int → Int → Bool → Option (Bool)
  | 0, _, _, _, _, _, _, _ => none
  | k + 1, x6, x7, x8, x404000, x404001, x404002, x404003 => if x8 < x7 then (if 0 ≤ x8 then (if x8 < (x6.length : Int) then ((impl_GoodFrame.f ((rd_T27 x6 x8).f0) ((rd_T27 x6 x8).f1)).bind fun t406 => (if t406 = true then (impl_goodTalker.l0 k x6 x7 (wrap64 (x8 + 1)) x404000 x404001 x404002 x404003) else (some false))) else (none)) else (none)) else (if (x404000.length : Int) ≤ 8 then ((impl_between.f x404001 1 10).bind fun t407 => (if t407 = true then ((impl_between.f x404002 0 255).bind fun t408 => (if t408 = true then (some (x404003 == (x404002 == 255))) else (some false))) else (some false))) else (some false))
def impl_goodTalker.f (k : Nat) (l0_0 : List (S27)) (a0_1 : Int) (a0_2 : Int) (a0_3 : Bool) : Option (Bool) := impl_goodTalker.l0 k l0_0 (l0_0.length : Int) 0 l0_0 a0_1 a0_2 a0_3
theorem impl_goodTalker.mono_l : ∀ k, (∀ y0 y1 y2 y3 y4 y5 y6, LeO (impl_goodTalker.l0 k y0 y1 y2 y3 y4 y5 y6) (impl_goodTalker.l0 (k + 1) y0 y1 y2 y3 y4 y5 y6))
  | 0 => fun _ _ _ _ _ _ _ r h => by simp [impl_goodTalker.l0] at h
  | k + 1 => by
    have ih0 := impl_goodTalker.mono_l k
    · intro y0 y1 y2 y3 y4 y5 y6
      unfold impl_goodTalker.l0
      repeat' first | (with_reducible first | exact ih0 _ _ _ _ _ _ _ | exact LeO.refl _ | exact LeO.none _ | refine LeO.ite ?_ ?_ | refine LeO.bind ?_ (fun _ => ?_)) | exact ih0 _ _ _ _ _ _ _ | exact LeO.none _ | refine LeO.ite ?_ ?_ | refine LeO.bind ?_ (fun _ => ?_)
theorem impl_goodTalker.mono : ∀ a0 a1 a2 a3 k, LeO (impl_goodTalker.f k a0 a1 a2 a3) (impl_goodTalker.f (k + 1) a0 a1 a2 a3) := by
  intro a0 a1 a2 a3 k
  have ih0 := impl_goodTalker.mono_l k
  unfold impl_goodTalker.f
  repeat' first | (with_reducible first | exact ih0 _ _ _ _ _ _ _ | exact LeO.refl _ | exact LeO.none _ | refine LeO.ite ?_ ?_ | refine LeO.bind ?_ (fun _ => ?_)) | exact ih0 _ _ _ _ _ _ _ | exact LeO.none _ | refine LeO.ite ?_ ?_ | refine LeO.bind ?_ (fun _ => ?_)

/-! ### slices_Contains_int_int: function 44 -/
def slices_Contains_int_int.f (k : Nat) (l0 : List Int) (a1 : Int) : Option (Bool) := (slices_Index_int_int.f k l0 a1).bind fun t409 => (some (decide (t409 ≥ 0)))
theorem slices_Contains_int_int.mono : ∀ a0 a1 k, LeO (slices_Contains_int_int.f k a0 a1) (slices_Contains_int_int.f (k + 1) a0 a1) := by
  intro a0 a1 k
  unfold slices_Contains_int_int.f
  repeat' first | (with_reducible first | exact slices_Index_int_int.mono _ _ _ | exact LeO.refl _ | exact LeO.none _ | refine LeO.ite ?_ ?_ | refine LeO.bind ?_ (fun _ => ?_)) | exact slices_Index_int_int.mono _ _ _ | exact LeO.none _ | refine LeO.ite ?_ ?_ | refine LeO.bind ?_ (fun _ => ?_)

/-! ### spec_l23Talker: function 46 -/
mutual
def spec_l23Talker.j0 : Nat → Bool → List (S27) → Int → Int → Bool → Option (Bool)
  | 0, _, _, _, _, _ => none
  | k + 1, x36, x418000, x418001, x418002, x418003 => if x36 = true then (some false) else (spec_l23Talker.l0 k x418000 (x418000.length : Int) 0)
def spec_l23Talker.l0 : Nat → List (S27) → Int → Int → Option (Bool)
  | 0, _, _, _ => none
  | k + 1, x38, x39, x40 => if x40 < x39 then (if 0 ≤ x40 then (if x40 < (x38.length : Int) then ((spec_GoodFrame.f ((rd_T27 x38 x40).f0) ((rd_T27 x38 x40).f1)).bind fun t420 => (if t420 = true then (spec_l23Talker.l0 k x38 x39 (wrap64 (x40 + 1))) else (some false))) else (none)) else (none)) else (some true)
end
def spec_l23Talker.f (k : Nat) (l0_0 : List (S27)) (a0_1 : Int) (a0_2 : Int) (a0_3 : Bool) : Option (Bool) := if (l0_0.length : Int) > 8 then (spec_l23Talker.j0 k true l0_0 a0_1 a0_2 a0_3) else (if a0_1 < 1 then (spec_l23Talker.j0 k true l0_0 a0_1 a0_2 a0_3) else (if a0_1 > 10 then (spec_l23Talker.j0 k true l0_0 a0_1 a0_2 a0_3) else (if a0_2 < 0 then (spec_l23Talker.j0 k true l0_0 a0_1 a0_2 a0_3) else (if a0_2 > 255 then (spec_l23Talker.j0 k true l0_0 a0_1 a0_2 a0_3) else (spec_l23Talker.j0 k (a0_3 != (a0_2 == 255)) l0_0 a0_1 a0_2 a0_3)))))
theorem spec_l23Talker.mono_l : ∀ k, (∀ y0 y1 y2 y3 y4, LeO (spec_l23Talker.j0 k y0 y1 y2 y3 y4) (spec_l23Talker.j0 (k + 1) y0 y1 y2 y3 y4)) ∧ (∀ y0 y1 y2, LeO (spec_l23Talker.l0 k y0 y1 y2) (spec_l23Talker.l0 (k + 1) y0 y1 y2))
  | 0 => ⟨fun _ _ _ _ _ r h => by simp [spec_l23Talker.j0] at h, fun _ _ _ r h => by simp [spec_l23Talker.l0] at h⟩
  | k + 1 => by
    obtain ⟨ih0, ih1⟩ := spec_l23Talker.mono_l k
    refine ⟨?_, ?_⟩
    · intro y0 y1 y2 y3 y4
      unfold spec_l23Talker.j0
      repeat' first | (with_reducible first | exact ih0 _ _ _ _ _ | exact ih1 _ _ _ | exact LeO.refl _ | exact LeO.none _ | refine LeO.ite ?_ ?_ | refine LeO.bind ?_ (fun _ => ?_)) | exact ih0 _ _ _ _ _ | exact ih1 _ _ _ | exact LeO.none _ | refine LeO.ite ?_ ?_ | refine LeO.bind ?_ (fun _ => ?_)
    · intro y0 y1 y2
      unfold spec_l23Talker.l0
      repeat' first | (with_reducible first | exact ih0 _ _ _ _ _ | exact ih1 _ _ _ | exact LeO.refl _ | exact LeO.none _ | refine LeO.ite ?_ ?_ | refine LeO.bind ?_ (fun _ => ?_)) | exact ih0 _ _ _ _ _ | exact ih1 _ _ _ | exact LeO.none _ | refine LeO.ite ?_ ?_ | refine LeO.bind ?_ (fun _ => ?_)
theorem spec_l23Talker.mono : ∀ a0 a1 a2 a3 k, LeO (spec_l23Talker.f k a0 a1 a2 a3) (spec_l23Talker.f (k + 1) a0 a1 a2 a3) := by
  intro a0 a1 a2 a3 k
  obtain ⟨ih0, ih1⟩ := spec_l23Talker.mono_l k
  unfold spec_l23Talker.f
  repeat' first | (with_reducible first | exact ih0 _ _ _ _ _ | exact ih1 _ _ _ | exact LeO.refl _ | exact LeO.none _ | refine LeO.ite ?_ ?_ | refine LeO.bind ?_ (fun _ => ?_)) | exact ih0 _ _ _ _ _ | exact ih1 _ _ _ | exact LeO.none _ | refine LeO.ite ?_ ?_ | refine LeO.bind ?_ (fun _ => ?_)

/-! ### spec_l23Frames: function 47 -/
def spec_l23Frames.l0 : Nat → List (S27) → List (S27) → Int → Int → Option ((List (S27)))
  | 0, _, _, _, _ => none
  | k + 1, x3, x6, x7, x8 => if x8 < x7 then (if 0 ≤ x8 then (if x8 < (x6.length : Int) then ((some (([] : List Int) : List Int)).bind fun y423 => (if y423.length + ((rd_T27 x6 x8).f1).length < 140737488355328 then (if x3.length < 4398046511104 then (spec_l23Frames.l0 k (x3 ++ [(⟨(rd_T27 x6 x8).f0, (y423 ++ ((rd_T27 x6 x8).f1))⟩ : S27)]) x6 x7 (wrap64 (x8 + 1))) else (none)) else (none))) else (none)) else (none)) else (some x3)
def spec_l23Frames.f (k : Nat) (l0 : List (S27)) : Option ((List (S27))) := spec_l23Frames.l0 k ([] : List (S27)) l0 (l0.length : Int) 0
theorem spec_l23Frames.mono_l : ∀ k, (∀ y0 y1 y2 y3, LeO (spec_l23Frames.l0 k y0 y1 y2 y3) (spec_l23Frames.l0 (k + 1) y0 y1 y2 y3))
  | 0 => fun _ _ _ _ r h => by simp [spec_l23Frames.l0] at h
  | k + 1 => by
    have ih0 := spec_l23Frames.mono_l k
    · intro y0 y1 y2 y3
      unfold spec_l23Frames.l0
      repeat' first | (with_reducible first | exact ih0 _ _ _ _ | exact LeO.refl _ | exact LeO.none _ | refine LeO.ite ?_ ?_ | refine LeO.bind ?_ (fun _ => ?_)) | exact ih0 _ _ _ _ | exact LeO.none _ | refine LeO.ite ?_ ?_ | refine LeO.bind ?_ (fun _ => ?_)
theorem spec_l23Frames.mono : ∀ a0 k, LeO (spec_l23Frames.f k a0) (spec_l23Frames.f (k + 1) a0) := by
  intro a0 k
  have ih0 := spec_l23Frames.mono_l k
  unfold spec_l23Frames.f
  repeat' first | (with_reducible first | exact ih0 _ _ _ _ | exact LeO.refl _ | exact LeO.none _ | refine LeO.ite ?_ ?_ | refine LeO.bind ?_ (fun _ => ?_)) | exact ih0 _ _ _ _ | exact LeO.none _ | refine LeO.ite ?_ ?_ | refine LeO.bind ?_ (fun _ => ?_)

/-! ### spec_SameFrame: function 48 -/
mutual
def spec_SameFrame.j0 : Nat → Bool → Int → List Int → Int → List Int → Option (Bool)
  | 0, _, _, _, _, _ => none
  | k + 1, x19, x493000, x493001, x494000, x494001 => if x19 = true then (some false) else (spec_SameFrame.l0 k (x493001.length : Int) 0 x493000 x493001 x494000 x494001)
def spec_SameFrame.l0 : Nat → Int → Int → Int → List Int → Int → List Int → Option (Bool)
  | 0, _, _, _, _, _, _ => none
  | k + 1, x22, x23, x493000, x493001, x494000, x494001 => if x23 < x22 then (if 0 ≤ x23 then (if x23 < (x493001.length : Int) then (if x23 < (x494001.length : Int) then (if (rd x493001 x23) = (rd x494001 x23) then (spec_SameFrame.l0 k x22 (wrap64 (x23 + 1)) x493000 x493001 x494000 x494001) else (some false)) else (none)) else (none)) else (none)) else (some true)
end
def spec_SameFrame.f (k : Nat) (a0_0 : Int) (l0_1 : List Int) (a1_0 : Int) (l1_1 : List Int) : Option (Bool) := if a0_0 = a1_0 then (spec_SameFrame.j0 k ((l0_1.length : Int) != (l1_1.length : Int)) a0_0 l0_1 a1_0 l1_1) else (spec_SameFrame.j0 k true a0_0 l0_1 a1_0 l1_1)
theorem spec_SameFrame.mono_l : ∀ k, (∀ y0 y1 y2 y3 y4, LeO (spec_SameFrame.j0 k y0 y1 y2 y3 y4) (spec_SameFrame.j0 (k + 1) y0 y1 y2 y3 y4)) ∧ (∀ y0 y1 y2 y3 y4 y5, LeO (spec_SameFrame.l0 k y0 y1 y2 y3 y4 y5) (spec_SameFrame.l0 (k + 1) y0 y1 y2 y3 y4 y5))
  | 0 => ⟨fun _ _ _ _ _ r h => by simp [spec_SameFrame.j0] at h, fun _ _ _ _ _ _ r h => by simp [spec_SameFrame.l0] at h⟩
  | k + 1 => by
    obtain ⟨ih0, ih1⟩ := spec_SameFrame.mono_l k
    refine ⟨?_, ?_⟩
    · intro y0 y1 y2 y3 y4
      unfold spec_SameFrame.j0
      repeat' first | (with_reducible first | exact ih0 _ _ _ _ _ | exact ih1 _ _ _ _ _ _ | exact LeO.refl _ | exact LeO.none _ | refine LeO.ite ?_ ?_ | refine LeO.bind ?_ (fun _ => ?_)) | exact ih0 _ _ _ _ _ | exact ih1 _ _ _ _ _ _ | exact LeO.none _ | refine LeO.ite ?_ ?_ | refine LeO.bind ?_ (fun _ => ?_)
    · intro y0 y1 y2 y3 y4 y5
      unfold spec_SameFrame.l0
      repeat' first | (with_reducible first | exact ih0 _ _ _ _ _ | exact ih1 _ _ _ _ _ _ | exact LeO.refl _ | exact LeO.none _ | refine LeO.ite ?_ ?_ | refine LeO.bind ?_ (fun _ => ?_)) | exact ih0 _ _ _ _ _ | exact ih1 _ _ _ _ _ _ | exact LeO.none _ | refine LeO.ite ?_ ?_ | refine LeO.bind ?_ (fun _ => ?_)
theorem spec_SameFrame.mono : ∀ a0 a1 a2 a3 k, LeO (spec_SameFrame.f k a0 a1 a2 a3) (spec_SameFrame.f (k + 1) a0 a1 a2 a3) := by
  intro a0 a1 a2 a3 k
  obtain ⟨ih0, ih1⟩ := spec_SameFrame.mono_l k
  unfold spec_SameFrame.f
  repeat' first | (with_reducible first | exact ih0 _ _ _ _ _ | exact ih1 _ _ _ _ _ _ | exact LeO.refl _ | exact LeO.none _ | refine LeO.ite ?_ ?_ | refine LeO.bind ?_ (fun _ => ?_)) | exact ih0 _ _ _ _ _ | exact ih1 _ _ _ _ _ _ | exact LeO.none _ | refine LeO.ite ?_ ?_ | refine LeO.bind ?_ (fun _ => ?_)

end Go.Proofs.Ytbdonoeellmeoaa.Pr
