-- Written by this session's own print (wip/tools/mkmp.py) out of the translation. Lean checks it.
import Derived.Test.YtjcmlggdaajicaaPr0
namespace Go.Proofs.Ytjcmlggdaajicaa.Pr
open Go.RowKit Go.Proofs.YtjcmlggdaajicaaW.PrintWords Go.Proofs.YtjcmlggdaajicaaW.PrintLast Go.Proofs.YtjcmlggdaajicaaW.PrintMore
attribute [local go_sem] max2_int min2_int max_two min_two max_three min_three max_four min_four   -- for this text's walks alone
set_option linter.unusedVariables false
set_option linter.unusedSimpArgs false

/-! ### laws_szIntS: function 38 -/
def laws_szIntS.f (l0 : List Int) (a1 : Int) : Option (Int) := if (wrap64 (a1 - (l0.length : Int))) < 0 then (some (-1)) else (some (wrap64 (a1 - (l0.length : Int))))

/-! ### laws_szCells: function 10 -/
def laws_szCells.f (a0_0 : Int) (l0_1 : List Int) (a1 : Int) : Option (Int) := (laws_szIntS.f l0_1 a1).bind fun t102 => (if t102 < 0 then (some (-1)) else (some t102))

/-! ### laws_toIntS: function 16 -/
def laws_toIntS.l0 : Nat → List Int → List Int → Int → Option (List Int)
  | 0, _, _, _ => none
  | k + 1, x0, x3, x4 => if x4 < (x0.length : Int) then (if 0 ≤ x4 then (if x4 < (x3.length : Int) then (laws_toIntS.l0 k x0 (x3.set (x4 : Int).toNat (rd x0 x4)) (wrap64 (x4 + 1))) else (none)) else (none)) else (some x3)
def laws_toIntS.f (k : Nat) (l0 : List Int) : Option (List Int) := if 0 ≤ (l0.length : Int) then (if ((l0.length : Int) : Int).toNat ≤ 35184372088832 then (laws_toIntS.l0 k l0 (List.replicate ((l0.length : Int) : Int).toNat 0) 0) else (none)) else (none)
theorem laws_toIntS.mono_l : ∀ k, (∀ y0 y1 y2, LeO (laws_toIntS.l0 k y0 y1 y2) (laws_toIntS.l0 (k + 1) y0 y1 y2))
  | 0 => fun _ _ _ r h => by simp [laws_toIntS.l0] at h
  | k + 1 => by
    have ih0 := laws_toIntS.mono_l k
    · intro y0 y1 y2
      unfold laws_toIntS.l0
      repeat' first | (with_reducible first | exact ih0 _ _ _ | exact LeO.refl _ | exact LeO.none _ | refine LeO.ite ?_ ?_ | refine LeO.bind ?_ (fun _ => ?_)) | exact ih0 _ _ _ | exact LeO.none _ | refine LeO.ite ?_ ?_ | refine LeO.bind ?_ (fun _ => ?_)
theorem laws_toIntS.mono : ∀ a0 k, LeO (laws_toIntS.f k a0) (laws_toIntS.f (k + 1) a0) := by
  intro a0 k
  have ih0 := laws_toIntS.mono_l k
  unfold laws_toIntS.f
  repeat' first | (with_reducible first | exact ih0 _ _ _ | exact LeO.refl _ | exact LeO.none _ | refine LeO.ite ?_ ?_ | refine LeO.bind ?_ (fun _ => ?_)) | exact ih0 _ _ _ | exact LeO.none _ | refine LeO.ite ?_ ?_ | refine LeO.bind ?_ (fun _ => ?_)

/-! ### laws_toCells: function 12 -/
def laws_toCells.f (k : Nat) (a0_0 : Int) (l0_1 : List Int) : Option (Int × List Int) := (laws_toIntS.f k l0_1).bind fun t111 => (some (a0_0, t111))
theorem laws_toCells.mono : ∀ a0 a1 k, LeO (laws_toCells.f k a0 a1) (laws_toCells.f (k + 1) a0 a1) := by
  intro a0 a1 k
  unfold laws_toCells.f
  repeat' first | (with_reducible first | exact laws_toIntS.mono _ _ | exact LeO.refl _ | exact LeO.none _ | refine LeO.ite ?_ ?_ | refine LeO.bind ?_ (fun _ => ?_)) | exact laws_toIntS.mono _ _ | exact LeO.none _ | refine LeO.ite ?_ ?_ | refine LeO.bind ?_ (fun _ => ?_)

/-! ### laws_eqIntS: function 18 -/
def laws_eqIntS.l0 : Nat → List Int → List Int → Int → Option (Bool)
  | 0, _, _, _ => none
  | k + 1, x0, x1, x5 => if x5 < (x0.length : Int) then (if 0 ≤ x5 then (if x5 < (x1.length : Int) then (if (rd x0 x5) = (rd x1 x5) then (laws_eqIntS.l0 k x0 x1 (wrap64 (x5 + 1))) else (some false)) else (none)) else (none)) else (some true)
def laws_eqIntS.f (k : Nat) (l0 : List Int) (l1 : List Int) : Option (Bool) := if (l0.length : Int) = (l1.length : Int) then (laws_eqIntS.l0 k l0 l1 0) else (some false)
theorem laws_eqIntS.mono_l : ∀ k, (∀ y0 y1 y2, LeO (laws_eqIntS.l0 k y0 y1 y2) (laws_eqIntS.l0 (k + 1) y0 y1 y2))
  | 0 => fun _ _ _ r h => by simp [laws_eqIntS.l0] at h
  | k + 1 => by
    have ih0 := laws_eqIntS.mono_l k
    · intro y0 y1 y2
      unfold laws_eqIntS.l0
      repeat' first | (with_reducible first | exact ih0 _ _ _ | exact LeO.refl _ | exact LeO.none _ | refine LeO.ite ?_ ?_ | refine LeO.bind ?_ (fun _ => ?_)) | exact ih0 _ _ _ | exact LeO.none _ | refine LeO.ite ?_ ?_ | refine LeO.bind ?_ (fun _ => ?_)
theorem laws_eqIntS.mono : ∀ a0 a1 k, LeO (laws_eqIntS.f k a0 a1) (laws_eqIntS.f (k + 1) a0 a1) := by
  intro a0 a1 k
  have ih0 := laws_eqIntS.mono_l k
  unfold laws_eqIntS.f
  repeat' first | (with_reducible first | exact ih0 _ _ _ | exact LeO.refl _ | exact LeO.none _ | refine LeO.ite ?_ ?_ | refine LeO.bind ?_ (fun _ => ?_)) | exact ih0 _ _ _ | exact LeO.none _ | refine LeO.ite ?_ ?_ | refine LeO.bind ?_ (fun _ => ?_)

/-! ### laws_eqCells: function 14 -/
def laws_eqCells.f (k : Nat) (a0_0 : Int) (l0_1 : List Int) (a1_0 : Int) (l1_1 : List Int) : Option (Bool) := if a0_0 = a1_0 then ((laws_eqIntS.f k l0_1 l1_1).bind fun t118 => (if t118 = true then (some true) else (some false))) else (some false)
theorem laws_eqCells.mono : ∀ a0 a1 a2 a3 k, LeO (laws_eqCells.f k a0 a1 a2 a3) (laws_eqCells.f (k + 1) a0 a1 a2 a3) := by
  intro a0 a1 a2 a3 k
  unfold laws_eqCells.f
  repeat' first | (with_reducible first | exact laws_eqIntS.mono _ _ _ | exact LeO.refl _ | exact LeO.none _ | refine LeO.ite ?_ ?_ | refine LeO.bind ?_ (fun _ => ?_)) | exact laws_eqIntS.mono _ _ _ | exact LeO.none _ | refine LeO.ite ?_ ?_ | refine LeO.bind ?_ (fun _ => ?_)

/-! ### spec_l12Sized: function 47 -/
def spec_l12Sized.f (a0 : Int) (a1 : Int) : Option (Bool) := if a0 ≥ 1 then (if a0 ≤ 16 then (if a1 ≥ a0 then (if a0 = 0 then (none) else (if (Int.tmod a1 a0) = 0 then (some (decide ((wrap64 (Int.tdiv a1 a0)) ≤ 16))) else (some false))) else (some false)) else (some false)) else (some false)

/-! ### spec_GoodCells: function 28 -/
def spec_GoodCells.l0 : Nat → List Int → Int → Int → Option (Bool)
  | 0, _, _, _ => none
  | k + 1, x13, x14, x15 => if x15 < x14 then (if 0 ≤ x15 then (if x15 < (x13.length : Int) then (if (rd x13 x15) < 0 then (some false) else (if (rd x13 x15) > 2 then (some false) else (spec_GoodCells.l0 k x13 x14 (wrap64 (x15 + 1))))) else (none)) else (none)) else (some true)
def spec_GoodCells.f (k : Nat) (a0_0 : Int) (l0_1 : List Int) : Option (Bool) := (spec_l12Sized.f a0_0 (l0_1.length : Int)).bind fun t120 => (if t120 = true then (spec_GoodCells.l0 k l0_1 (l0_1.length : Int) 0) else (some false))
theorem spec_GoodCells.mono_l : ∀ k, (∀ y0 y1 y2, LeO (spec_GoodCells.l0 k y0 y1 y2) (spec_GoodCells.l0 (k + 1) y0 y1 y2))
  | 0 => fun _ _ _ r h => by simp [spec_GoodCells.l0] at h
  | k + 1 => by
    have ih0 := spec_GoodCells.mono_l k
    · intro y0 y1 y2
      unfold spec_GoodCells.l0
      repeat' first | (with_reducible first | exact ih0 _ _ _ | exact LeO.refl _ | exact LeO.none _ | refine LeO.ite ?_ ?_ | refine LeO.bind ?_ (fun _ => ?_)) | exact ih0 _ _ _ | exact LeO.none _ | refine LeO.ite ?_ ?_ | refine LeO.bind ?_ (fun _ => ?_)
theorem spec_GoodCells.mono : ∀ a0 a1 k, LeO (spec_GoodCells.f k a0 a1) (spec_GoodCells.f (k + 1) a0 a1) := by
  intro a0 a1 k
  have ih0 := spec_GoodCells.mono_l k
  unfold spec_GoodCells.f
  repeat' first | (with_reducible first | exact ih0 _ _ _ | exact LeO.refl _ | exact LeO.none _ | refine LeO.ite ?_ ?_ | refine LeO.bind ?_ (fun _ => ?_)) | exact ih0 _ _ _ | exact LeO.none _ | refine LeO.ite ?_ ?_ | refine LeO.bind ?_ (fun _ => ?_)

/-! ### spec_l12Free: function 43 -/
def spec_l12Free.f (a0_0 : Int) (l0_1 : List Int) (a1 : Int) : Option (Bool) := if a1 ≥ 0 then (if a1 < (l0_1.length : Int) then (if 0 ≤ a1 then (some ((rd l0_1 a1) == 0)) else (none)) else (some false)) else (some false)

/-! ### spec_l4Abs: function 57 -/
def spec_l4Abs.f (a0 : Int) : Option (Int) := if a0 < 0 then (some (wrap64 (-a0))) else (some a0)

/-! ### spec_l18Step: function 44 -/
def spec_l18Step.j0 : Nat → Int → Int → Bool → Int → List Int → Option (Int)
  | 0, _, _, _, _, _ => none
  | k + 1, x1, x2, x18, x125000, x125001 => if x18 = true then (some 0) else (if x125000 = 0 then (none) else ((spec_l4Abs.f (wrap64 ((Int.tmod x2 x125000) - (Int.tmod x1 x125000)))).bind fun t127 => ((spec_l4Abs.f (wrap64 ((wrap64 (Int.tdiv x2 x125000)) - (wrap64 (Int.tdiv x1 x125000))))).bind fun t128 => (if (wrap64 (t127 + t128)) = 1 then (some 1) else (if t127 = 1 then (if t128 = 1 then ((spec_l12Free.f x125000 x125001 (wrap64 (x1 + (wrap64 ((Int.tmod x2 x125000) - (Int.tmod x1 x125000)))))).bind fun t129 => (if t129 = true then ((spec_l12Free.f x125000 x125001 (wrap64 (x1 + (wrap64 ((wrap64 ((wrap64 (Int.tdiv x2 x125000)) - (wrap64 (Int.tdiv x1 x125000)))) * x125000))))).bind fun t130 => (if t130 = true then (some 2) else (some 0))) else (some 0))) else (some 0)) else (some 0))))))
def spec_l18Step.f (k : Nat) (a0_0 : Int) (l0_1 : List Int) (a1 : Int) (a2 : Int) : Option (Int) := (spec_l12Free.f a0_0 l0_1 a1).bind fun t125 => (if t125 = true then ((spec_l12Free.f a0_0 l0_1 a2).bind fun t126 => (spec_l18Step.j0 k a1 a2 (!t126) a0_0 l0_1)) else (spec_l18Step.j0 k a1 a2 true a0_0 l0_1))
theorem spec_l18Step.mono_l : ∀ k, (∀ y0 y1 y2 y3 y4, LeO (spec_l18Step.j0 k y0 y1 y2 y3 y4) (spec_l18Step.j0 (k + 1) y0 y1 y2 y3 y4))
  | 0 => fun _ _ _ _ _ r h => by simp [spec_l18Step.j0] at h
  | k + 1 => by
    have ih0 := spec_l18Step.mono_l k
    · intro y0 y1 y2 y3 y4
      unfold spec_l18Step.j0
      repeat' first | (with_reducible first | exact ih0 _ _ _ _ _ | exact LeO.refl _ | exact LeO.none _ | refine LeO.ite ?_ ?_ | refine LeO.bind ?_ (fun _ => ?_)) | exact ih0 _ _ _ _ _ | exact LeO.none _ | refine LeO.ite ?_ ?_ | refine LeO.bind ?_ (fun _ => ?_)
theorem spec_l18Step.mono : ∀ a0 a1 a2 a3 k, LeO (spec_l18Step.f k a0 a1 a2 a3) (spec_l18Step.f (k + 1) a0 a1 a2 a3) := by
  intro a0 a1 a2 a3 k
  have ih0 := spec_l18Step.mono_l k
  unfold spec_l18Step.f
  repeat' first | (with_reducible first | exact ih0 _ _ _ _ _ | exact LeO.refl _ | exact LeO.none _ | refine LeO.ite ?_ ?_ | refine LeO.bind ?_ (fun _ => ?_)) | exact ih0 _ _ _ _ _ | exact LeO.none _ | refine LeO.ite ?_ ?_ | refine LeO.bind ?_ (fun _ => ?_)

/-! ### spec_WayCost: function 15 -/
mutual
def spec_WayCost.j0 : Nat → List Int → Bool → Int → List Int → Option (Int × Int × Bool)
  | 0, _, _, _, _ => none
  | k + 1, x1, x30, x132000, x132001 => if x30 = true then (some (0, 0, false)) else (spec_WayCost.l0 k x1 0 0 1 x132000 x132001)
def spec_WayCost.l0 : Nat → List Int → Int → Int → Int → Int → List Int → Option (Int × Int × Bool)
  | 0, _, _, _, _, _, _ => none
  | k + 1, x1, x7, x8, x9, x132000, x132001 => if x9 < (x1.length : Int) then (if 0 ≤ (wrap64 (x9 - 1)) then (if (wrap64 (x9 - 1)) < (x1.length : Int) then (if 0 ≤ x9 then ((spec_l18Step.f k x132000 x132001 (rd x1 (wrap64 (x9 - 1))) (rd x1 x9)).bind fun t137 => (if t137 = 1 then (spec_WayCost.l0 k x1 (wrap64 (x7 + 1)) x8 (wrap64 (x9 + 1)) x132000 x132001) else (if t137 = 2 then (spec_WayCost.l0 k x1 x7 (wrap64 (x8 + 1)) (wrap64 (x9 + 1)) x132000 x132001) else (some (0, 0, false))))) else (none)) else (none)) else (none)) else (some (x7, x8, true))
end
def spec_WayCost.f (k : Nat) (a0_0 : Int) (l0_1 : List Int) (l1 : List Int) : Option (Int × Int × Bool) := (spec_GoodCells.f k a0_0 l0_1).bind fun t132 => (if t132 = true then (if (l1.length : Int) < 1 then (spec_WayCost.j0 k l1 true a0_0 l0_1) else (if (l1.length : Int) > 256 then (spec_WayCost.j0 k l1 true a0_0 l0_1) else (if 0 < (l1.length : Int) then ((spec_l12Free.f a0_0 l0_1 (rd l1 0)).bind fun t134 => (spec_WayCost.j0 k l1 (!t134) a0_0 l0_1)) else (none)))) else (spec_WayCost.j0 k l1 true a0_0 l0_1))
theorem spec_WayCost.mono_l : ∀ k, (∀ y0 y1 y2 y3, LeO (spec_WayCost.j0 k y0 y1 y2 y3) (spec_WayCost.j0 (k + 1) y0 y1 y2 y3)) ∧ (∀ y0 y1 y2 y3 y4 y5, LeO (spec_WayCost.l0 k y0 y1 y2 y3 y4 y5) (spec_WayCost.l0 (k + 1) y0 y1 y2 y3 y4 y5))
  | 0 => ⟨fun _ _ _ _ r h => by simp [spec_WayCost.j0] at h, fun _ _ _ _ _ _ r h => by simp [spec_WayCost.l0] at h⟩
  | k + 1 => by
    obtain ⟨ih0, ih1⟩ := spec_WayCost.mono_l k
    refine ⟨?_, ?_⟩
    · intro y0 y1 y2 y3
      unfold spec_WayCost.j0
      repeat' first | (with_reducible first | exact ih0 _ _ _ _ | exact ih1 _ _ _ _ _ _ | exact spec_GoodCells.mono _ _ _ | exact spec_l18Step.mono _ _ _ _ _ | exact LeO.refl _ | exact LeO.none _ | refine LeO.ite ?_ ?_ | refine LeO.bind ?_ (fun _ => ?_)) | exact ih0 _ _ _ _ | exact ih1 _ _ _ _ _ _ | exact spec_GoodCells.mono _ _ _ | exact spec_l18Step.mono _ _ _ _ _ | exact LeO.none _ | refine LeO.ite ?_ ?_ | refine LeO.bind ?_ (fun _ => ?_)
    · intro y0 y1 y2 y3 y4 y5
      unfold spec_WayCost.l0
      repeat' first | (with_reducible first | exact ih0 _ _ _ _ | exact ih1 _ _ _ _ _ _ | exact spec_GoodCells.mono _ _ _ | exact spec_l18Step.mono _ _ _ _ _ | exact LeO.refl _ | exact LeO.none _ | refine LeO.ite ?_ ?_ | refine LeO.bind ?_ (fun _ => ?_)) | exact ih0 _ _ _ _ | exact ih1 _ _ _ _ _ _ | exact spec_GoodCells.mono _ _ _ | exact spec_l18Step.mono _ _ _ _ _ | exact LeO.none _ | refine LeO.ite ?_ ?_ | refine LeO.bind ?_ (fun _ => ?_)
theorem spec_WayCost.mono : ∀ a0 a1 a2 k, LeO (spec_WayCost.f k a0 a1 a2) (spec_WayCost.f (k + 1) a0 a1 a2) := by
  intro a0 a1 a2 k
  obtain ⟨ih0, ih1⟩ := spec_WayCost.mono_l k
  unfold spec_WayCost.f
  repeat' first | (with_reducible first | exact ih0 _ _ _ _ | exact ih1 _ _ _ _ _ _ | exact spec_GoodCells.mono _ _ _ | exact spec_l18Step.mono _ _ _ _ _ | exact LeO.refl _ | exact LeO.none _ | refine LeO.ite ?_ ?_ | refine LeO.bind ?_ (fun _ => ?_)) | exact ih0 _ _ _ _ | exact ih1 _ _ _ _ _ _ | exact spec_GoodCells.mono _ _ _ | exact spec_l18Step.mono _ _ _ _ _ | exact LeO.none _ | refine LeO.ite ?_ ?_ | refine LeO.bind ?_ (fun _ => ?_)

/-! ### impl_squared: function 56 -/
def impl_squared.f (a0 : Int) (a1 : Int) : Option (Bool) := if a0 ≥ 1 then (if a0 ≤ 16 then (if a0 = 0 then (none) else (if (Int.tmod a1 a0) = 0 then (if (wrap64 (Int.tdiv a1 a0)) ≥ 1 then (some (decide ((wrap64 (Int.tdiv a1 a0)) ≤ 16))) else (some false)) else (some false))) else (some false)) else (some false)

/-! ### impl_GoodCells: function 40 -/
def impl_GoodCells.l0 : Nat → List Int → Int → Int → Option (Bool)
  | 0, _, _, _ => none
  | k + 1, x13, x14, x15 => if x15 < x14 then (if 0 ≤ x15 then (if x15 < (x13.length : Int) then (if (rd x13 x15) < 0 then (some false) else (if (rd x13 x15) > 2 then (some false) else (impl_GoodCells.l0 k x13 x14 (wrap64 (x15 + 1))))) else (none)) else (none)) else (some true)
def impl_GoodCells.f (k : Nat) (a0_0 : Int) (l0_1 : List Int) : Option (Bool) := (impl_squared.f a0_0 (l0_1.length : Int)).bind fun t139 => (if t139 = true then (impl_GoodCells.l0 k l0_1 (l0_1.length : Int) 0) else (some false))
theorem impl_GoodCells.mono_l : ∀ k, (∀ y0 y1 y2, LeO (impl_GoodCells.l0 k y0 y1 y2) (impl_GoodCells.l0 (k + 1) y0 y1 y2))
  | 0 => fun _ _ _ r h => by simp [impl_GoodCells.l0] at h
  | k + 1 => by
    have ih0 := impl_GoodCells.mono_l k
    · intro y0 y1 y2
      unfold impl_GoodCells.l0
      repeat' first | (with_reducible first | exact ih0 _ _ _ | exact LeO.refl _ | exact LeO.none _ | refine LeO.ite ?_ ?_ | refine LeO.bind ?_ (fun _ => ?_)) | exact ih0 _ _ _ | exact LeO.none _ | refine LeO.ite ?_ ?_ | refine LeO.bind ?_ (fun _ => ?_)
theorem impl_GoodCells.mono : ∀ a0 a1 k, LeO (impl_GoodCells.f k a0 a1) (impl_GoodCells.f (k + 1) a0 a1) := by
  intro a0 a1 k
  have ih0 := impl_GoodCells.mono_l k
  unfold impl_GoodCells.f
  repeat' first | (with_reducible first | exact ih0 _ _ _ | exact LeO.refl _ | exact LeO.none _ | refine LeO.ite ?_ ?_ | refine LeO.bind ?_ (fun _ => ?_)) | exact ih0 _ _ _ | exact LeO.none _ | refine LeO.ite ?_ ?_ | refine LeO.bind ?_ (fun _ => ?_)

/-! ### impl_Cells_free: function 41 -/
def impl_Cells_free.f (a0_0 : Int) (l0_1 : List Int) (a1 : Int) : Option (Bool) := if a1 ≥ 0 then (if a1 < (l0_1.length : Int) then (if 0 ≤ a1 then (some ((rd l0_1 a1) == 0)) else (none)) else (some false)) else (some false)

/-! ### impl_Cells_next: function 58 -/
def impl_Cells_next.f (a0_0 : Int) (l0_1 : List Int) (a1 : Int) (a2 : Int) (a3 : Int) : Option (Int) := if a0_0 = 0 then (none) else (if (wrap64 ((Int.tmod a1 a0_0) + a2)) < 0 then (some (-1)) else (if (wrap64 ((Int.tmod a1 a0_0) + a2)) ≥ a0_0 then (some (-1)) else (if (wrap64 ((wrap64 (Int.tdiv a1 a0_0)) + a3)) < 0 then (some (-1)) else (if (wrap64 ((wrap64 (Int.tdiv a1 a0_0)) + a3)) ≥ (wrap64 ((l0_1.length : Int) / a0_0)) then (some (-1)) else (some (wrap64 ((wrap64 ((wrap64 ((wrap64 (Int.tdiv a1 a0_0)) + a3)) * a0_0)) + (wrap64 ((Int.tmod a1 a0_0) + a2)))))))))

/-! ### impl_Cells_step: function 45 -/
def impl_Cells_step.j0 : Nat → Int → Int → Bool → Int → List Int → Option (Int × Int × Bool)
  | 0, _, _, _, _, _ => none
  | k + 1, x1, x2, x19, x145000, x145001 => if x19 = true then (some (0, 0, false)) else (if x145000 = 0 then (none) else (if (wrap64 ((wrap64 ((wrap64 ((Int.tmod x2 x145000) - (Int.tmod x1 x145000))) * (wrap64 ((Int.tmod x2 x145000) - (Int.tmod x1 x145000))))) + (wrap64 ((wrap64 ((wrap64 (Int.tdiv x2 x145000)) - (wrap64 (Int.tdiv x1 x145000)))) * (wrap64 ((wrap64 (Int.tdiv x2 x145000)) - (wrap64 (Int.tdiv x1 x145000)))))))) = 1 then (some (1, 0, true)) else (if (wrap64 ((wrap64 ((wrap64 ((Int.tmod x2 x145000) - (Int.tmod x1 x145000))) * (wrap64 ((Int.tmod x2 x145000) - (Int.tmod x1 x145000))))) + (wrap64 ((wrap64 ((wrap64 (Int.tdiv x2 x145000)) - (wrap64 (Int.tdiv x1 x145000)))) * (wrap64 ((wrap64 (Int.tdiv x2 x145000)) - (wrap64 (Int.tdiv x1 x145000)))))))) = 2 then ((impl_Cells_next.f x145000 x145001 x1 (wrap64 ((Int.tmod x2 x145000) - (Int.tmod x1 x145000))) 0).bind fun t148 => ((impl_Cells_free.f x145000 x145001 t148).bind fun t149 => (if t149 = true then ((impl_Cells_next.f x145000 x145001 x1 0 (wrap64 ((wrap64 (Int.tdiv x2 x145000)) - (wrap64 (Int.tdiv x1 x145000))))).bind fun t150 => ((impl_Cells_free.f x145000 x145001 t150).bind fun t151 => (some (0, 1, t151)))) else (some (0, 1, false))))) else (some (0, 0, false)))))
def impl_Cells_step.f (k : Nat) (a0_0 : Int) (l0_1 : List Int) (a1 : Int) (a2 : Int) : Option (Int × Int × Bool) := (impl_Cells_free.f a0_0 l0_1 a1).bind fun t146 => (if t146 = true then ((impl_Cells_free.f a0_0 l0_1 a2).bind fun t147 => (impl_Cells_step.j0 k a1 a2 (!t147) a0_0 l0_1)) else (impl_Cells_step.j0 k a1 a2 true a0_0 l0_1))
theorem impl_Cells_step.mono_l : ∀ k, (∀ y0 y1 y2 y3 y4, LeO (impl_Cells_step.j0 k y0 y1 y2 y3 y4) (impl_Cells_step.j0 (k + 1) y0 y1 y2 y3 y4))
  | 0 => fun _ _ _ _ _ r h => by simp [impl_Cells_step.j0] at h
  | k + 1 => by
    have ih0 := impl_Cells_step.mono_l k
    · intro y0 y1 y2 y3 y4
      unfold impl_Cells_step.j0
      repeat' first | (with_reducible first | exact ih0 _ _ _ _ _ | exact LeO.refl _ | exact LeO.none _ | refine LeO.ite ?_ ?_ | refine LeO.bind ?_ (fun _ => ?_)) | exact ih0 _ _ _ _ _ | exact LeO.none _ | refine LeO.ite ?_ ?_ | refine LeO.bind ?_ (fun _ => ?_)
theorem impl_Cells_step.mono : ∀ a0 a1 a2 a3 k, LeO (impl_Cells_step.f k a0 a1 a2 a3) (impl_Cells_step.f (k + 1) a0 a1 a2 a3) := by
  intro a0 a1 a2 a3 k
  have ih0 := impl_Cells_step.mono_l k
  unfold impl_Cells_step.f
  repeat' first | (with_reducible first | exact ih0 _ _ _ _ _ | exact LeO.refl _ | exact LeO.none _ | refine LeO.ite ?_ ?_ | refine LeO.bind ?_ (fun _ => ?_)) | exact ih0 _ _ _ _ _ | exact LeO.none _ | refine LeO.ite ?_ ?_ | refine LeO.bind ?_ (fun _ => ?_)

/-! ### impl_WayCost: function 17 -/
mutual
def impl_WayCost.j0 : Nat → List Int → Bool → Int → List Int → Option (Int × Int × Bool)
  | 0, _, _, _, _ => none
  | k + 1, x1, x31, x153000, x153001 => if x31 = true then (some (0, 0, false)) else (impl_WayCost.l0 k x1 1 x153000 x153001 0 0)
def impl_WayCost.l0 : Nat → List Int → Int → Int → List Int → Int → Int → Option (Int × Int × Bool)
  | 0, _, _, _, _, _, _ => none
  | k + 1, x1, x8, x153000, x153001, x157000, x157001 => if x8 < (x1.length : Int) then (if 0 ≤ (wrap64 (x8 - 1)) then (if (wrap64 (x8 - 1)) < (x1.length : Int) then (if 0 ≤ x8 then ((impl_Cells_step.f k x153000 x153001 (rd x1 (wrap64 (x8 - 1))) (rd x1 x8)).bind fun bt159 => (if bt159.2.2 = true then (impl_WayCost.l0 k x1 (wrap64 (x8 + 1)) x153000 x153001 (wrap64 (x157000 + bt159.1)) (wrap64 (x157001 + bt159.2.1))) else (some (0, 0, false)))) else (none)) else (none)) else (none)) else (some (x157000, x157001, true))
end
def impl_WayCost.f (k : Nat) (a0_0 : Int) (l0_1 : List Int) (l1 : List Int) : Option (Int × Int × Bool) := (impl_GoodCells.f k a0_0 l0_1).bind fun t153 => (if t153 = true then (if (l1.length : Int) < 1 then (impl_WayCost.j0 k l1 true a0_0 l0_1) else (if (l1.length : Int) > 256 then (impl_WayCost.j0 k l1 true a0_0 l0_1) else (if 0 < (l1.length : Int) then ((impl_Cells_free.f a0_0 l0_1 (rd l1 0)).bind fun t155 => (impl_WayCost.j0 k l1 (!t155) a0_0 l0_1)) else (none)))) else (impl_WayCost.j0 k l1 true a0_0 l0_1))
theorem impl_WayCost.mono_l : ∀ k, (∀ y0 y1 y2 y3, LeO (impl_WayCost.j0 k y0 y1 y2 y3) (impl_WayCost.j0 (k + 1) y0 y1 y2 y3)) ∧ (∀ y0 y1 y2 y3 y4 y5, LeO (impl_WayCost.l0 k y0 y1 y2 y3 y4 y5) (impl_WayCost.l0 (k + 1) y0 y1 y2 y3 y4 y5))
  | 0 => ⟨fun _ _ _ _ r h => by simp [impl_WayCost.j0] at h, fun _ _ _ _ _ _ r h => by simp [impl_WayCost.l0] at h⟩
  | k + 1 => by
    obtain ⟨ih0, ih1⟩ := impl_WayCost.mono_l k
    refine ⟨?_, ?_⟩
    · intro y0 y1 y2 y3
      unfold impl_WayCost.j0
      repeat' first | (with_reducible first | exact ih0 _ _ _ _ | exact ih1 _ _ _ _ _ _ | exact impl_Cells_step.mono _ _ _ _ _ | exact impl_GoodCells.mono _ _ _ | exact LeO.refl _ | exact LeO.none _ | refine LeO.ite ?_ ?_ | refine LeO.bind ?_ (fun _ => ?_)) | exact ih0 _ _ _ _ | exact ih1 _ _ _ _ _ _ | exact impl_Cells_step.mono _ _ _ _ _ | exact impl_GoodCells.mono _ _ _ | exact LeO.none _ | refine LeO.ite ?_ ?_ | refine LeO.bind ?_ (fun _ => ?_)
    · intro y0 y1 y2 y3 y4 y5
      unfold impl_WayCost.l0
      repeat' first | (with_reducible first | exact ih0 _ _ _ _ | exact ih1 _ _ _ _ _ _ | exact impl_Cells_step.mono _ _ _ _ _ | exact impl_GoodCells.mono _ _ _ | exact LeO.refl _ | exact LeO.none _ | refine LeO.ite ?_ ?_ | refine LeO.bind ?_ (fun _ => ?_)) | exact ih0 _ _ _ _ | exact ih1 _ _ _ _ _ _ | exact impl_Cells_step.mono _ _ _ _ _ | exact impl_GoodCells.mono _ _ _ | exact LeO.none _ | refine LeO.ite ?_ ?_ | refine LeO.bind ?_ (fun _ => ?_)
theorem impl_WayCost.mono : ∀ a0 a1 a2 k, LeO (impl_WayCost.f k a0 a1 a2) (impl_WayCost.f (k + 1) a0 a1 a2) := by
  intro a0 a1 a2 k
  obtain ⟨ih0, ih1⟩ := impl_WayCost.mono_l k
  unfold impl_WayCost.f
  repeat' first | (with_reducible first | exact ih0 _ _ _ _ | exact ih1 _ _ _ _ _ _ | exact impl_Cells_step.mono _ _ _ _ _ | exact impl_GoodCells.mono _ _ _ | exact LeO.refl _ | exact LeO.none _ | refine LeO.ite ?_ ?_ | refine LeO.bind ?_ (fun _ => ?_)) | exact ih0 _ _ _ _ | exact ih1 _ _ _ _ _ _ | exact impl_Cells_step.mono _ _ _ _ _ | exact impl_GoodCells.mono _ _ _ | exact LeO.none _ | refine LeO.ite ?_ ?_ | refine LeO.bind ?_ (fun _ => ?_)

/-! ### laws_FnExactWayCost: function 4 -/
def laws_FnExactWayCost.j0 : Nat → List Int → List Int → Bool → Int → List Int → Int → List Int → Option (Bool)
  | 0, _, _, _, _, _, _, _ => none
  | k + 1, x1, x10, x54, x164000, x164001, x180000, x180001 => if x54 = true then (some false) else ((laws_toCells.f k x164000 x164001).bind fun bt186 => ((laws_eqCells.f k x180000 x180001 bt186.1 bt186.2).bind fun t190 => (if t190 = true then ((laws_toIntS.f k x1).bind fun t191 => ((laws_eqIntS.f k x10 t191).bind fun t194 => (if t194 = true then (some true) else (some false)))) else (some false))))
def laws_FnExactWayCost.f (k : Nat) (a0_0 : Int) (l0_1 : List Int) (l1 : List Int) : Option (Bool) := if (l1.length : Int) > 1048576 then (some true) else ((laws_szCells.f a0_0 l0_1 1048576).bind fun t164 => (if t164 < 0 then (some true) else ((laws_toCells.f k a0_0 l0_1).bind fun bt165 => ((laws_toIntS.f k l1).bind fun t169 => ((spec_WayCost.f k bt165.1 bt165.2 t169).bind fun bt172 => ((laws_toCells.f k a0_0 l0_1).bind fun bt175 => ((laws_toIntS.f k l1).bind fun t180 => ((impl_WayCost.f k bt175.1 bt175.2 t180).bind fun bt183 => (if bt183.1 = bt172.1 then (if bt183.2.1 = bt172.2.1 then (laws_FnExactWayCost.j0 k l1 t180 (bt183.2.2 != bt172.2.2) a0_0 l0_1 bt175.1 bt175.2) else (laws_FnExactWayCost.j0 k l1 t180 true a0_0 l0_1 bt175.1 bt175.2)) else (laws_FnExactWayCost.j0 k l1 t180 true a0_0 l0_1 bt175.1 bt175.2))))))))))
theorem laws_FnExactWayCost.mono_l : ∀ k, (∀ y0 y1 y2 y3 y4 y5 y6, LeO (laws_FnExactWayCost.j0 k y0 y1 y2 y3 y4 y5 y6) (laws_FnExactWayCost.j0 (k + 1) y0 y1 y2 y3 y4 y5 y6))
  | 0 => fun _ _ _ _ _ _ _ r h => by simp [laws_FnExactWayCost.j0] at h
  | k + 1 => by
    have ih0 := laws_FnExactWayCost.mono_l k
    · intro y0 y1 y2 y3 y4 y5 y6
      unfold laws_FnExactWayCost.j0
      repeat' first | (with_reducible first | exact ih0 _ _ _ _ _ _ _ | exact impl_WayCost.mono _ _ _ _ | exact laws_eqCells.mono _ _ _ _ _ | exact laws_eqIntS.mono _ _ _ | exact laws_toCells.mono _ _ _ | exact laws_toIntS.mono _ _ | exact spec_WayCost.mono _ _ _ _ | exact LeO.refl _ | exact LeO.none _ | refine LeO.ite ?_ ?_ | refine LeO.bind ?_ (fun _ => ?_)) | exact ih0 _ _ _ _ _ _ _ | exact impl_WayCost.mono _ _ _ _ | exact laws_eqCells.mono _ _ _ _ _ | exact laws_eqIntS.mono _ _ _ | exact laws_toCells.mono _ _ _ | exact laws_toIntS.mono _ _ | exact spec_WayCost.mono _ _ _ _ | exact LeO.none _ | refine LeO.ite ?_ ?_ | refine LeO.bind ?_ (fun _ => ?_)
theorem laws_FnExactWayCost.mono : ∀ a0 a1 a2 k, LeO (laws_FnExactWayCost.f k a0 a1 a2) (laws_FnExactWayCost.f (k + 1) a0 a1 a2) := by
  intro a0 a1 a2 k
  have ih0 := laws_FnExactWayCost.mono_l k
  unfold laws_FnExactWayCost.f
  repeat' first | (with_reducible first | exact ih0 _ _ _ _ _ _ _ | exact impl_WayCost.mono _ _ _ _ | exact laws_eqCells.mono _ _ _ _ _ | exact laws_eqIntS.mono _ _ _ | exact laws_toCells.mono _ _ _ | exact laws_toIntS.mono _ _ | exact spec_WayCost.mono _ _ _ _ | exact LeO.refl _ | exact LeO.none _ | refine LeO.ite ?_ ?_ | refine LeO.bind ?_ (fun _ => ?_)) | exact ih0 _ _ _ _ _ _ _ | exact impl_WayCost.mono _ _ _ _ | exact laws_eqCells.mono _ _ _ _ _ | exact laws_eqIntS.mono _ _ _ | exact laws_toCells.mono _ _ _ | exact laws_toIntS.mono _ _ | exact spec_WayCost.mono _ _ _ _ | exact LeO.none _ | refine LeO.ite ?_ ?_ | refine LeO.bind ?_ (fun _ => ?_)

/-! ### spec_l18Meets: function 55 -/
mutual
def spec_l18Meets.j0 : Nat → Int → Int → Int → Int → Int → Int → Int → Int → Bool → Option (Bool)
  | 0, _, _, _, _, _, _, _, _, _ => none
  | k + 1, x0, x1, x2, x3, x13, x14, x15, x16, x75 => if x75 = true then (some false) else ((some (([x13, x14] : List Int) : List Int)).bind fun y195 => (spec_l18Meets.l0 k x0 x1 x15 x16 (wrap64 (x2 - x0)) (wrap64 (x3 - x1)) 0 0 y195 (y195.length : Int) 0))
def spec_l18Meets.l0 : Nat → Int → Int → Int → Int → Int → Int → Int → Int → List Int → Int → Int → Option (Bool)
  | 0, _, _, _, _, _, _, _, _, _, _, _ => none
  | k + 1, x0, x1, x15, x16, x17, x18, x19, x20, x84, x85, x86 => if x86 < x85 then (if 0 ≤ x86 then (if x86 < (x84.length : Int) then ((some (([x15, x16] : List Int) : List Int)).bind fun y199 => (spec_l18Meets.l1 k x0 x1 x15 x16 x17 x18 x19 x20 (rd x84 x86) x84 x85 x86 y199 (y199.length : Int) 0)) else (none)) else (none)) else (if x19 < 4 then (some (decide (x20 < 4))) else (some false))
def spec_l18Meets.l1 : Nat → Int → Int → Int → Int → Int → Int → Int → Int → Int → List Int → Int → Int → List Int → Int → Int → Option (Bool)
  | 0, _, _, _, _, _, _, _, _, _, _, _, _, _, _, _ => none
  | k + 1, x0, x1, x15, x16, x17, x18, x19, x20, x22, x84, x85, x86, x92, x93, x94 => if x94 < x93 then (if 0 ≤ x94 then (if x94 < (x92.length : Int) then (if (wrap64 ((wrap64 (x17 * (wrap64 ((rd x92 x94) - x1)))) - (wrap64 (x18 * (wrap64 (x22 - x0)))))) > 0 then (if (wrap64 ((wrap64 (x17 * (wrap64 ((rd x92 x94) - x1)))) - (wrap64 (x18 * (wrap64 (x22 - x0)))))) < 0 then (spec_l18Meets.l1 k x0 x1 x15 x16 x17 x18 (wrap64 (x19 + 1)) (wrap64 (x20 + 1)) x22 x84 x85 x86 x92 x93 (wrap64 (x94 + 1))) else (spec_l18Meets.l1 k x0 x1 x15 x16 x17 x18 (wrap64 (x19 + 1)) x20 x22 x84 x85 x86 x92 x93 (wrap64 (x94 + 1)))) else (if (wrap64 ((wrap64 (x17 * (wrap64 ((rd x92 x94) - x1)))) - (wrap64 (x18 * (wrap64 (x22 - x0)))))) < 0 then (spec_l18Meets.l1 k x0 x1 x15 x16 x17 x18 x19 (wrap64 (x20 + 1)) x22 x84 x85 x86 x92 x93 (wrap64 (x94 + 1))) else (spec_l18Meets.l1 k x0 x1 x15 x16 x17 x18 x19 x20 x22 x84 x85 x86 x92 x93 (wrap64 (x94 + 1))))) else (none)) else (none)) else (spec_l18Meets.l0 k x0 x1 x15 x16 x17 x18 x19 x20 x84 x85 (wrap64 (x86 + 1)))
end
def spec_l18Meets.f (k : Nat) (a0 : Int) (a1 : Int) (a2 : Int) (a3 : Int) (a4 : Int) (a5 : Int) : Option (Bool) := if a0 < (wrap64 ((wrap64 (2 * a4)) - 1)) then (if a2 < (wrap64 ((wrap64 (2 * a4)) - 1)) then (spec_l18Meets.j0 k a0 a1 a2 a3 (wrap64 ((wrap64 (2 * a4)) - 1)) (wrap64 ((wrap64 (2 * a4)) + 1)) (wrap64 ((wrap64 (2 * a5)) - 1)) (wrap64 ((wrap64 (2 * a5)) + 1)) true) else (if a0 > (wrap64 ((wrap64 (2 * a4)) + 1)) then (if a2 > (wrap64 ((wrap64 (2 * a4)) + 1)) then (spec_l18Meets.j0 k a0 a1 a2 a3 (wrap64 ((wrap64 (2 * a4)) - 1)) (wrap64 ((wrap64 (2 * a4)) + 1)) (wrap64 ((wrap64 (2 * a5)) - 1)) (wrap64 ((wrap64 (2 * a5)) + 1)) true) else (if a1 < (wrap64 ((wrap64 (2 * a5)) - 1)) then (if a3 < (wrap64 ((wrap64 (2 * a5)) - 1)) then (spec_l18Meets.j0 k a0 a1 a2 a3 (wrap64 ((wrap64 (2 * a4)) - 1)) (wrap64 ((wrap64 (2 * a4)) + 1)) (wrap64 ((wrap64 (2 * a5)) - 1)) (wrap64 ((wrap64 (2 * a5)) + 1)) true) else (if a1 > (wrap64 ((wrap64 (2 * a5)) + 1)) then (spec_l18Meets.j0 k a0 a1 a2 a3 (wrap64 ((wrap64 (2 * a4)) - 1)) (wrap64 ((wrap64 (2 * a4)) + 1)) (wrap64 ((wrap64 (2 * a5)) - 1)) (wrap64 ((wrap64 (2 * a5)) + 1)) (decide (a3 > (wrap64 ((wrap64 (2 * a5)) + 1))))) else (spec_l18Meets.j0 k a0 a1 a2 a3 (wrap64 ((wrap64 (2 * a4)) - 1)) (wrap64 ((wrap64 (2 * a4)) + 1)) (wrap64 ((wrap64 (2 * a5)) - 1)) (wrap64 ((wrap64 (2 * a5)) + 1)) false))) else (if a1 > (wrap64 ((wrap64 (2 * a5)) + 1)) then (spec_l18Meets.j0 k a0 a1 a2 a3 (wrap64 ((wrap64 (2 * a4)) - 1)) (wrap64 ((wrap64 (2 * a4)) + 1)) (wrap64 ((wrap64 (2 * a5)) - 1)) (wrap64 ((wrap64 (2 * a5)) + 1)) (decide (a3 > (wrap64 ((wrap64 (2 * a5)) + 1))))) else (spec_l18Meets.j0 k a0 a1 a2 a3 (wrap64 ((wrap64 (2 * a4)) - 1)) (wrap64 ((wrap64 (2 * a4)) + 1)) (wrap64 ((wrap64 (2 * a5)) - 1)) (wrap64 ((wrap64 (2 * a5)) + 1)) false)))) else (if a1 < (wrap64 ((wrap64 (2 * a5)) - 1)) then (if a3 < (wrap64 ((wrap64 (2 * a5)) - 1)) then (spec_l18Meets.j0 k a0 a1 a2 a3 (wrap64 ((wrap64 (2 * a4)) - 1)) (wrap64 ((wrap64 (2 * a4)) + 1)) (wrap64 ((wrap64 (2 * a5)) - 1)) (wrap64 ((wrap64 (2 * a5)) + 1)) true) else (if a1 > (wrap64 ((wrap64 (2 * a5)) + 1)) then (spec_l18Meets.j0 k a0 a1 a2 a3 (wrap64 ((wrap64 (2 * a4)) - 1)) (wrap64 ((wrap64 (2 * a4)) + 1)) (wrap64 ((wrap64 (2 * a5)) - 1)) (wrap64 ((wrap64 (2 * a5)) + 1)) (decide (a3 > (wrap64 ((wrap64 (2 * a5)) + 1))))) else (spec_l18Meets.j0 k a0 a1 a2 a3 (wrap64 ((wrap64 (2 * a4)) - 1)) (wrap64 ((wrap64 (2 * a4)) + 1)) (wrap64 ((wrap64 (2 * a5)) - 1)) (wrap64 ((wrap64 (2 * a5)) + 1)) false))) else (if a1 > (wrap64 ((wrap64 (2 * a5)) + 1)) then (spec_l18Meets.j0 k a0 a1 a2 a3 (wrap64 ((wrap64 (2 * a4)) - 1)) (wrap64 ((wrap64 (2 * a4)) + 1)) (wrap64 ((wrap64 (2 * a5)) - 1)) (wrap64 ((wrap64 (2 * a5)) + 1)) (decide (a3 > (wrap64 ((wrap64 (2 * a5)) + 1))))) else (spec_l18Meets.j0 k a0 a1 a2 a3 (wrap64 ((wrap64 (2 * a4)) - 1)) (wrap64 ((wrap64 (2 * a4)) + 1)) (wrap64 ((wrap64 (2 * a5)) - 1)) (wrap64 ((wrap64 (2 * a5)) + 1)) false))))) else (if a0 > (wrap64 ((wrap64 (2 * a4)) + 1)) then (if a2 > (wrap64 ((wrap64 (2 * a4)) + 1)) then (spec_l18Meets.j0 k a0 a1 a2 a3 (wrap64 ((wrap64 (2 * a4)) - 1)) (wrap64 ((wrap64 (2 * a4)) + 1)) (wrap64 ((wrap64 (2 * a5)) - 1)) (wrap64 ((wrap64 (2 * a5)) + 1)) true) else (if a1 < (wrap64 ((wrap64 (2 * a5)) - 1)) then (if a3 < (wrap64 ((wrap64 (2 * a5)) - 1)) then (spec_l18Meets.j0 k a0 a1 a2 a3 (wrap64 ((wrap64 (2 * a4)) - 1)) (wrap64 ((wrap64 (2 * a4)) + 1)) (wrap64 ((wrap64 (2 * a5)) - 1)) (wrap64 ((wrap64 (2 * a5)) + 1)) true) else (if a1 > (wrap64 ((wrap64 (2 * a5)) + 1)) then (spec_l18Meets.j0 k a0 a1 a2 a3 (wrap64 ((wrap64 (2 * a4)) - 1)) (wrap64 ((wrap64 (2 * a4)) + 1)) (wrap64 ((wrap64 (2 * a5)) - 1)) (wrap64 ((wrap64 (2 * a5)) + 1)) (decide (a3 > (wrap64 ((wrap64 (2 * a5)) + 1))))) else (spec_l18Meets.j0 k a0 a1 a2 a3 (wrap64 ((wrap64 (2 * a4)) - 1)) (wrap64 ((wrap64 (2 * a4)) + 1)) (wrap64 ((wrap64 (2 * a5)) - 1)) (wrap64 ((wrap64 (2 * a5)) + 1)) false))) else (if a1 > (wrap64 ((wrap64 (2 * a5)) + 1)) then (spec_l18Meets.j0 k a0 a1 a2 a3 (wrap64 ((wrap64 (2 * a4)) - 1)) (wrap64 ((wrap64 (2 * a4)) + 1)) (wrap64 ((wrap64 (2 * a5)) - 1)) (wrap64 ((wrap64 (2 * a5)) + 1)) (decide (a3 > (wrap64 ((wrap64 (2 * a5)) + 1))))) else (spec_l18Meets.j0 k a0 a1 a2 a3 (wrap64 ((wrap64 (2 * a4)) - 1)) (wrap64 ((wrap64 (2 * a4)) + 1)) (wrap64 ((wrap64 (2 * a5)) - 1)) (wrap64 ((wrap64 (2 * a5)) + 1)) false)))) else (if a1 < (wrap64 ((wrap64 (2 * a5)) - 1)) then (if a3 < (wrap64 ((wrap64 (2 * a5)) - 1)) then (spec_l18Meets.j0 k a0 a1 a2 a3 (wrap64 ((wrap64 (2 * a4)) - 1)) (wrap64 ((wrap64 (2 * a4)) + 1)) (wrap64 ((wrap64 (2 * a5)) - 1)) (wrap64 ((wrap64 (2 * a5)) + 1)) true) else (if a1 > (wrap64 ((wrap64 (2 * a5)) + 1)) then (spec_l18Meets.j0 k a0 a1 a2 a3 (wrap64 ((wrap64 (2 * a4)) - 1)) (wrap64 ((wrap64 (2 * a4)) + 1)) (wrap64 ((wrap64 (2 * a5)) - 1)) (wrap64 ((wrap64 (2 * a5)) + 1)) (decide (a3 > (wrap64 ((wrap64 (2 * a5)) + 1))))) else (spec_l18Meets.j0 k a0 a1 a2 a3 (wrap64 ((wrap64 (2 * a4)) - 1)) (wrap64 ((wrap64 (2 * a4)) + 1)) (wrap64 ((wrap64 (2 * a5)) - 1)) (wrap64 ((wrap64 (2 * a5)) + 1)) false))) else (if a1 > (wrap64 ((wrap64 (2 * a5)) + 1)) then (spec_l18Meets.j0 k a0 a1 a2 a3 (wrap64 ((wrap64 (2 * a4)) - 1)) (wrap64 ((wrap64 (2 * a4)) + 1)) (wrap64 ((wrap64 (2 * a5)) - 1)) (wrap64 ((wrap64 (2 * a5)) + 1)) (decide (a3 > (wrap64 ((wrap64 (2 * a5)) + 1))))) else (spec_l18Meets.j0 k a0 a1 a2 a3 (wrap64 ((wrap64 (2 * a4)) - 1)) (wrap64 ((wrap64 (2 * a4)) + 1)) (wrap64 ((wrap64 (2 * a5)) - 1)) (wrap64 ((wrap64 (2 * a5)) + 1)) false))))
theorem spec_l18Meets.mono_l : ∀ k, (∀ y0 y1 y2 y3 y4 y5 y6 y7 y8, LeO (spec_l18Meets.j0 k y0 y1 y2 y3 y4 y5 y6 y7 y8) (spec_l18Meets.j0 (k + 1) y0 y1 y2 y3 y4 y5 y6 y7 y8)) ∧ (∀ y0 y1 y2 y3 y4 y5 y6 y7 y8 y9 y10, LeO (spec_l18Meets.l0 k y0 y1 y2 y3 y4 y5 y6 y7 y8 y9 y10) (spec_l18Meets.l0 (k + 1) y0 y1 y2 y3 y4 y5 y6 y7 y8 y9 y10)) ∧ (∀ y0 y1 y2 y3 y4 y5 y6 y7 y8 y9 y10 y11 y12 y13 y14, LeO (spec_l18Meets.l1 k y0 y1 y2 y3 y4 y5 y6 y7 y8 y9 y10 y11 y12 y13 y14) (spec_l18Meets.l1 (k + 1) y0 y1 y2 y3 y4 y5 y6 y7 y8 y9 y10 y11 y12 y13 y14))
  | 0 => ⟨fun _ _ _ _ _ _ _ _ _ r h => by simp [spec_l18Meets.j0] at h, fun _ _ _ _ _ _ _ _ _ _ _ r h => by simp [spec_l18Meets.l0] at h, fun _ _ _ _ _ _ _ _ _ _ _ _ _ _ _ r h => by simp [spec_l18Meets.l1] at h⟩
  | k + 1 => by
    obtain ⟨ih0, ih1, ih2⟩ := spec_l18Meets.mono_l k
    refine ⟨?_, ?_, ?_⟩
    · intro y0 y1 y2 y3 y4 y5 y6 y7 y8
      unfold spec_l18Meets.j0
      repeat' first | (with_reducible first | exact ih0 _ _ _ _ _ _ _ _ _ | exact ih1 _ _ _ _ _ _ _ _ _ _ _ | exact ih2 _ _ _ _ _ _ _ _ _ _ _ _ _ _ _ | exact LeO.refl _ | exact LeO.none _ | refine LeO.ite ?_ ?_ | refine LeO.bind ?_ (fun _ => ?_)) | exact ih0 _ _ _ _ _ _ _ _ _ | exact ih1 _ _ _ _ _ _ _ _ _ _ _ | exact ih2 _ _ _ _ _ _ _ _ _ _ _ _ _ _ _ | exact LeO.none _ | refine LeO.ite ?_ ?_ | refine LeO.bind ?_ (fun _ => ?_)
    · intro y0 y1 y2 y3 y4 y5 y6 y7 y8 y9 y10
      unfold spec_l18Meets.l0
      repeat' first | (with_reducible first | exact ih0 _ _ _ _ _ _ _ _ _ | exact ih1 _ _ _ _ _ _ _ _ _ _ _ | exact ih2 _ _ _ _ _ _ _ _ _ _ _ _ _ _ _ | exact LeO.refl _ | exact LeO.none _ | refine LeO.ite ?_ ?_ | refine LeO.bind ?_ (fun _ => ?_)) | exact ih0 _ _ _ _ _ _ _ _ _ | exact ih1 _ _ _ _ _ _ _ _ _ _ _ | exact ih2 _ _ _ _ _ _ _ _ _ _ _ _ _ _ _ | exact LeO.none _ | refine LeO.ite ?_ ?_ | refine LeO.bind ?_ (fun _ => ?_)
    · intro y0 y1 y2 y3 y4 y5 y6 y7 y8 y9 y10 y11 y12 y13 y14
      unfold spec_l18Meets.l1
      repeat' first | (with_reducible first | exact ih0 _ _ _ _ _ _ _ _ _ | exact ih1 _ _ _ _ _ _ _ _ _ _ _ | exact ih2 _ _ _ _ _ _ _ _ _ _ _ _ _ _ _ | exact LeO.refl _ | exact LeO.none _ | refine LeO.ite ?_ ?_ | refine LeO.bind ?_ (fun _ => ?_)) | exact ih0 _ _ _ _ _ _ _ _ _ | exact ih1 _ _ _ _ _ _ _ _ _ _ _ | exact ih2 _ _ _ _ _ _ _ _ _ _ _ _ _ _ _ | exact LeO.none _ | refine LeO.ite ?_ ?_ | refine LeO.bind ?_ (fun _ => ?_)
theorem spec_l18Meets.mono : ∀ a0 a1 a2 a3 a4 a5 k, LeO (spec_l18Meets.f k a0 a1 a2 a3 a4 a5) (spec_l18Meets.f (k + 1) a0 a1 a2 a3 a4 a5) := by
  intro a0 a1 a2 a3 a4 a5 k
  obtain ⟨ih0, ih1, ih2⟩ := spec_l18Meets.mono_l k
  unfold spec_l18Meets.f
  repeat' first | (with_reducible first | exact ih0 _ _ _ _ _ _ _ _ _ | exact ih1 _ _ _ _ _ _ _ _ _ _ _ | exact ih2 _ _ _ _ _ _ _ _ _ _ _ _ _ _ _ | exact LeO.refl _ | exact LeO.none _ | refine LeO.ite ?_ ?_ | refine LeO.bind ?_ (fun _ => ?_)) | exact ih0 _ _ _ _ _ _ _ _ _ | exact ih1 _ _ _ _ _ _ _ _ _ _ _ | exact ih2 _ _ _ _ _ _ _ _ _ _ _ _ _ _ _ | exact LeO.none _ | refine LeO.ite ?_ ?_ | refine LeO.bind ?_ (fun _ => ?_)

/-! ### spec_l18Clear: function 39 -/
mutual
def spec_l18Clear.j0 : Nat → Int → Int → Bool → Int → List Int → Option (Bool)
  | 0, _, _, _, _, _ => none
  | k + 1, x1, x2, x21, x204000, x204001 => if x21 = true then (some false) else (if x204000 = 0 then (none) else (spec_l18Clear.l0 k (Int.tmod x1 x204000) (wrap64 (Int.tdiv x1 x204000)) (Int.tmod x2 x204000) (wrap64 (Int.tdiv x2 x204000)) (x204001.length : Int) 0 x204000 x204001))
def spec_l18Clear.l0 : Nat → Int → Int → Int → Int → Int → Int → Int → List Int → Option (Bool)
  | 0, _, _, _, _, _, _, _, _ => none
  | k + 1, x7, x8, x9, x10, x40, x41, x204000, x204001 => if x41 < x40 then (if 0 ≤ x41 then (if x41 < (x204001.length : Int) then (if (rd x204001 x41) = 0 then (spec_l18Clear.l0 k x7 x8 x9 x10 x40 (wrap64 (x41 + 1)) x204000 x204001) else (if x204000 = 0 then (none) else ((spec_l18Meets.f k (wrap64 (2 * x7)) (wrap64 (2 * x8)) (wrap64 (2 * x9)) (wrap64 (2 * x10)) (Int.tmod x41 x204000) (wrap64 (Int.tdiv x41 x204000))).bind fun t207 => (if t207 = true then (some false) else (spec_l18Clear.l0 k x7 x8 x9 x10 x40 (wrap64 (x41 + 1)) x204000 x204001))))) else (none)) else (none)) else (some true)
end
def spec_l18Clear.f (k : Nat) (a0_0 : Int) (l0_1 : List Int) (a1 : Int) (a2 : Int) : Option (Bool) := (spec_l12Free.f a0_0 l0_1 a1).bind fun t204 => (if t204 = true then ((spec_l12Free.f a0_0 l0_1 a2).bind fun t205 => (spec_l18Clear.j0 k a1 a2 (!t205) a0_0 l0_1)) else (spec_l18Clear.j0 k a1 a2 true a0_0 l0_1))
theorem spec_l18Clear.mono_l : ∀ k, (∀ y0 y1 y2 y3 y4, LeO (spec_l18Clear.j0 k y0 y1 y2 y3 y4) (spec_l18Clear.j0 (k + 1) y0 y1 y2 y3 y4)) ∧ (∀ y0 y1 y2 y3 y4 y5 y6 y7, LeO (spec_l18Clear.l0 k y0 y1 y2 y3 y4 y5 y6 y7) (spec_l18Clear.l0 (k + 1) y0 y1 y2 y3 y4 y5 y6 y7))
  | 0 => ⟨fun _ _ _ _ _ r h => by simp [spec_l18Clear.j0] at h, fun _ _ _ _ _ _ _ _ r h => by simp [spec_l18Clear.l0] at h⟩
  | k + 1 => by
    obtain ⟨ih0, ih1⟩ := spec_l18Clear.mono_l k
    refine ⟨?_, ?_⟩
    · intro y0 y1 y2 y3 y4
      unfold spec_l18Clear.j0
      repeat' first | (with_reducible first | exact ih0 _ _ _ _ _ | exact ih1 _ _ _ _ _ _ _ _ | exact spec_l18Meets.mono _ _ _ _ _ _ _ | exact LeO.refl _ | exact LeO.none _ | refine LeO.ite ?_ ?_ | refine LeO.bind ?_ (fun _ => ?_)) | exact ih0 _ _ _ _ _ | exact ih1 _ _ _ _ _ _ _ _ | exact spec_l18Meets.mono _ _ _ _ _ _ _ | exact LeO.none _ | refine LeO.ite ?_ ?_ | refine LeO.bind ?_ (fun _ => ?_)
    · intro y0 y1 y2 y3 y4 y5 y6 y7
      unfold spec_l18Clear.l0
      repeat' first | (with_reducible first | exact ih0 _ _ _ _ _ | exact ih1 _ _ _ _ _ _ _ _ | exact spec_l18Meets.mono _ _ _ _ _ _ _ | exact LeO.refl _ | exact LeO.none _ | refine LeO.ite ?_ ?_ | refine LeO.bind ?_ (fun _ => ?_)) | exact ih0 _ _ _ _ _ | exact ih1 _ _ _ _ _ _ _ _ | exact spec_l18Meets.mono _ _ _ _ _ _ _ | exact LeO.none _ | refine LeO.ite ?_ ?_ | refine LeO.bind ?_ (fun _ => ?_)
theorem spec_l18Clear.mono : ∀ a0 a1 a2 a3 k, LeO (spec_l18Clear.f k a0 a1 a2 a3) (spec_l18Clear.f (k + 1) a0 a1 a2 a3) := by
  intro a0 a1 a2 a3 k
  obtain ⟨ih0, ih1⟩ := spec_l18Clear.mono_l k
  unfold spec_l18Clear.f
  repeat' first | (with_reducible first | exact ih0 _ _ _ _ _ | exact ih1 _ _ _ _ _ _ _ _ | exact spec_l18Meets.mono _ _ _ _ _ _ _ | exact LeO.refl _ | exact LeO.none _ | refine LeO.ite ?_ ?_ | refine LeO.bind ?_ (fun _ => ?_)) | exact ih0 _ _ _ _ _ | exact ih1 _ _ _ _ _ _ _ _ | exact spec_l18Meets.mono _ _ _ _ _ _ _ | exact LeO.none _ | refine LeO.ite ?_ ?_ | refine LeO.bind ?_ (fun _ => ?_)

/-! ### spec_Clear: function 11 -/
def spec_Clear.f (k : Nat) (a0_0 : Int) (l0_1 : List Int) (a1 : Int) (a2 : Int) : Option (Bool) := (spec_GoodCells.f k a0_0 l0_1).bind fun t209 => (if t209 = true then ((spec_l18Clear.f k a0_0 l0_1 a1 a2).bind fun t210 => (some t210)) else (some false))
theorem spec_Clear.mono : ∀ a0 a1 a2 a3 k, LeO (spec_Clear.f k a0 a1 a2 a3) (spec_Clear.f (k + 1) a0 a1 a2 a3) := by
  intro a0 a1 a2 a3 k
  unfold spec_Clear.f
  repeat' first | (with_reducible first | exact spec_GoodCells.mono _ _ _ | exact spec_l18Clear.mono _ _ _ _ _ | exact LeO.refl _ | exact LeO.none _ | refine LeO.ite ?_ ?_ | refine LeO.bind ?_ (fun _ => ?_)) | exact spec_GoodCells.mono _ _ _ | exact spec_l18Clear.mono _ _ _ _ _ | exact LeO.none _ | refine LeO.ite ?_ ?_ | refine LeO.bind ?_ (fun _ => ?_)

end Go.Proofs.Ytjcmlggdaajicaa.Pr
