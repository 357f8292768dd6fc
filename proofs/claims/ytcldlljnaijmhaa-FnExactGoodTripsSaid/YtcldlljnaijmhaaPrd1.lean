-- Written by this session's own print (wip/tools/mkmp.py) out of the translation. Lean checks it.
import Derived.Test.YtcldlljnaijmhaaPr0
namespace Go.Proofs.Ytcldlljnaijmhaa.Pr
open Go.RowKit Go.Proofs.YtcldlljnaijmhaaW.PrintWords Go.Proofs.YtcldlljnaijmhaaW.PrintLast Go.Proofs.YtcldlljnaijmhaaW.PrintMore
attribute [local go_sem] max2_int min2_int max_two min_two max_three min_three max_four min_four   -- for this text's walks alone
set_option linter.unusedVariables false
set_option linter.unusedSimpArgs false

/-! ### spec_WaitRing: function 12 -/
mutual
def spec_WaitRing.l0 : Nat → List Int → List Int → Int → Int → Option (List Int)
  | 0, _, _, _, _ => none
  | k + 1, x0, x12, x13, x14 => if x14 < x13 then (if 0 ≤ x14 then (if x14 < (x12.length : Int) then (if (rd x12 x14) < (-1) then (some ([] : List Int)) else (if (rd x12 x14) ≥ (x0.length : Int) then (some ([] : List Int)) else (spec_WaitRing.l0 k x0 x12 x13 (wrap64 (x14 + 1))))) else (none)) else (none)) else (spec_WaitRing.l1 k x0 ([] : List Int) (x0.length : Int) 0)
def spec_WaitRing.l1 : Nat → List Int → List Int → Int → Int → Option (List Int)
  | 0, _, _, _, _ => none
  | k + 1, x0, x5, x28, x29 => if x29 < x28 then (if 0 ≤ x29 then (if x29 < (x0.length : Int) then (spec_WaitRing.l2 k x0 x5 x29 (rd x0 x29) 0 x28 x29) else (none)) else (none)) else (some x5)
def spec_WaitRing.l2 : Nat → List Int → List Int → Int → Int → Int → Int → Int → Option (List Int)
  | 0, _, _, _, _, _, _, _ => none
  | k + 1, x0, x5, x6, x7, x8, x28, x29 => if x8 < (x0.length : Int) then (if x7 ≥ 0 then (if x7 = x6 then (if x5.length < 17592186044416 then (spec_WaitRing.l1 k x0 (x5 ++ [x6]) x28 (wrap64 (x29 + 1))) else (none)) else (if 0 ≤ x7 then (if x7 < (x0.length : Int) then (spec_WaitRing.l2 k x0 x5 x6 (rd x0 x7) (wrap64 (x8 + 1)) x28 x29) else (none)) else (none))) else (if x7 = x6 then (if x5.length < 17592186044416 then (spec_WaitRing.l1 k x0 (x5 ++ [x6]) x28 (wrap64 (x29 + 1))) else (none)) else (spec_WaitRing.l1 k x0 x5 x28 (wrap64 (x29 + 1))))) else (if x7 = x6 then (if x5.length < 17592186044416 then (spec_WaitRing.l1 k x0 (x5 ++ [x6]) x28 (wrap64 (x29 + 1))) else (none)) else (spec_WaitRing.l1 k x0 x5 x28 (wrap64 (x29 + 1))))
end
def spec_WaitRing.f (k : Nat) (l0 : List Int) : Option (List Int) := if (l0.length : Int) > 5 then (some ([] : List Int)) else (spec_WaitRing.l0 k l0 l0 (l0.length : Int) 0)
theorem spec_WaitRing.mono_l : ∀ k, (∀ y0 y1 y2 y3, LeO (spec_WaitRing.l0 k y0 y1 y2 y3) (spec_WaitRing.l0 (k + 1) y0 y1 y2 y3)) ∧ (∀ y0 y1 y2 y3, LeO (spec_WaitRing.l1 k y0 y1 y2 y3) (spec_WaitRing.l1 (k + 1) y0 y1 y2 y3)) ∧ (∀ y0 y1 y2 y3 y4 y5 y6, LeO (spec_WaitRing.l2 k y0 y1 y2 y3 y4 y5 y6) (spec_WaitRing.l2 (k + 1) y0 y1 y2 y3 y4 y5 y6))
  | 0 => ⟨fun _ _ _ _ r h => by simp [spec_WaitRing.l0] at h, fun _ _ _ _ r h => by simp [spec_WaitRing.l1] at h, fun _ _ _ _ _ _ _ r h => by simp [spec_WaitRing.l2] at h⟩
  | k + 1 => by
    obtain ⟨ih0, ih1, ih2⟩ := spec_WaitRing.mono_l k
    refine ⟨?_, ?_, ?_⟩
    · intro y0 y1 y2 y3
      unfold spec_WaitRing.l0
      repeat' first | (with_reducible first | exact ih0 _ _ _ _ | exact ih1 _ _ _ _ | exact ih2 _ _ _ _ _ _ _ | exact LeO.refl _ | exact LeO.none _ | refine LeO.ite ?_ ?_ | refine LeO.bind ?_ (fun _ => ?_)) | exact ih0 _ _ _ _ | exact ih1 _ _ _ _ | exact ih2 _ _ _ _ _ _ _ | exact LeO.none _ | refine LeO.ite ?_ ?_ | refine LeO.bind ?_ (fun _ => ?_)
    · intro y0 y1 y2 y3
      unfold spec_WaitRing.l1
      repeat' first | (with_reducible first | exact ih0 _ _ _ _ | exact ih1 _ _ _ _ | exact ih2 _ _ _ _ _ _ _ | exact LeO.refl _ | exact LeO.none _ | refine LeO.ite ?_ ?_ | refine LeO.bind ?_ (fun _ => ?_)) | exact ih0 _ _ _ _ | exact ih1 _ _ _ _ | exact ih2 _ _ _ _ _ _ _ | exact LeO.none _ | refine LeO.ite ?_ ?_ | refine LeO.bind ?_ (fun _ => ?_)
    · intro y0 y1 y2 y3 y4 y5 y6
      unfold spec_WaitRing.l2
      repeat' first | (with_reducible first | exact ih0 _ _ _ _ | exact ih1 _ _ _ _ | exact ih2 _ _ _ _ _ _ _ | exact LeO.refl _ | exact LeO.none _ | refine LeO.ite ?_ ?_ | refine LeO.bind ?_ (fun _ => ?_)) | exact ih0 _ _ _ _ | exact ih1 _ _ _ _ | exact ih2 _ _ _ _ _ _ _ | exact LeO.none _ | refine LeO.ite ?_ ?_ | refine LeO.bind ?_ (fun _ => ?_)
theorem spec_WaitRing.mono : ∀ a0 k, LeO (spec_WaitRing.f k a0) (spec_WaitRing.f (k + 1) a0) := by
  intro a0 k
  obtain ⟨ih0, ih1, ih2⟩ := spec_WaitRing.mono_l k
  unfold spec_WaitRing.f
  repeat' first | (with_reducible first | exact ih0 _ _ _ _ | exact ih1 _ _ _ _ | exact ih2 _ _ _ _ _ _ _ | exact LeO.refl _ | exact LeO.none _ | refine LeO.ite ?_ ?_ | refine LeO.bind ?_ (fun _ => ?_)) | exact ih0 _ _ _ _ | exact ih1 _ _ _ _ | exact ih2 _ _ _ _ _ _ _ | exact LeO.none _ | refine LeO.ite ?_ ?_ | refine LeO.bind ?_ (fun _ => ?_)

/-! ### laws_toIntS: function 13 -/
def laws_toIntS.l0 : Nat → List Int → List Int → Int → Option (List Int)
  | 0, _, _, _ => none
  | k + 1, x0, x3, x4 => if x4 < (x0.length : Int) then (if 0 ≤ x4 then (if x4 < (x3.length : Int) then (laws_toIntS.l0 k x0 (x3.set (x4 : Int).toNat (rd x0 x4)) (wrap64 (x4 + 1))) else (none)) else (none)) else (some x3)
def laws_toIntS.f (k : Nat) (l0 : List Int) : Option (List Int) := if 0 ≤ (l0.length : Int) then (if ((l0.length : Int) : Int).toNat ≤ 35184372088832 then (laws_toIntS.l0 k l0 (List.replicate ((l0.length : Int) : Int).toNat 0) 0) else (none)) else (none)
theorem laws_toIntS.mono_l : ∀ k, (∀ y0 y1 y2, LeO (laws_toIntS.l0 k y0 y1 y2) (laws_toIntS.l0 (k + 1) y0 y1 y2))
  | 0 => fun _ _ _ r h => by simp [laws_toIntS.l0] at h
  | k + 1 => by
    have ih0 := laws_toIntS.mono_l k
    · intro y0 y1 y2
      unfold laws_toIntS.l0
      repeat' first | (with_reducible first | exact ih0 _ _ _ | exact LeO.refl _ | exact LeO.none _ | refine LeO.ite ?_ ?_ | refine LeO.bind ?_ (fun _ => ?_)) | exact ih0 _ _ _ | exact LeO.none _ | refine LeO.ite ?_ ?_ | refine LeO.bind ?_ (fun _ => ?_)
theorem laws_toIntS.mono : ∀ a0 k, LeO (laws_toIntS.f k a0) (laws_toIntS.f (k + 1) a0) := by
  intro a0 k
  have ih0 := laws_toIntS.mono_l k
  unfold laws_toIntS.f
  repeat' first | (with_reducible first | exact ih0 _ _ _ | exact LeO.refl _ | exact LeO.none _ | refine LeO.ite ?_ ?_ | refine LeO.bind ?_ (fun _ => ?_)) | exact ih0 _ _ _ | exact LeO.none _ | refine LeO.ite ?_ ?_ | refine LeO.bind ?_ (fun _ => ?_)

/-! ### impl_WaitRing: function 14 -/
mutual
def impl_WaitRing.l0 : Nat → List Int → Int → List Int → Int → Int → Option (List Int)
  | 0, _, _, _, _, _ => none
  | k + 1, x0, x3, x14, x15, x16 => if x16 < x15 then (if 0 ≤ x16 then (if x16 < (x14.length : Int) then (if (rd x14 x16) < (-1) then (some ([] : List Int)) else (if (rd x14 x16) ≥ x3 then (some ([] : List Int)) else (impl_WaitRing.l0 k x0 x3 x14 x15 (wrap64 (x16 + 1))))) else (none)) else (none)) else (impl_WaitRing.l1 k x0 x3 ([] : List Int) (x0.length : Int) 0)
def impl_WaitRing.l1 : Nat → List Int → Int → List Int → Int → Int → Option (List Int)
  | 0, _, _, _, _, _ => none
  | k + 1, x0, x3, x6, x29, x30 => if x30 < x29 then (if 0 ≤ x30 then (if x30 < (x0.length : Int) then (impl_WaitRing.l2 k x0 x3 x6 x30 (rd x0 x30) 0 x29 x30) else (none)) else (none)) else (some x6)
def impl_WaitRing.l2 : Nat → List Int → Int → List Int → Int → Int → Int → Int → Int → Option (List Int)
  | 0, _, _, _, _, _, _, _, _ => none
  | k + 1, x0, x3, x6, x7, x8, x9, x29, x30 => if x9 < x3 then (if x8 ≥ 0 then (if x8 = x7 then (if x6.length < 17592186044416 then (impl_WaitRing.l1 k x0 x3 (x6 ++ [x7]) x29 (wrap64 (x30 + 1))) else (none)) else (if 0 ≤ x8 then (if x8 < (x0.length : Int) then (impl_WaitRing.l2 k x0 x3 x6 x7 (rd x0 x8) (wrap64 (x9 + 1)) x29 x30) else (none)) else (none))) else (if x8 = x7 then (if x6.length < 17592186044416 then (impl_WaitRing.l1 k x0 x3 (x6 ++ [x7]) x29 (wrap64 (x30 + 1))) else (none)) else (impl_WaitRing.l1 k x0 x3 x6 x29 (wrap64 (x30 + 1))))) else (if x8 = x7 then (if x6.length < 17592186044416 then (impl_WaitRing.l1 k x0 x3 (x6 ++ [x7]) x29 (wrap64 (x30 + 1))) else (none)) else (impl_WaitRing.l1 k x0 x3 x6 x29 (wrap64 (x30 + 1))))
end
def impl_WaitRing.f (k : Nat) (l0 : List Int) : Option (List Int) := if (l0.length : Int) > 5 then (some ([] : List Int)) else (impl_WaitRing.l0 k l0 (l0.length : Int) l0 (l0.length : Int) 0)
theorem impl_WaitRing.mono_l : ∀ k, (∀ y0 y1 y2 y3 y4, LeO (impl_WaitRing.l0 k y0 y1 y2 y3 y4) (impl_WaitRing.l0 (k + 1) y0 y1 y2 y3 y4)) ∧ (∀ y0 y1 y2 y3 y4, LeO (impl_WaitRing.l1 k y0 y1 y2 y3 y4) (impl_WaitRing.l1 (k + 1) y0 y1 y2 y3 y4)) ∧ (∀ y0 y1 y2 y3 y4 y5 y6 y7, LeO (impl_WaitRing.l2 k y0 y1 y2 y3 y4 y5 y6 y7) (impl_WaitRing.l2 (k + 1) y0 y1 y2 y3 y4 y5 y6 y7))
  | 0 => ⟨fun _ _ _ _ _ r h => by simp [impl_WaitRing.l0] at h, fun _ _ _ _ _ r h => by simp [impl_WaitRing.l1] at h, fun _ _ _ _ _ _ _ _ r h => by simp [impl_WaitRing.l2] at h⟩
  | k + 1 => by
    obtain ⟨ih0, ih1, ih2⟩ := impl_WaitRing.mono_l k
    refine ⟨?_, ?_, ?_⟩
    · intro y0 y1 y2 y3 y4
      unfold impl_WaitRing.l0
      repeat' first | (with_reducible first | exact ih0 _ _ _ _ _ | exact ih1 _ _ _ _ _ | exact ih2 _ _ _ _ _ _ _ _ | exact LeO.refl _ | exact LeO.none _ | refine LeO.ite ?_ ?_ | refine LeO.bind ?_ (fun _ => ?_)) | exact ih0 _ _ _ _ _ | exact ih1 _ _ _ _ _ | exact ih2 _ _ _ _ _ _ _ _ | exact LeO.none _ | refine LeO.ite ?_ ?_ | refine LeO.bind ?_ (fun _ => ?_)
    · intro y0 y1 y2 y3 y4
      unfold impl_WaitRing.l1
      repeat' first | (with_reducible first | exact ih0 _ _ _ _ _ | exact ih1 _ _ _ _ _ | exact ih2 _ _ _ _ _ _ _ _ | exact LeO.refl _ | exact LeO.none _ | refine LeO.ite ?_ ?_ | refine LeO.bind ?_ (fun _ => ?_)) | exact ih0 _ _ _ _ _ | exact ih1 _ _ _ _ _ | exact ih2 _ _ _ _ _ _ _ _ | exact LeO.none _ | refine LeO.ite ?_ ?_ | refine LeO.bind ?_ (fun _ => ?_)
    · intro y0 y1 y2 y3 y4 y5 y6 y7
      unfold impl_WaitRing.l2
      repeat' first | (with_reducible first | exact ih0 _ _ _ _ _ | exact ih1 _ _ _ _ _ | exact ih2 _ _ _ _ _ _ _ _ | exact LeO.refl _ | exact LeO.none _ | refine LeO.ite ?_ ?_ | refine LeO.bind ?_ (fun _ => ?_)) | exact ih0 _ _ _ _ _ | exact ih1 _ _ _ _ _ | exact ih2 _ _ _ _ _ _ _ _ | exact LeO.none _ | refine LeO.ite ?_ ?_ | refine LeO.bind ?_ (fun _ => ?_)
theorem impl_WaitRing.mono : ∀ a0 k, LeO (impl_WaitRing.f k a0) (impl_WaitRing.f (k + 1) a0) := by
  intro a0 k
  obtain ⟨ih0, ih1, ih2⟩ := impl_WaitRing.mono_l k
  unfold impl_WaitRing.f
  repeat' first | (with_reducible first | exact ih0 _ _ _ _ _ | exact ih1 _ _ _ _ _ | exact ih2 _ _ _ _ _ _ _ _ | exact LeO.refl _ | exact LeO.none _ | refine LeO.ite ?_ ?_ | refine LeO.bind ?_ (fun _ => ?_)) | exact ih0 _ _ _ _ _ | exact ih1 _ _ _ _ _ | exact ih2 _ _ _ _ _ _ _ _ | exact LeO.none _ | refine LeO.ite ?_ ?_ | refine LeO.bind ?_ (fun _ => ?_)

/-! ### laws_eqIntS: function 15 -/
def laws_eqIntS.l0 : Nat → List Int → List Int → Int → Option (Bool)
  | 0, _, _, _ => none
  | k + 1, x0, x1, x5 => if x5 < (x0.length : Int) then (if 0 ≤ x5 then (if x5 < (x1.length : Int) then (if (rd x0 x5) = (rd x1 x5) then (laws_eqIntS.l0 k x0 x1 (wrap64 (x5 + 1))) else (some false)) else (none)) else (none)) else (some true)
def laws_eqIntS.f (k : Nat) (l0 : List Int) (l1 : List Int) : Option (Bool) := if (l0.length : Int) = (l1.length : Int) then (laws_eqIntS.l0 k l0 l1 0) else (some false)
theorem laws_eqIntS.mono_l : ∀ k, (∀ y0 y1 y2, LeO (laws_eqIntS.l0 k y0 y1 y2) (laws_eqIntS.l0 (k + 1) y0 y1 y2))
  | 0 => fun _ _ _ r h => by simp [laws_eqIntS.l0] at h
  | k + 1 => by
    have ih0 := laws_eqIntS.mono_l k
    · intro y0 y1 y2
      unfold laws_eqIntS.l0
      repeat' first | (with_reducible first | exact ih0 _ _ _ | exact LeO.refl _ | exact LeO.none _ | refine LeO.ite ?_ ?_ | refine LeO.bind ?_ (fun _ => ?_)) | exact ih0 _ _ _ | exact LeO.none _ | refine LeO.ite ?_ ?_ | refine LeO.bind ?_ (fun _ => ?_)
theorem laws_eqIntS.mono : ∀ a0 a1 k, LeO (laws_eqIntS.f k a0 a1) (laws_eqIntS.f (k + 1) a0 a1) := by
  intro a0 a1 k
  have ih0 := laws_eqIntS.mono_l k
  unfold laws_eqIntS.f
  repeat' first | (with_reducible first | exact ih0 _ _ _ | exact LeO.refl _ | exact LeO.none _ | refine LeO.ite ?_ ?_ | refine LeO.bind ?_ (fun _ => ?_)) | exact ih0 _ _ _ | exact LeO.none _ | refine LeO.ite ?_ ?_ | refine LeO.bind ?_ (fun _ => ?_)

/-! ### laws_markIntS: function 16 -/
def laws_markIntS.l0 : Nat → List Int → Int → Int → Option (Int × List Int)
  | 0, _, _, _ => none
  | k + 1, x0, x1, x5 => if x5 < (x0.length : Int) then (if 0 ≤ x5 then (laws_markIntS.l0 k (x0.set (x5 : Int).toNat x1) (wrap64 (x1 + 1)) (wrap64 (x5 + 1))) else (none)) else (some (x1, x0))
def laws_markIntS.f (k : Nat) (l0 : List Int) (a1 : Int) : Option (Int × List Int) := laws_markIntS.l0 k l0 a1 0
theorem laws_markIntS.mono_l : ∀ k, (∀ y0 y1 y2, LeO (laws_markIntS.l0 k y0 y1 y2) (laws_markIntS.l0 (k + 1) y0 y1 y2))
  | 0 => fun _ _ _ r h => by simp [laws_markIntS.l0] at h
  | k + 1 => by
    have ih0 := laws_markIntS.mono_l k
    · intro y0 y1 y2
      unfold laws_markIntS.l0
      repeat' first | (with_reducible first | exact ih0 _ _ _ | exact LeO.refl _ | exact LeO.none _ | refine LeO.ite ?_ ?_ | refine LeO.bind ?_ (fun _ => ?_)) | exact ih0 _ _ _ | exact LeO.none _ | refine LeO.ite ?_ ?_ | refine LeO.bind ?_ (fun _ => ?_)
theorem laws_markIntS.mono : ∀ a0 a1 k, LeO (laws_markIntS.f k a0 a1) (laws_markIntS.f (k + 1) a0 a1) := by
  intro a0 a1 k
  have ih0 := laws_markIntS.mono_l k
  unfold laws_markIntS.f
  repeat' first | (with_reducible first | exact ih0 _ _ _ | exact LeO.refl _ | exact LeO.none _ | refine LeO.ite ?_ ?_ | refine LeO.bind ?_ (fun _ => ?_)) | exact ih0 _ _ _ | exact LeO.none _ | refine LeO.ite ?_ ?_ | refine LeO.bind ?_ (fun _ => ?_)

/-! ### laws_heldIntS: function 17 -/
def laws_heldIntS.l0 : Nat → List Int → Int → Int → Option (Int)
  | 0, _, _, _ => none
  | k + 1, x0, x1, x5 => if x5 < (x0.length : Int) then (if 0 ≤ x5 then (if (rd x0 x5) = x1 then (laws_heldIntS.l0 k x0 (wrap64 (x1 + 1)) (wrap64 (x5 + 1))) else (some (-1))) else (none)) else (some x1)
def laws_heldIntS.f (k : Nat) (l0 : List Int) (a1 : Int) : Option (Int) := laws_heldIntS.l0 k l0 a1 0
theorem laws_heldIntS.mono_l : ∀ k, (∀ y0 y1 y2, LeO (laws_heldIntS.l0 k y0 y1 y2) (laws_heldIntS.l0 (k + 1) y0 y1 y2))
  | 0 => fun _ _ _ r h => by simp [laws_heldIntS.l0] at h
  | k + 1 => by
    have ih0 := laws_heldIntS.mono_l k
    · intro y0 y1 y2
      unfold laws_heldIntS.l0
      repeat' first | (with_reducible first | exact ih0 _ _ _ | exact LeO.refl _ | exact LeO.none _ | refine LeO.ite ?_ ?_ | refine LeO.bind ?_ (fun _ => ?_)) | exact ih0 _ _ _ | exact LeO.none _ | refine LeO.ite ?_ ?_ | refine LeO.bind ?_ (fun _ => ?_)
theorem laws_heldIntS.mono : ∀ a0 a1 k, LeO (laws_heldIntS.f k a0 a1) (laws_heldIntS.f (k + 1) a0 a1) := by
  intro a0 a1 k
  have ih0 := laws_heldIntS.mono_l k
  unfold laws_heldIntS.f
  repeat' first | (with_reducible first | exact ih0 _ _ _ | exact LeO.refl _ | exact LeO.none _ | refine LeO.ite ?_ ?_ | refine LeO.bind ?_ (fun _ => ?_)) | exact ih0 _ _ _ | exact LeO.none _ | refine LeO.ite ?_ ?_ | refine LeO.bind ?_ (fun _ => ?_)

/-! ### laws_FnExactWaitRing: function 3 -/
def laws_FnExactWaitRing.j0 : Nat → List Int → List Int → List Int → Bool → Option (Bool)
  | 0, _, _, _, _ => none
  | k + 1, x0, x3, x5, x39 => if x39 = true then (some false) else ((laws_markIntS.f k x5 1).bind fun bt154 => ((laws_heldIntS.f k bt154.2 1).bind fun t156 => (if t156 < 0 then (some false) else (if t156 = bt154.1 then ((laws_toIntS.f k x0).bind fun t157 => ((impl_WaitRing.f k t157).bind fun t160 => ((laws_eqIntS.f k t160 x3).bind fun t163 => (if t163 = true then ((laws_heldIntS.f k bt154.2 1).bind fun t164 => (if t164 < 0 then (some false) else (if t164 = bt154.1 then (some true) else (some false)))) else (some false))))) else (some false)))))
def laws_FnExactWaitRing.f (k : Nat) (l0 : List Int) : Option (Bool) := if (l0.length : Int) > 1048576 then (some true) else ((laws_toIntS.f k l0).bind fun t134 => ((spec_WaitRing.f k t134).bind fun t137 => ((laws_toIntS.f k l0).bind fun t140 => ((impl_WaitRing.f k t140).bind fun t143 => ((laws_eqIntS.f k t143 t137).bind fun t146 => (if t146 = true then ((laws_toIntS.f k l0).bind fun t147 => ((laws_eqIntS.f k t140 t147).bind fun t150 => (if t150 = true then ((laws_markIntS.f k t140 1).bind fun bt151 => (if bt151.1 < 0 then (laws_FnExactWaitRing.j0 k l0 t137 t143 true) else ((laws_eqIntS.f k t143 t137).bind fun t153 => (laws_FnExactWaitRing.j0 k l0 t137 t143 (!t153))))) else (some false)))) else (some false)))))))
theorem laws_FnExactWaitRing.mono_l : ∀ k, (∀ y0 y1 y2 y3, LeO (laws_FnExactWaitRing.j0 k y0 y1 y2 y3) (laws_FnExactWaitRing.j0 (k + 1) y0 y1 y2 y3))
  | 0 => fun _ _ _ _ r h => by simp [laws_FnExactWaitRing.j0] at h
  | k + 1 => by
    have ih0 := laws_FnExactWaitRing.mono_l k
    · intro y0 y1 y2 y3
      unfold laws_FnExactWaitRing.j0
      repeat' first | (with_reducible first | exact ih0 _ _ _ _ | exact impl_WaitRing.mono _ _ | exact laws_eqIntS.mono _ _ _ | exact laws_heldIntS.mono _ _ _ | exact laws_markIntS.mono _ _ _ | exact laws_toIntS.mono _ _ | exact spec_WaitRing.mono _ _ | exact LeO.refl _ | exact LeO.none _ | refine LeO.ite ?_ ?_ | refine LeO.bind ?_ (fun _ => ?_)) | exact ih0 _ _ _ _ | exact impl_WaitRing.mono _ _ | exact laws_eqIntS.mono _ _ _ | exact laws_heldIntS.mono _ _ _ | exact laws_markIntS.mono _ _ _ | exact laws_toIntS.mono _ _ | exact spec_WaitRing.mono _ _ | exact LeO.none _ | refine LeO.ite ?_ ?_ | refine LeO.bind ?_ (fun _ => ?_)
theorem laws_FnExactWaitRing.mono : ∀ a0 k, LeO (laws_FnExactWaitRing.f k a0) (laws_FnExactWaitRing.f (k + 1) a0) := by
  intro a0 k
  have ih0 := laws_FnExactWaitRing.mono_l k
  unfold laws_FnExactWaitRing.f
  repeat' first | (with_reducible first | exact ih0 _ _ _ _ | exact impl_WaitRing.mono _ _ | exact laws_eqIntS.mono _ _ _ | exact laws_heldIntS.mono _ _ _ | exact laws_markIntS.mono _ _ _ | exact laws_toIntS.mono _ _ | exact spec_WaitRing.mono _ _ | exact LeO.refl _ | exact LeO.none _ | refine LeO.ite ?_ ?_ | refine LeO.bind ?_ (fun _ => ?_)) | exact ih0 _ _ _ _ | exact impl_WaitRing.mono _ _ | exact laws_eqIntS.mono _ _ _ | exact laws_heldIntS.mono _ _ _ | exact laws_markIntS.mono _ _ _ | exact laws_toIntS.mono _ _ | exact spec_WaitRing.mono _ _ | exact LeO.none _ | refine LeO.ite ?_ ?_ | refine LeO.bind ?_ (fun _ => ?_)

/-! ### laws_szIntS: function 50 -/
def laws_szIntS.f (l0 : List Int) (a1 : Int) : Option (Int) := if (wrap64 (a1 - (l0.length : Int))) < 0 then (some (-1)) else (some (wrap64 (a1 - (l0.length : Int))))

/-! ### laws_szIntSS: function 18 -/
def laws_szIntSS.l0 : Nat → List (List Int) → Int → Int → Option (Int)
  | 0, _, _, _ => none
  | k + 1, x0, x1, x5 => if x5 < (x0.length : Int) then (if 0 ≤ x5 then ((laws_szIntS.f (rd_L1 x0 x5) x1).bind fun t166 => (if t166 < 0 then (some (-1)) else (laws_szIntSS.l0 k x0 t166 (wrap64 (x5 + 1))))) else (none)) else (some x1)
def laws_szIntSS.f (k : Nat) (l0 : List (List Int)) (a1 : Int) : Option (Int) := if (wrap64 (a1 - (l0.length : Int))) < 0 then (some (-1)) else (laws_szIntSS.l0 k l0 (wrap64 (a1 - (l0.length : Int))) 0)
theorem laws_szIntSS.mono_l : ∀ k, (∀ y0 y1 y2, LeO (laws_szIntSS.l0 k y0 y1 y2) (laws_szIntSS.l0 (k + 1) y0 y1 y2))
  | 0 => fun _ _ _ r h => by simp [laws_szIntSS.l0] at h
  | k + 1 => by
    have ih0 := laws_szIntSS.mono_l k
    · intro y0 y1 y2
      unfold laws_szIntSS.l0
      repeat' first | (with_reducible first | exact ih0 _ _ _ | exact LeO.refl _ | exact LeO.none _ | refine LeO.ite ?_ ?_ | refine LeO.bind ?_ (fun _ => ?_)) | exact ih0 _ _ _ | exact LeO.none _ | refine LeO.ite ?_ ?_ | refine LeO.bind ?_ (fun _ => ?_)
theorem laws_szIntSS.mono : ∀ a0 a1 k, LeO (laws_szIntSS.f k a0 a1) (laws_szIntSS.f (k + 1) a0 a1) := by
  intro a0 a1 k
  have ih0 := laws_szIntSS.mono_l k
  unfold laws_szIntSS.f
  repeat' first | (with_reducible first | exact ih0 _ _ _ | exact LeO.refl _ | exact LeO.none _ | refine LeO.ite ?_ ?_ | refine LeO.bind ?_ (fun _ => ?_)) | exact ih0 _ _ _ | exact LeO.none _ | refine LeO.ite ?_ ?_ | refine LeO.bind ?_ (fun _ => ?_)

/-! ### spec_l20Hits: function 51 -/
def spec_l20Hits.f (l0 : List Int) (a1 : Int) (a2 : Int) (a3 : Int) : Option (Bool) := if 0 ≤ a1 then (if a1 < (l0.length : Int) then (if (rd l0 a1) = a3 then (some true) else (if a1 > 0 then (if 0 ≤ (wrap64 (a1 - 1)) then (if (wrap64 (a1 - 1)) < (l0.length : Int) then (if (rd l0 (wrap64 (a1 - 1))) = a3 then (some ((rd l0 a1) == a2)) else (some false)) else (none)) else (none)) else (some false))) else (none)) else (none)

/-! ### spec_FirstMeet: function 19 -/
mutual
def spec_FirstMeet.l0 : Nat → List (List Int) → List (List Int) → Int → Int → Option (Int)
  | 0, _, _, _, _ => none
  | k + 1, x0, x13, x14, x15 => if x15 < x14 then (if 0 ≤ x15 then (if x15 < (x13.length : Int) then (if 0 < (x0.length : Int) then (if ((rd_L1 x13 x15).length : Int) = ((rd_L1 x0 0).length : Int) then (spec_FirstMeet.l0 k x0 x13 x14 (wrap64 (x15 + 1))) else (some (-1))) else (none)) else (none)) else (none)) else (if (x0.length : Int) = 0 then (some (-1)) else (if 0 < (x0.length : Int) then (spec_FirstMeet.l1 k x0 ((rd_L1 x0 0).length : Int) 0) else (none)))
def spec_FirstMeet.l1 : Nat → List (List Int) → Int → Int → Option (Int)
  | 0, _, _, _ => none
  | k + 1, x0, x33, x34 => if x34 < x33 then (spec_FirstMeet.l2 k x0 x34 x33 x34 x0 (x0.length : Int) 0) else (some (-1))
def spec_FirstMeet.l2 : Nat → List (List Int) → Int → Int → Int → List (List Int) → Int → Int → Option (Int)
  | 0, _, _, _, _, _, _, _ => none
  | k + 1, x0, x5, x33, x34, x37, x38, x39 => if x39 < x38 then (if 0 ≤ x39 then (if x39 < (x37.length : Int) then (spec_FirstMeet.l3 k x0 x5 x39 (rd_L1 x37 x39) 0 x33 x34 x37 x38 x39) else (none)) else (none)) else (spec_FirstMeet.l1 k x0 x33 (wrap64 (x34 + 1)))
def spec_FirstMeet.l3 : Nat → List (List Int) → Int → Int → List Int → Int → Int → Int → List (List Int) → Int → Int → Option (Int)
  | 0, _, _, _, _, _, _, _, _, _, _ => none
  | k + 1, x0, x5, x6, x7, x8, x33, x34, x37, x38, x39 => if x8 < x6 then (if 0 ≤ x5 then (if x5 < (x7.length : Int) then (if x5 > 0 then (if 0 ≤ (wrap64 (x5 - 1)) then (if (wrap64 (x5 - 1)) < (x7.length : Int) then (if 0 ≤ x8 then (if x8 < (x0.length : Int) then ((spec_l20Hits.f (rd_L1 x0 x8) x5 (rd x7 (wrap64 (x5 - 1))) (rd x7 x5)).bind fun t178 => (if t178 = true then (some x5) else (spec_FirstMeet.l3 k x0 x5 x6 x7 (wrap64 (x8 + 1)) x33 x34 x37 x38 x39))) else (none)) else (none)) else (none)) else (none)) else (if 0 ≤ x8 then (if x8 < (x0.length : Int) then ((spec_l20Hits.f (rd_L1 x0 x8) x5 (rd x7 x5) (rd x7 x5)).bind fun t181 => (if t181 = true then (some x5) else (spec_FirstMeet.l3 k x0 x5 x6 x7 (wrap64 (x8 + 1)) x33 x34 x37 x38 x39))) else (none)) else (none))) else (none)) else (none)) else (spec_FirstMeet.l2 k x0 x5 x33 x34 x37 x38 (wrap64 (x39 + 1)))
end
def spec_FirstMeet.f (k : Nat) (l0 : List (List Int)) : Option (Int) := if (l0.length : Int) > 5 then (some (-1)) else (spec_FirstMeet.l0 k l0 l0 (l0.length : Int) 0)
theorem spec_FirstMeet.mono_l : ∀ k, (∀ y0 y1 y2 y3, LeO (spec_FirstMeet.l0 k y0 y1 y2 y3) (spec_FirstMeet.l0 (k + 1) y0 y1 y2 y3)) ∧ (∀ y0 y1 y2, LeO (spec_FirstMeet.l1 k y0 y1 y2) (spec_FirstMeet.l1 (k + 1) y0 y1 y2)) ∧ (∀ y0 y1 y2 y3 y4 y5 y6, LeO (spec_FirstMeet.l2 k y0 y1 y2 y3 y4 y5 y6) (spec_FirstMeet.l2 (k + 1) y0 y1 y2 y3 y4 y5 y6)) ∧ (∀ y0 y1 y2 y3 y4 y5 y6 y7 y8 y9, LeO (spec_FirstMeet.l3 k y0 y1 y2 y3 y4 y5 y6 y7 y8 y9) (spec_FirstMeet.l3 (k + 1) y0 y1 y2 y3 y4 y5 y6 y7 y8 y9))
  | 0 => ⟨fun _ _ _ _ r h => by simp [spec_FirstMeet.l0] at h, fun _ _ _ r h => by simp [spec_FirstMeet.l1] at h, fun _ _ _ _ _ _ _ r h => by simp [spec_FirstMeet.l2] at h, fun _ _ _ _ _ _ _ _ _ _ r h => by simp [spec_FirstMeet.l3] at h⟩
  | k + 1 => by
    obtain ⟨ih0, ih1, ih2, ih3⟩ := spec_FirstMeet.mono_l k
    refine ⟨?_, ?_, ?_, ?_⟩
    · intro y0 y1 y2 y3
      unfold spec_FirstMeet.l0
      repeat' first | (with_reducible first | exact ih0 _ _ _ _ | exact ih1 _ _ _ | exact ih2 _ _ _ _ _ _ _ | exact ih3 _ _ _ _ _ _ _ _ _ _ | exact LeO.refl _ | exact LeO.none _ | refine LeO.ite ?_ ?_ | refine LeO.bind ?_ (fun _ => ?_)) | exact ih0 _ _ _ _ | exact ih1 _ _ _ | exact ih2 _ _ _ _ _ _ _ | exact ih3 _ _ _ _ _ _ _ _ _ _ | exact LeO.none _ | refine LeO.ite ?_ ?_ | refine LeO.bind ?_ (fun _ => ?_)
    · intro y0 y1 y2
      unfold spec_FirstMeet.l1
      repeat' first | (with_reducible first | exact ih0 _ _ _ _ | exact ih1 _ _ _ | exact ih2 _ _ _ _ _ _ _ | exact ih3 _ _ _ _ _ _ _ _ _ _ | exact LeO.refl _ | exact LeO.none _ | refine LeO.ite ?_ ?_ | refine LeO.bind ?_ (fun _ => ?_)) | exact ih0 _ _ _ _ | exact ih1 _ _ _ | exact ih2 _ _ _ _ _ _ _ | exact ih3 _ _ _ _ _ _ _ _ _ _ | exact LeO.none _ | refine LeO.ite ?_ ?_ | refine LeO.bind ?_ (fun _ => ?_)
    · intro y0 y1 y2 y3 y4 y5 y6
      unfold spec_FirstMeet.l2
      repeat' first | (with_reducible first | exact ih0 _ _ _ _ | exact ih1 _ _ _ | exact ih2 _ _ _ _ _ _ _ | exact ih3 _ _ _ _ _ _ _ _ _ _ | exact LeO.refl _ | exact LeO.none _ | refine LeO.ite ?_ ?_ | refine LeO.bind ?_ (fun _ => ?_)) | exact ih0 _ _ _ _ | exact ih1 _ _ _ | exact ih2 _ _ _ _ _ _ _ | exact ih3 _ _ _ _ _ _ _ _ _ _ | exact LeO.none _ | refine LeO.ite ?_ ?_ | refine LeO.bind ?_ (fun _ => ?_)
    · intro y0 y1 y2 y3 y4 y5 y6 y7 y8 y9
      unfold spec_FirstMeet.l3
      repeat' first | (with_reducible first | exact ih0 _ _ _ _ | exact ih1 _ _ _ | exact ih2 _ _ _ _ _ _ _ | exact ih3 _ _ _ _ _ _ _ _ _ _ | exact LeO.refl _ | exact LeO.none _ | refine LeO.ite ?_ ?_ | refine LeO.bind ?_ (fun _ => ?_)) | exact ih0 _ _ _ _ | exact ih1 _ _ _ | exact ih2 _ _ _ _ _ _ _ | exact ih3 _ _ _ _ _ _ _ _ _ _ | exact LeO.none _ | refine LeO.ite ?_ ?_ | refine LeO.bind ?_ (fun _ => ?_)
theorem spec_FirstMeet.mono : ∀ a0 k, LeO (spec_FirstMeet.f k a0) (spec_FirstMeet.f (k + 1) a0) := by
  intro a0 k
  obtain ⟨ih0, ih1, ih2, ih3⟩ := spec_FirstMeet.mono_l k
  unfold spec_FirstMeet.f
  repeat' first | (with_reducible first | exact ih0 _ _ _ _ | exact ih1 _ _ _ | exact ih2 _ _ _ _ _ _ _ | exact ih3 _ _ _ _ _ _ _ _ _ _ | exact LeO.refl _ | exact LeO.none _ | refine LeO.ite ?_ ?_ | refine LeO.bind ?_ (fun _ => ?_)) | exact ih0 _ _ _ _ | exact ih1 _ _ _ | exact ih2 _ _ _ _ _ _ _ | exact ih3 _ _ _ _ _ _ _ _ _ _ | exact LeO.none _ | refine LeO.ite ?_ ?_ | refine LeO.bind ?_ (fun _ => ?_)

/-! ### laws_toIntSS: function 20 -/
def laws_toIntSS.l0 : Nat → List (List Int) → List (List Int) → Int → Option ((List (List Int)))
  | 0, _, _, _ => none
  | k + 1, x0, x3, x4 => if x4 < (x0.length : Int) then (if 0 ≤ x4 then ((laws_toIntS.f k (rd_L1 x0 x4)).bind fun t186 => (if x4 < (x3.length : Int) then (laws_toIntSS.l0 k x0 (x3.set (x4 : Int).toNat t186) (wrap64 (x4 + 1))) else (none))) else (none)) else (some x3)
def laws_toIntSS.f (k : Nat) (l0 : List (List Int)) : Option ((List (List Int))) := if 0 ≤ (l0.length : Int) then (if ((l0.length : Int) : Int).toNat ≤ 11728124029610 then (laws_toIntSS.l0 k l0 (List.replicate ((l0.length : Int) : Int).toNat []) 0) else (none)) else (none)
theorem laws_toIntSS.mono_l : ∀ k, (∀ y0 y1 y2, LeO (laws_toIntSS.l0 k y0 y1 y2) (laws_toIntSS.l0 (k + 1) y0 y1 y2))
  | 0 => fun _ _ _ r h => by simp [laws_toIntSS.l0] at h
  | k + 1 => by
    have ih0 := laws_toIntSS.mono_l k
    · intro y0 y1 y2
      unfold laws_toIntSS.l0
      repeat' first | (with_reducible first | exact ih0 _ _ _ | exact laws_toIntS.mono _ _ | exact LeO.refl _ | exact LeO.none _ | refine LeO.ite ?_ ?_ | refine LeO.bind ?_ (fun _ => ?_)) | exact ih0 _ _ _ | exact laws_toIntS.mono _ _ | exact LeO.none _ | refine LeO.ite ?_ ?_ | refine LeO.bind ?_ (fun _ => ?_)
theorem laws_toIntSS.mono : ∀ a0 k, LeO (laws_toIntSS.f k a0) (laws_toIntSS.f (k + 1) a0) := by
  intro a0 k
  have ih0 := laws_toIntSS.mono_l k
  unfold laws_toIntSS.f
  repeat' first | (with_reducible first | exact ih0 _ _ _ | exact laws_toIntS.mono _ _ | exact LeO.refl _ | exact LeO.none _ | refine LeO.ite ?_ ?_ | refine LeO.bind ?_ (fun _ => ?_)) | exact ih0 _ _ _ | exact laws_toIntS.mono _ _ | exact LeO.none _ | refine LeO.ite ?_ ?_ | refine LeO.bind ?_ (fun _ => ?_)

/-! ### impl_FirstMeet: function 21 -/
mutual
def impl_FirstMeet.l0 : Nat → List (List Int) → List (List Int) → Int → Int → Option (Int)
  | 0, _, _, _, _ => none
  | k + 1, x0, x13, x14, x15 => if x15 < x14 then (if 0 ≤ x15 then (if x15 < (x13.length : Int) then (if 0 < (x0.length : Int) then (if ((rd_L1 x13 x15).length : Int) = ((rd_L1 x0 0).length : Int) then (impl_FirstMeet.l0 k x0 x13 x14 (wrap64 (x15 + 1))) else (some (-1))) else (none)) else (none)) else (none)) else (if (x0.length : Int) = 0 then (some (-1)) else (if 0 < (x0.length : Int) then (impl_FirstMeet.l1 k x0 ((rd_L1 x0 0).length : Int) 0) else (none)))
def impl_FirstMeet.l1 : Nat → List (List Int) → Int → Int → Option (Int)
  | 0, _, _, _ => none
  | k + 1, x0, x33, x34 => if x34 < x33 then (impl_FirstMeet.l2 k x0 x34 x33 x34 x0 (x0.length : Int) 0) else (some (-1))
def impl_FirstMeet.l2 : Nat → List (List Int) → Int → Int → Int → List (List Int) → Int → Int → Option (Int)
  | 0, _, _, _, _, _, _, _ => none
  | k + 1, x0, x5, x33, x34, x37, x38, x39 => if x39 < x38 then (if 0 ≤ x39 then (if x39 < (x37.length : Int) then (if x39 ≤ (x0.length : Int) then ((some (x0.take (x39 : Int).toNat : List (List Int))).bind fun y194 => (impl_FirstMeet.l3 k x0 x5 (rd_L1 x37 x39) x33 x34 x37 x38 x39 y194 (y194.length : Int) 0)) else (none)) else (none)) else (none)) else (impl_FirstMeet.l1 k x0 x33 (wrap64 (x34 + 1)))
def impl_FirstMeet.l3 : Nat → List (List Int) → Int → List Int → Int → Int → List (List Int) → Int → Int → List (List Int) → Int → Int → Option (Int)
  | 0, _, _, _, _, _, _, _, _, _, _, _ => none
  | k + 1, x0, x5, x7, x33, x34, x37, x38, x39, x46, x47, x48 => if x48 < x47 then (if 0 ≤ x48 then (if x48 < (x46.length : Int) then (if 0 ≤ x5 then (if x5 < (x7.length : Int) then (if x5 < ((rd_L1 x46 x48).length : Int) then (if (rd x7 x5) = (rd (rd_L1 x46 x48) x5) then (some x5) else (if x5 > 0 then (if 0 ≤ (wrap64 (x5 - 1)) then (if (wrap64 (x5 - 1)) < ((rd_L1 x46 x48).length : Int) then (if (rd x7 x5) = (rd (rd_L1 x46 x48) (wrap64 (x5 - 1))) then (if (wrap64 (x5 - 1)) < (x7.length : Int) then (if (rd (rd_L1 x46 x48) x5) = (rd x7 (wrap64 (x5 - 1))) then (some x5) else (impl_FirstMeet.l3 k x0 x5 x7 x33 x34 x37 x38 x39 x46 x47 (wrap64 (x48 + 1)))) else (none)) else (impl_FirstMeet.l3 k x0 x5 x7 x33 x34 x37 x38 x39 x46 x47 (wrap64 (x48 + 1)))) else (none)) else (none)) else (impl_FirstMeet.l3 k x0 x5 x7 x33 x34 x37 x38 x39 x46 x47 (wrap64 (x48 + 1))))) else (none)) else (none)) else (none)) else (none)) else (none)) else (impl_FirstMeet.l2 k x0 x5 x33 x34 x37 x38 (wrap64 (x39 + 1)))
end
def impl_FirstMeet.f (k : Nat) (l0 : List (List Int)) : Option (Int) := if (l0.length : Int) > 5 then (some (-1)) else (impl_FirstMeet.l0 k l0 l0 (l0.length : Int) 0)
theorem impl_FirstMeet.mono_l : ∀ k, (∀ y0 y1 y2 y3, LeO (impl_FirstMeet.l0 k y0 y1 y2 y3) (impl_FirstMeet.l0 (k + 1) y0 y1 y2 y3)) ∧ (∀ y0 y1 y2, LeO (impl_FirstMeet.l1 k y0 y1 y2) (impl_FirstMeet.l1 (k + 1) y0 y1 y2)) ∧ (∀ y0 y1 y2 y3 y4 y5 y6, LeO (impl_FirstMeet.l2 k y0 y1 y2 y3 y4 y5 y6) (impl_FirstMeet.l2 (k + 1) y0 y1 y2 y3 y4 y5 y6)) ∧ (∀ y0 y1 y2 y3 y4 y5 y6 y7 y8 y9 y10, LeO (impl_FirstMeet.l3 k y0 y1 y2 y3 y4 y5 y6 y7 y8 y9 y10) (impl_FirstMeet.l3 (k + 1) y0 y1 y2 y3 y4 y5 y6 y7 y8 y9 y10))
  | 0 => ⟨fun _ _ _ _ r h => by simp [impl_FirstMeet.l0] at h, fun _ _ _ r h => by simp [impl_FirstMeet.l1] at h, fun _ _ _ _ _ _ _ r h => by simp [impl_FirstMeet.l2] at h, fun _ _ _ _ _ _ _ _ _ _ _ r h => by simp [impl_FirstMeet.l3] at h⟩
  | k + 1 => by
    obtain ⟨ih0, ih1, ih2, ih3⟩ := impl_FirstMeet.mono_l k
    refine ⟨?_, ?_, ?_, ?_⟩
    · intro y0 y1 y2 y3
      unfold impl_FirstMeet.l0
      repeat' first | (with_reducible first | exact ih0 _ _ _ _ | exact ih1 _ _ _ | exact ih2 _ _ _ _ _ _ _ | exact ih3 _ _ _ _ _ _ _ _ _ _ _ | exact LeO.refl _ | exact LeO.none _ | refine LeO.ite ?_ ?_ | refine LeO.bind ?_ (fun _ => ?_)) | exact ih0 _ _ _ _ | exact ih1 _ _ _ | exact ih2 _ _ _ _ _ _ _ | exact ih3 _ _ _ _ _ _ _ _ _ _ _ | exact LeO.none _ | refine LeO.ite ?_ ?_ | refine LeO.bind ?_ (fun _ => ?_)
    · intro y0 y1 y2
      unfold impl_FirstMeet.l1
      repeat' first | (with_reducible first | exact ih0 _ _ _ _ | exact ih1 _ _ _ | exact ih2 _ _ _ _ _ _ _ | exact ih3 _ _ _ _ _ _ _ _ _ _ _ | exact LeO.refl _ | exact LeO.none _ | refine LeO.ite ?_ ?_ | refine LeO.bind ?_ (fun _ => ?_)) | exact ih0 _ _ _ _ | exact ih1 _ _ _ | exact ih2 _ _ _ _ _ _ _ | exact ih3 _ _ _ _ _ _ _ _ _ _ _ | exact LeO.none _ | refine LeO.ite ?_ ?_ | refine LeO.bind ?_ (fun _ => ?_)
    · intro y0 y1 y2 y3 y4 y5 y6
      unfold impl_FirstMeet.l2
      repeat' first | (with_reducible first | exact ih0 _ _ _ _ | exact ih1 _ _ _ | exact ih2 _ _ _ _ _ _ _ | exact ih3 _ _ _ _ _ _ _ _ _ _ _ | exact LeO.refl _ | exact LeO.none _ | refine LeO.ite ?_ ?_ | refine LeO.bind ?_ (fun _ => ?_)) | exact ih0 _ _ _ _ | exact ih1 _ _ _ | exact ih2 _ _ _ _ _ _ _ | exact ih3 _ _ _ _ _ _ _ _ _ _ _ | exact LeO.none _ | refine LeO.ite ?_ ?_ | refine LeO.bind ?_ (fun _ => ?_)
    · intro y0 y1 y2 y3 y4 y5 y6 y7 y8 y9 y10
      unfold impl_FirstMeet.l3
      repeat' first | (with_reducible first | exact ih0 _ _ _ _ | exact ih1 _ _ _ | exact ih2 _ _ _ _ _ _ _ | exact ih3 _ _ _ _ _ _ _ _ _ _ _ | exact LeO.refl _ | exact LeO.none _ | refine LeO.ite ?_ ?_ | refine LeO.bind ?_ (fun _ => ?_)) | exact ih0 _ _ _ _ | exact ih1 _ _ _ | exact ih2 _ _ _ _ _ _ _ | exact ih3 _ _ _ _ _ _ _ _ _ _ _ | exact LeO.none _ | refine LeO.ite ?_ ?_ | refine LeO.bind ?_ (fun _ => ?_)
theorem impl_FirstMeet.mono : ∀ a0 k, LeO (impl_FirstMeet.f k a0) (impl_FirstMeet.f (k + 1) a0) := by
  intro a0 k
  obtain ⟨ih0, ih1, ih2, ih3⟩ := impl_FirstMeet.mono_l k
  unfold impl_FirstMeet.f
  repeat' first | (with_reducible first | exact ih0 _ _ _ _ | exact ih1 _ _ _ | exact ih2 _ _ _ _ _ _ _ | exact ih3 _ _ _ _ _ _ _ _ _ _ _ | exact LeO.refl _ | exact LeO.none _ | refine LeO.ite ?_ ?_ | refine LeO.bind ?_ (fun _ => ?_)) | exact ih0 _ _ _ _ | exact ih1 _ _ _ | exact ih2 _ _ _ _ _ _ _ | exact ih3 _ _ _ _ _ _ _ _ _ _ _ | exact LeO.none _ | refine LeO.ite ?_ ?_ | refine LeO.bind ?_ (fun _ => ?_)

/-! ### laws_eqIntSS: function 22 -/
def laws_eqIntSS.l0 : Nat → List (List Int) → List (List Int) → Int → Option (Bool)
  | 0, _, _, _ => none
  | k + 1, x0, x1, x5 => if x5 < (x0.length : Int) then (if 0 ≤ x5 then (if x5 < (x1.length : Int) then ((laws_eqIntS.f k (rd_L1 x0 x5) (rd_L1 x1 x5)).bind fun t207 => (if t207 = true then (laws_eqIntSS.l0 k x0 x1 (wrap64 (x5 + 1))) else (some false))) else (none)) else (none)) else (some true)
def laws_eqIntSS.f (k : Nat) (l0 : List (List Int)) (l1 : List (List Int)) : Option (Bool) := if (l0.length : Int) = (l1.length : Int) then (laws_eqIntSS.l0 k l0 l1 0) else (some false)
theorem laws_eqIntSS.mono_l : ∀ k, (∀ y0 y1 y2, LeO (laws_eqIntSS.l0 k y0 y1 y2) (laws_eqIntSS.l0 (k + 1) y0 y1 y2))
  | 0 => fun _ _ _ r h => by simp [laws_eqIntSS.l0] at h
  | k + 1 => by
    have ih0 := laws_eqIntSS.mono_l k
    · intro y0 y1 y2
      unfold laws_eqIntSS.l0
      repeat' first | (with_reducible first | exact ih0 _ _ _ | exact laws_eqIntS.mono _ _ _ | exact LeO.refl _ | exact LeO.none _ | refine LeO.ite ?_ ?_ | refine LeO.bind ?_ (fun _ => ?_)) | exact ih0 _ _ _ | exact laws_eqIntS.mono _ _ _ | exact LeO.none _ | refine LeO.ite ?_ ?_ | refine LeO.bind ?_ (fun _ => ?_)
theorem laws_eqIntSS.mono : ∀ a0 a1 k, LeO (laws_eqIntSS.f k a0 a1) (laws_eqIntSS.f (k + 1) a0 a1) := by
  intro a0 a1 k
  have ih0 := laws_eqIntSS.mono_l k
  unfold laws_eqIntSS.f
  repeat' first | (with_reducible first | exact ih0 _ _ _ | exact laws_eqIntS.mono _ _ _ | exact LeO.refl _ | exact LeO.none _ | refine LeO.ite ?_ ?_ | refine LeO.bind ?_ (fun _ => ?_)) | exact ih0 _ _ _ | exact laws_eqIntS.mono _ _ _ | exact LeO.none _ | refine LeO.ite ?_ ?_ | refine LeO.bind ?_ (fun _ => ?_)

/-! ### laws_FnExactFirstMeet: function 4 -/
def laws_FnExactFirstMeet.f (k : Nat) (l0 : List (List Int)) : Option (Bool) := (laws_szIntSS.f k l0 1048576).bind fun t208 => (if t208 < 0 then (some true) else ((laws_toIntSS.f k l0).bind fun t209 => ((spec_FirstMeet.f k t209).bind fun t212 => ((laws_toIntSS.f k l0).bind fun t213 => ((impl_FirstMeet.f k t213).bind fun t216 => (if t216 = t212 then ((laws_toIntSS.f k l0).bind fun t217 => ((laws_eqIntSS.f k t213 t217).bind fun t220 => (if t220 = true then (some true) else (some false)))) else (some false)))))))
theorem laws_FnExactFirstMeet.mono : ∀ a0 k, LeO (laws_FnExactFirstMeet.f k a0) (laws_FnExactFirstMeet.f (k + 1) a0) := by
  intro a0 k
  unfold laws_FnExactFirstMeet.f
  repeat' first | (with_reducible first | exact impl_FirstMeet.mono _ _ | exact laws_eqIntSS.mono _ _ _ | exact laws_szIntSS.mono _ _ _ | exact laws_toIntSS.mono _ _ | exact spec_FirstMeet.mono _ _ | exact LeO.refl _ | exact LeO.none _ | refine LeO.ite ?_ ?_ | refine LeO.bind ?_ (fun _ => ?_)) | exact impl_FirstMeet.mono _ _ | exact laws_eqIntSS.mono _ _ _ | exact laws_szIntSS.mono _ _ _ | exact laws_toIntSS.mono _ _ | exact spec_FirstMeet.mono _ _ | exact LeO.none _ | refine LeO.ite ?_ ?_ | refine LeO.bind ?_ (fun _ => ?_)

/-! ### laws_szCells: function 23 -/
def laws_szCells.f (a0_0 : Int) (l0_1 : List Int) (a1 : Int) : Option (Int) := (laws_szIntS.f l0_1 a1).bind fun t222 => (if t222 < 0 then (some (-1)) else (some t222))

/-! ### laws_szTripS: function 24 -/
def laws_szTripS.f (l0 : List (S47)) (a1 : Int) : Option (Int) := if (wrap64 (a1 - (l0.length : Int))) < 0 then (some (-1)) else (some (wrap64 (a1 - (l0.length : Int))))

/-! ### spec_l12Sized: function 67 -/
def spec_l12Sized.f (a0 : Int) (a1 : Int) : Option (Bool) := if a0 ≥ 1 then (if a0 ≤ 16 then (if a1 ≥ a0 then (if a0 = 0 then (none) else (if (Int.tmod a1 a0) = 0 then (some (decide ((wrap64 (Int.tdiv a1 a0)) ≤ 16))) else (some false))) else (some false)) else (some false)) else (some false)

/-! ### spec_GoodCells: function 52 -/
def spec_GoodCells.l0 : Nat → List Int → Int → Int → Option (Bool)
  | 0, _, _, _ => none
  | k + 1, x13, x14, x15 => if x15 < x14 then (if 0 ≤ x15 then (if x15 < (x13.length : Int) then (if (rd x13 x15) < 0 then (some false) else (if (rd x13 x15) > 2 then (some false) else (spec_GoodCells.l0 k x13 x14 (wrap64 (x15 + 1))))) else (none)) else (none)) else (some true)
def spec_GoodCells.f (k : Nat) (a0_0 : Int) (l0_1 : List Int) : Option (Bool) := (spec_l12Sized.f a0_0 (l0_1.length : Int)).bind fun t224 => (if t224 = true then (spec_GoodCells.l0 k l0_1 (l0_1.length : Int) 0) else (some false))
theorem spec_GoodCells.mono_l : ∀ k, (∀ y0 y1 y2, LeO (spec_GoodCells.l0 k y0 y1 y2) (spec_GoodCells.l0 (k + 1) y0 y1 y2))
  | 0 => fun _ _ _ r h => by simp [spec_GoodCells.l0] at h
  | k + 1 => by
    have ih0 := spec_GoodCells.mono_l k
    · intro y0 y1 y2
      unfold spec_GoodCells.l0
      repeat' first | (with_reducible first | exact ih0 _ _ _ | exact LeO.refl _ | exact LeO.none _ | refine LeO.ite ?_ ?_ | refine LeO.bind ?_ (fun _ => ?_)) | exact ih0 _ _ _ | exact LeO.none _ | refine LeO.ite ?_ ?_ | refine LeO.bind ?_ (fun _ => ?_)
theorem spec_GoodCells.mono : ∀ a0 a1 k, LeO (spec_GoodCells.f k a0 a1) (spec_GoodCells.f (k + 1) a0 a1) := by
  intro a0 a1 k
  have ih0 := spec_GoodCells.mono_l k
  unfold spec_GoodCells.f
  repeat' first | (with_reducible first | exact ih0 _ _ _ | exact LeO.refl _ | exact LeO.none _ | refine LeO.ite ?_ ?_ | refine LeO.bind ?_ (fun _ => ?_)) | exact ih0 _ _ _ | exact LeO.none _ | refine LeO.ite ?_ ?_ | refine LeO.bind ?_ (fun _ => ?_)

/-! ### spec_l12Free: function 53 -/
def spec_l12Free.f (a0_0 : Int) (l0_1 : List Int) (a1 : Int) : Option (Bool) := if a1 ≥ 0 then (if a1 < (l0_1.length : Int) then (if 0 ≤ a1 then (some ((rd l0_1 a1) == 0)) else (none)) else (some false)) else (some false)

/-! ### spec_GoodTrips: function 25 -/
mutual
def spec_GoodTrips.j0 : Nat → List (S49) → Bool → Int → List Int → Option (Bool)
  | 0, _, _, _, _ => none
  | k + 1, x1, x15, x229000, x229001 => if x15 = true then (some false) else (spec_GoodTrips.l0 k x1 x1 (x1.length : Int) 0 x229000 x229001)
def spec_GoodTrips.l0 : Nat → List (S49) → List (S49) → Int → Int → Int → List Int → Option (Bool)
  | 0, _, _, _, _, _, _ => none
  | k + 1, x1, x16, x17, x18, x229000, x229001 => if x18 < x17 then (if 0 ≤ x18 then (if x18 < (x16.length : Int) then ((spec_l12Free.f x229000 x229001 ((rd_T49 x16 x18).f0)).bind fun t232 => (if t232 = true then ((spec_l12Free.f x229000 x229001 ((rd_T49 x16 x18).f1)).bind fun t233 => (spec_GoodTrips.j2 k x1 x18 x16 x17 x18 (!t233) x229000 x229001 ((rd_T49 x16 x18).f0) ((rd_T49 x16 x18).f1))) else (spec_GoodTrips.j2 k x1 x18 x16 x17 x18 true x229000 x229001 ((rd_T49 x16 x18).f0) ((rd_T49 x16 x18).f1)))) else (none)) else (none)) else (some true)
def spec_GoodTrips.j2 : Nat → List (S49) → Int → List (S49) → Int → Int → Bool → Int → List Int → Int → Int → Option (Bool)
  | 0, _, _, _, _, _, _, _, _, _, _ => none
  | k + 1, x1, x5, x16, x17, x18, x34, x229000, x229001, x232000, x232001 => if x34 = true then (some false) else (spec_GoodTrips.l1 k x1 x5 0 x16 x17 x18 x229000 x229001 x232000 x232001)
def spec_GoodTrips.l1 : Nat → List (S49) → Int → Int → List (S49) → Int → Int → Int → List Int → Int → Int → Option (Bool)
  | 0, _, _, _, _, _, _, _, _, _, _ => none
  | k + 1, x1, x5, x7, x16, x17, x18, x229000, x229001, x232000, x232001 => if x7 < x5 then (if 0 ≤ x7 then (if x7 < (x1.length : Int) then (if ((rd_T49 x1 x7).f0) = x232000 then (some false) else (if ((rd_T49 x1 x7).f1) = x232001 then (some false) else (spec_GoodTrips.l1 k x1 x5 (wrap64 (x7 + 1)) x16 x17 x18 x229000 x229001 x232000 x232001))) else (none)) else (none)) else (spec_GoodTrips.l0 k x1 x16 x17 (wrap64 (x18 + 1)) x229000 x229001)
end
def spec_GoodTrips.f (k : Nat) (a0_0 : Int) (l0_1 : List Int) (l1 : List (S49)) : Option (Bool) := (spec_GoodCells.f k a0_0 l0_1).bind fun t229 => (if t229 = true then (spec_GoodTrips.j0 k l1 (decide ((l1.length : Int) > 5)) a0_0 l0_1) else (spec_GoodTrips.j0 k l1 true a0_0 l0_1))
theorem spec_GoodTrips.mono_l : ∀ k, (∀ y0 y1 y2 y3, LeO (spec_GoodTrips.j0 k y0 y1 y2 y3) (spec_GoodTrips.j0 (k + 1) y0 y1 y2 y3)) ∧ (∀ y0 y1 y2 y3 y4 y5, LeO (spec_GoodTrips.l0 k y0 y1 y2 y3 y4 y5) (spec_GoodTrips.l0 (k + 1) y0 y1 y2 y3 y4 y5)) ∧ (∀ y0 y1 y2 y3 y4 y5 y6 y7 y8 y9, LeO (spec_GoodTrips.j2 k y0 y1 y2 y3 y4 y5 y6 y7 y8 y9) (spec_GoodTrips.j2 (k + 1) y0 y1 y2 y3 y4 y5 y6 y7 y8 y9)) ∧ (∀ y0 y1 y2 y3 y4 y5 y6 y7 y8 y9, LeO (spec_GoodTrips.l1 k y0 y1 y2 y3 y4 y5 y6 y7 y8 y9) (spec_GoodTrips.l1 (k + 1) y0 y1 y2 y3 y4 y5 y6 y7 y8 y9))
  | 0 => ⟨fun _ _ _ _ r h => by simp [spec_GoodTrips.j0] at h, fun _ _ _ _ _ _ r h => by simp [spec_GoodTrips.l0] at h, fun _ _ _ _ _ _ _ _ _ _ r h => by simp [spec_GoodTrips.j2] at h, fun _ _ _ _ _ _ _ _ _ _ r h => by simp [spec_GoodTrips.l1] at h⟩
  | k + 1 => by
    obtain ⟨ih0, ih1, ih2, ih3⟩ := spec_GoodTrips.mono_l k
    refine ⟨?_, ?_, ?_, ?_⟩
    · intro y0 y1 y2 y3
      unfold spec_GoodTrips.j0
      repeat' first | (with_reducible first | exact ih0 _ _ _ _ | exact ih1 _ _ _ _ _ _ | exact ih2 _ _ _ _ _ _ _ _ _ _ | exact ih3 _ _ _ _ _ _ _ _ _ _ | exact spec_GoodCells.mono _ _ _ | exact LeO.refl _ | exact LeO.none _ | refine LeO.ite ?_ ?_ | refine LeO.bind ?_ (fun _ => ?_)) | exact ih0 _ _ _ _ | exact ih1 _ _ _ _ _ _ | exact ih2 _ _ _ _ _ _ _ _ _ _ | exact ih3 _ _ _ _ _ _ _ _ _ _ | exact spec_GoodCells.mono _ _ _ | exact LeO.none _ | refine LeO.ite ?_ ?_ | refine LeO.bind ?_ (fun _ => ?_)
    · intro y0 y1 y2 y3 y4 y5
      unfold spec_GoodTrips.l0
      repeat' first | (with_reducible first | exact ih0 _ _ _ _ | exact ih1 _ _ _ _ _ _ | exact ih2 _ _ _ _ _ _ _ _ _ _ | exact ih3 _ _ _ _ _ _ _ _ _ _ | exact spec_GoodCells.mono _ _ _ | exact LeO.refl _ | exact LeO.none _ | refine LeO.ite ?_ ?_ | refine LeO.bind ?_ (fun _ => ?_)) | exact ih0 _ _ _ _ | exact ih1 _ _ _ _ _ _ | exact ih2 _ _ _ _ _ _ _ _ _ _ | exact ih3 _ _ _ _ _ _ _ _ _ _ | exact spec_GoodCells.mono _ _ _ | exact LeO.none _ | refine LeO.ite ?_ ?_ | refine LeO.bind ?_ (fun _ => ?_)
    · intro y0 y1 y2 y3 y4 y5 y6 y7 y8 y9
      unfold spec_GoodTrips.j2
      repeat' first | (with_reducible first | exact ih0 _ _ _ _ | exact ih1 _ _ _ _ _ _ | exact ih2 _ _ _ _ _ _ _ _ _ _ | exact ih3 _ _ _ _ _ _ _ _ _ _ | exact spec_GoodCells.mono _ _ _ | exact LeO.refl _ | exact LeO.none _ | refine LeO.ite ?_ ?_ | refine LeO.bind ?_ (fun _ => ?_)) | exact ih0 _ _ _ _ | exact ih1 _ _ _ _ _ _ | exact ih2 _ _ _ _ _ _ _ _ _ _ | exact ih3 _ _ _ _ _ _ _ _ _ _ | exact spec_GoodCells.mono _ _ _ | exact LeO.none _ | refine LeO.ite ?_ ?_ | refine LeO.bind ?_ (fun _ => ?_)
    · intro y0 y1 y2 y3 y4 y5 y6 y7 y8 y9
      unfold spec_GoodTrips.l1
      repeat' first | (with_reducible first | exact ih0 _ _ _ _ | exact ih1 _ _ _ _ _ _ | exact ih2 _ _ _ _ _ _ _ _ _ _ | exact ih3 _ _ _ _ _ _ _ _ _ _ | exact spec_GoodCells.mono _ _ _ | exact LeO.refl _ | exact LeO.none _ | refine LeO.ite ?_ ?_ | refine LeO.bind ?_ (fun _ => ?_)) | exact ih0 _ _ _ _ | exact ih1 _ _ _ _ _ _ | exact ih2 _ _ _ _ _ _ _ _ _ _ | exact ih3 _ _ _ _ _ _ _ _ _ _ | exact spec_GoodCells.mono _ _ _ | exact LeO.none _ | refine LeO.ite ?_ ?_ | refine LeO.bind ?_ (fun _ => ?_)
theorem spec_GoodTrips.mono : ∀ a0 a1 a2 k, LeO (spec_GoodTrips.f k a0 a1 a2) (spec_GoodTrips.f (k + 1) a0 a1 a2) := by
  intro a0 a1 a2 k
  obtain ⟨ih0, ih1, ih2, ih3⟩ := spec_GoodTrips.mono_l k
  unfold spec_GoodTrips.f
  repeat' first | (with_reducible first | exact ih0 _ _ _ _ | exact ih1 _ _ _ _ _ _ | exact ih2 _ _ _ _ _ _ _ _ _ _ | exact ih3 _ _ _ _ _ _ _ _ _ _ | exact spec_GoodCells.mono _ _ _ | exact LeO.refl _ | exact LeO.none _ | refine LeO.ite ?_ ?_ | refine LeO.bind ?_ (fun _ => ?_)) | exact ih0 _ _ _ _ | exact ih1 _ _ _ _ _ _ | exact ih2 _ _ _ _ _ _ _ _ _ _ | exact ih3 _ _ _ _ _ _ _ _ _ _ | exact spec_GoodCells.mono _ _ _ | exact LeO.none _ | refine LeO.ite ?_ ?_ | refine LeO.bind ?_ (fun _ => ?_)

/-! ### laws_toCells: function 26 -/
def laws_toCells.f (k : Nat) (a0_0 : Int) (l0_1 : List Int) : Option (Int × List Int) := (laws_toIntS.f k l0_1).bind fun t239 => (some (a0_0, t239))
theorem laws_toCells.mono : ∀ a0 a1 k, LeO (laws_toCells.f k a0 a1) (laws_toCells.f (k + 1) a0 a1) := by
  intro a0 a1 k
  unfold laws_toCells.f
  repeat' first | (with_reducible first | exact laws_toIntS.mono _ _ | exact LeO.refl _ | exact LeO.none _ | refine LeO.ite ?_ ?_ | refine LeO.bind ?_ (fun _ => ?_)) | exact laws_toIntS.mono _ _ | exact LeO.none _ | refine LeO.ite ?_ ?_ | refine LeO.bind ?_ (fun _ => ?_)

/-! ### laws_toTrip: function 32 -/
def laws_toTrip.f (a0_0 : Int) (a0_1 : Int) : Option (Int × Int) := some (a0_0, a0_1)

/-! ### laws_toTripS: function 27 -/
def laws_toTripS.l0 : Nat → List (S47) → List (S49) → Int → Option ((List (S49)))
  | 0, _, _, _ => none
  | k + 1, x0, x3, x4 => if x4 < (x0.length : Int) then (if 0 ≤ x4 then ((laws_toTrip.f ((rd_T47 x0 x4).f0) ((rd_T47 x0 x4).f1)).bind fun bt249 => (if x4 < (x3.length : Int) then (laws_toTripS.l0 k x0 (x3.set (x4 : Int).toNat (⟨bt249.1, bt249.2⟩ : S49)) (wrap64 (x4 + 1))) else (none))) else (none)) else (some x3)
def laws_toTripS.f (k : Nat) (l0 : List (S47)) : Option ((List (S49))) := if 0 ≤ (l0.length : Int) then (if ((l0.length : Int) : Int).toNat ≤ 17592186044416 then (laws_toTripS.l0 k l0 (List.replicate ((l0.length : Int) : Int).toNat z49) 0) else (none)) else (none)
theorem laws_toTripS.mono_l : ∀ k, (∀ y0 y1 y2, LeO (laws_toTripS.l0 k y0 y1 y2) (laws_toTripS.l0 (k + 1) y0 y1 y2))
  | 0 => fun _ _ _ r h => by simp [laws_toTripS.l0] at h
  | k + 1 => by
    have ih0 := laws_toTripS.mono_l k
    · intro y0 y1 y2
      unfold laws_toTripS.l0
      repeat' first | (with_reducible first | exact ih0 _ _ _ | exact LeO.refl _ | exact LeO.none _ | refine LeO.ite ?_ ?_ | refine LeO.bind ?_ (fun _ => ?_)) | exact ih0 _ _ _ | exact LeO.none _ | refine LeO.ite ?_ ?_ | refine LeO.bind ?_ (fun _ => ?_)
theorem laws_toTripS.mono : ∀ a0 k, LeO (laws_toTripS.f k a0) (laws_toTripS.f (k + 1) a0) := by
  intro a0 k
  have ih0 := laws_toTripS.mono_l k
  unfold laws_toTripS.f
  repeat' first | (with_reducible first | exact ih0 _ _ _ | exact LeO.refl _ | exact LeO.none _ | refine LeO.ite ?_ ?_ | refine LeO.bind ?_ (fun _ => ?_)) | exact ih0 _ _ _ | exact LeO.none _ | refine LeO.ite ?_ ?_ | refine LeO.bind ?_ (fun _ => ?_)

/-! ### impl_squared: function 68 -/
def impl_squared.f (a0 : Int) (a1 : Int) : Option (Bool) := if a0 ≥ 1 then (if a0 ≤ 16 then (if a0 = 0 then (none) else (if (Int.tmod a1 a0) = 0 then (if (wrap64 (Int.tdiv a1 a0)) ≥ 1 then (some (decide ((wrap64 (Int.tdiv a1 a0)) ≤ 16))) else (some false)) else (some false))) else (some false)) else (some false)

/-! ### impl_GoodCells: function 54 -/
def impl_GoodCells.l0 : Nat → List Int → Int → Int → Option (Bool)
  | 0, _, _, _ => none
  | k + 1, x13, x14, x15 => if x15 < x14 then (if 0 ≤ x15 then (if x15 < (x13.length : Int) then (if (rd x13 x15) < 0 then (some false) else (if (rd x13 x15) > 2 then (some false) else (impl_GoodCells.l0 k x13 x14 (wrap64 (x15 + 1))))) else (none)) else (none)) else (some true)
def impl_GoodCells.f (k : Nat) (a0_0 : Int) (l0_1 : List Int) : Option (Bool) := (impl_squared.f a0_0 (l0_1.length : Int)).bind fun t253 => (if t253 = true then (impl_GoodCells.l0 k l0_1 (l0_1.length : Int) 0) else (some false))
theorem impl_GoodCells.mono_l : ∀ k, (∀ y0 y1 y2, LeO (impl_GoodCells.l0 k y0 y1 y2) (impl_GoodCells.l0 (k + 1) y0 y1 y2))
  | 0 => fun _ _ _ r h => by simp [impl_GoodCells.l0] at h
  | k + 1 => by
    have ih0 := impl_GoodCells.mono_l k
    · intro y0 y1 y2
      unfold impl_GoodCells.l0
      repeat' first | (with_reducible first | exact ih0 _ _ _ | exact LeO.refl _ | exact LeO.none _ | refine LeO.ite ?_ ?_ | refine LeO.bind ?_ (fun _ => ?_)) | exact ih0 _ _ _ | exact LeO.none _ | refine LeO.ite ?_ ?_ | refine LeO.bind ?_ (fun _ => ?_)
theorem impl_GoodCells.mono : ∀ a0 a1 k, LeO (impl_GoodCells.f k a0 a1) (impl_GoodCells.f (k + 1) a0 a1) := by
  intro a0 a1 k
  have ih0 := impl_GoodCells.mono_l k
  unfold impl_GoodCells.f
  repeat' first | (with_reducible first | exact ih0 _ _ _ | exact LeO.refl _ | exact LeO.none _ | refine LeO.ite ?_ ?_ | refine LeO.bind ?_ (fun _ => ?_)) | exact ih0 _ _ _ | exact LeO.none _ | refine LeO.ite ?_ ?_ | refine LeO.bind ?_ (fun _ => ?_)

/-! ### impl_Cells_free: function 55 -/
def impl_Cells_free.f (a0_0 : Int) (l0_1 : List Int) (a1 : Int) : Option (Bool) := if a1 ≥ 0 then (if a1 < (l0_1.length : Int) then (if 0 ≤ a1 then (some ((rd l0_1 a1) == 0)) else (none)) else (some false)) else (some false)

/-! ### impl_GoodTrips: function 28 -/
mutual
def impl_GoodTrips.j0 : Nat → List (S49) → Bool → Int → List Int → Option (Bool)
  | 0, _, _, _, _ => none
  | k + 1, x1, x16, x258000, x258001 => if x16 = true then (some false) else (impl_GoodTrips.l0 k x1 x1 (x1.length : Int) 0 x258000 x258001)
def impl_GoodTrips.l0 : Nat → List (S49) → List (S49) → Int → Int → Int → List Int → Option (Bool)
  | 0, _, _, _, _, _, _ => none
  | k + 1, x1, x17, x18, x19, x258000, x258001 => if x19 < x18 then (if 0 ≤ x19 then (if x19 < (x17.length : Int) then ((impl_Cells_free.f x258000 x258001 ((rd_T49 x17 x19).f0)).bind fun t261 => (if t261 = true then ((impl_Cells_free.f x258000 x258001 ((rd_T49 x17 x19).f1)).bind fun t262 => (impl_GoodTrips.j2 k x1 x19 x17 x18 x19 (!t262) x258000 x258001 ((rd_T49 x17 x19).f0) ((rd_T49 x17 x19).f1))) else (impl_GoodTrips.j2 k x1 x19 x17 x18 x19 true x258000 x258001 ((rd_T49 x17 x19).f0) ((rd_T49 x17 x19).f1)))) else (none)) else (none)) else (some true)
def impl_GoodTrips.j2 : Nat → List (S49) → Int → List (S49) → Int → Int → Bool → Int → List Int → Int → Int → Option (Bool)
  | 0, _, _, _, _, _, _, _, _, _, _ => none
  | k + 1, x1, x5, x17, x18, x19, x35, x258000, x258001, x261000, x261001 => if x35 = true then (some false) else (if 0 ≤ x5 then (if x5 ≤ (x1.length : Int) then ((some (x1.take (x5 : Int).toNat : List (S49))).bind fun y263 => (impl_GoodTrips.l1 k x1 x17 x18 x19 y263 (y263.length : Int) 0 x258000 x258001 x261000 x261001)) else (none)) else (none))
def impl_GoodTrips.l1 : Nat → List (S49) → List (S49) → Int → Int → List (S49) → Int → Int → Int → List Int → Int → Int → Option (Bool)
  | 0, _, _, _, _, _, _, _, _, _, _, _ => none
  | k + 1, x1, x17, x18, x19, x38, x39, x40, x258000, x258001, x261000, x261001 => if x40 < x39 then (if 0 ≤ x40 then (if x40 < (x38.length : Int) then (if ((rd_T49 x38 x40).f0) = x261000 then (some false) else (if ((rd_T49 x38 x40).f1) = x261001 then (some false) else (impl_GoodTrips.l1 k x1 x17 x18 x19 x38 x39 (wrap64 (x40 + 1)) x258000 x258001 x261000 x261001))) else (none)) else (none)) else (impl_GoodTrips.l0 k x1 x17 x18 (wrap64 (x19 + 1)) x258000 x258001)
end
def impl_GoodTrips.f (k : Nat) (a0_0 : Int) (l0_1 : List Int) (l1 : List (S49)) : Option (Bool) := (impl_GoodCells.f k a0_0 l0_1).bind fun t258 => (if t258 = true then (impl_GoodTrips.j0 k l1 (decide ((l1.length : Int) > 5)) a0_0 l0_1) else (impl_GoodTrips.j0 k l1 true a0_0 l0_1))
theorem impl_GoodTrips.mono_l : ∀ k, (∀ y0 y1 y2 y3, LeO (impl_GoodTrips.j0 k y0 y1 y2 y3) (impl_GoodTrips.j0 (k + 1) y0 y1 y2 y3)) ∧ (∀ y0 y1 y2 y3 y4 y5, LeO (impl_GoodTrips.l0 k y0 y1 y2 y3 y4 y5) (impl_GoodTrips.l0 (k + 1) y0 y1 y2 y3 y4 y5)) ∧ (∀ y0 y1 y2 y3 y4 y5 y6 y7 y8 y9, LeO (impl_GoodTrips.j2 k y0 y1 y2 y3 y4 y5 y6 y7 y8 y9) (impl_GoodTrips.j2 (k + 1) y0 y1 y2 y3 y4 y5 y6 y7 y8 y9)) ∧ (∀ y0 y1 y2 y3 y4 y5 y6 y7 y8 y9 y10, LeO (impl_GoodTrips.l1 k y0 y1 y2 y3 y4 y5 y6 y7 y8 y9 y10) (impl_GoodTrips.l1 (k + 1) y0 y1 y2 y3 y4 y5 y6 y7 y8 y9 y10))
  | 0 => ⟨fun _ _ _ _ r h => by simp [impl_GoodTrips.j0] at h, fun _ _ _ _ _ _ r h => by simp [impl_GoodTrips.l0] at h, fun _ _ _ _ _ _ _ _ _ _ r h => by simp [impl_GoodTrips.j2] at h, fun _ _ _ _ _ _ _ _ _ _ _ r h => by simp [impl_GoodTrips.l1] at h⟩
  | k + 1 => by
    obtain ⟨ih0, ih1, ih2, ih3⟩ := impl_GoodTrips.mono_l k
    refine ⟨?_, ?_, ?_, ?_⟩
    · intro y0 y1 y2 y3
      unfold impl_GoodTrips.j0
      repeat' first | (with_reducible first | exact ih0 _ _ _ _ | exact ih1 _ _ _ _ _ _ | exact ih2 _ _ _ _ _ _ _ _ _ _ | exact ih3 _ _ _ _ _ _ _ _ _ _ _ | exact impl_GoodCells.mono _ _ _ | exact LeO.refl _ | exact LeO.none _ | refine LeO.ite ?_ ?_ | refine LeO.bind ?_ (fun _ => ?_)) | exact ih0 _ _ _ _ | exact ih1 _ _ _ _ _ _ | exact ih2 _ _ _ _ _ _ _ _ _ _ | exact ih3 _ _ _ _ _ _ _ _ _ _ _ | exact impl_GoodCells.mono _ _ _ | exact LeO.none _ | refine LeO.ite ?_ ?_ | refine LeO.bind ?_ (fun _ => ?_)
    · intro y0 y1 y2 y3 y4 y5
      unfold impl_GoodTrips.l0
      repeat' first | (with_reducible first | exact ih0 _ _ _ _ | exact ih1 _ _ _ _ _ _ | exact ih2 _ _ _ _ _ _ _ _ _ _ | exact ih3 _ _ _ _ _ _ _ _ _ _ _ | exact impl_GoodCells.mono _ _ _ | exact LeO.refl _ | exact LeO.none _ | refine LeO.ite ?_ ?_ | refine LeO.bind ?_ (fun _ => ?_)) | exact ih0 _ _ _ _ | exact ih1 _ _ _ _ _ _ | exact ih2 _ _ _ _ _ _ _ _ _ _ | exact ih3 _ _ _ _ _ _ _ _ _ _ _ | exact impl_GoodCells.mono _ _ _ | exact LeO.none _ | refine LeO.ite ?_ ?_ | refine LeO.bind ?_ (fun _ => ?_)
    · intro y0 y1 y2 y3 y4 y5 y6 y7 y8 y9
      unfold impl_GoodTrips.j2
      repeat' first | (with_reducible first | exact ih0 _ _ _ _ | exact ih1 _ _ _ _ _ _ | exact ih2 _ _ _ _ _ _ _ _ _ _ | exact ih3 _ _ _ _ _ _ _ _ _ _ _ | exact impl_GoodCells.mono _ _ _ | exact LeO.refl _ | exact LeO.none _ | refine LeO.ite ?_ ?_ | refine LeO.bind ?_ (fun _ => ?_)) | exact ih0 _ _ _ _ | exact ih1 _ _ _ _ _ _ | exact ih2 _ _ _ _ _ _ _ _ _ _ | exact ih3 _ _ _ _ _ _ _ _ _ _ _ | exact impl_GoodCells.mono _ _ _ | exact LeO.none _ | refine LeO.ite ?_ ?_ | refine LeO.bind ?_ (fun _ => ?_)
    · intro y0 y1 y2 y3 y4 y5 y6 y7 y8 y9 y10
      unfold impl_GoodTrips.l1
      repeat' first | (with_reducible first | exact ih0 _ _ _ _ | exact ih1 _ _ _ _ _ _ | exact ih2 _ _ _ _ _ _ _ _ _ _ | exact ih3 _ _ _ _ _ _ _ _ _ _ _ | exact impl_GoodCells.mono _ _ _ | exact LeO.refl _ | exact LeO.none _ | refine LeO.ite ?_ ?_ | refine LeO.bind ?_ (fun _ => ?_)) | exact ih0 _ _ _ _ | exact ih1 _ _ _ _ _ _ | exact ih2 _ _ _ _ _ _ _ _ _ _ | exact ih3 _ _ _ _ _ _ _ _ _ _ _ | exact impl_GoodCells.mono _ _ _ | exact LeO.none _ | refine LeO.ite ?_ ?_ | refine LeO.bind ?_ (fun _ => ?_)
theorem impl_GoodTrips.mono : ∀ a0 a1 a2 k, LeO (impl_GoodTrips.f k a0 a1 a2) (impl_GoodTrips.f (k + 1) a0 a1 a2) := by
  intro a0 a1 a2 k
  obtain ⟨ih0, ih1, ih2, ih3⟩ := impl_GoodTrips.mono_l k
  unfold impl_GoodTrips.f
  repeat' first | (with_reducible first | exact ih0 _ _ _ _ | exact ih1 _ _ _ _ _ _ | exact ih2 _ _ _ _ _ _ _ _ _ _ | exact ih3 _ _ _ _ _ _ _ _ _ _ _ | exact impl_GoodCells.mono _ _ _ | exact LeO.refl _ | exact LeO.none _ | refine LeO.ite ?_ ?_ | refine LeO.bind ?_ (fun _ => ?_)) | exact ih0 _ _ _ _ | exact ih1 _ _ _ _ _ _ | exact ih2 _ _ _ _ _ _ _ _ _ _ | exact ih3 _ _ _ _ _ _ _ _ _ _ _ | exact impl_GoodCells.mono _ _ _ | exact LeO.none _ | refine LeO.ite ?_ ?_ | refine LeO.bind ?_ (fun _ => ?_)

/-! ### laws_eqCells: function 29 -/
def laws_eqCells.f (k : Nat) (a0_0 : Int) (l0_1 : List Int) (a1_0 : Int) (l1_1 : List Int) : Option (Bool) := if a0_0 = a1_0 then ((laws_eqIntS.f k l0_1 l1_1).bind fun t271 => (if t271 = true then (some true) else (some false))) else (some false)
theorem laws_eqCells.mono : ∀ a0 a1 a2 a3 k, LeO (laws_eqCells.f k a0 a1 a2 a3) (laws_eqCells.f (k + 1) a0 a1 a2 a3) := by
  intro a0 a1 a2 a3 k
  unfold laws_eqCells.f
  repeat' first | (with_reducible first | exact laws_eqIntS.mono _ _ _ | exact LeO.refl _ | exact LeO.none _ | refine LeO.ite ?_ ?_ | refine LeO.bind ?_ (fun _ => ?_)) | exact laws_eqIntS.mono _ _ _ | exact LeO.none _ | refine LeO.ite ?_ ?_ | refine LeO.bind ?_ (fun _ => ?_)

/-! ### laws_eqTrip: function 56 -/
def laws_eqTrip.f (a0_0 : Int) (a0_1 : Int) (a1_0 : Int) (a1_1 : Int) : Option (Bool) := if a0_0 = a1_0 then (if a0_1 = a1_1 then (some true) else (some false)) else (some false)

/-! ### laws_eqTripS: function 30 -/
def laws_eqTripS.l0 : Nat → List (S49) → List (S49) → Int → Option (Bool)
  | 0, _, _, _ => none
  | k + 1, x0, x1, x5 => if x5 < (x0.length : Int) then (if 0 ≤ x5 then (if x5 < (x1.length : Int) then ((laws_eqTrip.f ((rd_T49 x0 x5).f0) ((rd_T49 x0 x5).f1) ((rd_T49 x1 x5).f0) ((rd_T49 x1 x5).f1)).bind fun t276 => (if t276 = true then (laws_eqTripS.l0 k x0 x1 (wrap64 (x5 + 1))) else (some false))) else (none)) else (none)) else (some true)
def laws_eqTripS.f (k : Nat) (l0 : List (S49)) (l1 : List (S49)) : Option (Bool) := if (l0.length : Int) = (l1.length : Int) then (laws_eqTripS.l0 k l0 l1 0) else (some false)
theorem laws_eqTripS.mono_l : ∀ k, (∀ y0 y1 y2, LeO (laws_eqTripS.l0 k y0 y1 y2) (laws_eqTripS.l0 (k + 1) y0 y1 y2))
  | 0 => fun _ _ _ r h => by simp [laws_eqTripS.l0] at h
  | k + 1 => by
    have ih0 := laws_eqTripS.mono_l k
    · intro y0 y1 y2
      unfold laws_eqTripS.l0
      repeat' first | (with_reducible first | exact ih0 _ _ _ | exact LeO.refl _ | exact LeO.none _ | refine LeO.ite ?_ ?_ | refine LeO.bind ?_ (fun _ => ?_)) | exact ih0 _ _ _ | exact LeO.none _ | refine LeO.ite ?_ ?_ | refine LeO.bind ?_ (fun _ => ?_)
theorem laws_eqTripS.mono : ∀ a0 a1 k, LeO (laws_eqTripS.f k a0 a1) (laws_eqTripS.f (k + 1) a0 a1) := by
  intro a0 a1 k
  have ih0 := laws_eqTripS.mono_l k
  unfold laws_eqTripS.f
  repeat' first | (with_reducible first | exact ih0 _ _ _ | exact LeO.refl _ | exact LeO.none _ | refine LeO.ite ?_ ?_ | refine LeO.bind ?_ (fun _ => ?_)) | exact ih0 _ _ _ | exact LeO.none _ | refine LeO.ite ?_ ?_ | refine LeO.bind ?_ (fun _ => ?_)

/-! ### laws_FnExactGoodTrips: function 5 -/
def laws_FnExactGoodTrips.f (k : Nat) (a0_0 : Int) (l0_1 : List Int) (l1 : List (S47)) : Option (Bool) := (laws_szCells.f a0_0 l0_1 1048576).bind fun t278 => (if t278 < 0 then (some true) else ((laws_szTripS.f l1 t278).bind fun t279 => (if t279 < 0 then (some true) else ((laws_toCells.f k a0_0 l0_1).bind fun bt280 => ((laws_toTripS.f k l1).bind fun t284 => ((spec_GoodTrips.f k bt280.1 bt280.2 t284).bind fun t287 => ((laws_toCells.f k a0_0 l0_1).bind fun bt288 => ((laws_toTripS.f k l1).bind fun t293 => ((impl_GoodTrips.f k bt288.1 bt288.2 t293).bind fun t296 => (if (t296 != t287) = true then (some false) else ((laws_toCells.f k a0_0 l0_1).bind fun bt297 => ((laws_eqCells.f k bt288.1 bt288.2 bt297.1 bt297.2).bind fun t301 => (if t301 = true then ((laws_toTripS.f k l1).bind fun t302 => ((laws_eqTripS.f k t293 t302).bind fun t305 => (if t305 = true then (some true) else (some false)))) else (some false))))))))))))))
theorem laws_FnExactGoodTrips.mono : ∀ a0 a1 a2 k, LeO (laws_FnExactGoodTrips.f k a0 a1 a2) (laws_FnExactGoodTrips.f (k + 1) a0 a1 a2) := by
  intro a0 a1 a2 k
  unfold laws_FnExactGoodTrips.f
  repeat' first | (with_reducible first | exact impl_GoodTrips.mono _ _ _ _ | exact laws_eqCells.mono _ _ _ _ _ | exact laws_eqTripS.mono _ _ _ | exact laws_toCells.mono _ _ _ | exact laws_toTripS.mono _ _ | exact spec_GoodTrips.mono _ _ _ _ | exact LeO.refl _ | exact LeO.none _ | refine LeO.ite ?_ ?_ | refine LeO.bind ?_ (fun _ => ?_)) | exact impl_GoodTrips.mono _ _ _ _ | exact laws_eqCells.mono _ _ _ _ _ | exact laws_eqTripS.mono _ _ _ | exact laws_toCells.mono _ _ _ | exact laws_toTripS.mono _ _ | exact spec_GoodTrips.mono _ _ _ _ | exact LeO.none _ | refine LeO.ite ?_ ?_ | refine LeO.bind ?_ (fun _ => ?_)

end Go.Proofs.Ytcldlljnaijmhaa.Pr
