-- Written by this session's own print (wip/tools/mkmp.py) out of the translation. Lean checks it.
import Derived.Test.YtkhkgfihodljmaaPr0
namespace Go.Proofs.Ytkhkgfihodljmaa.Pr
open Go.RowKit Go.Proofs.YtkhkgfihodljmaaW.PrintWords Go.Proofs.YtkhkgfihodljmaaW.PrintLast Go.Proofs.YtkhkgfihodljmaaW.PrintMore
attribute [local go_sem] max2_int min2_int max_two min_two max_three min_three max_four min_four   -- for this text's walks alone
set_option linter.unusedVariables false
set_option linter.unusedSimpArgs false

/-! ### laws_szNodeS: function 12 -/
def laws_szNodeS.f (l0 : List (S72)) (a1 : Int) : Option (Int) := if (wrap64 (a1 - (l0.length : Int))) < 0 then (some (-1)) else (some (wrap64 (a1 - (l0.length : Int))))

/-! ### spec_GoodTree: function 13 -/
mutual
def spec_GoodTree.j0 : Nat → List (S70) → Bool → Option (Bool)
  | 0, _, _ => none
  | k + 1, x0, x14 => if x14 = true then (some false) else (spec_GoodTree.l0 k x0 1 x0 (x0.length : Int) 0)
def spec_GoodTree.l0 : Nat → List (S70) → Int → List (S70) → Int → Int → Option (Bool)
  | 0, _, _, _, _, _ => none
  | k + 1, x0, x3, x15, x16, x17 => if x17 < x16 then (if 0 ≤ x17 then (if x17 < (x15.length : Int) then (if x3 = 0 then (spec_GoodTree.j2 k x0 x3 x15 x16 x17 true ((rd_T70 x15 x17).f0) ((rd_T70 x15 x17).f1) ((rd_T70 x15 x17).f2)) else (if ((rd_T70 x15 x17).f1) < 0 then (spec_GoodTree.j2 k x0 x3 x15 x16 x17 true ((rd_T70 x15 x17).f0) ((rd_T70 x15 x17).f1) ((rd_T70 x15 x17).f2)) else (spec_GoodTree.j2 k x0 x3 x15 x16 x17 (decide (((rd_T70 x15 x17).f1) > (x0.length : Int))) ((rd_T70 x15 x17).f0) ((rd_T70 x15 x17).f1) ((rd_T70 x15 x17).f2)))) else (none)) else (none)) else (some (x3 == 0))
def spec_GoodTree.j2 : Nat → List (S70) → Int → List (S70) → Int → Int → Bool → Int → Int → Int → Option (Bool)
  | 0, _, _, _, _, _, _, _, _, _ => none
  | k + 1, x0, x3, x15, x16, x17, x34, x103000, x103001, x103002 => if x34 = true then (some false) else (if x103000 = 1 then (spec_GoodTree.j3 k x0 x3 false x15 x16 x17 x103000 (x103000 == 1) x103000 x103001 x103002) else (if x103000 = 2 then (spec_GoodTree.j3 k x0 x3 false x15 x16 x17 x103000 (x103000 == 2) x103000 x103001 x103002) else (spec_GoodTree.j3 k x0 x3 false x15 x16 x17 x103000 (x103000 == 4) x103000 x103001 x103002)))
def spec_GoodTree.j3 : Nat → List (S70) → Int → Bool → List (S70) → Int → Int → Int → Bool → Int → Int → Int → Option (Bool)
  | 0, _, _, _, _, _, _, _, _, _, _, _ => none
  | k + 1, x0, x3, x6, x15, x16, x17, x36, x37, x103000, x103001, x103002 => if x37 = true then (if x103001 ≥ 1 then (if x103002 = 0 then (spec_GoodTree.l0 k x0 (wrap64 (x3 + (wrap64 (x103001 - 1)))) x15 x16 (wrap64 (x17 + 1))) else (some false)) else (some false)) else (if x36 = 3 then (if x103001 = 1 then (if x103002 = 0 then (spec_GoodTree.l0 k x0 (wrap64 (x3 + (wrap64 (x103001 - 1)))) x15 x16 (wrap64 (x17 + 1))) else (some false)) else (some false)) else (if x36 = 5 then (if x103001 = 0 then (if x103002 ≥ 0 then (if x103002 ≤ 9 then (spec_GoodTree.l0 k x0 (wrap64 (x3 + (wrap64 (x103001 - 1)))) x15 x16 (wrap64 (x17 + 1))) else (some false)) else (some false)) else (some false)) else (if x6 = true then (spec_GoodTree.l0 k x0 (wrap64 (x3 + (wrap64 (x103001 - 1)))) x15 x16 (wrap64 (x17 + 1))) else (some false))))
end
def spec_GoodTree.f (k : Nat) (l0 : List (S70)) : Option (Bool) := if (l0.length : Int) < 1 then (spec_GoodTree.j0 k l0 true) else (spec_GoodTree.j0 k l0 (decide ((l0.length : Int) > 24)))
theorem spec_GoodTree.mono_l : ∀ k, (∀ y0 y1, LeO (spec_GoodTree.j0 k y0 y1) (spec_GoodTree.j0 (k + 1) y0 y1)) ∧ (∀ y0 y1 y2 y3 y4, LeO (spec_GoodTree.l0 k y0 y1 y2 y3 y4) (spec_GoodTree.l0 (k + 1) y0 y1 y2 y3 y4)) ∧ (∀ y0 y1 y2 y3 y4 y5 y6 y7 y8, LeO (spec_GoodTree.j2 k y0 y1 y2 y3 y4 y5 y6 y7 y8) (spec_GoodTree.j2 (k + 1) y0 y1 y2 y3 y4 y5 y6 y7 y8)) ∧ (∀ y0 y1 y2 y3 y4 y5 y6 y7 y8 y9 y10, LeO (spec_GoodTree.j3 k y0 y1 y2 y3 y4 y5 y6 y7 y8 y9 y10) (spec_GoodTree.j3 (k + 1) y0 y1 y2 y3 y4 y5 y6 y7 y8 y9 y10))
  | 0 => ⟨fun _ _ r h => by simp [spec_GoodTree.j0] at h, fun _ _ _ _ _ r h => by simp [spec_GoodTree.l0] at h, fun _ _ _ _ _ _ _ _ _ r h => by simp [spec_GoodTree.j2] at h, fun _ _ _ _ _ _ _ _ _ _ _ r h => by simp [spec_GoodTree.j3] at h⟩
  | k + 1 => by
    obtain ⟨ih0, ih1, ih2, ih3⟩ := spec_GoodTree.mono_l k
    refine ⟨?_, ?_, ?_, ?_⟩
    · intro y0 y1
      unfold spec_GoodTree.j0
      repeat' first | (with_reducible first | exact ih0 _ _ | exact ih1 _ _ _ _ _ | exact ih2 _ _ _ _ _ _ _ _ _ | exact ih3 _ _ _ _ _ _ _ _ _ _ _ | exact LeO.refl _ | exact LeO.none _ | refine LeO.ite ?_ ?_ | refine LeO.bind ?_ (fun _ => ?_)) | exact ih0 _ _ | exact ih1 _ _ _ _ _ | exact ih2 _ _ _ _ _ _ _ _ _ | exact ih3 _ _ _ _ _ _ _ _ _ _ _ | exact LeO.none _ | refine LeO.ite ?_ ?_ | refine LeO.bind ?_ (fun _ => ?_)
    · intro y0 y1 y2 y3 y4
      unfold spec_GoodTree.l0
      repeat' first | (with_reducible first | exact ih0 _ _ | exact ih1 _ _ _ _ _ | exact ih2 _ _ _ _ _ _ _ _ _ | exact ih3 _ _ _ _ _ _ _ _ _ _ _ | exact LeO.refl _ | exact LeO.none _ | refine LeO.ite ?_ ?_ | refine LeO.bind ?_ (fun _ => ?_)) | exact ih0 _ _ | exact ih1 _ _ _ _ _ | exact ih2 _ _ _ _ _ _ _ _ _ | exact ih3 _ _ _ _ _ _ _ _ _ _ _ | exact LeO.none _ | refine LeO.ite ?_ ?_ | refine LeO.bind ?_ (fun _ => ?_)
    · intro y0 y1 y2 y3 y4 y5 y6 y7 y8
      unfold spec_GoodTree.j2
      repeat' first | (with_reducible first | exact ih0 _ _ | exact ih1 _ _ _ _ _ | exact ih2 _ _ _ _ _ _ _ _ _ | exact ih3 _ _ _ _ _ _ _ _ _ _ _ | exact LeO.refl _ | exact LeO.none _ | refine LeO.ite ?_ ?_ | refine LeO.bind ?_ (fun _ => ?_)) | exact ih0 _ _ | exact ih1 _ _ _ _ _ | exact ih2 _ _ _ _ _ _ _ _ _ | exact ih3 _ _ _ _ _ _ _ _ _ _ _ | exact LeO.none _ | refine LeO.ite ?_ ?_ | refine LeO.bind ?_ (fun _ => ?_)
    · intro y0 y1 y2 y3 y4 y5 y6 y7 y8 y9 y10
      unfold spec_GoodTree.j3
      repeat' first | (with_reducible first | exact ih0 _ _ | exact ih1 _ _ _ _ _ | exact ih2 _ _ _ _ _ _ _ _ _ | exact ih3 _ _ _ _ _ _ _ _ _ _ _ | exact LeO.refl _ | exact LeO.none _ | refine LeO.ite ?_ ?_ | refine LeO.bind ?_ (fun _ => ?_)) | exact ih0 _ _ | exact ih1 _ _ _ _ _ | exact ih2 _ _ _ _ _ _ _ _ _ | exact ih3 _ _ _ _ _ _ _ _ _ _ _ | exact LeO.none _ | refine LeO.ite ?_ ?_ | refine LeO.bind ?_ (fun _ => ?_)
theorem spec_GoodTree.mono : ∀ a0 k, LeO (spec_GoodTree.f k a0) (spec_GoodTree.f (k + 1) a0) := by
  intro a0 k
  obtain ⟨ih0, ih1, ih2, ih3⟩ := spec_GoodTree.mono_l k
  unfold spec_GoodTree.f
  repeat' first | (with_reducible first | exact ih0 _ _ | exact ih1 _ _ _ _ _ | exact ih2 _ _ _ _ _ _ _ _ _ | exact ih3 _ _ _ _ _ _ _ _ _ _ _ | exact LeO.refl _ | exact LeO.none _ | refine LeO.ite ?_ ?_ | refine LeO.bind ?_ (fun _ => ?_)) | exact ih0 _ _ | exact ih1 _ _ _ _ _ | exact ih2 _ _ _ _ _ _ _ _ _ | exact ih3 _ _ _ _ _ _ _ _ _ _ _ | exact LeO.none _ | refine LeO.ite ?_ ?_ | refine LeO.bind ?_ (fun _ => ?_)

/-! ### laws_toNode: function 48 -/
def laws_toNode.f (a0_0 : Int) (a0_1 : Int) (a0_2 : Int) : Option (Int × Int × Int) := some (a0_0, a0_1, a0_2)

/-! ### laws_toNodeS: function 14 -/
def laws_toNodeS.l0 : Nat → List (S72) → List (S70) → Int → Option ((List (S70)))
  | 0, _, _, _ => none
  | k + 1, x0, x3, x4 => if x4 < (x0.length : Int) then (if 0 ≤ x4 then ((laws_toNode.f ((rd_T72 x0 x4).f0) ((rd_T72 x0 x4).f1) ((rd_T72 x0 x4).f2)).bind fun bt110 => (if x4 < (x3.length : Int) then (laws_toNodeS.l0 k x0 (x3.set (x4 : Int).toNat (⟨bt110.1, bt110.2.1, bt110.2.2⟩ : S70)) (wrap64 (x4 + 1))) else (none))) else (none)) else (some x3)
def laws_toNodeS.f (k : Nat) (l0 : List (S72)) : Option ((List (S70))) := if 0 ≤ (l0.length : Int) then (if ((l0.length : Int) : Int).toNat ≤ 11728124029610 then (laws_toNodeS.l0 k l0 (List.replicate ((l0.length : Int) : Int).toNat z70) 0) else (none)) else (none)
theorem laws_toNodeS.mono_l : ∀ k, (∀ y0 y1 y2, LeO (laws_toNodeS.l0 k y0 y1 y2) (laws_toNodeS.l0 (k + 1) y0 y1 y2))
  | 0 => fun _ _ _ r h => by simp [laws_toNodeS.l0] at h
  | k + 1 => by
    have ih0 := laws_toNodeS.mono_l k
    · intro y0 y1 y2
      unfold laws_toNodeS.l0
      repeat' first | (with_reducible first | exact ih0 _ _ _ | exact LeO.refl _ | exact LeO.none _ | refine LeO.ite ?_ ?_ | refine LeO.bind ?_ (fun _ => ?_)) | exact ih0 _ _ _ | exact LeO.none _ | refine LeO.ite ?_ ?_ | refine LeO.bind ?_ (fun _ => ?_)
theorem laws_toNodeS.mono : ∀ a0 k, LeO (laws_toNodeS.f k a0) (laws_toNodeS.f (k + 1) a0) := by
  intro a0 k
  have ih0 := laws_toNodeS.mono_l k
  unfold laws_toNodeS.f
  repeat' first | (with_reducible first | exact ih0 _ _ _ | exact LeO.refl _ | exact LeO.none _ | refine LeO.ite ?_ ?_ | refine LeO.bind ?_ (fun _ => ?_)) | exact ih0 _ _ _ | exact LeO.none _ | refine LeO.ite ?_ ?_ | refine LeO.bind ?_ (fun _ => ?_)

/-! ### impl_between: function 49 -/
def impl_between.f (a0 : Int) (a1 : Int) (a2 : Int) : Option (Bool) := if a0 ≥ a1 then (some (decide (a0 ≤ a2))) else (some false)

/-! ### impl_GoodTree: function 15 -/
mutual
def impl_GoodTree.j0 : Nat → List (S70) → Bool → Option (Bool)
  | 0, _, _ => none
  | k + 1, x0, x13 => if x13 = true then (some false) else (impl_GoodTree.l0 k 1 x0 (x0.length : Int) 0)
def impl_GoodTree.l0 : Nat → Int → List (S70) → Int → Int → Option (Bool)
  | 0, _, _, _, _ => none
  | k + 1, x3, x14, x15, x16 => if x16 < x15 then (if 0 ≤ x16 then (if x16 < (x14.length : Int) then (if x3 = 0 then (impl_GoodTree.j2 k x3 x14 x15 x16 true ((rd_T70 x14 x16).f0) ((rd_T70 x14 x16).f1) ((rd_T70 x14 x16).f2)) else (if ((rd_T70 x14 x16).f1) < 0 then (impl_GoodTree.j2 k x3 x14 x15 x16 true ((rd_T70 x14 x16).f0) ((rd_T70 x14 x16).f1) ((rd_T70 x14 x16).f2)) else (if ((rd_T70 x14 x16).f1) > 24 then (impl_GoodTree.j2 k x3 x14 x15 x16 true ((rd_T70 x14 x16).f0) ((rd_T70 x14 x16).f1) ((rd_T70 x14 x16).f2)) else (if ((rd_T70 x14 x16).f2) = 0 then ((impl_between.f ((rd_T70 x14 x16).f2) 0 9).bind fun t116 => (impl_GoodTree.j2 k x3 x14 x15 x16 (!t116) ((rd_T70 x14 x16).f0) ((rd_T70 x14 x16).f1) ((rd_T70 x14 x16).f2))) else (if ((rd_T70 x14 x16).f0) = 5 then ((impl_between.f ((rd_T70 x14 x16).f2) 0 9).bind fun t117 => (impl_GoodTree.j2 k x3 x14 x15 x16 (!t117) ((rd_T70 x14 x16).f0) ((rd_T70 x14 x16).f1) ((rd_T70 x14 x16).f2))) else (impl_GoodTree.j2 k x3 x14 x15 x16 true ((rd_T70 x14 x16).f0) ((rd_T70 x14 x16).f1) ((rd_T70 x14 x16).f2))))))) else (none)) else (none)) else (some (x3 == 0))
def impl_GoodTree.j2 : Nat → Int → List (S70) → Int → Int → Bool → Int → Int → Int → Option (Bool)
  | 0, _, _, _, _, _, _, _, _ => none
  | k + 1, x3, x14, x15, x16, x47, x116000, x116001, x116002 => if x47 = true then (some false) else (if x116000 = 1 then (impl_GoodTree.j3 k x3 x14 x15 x16 x116000 (x116000 == 1) x116000 x116001 x116002) else (if x116000 = 2 then (impl_GoodTree.j3 k x3 x14 x15 x16 x116000 (x116000 == 2) x116000 x116001 x116002) else (impl_GoodTree.j3 k x3 x14 x15 x16 x116000 (x116000 == 4) x116000 x116001 x116002)))
def impl_GoodTree.j3 : Nat → Int → List (S70) → Int → Int → Int → Bool → Int → Int → Int → Option (Bool)
  | 0, _, _, _, _, _, _, _, _, _ => none
  | k + 1, x3, x14, x15, x16, x49, x50, x116000, x116001, x116002 => if x50 = true then (if x116001 < 1 then (some false) else (impl_GoodTree.l0 k (wrap64 (x3 + (wrap64 (x116001 - 1)))) x14 x15 (wrap64 (x16 + 1)))) else (if x49 = 3 then (if x116001 = 1 then (impl_GoodTree.l0 k (wrap64 (x3 + (wrap64 (x116001 - 1)))) x14 x15 (wrap64 (x16 + 1))) else (some false)) else (if x49 = 5 then (if x116001 = 0 then (impl_GoodTree.l0 k (wrap64 (x3 + (wrap64 (x116001 - 1)))) x14 x15 (wrap64 (x16 + 1))) else (some false)) else (some false)))
end
def impl_GoodTree.f (k : Nat) (l0 : List (S70)) : Option (Bool) := if (l0.length : Int) < 1 then (impl_GoodTree.j0 k l0 true) else (impl_GoodTree.j0 k l0 (decide ((l0.length : Int) > 24)))
theorem impl_GoodTree.mono_l : ∀ k, (∀ y0 y1, LeO (impl_GoodTree.j0 k y0 y1) (impl_GoodTree.j0 (k + 1) y0 y1)) ∧ (∀ y0 y1 y2 y3, LeO (impl_GoodTree.l0 k y0 y1 y2 y3) (impl_GoodTree.l0 (k + 1) y0 y1 y2 y3)) ∧ (∀ y0 y1 y2 y3 y4 y5 y6 y7, LeO (impl_GoodTree.j2 k y0 y1 y2 y3 y4 y5 y6 y7) (impl_GoodTree.j2 (k + 1) y0 y1 y2 y3 y4 y5 y6 y7)) ∧ (∀ y0 y1 y2 y3 y4 y5 y6 y7 y8, LeO (impl_GoodTree.j3 k y0 y1 y2 y3 y4 y5 y6 y7 y8) (impl_GoodTree.j3 (k + 1) y0 y1 y2 y3 y4 y5 y6 y7 y8))
  | 0 => ⟨fun _ _ r h => by simp [impl_GoodTree.j0] at h, fun _ _ _ _ r h => by simp [impl_GoodTree.l0] at h, fun _ _ _ _ _ _ _ _ r h => by simp [impl_GoodTree.j2] at h, fun _ _ _ _ _ _ _ _ _ r h => by simp [impl_GoodTree.j3] at h⟩
  | k + 1 => by
    obtain ⟨ih0, ih1, ih2, ih3⟩ := impl_GoodTree.mono_l k
    refine ⟨?_, ?_, ?_, ?_⟩
    · intro y0 y1
      unfold impl_GoodTree.j0
      repeat' first | (with_reducible first | exact ih0 _ _ | exact ih1 _ _ _ _ | exact ih2 _ _ _ _ _ _ _ _ | exact ih3 _ _ _ _ _ _ _ _ _ | exact LeO.refl _ | exact LeO.none _ | refine LeO.ite ?_ ?_ | refine LeO.bind ?_ (fun _ => ?_)) | exact ih0 _ _ | exact ih1 _ _ _ _ | exact ih2 _ _ _ _ _ _ _ _ | exact ih3 _ _ _ _ _ _ _ _ _ | exact LeO.none _ | refine LeO.ite ?_ ?_ | refine LeO.bind ?_ (fun _ => ?_)
    · intro y0 y1 y2 y3
      unfold impl_GoodTree.l0
      repeat' first | (with_reducible first | exact ih0 _ _ | exact ih1 _ _ _ _ | exact ih2 _ _ _ _ _ _ _ _ | exact ih3 _ _ _ _ _ _ _ _ _ | exact LeO.refl _ | exact LeO.none _ | refine LeO.ite ?_ ?_ | refine LeO.bind ?_ (fun _ => ?_)) | exact ih0 _ _ | exact ih1 _ _ _ _ | exact ih2 _ _ _ _ _ _ _ _ | exact ih3 _ _ _ _ _ _ _ _ _ | exact LeO.none _ | refine LeO.ite ?_ ?_ | refine LeO.bind ?_ (fun _ => ?_)
    · intro y0 y1 y2 y3 y4 y5 y6 y7
      unfold impl_GoodTree.j2
      repeat' first | (with_reducible first | exact ih0 _ _ | exact ih1 _ _ _ _ | exact ih2 _ _ _ _ _ _ _ _ | exact ih3 _ _ _ _ _ _ _ _ _ | exact LeO.refl _ | exact LeO.none _ | refine LeO.ite ?_ ?_ | refine LeO.bind ?_ (fun _ => ?_)) | exact ih0 _ _ | exact ih1 _ _ _ _ | exact ih2 _ _ _ _ _ _ _ _ | exact ih3 _ _ _ _ _ _ _ _ _ | exact LeO.none _ | refine LeO.ite ?_ ?_ | refine LeO.bind ?_ (fun _ => ?_)
    · intro y0 y1 y2 y3 y4 y5 y6 y7 y8
      unfold impl_GoodTree.j3
      repeat' first | (with_reducible first | exact ih0 _ _ | exact ih1 _ _ _ _ | exact ih2 _ _ _ _ _ _ _ _ | exact ih3 _ _ _ _ _ _ _ _ _ | exact LeO.refl _ | exact LeO.none _ | refine LeO.ite ?_ ?_ | refine LeO.bind ?_ (fun _ => ?_)) | exact ih0 _ _ | exact ih1 _ _ _ _ | exact ih2 _ _ _ _ _ _ _ _ | exact ih3 _ _ _ _ _ _ _ _ _ | exact LeO.none _ | refine LeO.ite ?_ ?_ | refine LeO.bind ?_ (fun _ => ?_)
theorem impl_GoodTree.mono : ∀ a0 k, LeO (impl_GoodTree.f k a0) (impl_GoodTree.f (k + 1) a0) := by
  intro a0 k
  obtain ⟨ih0, ih1, ih2, ih3⟩ := impl_GoodTree.mono_l k
  unfold impl_GoodTree.f
  repeat' first | (with_reducible first | exact ih0 _ _ | exact ih1 _ _ _ _ | exact ih2 _ _ _ _ _ _ _ _ | exact ih3 _ _ _ _ _ _ _ _ _ | exact LeO.refl _ | exact LeO.none _ | refine LeO.ite ?_ ?_ | refine LeO.bind ?_ (fun _ => ?_)) | exact ih0 _ _ | exact ih1 _ _ _ _ | exact ih2 _ _ _ _ _ _ _ _ | exact ih3 _ _ _ _ _ _ _ _ _ | exact LeO.none _ | refine LeO.ite ?_ ?_ | refine LeO.bind ?_ (fun _ => ?_)

/-! ### laws_eqNode: function 50 -/
def laws_eqNode.f (a0_0 : Int) (a0_1 : Int) (a0_2 : Int) (a1_0 : Int) (a1_1 : Int) (a1_2 : Int) : Option (Bool) := if a0_0 = a1_0 then (if a0_1 = a1_1 then (if a0_2 = a1_2 then (some true) else (some false)) else (some false)) else (some false)

/-! ### laws_eqNodeS: function 16 -/
def laws_eqNodeS.l0 : Nat → List (S70) → List (S70) → Int → Option (Bool)
  | 0, _, _, _ => none
  | k + 1, x0, x1, x5 => if x5 < (x0.length : Int) then (if 0 ≤ x5 then (if x5 < (x1.length : Int) then ((laws_eqNode.f ((rd_T70 x0 x5).f0) ((rd_T70 x0 x5).f1) ((rd_T70 x0 x5).f2) ((rd_T70 x1 x5).f0) ((rd_T70 x1 x5).f1) ((rd_T70 x1 x5).f2)).bind fun t122 => (if t122 = true then (laws_eqNodeS.l0 k x0 x1 (wrap64 (x5 + 1))) else (some false))) else (none)) else (none)) else (some true)
def laws_eqNodeS.f (k : Nat) (l0 : List (S70)) (l1 : List (S70)) : Option (Bool) := if (l0.length : Int) = (l1.length : Int) then (laws_eqNodeS.l0 k l0 l1 0) else (some false)
theorem laws_eqNodeS.mono_l : ∀ k, (∀ y0 y1 y2, LeO (laws_eqNodeS.l0 k y0 y1 y2) (laws_eqNodeS.l0 (k + 1) y0 y1 y2))
  | 0 => fun _ _ _ r h => by simp [laws_eqNodeS.l0] at h
  | k + 1 => by
    have ih0 := laws_eqNodeS.mono_l k
    · intro y0 y1 y2
      unfold laws_eqNodeS.l0
      repeat' first | (with_reducible first | exact ih0 _ _ _ | exact LeO.refl _ | exact LeO.none _ | refine LeO.ite ?_ ?_ | refine LeO.bind ?_ (fun _ => ?_)) | exact ih0 _ _ _ | exact LeO.none _ | refine LeO.ite ?_ ?_ | refine LeO.bind ?_ (fun _ => ?_)
theorem laws_eqNodeS.mono : ∀ a0 a1 k, LeO (laws_eqNodeS.f k a0 a1) (laws_eqNodeS.f (k + 1) a0 a1) := by
  intro a0 a1 k
  have ih0 := laws_eqNodeS.mono_l k
  unfold laws_eqNodeS.f
  repeat' first | (with_reducible first | exact ih0 _ _ _ | exact LeO.refl _ | exact LeO.none _ | refine LeO.ite ?_ ?_ | refine LeO.bind ?_ (fun _ => ?_)) | exact ih0 _ _ _ | exact LeO.none _ | refine LeO.ite ?_ ?_ | refine LeO.bind ?_ (fun _ => ?_)

/-! ### laws_FnExactGoodTree: function 3 -/
def laws_FnExactGoodTree.f (k : Nat) (l0 : List (S72)) : Option (Bool) := (laws_szNodeS.f l0 1048576).bind fun t123 => (if t123 < 0 then (some true) else ((laws_toNodeS.f k l0).bind fun t124 => ((spec_GoodTree.f k t124).bind fun t127 => ((laws_toNodeS.f k l0).bind fun t128 => ((impl_GoodTree.f k t128).bind fun t131 => (if (t131 != t127) = true then (some false) else ((laws_toNodeS.f k l0).bind fun t132 => ((laws_eqNodeS.f k t128 t132).bind fun t135 => (if t135 = true then (some true) else (some false))))))))))
theorem laws_FnExactGoodTree.mono : ∀ a0 k, LeO (laws_FnExactGoodTree.f k a0) (laws_FnExactGoodTree.f (k + 1) a0) := by
  intro a0 k
  unfold laws_FnExactGoodTree.f
  repeat' first | (with_reducible first | exact impl_GoodTree.mono _ _ | exact laws_eqNodeS.mono _ _ _ | exact laws_toNodeS.mono _ _ | exact spec_GoodTree.mono _ _ | exact LeO.refl _ | exact LeO.none _ | refine LeO.ite ?_ ?_ | refine LeO.bind ?_ (fun _ => ?_)) | exact impl_GoodTree.mono _ _ | exact laws_eqNodeS.mono _ _ _ | exact laws_toNodeS.mono _ _ | exact spec_GoodTree.mono _ _ | exact LeO.none _ | refine LeO.ite ?_ ?_ | refine LeO.bind ?_ (fun _ => ?_)

/-! ### laws_szStateS: function 64 -/
def laws_szStateS.f (l0 : List (S101)) (a1 : Int) : Option (Int) := if (wrap64 (a1 - (l0.length : Int))) < 0 then (some (-1)) else (some (wrap64 (a1 - (l0.length : Int))))

/-! ### laws_szArrowS: function 65 -/
def laws_szArrowS.f (l0 : List (S103)) (a1 : Int) : Option (Int) := if (wrap64 (a1 - (l0.length : Int))) < 0 then (some (-1)) else (some (wrap64 (a1 - (l0.length : Int))))

/-! ### laws_szChart: function 31 -/
def laws_szChart.f (l0_0 : List (S101)) (l0_1 : List (S103)) (a1 : Int) : Option (Int) := (laws_szStateS.f l0_0 a1).bind fun t137 => (if t137 < 0 then (some (-1)) else ((laws_szArrowS.f l0_1 t137).bind fun t138 => (if t138 < 0 then (some (-1)) else (some t138))))

/-! ### spec_GoodChart: function 32 -/
mutual
def spec_GoodChart.j0 : Nat → Int → Bool → List (S88) → List (S90) → Option (Bool)
  | 0, _, _, _, _ => none
  | k + 1, x3, x25, x140000, x140001 => if x25 = true then (some false) else (spec_GoodChart.l0 k x3 x140000 (x140000.length : Int) 0 x140000 x140001)
def spec_GoodChart.l0 : Nat → Int → List (S88) → Int → Int → List (S88) → List (S90) → Option (Bool)
  | 0, _, _, _, _, _, _ => none
  | k + 1, x3, x27, x28, x29, x140000, x140001 => if x29 < x28 then (if 0 ≤ x29 then (if x29 < (x27.length : Int) then (if x29 = 0 then (if ((rd_T88 x27 x29).f0) = (-1) then (if x29 > 0 then (if ((rd_T88 x27 x29).f0) < 0 then (spec_GoodChart.j2 k x3 x29 x27 x28 x29 true x140000 x140001 ((rd_T88 x27 x29).f0) ((rd_T88 x27 x29).f1)) else (spec_GoodChart.j2 k x3 x29 x27 x28 x29 (decide (((rd_T88 x27 x29).f0) ≥ x29)) x140000 x140001 ((rd_T88 x27 x29).f0) ((rd_T88 x27 x29).f1))) else (spec_GoodChart.j2 k x3 x29 x27 x28 x29 false x140000 x140001 ((rd_T88 x27 x29).f0) ((rd_T88 x27 x29).f1))) else (spec_GoodChart.j2 k x3 x29 x27 x28 x29 true x140000 x140001 ((rd_T88 x27 x29).f0) ((rd_T88 x27 x29).f1))) else (if x29 > 0 then (if ((rd_T88 x27 x29).f0) < 0 then (spec_GoodChart.j2 k x3 x29 x27 x28 x29 true x140000 x140001 ((rd_T88 x27 x29).f0) ((rd_T88 x27 x29).f1)) else (spec_GoodChart.j2 k x3 x29 x27 x28 x29 (decide (((rd_T88 x27 x29).f0) ≥ x29)) x140000 x140001 ((rd_T88 x27 x29).f0) ((rd_T88 x27 x29).f1))) else (spec_GoodChart.j2 k x3 x29 x27 x28 x29 false x140000 x140001 ((rd_T88 x27 x29).f0) ((rd_T88 x27 x29).f1)))) else (none)) else (none)) else (spec_GoodChart.l2 k x3 x140001 (x140001.length : Int) 0)
def spec_GoodChart.j2 : Nat → Int → Int → List (S88) → Int → Int → Bool → List (S88) → List (S90) → Int → Int → Option (Bool)
  | 0, _, _, _, _, _, _, _, _, _, _ => none
  | k + 1, x3, x4, x27, x28, x29, x55, x140000, x140001, x142000, x142001 => if x55 = true then (some false) else (spec_GoodChart.l1 k x3 x4 false x27 x28 x29 x140000 (x140000.length : Int) 0 x140000 x140001 x142000 x142001)
def spec_GoodChart.l1 : Nat → Int → Int → Bool → List (S88) → Int → Int → List (S88) → Int → Int → List (S88) → List (S90) → Int → Int → Option (Bool)
  | 0, _, _, _, _, _, _, _, _, _, _, _, _, _ => none
  | k + 1, x3, x4, x6, x27, x28, x29, x57, x58, x59, x140000, x140001, x142000, x142001 => if x59 < x58 then (if 0 ≤ x59 then (if x59 < (x57.length : Int) then (if x6 = true then (spec_GoodChart.l1 k x3 x4 true x27 x28 x29 x57 x58 (wrap64 (x59 + 1)) x140000 x140001 x142000 x142001) else (spec_GoodChart.l1 k x3 x4 (((rd_T88 x57 x59).f0) == x4) x27 x28 x29 x57 x58 (wrap64 (x59 + 1)) x140000 x140001 x142000 x142001)) else (none)) else (none)) else (if x6 = true then (if x142001 < 0 then (some false) else (if x142001 ≥ x3 then (some false) else (if 0 ≤ x142001 then (if x142001 < (x140000.length : Int) then (if ((rd_T88 x140000 x142001).f0) = x4 then (spec_GoodChart.l0 k x3 x27 x28 (wrap64 (x29 + 1)) x140000 x140001) else (some false)) else (none)) else (none)))) else (if x142001 = (-1) then (spec_GoodChart.l0 k x3 x27 x28 (wrap64 (x29 + 1)) x140000 x140001) else (some false)))
def spec_GoodChart.l2 : Nat → Int → List (S90) → Int → Int → Option (Bool)
  | 0, _, _, _, _ => none
  | k + 1, x3, x105, x106, x107 => if x107 < x106 then (if 0 ≤ x107 then (if x107 < (x105.length : Int) then (if ((rd_T90 x105 x107).f0) < 0 then (some false) else (if ((rd_T90 x105 x107).f0) ≥ x3 then (some false) else (if ((rd_T90 x105 x107).f2) < 0 then (some false) else (if ((rd_T90 x105 x107).f2) ≥ x3 then (some false) else (if ((rd_T90 x105 x107).f1) < 0 then (some false) else (if ((rd_T90 x105 x107).f1) ≥ 6 then (some false) else (spec_GoodChart.l2 k x3 x105 x106 (wrap64 (x107 + 1))))))))) else (none)) else (none)) else (some true)
end
def spec_GoodChart.f (k : Nat) (l0_0 : List (S88)) (l0_1 : List (S90)) : Option (Bool) := if (l0_0.length : Int) < 1 then (spec_GoodChart.j0 k (l0_0.length : Int) true l0_0 l0_1) else (if (l0_0.length : Int) > 12 then (spec_GoodChart.j0 k (l0_0.length : Int) true l0_0 l0_1) else (spec_GoodChart.j0 k (l0_0.length : Int) (decide ((l0_1.length : Int) > 24)) l0_0 l0_1))
theorem spec_GoodChart.mono_l : ∀ k, (∀ y0 y1 y2 y3, LeO (spec_GoodChart.j0 k y0 y1 y2 y3) (spec_GoodChart.j0 (k + 1) y0 y1 y2 y3)) ∧ (∀ y0 y1 y2 y3 y4 y5, LeO (spec_GoodChart.l0 k y0 y1 y2 y3 y4 y5) (spec_GoodChart.l0 (k + 1) y0 y1 y2 y3 y4 y5)) ∧ (∀ y0 y1 y2 y3 y4 y5 y6 y7 y8 y9, LeO (spec_GoodChart.j2 k y0 y1 y2 y3 y4 y5 y6 y7 y8 y9) (spec_GoodChart.j2 (k + 1) y0 y1 y2 y3 y4 y5 y6 y7 y8 y9)) ∧ (∀ y0 y1 y2 y3 y4 y5 y6 y7 y8 y9 y10 y11 y12, LeO (spec_GoodChart.l1 k y0 y1 y2 y3 y4 y5 y6 y7 y8 y9 y10 y11 y12) (spec_GoodChart.l1 (k + 1) y0 y1 y2 y3 y4 y5 y6 y7 y8 y9 y10 y11 y12)) ∧ (∀ y0 y1 y2 y3, LeO (spec_GoodChart.l2 k y0 y1 y2 y3) (spec_GoodChart.l2 (k + 1) y0 y1 y2 y3))
  | 0 => ⟨fun _ _ _ _ r h => by simp [spec_GoodChart.j0] at h, fun _ _ _ _ _ _ r h => by simp [spec_GoodChart.l0] at h, fun _ _ _ _ _ _ _ _ _ _ r h => by simp [spec_GoodChart.j2] at h, fun _ _ _ _ _ _ _ _ _ _ _ _ _ r h => by simp [spec_GoodChart.l1] at h, fun _ _ _ _ r h => by simp [spec_GoodChart.l2] at h⟩
  | k + 1 => by
    obtain ⟨ih0, ih1, ih2, ih3, ih4⟩ := spec_GoodChart.mono_l k
    refine ⟨?_, ?_, ?_, ?_, ?_⟩
    · intro y0 y1 y2 y3
      unfold spec_GoodChart.j0
      repeat' first | (with_reducible first | exact ih0 _ _ _ _ | exact ih1 _ _ _ _ _ _ | exact ih2 _ _ _ _ _ _ _ _ _ _ | exact ih3 _ _ _ _ _ _ _ _ _ _ _ _ _ | exact ih4 _ _ _ _ | exact LeO.refl _ | exact LeO.none _ | refine LeO.ite ?_ ?_ | refine LeO.bind ?_ (fun _ => ?_)) | exact ih0 _ _ _ _ | exact ih1 _ _ _ _ _ _ | exact ih2 _ _ _ _ _ _ _ _ _ _ | exact ih3 _ _ _ _ _ _ _ _ _ _ _ _ _ | exact ih4 _ _ _ _ | exact LeO.none _ | refine LeO.ite ?_ ?_ | refine LeO.bind ?_ (fun _ => ?_)
    · intro y0 y1 y2 y3 y4 y5
      unfold spec_GoodChart.l0
      repeat' first | (with_reducible first | exact ih0 _ _ _ _ | exact ih1 _ _ _ _ _ _ | exact ih2 _ _ _ _ _ _ _ _ _ _ | exact ih3 _ _ _ _ _ _ _ _ _ _ _ _ _ | exact ih4 _ _ _ _ | exact LeO.refl _ | exact LeO.none _ | refine LeO.ite ?_ ?_ | refine LeO.bind ?_ (fun _ => ?_)) | exact ih0 _ _ _ _ | exact ih1 _ _ _ _ _ _ | exact ih2 _ _ _ _ _ _ _ _ _ _ | exact ih3 _ _ _ _ _ _ _ _ _ _ _ _ _ | exact ih4 _ _ _ _ | exact LeO.none _ | refine LeO.ite ?_ ?_ | refine LeO.bind ?_ (fun _ => ?_)
    · intro y0 y1 y2 y3 y4 y5 y6 y7 y8 y9
      unfold spec_GoodChart.j2
      repeat' first | (with_reducible first | exact ih0 _ _ _ _ | exact ih1 _ _ _ _ _ _ | exact ih2 _ _ _ _ _ _ _ _ _ _ | exact ih3 _ _ _ _ _ _ _ _ _ _ _ _ _ | exact ih4 _ _ _ _ | exact LeO.refl _ | exact LeO.none _ | refine LeO.ite ?_ ?_ | refine LeO.bind ?_ (fun _ => ?_)) | exact ih0 _ _ _ _ | exact ih1 _ _ _ _ _ _ | exact ih2 _ _ _ _ _ _ _ _ _ _ | exact ih3 _ _ _ _ _ _ _ _ _ _ _ _ _ | exact ih4 _ _ _ _ | exact LeO.none _ | refine LeO.ite ?_ ?_ | refine LeO.bind ?_ (fun _ => ?_)
    · intro y0 y1 y2 y3 y4 y5 y6 y7 y8 y9 y10 y11 y12
      unfold spec_GoodChart.l1
      repeat' first | (with_reducible first | exact ih0 _ _ _ _ | exact ih1 _ _ _ _ _ _ | exact ih2 _ _ _ _ _ _ _ _ _ _ | exact ih3 _ _ _ _ _ _ _ _ _ _ _ _ _ | exact ih4 _ _ _ _ | exact LeO.refl _ | exact LeO.none _ | refine LeO.ite ?_ ?_ | refine LeO.bind ?_ (fun _ => ?_)) | exact ih0 _ _ _ _ | exact ih1 _ _ _ _ _ _ | exact ih2 _ _ _ _ _ _ _ _ _ _ | exact ih3 _ _ _ _ _ _ _ _ _ _ _ _ _ | exact ih4 _ _ _ _ | exact LeO.none _ | refine LeO.ite ?_ ?_ | refine LeO.bind ?_ (fun _ => ?_)
    · intro y0 y1 y2 y3
      unfold spec_GoodChart.l2
      repeat' first | (with_reducible first | exact ih0 _ _ _ _ | exact ih1 _ _ _ _ _ _ | exact ih2 _ _ _ _ _ _ _ _ _ _ | exact ih3 _ _ _ _ _ _ _ _ _ _ _ _ _ | exact ih4 _ _ _ _ | exact LeO.refl _ | exact LeO.none _ | refine LeO.ite ?_ ?_ | refine LeO.bind ?_ (fun _ => ?_)) | exact ih0 _ _ _ _ | exact ih1 _ _ _ _ _ _ | exact ih2 _ _ _ _ _ _ _ _ _ _ | exact ih3 _ _ _ _ _ _ _ _ _ _ _ _ _ | exact ih4 _ _ _ _ | exact LeO.none _ | refine LeO.ite ?_ ?_ | refine LeO.bind ?_ (fun _ => ?_)
theorem spec_GoodChart.mono : ∀ a0 a1 k, LeO (spec_GoodChart.f k a0 a1) (spec_GoodChart.f (k + 1) a0 a1) := by
  intro a0 a1 k
  obtain ⟨ih0, ih1, ih2, ih3, ih4⟩ := spec_GoodChart.mono_l k
  unfold spec_GoodChart.f
  repeat' first | (with_reducible first | exact ih0 _ _ _ _ | exact ih1 _ _ _ _ _ _ | exact ih2 _ _ _ _ _ _ _ _ _ _ | exact ih3 _ _ _ _ _ _ _ _ _ _ _ _ _ | exact ih4 _ _ _ _ | exact LeO.refl _ | exact LeO.none _ | refine LeO.ite ?_ ?_ | refine LeO.bind ?_ (fun _ => ?_)) | exact ih0 _ _ _ _ | exact ih1 _ _ _ _ _ _ | exact ih2 _ _ _ _ _ _ _ _ _ _ | exact ih3 _ _ _ _ _ _ _ _ _ _ _ _ _ | exact ih4 _ _ _ _ | exact LeO.none _ | refine LeO.ite ?_ ?_ | refine LeO.bind ?_ (fun _ => ?_)

/-! ### laws_toState: function 80 -/
def laws_toState.f (a0_0 : Int) (a0_1 : Int) : Option (Int × Int) := some (a0_0, a0_1)

/-! ### laws_toStateS: function 66 -/
def laws_toStateS.l0 : Nat → List (S101) → List (S88) → Int → Option ((List (S88)))
  | 0, _, _, _ => none
  | k + 1, x0, x3, x4 => if x4 < (x0.length : Int) then (if 0 ≤ x4 then ((laws_toState.f ((rd_T101 x0 x4).f0) ((rd_T101 x0 x4).f1)).bind fun bt154 => (if x4 < (x3.length : Int) then (laws_toStateS.l0 k x0 (x3.set (x4 : Int).toNat (⟨bt154.1, bt154.2⟩ : S88)) (wrap64 (x4 + 1))) else (none))) else (none)) else (some x3)
def laws_toStateS.f (k : Nat) (l0 : List (S101)) : Option ((List (S88))) := if 0 ≤ (l0.length : Int) then (if ((l0.length : Int) : Int).toNat ≤ 17592186044416 then (laws_toStateS.l0 k l0 (List.replicate ((l0.length : Int) : Int).toNat z88) 0) else (none)) else (none)
theorem laws_toStateS.mono_l : ∀ k, (∀ y0 y1 y2, LeO (laws_toStateS.l0 k y0 y1 y2) (laws_toStateS.l0 (k + 1) y0 y1 y2))
  | 0 => fun _ _ _ r h => by simp [laws_toStateS.l0] at h
  | k + 1 => by
    have ih0 := laws_toStateS.mono_l k
    · intro y0 y1 y2
      unfold laws_toStateS.l0
      repeat' first | (with_reducible first | exact ih0 _ _ _ | exact LeO.refl _ | exact LeO.none _ | refine LeO.ite ?_ ?_ | refine LeO.bind ?_ (fun _ => ?_)) | exact ih0 _ _ _ | exact LeO.none _ | refine LeO.ite ?_ ?_ | refine LeO.bind ?_ (fun _ => ?_)
theorem laws_toStateS.mono : ∀ a0 k, LeO (laws_toStateS.f k a0) (laws_toStateS.f (k + 1) a0) := by
  intro a0 k
  have ih0 := laws_toStateS.mono_l k
  unfold laws_toStateS.f
  repeat' first | (with_reducible first | exact ih0 _ _ _ | exact LeO.refl _ | exact LeO.none _ | refine LeO.ite ?_ ?_ | refine LeO.bind ?_ (fun _ => ?_)) | exact ih0 _ _ _ | exact LeO.none _ | refine LeO.ite ?_ ?_ | refine LeO.bind ?_ (fun _ => ?_)

/-! ### laws_toArrow: function 81 -/
def laws_toArrow.f (a0_0 : Int) (a0_1 : Int) (a0_2 : Int) : Option (Int × Int × Int) := some (a0_0, a0_1, a0_2)

/-! ### laws_toArrowS: function 67 -/
def laws_toArrowS.l0 : Nat → List (S103) → List (S90) → Int → Option ((List (S90)))
  | 0, _, _, _ => none
  | k + 1, x0, x3, x4 => if x4 < (x0.length : Int) then (if 0 ≤ x4 then ((laws_toArrow.f ((rd_T103 x0 x4).f0) ((rd_T103 x0 x4).f1) ((rd_T103 x0 x4).f2)).bind fun bt164 => (if x4 < (x3.length : Int) then (laws_toArrowS.l0 k x0 (x3.set (x4 : Int).toNat (⟨bt164.1, bt164.2.1, bt164.2.2⟩ : S90)) (wrap64 (x4 + 1))) else (none))) else (none)) else (some x3)
def laws_toArrowS.f (k : Nat) (l0 : List (S103)) : Option ((List (S90))) := if 0 ≤ (l0.length : Int) then (if ((l0.length : Int) : Int).toNat ≤ 11728124029610 then (laws_toArrowS.l0 k l0 (List.replicate ((l0.length : Int) : Int).toNat z90) 0) else (none)) else (none)
theorem laws_toArrowS.mono_l : ∀ k, (∀ y0 y1 y2, LeO (laws_toArrowS.l0 k y0 y1 y2) (laws_toArrowS.l0 (k + 1) y0 y1 y2))
  | 0 => fun _ _ _ r h => by simp [laws_toArrowS.l0] at h
  | k + 1 => by
    have ih0 := laws_toArrowS.mono_l k
    · intro y0 y1 y2
      unfold laws_toArrowS.l0
      repeat' first | (with_reducible first | exact ih0 _ _ _ | exact LeO.refl _ | exact LeO.none _ | refine LeO.ite ?_ ?_ | refine LeO.bind ?_ (fun _ => ?_)) | exact ih0 _ _ _ | exact LeO.none _ | refine LeO.ite ?_ ?_ | refine LeO.bind ?_ (fun _ => ?_)
theorem laws_toArrowS.mono : ∀ a0 k, LeO (laws_toArrowS.f k a0) (laws_toArrowS.f (k + 1) a0) := by
  intro a0 k
  have ih0 := laws_toArrowS.mono_l k
  unfold laws_toArrowS.f
  repeat' first | (with_reducible first | exact ih0 _ _ _ | exact LeO.refl _ | exact LeO.none _ | refine LeO.ite ?_ ?_ | refine LeO.bind ?_ (fun _ => ?_)) | exact ih0 _ _ _ | exact LeO.none _ | refine LeO.ite ?_ ?_ | refine LeO.bind ?_ (fun _ => ?_)

/-! ### laws_toChart: function 33 -/
def laws_toChart.f (k : Nat) (l0_0 : List (S101)) (l0_1 : List (S103)) : Option ((List (S88)) × (List (S90))) := (laws_toStateS.f k l0_0).bind fun t171 => ((laws_toArrowS.f k l0_1).bind fun t174 => (some (t171, t174)))
theorem laws_toChart.mono : ∀ a0 a1 k, LeO (laws_toChart.f k a0 a1) (laws_toChart.f (k + 1) a0 a1) := by
  intro a0 a1 k
  unfold laws_toChart.f
  repeat' first | (with_reducible first | exact laws_toArrowS.mono _ _ | exact laws_toStateS.mono _ _ | exact LeO.refl _ | exact LeO.none _ | refine LeO.ite ?_ ?_ | refine LeO.bind ?_ (fun _ => ?_)) | exact laws_toArrowS.mono _ _ | exact laws_toStateS.mono _ _ | exact LeO.none _ | refine LeO.ite ?_ ?_ | refine LeO.bind ?_ (fun _ => ?_)

/-! ### impl_GoodChart: function 34 -/
mutual
def impl_GoodChart.j0 : Nat → Int → Bool → List (S88) → List (S90) → Option (Bool)
  | 0, _, _, _, _ => none
  | k + 1, x3, x33, x178000, x178001 => if x33 = true then (some false) else (if 0 ≤ x3 then (if (x3 : Int).toNat ≤ 281474976710656 then (if 1 ≤ (x178000.length : Int) then ((some (x178000.drop 1 : List (S88))).bind fun y182 => (impl_GoodChart.l0 k x3 (List.replicate (x3 : Int).toNat false) y182 (y182.length : Int) 0 x178000 x178001)) else (none)) else (none)) else (none))
def impl_GoodChart.l0 : Nat → Int → List Bool → List (S88) → Int → Int → List (S88) → List (S90) → Option (Bool)
  | 0, _, _, _, _, _, _, _ => none
  | k + 1, x3, x4, x38, x39, x40, x178000, x178001 => if x40 < x39 then (if 0 ≤ x40 then (if x40 < (x38.length : Int) then (if ((rd_T88 x38 x40).f0) < 0 then (some false) else (if ((rd_T88 x38 x40).f0) > x40 then (some false) else (if 0 ≤ ((rd_T88 x38 x40).f0) then (if ((rd_T88 x38 x40).f0) < (x4.length : Int) then (impl_GoodChart.l0 k x3 (x4.set (((rd_T88 x38 x40).f0) : Int).toNat true) x38 x39 (wrap64 (x40 + 1)) x178000 x178001) else (none)) else (none)))) else (none)) else (none)) else (impl_GoodChart.l1 k x3 x4 x178000 (x178000.length : Int) 0 x178000 x178001)
def impl_GoodChart.l1 : Nat → Int → List Bool → List (S88) → Int → Int → List (S88) → List (S90) → Option (Bool)
  | 0, _, _, _, _, _, _, _ => none
  | k + 1, x3, x4, x60, x61, x62, x178000, x178001 => if x62 < x61 then (if 0 ≤ x62 then (if x62 < (x60.length : Int) then (if x62 < (x4.length : Int) then (if rdOf false x4 x62 = true then (if ((rd_T88 x60 x62).f1) < 0 then (some false) else (if ((rd_T88 x60 x62).f1) ≥ x3 then (some false) else (if 0 ≤ ((rd_T88 x60 x62).f1) then (if ((rd_T88 x60 x62).f1) < (x178000.length : Int) then (if ((rd_T88 x178000 ((rd_T88 x60 x62).f1)).f0) = x62 then (impl_GoodChart.l1 k x3 x4 x60 x61 (wrap64 (x62 + 1)) x178000 x178001) else (some false)) else (none)) else (none)))) else (if ((rd_T88 x60 x62).f1) = (-1) then (impl_GoodChart.l1 k x3 x4 x60 x61 (wrap64 (x62 + 1)) x178000 x178001) else (some false))) else (none)) else (none)) else (none)) else (impl_GoodChart.l2 k x3 x178001 (x178001.length : Int) 0)
def impl_GoodChart.l2 : Nat → Int → List (S90) → Int → Int → Option (Bool)
  | 0, _, _, _, _ => none
  | k + 1, x3, x97, x98, x99 => if x99 < x98 then (if 0 ≤ x99 then (if x99 < (x97.length : Int) then ((impl_between.f ((rd_T90 x97 x99).f0) 0 (wrap64 (x3 - 1))).bind fun t195 => (if t195 = true then ((impl_between.f ((rd_T90 x97 x99).f2) 0 (wrap64 (x3 - 1))).bind fun t196 => (if t196 = true then ((impl_between.f ((rd_T90 x97 x99).f1) 0 5).bind fun t197 => (if t197 = true then (impl_GoodChart.l2 k x3 x97 x98 (wrap64 (x99 + 1))) else (some false))) else (some false))) else (some false))) else (none)) else (none)) else (some true)
end
def impl_GoodChart.f (k : Nat) (l0_0 : List (S88)) (l0_1 : List (S90)) : Option (Bool) := if (l0_0.length : Int) < 1 then (impl_GoodChart.j0 k (l0_0.length : Int) true l0_0 l0_1) else (if (l0_0.length : Int) > 12 then (impl_GoodChart.j0 k (l0_0.length : Int) true l0_0 l0_1) else (if (l0_1.length : Int) > 24 then (impl_GoodChart.j0 k (l0_0.length : Int) true l0_0 l0_1) else (if 0 < (l0_0.length : Int) then (impl_GoodChart.j0 k (l0_0.length : Int) (((rd_T88 l0_0 0).f0) != (-1)) l0_0 l0_1) else (none))))
theorem impl_GoodChart.mono_l : ∀ k, (∀ y0 y1 y2 y3, LeO (impl_GoodChart.j0 k y0 y1 y2 y3) (impl_GoodChart.j0 (k + 1) y0 y1 y2 y3)) ∧ (∀ y0 y1 y2 y3 y4 y5 y6, LeO (impl_GoodChart.l0 k y0 y1 y2 y3 y4 y5 y6) (impl_GoodChart.l0 (k + 1) y0 y1 y2 y3 y4 y5 y6)) ∧ (∀ y0 y1 y2 y3 y4 y5 y6, LeO (impl_GoodChart.l1 k y0 y1 y2 y3 y4 y5 y6) (impl_GoodChart.l1 (k + 1) y0 y1 y2 y3 y4 y5 y6)) ∧ (∀ y0 y1 y2 y3, LeO (impl_GoodChart.l2 k y0 y1 y2 y3) (impl_GoodChart.l2 (k + 1) y0 y1 y2 y3))
  | 0 => ⟨fun _ _ _ _ r h => by simp [impl_GoodChart.j0] at h, fun _ _ _ _ _ _ _ r h => by simp [impl_GoodChart.l0] at h, fun _ _ _ _ _ _ _ r h => by simp [impl_GoodChart.l1] at h, fun _ _ _ _ r h => by simp [impl_GoodChart.l2] at h⟩
  | k + 1 => by
    obtain ⟨ih0, ih1, ih2, ih3⟩ := impl_GoodChart.mono_l k
    refine ⟨?_, ?_, ?_, ?_⟩
    · intro y0 y1 y2 y3
      unfold impl_GoodChart.j0
      repeat' first | (with_reducible first | exact ih0 _ _ _ _ | exact ih1 _ _ _ _ _ _ _ | exact ih2 _ _ _ _ _ _ _ | exact ih3 _ _ _ _ | exact LeO.refl _ | exact LeO.none _ | refine LeO.ite ?_ ?_ | refine LeO.bind ?_ (fun _ => ?_)) | exact ih0 _ _ _ _ | exact ih1 _ _ _ _ _ _ _ | exact ih2 _ _ _ _ _ _ _ | exact ih3 _ _ _ _ | exact LeO.none _ | refine LeO.ite ?_ ?_ | refine LeO.bind ?_ (fun _ => ?_)
    · intro y0 y1 y2 y3 y4 y5 y6
      unfold impl_GoodChart.l0
      repeat' first | (with_reducible first | exact ih0 _ _ _ _ | exact ih1 _ _ _ _ _ _ _ | exact ih2 _ _ _ _ _ _ _ | exact ih3 _ _ _ _ | exact LeO.refl _ | exact LeO.none _ | refine LeO.ite ?_ ?_ | refine LeO.bind ?_ (fun _ => ?_)) | exact ih0 _ _ _ _ | exact ih1 _ _ _ _ _ _ _ | exact ih2 _ _ _ _ _ _ _ | exact ih3 _ _ _ _ | exact LeO.none _ | refine LeO.ite ?_ ?_ | refine LeO.bind ?_ (fun _ => ?_)
    · intro y0 y1 y2 y3 y4 y5 y6
      unfold impl_GoodChart.l1
      repeat' first | (with_reducible first | exact ih0 _ _ _ _ | exact ih1 _ _ _ _ _ _ _ | exact ih2 _ _ _ _ _ _ _ | exact ih3 _ _ _ _ | exact LeO.refl _ | exact LeO.none _ | refine LeO.ite ?_ ?_ | refine LeO.bind ?_ (fun _ => ?_)) | exact ih0 _ _ _ _ | exact ih1 _ _ _ _ _ _ _ | exact ih2 _ _ _ _ _ _ _ | exact ih3 _ _ _ _ | exact LeO.none _ | refine LeO.ite ?_ ?_ | refine LeO.bind ?_ (fun _ => ?_)
    · intro y0 y1 y2 y3
      unfold impl_GoodChart.l2
      repeat' first | (with_reducible first | exact ih0 _ _ _ _ | exact ih1 _ _ _ _ _ _ _ | exact ih2 _ _ _ _ _ _ _ | exact ih3 _ _ _ _ | exact LeO.refl _ | exact LeO.none _ | refine LeO.ite ?_ ?_ | refine LeO.bind ?_ (fun _ => ?_)) | exact ih0 _ _ _ _ | exact ih1 _ _ _ _ _ _ _ | exact ih2 _ _ _ _ _ _ _ | exact ih3 _ _ _ _ | exact LeO.none _ | refine LeO.ite ?_ ?_ | refine LeO.bind ?_ (fun _ => ?_)
theorem impl_GoodChart.mono : ∀ a0 a1 k, LeO (impl_GoodChart.f k a0 a1) (impl_GoodChart.f (k + 1) a0 a1) := by
  intro a0 a1 k
  obtain ⟨ih0, ih1, ih2, ih3⟩ := impl_GoodChart.mono_l k
  unfold impl_GoodChart.f
  repeat' first | (with_reducible first | exact ih0 _ _ _ _ | exact ih1 _ _ _ _ _ _ _ | exact ih2 _ _ _ _ _ _ _ | exact ih3 _ _ _ _ | exact LeO.refl _ | exact LeO.none _ | refine LeO.ite ?_ ?_ | refine LeO.bind ?_ (fun _ => ?_)) | exact ih0 _ _ _ _ | exact ih1 _ _ _ _ _ _ _ | exact ih2 _ _ _ _ _ _ _ | exact ih3 _ _ _ _ | exact LeO.none _ | refine LeO.ite ?_ ?_ | refine LeO.bind ?_ (fun _ => ?_)

/-! ### laws_eqState: function 82 -/
def laws_eqState.f (a0_0 : Int) (a0_1 : Int) (a1_0 : Int) (a1_1 : Int) : Option (Bool) := if a0_0 = a1_0 then (if a0_1 = a1_1 then (some true) else (some false)) else (some false)

/-! ### laws_eqStateS: function 68 -/
def laws_eqStateS.l0 : Nat → List (S88) → List (S88) → Int → Option (Bool)
  | 0, _, _, _ => none
  | k + 1, x0, x1, x5 => if x5 < (x0.length : Int) then (if 0 ≤ x5 then (if x5 < (x1.length : Int) then ((laws_eqState.f ((rd_T88 x0 x5).f0) ((rd_T88 x0 x5).f1) ((rd_T88 x1 x5).f0) ((rd_T88 x1 x5).f1)).bind fun t202 => (if t202 = true then (laws_eqStateS.l0 k x0 x1 (wrap64 (x5 + 1))) else (some false))) else (none)) else (none)) else (some true)
def laws_eqStateS.f (k : Nat) (l0 : List (S88)) (l1 : List (S88)) : Option (Bool) := if (l0.length : Int) = (l1.length : Int) then (laws_eqStateS.l0 k l0 l1 0) else (some false)
theorem laws_eqStateS.mono_l : ∀ k, (∀ y0 y1 y2, LeO (laws_eqStateS.l0 k y0 y1 y2) (laws_eqStateS.l0 (k + 1) y0 y1 y2))
  | 0 => fun _ _ _ r h => by simp [laws_eqStateS.l0] at h
  | k + 1 => by
    have ih0 := laws_eqStateS.mono_l k
    · intro y0 y1 y2
      unfold laws_eqStateS.l0
      repeat' first | (with_reducible first | exact ih0 _ _ _ | exact LeO.refl _ | exact LeO.none _ | refine LeO.ite ?_ ?_ | refine LeO.bind ?_ (fun _ => ?_)) | exact ih0 _ _ _ | exact LeO.none _ | refine LeO.ite ?_ ?_ | refine LeO.bind ?_ (fun _ => ?_)
theorem laws_eqStateS.mono : ∀ a0 a1 k, LeO (laws_eqStateS.f k a0 a1) (laws_eqStateS.f (k + 1) a0 a1) := by
  intro a0 a1 k
  have ih0 := laws_eqStateS.mono_l k
  unfold laws_eqStateS.f
  repeat' first | (with_reducible first | exact ih0 _ _ _ | exact LeO.refl _ | exact LeO.none _ | refine LeO.ite ?_ ?_ | refine LeO.bind ?_ (fun _ => ?_)) | exact ih0 _ _ _ | exact LeO.none _ | refine LeO.ite ?_ ?_ | refine LeO.bind ?_ (fun _ => ?_)

/-! ### laws_eqArrow: function 83 -/
def laws_eqArrow.f (a0_0 : Int) (a0_1 : Int) (a0_2 : Int) (a1_0 : Int) (a1_1 : Int) (a1_2 : Int) : Option (Bool) := if a0_0 = a1_0 then (if a0_1 = a1_1 then (if a0_2 = a1_2 then (some true) else (some false)) else (some false)) else (some false)

/-! ### laws_eqArrowS: function 69 -/
def laws_eqArrowS.l0 : Nat → List (S90) → List (S90) → Int → Option (Bool)
  | 0, _, _, _ => none
  | k + 1, x0, x1, x5 => if x5 < (x0.length : Int) then (if 0 ≤ x5 then (if x5 < (x1.length : Int) then ((laws_eqArrow.f ((rd_T90 x0 x5).f0) ((rd_T90 x0 x5).f1) ((rd_T90 x0 x5).f2) ((rd_T90 x1 x5).f0) ((rd_T90 x1 x5).f1) ((rd_T90 x1 x5).f2)).bind fun t207 => (if t207 = true then (laws_eqArrowS.l0 k x0 x1 (wrap64 (x5 + 1))) else (some false))) else (none)) else (none)) else (some true)
def laws_eqArrowS.f (k : Nat) (l0 : List (S90)) (l1 : List (S90)) : Option (Bool) := if (l0.length : Int) = (l1.length : Int) then (laws_eqArrowS.l0 k l0 l1 0) else (some false)
theorem laws_eqArrowS.mono_l : ∀ k, (∀ y0 y1 y2, LeO (laws_eqArrowS.l0 k y0 y1 y2) (laws_eqArrowS.l0 (k + 1) y0 y1 y2))
  | 0 => fun _ _ _ r h => by simp [laws_eqArrowS.l0] at h
  | k + 1 => by
    have ih0 := laws_eqArrowS.mono_l k
    · intro y0 y1 y2
      unfold laws_eqArrowS.l0
      repeat' first | (with_reducible first | exact ih0 _ _ _ | exact LeO.refl _ | exact LeO.none _ | refine LeO.ite ?_ ?_ | refine LeO.bind ?_ (fun _ => ?_)) | exact ih0 _ _ _ | exact LeO.none _ | refine LeO.ite ?_ ?_ | refine LeO.bind ?_ (fun _ => ?_)
theorem laws_eqArrowS.mono : ∀ a0 a1 k, LeO (laws_eqArrowS.f k a0 a1) (laws_eqArrowS.f (k + 1) a0 a1) := by
  intro a0 a1 k
  have ih0 := laws_eqArrowS.mono_l k
  unfold laws_eqArrowS.f
  repeat' first | (with_reducible first | exact ih0 _ _ _ | exact LeO.refl _ | exact LeO.none _ | refine LeO.ite ?_ ?_ | refine LeO.bind ?_ (fun _ => ?_)) | exact ih0 _ _ _ | exact LeO.none _ | refine LeO.ite ?_ ?_ | refine LeO.bind ?_ (fun _ => ?_)

/-! ### laws_eqChart: function 35 -/
def laws_eqChart.f (k : Nat) (l0_0 : List (S88)) (l0_1 : List (S90)) (l1_0 : List (S88)) (l1_1 : List (S90)) : Option (Bool) := (laws_eqStateS.f k l0_0 l1_0).bind fun t210 => (if t210 = true then ((laws_eqArrowS.f k l0_1 l1_1).bind fun t211 => (if t211 = true then (some true) else (some false))) else (some false))
theorem laws_eqChart.mono : ∀ a0 a1 a2 a3 k, LeO (laws_eqChart.f k a0 a1 a2 a3) (laws_eqChart.f (k + 1) a0 a1 a2 a3) := by
  intro a0 a1 a2 a3 k
  unfold laws_eqChart.f
  repeat' first | (with_reducible first | exact laws_eqArrowS.mono _ _ _ | exact laws_eqStateS.mono _ _ _ | exact LeO.refl _ | exact LeO.none _ | refine LeO.ite ?_ ?_ | refine LeO.bind ?_ (fun _ => ?_)) | exact laws_eqArrowS.mono _ _ _ | exact laws_eqStateS.mono _ _ _ | exact LeO.none _ | refine LeO.ite ?_ ?_ | refine LeO.bind ?_ (fun _ => ?_)

/-! ### laws_FnExactGoodChart: function 6 -/
def laws_FnExactGoodChart.f (k : Nat) (l0_0 : List (S101)) (l0_1 : List (S103)) : Option (Bool) := (laws_szChart.f l0_0 l0_1 1048576).bind fun t213 => (if t213 < 0 then (some true) else ((laws_toChart.f k l0_0 l0_1).bind fun bt214 => ((spec_GoodChart.f k bt214.1 bt214.2).bind fun t220 => ((laws_toChart.f k l0_0 l0_1).bind fun bt221 => ((impl_GoodChart.f k bt221.1 bt221.2).bind fun t228 => (if (t228 != t220) = true then (some false) else ((laws_toChart.f k l0_0 l0_1).bind fun bt229 => ((laws_eqChart.f k bt221.1 bt221.2 bt229.1 bt229.2).bind fun t235 => (if t235 = true then (some true) else (some false))))))))))
theorem laws_FnExactGoodChart.mono : ∀ a0 a1 k, LeO (laws_FnExactGoodChart.f k a0 a1) (laws_FnExactGoodChart.f (k + 1) a0 a1) := by
  intro a0 a1 k
  unfold laws_FnExactGoodChart.f
  repeat' first | (with_reducible first | exact impl_GoodChart.mono _ _ _ | exact laws_eqChart.mono _ _ _ _ _ | exact laws_toChart.mono _ _ _ | exact spec_GoodChart.mono _ _ _ | exact LeO.refl _ | exact LeO.none _ | refine LeO.ite ?_ ?_ | refine LeO.bind ?_ (fun _ => ?_)) | exact impl_GoodChart.mono _ _ _ | exact laws_eqChart.mono _ _ _ _ _ | exact laws_toChart.mono _ _ _ | exact spec_GoodChart.mono _ _ _ | exact LeO.none _ | refine LeO.ite ?_ ?_ | refine LeO.bind ?_ (fun _ => ?_)

/-! ### spec_l21Enter: function 70 -/
def spec_l21Enter.l0 : Nat → Int → List (S88) → List (S90) → Option (Int)
  | 0, _, _, _ => none
  | k + 1, x1, x237000, x237001 => if 0 ≤ x1 then (if x1 < (x237000.length : Int) then (if ((rd_T88 x237000 x1).f1) ≥ 0 then (spec_l21Enter.l0 k ((rd_T88 x237000 x1).f1) x237000 x237001) else (some x1)) else (none)) else (none)
def spec_l21Enter.f (k : Nat) (l0_0 : List (S88)) (l0_1 : List (S90)) (a1 : Int) : Option (Int) := spec_l21Enter.l0 k a1 l0_0 l0_1
theorem spec_l21Enter.mono_l : ∀ k, (∀ y0 y1 y2, LeO (spec_l21Enter.l0 k y0 y1 y2) (spec_l21Enter.l0 (k + 1) y0 y1 y2))
  | 0 => fun _ _ _ r h => by simp [spec_l21Enter.l0] at h
  | k + 1 => by
    have ih0 := spec_l21Enter.mono_l k
    · intro y0 y1 y2
      unfold spec_l21Enter.l0
      repeat' first | (with_reducible first | exact ih0 _ _ _ | exact LeO.refl _ | exact LeO.none _ | refine LeO.ite ?_ ?_ | refine LeO.bind ?_ (fun _ => ?_)) | exact ih0 _ _ _ | exact LeO.none _ | refine LeO.ite ?_ ?_ | refine LeO.bind ?_ (fun _ => ?_)
theorem spec_l21Enter.mono : ∀ a0 a1 a2 k, LeO (spec_l21Enter.f k a0 a1 a2) (spec_l21Enter.f (k + 1) a0 a1 a2) := by
  intro a0 a1 a2 k
  have ih0 := spec_l21Enter.mono_l k
  unfold spec_l21Enter.f
  repeat' first | (with_reducible first | exact ih0 _ _ _ | exact LeO.refl _ | exact LeO.none _ | refine LeO.ite ?_ ?_ | refine LeO.bind ?_ (fun _ => ?_)) | exact ih0 _ _ _ | exact LeO.none _ | refine LeO.ite ?_ ?_ | refine LeO.bind ?_ (fun _ => ?_)

/-! ### spec_EnterState: function 36 -/
def spec_EnterState.f (k : Nat) (l0_0 : List (S88)) (l0_1 : List (S90)) (a1 : Int) : Option (Int) := (spec_GoodChart.f k l0_0 l0_1).bind fun t240 => (if t240 = true then (if a1 < 0 then (some (-1)) else (if a1 ≥ (l0_0.length : Int) then (some (-1)) else ((spec_l21Enter.f k l0_0 l0_1 a1).bind fun t241 => (some t241)))) else (some (-1)))
theorem spec_EnterState.mono : ∀ a0 a1 a2 k, LeO (spec_EnterState.f k a0 a1 a2) (spec_EnterState.f (k + 1) a0 a1 a2) := by
  intro a0 a1 a2 k
  unfold spec_EnterState.f
  repeat' first | (with_reducible first | exact spec_GoodChart.mono _ _ _ | exact spec_l21Enter.mono _ _ _ _ | exact LeO.refl _ | exact LeO.none _ | refine LeO.ite ?_ ?_ | refine LeO.bind ?_ (fun _ => ?_)) | exact spec_GoodChart.mono _ _ _ | exact spec_l21Enter.mono _ _ _ _ | exact LeO.none _ | refine LeO.ite ?_ ?_ | refine LeO.bind ?_ (fun _ => ?_)

/-! ### impl_Chart_enter: function 71 -/
def impl_Chart_enter.l0 : Nat → Int → List (S88) → List (S90) → Option (Int)
  | 0, _, _, _ => none
  | k + 1, x1, x243000, x243001 => if 0 ≤ x1 then (if x1 < (x243000.length : Int) then (if ((rd_T88 x243000 x1).f1) ≥ 0 then (impl_Chart_enter.l0 k ((rd_T88 x243000 x1).f1) x243000 x243001) else (some x1)) else (none)) else (none)
def impl_Chart_enter.f (k : Nat) (l0_0 : List (S88)) (l0_1 : List (S90)) (a1 : Int) : Option (Int) := impl_Chart_enter.l0 k a1 l0_0 l0_1
theorem impl_Chart_enter.mono_l : ∀ k, (∀ y0 y1 y2, LeO (impl_Chart_enter.l0 k y0 y1 y2) (impl_Chart_enter.l0 (k + 1) y0 y1 y2))
  | 0 => fun _ _ _ r h => by simp [impl_Chart_enter.l0] at h
  | k + 1 => by
    have ih0 := impl_Chart_enter.mono_l k
    · intro y0 y1 y2
      unfold impl_Chart_enter.l0
      repeat' first | (with_reducible first | exact ih0 _ _ _ | exact LeO.refl _ | exact LeO.none _ | refine LeO.ite ?_ ?_ | refine LeO.bind ?_ (fun _ => ?_)) | exact ih0 _ _ _ | exact LeO.none _ | refine LeO.ite ?_ ?_ | refine LeO.bind ?_ (fun _ => ?_)
theorem impl_Chart_enter.mono : ∀ a0 a1 a2 k, LeO (impl_Chart_enter.f k a0 a1 a2) (impl_Chart_enter.f (k + 1) a0 a1 a2) := by
  intro a0 a1 a2 k
  have ih0 := impl_Chart_enter.mono_l k
  unfold impl_Chart_enter.f
  repeat' first | (with_reducible first | exact ih0 _ _ _ | exact LeO.refl _ | exact LeO.none _ | refine LeO.ite ?_ ?_ | refine LeO.bind ?_ (fun _ => ?_)) | exact ih0 _ _ _ | exact LeO.none _ | refine LeO.ite ?_ ?_ | refine LeO.bind ?_ (fun _ => ?_)

/-! ### impl_EnterState: function 37 -/
def impl_EnterState.f (k : Nat) (l0_0 : List (S88)) (l0_1 : List (S90)) (a1 : Int) : Option (Int) := (impl_GoodChart.f k l0_0 l0_1).bind fun t246 => (if t246 = true then ((impl_between.f a1 0 (wrap64 ((l0_0.length : Int) - 1))).bind fun t247 => (if t247 = true then ((impl_Chart_enter.f k l0_0 l0_1 a1).bind fun t248 => (some t248)) else (some (-1)))) else (some (-1)))
theorem impl_EnterState.mono : ∀ a0 a1 a2 k, LeO (impl_EnterState.f k a0 a1 a2) (impl_EnterState.f (k + 1) a0 a1 a2) := by
  intro a0 a1 a2 k
  unfold impl_EnterState.f
  repeat' first | (with_reducible first | exact impl_Chart_enter.mono _ _ _ _ | exact impl_GoodChart.mono _ _ _ | exact LeO.refl _ | exact LeO.none _ | refine LeO.ite ?_ ?_ | refine LeO.bind ?_ (fun _ => ?_)) | exact impl_Chart_enter.mono _ _ _ _ | exact impl_GoodChart.mono _ _ _ | exact LeO.none _ | refine LeO.ite ?_ ?_ | refine LeO.bind ?_ (fun _ => ?_)

/-! ### laws_FnExactEnterState: function 7 -/
def laws_FnExactEnterState.f (k : Nat) (l0_0 : List (S101)) (l0_1 : List (S103)) (a1 : Int) : Option (Bool) := (laws_szChart.f l0_0 l0_1 1048576).bind fun t250 => (if t250 < 0 then (some true) else ((laws_toChart.f k l0_0 l0_1).bind fun bt251 => ((spec_EnterState.f k bt251.1 bt251.2 a1).bind fun t257 => ((laws_toChart.f k l0_0 l0_1).bind fun bt258 => ((impl_EnterState.f k bt258.1 bt258.2 a1).bind fun t265 => (if t265 = t257 then ((laws_toChart.f k l0_0 l0_1).bind fun bt266 => ((laws_eqChart.f k bt258.1 bt258.2 bt266.1 bt266.2).bind fun t272 => (if t272 = true then (some true) else (some false)))) else (some false)))))))
theorem laws_FnExactEnterState.mono : ∀ a0 a1 a2 k, LeO (laws_FnExactEnterState.f k a0 a1 a2) (laws_FnExactEnterState.f (k + 1) a0 a1 a2) := by
  intro a0 a1 a2 k
  unfold laws_FnExactEnterState.f
  repeat' first | (with_reducible first | exact impl_EnterState.mono _ _ _ _ | exact laws_eqChart.mono _ _ _ _ _ | exact laws_toChart.mono _ _ _ | exact spec_EnterState.mono _ _ _ _ | exact LeO.refl _ | exact LeO.none _ | refine LeO.ite ?_ ?_ | refine LeO.bind ?_ (fun _ => ?_)) | exact impl_EnterState.mono _ _ _ _ | exact laws_eqChart.mono _ _ _ _ _ | exact laws_toChart.mono _ _ _ | exact spec_EnterState.mono _ _ _ _ | exact LeO.none _ | refine LeO.ite ?_ ?_ | refine LeO.bind ?_ (fun _ => ?_)

/-! ### spec_l21Event: function 72 -/
def spec_l21Event.f (a0 : Int) : Option (Bool) := if a0 ≥ 0 then (some (decide (a0 < 6))) else (some false)

/-! ### spec_l21Step: function 73 -/
mutual
def spec_l21Step.l0 : Nat → Int → Int → Int → List (S88) → List (S90) → Option (Int)
  | 0, _, _, _, _, _ => none
  | k + 1, x1, x2, x7, x274000, x274001 => if x7 ≥ 0 then (spec_l21Step.l1 k x1 x2 x7 x274001 (x274001.length : Int) 0 x274000 x274001) else (some x1)
def spec_l21Step.l1 : Nat → Int → Int → Int → List (S90) → Int → Int → List (S88) → List (S90) → Option (Int)
  | 0, _, _, _, _, _, _, _, _ => none
  | k + 1, x1, x2, x7, x20, x21, x22, x274000, x274001 => if x22 < x21 then (if 0 ≤ x22 then (if x22 < (x20.length : Int) then (if ((rd_T90 x20 x22).f0) = x7 then (if ((rd_T90 x20 x22).f1) = x2 then ((spec_l21Enter.f k x274000 x274001 ((rd_T90 x20 x22).f2)).bind fun t276 => (some t276)) else (spec_l21Step.l1 k x1 x2 x7 x20 x21 (wrap64 (x22 + 1)) x274000 x274001)) else (spec_l21Step.l1 k x1 x2 x7 x20 x21 (wrap64 (x22 + 1)) x274000 x274001)) else (none)) else (none)) else (if 0 ≤ x7 then (if x7 < (x274000.length : Int) then (spec_l21Step.l0 k x1 x2 ((rd_T88 x274000 x7).f0) x274000 x274001) else (none)) else (none))
end
def spec_l21Step.f (k : Nat) (l0_0 : List (S88)) (l0_1 : List (S90)) (a1 : Int) (a2 : Int) : Option (Int) := spec_l21Step.l0 k a1 a2 a1 l0_0 l0_1
theorem spec_l21Step.mono_l : ∀ k, (∀ y0 y1 y2 y3 y4, LeO (spec_l21Step.l0 k y0 y1 y2 y3 y4) (spec_l21Step.l0 (k + 1) y0 y1 y2 y3 y4)) ∧ (∀ y0 y1 y2 y3 y4 y5 y6 y7, LeO (spec_l21Step.l1 k y0 y1 y2 y3 y4 y5 y6 y7) (spec_l21Step.l1 (k + 1) y0 y1 y2 y3 y4 y5 y6 y7))
  | 0 => ⟨fun _ _ _ _ _ r h => by simp [spec_l21Step.l0] at h, fun _ _ _ _ _ _ _ _ r h => by simp [spec_l21Step.l1] at h⟩
  | k + 1 => by
    obtain ⟨ih0, ih1⟩ := spec_l21Step.mono_l k
    refine ⟨?_, ?_⟩
    · intro y0 y1 y2 y3 y4
      unfold spec_l21Step.l0
      repeat' first | (with_reducible first | exact ih0 _ _ _ _ _ | exact ih1 _ _ _ _ _ _ _ _ | exact spec_l21Enter.mono _ _ _ _ | exact LeO.refl _ | exact LeO.none _ | refine LeO.ite ?_ ?_ | refine LeO.bind ?_ (fun _ => ?_)) | exact ih0 _ _ _ _ _ | exact ih1 _ _ _ _ _ _ _ _ | exact spec_l21Enter.mono _ _ _ _ | exact LeO.none _ | refine LeO.ite ?_ ?_ | refine LeO.bind ?_ (fun _ => ?_)
    · intro y0 y1 y2 y3 y4 y5 y6 y7
      unfold spec_l21Step.l1
      repeat' first | (with_reducible first | exact ih0 _ _ _ _ _ | exact ih1 _ _ _ _ _ _ _ _ | exact spec_l21Enter.mono _ _ _ _ | exact LeO.refl _ | exact LeO.none _ | refine LeO.ite ?_ ?_ | refine LeO.bind ?_ (fun _ => ?_)) | exact ih0 _ _ _ _ _ | exact ih1 _ _ _ _ _ _ _ _ | exact spec_l21Enter.mono _ _ _ _ | exact LeO.none _ | refine LeO.ite ?_ ?_ | refine LeO.bind ?_ (fun _ => ?_)
theorem spec_l21Step.mono : ∀ a0 a1 a2 a3 k, LeO (spec_l21Step.f k a0 a1 a2 a3) (spec_l21Step.f (k + 1) a0 a1 a2 a3) := by
  intro a0 a1 a2 a3 k
  obtain ⟨ih0, ih1⟩ := spec_l21Step.mono_l k
  unfold spec_l21Step.f
  repeat' first | (with_reducible first | exact ih0 _ _ _ _ _ | exact ih1 _ _ _ _ _ _ _ _ | exact spec_l21Enter.mono _ _ _ _ | exact LeO.refl _ | exact LeO.none _ | refine LeO.ite ?_ ?_ | refine LeO.bind ?_ (fun _ => ?_)) | exact ih0 _ _ _ _ _ | exact ih1 _ _ _ _ _ _ _ _ | exact spec_l21Enter.mono _ _ _ _ | exact LeO.none _ | refine LeO.ite ?_ ?_ | refine LeO.bind ?_ (fun _ => ?_)

/-! ### spec_ChartStep: function 38 -/
def spec_ChartStep.f (k : Nat) (l0_0 : List (S88)) (l0_1 : List (S90)) (a1 : Int) (a2 : Int) : Option (Int) := (spec_GoodChart.f k l0_0 l0_1).bind fun t279 => (if t279 = true then (if a1 < 0 then (some (-1)) else (if a1 ≥ (l0_0.length : Int) then (some (-1)) else (if 0 ≤ a1 then (if a1 < (l0_0.length : Int) then (if ((rd_T88 l0_0 a1).f1) = (-1) then ((spec_l21Event.f a2).bind fun t281 => (if t281 = true then ((spec_l21Step.f k l0_0 l0_1 a1 a2).bind fun t282 => (some t282)) else (some (-1)))) else (some (-1))) else (none)) else (none)))) else (some (-1)))
theorem spec_ChartStep.mono : ∀ a0 a1 a2 a3 k, LeO (spec_ChartStep.f k a0 a1 a2 a3) (spec_ChartStep.f (k + 1) a0 a1 a2 a3) := by
  intro a0 a1 a2 a3 k
  unfold spec_ChartStep.f
  repeat' first | (with_reducible first | exact spec_GoodChart.mono _ _ _ | exact spec_l21Step.mono _ _ _ _ _ | exact LeO.refl _ | exact LeO.none _ | refine LeO.ite ?_ ?_ | refine LeO.bind ?_ (fun _ => ?_)) | exact spec_GoodChart.mono _ _ _ | exact spec_l21Step.mono _ _ _ _ _ | exact LeO.none _ | refine LeO.ite ?_ ?_ | refine LeO.bind ?_ (fun _ => ?_)

/-! ### impl_Chart_step: function 74 -/
mutual
def impl_Chart_step.l0 : Nat → Int → Int → Int → List (S88) → List (S90) → Option (Int)
  | 0, _, _, _, _, _ => none
  | k + 1, x1, x2, x7, x284000, x284001 => if x7 ≥ 0 then (impl_Chart_step.l1 k x1 x2 x7 x284001 (x284001.length : Int) 0 x284000 x284001) else (some x1)
def impl_Chart_step.l1 : Nat → Int → Int → Int → List (S90) → Int → Int → List (S88) → List (S90) → Option (Int)
  | 0, _, _, _, _, _, _, _, _ => none
  | k + 1, x1, x2, x7, x20, x21, x22, x284000, x284001 => if x22 < x21 then (if 0 ≤ x22 then (if x22 < (x20.length : Int) then (if ((rd_T90 x20 x22).f0) = x7 then (if ((rd_T90 x20 x22).f1) = x2 then ((impl_Chart_enter.f k x284000 x284001 ((rd_T90 x20 x22).f2)).bind fun t286 => (some t286)) else (impl_Chart_step.l1 k x1 x2 x7 x20 x21 (wrap64 (x22 + 1)) x284000 x284001)) else (impl_Chart_step.l1 k x1 x2 x7 x20 x21 (wrap64 (x22 + 1)) x284000 x284001)) else (none)) else (none)) else (if 0 ≤ x7 then (if x7 < (x284000.length : Int) then (impl_Chart_step.l0 k x1 x2 ((rd_T88 x284000 x7).f0) x284000 x284001) else (none)) else (none))
end
def impl_Chart_step.f (k : Nat) (l0_0 : List (S88)) (l0_1 : List (S90)) (a1 : Int) (a2 : Int) : Option (Int) := impl_Chart_step.l0 k a1 a2 a1 l0_0 l0_1
theorem impl_Chart_step.mono_l : ∀ k, (∀ y0 y1 y2 y3 y4, LeO (impl_Chart_step.l0 k y0 y1 y2 y3 y4) (impl_Chart_step.l0 (k + 1) y0 y1 y2 y3 y4)) ∧ (∀ y0 y1 y2 y3 y4 y5 y6 y7, LeO (impl_Chart_step.l1 k y0 y1 y2 y3 y4 y5 y6 y7) (impl_Chart_step.l1 (k + 1) y0 y1 y2 y3 y4 y5 y6 y7))
  | 0 => ⟨fun _ _ _ _ _ r h => by simp [impl_Chart_step.l0] at h, fun _ _ _ _ _ _ _ _ r h => by simp [impl_Chart_step.l1] at h⟩
  | k + 1 => by
    obtain ⟨ih0, ih1⟩ := impl_Chart_step.mono_l k
    refine ⟨?_, ?_⟩
    · intro y0 y1 y2 y3 y4
      unfold impl_Chart_step.l0
      repeat' first | (with_reducible first | exact ih0 _ _ _ _ _ | exact ih1 _ _ _ _ _ _ _ _ | exact impl_Chart_enter.mono _ _ _ _ | exact LeO.refl _ | exact LeO.none _ | refine LeO.ite ?_ ?_ | refine LeO.bind ?_ (fun _ => ?_)) | exact ih0 _ _ _ _ _ | exact ih1 _ _ _ _ _ _ _ _ | exact impl_Chart_enter.mono _ _ _ _ | exact LeO.none _ | refine LeO.ite ?_ ?_ | refine LeO.bind ?_ (fun _ => ?_)
    · intro y0 y1 y2 y3 y4 y5 y6 y7
      unfold impl_Chart_step.l1
      repeat' first | (with_reducible first | exact ih0 _ _ _ _ _ | exact ih1 _ _ _ _ _ _ _ _ | exact impl_Chart_enter.mono _ _ _ _ | exact LeO.refl _ | exact LeO.none _ | refine LeO.ite ?_ ?_ | refine LeO.bind ?_ (fun _ => ?_)) | exact ih0 _ _ _ _ _ | exact ih1 _ _ _ _ _ _ _ _ | exact impl_Chart_enter.mono _ _ _ _ | exact LeO.none _ | refine LeO.ite ?_ ?_ | refine LeO.bind ?_ (fun _ => ?_)
theorem impl_Chart_step.mono : ∀ a0 a1 a2 a3 k, LeO (impl_Chart_step.f k a0 a1 a2 a3) (impl_Chart_step.f (k + 1) a0 a1 a2 a3) := by
  intro a0 a1 a2 a3 k
  obtain ⟨ih0, ih1⟩ := impl_Chart_step.mono_l k
  unfold impl_Chart_step.f
  repeat' first | (with_reducible first | exact ih0 _ _ _ _ _ | exact ih1 _ _ _ _ _ _ _ _ | exact impl_Chart_enter.mono _ _ _ _ | exact LeO.refl _ | exact LeO.none _ | refine LeO.ite ?_ ?_ | refine LeO.bind ?_ (fun _ => ?_)) | exact ih0 _ _ _ _ _ | exact ih1 _ _ _ _ _ _ _ _ | exact impl_Chart_enter.mono _ _ _ _ | exact LeO.none _ | refine LeO.ite ?_ ?_ | refine LeO.bind ?_ (fun _ => ?_)

/-! ### impl_ChartStep: function 39 -/
def impl_ChartStep.f (k : Nat) (l0_0 : List (S88)) (l0_1 : List (S90)) (a1 : Int) (a2 : Int) : Option (Int) := (impl_GoodChart.f k l0_0 l0_1).bind fun t289 => (if t289 = true then ((impl_between.f a1 0 (wrap64 ((l0_0.length : Int) - 1))).bind fun t290 => (if t290 = true then (if 0 ≤ a1 then (if a1 < (l0_0.length : Int) then (if ((rd_T88 l0_0 a1).f1) ≥ 0 then (some (-1)) else ((impl_between.f a2 0 5).bind fun t292 => (if t292 = true then ((impl_Chart_step.f k l0_0 l0_1 a1 a2).bind fun t293 => (some t293)) else (some (-1))))) else (none)) else (none)) else (some (-1)))) else (some (-1)))
theorem impl_ChartStep.mono : ∀ a0 a1 a2 a3 k, LeO (impl_ChartStep.f k a0 a1 a2 a3) (impl_ChartStep.f (k + 1) a0 a1 a2 a3) := by
  intro a0 a1 a2 a3 k
  unfold impl_ChartStep.f
  repeat' first | (with_reducible first | exact impl_Chart_step.mono _ _ _ _ _ | exact impl_GoodChart.mono _ _ _ | exact LeO.refl _ | exact LeO.none _ | refine LeO.ite ?_ ?_ | refine LeO.bind ?_ (fun _ => ?_)) | exact impl_Chart_step.mono _ _ _ _ _ | exact impl_GoodChart.mono _ _ _ | exact LeO.none _ | refine LeO.ite ?_ ?_ | refine LeO.bind ?_ (fun _ => ?_)

/-! ### laws_FnExactChartStep: function 8 -/
def laws_FnExactChartStep.f (k : Nat) (l0_0 : List (S101)) (l0_1 : List (S103)) (a1 : Int) (a2 : Int) : Option (Bool) := (laws_szChart.f l0_0 l0_1 1048576).bind fun t295 => (if t295 < 0 then (some true) else ((laws_toChart.f k l0_0 l0_1).bind fun bt296 => ((spec_ChartStep.f k bt296.1 bt296.2 a1 a2).bind fun t302 => ((laws_toChart.f k l0_0 l0_1).bind fun bt303 => ((impl_ChartStep.f k bt303.1 bt303.2 a1 a2).bind fun t310 => (if t310 = t302 then ((laws_toChart.f k l0_0 l0_1).bind fun bt311 => ((laws_eqChart.f k bt303.1 bt303.2 bt311.1 bt311.2).bind fun t317 => (if t317 = true then (some true) else (some false)))) else (some false)))))))
theorem laws_FnExactChartStep.mono : ∀ a0 a1 a2 a3 k, LeO (laws_FnExactChartStep.f k a0 a1 a2 a3) (laws_FnExactChartStep.f (k + 1) a0 a1 a2 a3) := by
  intro a0 a1 a2 a3 k
  unfold laws_FnExactChartStep.f
  repeat' first | (with_reducible first | exact impl_ChartStep.mono _ _ _ _ _ | exact laws_eqChart.mono _ _ _ _ _ | exact laws_toChart.mono _ _ _ | exact spec_ChartStep.mono _ _ _ _ _ | exact LeO.refl _ | exact LeO.none _ | refine LeO.ite ?_ ?_ | refine LeO.bind ?_ (fun _ => ?_)) | exact impl_ChartStep.mono _ _ _ _ _ | exact laws_eqChart.mono _ _ _ _ _ | exact laws_toChart.mono _ _ _ | exact spec_ChartStep.mono _ _ _ _ _ | exact LeO.none _ | refine LeO.ite ?_ ?_ | refine LeO.bind ?_ (fun _ => ?_)

/-! ### laws_toIntS: function 24 -/
def laws_toIntS.l0 : Nat → List Int → List Int → Int → Option (List Int)
  | 0, _, _, _ => none
  | k + 1, x0, x3, x4 => if x4 < (x0.length : Int) then (if 0 ≤ x4 then (if x4 < (x3.length : Int) then (laws_toIntS.l0 k x0 (x3.set (x4 : Int).toNat (rd x0 x4)) (wrap64 (x4 + 1))) else (none)) else (none)) else (some x3)
def laws_toIntS.f (k : Nat) (l0 : List Int) : Option (List Int) := if 0 ≤ (l0.length : Int) then (if ((l0.length : Int) : Int).toNat ≤ 35184372088832 then (laws_toIntS.l0 k l0 (List.replicate ((l0.length : Int) : Int).toNat 0) 0) else (none)) else (none)
theorem laws_toIntS.mono_l : ∀ k, (∀ y0 y1 y2, LeO (laws_toIntS.l0 k y0 y1 y2) (laws_toIntS.l0 (k + 1) y0 y1 y2))
  | 0 => fun _ _ _ r h => by simp [laws_toIntS.l0] at h
  | k + 1 => by
    have ih0 := laws_toIntS.mono_l k
    · intro y0 y1 y2
      unfold laws_toIntS.l0
      repeat' first | (with_reducible first | exact ih0 _ _ _ | exact LeO.refl _ | exact LeO.none _ | refine LeO.ite ?_ ?_ | refine LeO.bind ?_ (fun _ => ?_)) | exact ih0 _ _ _ | exact LeO.none _ | refine LeO.ite ?_ ?_ | refine LeO.bind ?_ (fun _ => ?_)
theorem laws_toIntS.mono : ∀ a0 k, LeO (laws_toIntS.f k a0) (laws_toIntS.f (k + 1) a0) := by
  intro a0 k
  have ih0 := laws_toIntS.mono_l k
  unfold laws_toIntS.f
  repeat' first | (with_reducible first | exact ih0 _ _ _ | exact LeO.refl _ | exact LeO.none _ | refine LeO.ite ?_ ?_ | refine LeO.bind ?_ (fun _ => ?_)) | exact ih0 _ _ _ | exact LeO.none _ | refine LeO.ite ?_ ?_ | refine LeO.bind ?_ (fun _ => ?_)

/-! ### laws_eqIntS: function 26 -/
def laws_eqIntS.l0 : Nat → List Int → List Int → Int → Option (Bool)
  | 0, _, _, _ => none
  | k + 1, x0, x1, x5 => if x5 < (x0.length : Int) then (if 0 ≤ x5 then (if x5 < (x1.length : Int) then (if (rd x0 x5) = (rd x1 x5) then (laws_eqIntS.l0 k x0 x1 (wrap64 (x5 + 1))) else (some false)) else (none)) else (none)) else (some true)
def laws_eqIntS.f (k : Nat) (l0 : List Int) (l1 : List Int) : Option (Bool) := if (l0.length : Int) = (l1.length : Int) then (laws_eqIntS.l0 k l0 l1 0) else (some false)
theorem laws_eqIntS.mono_l : ∀ k, (∀ y0 y1 y2, LeO (laws_eqIntS.l0 k y0 y1 y2) (laws_eqIntS.l0 (k + 1) y0 y1 y2))
  | 0 => fun _ _ _ r h => by simp [laws_eqIntS.l0] at h
  | k + 1 => by
    have ih0 := laws_eqIntS.mono_l k
    · intro y0 y1 y2
      unfold laws_eqIntS.l0
      repeat' first | (with_reducible first | exact ih0 _ _ _ | exact LeO.refl _ | exact LeO.none _ | refine LeO.ite ?_ ?_ | refine LeO.bind ?_ (fun _ => ?_)) | exact ih0 _ _ _ | exact LeO.none _ | refine LeO.ite ?_ ?_ | refine LeO.bind ?_ (fun _ => ?_)
theorem laws_eqIntS.mono : ∀ a0 a1 k, LeO (laws_eqIntS.f k a0 a1) (laws_eqIntS.f (k + 1) a0 a1) := by
  intro a0 a1 k
  have ih0 := laws_eqIntS.mono_l k
  unfold laws_eqIntS.f
  repeat' first | (with_reducible first | exact ih0 _ _ _ | exact LeO.refl _ | exact LeO.none _ | refine LeO.ite ?_ ?_ | refine LeO.bind ?_ (fun _ => ?_)) | exact ih0 _ _ _ | exact LeO.none _ | refine LeO.ite ?_ ?_ | refine LeO.bind ?_ (fun _ => ?_)

/-! ### laws_markIntS: function 29 -/
def laws_markIntS.l0 : Nat → List Int → Int → Int → Option (Int × List Int)
  | 0, _, _, _ => none
  | k + 1, x0, x1, x5 => if x5 < (x0.length : Int) then (if 0 ≤ x5 then (laws_markIntS.l0 k (x0.set (x5 : Int).toNat x1) (wrap64 (x1 + 1)) (wrap64 (x5 + 1))) else (none)) else (some (x1, x0))
def laws_markIntS.f (k : Nat) (l0 : List Int) (a1 : Int) : Option (Int × List Int) := laws_markIntS.l0 k l0 a1 0
theorem laws_markIntS.mono_l : ∀ k, (∀ y0 y1 y2, LeO (laws_markIntS.l0 k y0 y1 y2) (laws_markIntS.l0 (k + 1) y0 y1 y2))
  | 0 => fun _ _ _ r h => by simp [laws_markIntS.l0] at h
  | k + 1 => by
    have ih0 := laws_markIntS.mono_l k
    · intro y0 y1 y2
      unfold laws_markIntS.l0
      repeat' first | (with_reducible first | exact ih0 _ _ _ | exact LeO.refl _ | exact LeO.none _ | refine LeO.ite ?_ ?_ | refine LeO.bind ?_ (fun _ => ?_)) | exact ih0 _ _ _ | exact LeO.none _ | refine LeO.ite ?_ ?_ | refine LeO.bind ?_ (fun _ => ?_)
theorem laws_markIntS.mono : ∀ a0 a1 k, LeO (laws_markIntS.f k a0 a1) (laws_markIntS.f (k + 1) a0 a1) := by
  intro a0 a1 k
  have ih0 := laws_markIntS.mono_l k
  unfold laws_markIntS.f
  repeat' first | (with_reducible first | exact ih0 _ _ _ | exact LeO.refl _ | exact LeO.none _ | refine LeO.ite ?_ ?_ | refine LeO.bind ?_ (fun _ => ?_)) | exact ih0 _ _ _ | exact LeO.none _ | refine LeO.ite ?_ ?_ | refine LeO.bind ?_ (fun _ => ?_)

/-! ### laws_heldIntS: function 30 -/
def laws_heldIntS.l0 : Nat → List Int → Int → Int → Option (Int)
  | 0, _, _, _ => none
  | k + 1, x0, x1, x5 => if x5 < (x0.length : Int) then (if 0 ≤ x5 then (if (rd x0 x5) = x1 then (laws_heldIntS.l0 k x0 (wrap64 (x1 + 1)) (wrap64 (x5 + 1))) else (some (-1))) else (none)) else (some x1)
def laws_heldIntS.f (k : Nat) (l0 : List Int) (a1 : Int) : Option (Int) := laws_heldIntS.l0 k l0 a1 0
theorem laws_heldIntS.mono_l : ∀ k, (∀ y0 y1 y2, LeO (laws_heldIntS.l0 k y0 y1 y2) (laws_heldIntS.l0 (k + 1) y0 y1 y2))
  | 0 => fun _ _ _ r h => by simp [laws_heldIntS.l0] at h
  | k + 1 => by
    have ih0 := laws_heldIntS.mono_l k
    · intro y0 y1 y2
      unfold laws_heldIntS.l0
      repeat' first | (with_reducible first | exact ih0 _ _ _ | exact LeO.refl _ | exact LeO.none _ | refine LeO.ite ?_ ?_ | refine LeO.bind ?_ (fun _ => ?_)) | exact ih0 _ _ _ | exact LeO.none _ | refine LeO.ite ?_ ?_ | refine LeO.bind ?_ (fun _ => ?_)
theorem laws_heldIntS.mono : ∀ a0 a1 k, LeO (laws_heldIntS.f k a0 a1) (laws_heldIntS.f (k + 1) a0 a1) := by
  intro a0 a1 k
  have ih0 := laws_heldIntS.mono_l k
  unfold laws_heldIntS.f
  repeat' first | (with_reducible first | exact ih0 _ _ _ | exact LeO.refl _ | exact LeO.none _ | refine LeO.ite ?_ ?_ | refine LeO.bind ?_ (fun _ => ?_)) | exact ih0 _ _ _ | exact LeO.none _ | refine LeO.ite ?_ ?_ | refine LeO.bind ?_ (fun _ => ?_)

/-! ### impl_goodEvents: function 62 -/
def impl_goodEvents.l0 : Nat → List Int → List Int → Int → Int → Option (Bool)
  | 0, _, _, _, _ => none
  | k + 1, x0, x5, x6, x7 => if x7 < x6 then (if 0 ≤ x7 then (if x7 < (x5.length : Int) then ((impl_between.f (rd x5 x7) 0 5).bind fun t328 => (if t328 = true then (impl_goodEvents.l0 k x0 x5 x6 (wrap64 (x7 + 1))) else (some false))) else (none)) else (none)) else (some (decide ((x0.length : Int) ≤ 60)))
def impl_goodEvents.f (k : Nat) (l0 : List Int) : Option (Bool) := impl_goodEvents.l0 k l0 l0 (l0.length : Int) 0
theorem impl_goodEvents.mono_l : ∀ k, (∀ y0 y1 y2 y3, LeO (impl_goodEvents.l0 k y0 y1 y2 y3) (impl_goodEvents.l0 (k + 1) y0 y1 y2 y3))
  | 0 => fun _ _ _ _ r h => by simp [impl_goodEvents.l0] at h
  | k + 1 => by
    have ih0 := impl_goodEvents.mono_l k
    · intro y0 y1 y2 y3
      unfold impl_goodEvents.l0
      repeat' first | (with_reducible first | exact ih0 _ _ _ _ | exact LeO.refl _ | exact LeO.none _ | refine LeO.ite ?_ ?_ | refine LeO.bind ?_ (fun _ => ?_)) | exact ih0 _ _ _ _ | exact LeO.none _ | refine LeO.ite ?_ ?_ | refine LeO.bind ?_ (fun _ => ?_)
theorem impl_goodEvents.mono : ∀ a0 k, LeO (impl_goodEvents.f k a0) (impl_goodEvents.f (k + 1) a0) := by
  intro a0 k
  have ih0 := impl_goodEvents.mono_l k
  unfold impl_goodEvents.f
  repeat' first | (with_reducible first | exact ih0 _ _ _ _ | exact LeO.refl _ | exact LeO.none _ | refine LeO.ite ?_ ?_ | refine LeO.bind ?_ (fun _ => ?_)) | exact ih0 _ _ _ _ | exact LeO.none _ | refine LeO.ite ?_ ?_ | refine LeO.bind ?_ (fun _ => ?_)

/-! ### impl_RunChart: function 41 -/
mutual
def impl_RunChart.j0 : Nat → List Int → Bool → List (S88) → List (S90) → Option (List Int × Bool)
  | 0, _, _, _, _ => none
  | k + 1, x1, x16, x330000, x330001 => if x16 = true then (some (([] : List Int), false)) else ((impl_Chart_enter.f k x330000 x330001 0).bind fun t332 => (impl_RunChart.l0 k (([t332] : List Int)) x1 (x1.length : Int) 0 x330000 x330001))
def impl_RunChart.l0 : Nat → List Int → List Int → Int → Int → List (S88) → List (S90) → Option (List Int × Bool)
  | 0, _, _, _, _, _, _ => none
  | k + 1, x6, x20, x21, x22, x330000, x330001 => if x22 < x21 then (if 0 ≤ x22 then (if x22 < (x20.length : Int) then (if 0 ≤ (wrap64 ((x6.length : Int) - 1)) then (if (wrap64 ((x6.length : Int) - 1)) < (x6.length : Int) then ((impl_Chart_step.f k x330000 x330001 (rd x6 (wrap64 ((x6.length : Int) - 1))) (rd x20 x22)).bind fun t338 => (if x6.length < 17592186044416 then (impl_RunChart.l0 k (x6 ++ [t338]) x20 x21 (wrap64 (x22 + 1)) x330000 x330001) else (none))) else (none)) else (none)) else (none)) else (none)) else (some (x6, true))
end
def impl_RunChart.f (k : Nat) (l0_0 : List (S88)) (l0_1 : List (S90)) (l1 : List Int) : Option (List Int × Bool) := (impl_GoodChart.f k l0_0 l0_1).bind fun t330 => (if t330 = true then ((impl_goodEvents.f k l1).bind fun t331 => (impl_RunChart.j0 k l1 (!t331) l0_0 l0_1)) else (impl_RunChart.j0 k l1 true l0_0 l0_1))
theorem impl_RunChart.mono_l : ∀ k, (∀ y0 y1 y2 y3, LeO (impl_RunChart.j0 k y0 y1 y2 y3) (impl_RunChart.j0 (k + 1) y0 y1 y2 y3)) ∧ (∀ y0 y1 y2 y3 y4 y5, LeO (impl_RunChart.l0 k y0 y1 y2 y3 y4 y5) (impl_RunChart.l0 (k + 1) y0 y1 y2 y3 y4 y5))
  | 0 => ⟨fun _ _ _ _ r h => by simp [impl_RunChart.j0] at h, fun _ _ _ _ _ _ r h => by simp [impl_RunChart.l0] at h⟩
  | k + 1 => by
    obtain ⟨ih0, ih1⟩ := impl_RunChart.mono_l k
    refine ⟨?_, ?_⟩
    · intro y0 y1 y2 y3
      unfold impl_RunChart.j0
      repeat' first | (with_reducible first | exact ih0 _ _ _ _ | exact ih1 _ _ _ _ _ _ | exact impl_Chart_enter.mono _ _ _ _ | exact impl_Chart_step.mono _ _ _ _ _ | exact impl_GoodChart.mono _ _ _ | exact impl_goodEvents.mono _ _ | exact LeO.refl _ | exact LeO.none _ | refine LeO.ite ?_ ?_ | refine LeO.bind ?_ (fun _ => ?_)) | exact ih0 _ _ _ _ | exact ih1 _ _ _ _ _ _ | exact impl_Chart_enter.mono _ _ _ _ | exact impl_Chart_step.mono _ _ _ _ _ | exact impl_GoodChart.mono _ _ _ | exact impl_goodEvents.mono _ _ | exact LeO.none _ | refine LeO.ite ?_ ?_ | refine LeO.bind ?_ (fun _ => ?_)
    · intro y0 y1 y2 y3 y4 y5
      unfold impl_RunChart.l0
      repeat' first | (with_reducible first | exact ih0 _ _ _ _ | exact ih1 _ _ _ _ _ _ | exact impl_Chart_enter.mono _ _ _ _ | exact impl_Chart_step.mono _ _ _ _ _ | exact impl_GoodChart.mono _ _ _ | exact impl_goodEvents.mono _ _ | exact LeO.refl _ | exact LeO.none _ | refine LeO.ite ?_ ?_ | refine LeO.bind ?_ (fun _ => ?_)) | exact ih0 _ _ _ _ | exact ih1 _ _ _ _ _ _ | exact impl_Chart_enter.mono _ _ _ _ | exact impl_Chart_step.mono _ _ _ _ _ | exact impl_GoodChart.mono _ _ _ | exact impl_goodEvents.mono _ _ | exact LeO.none _ | refine LeO.ite ?_ ?_ | refine LeO.bind ?_ (fun _ => ?_)
theorem impl_RunChart.mono : ∀ a0 a1 a2 k, LeO (impl_RunChart.f k a0 a1 a2) (impl_RunChart.f (k + 1) a0 a1 a2) := by
  intro a0 a1 a2 k
  obtain ⟨ih0, ih1⟩ := impl_RunChart.mono_l k
  unfold impl_RunChart.f
  repeat' first | (with_reducible first | exact ih0 _ _ _ _ | exact ih1 _ _ _ _ _ _ | exact impl_Chart_enter.mono _ _ _ _ | exact impl_Chart_step.mono _ _ _ _ _ | exact impl_GoodChart.mono _ _ _ | exact impl_goodEvents.mono _ _ | exact LeO.refl _ | exact LeO.none _ | refine LeO.ite ?_ ?_ | refine LeO.bind ?_ (fun _ => ?_)) | exact ih0 _ _ _ _ | exact ih1 _ _ _ _ _ _ | exact impl_Chart_enter.mono _ _ _ _ | exact impl_Chart_step.mono _ _ _ _ _ | exact impl_GoodChart.mono _ _ _ | exact impl_goodEvents.mono _ _ | exact LeO.none _ | refine LeO.ite ?_ ?_ | refine LeO.bind ?_ (fun _ => ?_)

/-! ### spec_l21Events: function 61 -/
def spec_l21Events.l0 : Nat → List Int → Int → Int → Option (Bool)
  | 0, _, _, _ => none
  | k + 1, x8, x9, x10 => if x10 < x9 then (if 0 ≤ x10 then (if x10 < (x8.length : Int) then ((spec_l21Event.f (rd x8 x10)).bind fun t343 => (if t343 = true then (spec_l21Events.l0 k x8 x9 (wrap64 (x10 + 1))) else (some false))) else (none)) else (none)) else (some true)
def spec_l21Events.f (k : Nat) (l0 : List Int) : Option (Bool) := if (l0.length : Int) > 60 then (some false) else (spec_l21Events.l0 k l0 (l0.length : Int) 0)
theorem spec_l21Events.mono_l : ∀ k, (∀ y0 y1 y2, LeO (spec_l21Events.l0 k y0 y1 y2) (spec_l21Events.l0 (k + 1) y0 y1 y2))
  | 0 => fun _ _ _ r h => by simp [spec_l21Events.l0] at h
  | k + 1 => by
    have ih0 := spec_l21Events.mono_l k
    · intro y0 y1 y2
      unfold spec_l21Events.l0
      repeat' first | (with_reducible first | exact ih0 _ _ _ | exact LeO.refl _ | exact LeO.none _ | refine LeO.ite ?_ ?_ | refine LeO.bind ?_ (fun _ => ?_)) | exact ih0 _ _ _ | exact LeO.none _ | refine LeO.ite ?_ ?_ | refine LeO.bind ?_ (fun _ => ?_)
theorem spec_l21Events.mono : ∀ a0 k, LeO (spec_l21Events.f k a0) (spec_l21Events.f (k + 1) a0) := by
  intro a0 k
  have ih0 := spec_l21Events.mono_l k
  unfold spec_l21Events.f
  repeat' first | (with_reducible first | exact ih0 _ _ _ | exact LeO.refl _ | exact LeO.none _ | refine LeO.ite ?_ ?_ | refine LeO.bind ?_ (fun _ => ?_)) | exact ih0 _ _ _ | exact LeO.none _ | refine LeO.ite ?_ ?_ | refine LeO.bind ?_ (fun _ => ?_)

/-! ### spec_RunChart: function 42 -/
mutual
def spec_RunChart.j0 : Nat → List Int → Bool → List (S88) → List (S90) → Option (List Int × Bool)
  | 0, _, _, _, _ => none
  | k + 1, x1, x17, x345000, x345001 => if x17 = true then (some (([] : List Int), false)) else ((spec_l21Enter.f k x345000 x345001 0).bind fun t347 => (spec_RunChart.l0 k t347 (([t347] : List Int)) x1 (x1.length : Int) 0 x345000 x345001))
def spec_RunChart.l0 : Nat → Int → List Int → List Int → Int → Int → List (S88) → List (S90) → Option (List Int × Bool)
  | 0, _, _, _, _, _, _, _ => none
  | k + 1, x6, x7, x22, x23, x24, x345000, x345001 => if x24 < x23 then (if 0 ≤ x24 then (if x24 < (x22.length : Int) then ((spec_l21Step.f k x345000 x345001 x6 (rd x22 x24)).bind fun t352 => (if x7.length < 17592186044416 then (spec_RunChart.l0 k t352 (x7 ++ [t352]) x22 x23 (wrap64 (x24 + 1)) x345000 x345001) else (none))) else (none)) else (none)) else (some (x7, true))
end
def spec_RunChart.f (k : Nat) (l0_0 : List (S88)) (l0_1 : List (S90)) (l1 : List Int) : Option (List Int × Bool) := (spec_GoodChart.f k l0_0 l0_1).bind fun t345 => (if t345 = true then ((spec_l21Events.f k l1).bind fun t346 => (spec_RunChart.j0 k l1 (!t346) l0_0 l0_1)) else (spec_RunChart.j0 k l1 true l0_0 l0_1))
theorem spec_RunChart.mono_l : ∀ k, (∀ y0 y1 y2 y3, LeO (spec_RunChart.j0 k y0 y1 y2 y3) (spec_RunChart.j0 (k + 1) y0 y1 y2 y3)) ∧ (∀ y0 y1 y2 y3 y4 y5 y6, LeO (spec_RunChart.l0 k y0 y1 y2 y3 y4 y5 y6) (spec_RunChart.l0 (k + 1) y0 y1 y2 y3 y4 y5 y6))
  | 0 => ⟨fun _ _ _ _ r h => by simp [spec_RunChart.j0] at h, fun _ _ _ _ _ _ _ r h => by simp [spec_RunChart.l0] at h⟩
  | k + 1 => by
    obtain ⟨ih0, ih1⟩ := spec_RunChart.mono_l k
    refine ⟨?_, ?_⟩
    · intro y0 y1 y2 y3
      unfold spec_RunChart.j0
      repeat' first | (with_reducible first | exact ih0 _ _ _ _ | exact ih1 _ _ _ _ _ _ _ | exact spec_GoodChart.mono _ _ _ | exact spec_l21Enter.mono _ _ _ _ | exact spec_l21Events.mono _ _ | exact spec_l21Step.mono _ _ _ _ _ | exact LeO.refl _ | exact LeO.none _ | refine LeO.ite ?_ ?_ | refine LeO.bind ?_ (fun _ => ?_)) | exact ih0 _ _ _ _ | exact ih1 _ _ _ _ _ _ _ | exact spec_GoodChart.mono _ _ _ | exact spec_l21Enter.mono _ _ _ _ | exact spec_l21Events.mono _ _ | exact spec_l21Step.mono _ _ _ _ _ | exact LeO.none _ | refine LeO.ite ?_ ?_ | refine LeO.bind ?_ (fun _ => ?_)
    · intro y0 y1 y2 y3 y4 y5 y6
      unfold spec_RunChart.l0
      repeat' first | (with_reducible first | exact ih0 _ _ _ _ | exact ih1 _ _ _ _ _ _ _ | exact spec_GoodChart.mono _ _ _ | exact spec_l21Enter.mono _ _ _ _ | exact spec_l21Events.mono _ _ | exact spec_l21Step.mono _ _ _ _ _ | exact LeO.refl _ | exact LeO.none _ | refine LeO.ite ?_ ?_ | refine LeO.bind ?_ (fun _ => ?_)) | exact ih0 _ _ _ _ | exact ih1 _ _ _ _ _ _ _ | exact spec_GoodChart.mono _ _ _ | exact spec_l21Enter.mono _ _ _ _ | exact spec_l21Events.mono _ _ | exact spec_l21Step.mono _ _ _ _ _ | exact LeO.none _ | refine LeO.ite ?_ ?_ | refine LeO.bind ?_ (fun _ => ?_)
theorem spec_RunChart.mono : ∀ a0 a1 a2 k, LeO (spec_RunChart.f k a0 a1 a2) (spec_RunChart.f (k + 1) a0 a1 a2) := by
  intro a0 a1 a2 k
  obtain ⟨ih0, ih1⟩ := spec_RunChart.mono_l k
  unfold spec_RunChart.f
  repeat' first | (with_reducible first | exact ih0 _ _ _ _ | exact ih1 _ _ _ _ _ _ _ | exact spec_GoodChart.mono _ _ _ | exact spec_l21Enter.mono _ _ _ _ | exact spec_l21Events.mono _ _ | exact spec_l21Step.mono _ _ _ _ _ | exact LeO.refl _ | exact LeO.none _ | refine LeO.ite ?_ ?_ | refine LeO.bind ?_ (fun _ => ?_)) | exact ih0 _ _ _ _ | exact ih1 _ _ _ _ _ _ _ | exact spec_GoodChart.mono _ _ _ | exact spec_l21Enter.mono _ _ _ _ | exact spec_l21Events.mono _ _ | exact spec_l21Step.mono _ _ _ _ _ | exact LeO.none _ | refine LeO.ite ?_ ?_ | refine LeO.bind ?_ (fun _ => ?_)

/-! ### laws_markStateS: function 77 -/
def laws_markStateS.l0 : Nat → List (S88) → Int → Int → Option (Int × (List (S88)))
  | 0, _, _, _ => none
  | k + 1, x0, x1, x5 => if x5 < (x0.length : Int) then (if 0 ≤ x5 then ((some (x0.set (x5 : Int).toNat (⟨x1, (rd_T88 x0 x5).f1⟩ : S88) : List (S88))).bind fun y356 => (laws_markStateS.l0 k (y356.set (x5 : Int).toNat (⟨(rd_T88 y356 x5).f0, wrap64 (x1 + 1)⟩ : S88)) (wrap64 ((wrap64 (x1 + 1)) + 1)) (wrap64 (x5 + 1)))) else (none)) else (some (x1, x0))
def laws_markStateS.f (k : Nat) (l0 : List (S88)) (a1 : Int) : Option (Int × (List (S88))) := laws_markStateS.l0 k l0 a1 0
theorem laws_markStateS.mono_l : ∀ k, (∀ y0 y1 y2, LeO (laws_markStateS.l0 k y0 y1 y2) (laws_markStateS.l0 (k + 1) y0 y1 y2))
  | 0 => fun _ _ _ r h => by simp [laws_markStateS.l0] at h
  | k + 1 => by
    have ih0 := laws_markStateS.mono_l k
    · intro y0 y1 y2
      unfold laws_markStateS.l0
      repeat' first | (with_reducible first | exact ih0 _ _ _ | exact LeO.refl _ | exact LeO.none _ | refine LeO.ite ?_ ?_ | refine LeO.bind ?_ (fun _ => ?_)) | exact ih0 _ _ _ | exact LeO.none _ | refine LeO.ite ?_ ?_ | refine LeO.bind ?_ (fun _ => ?_)
theorem laws_markStateS.mono : ∀ a0 a1 k, LeO (laws_markStateS.f k a0 a1) (laws_markStateS.f (k + 1) a0 a1) := by
  intro a0 a1 k
  have ih0 := laws_markStateS.mono_l k
  unfold laws_markStateS.f
  repeat' first | (with_reducible first | exact ih0 _ _ _ | exact LeO.refl _ | exact LeO.none _ | refine LeO.ite ?_ ?_ | refine LeO.bind ?_ (fun _ => ?_)) | exact ih0 _ _ _ | exact LeO.none _ | refine LeO.ite ?_ ?_ | refine LeO.bind ?_ (fun _ => ?_)

/-! ### laws_markArrowS: function 78 -/
def laws_markArrowS.l0 : Nat → List (S90) → Int → Int → Option (Int × (List (S90)))
  | 0, _, _, _ => none
  | k + 1, x0, x1, x5 => if x5 < (x0.length : Int) then (if 0 ≤ x5 then ((some (x0.set (x5 : Int).toNat (⟨x1, (rd_T90 x0 x5).f1, (rd_T90 x0 x5).f2⟩ : S90) : List (S90))).bind fun y358 => ((some (y358.set (x5 : Int).toNat (⟨(rd_T90 y358 x5).f0, wrap64 (x1 + 1), (rd_T90 y358 x5).f2⟩ : S90) : List (S90))).bind fun y359 => (laws_markArrowS.l0 k (y359.set (x5 : Int).toNat (⟨(rd_T90 y359 x5).f0, (rd_T90 y359 x5).f1, wrap64 ((wrap64 (x1 + 1)) + 1)⟩ : S90)) (wrap64 ((wrap64 ((wrap64 (x1 + 1)) + 1)) + 1)) (wrap64 (x5 + 1))))) else (none)) else (some (x1, x0))
def laws_markArrowS.f (k : Nat) (l0 : List (S90)) (a1 : Int) : Option (Int × (List (S90))) := laws_markArrowS.l0 k l0 a1 0
theorem laws_markArrowS.mono_l : ∀ k, (∀ y0 y1 y2, LeO (laws_markArrowS.l0 k y0 y1 y2) (laws_markArrowS.l0 (k + 1) y0 y1 y2))
  | 0 => fun _ _ _ r h => by simp [laws_markArrowS.l0] at h
  | k + 1 => by
    have ih0 := laws_markArrowS.mono_l k
    · intro y0 y1 y2
      unfold laws_markArrowS.l0
      repeat' first | (with_reducible first | exact ih0 _ _ _ | exact LeO.refl _ | exact LeO.none _ | refine LeO.ite ?_ ?_ | refine LeO.bind ?_ (fun _ => ?_)) | exact ih0 _ _ _ | exact LeO.none _ | refine LeO.ite ?_ ?_ | refine LeO.bind ?_ (fun _ => ?_)
theorem laws_markArrowS.mono : ∀ a0 a1 k, LeO (laws_markArrowS.f k a0 a1) (laws_markArrowS.f (k + 1) a0 a1) := by
  intro a0 a1 k
  have ih0 := laws_markArrowS.mono_l k
  unfold laws_markArrowS.f
  repeat' first | (with_reducible first | exact ih0 _ _ _ | exact LeO.refl _ | exact LeO.none _ | refine LeO.ite ?_ ?_ | refine LeO.bind ?_ (fun _ => ?_)) | exact ih0 _ _ _ | exact LeO.none _ | refine LeO.ite ?_ ?_ | refine LeO.bind ?_ (fun _ => ?_)

/-! ### laws_markChart: function 45 -/
def laws_markChart.f (k : Nat) (l0_0 : List (S88)) (l0_1 : List (S90)) (a1 : Int) : Option (Int × (List (S88)) × (List (S90))) := (laws_markStateS.f k l0_0 a1).bind fun bt362 => ((laws_markArrowS.f k l0_1 bt362.1).bind fun bt364 => (some (bt364.1, bt362.2, bt364.2)))
theorem laws_markChart.mono : ∀ a0 a1 a2 k, LeO (laws_markChart.f k a0 a1 a2) (laws_markChart.f (k + 1) a0 a1 a2) := by
  intro a0 a1 a2 k
  unfold laws_markChart.f
  repeat' first | (with_reducible first | exact laws_markArrowS.mono _ _ _ | exact laws_markStateS.mono _ _ _ | exact LeO.refl _ | exact LeO.none _ | refine LeO.ite ?_ ?_ | refine LeO.bind ?_ (fun _ => ?_)) | exact laws_markArrowS.mono _ _ _ | exact laws_markStateS.mono _ _ _ | exact LeO.none _ | refine LeO.ite ?_ ?_ | refine LeO.bind ?_ (fun _ => ?_)

/-! ### laws_FnExactRunChart: function 10 -/
mutual
def laws_FnExactRunChart.j0 : Nat → List Int → List Int → Bool → List Int → List Int → Bool → Bool → List (S101) → List (S103) → List (S88) → List (S90) → Option (Bool)
  | 0, _, _, _, _, _, _, _, _, _, _, _ => none
  | k + 1, x1, x6, x7, x9, x10, x11, x51, x367000, x367001, x388000, x388001 => if x51 = true then (some false) else ((laws_toChart.f k x367000 x367001).bind fun bt396 => ((laws_eqChart.f k x388000 x388001 bt396.1 bt396.2).bind fun t402 => (if t402 = true then ((laws_toIntS.f k x1).bind fun t403 => ((laws_eqIntS.f k x9 t403).bind fun t406 => (if t406 = true then ((laws_markChart.f k x388000 x388001 1).bind fun bt407 => ((laws_markIntS.f k x9 bt407.1).bind fun bt410 => (if bt410.1 < 0 then (laws_FnExactRunChart.j1 k x1 x6 x7 x10 true x367000 x367001) else ((laws_eqIntS.f k x10 x6).bind fun t412 => (if t412 = true then (laws_FnExactRunChart.j1 k x1 x6 x7 x10 (x11 != x7) x367000 x367001) else (laws_FnExactRunChart.j1 k x1 x6 x7 x10 true x367000 x367001)))))) else (some false)))) else (some false))))
def laws_FnExactRunChart.j1 : Nat → List Int → List Int → Bool → List Int → Bool → List (S101) → List (S103) → Option (Bool)
  | 0, _, _, _, _, _, _, _ => none
  | k + 1, x1, x6, x7, x10, x80, x367000, x367001 => if x80 = true then (some false) else ((laws_markIntS.f k x10 1).bind fun bt413 => ((laws_heldIntS.f k bt413.2 1).bind fun t415 => (if t415 < 0 then (some false) else (if t415 = bt413.1 then ((laws_toChart.f k x367000 x367001).bind fun bt416 => ((laws_toIntS.f k x1).bind fun t422 => ((impl_RunChart.f k bt416.1 bt416.2 t422).bind fun bt425 => ((laws_eqIntS.f k bt425.1 x6).bind fun t429 => (if t429 = true then (laws_FnExactRunChart.j2 k bt413.2 bt413.1 (bt425.2 != x7)) else (laws_FnExactRunChart.j2 k bt413.2 bt413.1 true)))))) else (some false)))))
def laws_FnExactRunChart.j2 : Nat → List Int → Int → Bool → Option (Bool)
  | 0, _, _, _ => none
  | k + 1, x10, x13, x108 => if x108 = true then (some false) else ((laws_heldIntS.f k x10 1).bind fun t430 => (if t430 < 0 then (some false) else (if t430 = x13 then (some true) else (some false))))
end
def laws_FnExactRunChart.f (k : Nat) (l0_0 : List (S101)) (l0_1 : List (S103)) (l1 : List Int) : Option (Bool) := if (l1.length : Int) > 1048576 then (some true) else ((laws_szChart.f l0_0 l0_1 1048576).bind fun t367 => (if t367 < 0 then (some true) else ((laws_toChart.f k l0_0 l0_1).bind fun bt368 => ((laws_toIntS.f k l1).bind fun t374 => ((spec_RunChart.f k bt368.1 bt368.2 t374).bind fun bt377 => ((laws_toChart.f k l0_0 l0_1).bind fun bt381 => ((laws_toIntS.f k l1).bind fun t388 => ((impl_RunChart.f k bt381.1 bt381.2 t388).bind fun bt391 => ((laws_eqIntS.f k bt391.1 bt377.1).bind fun t395 => (if t395 = true then (laws_FnExactRunChart.j0 k l1 bt377.1 bt377.2 t388 bt391.1 bt391.2 (bt391.2 != bt377.2) l0_0 l0_1 bt381.1 bt381.2) else (laws_FnExactRunChart.j0 k l1 bt377.1 bt377.2 t388 bt391.1 bt391.2 true l0_0 l0_1 bt381.1 bt381.2)))))))))))
theorem laws_FnExactRunChart.mono_l : ∀ k, (∀ y0 y1 y2 y3 y4 y5 y6 y7 y8 y9 y10, LeO (laws_FnExactRunChart.j0 k y0 y1 y2 y3 y4 y5 y6 y7 y8 y9 y10) (laws_FnExactRunChart.j0 (k + 1) y0 y1 y2 y3 y4 y5 y6 y7 y8 y9 y10)) ∧ (∀ y0 y1 y2 y3 y4 y5 y6, LeO (laws_FnExactRunChart.j1 k y0 y1 y2 y3 y4 y5 y6) (laws_FnExactRunChart.j1 (k + 1) y0 y1 y2 y3 y4 y5 y6)) ∧ (∀ y0 y1 y2, LeO (laws_FnExactRunChart.j2 k y0 y1 y2) (laws_FnExactRunChart.j2 (k + 1) y0 y1 y2))
  | 0 => ⟨fun _ _ _ _ _ _ _ _ _ _ _ r h => by simp [laws_FnExactRunChart.j0] at h, fun _ _ _ _ _ _ _ r h => by simp [laws_FnExactRunChart.j1] at h, fun _ _ _ r h => by simp [laws_FnExactRunChart.j2] at h⟩
  | k + 1 => by
    obtain ⟨ih0, ih1, ih2⟩ := laws_FnExactRunChart.mono_l k
    refine ⟨?_, ?_, ?_⟩
    · intro y0 y1 y2 y3 y4 y5 y6 y7 y8 y9 y10
      unfold laws_FnExactRunChart.j0
      repeat' first | (with_reducible first | exact ih0 _ _ _ _ _ _ _ _ _ _ _ | exact ih1 _ _ _ _ _ _ _ | exact ih2 _ _ _ | exact impl_RunChart.mono _ _ _ _ | exact laws_eqChart.mono _ _ _ _ _ | exact laws_eqIntS.mono _ _ _ | exact laws_heldIntS.mono _ _ _ | exact laws_markChart.mono _ _ _ _ | exact laws_markIntS.mono _ _ _ | exact laws_toChart.mono _ _ _ | exact laws_toIntS.mono _ _ | exact spec_RunChart.mono _ _ _ _ | exact LeO.refl _ | exact LeO.none _ | refine LeO.ite ?_ ?_ | refine LeO.bind ?_ (fun _ => ?_)) | exact ih0 _ _ _ _ _ _ _ _ _ _ _ | exact ih1 _ _ _ _ _ _ _ | exact ih2 _ _ _ | exact impl_RunChart.mono _ _ _ _ | exact laws_eqChart.mono _ _ _ _ _ | exact laws_eqIntS.mono _ _ _ | exact laws_heldIntS.mono _ _ _ | exact laws_markChart.mono _ _ _ _ | exact laws_markIntS.mono _ _ _ | exact laws_toChart.mono _ _ _ | exact laws_toIntS.mono _ _ | exact spec_RunChart.mono _ _ _ _ | exact LeO.none _ | refine LeO.ite ?_ ?_ | refine LeO.bind ?_ (fun _ => ?_)
    · intro y0 y1 y2 y3 y4 y5 y6
      unfold laws_FnExactRunChart.j1
      repeat' first | (with_reducible first | exact ih0 _ _ _ _ _ _ _ _ _ _ _ | exact ih1 _ _ _ _ _ _ _ | exact ih2 _ _ _ | exact impl_RunChart.mono _ _ _ _ | exact laws_eqChart.mono _ _ _ _ _ | exact laws_eqIntS.mono _ _ _ | exact laws_heldIntS.mono _ _ _ | exact laws_markChart.mono _ _ _ _ | exact laws_markIntS.mono _ _ _ | exact laws_toChart.mono _ _ _ | exact laws_toIntS.mono _ _ | exact spec_RunChart.mono _ _ _ _ | exact LeO.refl _ | exact LeO.none _ | refine LeO.ite ?_ ?_ | refine LeO.bind ?_ (fun _ => ?_)) | exact ih0 _ _ _ _ _ _ _ _ _ _ _ | exact ih1 _ _ _ _ _ _ _ | exact ih2 _ _ _ | exact impl_RunChart.mono _ _ _ _ | exact laws_eqChart.mono _ _ _ _ _ | exact laws_eqIntS.mono _ _ _ | exact laws_heldIntS.mono _ _ _ | exact laws_markChart.mono _ _ _ _ | exact laws_markIntS.mono _ _ _ | exact laws_toChart.mono _ _ _ | exact laws_toIntS.mono _ _ | exact spec_RunChart.mono _ _ _ _ | exact LeO.none _ | refine LeO.ite ?_ ?_ | refine LeO.bind ?_ (fun _ => ?_)
    · intro y0 y1 y2
      unfold laws_FnExactRunChart.j2
      repeat' first | (with_reducible first | exact ih0 _ _ _ _ _ _ _ _ _ _ _ | exact ih1 _ _ _ _ _ _ _ | exact ih2 _ _ _ | exact impl_RunChart.mono _ _ _ _ | exact laws_eqChart.mono _ _ _ _ _ | exact laws_eqIntS.mono _ _ _ | exact laws_heldIntS.mono _ _ _ | exact laws_markChart.mono _ _ _ _ | exact laws_markIntS.mono _ _ _ | exact laws_toChart.mono _ _ _ | exact laws_toIntS.mono _ _ | exact spec_RunChart.mono _ _ _ _ | exact LeO.refl _ | exact LeO.none _ | refine LeO.ite ?_ ?_ | refine LeO.bind ?_ (fun _ => ?_)) | exact ih0 _ _ _ _ _ _ _ _ _ _ _ | exact ih1 _ _ _ _ _ _ _ | exact ih2 _ _ _ | exact impl_RunChart.mono _ _ _ _ | exact laws_eqChart.mono _ _ _ _ _ | exact laws_eqIntS.mono _ _ _ | exact laws_heldIntS.mono _ _ _ | exact laws_markChart.mono _ _ _ _ | exact laws_markIntS.mono _ _ _ | exact laws_toChart.mono _ _ _ | exact laws_toIntS.mono _ _ | exact spec_RunChart.mono _ _ _ _ | exact LeO.none _ | refine LeO.ite ?_ ?_ | refine LeO.bind ?_ (fun _ => ?_)
theorem laws_FnExactRunChart.mono : ∀ a0 a1 a2 k, LeO (laws_FnExactRunChart.f k a0 a1 a2) (laws_FnExactRunChart.f (k + 1) a0 a1 a2) := by
  intro a0 a1 a2 k
  obtain ⟨ih0, ih1, ih2⟩ := laws_FnExactRunChart.mono_l k
  unfold laws_FnExactRunChart.f
  repeat' first | (with_reducible first | exact ih0 _ _ _ _ _ _ _ _ _ _ _ | exact ih1 _ _ _ _ _ _ _ | exact ih2 _ _ _ | exact impl_RunChart.mono _ _ _ _ | exact laws_eqChart.mono _ _ _ _ _ | exact laws_eqIntS.mono _ _ _ | exact laws_heldIntS.mono _ _ _ | exact laws_markChart.mono _ _ _ _ | exact laws_markIntS.mono _ _ _ | exact laws_toChart.mono _ _ _ | exact laws_toIntS.mono _ _ | exact spec_RunChart.mono _ _ _ _ | exact LeO.refl _ | exact LeO.none _ | refine LeO.ite ?_ ?_ | refine LeO.bind ?_ (fun _ => ?_)) | exact ih0 _ _ _ _ _ _ _ _ _ _ _ | exact ih1 _ _ _ _ _ _ _ | exact ih2 _ _ _ | exact impl_RunChart.mono _ _ _ _ | exact laws_eqChart.mono _ _ _ _ _ | exact laws_eqIntS.mono _ _ _ | exact laws_heldIntS.mono _ _ _ | exact laws_markChart.mono _ _ _ _ | exact laws_markIntS.mono _ _ _ | exact laws_toChart.mono _ _ _ | exact laws_toIntS.mono _ _ | exact spec_RunChart.mono _ _ _ _ | exact LeO.none _ | refine LeO.ite ?_ ?_ | refine LeO.bind ?_ (fun _ => ?_)

end Go.Proofs.Ytkhkgfihodljmaa.Pr
