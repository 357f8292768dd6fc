-- Written by this session's own print (wip/tools/mkmp.py) out of the translation. Lean checks it.
import Derived.Test.YtjcmlggdaajicaaPr0
import Derived.Test.YtjcmlggdaajicaaHdClear
import Derived.Test.YtjcmlggdaajicaaPrd1
namespace Go.Proofs.Ytjcmlggdaajicaa.Pr
open Go.RowKit Go.Proofs.YtjcmlggdaajicaaW.PrintWords Go.Proofs.YtjcmlggdaajicaaW.PrintLast Go.Proofs.YtjcmlggdaajicaaW.PrintMore
attribute [local go_sem] max2_int min2_int max_two min_two max_three min_three max_four min_four   -- for this text's walks alone
set_option linter.unusedVariables false
set_option linter.unusedSimpArgs false

/-! ### impl_Clear: function 13 -/
def impl_Clear.f (k : Nat) (a0_0 : Int) (l0_1 : List Int) (a1 : Int) (a2 : Int) : Option (Bool) := (impl_GoodCells.f k a0_0 l0_1).bind fun t212 => (if t212 = true then ((impl_Cells_free.f a0_0 l0_1 a1).bind fun t213 => (if t213 = true then ((impl_Cells_free.f a0_0 l0_1 a2).bind fun t214 => (if t214 = true then ((impl_Cells_clear.f a0_0 l0_1 a1 a2).bind fun t215 => (some t215)) else (some false))) else (some false))) else (some false))
theorem impl_Clear.mono : ∀ a0 a1 a2 a3 k, LeO (impl_Clear.f k a0 a1 a2 a3) (impl_Clear.f (k + 1) a0 a1 a2 a3) := by
  intro a0 a1 a2 a3 k
  unfold impl_Clear.f
  repeat' first | (with_reducible first | exact impl_GoodCells.mono _ _ _ | exact LeO.refl _ | exact LeO.none _ | refine LeO.ite ?_ ?_ | refine LeO.bind ?_ (fun _ => ?_)) | exact impl_GoodCells.mono _ _ _ | exact LeO.none _ | refine LeO.ite ?_ ?_ | refine LeO.bind ?_ (fun _ => ?_)

/-! ### laws_FnExactClear: function 3 -/
def laws_FnExactClear.f (k : Nat) (a0_0 : Int) (l0_1 : List Int) (a1 : Int) (a2 : Int) : Option (Bool) := (laws_szCells.f a0_0 l0_1 1048576).bind fun t217 => (if t217 < 0 then (some true) else ((laws_toCells.f k a0_0 l0_1).bind fun bt218 => ((spec_Clear.f k bt218.1 bt218.2 a1 a2).bind fun t222 => ((laws_toCells.f k a0_0 l0_1).bind fun bt223 => ((impl_Clear.f k bt223.1 bt223.2 a1 a2).bind fun t228 => (if (t228 != t222) = true then (some false) else ((laws_toCells.f k a0_0 l0_1).bind fun bt229 => ((laws_eqCells.f k bt223.1 bt223.2 bt229.1 bt229.2).bind fun t233 => (if t233 = true then (some true) else (some false))))))))))
theorem laws_FnExactClear.mono : ∀ a0 a1 a2 a3 k, LeO (laws_FnExactClear.f k a0 a1 a2 a3) (laws_FnExactClear.f (k + 1) a0 a1 a2 a3) := by
  intro a0 a1 a2 a3 k
  unfold laws_FnExactClear.f
  repeat' first | (with_reducible first | exact impl_Clear.mono _ _ _ _ _ | exact laws_eqCells.mono _ _ _ _ _ | exact laws_toCells.mono _ _ _ | exact spec_Clear.mono _ _ _ _ _ | exact LeO.refl _ | exact LeO.none _ | refine LeO.ite ?_ ?_ | refine LeO.bind ?_ (fun _ => ?_)) | exact impl_Clear.mono _ _ _ _ _ | exact laws_eqCells.mono _ _ _ _ _ | exact laws_toCells.mono _ _ _ | exact spec_Clear.mono _ _ _ _ _ | exact LeO.none _ | refine LeO.ite ?_ ?_ | refine LeO.bind ?_ (fun _ => ?_)

/-! ### spec_MostClear: function 19 -/
mutual
def spec_MostClear.j0 : Nat → Int → Bool → Int → List Int → Option (List Int)
  | 0, _, _, _, _ => none
  | k + 1, x1, x15, x235000, x235001 => if x15 = true then (some ([] : List Int)) else (spec_MostClear.l0 k x1 ([] : List Int) (x235001.length : Int) 0 x235000 x235001)
def spec_MostClear.l0 : Nat → Int → List Int → Int → Int → Int → List Int → Option (List Int)
  | 0, _, _, _, _, _, _ => none
  | k + 1, x1, x5, x18, x19, x235000, x235001 => if x19 < x18 then ((spec_l18Clear.f k x235000 x235001 x1 x19).bind fun t237 => (if t237 = true then (if x5.length < 17592186044416 then (spec_MostClear.l0 k x1 (x5 ++ [x19]) x18 (wrap64 (x19 + 1)) x235000 x235001) else (none)) else (spec_MostClear.l0 k x1 x5 x18 (wrap64 (x19 + 1)) x235000 x235001))) else (some x5)
end
def spec_MostClear.f (k : Nat) (a0_0 : Int) (l0_1 : List Int) (a1 : Int) : Option (List Int) := (spec_GoodCells.f k a0_0 l0_1).bind fun t235 => (if t235 = true then ((spec_l12Free.f a0_0 l0_1 a1).bind fun t236 => (spec_MostClear.j0 k a1 (!t236) a0_0 l0_1)) else (spec_MostClear.j0 k a1 true a0_0 l0_1))
theorem spec_MostClear.mono_l : ∀ k, (∀ y0 y1 y2 y3, LeO (spec_MostClear.j0 k y0 y1 y2 y3) (spec_MostClear.j0 (k + 1) y0 y1 y2 y3)) ∧ (∀ y0 y1 y2 y3 y4 y5, LeO (spec_MostClear.l0 k y0 y1 y2 y3 y4 y5) (spec_MostClear.l0 (k + 1) y0 y1 y2 y3 y4 y5))
  | 0 => ⟨fun _ _ _ _ r h => by simp [spec_MostClear.j0] at h, fun _ _ _ _ _ _ r h => by simp [spec_MostClear.l0] at h⟩
  | k + 1 => by
    obtain ⟨ih0, ih1⟩ := spec_MostClear.mono_l k
    refine ⟨?_, ?_⟩
    · intro y0 y1 y2 y3
      unfold spec_MostClear.j0
      repeat' first | (with_reducible first | exact ih0 _ _ _ _ | exact ih1 _ _ _ _ _ _ | exact spec_GoodCells.mono _ _ _ | exact spec_l18Clear.mono _ _ _ _ _ | exact LeO.refl _ | exact LeO.none _ | refine LeO.ite ?_ ?_ | refine LeO.bind ?_ (fun _ => ?_)) | exact ih0 _ _ _ _ | exact ih1 _ _ _ _ _ _ | exact spec_GoodCells.mono _ _ _ | exact spec_l18Clear.mono _ _ _ _ _ | exact LeO.none _ | refine LeO.ite ?_ ?_ | refine LeO.bind ?_ (fun _ => ?_)
    · intro y0 y1 y2 y3 y4 y5
      unfold spec_MostClear.l0
      repeat' first | (with_reducible first | exact ih0 _ _ _ _ | exact ih1 _ _ _ _ _ _ | exact spec_GoodCells.mono _ _ _ | exact spec_l18Clear.mono _ _ _ _ _ | exact LeO.refl _ | exact LeO.none _ | refine LeO.ite ?_ ?_ | refine LeO.bind ?_ (fun _ => ?_)) | exact ih0 _ _ _ _ | exact ih1 _ _ _ _ _ _ | exact spec_GoodCells.mono _ _ _ | exact spec_l18Clear.mono _ _ _ _ _ | exact LeO.none _ | refine LeO.ite ?_ ?_ | refine LeO.bind ?_ (fun _ => ?_)
theorem spec_MostClear.mono : ∀ a0 a1 a2 k, LeO (spec_MostClear.f k a0 a1 a2) (spec_MostClear.f (k + 1) a0 a1 a2) := by
  intro a0 a1 a2 k
  obtain ⟨ih0, ih1⟩ := spec_MostClear.mono_l k
  unfold spec_MostClear.f
  repeat' first | (with_reducible first | exact ih0 _ _ _ _ | exact ih1 _ _ _ _ _ _ | exact spec_GoodCells.mono _ _ _ | exact spec_l18Clear.mono _ _ _ _ _ | exact LeO.refl _ | exact LeO.none _ | refine LeO.ite ?_ ?_ | refine LeO.bind ?_ (fun _ => ?_)) | exact ih0 _ _ _ _ | exact ih1 _ _ _ _ _ _ | exact spec_GoodCells.mono _ _ _ | exact spec_l18Clear.mono _ _ _ _ _ | exact LeO.none _ | refine LeO.ite ?_ ?_ | refine LeO.bind ?_ (fun _ => ?_)

/-! ### impl_MostClear: function 20 -/
mutual
def impl_MostClear.j0 : Nat → Int → Bool → Int → List Int → Option (List Int)
  | 0, _, _, _, _ => none
  | k + 1, x1, x15, x242000, x242001 => if x15 = true then (some ([] : List Int)) else (impl_MostClear.l0 k x1 ([] : List Int) (x242001.length : Int) 0 x242000 x242001)
def impl_MostClear.l0 : Nat → Int → List Int → Int → Int → Int → List Int → Option (List Int)
  | 0, _, _, _, _, _, _ => none
  | k + 1, x1, x5, x18, x19, x242000, x242001 => if x19 < x18 then ((impl_Cells_free.f x242000 x242001 x19).bind fun t244 => (if t244 = true then ((impl_Cells_clear.f x242000 x242001 x1 x19).bind fun t245 => (if t245 = true then (if x5.length < 17592186044416 then (impl_MostClear.l0 k x1 (x5 ++ [x19]) x18 (wrap64 (x19 + 1)) x242000 x242001) else (none)) else (impl_MostClear.l0 k x1 x5 x18 (wrap64 (x19 + 1)) x242000 x242001))) else (impl_MostClear.l0 k x1 x5 x18 (wrap64 (x19 + 1)) x242000 x242001))) else (some x5)
end
def impl_MostClear.f (k : Nat) (a0_0 : Int) (l0_1 : List Int) (a1 : Int) : Option (List Int) := (impl_GoodCells.f k a0_0 l0_1).bind fun t242 => (if t242 = true then ((impl_Cells_free.f a0_0 l0_1 a1).bind fun t243 => (impl_MostClear.j0 k a1 (!t243) a0_0 l0_1)) else (impl_MostClear.j0 k a1 true a0_0 l0_1))
theorem impl_MostClear.mono_l : ∀ k, (∀ y0 y1 y2 y3, LeO (impl_MostClear.j0 k y0 y1 y2 y3) (impl_MostClear.j0 (k + 1) y0 y1 y2 y3)) ∧ (∀ y0 y1 y2 y3 y4 y5, LeO (impl_MostClear.l0 k y0 y1 y2 y3 y4 y5) (impl_MostClear.l0 (k + 1) y0 y1 y2 y3 y4 y5))
  | 0 => ⟨fun _ _ _ _ r h => by simp [impl_MostClear.j0] at h, fun _ _ _ _ _ _ r h => by simp [impl_MostClear.l0] at h⟩
  | k + 1 => by
    obtain ⟨ih0, ih1⟩ := impl_MostClear.mono_l k
    refine ⟨?_, ?_⟩
    · intro y0 y1 y2 y3
      unfold impl_MostClear.j0
      repeat' first | (with_reducible first | exact ih0 _ _ _ _ | exact ih1 _ _ _ _ _ _ | exact impl_GoodCells.mono _ _ _ | exact LeO.refl _ | exact LeO.none _ | refine LeO.ite ?_ ?_ | refine LeO.bind ?_ (fun _ => ?_)) | exact ih0 _ _ _ _ | exact ih1 _ _ _ _ _ _ | exact impl_GoodCells.mono _ _ _ | exact LeO.none _ | refine LeO.ite ?_ ?_ | refine LeO.bind ?_ (fun _ => ?_)
    · intro y0 y1 y2 y3 y4 y5
      unfold impl_MostClear.l0
      repeat' first | (with_reducible first | exact ih0 _ _ _ _ | exact ih1 _ _ _ _ _ _ | exact impl_GoodCells.mono _ _ _ | exact LeO.refl _ | exact LeO.none _ | refine LeO.ite ?_ ?_ | refine LeO.bind ?_ (fun _ => ?_)) | exact ih0 _ _ _ _ | exact ih1 _ _ _ _ _ _ | exact impl_GoodCells.mono _ _ _ | exact LeO.none _ | refine LeO.ite ?_ ?_ | refine LeO.bind ?_ (fun _ => ?_)
theorem impl_MostClear.mono : ∀ a0 a1 a2 k, LeO (impl_MostClear.f k a0 a1 a2) (impl_MostClear.f (k + 1) a0 a1 a2) := by
  intro a0 a1 a2 k
  obtain ⟨ih0, ih1⟩ := impl_MostClear.mono_l k
  unfold impl_MostClear.f
  repeat' first | (with_reducible first | exact ih0 _ _ _ _ | exact ih1 _ _ _ _ _ _ | exact impl_GoodCells.mono _ _ _ | exact LeO.refl _ | exact LeO.none _ | refine LeO.ite ?_ ?_ | refine LeO.bind ?_ (fun _ => ?_)) | exact ih0 _ _ _ _ | exact ih1 _ _ _ _ _ _ | exact impl_GoodCells.mono _ _ _ | exact LeO.none _ | refine LeO.ite ?_ ?_ | refine LeO.bind ?_ (fun _ => ?_)

/-! ### laws_markIntS: function 22 -/
def laws_markIntS.l0 : Nat → List Int → Int → Int → Option (Int × List Int)
  | 0, _, _, _ => none
  | k + 1, x0, x1, x5 => if x5 < (x0.length : Int) then (if 0 ≤ x5 then (laws_markIntS.l0 k (x0.set (x5 : Int).toNat x1) (wrap64 (x1 + 1)) (wrap64 (x5 + 1))) else (none)) else (some (x1, x0))
def laws_markIntS.f (k : Nat) (l0 : List Int) (a1 : Int) : Option (Int × List Int) := laws_markIntS.l0 k l0 a1 0
theorem laws_markIntS.mono_l : ∀ k, (∀ y0 y1 y2, LeO (laws_markIntS.l0 k y0 y1 y2) (laws_markIntS.l0 (k + 1) y0 y1 y2))
  | 0 => fun _ _ _ r h => by simp [laws_markIntS.l0] at h
  | k + 1 => by
    have ih0 := laws_markIntS.mono_l k
    · intro y0 y1 y2
      unfold laws_markIntS.l0
      repeat' first | (with_reducible first | exact ih0 _ _ _ | exact LeO.refl _ | exact LeO.none _ | refine LeO.ite ?_ ?_ | refine LeO.bind ?_ (fun _ => ?_)) | exact ih0 _ _ _ | exact LeO.none _ | refine LeO.ite ?_ ?_ | refine LeO.bind ?_ (fun _ => ?_)
theorem laws_markIntS.mono : ∀ a0 a1 k, LeO (laws_markIntS.f k a0 a1) (laws_markIntS.f (k + 1) a0 a1) := by
  intro a0 a1 k
  have ih0 := laws_markIntS.mono_l k
  unfold laws_markIntS.f
  repeat' first | (with_reducible first | exact ih0 _ _ _ | exact LeO.refl _ | exact LeO.none _ | refine LeO.ite ?_ ?_ | refine LeO.bind ?_ (fun _ => ?_)) | exact ih0 _ _ _ | exact LeO.none _ | refine LeO.ite ?_ ?_ | refine LeO.bind ?_ (fun _ => ?_)

/-! ### laws_markCells: function 21 -/
def laws_markCells.f (k : Nat) (a0_0 : Int) (l0_1 : List Int) (a1 : Int) : Option (Int × List Int) := (laws_markIntS.f k l0_1 a1).bind fun bt251 => (some (bt251.1, bt251.2))
theorem laws_markCells.mono : ∀ a0 a1 a2 k, LeO (laws_markCells.f k a0 a1 a2) (laws_markCells.f (k + 1) a0 a1 a2) := by
  intro a0 a1 a2 k
  unfold laws_markCells.f
  repeat' first | (with_reducible first | exact laws_markIntS.mono _ _ _ | exact LeO.refl _ | exact LeO.none _ | refine LeO.ite ?_ ?_ | refine LeO.bind ?_ (fun _ => ?_)) | exact laws_markIntS.mono _ _ _ | exact LeO.none _ | refine LeO.ite ?_ ?_ | refine LeO.bind ?_ (fun _ => ?_)

/-! ### laws_heldIntS: function 23 -/
def laws_heldIntS.l0 : Nat → List Int → Int → Int → Option (Int)
  | 0, _, _, _ => none
  | k + 1, x0, x1, x5 => if x5 < (x0.length : Int) then (if 0 ≤ x5 then (if (rd x0 x5) = x1 then (laws_heldIntS.l0 k x0 (wrap64 (x1 + 1)) (wrap64 (x5 + 1))) else (some (-1))) else (none)) else (some x1)
def laws_heldIntS.f (k : Nat) (l0 : List Int) (a1 : Int) : Option (Int) := laws_heldIntS.l0 k l0 a1 0
theorem laws_heldIntS.mono_l : ∀ k, (∀ y0 y1 y2, LeO (laws_heldIntS.l0 k y0 y1 y2) (laws_heldIntS.l0 (k + 1) y0 y1 y2))
  | 0 => fun _ _ _ r h => by simp [laws_heldIntS.l0] at h
  | k + 1 => by
    have ih0 := laws_heldIntS.mono_l k
    · intro y0 y1 y2
      unfold laws_heldIntS.l0
      repeat' first | (with_reducible first | exact ih0 _ _ _ | exact LeO.refl _ | exact LeO.none _ | refine LeO.ite ?_ ?_ | refine LeO.bind ?_ (fun _ => ?_)) | exact ih0 _ _ _ | exact LeO.none _ | refine LeO.ite ?_ ?_ | refine LeO.bind ?_ (fun _ => ?_)
theorem laws_heldIntS.mono : ∀ a0 a1 k, LeO (laws_heldIntS.f k a0 a1) (laws_heldIntS.f (k + 1) a0 a1) := by
  intro a0 a1 k
  have ih0 := laws_heldIntS.mono_l k
  unfold laws_heldIntS.f
  repeat' first | (with_reducible first | exact ih0 _ _ _ | exact LeO.refl _ | exact LeO.none _ | refine LeO.ite ?_ ?_ | refine LeO.bind ?_ (fun _ => ?_)) | exact ih0 _ _ _ | exact LeO.none _ | refine LeO.ite ?_ ?_ | refine LeO.bind ?_ (fun _ => ?_)

/-! ### laws_FnExactMostClear: function 5 -/
def laws_FnExactMostClear.j0 : Nat → Int → List Int → List Int → Bool → Int → List Int → Option (Bool)
  | 0, _, _, _, _, _, _ => none
  | k + 1, x1, x6, x8, x46, x255000, x255001 => if x46 = true then (some false) else ((laws_markIntS.f k x8 1).bind fun bt280 => ((laws_heldIntS.f k bt280.2 1).bind fun t282 => (if t282 < 0 then (some false) else (if t282 = bt280.1 then ((laws_toCells.f k x255000 x255001).bind fun bt283 => ((impl_MostClear.f k bt283.1 bt283.2 x1).bind fun t287 => ((laws_eqIntS.f k t287 x6).bind fun t290 => (if t290 = true then ((laws_heldIntS.f k bt280.2 1).bind fun t291 => (if t291 < 0 then (some false) else (if t291 = bt280.1 then (some true) else (some false)))) else (some false))))) else (some false)))))
def laws_FnExactMostClear.f (k : Nat) (a0_0 : Int) (l0_1 : List Int) (a1 : Int) : Option (Bool) := (laws_szCells.f a0_0 l0_1 1048576).bind fun t255 => (if t255 < 0 then (some true) else ((laws_toCells.f k a0_0 l0_1).bind fun bt256 => ((spec_MostClear.f k bt256.1 bt256.2 a1).bind fun t260 => ((laws_toCells.f k a0_0 l0_1).bind fun bt263 => ((impl_MostClear.f k bt263.1 bt263.2 a1).bind fun t268 => ((laws_eqIntS.f k t268 t260).bind fun t271 => (if t271 = true then ((laws_toCells.f k a0_0 l0_1).bind fun bt272 => ((laws_eqCells.f k bt263.1 bt263.2 bt272.1 bt272.2).bind fun t276 => (if t276 = true then ((laws_markCells.f k bt263.1 bt263.2 1).bind fun bt277 => (if bt277.1 < 0 then (laws_FnExactMostClear.j0 k a1 t260 t268 true a0_0 l0_1) else ((laws_eqIntS.f k t268 t260).bind fun t279 => (laws_FnExactMostClear.j0 k a1 t260 t268 (!t279) a0_0 l0_1)))) else (some false)))) else (some false))))))))
theorem laws_FnExactMostClear.mono_l : ∀ k, (∀ y0 y1 y2 y3 y4 y5, LeO (laws_FnExactMostClear.j0 k y0 y1 y2 y3 y4 y5) (laws_FnExactMostClear.j0 (k + 1) y0 y1 y2 y3 y4 y5))
  | 0 => fun _ _ _ _ _ _ r h => by simp [laws_FnExactMostClear.j0] at h
  | k + 1 => by
    have ih0 := laws_FnExactMostClear.mono_l k
    · intro y0 y1 y2 y3 y4 y5
      unfold laws_FnExactMostClear.j0
      repeat' first | (with_reducible first | exact ih0 _ _ _ _ _ _ | exact impl_MostClear.mono _ _ _ _ | exact laws_eqCells.mono _ _ _ _ _ | exact laws_eqIntS.mono _ _ _ | exact laws_heldIntS.mono _ _ _ | exact laws_markCells.mono _ _ _ _ | exact laws_markIntS.mono _ _ _ | exact laws_toCells.mono _ _ _ | exact spec_MostClear.mono _ _ _ _ | exact LeO.refl _ | exact LeO.none _ | refine LeO.ite ?_ ?_ | refine LeO.bind ?_ (fun _ => ?_)) | exact ih0 _ _ _ _ _ _ | exact impl_MostClear.mono _ _ _ _ | exact laws_eqCells.mono _ _ _ _ _ | exact laws_eqIntS.mono _ _ _ | exact laws_heldIntS.mono _ _ _ | exact laws_markCells.mono _ _ _ _ | exact laws_markIntS.mono _ _ _ | exact laws_toCells.mono _ _ _ | exact spec_MostClear.mono _ _ _ _ | exact LeO.none _ | refine LeO.ite ?_ ?_ | refine LeO.bind ?_ (fun _ => ?_)
theorem laws_FnExactMostClear.mono : ∀ a0 a1 a2 k, LeO (laws_FnExactMostClear.f k a0 a1 a2) (laws_FnExactMostClear.f (k + 1) a0 a1 a2) := by
  intro a0 a1 a2 k
  have ih0 := laws_FnExactMostClear.mono_l k
  unfold laws_FnExactMostClear.f
  repeat' first | (with_reducible first | exact ih0 _ _ _ _ _ _ | exact impl_MostClear.mono _ _ _ _ | exact laws_eqCells.mono _ _ _ _ _ | exact laws_eqIntS.mono _ _ _ | exact laws_heldIntS.mono _ _ _ | exact laws_markCells.mono _ _ _ _ | exact laws_markIntS.mono _ _ _ | exact laws_toCells.mono _ _ _ | exact spec_MostClear.mono _ _ _ _ | exact LeO.refl _ | exact LeO.none _ | refine LeO.ite ?_ ?_ | refine LeO.bind ?_ (fun _ => ?_)) | exact ih0 _ _ _ _ _ _ | exact impl_MostClear.mono _ _ _ _ | exact laws_eqCells.mono _ _ _ _ _ | exact laws_eqIntS.mono _ _ _ | exact laws_heldIntS.mono _ _ _ | exact laws_markCells.mono _ _ _ _ | exact laws_markIntS.mono _ _ _ | exact laws_toCells.mono _ _ _ | exact spec_MostClear.mono _ _ _ _ | exact LeO.none _ | refine LeO.ite ?_ ?_ | refine LeO.bind ?_ (fun _ => ?_)

/-! ### spec_PulledWay: function 24 -/
mutual
def spec_PulledWay.j0 : Nat → List Int → Bool → Int → List Int → Option (List Int × Bool)
  | 0, _, _, _, _ => none
  | k + 1, x1, x30, x293000, x293001 => if x30 = true then (some (([] : List Int), false)) else (spec_PulledWay.l0 k x1 1 x293000 x293001)
def spec_PulledWay.l0 : Nat → List Int → Int → Int → List Int → Option (List Int × Bool)
  | 0, _, _, _, _ => none
  | k + 1, x1, x6, x293000, x293001 => if x6 < (x1.length : Int) then (if 0 ≤ (wrap64 (x6 - 1)) then (if (wrap64 (x6 - 1)) < (x1.length : Int) then (if 0 ≤ x6 then ((spec_l18Clear.f k x293000 x293001 (rd x1 (wrap64 (x6 - 1))) (rd x1 x6)).bind fun t298 => (if t298 = true then (spec_PulledWay.l0 k x1 (wrap64 (x6 + 1)) x293000 x293001) else (some (([] : List Int), false)))) else (none)) else (none)) else (none)) else (if 0 < (x1.length : Int) then (spec_PulledWay.l1 k x1 (([rd x1 0] : List Int)) 0 x293000 x293001) else (none))
def spec_PulledWay.l1 : Nat → List Int → List Int → Int → Int → List Int → Option (List Int × Bool)
  | 0, _, _, _, _, _ => none
  | k + 1, x1, x7, x8, x293000, x293001 => if x8 < (wrap64 ((x1.length : Int) - 1)) then (spec_PulledWay.l2 k x1 x7 x8 (wrap64 ((x1.length : Int) - 1)) x293000 x293001) else (some (x7, true))
def spec_PulledWay.l2 : Nat → List Int → List Int → Int → Int → Int → List Int → Option (List Int × Bool)
  | 0, _, _, _, _, _, _ => none
  | k + 1, x1, x7, x8, x9, x293000, x293001 => if 0 ≤ x8 then (if x8 < (x1.length : Int) then (if 0 ≤ x9 then (if x9 < (x1.length : Int) then ((spec_l18Clear.f k x293000 x293001 (rd x1 x8) (rd x1 x9)).bind fun t305 => (if t305 = true then (if x7.length < 17592186044416 then (spec_PulledWay.l1 k x1 (x7 ++ [rd x1 x9]) x9 x293000 x293001) else (none)) else (spec_PulledWay.l2 k x1 x7 x8 (wrap64 (x9 - 1)) x293000 x293001))) else (none)) else (none)) else (none)) else (none)
end
def spec_PulledWay.f (k : Nat) (a0_0 : Int) (l0_1 : List Int) (l1 : List Int) : Option (List Int × Bool) := (spec_GoodCells.f k a0_0 l0_1).bind fun t293 => (if t293 = true then (if (l1.length : Int) < 1 then (spec_PulledWay.j0 k l1 true a0_0 l0_1) else (if (l1.length : Int) > 256 then (spec_PulledWay.j0 k l1 true a0_0 l0_1) else (if 0 < (l1.length : Int) then ((spec_l12Free.f a0_0 l0_1 (rd l1 0)).bind fun t295 => (spec_PulledWay.j0 k l1 (!t295) a0_0 l0_1)) else (none)))) else (spec_PulledWay.j0 k l1 true a0_0 l0_1))
theorem spec_PulledWay.mono_l : ∀ k, (∀ y0 y1 y2 y3, LeO (spec_PulledWay.j0 k y0 y1 y2 y3) (spec_PulledWay.j0 (k + 1) y0 y1 y2 y3)) ∧ (∀ y0 y1 y2 y3, LeO (spec_PulledWay.l0 k y0 y1 y2 y3) (spec_PulledWay.l0 (k + 1) y0 y1 y2 y3)) ∧ (∀ y0 y1 y2 y3 y4, LeO (spec_PulledWay.l1 k y0 y1 y2 y3 y4) (spec_PulledWay.l1 (k + 1) y0 y1 y2 y3 y4)) ∧ (∀ y0 y1 y2 y3 y4 y5, LeO (spec_PulledWay.l2 k y0 y1 y2 y3 y4 y5) (spec_PulledWay.l2 (k + 1) y0 y1 y2 y3 y4 y5))
  | 0 => ⟨fun _ _ _ _ r h => by simp [spec_PulledWay.j0] at h, fun _ _ _ _ r h => by simp [spec_PulledWay.l0] at h, fun _ _ _ _ _ r h => by simp [spec_PulledWay.l1] at h, fun _ _ _ _ _ _ r h => by simp [spec_PulledWay.l2] at h⟩
  | k + 1 => by
    obtain ⟨ih0, ih1, ih2, ih3⟩ := spec_PulledWay.mono_l k
    refine ⟨?_, ?_, ?_, ?_⟩
    · intro y0 y1 y2 y3
      unfold spec_PulledWay.j0
      repeat' first | (with_reducible first | exact ih0 _ _ _ _ | exact ih1 _ _ _ _ | exact ih2 _ _ _ _ _ | exact ih3 _ _ _ _ _ _ | exact spec_GoodCells.mono _ _ _ | exact spec_l18Clear.mono _ _ _ _ _ | exact LeO.refl _ | exact LeO.none _ | refine LeO.ite ?_ ?_ | refine LeO.bind ?_ (fun _ => ?_)) | exact ih0 _ _ _ _ | exact ih1 _ _ _ _ | exact ih2 _ _ _ _ _ | exact ih3 _ _ _ _ _ _ | exact spec_GoodCells.mono _ _ _ | exact spec_l18Clear.mono _ _ _ _ _ | exact LeO.none _ | refine LeO.ite ?_ ?_ | refine LeO.bind ?_ (fun _ => ?_)
    · intro y0 y1 y2 y3
      unfold spec_PulledWay.l0
      repeat' first | (with_reducible first | exact ih0 _ _ _ _ | exact ih1 _ _ _ _ | exact ih2 _ _ _ _ _ | exact ih3 _ _ _ _ _ _ | exact spec_GoodCells.mono _ _ _ | exact spec_l18Clear.mono _ _ _ _ _ | exact LeO.refl _ | exact LeO.none _ | refine LeO.ite ?_ ?_ | refine LeO.bind ?_ (fun _ => ?_)) | exact ih0 _ _ _ _ | exact ih1 _ _ _ _ | exact ih2 _ _ _ _ _ | exact ih3 _ _ _ _ _ _ | exact spec_GoodCells.mono _ _ _ | exact spec_l18Clear.mono _ _ _ _ _ | exact LeO.none _ | refine LeO.ite ?_ ?_ | refine LeO.bind ?_ (fun _ => ?_)
    · intro y0 y1 y2 y3 y4
      unfold spec_PulledWay.l1
      repeat' first | (with_reducible first | exact ih0 _ _ _ _ | exact ih1 _ _ _ _ | exact ih2 _ _ _ _ _ | exact ih3 _ _ _ _ _ _ | exact spec_GoodCells.mono _ _ _ | exact spec_l18Clear.mono _ _ _ _ _ | exact LeO.refl _ | exact LeO.none _ | refine LeO.ite ?_ ?_ | refine LeO.bind ?_ (fun _ => ?_)) | exact ih0 _ _ _ _ | exact ih1 _ _ _ _ | exact ih2 _ _ _ _ _ | exact ih3 _ _ _ _ _ _ | exact spec_GoodCells.mono _ _ _ | exact spec_l18Clear.mono _ _ _ _ _ | exact LeO.none _ | refine LeO.ite ?_ ?_ | refine LeO.bind ?_ (fun _ => ?_)
    · intro y0 y1 y2 y3 y4 y5
      unfold spec_PulledWay.l2
      repeat' first | (with_reducible first | exact ih0 _ _ _ _ | exact ih1 _ _ _ _ | exact ih2 _ _ _ _ _ | exact ih3 _ _ _ _ _ _ | exact spec_GoodCells.mono _ _ _ | exact spec_l18Clear.mono _ _ _ _ _ | exact LeO.refl _ | exact LeO.none _ | refine LeO.ite ?_ ?_ | refine LeO.bind ?_ (fun _ => ?_)) | exact ih0 _ _ _ _ | exact ih1 _ _ _ _ | exact ih2 _ _ _ _ _ | exact ih3 _ _ _ _ _ _ | exact spec_GoodCells.mono _ _ _ | exact spec_l18Clear.mono _ _ _ _ _ | exact LeO.none _ | refine LeO.ite ?_ ?_ | refine LeO.bind ?_ (fun _ => ?_)
theorem spec_PulledWay.mono : ∀ a0 a1 a2 k, LeO (spec_PulledWay.f k a0 a1 a2) (spec_PulledWay.f (k + 1) a0 a1 a2) := by
  intro a0 a1 a2 k
  obtain ⟨ih0, ih1, ih2, ih3⟩ := spec_PulledWay.mono_l k
  unfold spec_PulledWay.f
  repeat' first | (with_reducible first | exact ih0 _ _ _ _ | exact ih1 _ _ _ _ | exact ih2 _ _ _ _ _ | exact ih3 _ _ _ _ _ _ | exact spec_GoodCells.mono _ _ _ | exact spec_l18Clear.mono _ _ _ _ _ | exact LeO.refl _ | exact LeO.none _ | refine LeO.ite ?_ ?_ | refine LeO.bind ?_ (fun _ => ?_)) | exact ih0 _ _ _ _ | exact ih1 _ _ _ _ | exact ih2 _ _ _ _ _ | exact ih3 _ _ _ _ _ _ | exact spec_GoodCells.mono _ _ _ | exact spec_l18Clear.mono _ _ _ _ _ | exact LeO.none _ | refine LeO.ite ?_ ?_ | refine LeO.bind ?_ (fun _ => ?_)

/-! ### impl_PulledWay: function 25 -/
mutual
def impl_PulledWay.j0 : Nat → List Int → Bool → Int → List Int → Option (List Int × Bool)
  | 0, _, _, _, _ => none
  | k + 1, x1, x23, x311000, x311001 => if x23 = true then (some (([] : List Int), false)) else (impl_PulledWay.l0 k x1 x1 (x1.length : Int) 0 x311000 x311001)
def impl_PulledWay.l0 : Nat → List Int → List Int → Int → Int → Int → List Int → Option (List Int × Bool)
  | 0, _, _, _, _, _, _ => none
  | k + 1, x1, x24, x25, x26, x311000, x311001 => if x26 < x25 then (if 0 ≤ x26 then (if x26 < (x24.length : Int) then ((impl_Cells_free.f x311000 x311001 (rd x24 x26)).bind fun t313 => (if t313 = true then (if x26 > 0 then (if 0 ≤ (wrap64 (x26 - 1)) then (if (wrap64 (x26 - 1)) < (x1.length : Int) then ((impl_Cells_clear.f x311000 x311001 (rd x1 (wrap64 (x26 - 1))) (rd x24 x26)).bind fun t315 => (if t315 = true then (impl_PulledWay.l0 k x1 x24 x25 (wrap64 (x26 + 1)) x311000 x311001) else (some (([] : List Int), false)))) else (none)) else (none)) else (impl_PulledWay.l0 k x1 x24 x25 (wrap64 (x26 + 1)) x311000 x311001)) else (some (([] : List Int), false)))) else (none)) else (none)) else (if 0 < (x1.length : Int) then (impl_PulledWay.l1 k x1 (([rd x1 0] : List Int)) 0 x311000 x311001) else (none))
def impl_PulledWay.l1 : Nat → List Int → List Int → Int → Int → List Int → Option (List Int × Bool)
  | 0, _, _, _, _, _ => none
  | k + 1, x1, x8, x9, x311000, x311001 => if x9 < (wrap64 ((x1.length : Int) - 1)) then (impl_PulledWay.l2 k x1 x8 x9 (wrap64 ((x1.length : Int) - 1)) x311000 x311001) else (some (x8, true))
def impl_PulledWay.l2 : Nat → List Int → List Int → Int → Int → Int → List Int → Option (List Int × Bool)
  | 0, _, _, _, _, _, _ => none
  | k + 1, x1, x8, x9, x10, x311000, x311001 => if 0 ≤ x9 then (if x9 < (x1.length : Int) then (if 0 ≤ x10 then (if x10 < (x1.length : Int) then ((impl_Cells_clear.f x311000 x311001 (rd x1 x9) (rd x1 x10)).bind fun t322 => (if t322 = true then (if x8.length < 17592186044416 then (impl_PulledWay.l1 k x1 (x8 ++ [rd x1 x10]) x10 x311000 x311001) else (none)) else (impl_PulledWay.l2 k x1 x8 x9 (wrap64 (x10 - 1)) x311000 x311001))) else (none)) else (none)) else (none)) else (none)
end
def impl_PulledWay.f (k : Nat) (a0_0 : Int) (l0_1 : List Int) (l1 : List Int) : Option (List Int × Bool) := (impl_GoodCells.f k a0_0 l0_1).bind fun t311 => (if t311 = true then (if (l1.length : Int) < 1 then (impl_PulledWay.j0 k l1 true a0_0 l0_1) else (impl_PulledWay.j0 k l1 (decide ((l1.length : Int) > 256)) a0_0 l0_1)) else (impl_PulledWay.j0 k l1 true a0_0 l0_1))
theorem impl_PulledWay.mono_l : ∀ k, (∀ y0 y1 y2 y3, LeO (impl_PulledWay.j0 k y0 y1 y2 y3) (impl_PulledWay.j0 (k + 1) y0 y1 y2 y3)) ∧ (∀ y0 y1 y2 y3 y4 y5, LeO (impl_PulledWay.l0 k y0 y1 y2 y3 y4 y5) (impl_PulledWay.l0 (k + 1) y0 y1 y2 y3 y4 y5)) ∧ (∀ y0 y1 y2 y3 y4, LeO (impl_PulledWay.l1 k y0 y1 y2 y3 y4) (impl_PulledWay.l1 (k + 1) y0 y1 y2 y3 y4)) ∧ (∀ y0 y1 y2 y3 y4 y5, LeO (impl_PulledWay.l2 k y0 y1 y2 y3 y4 y5) (impl_PulledWay.l2 (k + 1) y0 y1 y2 y3 y4 y5))
  | 0 => ⟨fun _ _ _ _ r h => by simp [impl_PulledWay.j0] at h, fun _ _ _ _ _ _ r h => by simp [impl_PulledWay.l0] at h, fun _ _ _ _ _ r h => by simp [impl_PulledWay.l1] at h, fun _ _ _ _ _ _ r h => by simp [impl_PulledWay.l2] at h⟩
  | k + 1 => by
    obtain ⟨ih0, ih1, ih2, ih3⟩ := impl_PulledWay.mono_l k
    refine ⟨?_, ?_, ?_, ?_⟩
    · intro y0 y1 y2 y3
      unfold impl_PulledWay.j0
      repeat' first | (with_reducible first | exact ih0 _ _ _ _ | exact ih1 _ _ _ _ _ _ | exact ih2 _ _ _ _ _ | exact ih3 _ _ _ _ _ _ | exact impl_GoodCells.mono _ _ _ | exact LeO.refl _ | exact LeO.none _ | refine LeO.ite ?_ ?_ | refine LeO.bind ?_ (fun _ => ?_)) | exact ih0 _ _ _ _ | exact ih1 _ _ _ _ _ _ | exact ih2 _ _ _ _ _ | exact ih3 _ _ _ _ _ _ | exact impl_GoodCells.mono _ _ _ | exact LeO.none _ | refine LeO.ite ?_ ?_ | refine LeO.bind ?_ (fun _ => ?_)
    · intro y0 y1 y2 y3 y4 y5
      unfold impl_PulledWay.l0
      repeat' first | (with_reducible first | exact ih0 _ _ _ _ | exact ih1 _ _ _ _ _ _ | exact ih2 _ _ _ _ _ | exact ih3 _ _ _ _ _ _ | exact impl_GoodCells.mono _ _ _ | exact LeO.refl _ | exact LeO.none _ | refine LeO.ite ?_ ?_ | refine LeO.bind ?_ (fun _ => ?_)) | exact ih0 _ _ _ _ | exact ih1 _ _ _ _ _ _ | exact ih2 _ _ _ _ _ | exact ih3 _ _ _ _ _ _ | exact impl_GoodCells.mono _ _ _ | exact LeO.none _ | refine LeO.ite ?_ ?_ | refine LeO.bind ?_ (fun _ => ?_)
    · intro y0 y1 y2 y3 y4
      unfold impl_PulledWay.l1
      repeat' first | (with_reducible first | exact ih0 _ _ _ _ | exact ih1 _ _ _ _ _ _ | exact ih2 _ _ _ _ _ | exact ih3 _ _ _ _ _ _ | exact impl_GoodCells.mono _ _ _ | exact LeO.refl _ | exact LeO.none _ | refine LeO.ite ?_ ?_ | refine LeO.bind ?_ (fun _ => ?_)) | exact ih0 _ _ _ _ | exact ih1 _ _ _ _ _ _ | exact ih2 _ _ _ _ _ | exact ih3 _ _ _ _ _ _ | exact impl_GoodCells.mono _ _ _ | exact LeO.none _ | refine LeO.ite ?_ ?_ | refine LeO.bind ?_ (fun _ => ?_)
    · intro y0 y1 y2 y3 y4 y5
      unfold impl_PulledWay.l2
      repeat' first | (with_reducible first | exact ih0 _ _ _ _ | exact ih1 _ _ _ _ _ _ | exact ih2 _ _ _ _ _ | exact ih3 _ _ _ _ _ _ | exact impl_GoodCells.mono _ _ _ | exact LeO.refl _ | exact LeO.none _ | refine LeO.ite ?_ ?_ | refine LeO.bind ?_ (fun _ => ?_)) | exact ih0 _ _ _ _ | exact ih1 _ _ _ _ _ _ | exact ih2 _ _ _ _ _ | exact ih3 _ _ _ _ _ _ | exact impl_GoodCells.mono _ _ _ | exact LeO.none _ | refine LeO.ite ?_ ?_ | refine LeO.bind ?_ (fun _ => ?_)
theorem impl_PulledWay.mono : ∀ a0 a1 a2 k, LeO (impl_PulledWay.f k a0 a1 a2) (impl_PulledWay.f (k + 1) a0 a1 a2) := by
  intro a0 a1 a2 k
  obtain ⟨ih0, ih1, ih2, ih3⟩ := impl_PulledWay.mono_l k
  unfold impl_PulledWay.f
  repeat' first | (with_reducible first | exact ih0 _ _ _ _ | exact ih1 _ _ _ _ _ _ | exact ih2 _ _ _ _ _ | exact ih3 _ _ _ _ _ _ | exact impl_GoodCells.mono _ _ _ | exact LeO.refl _ | exact LeO.none _ | refine LeO.ite ?_ ?_ | refine LeO.bind ?_ (fun _ => ?_)) | exact ih0 _ _ _ _ | exact ih1 _ _ _ _ _ _ | exact ih2 _ _ _ _ _ | exact ih3 _ _ _ _ _ _ | exact impl_GoodCells.mono _ _ _ | exact LeO.none _ | refine LeO.ite ?_ ?_ | refine LeO.bind ?_ (fun _ => ?_)

/-! ### laws_FnExactPulledWay: function 6 -/
mutual
def laws_FnExactPulledWay.j0 : Nat → List Int → List Int → Bool → List Int → List Int → Bool → Bool → Int → List Int → Int → List Int → Option (Bool)
  | 0, _, _, _, _, _, _, _, _, _, _, _ => none
  | k + 1, x1, x6, x7, x9, x10, x11, x51, x328000, x328001, x345000, x345001 => if x51 = true then (some false) else ((laws_toCells.f k x328000 x328001).bind fun bt353 => ((laws_eqCells.f k x345000 x345001 bt353.1 bt353.2).bind fun t357 => (if t357 = true then ((laws_toIntS.f k x1).bind fun t358 => ((laws_eqIntS.f k x9 t358).bind fun t361 => (if t361 = true then ((laws_markCells.f k x345000 x345001 1).bind fun bt362 => ((laws_markIntS.f k x9 bt362.1).bind fun bt364 => (if bt364.1 < 0 then (laws_FnExactPulledWay.j1 k x1 x6 x7 x10 true x328000 x328001) else ((laws_eqIntS.f k x10 x6).bind fun t366 => (if t366 = true then (laws_FnExactPulledWay.j1 k x1 x6 x7 x10 (x11 != x7) x328000 x328001) else (laws_FnExactPulledWay.j1 k x1 x6 x7 x10 true x328000 x328001)))))) else (some false)))) else (some false))))
def laws_FnExactPulledWay.j1 : Nat → List Int → List Int → Bool → List Int → Bool → Int → List Int → Option (Bool)
  | 0, _, _, _, _, _, _, _ => none
  | k + 1, x1, x6, x7, x10, x80, x328000, x328001 => if x80 = true then (some false) else ((laws_markIntS.f k x10 1).bind fun bt367 => ((laws_heldIntS.f k bt367.2 1).bind fun t369 => (if t369 < 0 then (some false) else (if t369 = bt367.1 then ((laws_toCells.f k x328000 x328001).bind fun bt370 => ((laws_toIntS.f k x1).bind fun t374 => ((impl_PulledWay.f k bt370.1 bt370.2 t374).bind fun bt377 => ((laws_eqIntS.f k bt377.1 x6).bind fun t381 => (if t381 = true then (laws_FnExactPulledWay.j2 k bt367.2 bt367.1 (bt377.2 != x7)) else (laws_FnExactPulledWay.j2 k bt367.2 bt367.1 true)))))) else (some false)))))
def laws_FnExactPulledWay.j2 : Nat → List Int → Int → Bool → Option (Bool)
  | 0, _, _, _ => none
  | k + 1, x10, x13, x108 => if x108 = true then (some false) else ((laws_heldIntS.f k x10 1).bind fun t382 => (if t382 < 0 then (some false) else (if t382 = x13 then (some true) else (some false))))
end
def laws_FnExactPulledWay.f (k : Nat) (a0_0 : Int) (l0_1 : List Int) (l1 : List Int) : Option (Bool) := if (l1.length : Int) > 1048576 then (some true) else ((laws_szCells.f a0_0 l0_1 1048576).bind fun t328 => (if t328 < 0 then (some true) else ((laws_toCells.f k a0_0 l0_1).bind fun bt329 => ((laws_toIntS.f k l1).bind fun t333 => ((spec_PulledWay.f k bt329.1 bt329.2 t333).bind fun bt336 => ((laws_toCells.f k a0_0 l0_1).bind fun bt340 => ((laws_toIntS.f k l1).bind fun t345 => ((impl_PulledWay.f k bt340.1 bt340.2 t345).bind fun bt348 => ((laws_eqIntS.f k bt348.1 bt336.1).bind fun t352 => (if t352 = true then (laws_FnExactPulledWay.j0 k l1 bt336.1 bt336.2 t345 bt348.1 bt348.2 (bt348.2 != bt336.2) a0_0 l0_1 bt340.1 bt340.2) else (laws_FnExactPulledWay.j0 k l1 bt336.1 bt336.2 t345 bt348.1 bt348.2 true a0_0 l0_1 bt340.1 bt340.2)))))))))))
theorem laws_FnExactPulledWay.mono_l : ∀ k, (∀ y0 y1 y2 y3 y4 y5 y6 y7 y8 y9 y10, LeO (laws_FnExactPulledWay.j0 k y0 y1 y2 y3 y4 y5 y6 y7 y8 y9 y10) (laws_FnExactPulledWay.j0 (k + 1) y0 y1 y2 y3 y4 y5 y6 y7 y8 y9 y10)) ∧ (∀ y0 y1 y2 y3 y4 y5 y6, LeO (laws_FnExactPulledWay.j1 k y0 y1 y2 y3 y4 y5 y6) (laws_FnExactPulledWay.j1 (k + 1) y0 y1 y2 y3 y4 y5 y6)) ∧ (∀ y0 y1 y2, LeO (laws_FnExactPulledWay.j2 k y0 y1 y2) (laws_FnExactPulledWay.j2 (k + 1) y0 y1 y2))
  | 0 => ⟨fun _ _ _ _ _ _ _ _ _ _ _ r h => by simp [laws_FnExactPulledWay.j0] at h, fun _ _ _ _ _ _ _ r h => by simp [laws_FnExactPulledWay.j1] at h, fun _ _ _ r h => by simp [laws_FnExactPulledWay.j2] at h⟩
  | k + 1 => by
    obtain ⟨ih0, ih1, ih2⟩ := laws_FnExactPulledWay.mono_l k
    refine ⟨?_, ?_, ?_⟩
    · intro y0 y1 y2 y3 y4 y5 y6 y7 y8 y9 y10
      unfold laws_FnExactPulledWay.j0
      repeat' first | (with_reducible first | exact ih0 _ _ _ _ _ _ _ _ _ _ _ | exact ih1 _ _ _ _ _ _ _ | exact ih2 _ _ _ | exact impl_PulledWay.mono _ _ _ _ | exact laws_eqCells.mono _ _ _ _ _ | exact laws_eqIntS.mono _ _ _ | exact laws_heldIntS.mono _ _ _ | exact laws_markCells.mono _ _ _ _ | exact laws_markIntS.mono _ _ _ | exact laws_toCells.mono _ _ _ | exact laws_toIntS.mono _ _ | exact spec_PulledWay.mono _ _ _ _ | exact LeO.refl _ | exact LeO.none _ | refine LeO.ite ?_ ?_ | refine LeO.bind ?_ (fun _ => ?_)) | exact ih0 _ _ _ _ _ _ _ _ _ _ _ | exact ih1 _ _ _ _ _ _ _ | exact ih2 _ _ _ | exact impl_PulledWay.mono _ _ _ _ | exact laws_eqCells.mono _ _ _ _ _ | exact laws_eqIntS.mono _ _ _ | exact laws_heldIntS.mono _ _ _ | exact laws_markCells.mono _ _ _ _ | exact laws_markIntS.mono _ _ _ | exact laws_toCells.mono _ _ _ | exact laws_toIntS.mono _ _ | exact spec_PulledWay.mono _ _ _ _ | exact LeO.none _ | refine LeO.ite ?_ ?_ | refine LeO.bind ?_ (fun _ => ?_)
    · intro y0 y1 y2 y3 y4 y5 y6
      unfold laws_FnExactPulledWay.j1
      repeat' first | (with_reducible first | exact ih0 _ _ _ _ _ _ _ _ _ _ _ | exact ih1 _ _ _ _ _ _ _ | exact ih2 _ _ _ | exact impl_PulledWay.mono _ _ _ _ | exact laws_eqCells.mono _ _ _ _ _ | exact laws_eqIntS.mono _ _ _ | exact laws_heldIntS.mono _ _ _ | exact laws_markCells.mono _ _ _ _ | exact laws_markIntS.mono _ _ _ | exact laws_toCells.mono _ _ _ | exact laws_toIntS.mono _ _ | exact spec_PulledWay.mono _ _ _ _ | exact LeO.refl _ | exact LeO.none _ | refine LeO.ite ?_ ?_ | refine LeO.bind ?_ (fun _ => ?_)) | exact ih0 _ _ _ _ _ _ _ _ _ _ _ | exact ih1 _ _ _ _ _ _ _ | exact ih2 _ _ _ | exact impl_PulledWay.mono _ _ _ _ | exact laws_eqCells.mono _ _ _ _ _ | exact laws_eqIntS.mono _ _ _ | exact laws_heldIntS.mono _ _ _ | exact laws_markCells.mono _ _ _ _ | exact laws_markIntS.mono _ _ _ | exact laws_toCells.mono _ _ _ | exact laws_toIntS.mono _ _ | exact spec_PulledWay.mono _ _ _ _ | exact LeO.none _ | refine LeO.ite ?_ ?_ | refine LeO.bind ?_ (fun _ => ?_)
    · intro y0 y1 y2
      unfold laws_FnExactPulledWay.j2
      repeat' first | (with_reducible first | exact ih0 _ _ _ _ _ _ _ _ _ _ _ | exact ih1 _ _ _ _ _ _ _ | exact ih2 _ _ _ | exact impl_PulledWay.mono _ _ _ _ | exact laws_eqCells.mono _ _ _ _ _ | exact laws_eqIntS.mono _ _ _ | exact laws_heldIntS.mono _ _ _ | exact laws_markCells.mono _ _ _ _ | exact laws_markIntS.mono _ _ _ | exact laws_toCells.mono _ _ _ | exact laws_toIntS.mono _ _ | exact spec_PulledWay.mono _ _ _ _ | exact LeO.refl _ | exact LeO.none _ | refine LeO.ite ?_ ?_ | refine LeO.bind ?_ (fun _ => ?_)) | exact ih0 _ _ _ _ _ _ _ _ _ _ _ | exact ih1 _ _ _ _ _ _ _ | exact ih2 _ _ _ | exact impl_PulledWay.mono _ _ _ _ | exact laws_eqCells.mono _ _ _ _ _ | exact laws_eqIntS.mono _ _ _ | exact laws_heldIntS.mono _ _ _ | exact laws_markCells.mono _ _ _ _ | exact laws_markIntS.mono _ _ _ | exact laws_toCells.mono _ _ _ | exact laws_toIntS.mono _ _ | exact spec_PulledWay.mono _ _ _ _ | exact LeO.none _ | refine LeO.ite ?_ ?_ | refine LeO.bind ?_ (fun _ => ?_)
theorem laws_FnExactPulledWay.mono : ∀ a0 a1 a2 k, LeO (laws_FnExactPulledWay.f k a0 a1 a2) (laws_FnExactPulledWay.f (k + 1) a0 a1 a2) := by
  intro a0 a1 a2 k
  obtain ⟨ih0, ih1, ih2⟩ := laws_FnExactPulledWay.mono_l k
  unfold laws_FnExactPulledWay.f
  repeat' first | (with_reducible first | exact ih0 _ _ _ _ _ _ _ _ _ _ _ | exact ih1 _ _ _ _ _ _ _ | exact ih2 _ _ _ | exact impl_PulledWay.mono _ _ _ _ | exact laws_eqCells.mono _ _ _ _ _ | exact laws_eqIntS.mono _ _ _ | exact laws_heldIntS.mono _ _ _ | exact laws_markCells.mono _ _ _ _ | exact laws_markIntS.mono _ _ _ | exact laws_toCells.mono _ _ _ | exact laws_toIntS.mono _ _ | exact spec_PulledWay.mono _ _ _ _ | exact LeO.refl _ | exact LeO.none _ | refine LeO.ite ?_ ?_ | refine LeO.bind ?_ (fun _ => ?_)) | exact ih0 _ _ _ _ _ _ _ _ _ _ _ | exact ih1 _ _ _ _ _ _ _ | exact ih2 _ _ _ | exact impl_PulledWay.mono _ _ _ _ | exact laws_eqCells.mono _ _ _ _ _ | exact laws_eqIntS.mono _ _ _ | exact laws_heldIntS.mono _ _ _ | exact laws_markCells.mono _ _ _ _ | exact laws_markIntS.mono _ _ _ | exact laws_toCells.mono _ _ _ | exact laws_toIntS.mono _ _ | exact spec_PulledWay.mono _ _ _ _ | exact LeO.none _ | refine LeO.ite ?_ ?_ | refine LeO.bind ?_ (fun _ => ?_)

/-- A state of type 72 at block g of W; what its slices lead to came in by w0. -/
def IsS72 (w0 W : World) (g : Nat) (f0 : List Int) (f1 : Int) (f2 : Int) : Prop := ∃ A0 c0, W.heap[g]? = some (.cells #[.slice A0 f0.length c0, .int .i64 f1, .int .u64 f2] 72 (0, 0)) ∧ w0.heap.size ≤ g ∧ Kd.C (Kd.int .u8) w0 A0 f0.length f0
theorem IsS72.grown {w0 W : World} {g : Nat} {f0 : List Int} {f1 : Int} {f2 : Int} {W1 : World} {row : Option Nat} (h : IsS72 w0 W g f0 f1 f2) (hw : W.grownBy W1 row) (hne : some g ≠ row) : IsS72 w0 W1 g f0 f1 f2 := by
  obtain ⟨A0, c0, hb, hg, hr0⟩ := h
  exact ⟨A0, c0, blk_grown hb hw hne, hg, hr0⟩
theorem IsS72.own_neN {w0 W : World} {g : Nat} {f0 : List Int} {f1 : Int} {f2 : Int} {α : Type} {d : Kd α} {e : Nat} {base : Nat} {ok : Nat → Prop} {v : Value} {xs : List α} (h : IsS72 w0 W g f0 f1 f2) (ho : Kd.N d e W base ok v xs) (ht : e ≠ 72) : some g ≠ v.ownBlock := by
  obtain ⟨A0, c0, hb, hg, hr0⟩ := h
  exact Kd.N_ne ho hb ht
theorem IsS72.fresh {w0 W : World} {g : Nat} {f0 : List Int} {f1 : Int} {f2 : Int} (h : IsS72 w0 W g f0 f1 f2) : ∀ k, W.heap.size ≤ k → k ≠ g := by
  obtain ⟨A0, c0, hb, hg, hr0⟩ := h
  exact Kd.freshB hb
theorem IsS72.kept {w0 W : World} {g : Nat} {f0 : List Int} {f1 : Int} {f2 : Int} {W1 : World} {S : Nat → Prop} (h : IsS72 w0 W g f0 f1 f2) (hk : Kept W W1 S) (hne : ¬ S g) : IsS72 w0 W1 g f0 f1 f2 := by
  obtain ⟨A0, c0, hb, hg, hr0⟩ := h
  exact ⟨A0, c0, blk_kept hb hk hne, hg, hr0⟩
theorem IsS72.below {w0 W : World} {g : Nat} {f0 : List Int} {f1 : Int} {f2 : Int} {W1 : World} (h : IsS72 w0 W g f0 f1 f2) (hw : Below W.heap.size W W1) : IsS72 w0 W1 g f0 f1 f2 := h.grown (grown_of_below hw none) (by simp)
theorem IsS72.alloc {w0 W : World} {g : Nat} {f0 : List Int} {f1 : Int} {f2 : Int} (h : IsS72 w0 W g f0 f1 f2) (o : Obj) : IsS72 w0 (W.alloc o) g f0 f1 f2 := h.below (below_alloc (Below.refl _ _) o)
theorem IsS72.drewN {w0 W : World} {g : Nat} {f0 : List Int} {f1 : Int} {f2 : Int} (h : IsS72 w0 W g f0 f1 f2) (m : Nat) : IsS72 w0 (W.drewN m) g f0 f1 f2 := h
theorem IsS72.drew {w0 W : World} {g : Nat} {f0 : List Int} {f1 : Int} {f2 : Int} (h : IsS72 w0 W g f0 f1 f2) : IsS72 w0 W.drew g f0 f1 f2 := h
theorem IsS72.at_ {w0 W : World} {g : Nat} {f0 : List Int} {f1 : Int} {f2 : Int} {w' : World} {m : Nat} (hq : W.drewN m = w') (h : IsS72 w0 W g f0 f1 f2) : IsS72 w0 w' g f0 f1 f2 := by subst hq; exact IsS72.drewN h m
theorem IsS72.apart {w0 W : World} {g : Nat} {f0 : List Int} {f1 : Int} {f2 : Int} {α : Type} {d : Kd α} {e : Nat} {base : Nat} {ok : Nat → Prop} {v : Value} {xs : List α} (h : IsS72 w0 W g f0 f1 f2) (ho : d.R e W base ok v xs) (ht : ∀ q, q ∈ e :: d.E → q ≠ 72) : d.R e W base (fun k => ok k ∧ k ≠ g) v xs := by
  obtain ⟨A0, c0, hb, hg, hr0⟩ := h
  exact Kd.R_types ho hb ht
theorem IsS72.own_ne {w0 W : World} {g : Nat} {f0 : List Int} {f1 : Int} {f2 : Int} {α : Type} {d : Kd α} {e : Nat} {base : Nat} {ok : Nat → Prop} {v : Value} {xs : List α} (h : IsS72 w0 W g f0 f1 f2) (ho : d.R e W base ok v xs) (ht : e ≠ 72) : some g ≠ v.ownBlock := by
  obtain ⟨A0, c0, hb, hg, hr0⟩ := h
  exact Kd.R_ne ho hb ht
theorem IsS72.apartQ {w0 W : World} {g : Nat} {f0 : List Int} {f1 : Int} {f2 : Int} {α : Type} {d : Kd α} {e : Nat} {base : Nat} {ok : Nat → Prop} {v : Value} {xs : List α} (h : IsS72 w0 W g f0 f1 f2) (ho : d.Q e W base ok v xs) (ht : ∀ q, q ∈ e :: d.E → q ≠ 72) : d.Q e W base (fun k => ok k ∧ k ≠ g) v xs := by
  obtain ⟨A0, c0, hb, hg, hr0⟩ := h
  exact Kd.Q_types ho hb ht
theorem IsS72.own_neQ {w0 W : World} {g : Nat} {f0 : List Int} {f1 : Int} {f2 : Int} {α : Type} {d : Kd α} {e : Nat} {base : Nat} {ok : Nat → Prop} {v : Value} {xs : List α} (h : IsS72 w0 W g f0 f1 f2) (ho : d.Q e W base ok v xs) (ht : e ≠ 72) : some g ≠ v.ownBlock := by
  obtain ⟨A0, c0, hb, hg, hr0⟩ := h
  exact Kd.Q_ne ho hb ht
theorem IsS72.apartS {w0 W : World} {g : Nat} {f0 : List Int} {f1 : Int} {f2 : Int} {α : Type} {d : Kd α} {e : Nat} {base : Nat} {ok : Nat → Prop} {v : Value} {xs : List α} (h : IsS72 w0 W g f0 f1 f2) (ho : d.S e W base ok v xs) (ht : ∀ q, q ∈ e :: d.E → q ≠ 72) : d.S e W base (fun k => ok k ∧ k ≠ g) v xs := by
  obtain ⟨A0, c0, hb, hg, hr0⟩ := h
  exact Kd.S_types ho hb ht
theorem IsS72.own_neS {w0 W : World} {g : Nat} {f0 : List Int} {f1 : Int} {f2 : Int} {α : Type} {d : Kd α} {e : Nat} {base : Nat} {ok : Nat → Prop} {v : Value} {xs : List α} (h : IsS72 w0 W g f0 f1 f2) (ho : d.S e W base ok v xs) (ht : e ≠ 72) : some g ≠ v.ownBlock := by
  obtain ⟨A0, c0, hb, hg, hr0⟩ := h
  exact Kd.S_ne ho hb ht
theorem IsS72.lt {w0 W : World} {g : Nat} {f0 : List Int} {f1 : Int} {f2 : Int} (h : IsS72 w0 W g f0 f1 f2) : g < W.heap.size := by
  obtain ⟨A0, c0, hb, hg, hr0⟩ := h
  exact blk_lt hb
theorem IsS72.ge {w0 W : World} {g : Nat} {f0 : List Int} {f1 : Int} {f2 : Int} (h : IsS72 w0 W g f0 f1 f2) : w0.heap.size ≤ g := by
  obtain ⟨A0, c0, hb, hg, hr0⟩ := h
  exact hg
theorem IsS72.ne_blk {w0 W : World} {g : Nat} {f0 : List Int} {f1 : Int} {f2 : Int} {a : Nat} {cs : Array Value} {t : TypeId} {fr : Nat × Nat} (h : IsS72 w0 W g f0 f1 f2) (hb2 : W.heap[a]? = some (.cells cs t fr)) (ht : t ≠ 72) : g ≠ a := by
  obtain ⟨A0, c0, hb, hg, hr0⟩ := h
  rintro rfl
  rw [hb] at hb2
  injection hb2 with hb2
  injection hb2 with _ ht2
  exact ht ht2.symm
theorem IsS72.far {w0 W : World} {g : Nat} {f0 : List Int} {f1 : Int} {f2 : Int} {p : Addr} (h : IsS72 w0 W g f0 f1 f2) (hne : g ≠ p.block) (u : Value) : IsS72 w0 (W.setCell p u) g f0 f1 f2 := by
  obtain ⟨A0, c0, hb, hg, hr0⟩ := h
  exact ⟨A0, c0, blk_far hb hne u, hg, hr0⟩
theorem cellS72_0 {W : World} {g : Nat} {A0 : Option Addr} {c0 : Nat} {f0 : List Int} {f1 : Int} {f2 : Int} (h : W.heap[g]? = some (.cells #[.slice A0 f0.length c0, .int .i64 f1, .int .u64 f2] 72 (0, 0))) : W.cell? ⟨g, 0, none⟩ = some (.slice A0 f0.length c0) := (blk_cell h 0).trans rfl
theorem cellS72_1 {W : World} {g : Nat} {A0 : Option Addr} {c0 : Nat} {f0 : List Int} {f1 : Int} {f2 : Int} (h : W.heap[g]? = some (.cells #[.slice A0 f0.length c0, .int .i64 f1, .int .u64 f2] 72 (0, 0))) : W.cell? ⟨g, 1, none⟩ = some (.int .i64 f1) := (blk_cell h 1).trans rfl
theorem IsS72.set_1 {w0 W : World} {g : Nat} {f0 : List Int} {f1 : Int} {f2 : Int} (h : IsS72 w0 W g f0 f1 f2) (x : Int) : IsS72 w0 (W.setCell ⟨g, 1, none⟩ (.int .i64 x)) g f0 x f2 := by
  obtain ⟨A0, c0, hb, hg, hr0⟩ := h
  exact ⟨A0, c0, by simpa using blk_set hb 1 (.int .i64 x), hg, hr0⟩
theorem cellS72_2 {W : World} {g : Nat} {A0 : Option Addr} {c0 : Nat} {f0 : List Int} {f1 : Int} {f2 : Int} (h : W.heap[g]? = some (.cells #[.slice A0 f0.length c0, .int .i64 f1, .int .u64 f2] 72 (0, 0))) : W.cell? ⟨g, 2, none⟩ = some (.int .u64 f2) := (blk_cell h 2).trans rfl
theorem IsS72.set_2 {w0 W : World} {g : Nat} {f0 : List Int} {f1 : Int} {f2 : Int} (h : IsS72 w0 W g f0 f1 f2) (x : Int) : IsS72 w0 (W.setCell ⟨g, 2, none⟩ (.int .u64 x)) g f0 f1 x := by
  obtain ⟨A0, c0, hb, hg, hr0⟩ := h
  exact ⟨A0, c0, by simpa using blk_set hb 2 (.int .u64 x), hg, hr0⟩
theorem IsS72.new (w0 W : World) (A0 : Option Addr) (c0 : Nat) (f0 : List Int) (f1 : Int) (f2 : Int) (hB : Below w0.heap.size w0 W) (hr0 : Kd.C (Kd.int .u8) w0 A0 f0.length f0) : IsS72 w0 (W.alloc (.cells #[.slice A0 f0.length c0, .int .i64 f1, .int .u64 f2] 72)) W.heap.size f0 f1 f2 := ⟨A0, c0, by simpa using heap_alloc_new W _, hB.size, hr0⟩

/-! ### spec_l1Cur_next: function 68 -/
def spec_l1Cur_next.f (s0_0 : List Int) (s0_1 : Int) (s0_2 : Int) : Option (Int × Int × Int) := if s0_1 < (s0_0.length : Int) then (if 0 ≤ s0_1 then (if (wrap64 (s0_1 + 1)) ≤ (s0_0.length : Int) then (some (wrap64 (rd s0_0 s0_1), wrap64 (s0_1 + 1), IntKind.u64.wrap ((IntKind.u64.wrap ((IntKind.u64.wrap (s0_2 * 6364136223846793005)) + (IntKind.u64.wrap (wrap64 (rd s0_0 s0_1))))) + 1442695040888963407))) else (some (wrap64 (Go.bits .and .u64 ((IntKind.u64.wrap ((IntKind.u64.wrap ((IntKind.u64.wrap (s0_2 * 6364136223846793005)) + (IntKind.u64.wrap (wrap64 (rd s0_0 s0_1))))) + 1442695040888963407)) / 1099511627776) 255), wrap64 (s0_1 + 1), IntKind.u64.wrap ((IntKind.u64.wrap ((IntKind.u64.wrap (s0_2 * 6364136223846793005)) + (IntKind.u64.wrap (wrap64 (rd s0_0 s0_1))))) + 1442695040888963407)))) else (none)) else (if (wrap64 (s0_1 + 1)) ≤ (s0_0.length : Int) then (some (0, wrap64 (s0_1 + 1), IntKind.u64.wrap ((IntKind.u64.wrap ((IntKind.u64.wrap (s0_2 * 6364136223846793005)) + 0)) + 1442695040888963407))) else (some (wrap64 (Go.bits .and .u64 ((IntKind.u64.wrap ((IntKind.u64.wrap ((IntKind.u64.wrap (s0_2 * 6364136223846793005)) + 0)) + 1442695040888963407)) / 1099511627776) 255), wrap64 (s0_1 + 1), IntKind.u64.wrap ((IntKind.u64.wrap ((IntKind.u64.wrap (s0_2 * 6364136223846793005)) + 0)) + 1442695040888963407))))

/-! ### spec_l1Cur_pick: function 62 -/
def spec_l1Cur_pick.f (s0_0 : List Int) (s0_1 : Int) (s0_2 : Int) (a1 : Int) : Option (Int × Int × Int) := if a1 ≤ 1 then (some (0, s0_1, s0_2)) else ((spec_l1Cur_next.f s0_0 s0_1 s0_2).bind fun bt384 => (if a1 > 200 then ((spec_l1Cur_next.f s0_0 bt384.2.1 bt384.2.2).bind fun bt387 => (if a1 = 0 then (none) else (some (Int.tmod (wrap64 ((wrap64 (bt384.1 * 256)) + bt387.1)) a1, bt387.2.1, bt387.2.2)))) else (if a1 = 0 then (none) else (some (Int.tmod bt384.1 a1, bt384.2.1, bt384.2.2)))))

/-! ### spec_l1Cur_one: function 61 -/
def spec_l1Cur_one.f (s0_0 : List Int) (s0_1 : Int) (s0_2 : Int) (a1 : Int) : Option (Bool × Int × Int) := (spec_l1Cur_pick.f s0_0 s0_1 s0_2 a1).bind fun bt390 => (some ((bt390.1 == 0), bt390.2.1, bt390.2.2))

/-! ### spec_l1Cur_among: function 67 -/
def spec_l1Cur_among.f (s0_0 : List Int) (s0_1 : Int) (s0_2 : Int) (l1 : List Int) : Option (Int × Int × Int) := (spec_l1Cur_pick.f s0_0 s0_1 s0_2 (l1.length : Int)).bind fun bt393 => (if 0 ≤ bt393.1 then (if bt393.1 < (l1.length : Int) then (some (rd l1 bt393.1, bt393.2.1, bt393.2.2)) else (none)) else (none))

/-! ### spec_l1Cur_extent: function 66 -/
def spec_l1Cur_extent.f (s0_0 : List Int) (s0_1 : Int) (s0_2 : Int) : Option (Int × Int × Int × Int) := (spec_l1Cur_one.f s0_0 s0_1 s0_2 12).bind fun bt397 => (if bt397.1 = true then ((spec_l1Cur_among.f s0_0 bt397.2.1 bt397.2.2 (([16, 1, 17, 0] : List Int))).bind fun bt403 => ((spec_l1Cur_among.f s0_0 bt403.2.1 bt403.2.2 (([16, 1, 0, 17] : List Int))).bind fun bt409 => (some (bt403.1, bt409.1, bt409.2.1, bt409.2.2)))) else ((spec_l1Cur_pick.f s0_0 bt397.2.1 bt397.2.2 6).bind fun bt412 => ((spec_l1Cur_pick.f s0_0 bt412.2.1 bt412.2.2 6).bind fun bt415 => (some (wrap64 (1 + bt412.1), wrap64 (1 + bt415.1), bt415.2.1, bt415.2.2)))))

/-! ### spec_l1Cur_cells: function 59 -/
mutual
def spec_l1Cur_cells.l0 : Nat → Int → Int → Int → Int → List Int → Int → Int → Int → List Int → Option (Int × List Int × Int × Int)
  | 0, _, _, _, _, _, _, _, _, _ => none
  | k + 1, x3, x4, x6, x7, x1000, x1001, x1002, x424000, x424001 => if x7 < (wrap64 (x3 * x4)) then ((spec_l1Cur_pick.f x1000 x1001 x1002 10).bind fun bt427 => (if bt427.1 < x6 then ((spec_l1Cur_one.f x1000 bt427.2.1 bt427.2.2 20).bind fun bt430 => (if bt430.1 = true then (if x424001.length < 17592186044416 then (spec_l1Cur_cells.l0 k x3 x4 x6 (wrap64 (x7 + 1)) x1000 bt430.2.1 bt430.2.2 x424000 (x424001 ++ [2])) else (none)) else (if x424001.length < 17592186044416 then (spec_l1Cur_cells.l0 k x3 x4 x6 (wrap64 (x7 + 1)) x1000 bt430.2.1 bt430.2.2 x424000 (x424001 ++ [1])) else (none)))) else ((spec_l1Cur_one.f x1000 bt427.2.1 bt427.2.2 20).bind fun bt439 => (if bt439.1 = true then (if x424001.length < 17592186044416 then (spec_l1Cur_cells.l0 k x3 x4 x6 (wrap64 (x7 + 1)) x1000 bt439.2.1 bt439.2.2 x424000 (x424001 ++ [2])) else (none)) else (if x424001.length < 17592186044416 then (spec_l1Cur_cells.l0 k x3 x4 x6 (wrap64 (x7 + 1)) x1000 bt439.2.1 bt439.2.2 x424000 (x424001 ++ [0])) else (none)))))) else ((spec_l1Cur_one.f x1000 x1001 x1002 24).bind fun bt448 => (if bt448.1 = true then (spec_l1Cur_cells.j1 k (decide ((x424001.length : Int) > 0)) x1000 bt448.2.1 bt448.2.2 x424000 x424001) else (spec_l1Cur_cells.j1 k false x1000 bt448.2.1 bt448.2.2 x424000 x424001)))
def spec_l1Cur_cells.j1 : Nat → Bool → List Int → Int → Int → Int → List Int → Option (Int × List Int × Int × Int)
  | 0, _, _, _, _, _, _ => none
  | k + 1, x44, x1000, x1001, x1002, x424000, x424001 => if x44 = true then ((spec_l1Cur_among.f x1000 x1001 x1002 (([(-1), 3] : List Int))).bind fun bt454 => (if 0 < (x424001.length : Int) then ((some (x424001.set (0 : Int).toNat bt454.1 : List Int)).bind fun y457 => ((spec_l1Cur_one.f x1000 bt454.2.1 bt454.2.2 30).bind fun bt458 => (if bt458.1 = true then (if y457.length < 17592186044416 then (some (x424000, (y457 ++ [0]), bt458.2.1, bt458.2.2)) else (none)) else (some (x424000, y457, bt458.2.1, bt458.2.2))))) else (none))) else ((spec_l1Cur_one.f x1000 x1001 x1002 30).bind fun bt464 => (if bt464.1 = true then (if x424001.length < 17592186044416 then (some (x424000, (x424001 ++ [0]), bt464.2.1, bt464.2.2)) else (none)) else (some (x424000, x424001, bt464.2.1, bt464.2.2))))
end
def spec_l1Cur_cells.f (k : Nat) (s0_0 : List Int) (s0_1 : Int) (s0_2 : Int) : Option (Int × List Int × Int × Int) := (spec_l1Cur_extent.f s0_0 s0_1 s0_2).bind fun bt419 => ((spec_l1Cur_pick.f s0_0 bt419.2.2.1 bt419.2.2.2 5).bind fun bt424 => (spec_l1Cur_cells.l0 k bt419.1 bt419.2.1 bt424.1 0 s0_0 bt424.2.1 bt424.2.2 bt419.1 ([] : List Int)))
theorem spec_l1Cur_cells.mono_l : ∀ k, (∀ y0 y1 y2 y3 y4 y5 y6 y7 y8, LeO (spec_l1Cur_cells.l0 k y0 y1 y2 y3 y4 y5 y6 y7 y8) (spec_l1Cur_cells.l0 (k + 1) y0 y1 y2 y3 y4 y5 y6 y7 y8)) ∧ (∀ y0 y1 y2 y3 y4 y5, LeO (spec_l1Cur_cells.j1 k y0 y1 y2 y3 y4 y5) (spec_l1Cur_cells.j1 (k + 1) y0 y1 y2 y3 y4 y5))
  | 0 => ⟨fun _ _ _ _ _ _ _ _ _ r h => by simp [spec_l1Cur_cells.l0] at h, fun _ _ _ _ _ _ r h => by simp [spec_l1Cur_cells.j1] at h⟩
  | k + 1 => by
    obtain ⟨ih0, ih1⟩ := spec_l1Cur_cells.mono_l k
    refine ⟨?_, ?_⟩
    · intro y0 y1 y2 y3 y4 y5 y6 y7 y8
      unfold spec_l1Cur_cells.l0
      repeat' first | (with_reducible first | exact ih0 _ _ _ _ _ _ _ _ _ | exact ih1 _ _ _ _ _ _ | exact LeO.refl _ | exact LeO.none _ | refine LeO.ite ?_ ?_ | refine LeO.bind ?_ (fun _ => ?_)) | exact ih0 _ _ _ _ _ _ _ _ _ | exact ih1 _ _ _ _ _ _ | exact LeO.none _ | refine LeO.ite ?_ ?_ | refine LeO.bind ?_ (fun _ => ?_)
    · intro y0 y1 y2 y3 y4 y5
      unfold spec_l1Cur_cells.j1
      repeat' first | (with_reducible first | exact ih0 _ _ _ _ _ _ _ _ _ | exact ih1 _ _ _ _ _ _ | exact LeO.refl _ | exact LeO.none _ | refine LeO.ite ?_ ?_ | refine LeO.bind ?_ (fun _ => ?_)) | exact ih0 _ _ _ _ _ _ _ _ _ | exact ih1 _ _ _ _ _ _ | exact LeO.none _ | refine LeO.ite ?_ ?_ | refine LeO.bind ?_ (fun _ => ?_)
theorem spec_l1Cur_cells.mono : ∀ a0 a1 a2 k, LeO (spec_l1Cur_cells.f k a0 a1 a2) (spec_l1Cur_cells.f (k + 1) a0 a1 a2) := by
  intro a0 a1 a2 k
  obtain ⟨ih0, ih1⟩ := spec_l1Cur_cells.mono_l k
  unfold spec_l1Cur_cells.f
  repeat' first | (with_reducible first | exact ih0 _ _ _ _ _ _ _ _ _ | exact ih1 _ _ _ _ _ _ | exact LeO.refl _ | exact LeO.none _ | refine LeO.ite ?_ ?_ | refine LeO.bind ?_ (fun _ => ?_)) | exact ih0 _ _ _ _ _ _ _ _ _ | exact ih1 _ _ _ _ _ _ | exact LeO.none _ | refine LeO.ite ?_ ?_ | refine LeO.bind ?_ (fun _ => ?_)

/-! ### spec_AllPlaces: function 60 -/
def spec_AllPlaces.l0 : Nat → List Int → Int → Int → Int → List Int → Option (List Int)
  | 0, _, _, _, _, _ => none
  | k + 1, x3, x10, x11, x471000, x471001 => if x11 < x10 then (if 0 ≤ x11 then (if x11 < (x471001.length : Int) then (if (rd x471001 x11) = 0 then (if x3.length < 17592186044416 then (spec_AllPlaces.l0 k (x3 ++ [x11]) x10 (wrap64 (x11 + 1)) x471000 x471001) else (none)) else (spec_AllPlaces.l0 k x3 x10 (wrap64 (x11 + 1)) x471000 x471001)) else (none)) else (none)) else (some x3)
def spec_AllPlaces.f (k : Nat) (a0_0 : Int) (l0_1 : List Int) : Option (List Int) := (spec_GoodCells.f k a0_0 l0_1).bind fun t471 => (if t471 = true then (spec_AllPlaces.l0 k ([] : List Int) (l0_1.length : Int) 0 a0_0 l0_1) else (some ([] : List Int)))
theorem spec_AllPlaces.mono_l : ∀ k, (∀ y0 y1 y2 y3 y4, LeO (spec_AllPlaces.l0 k y0 y1 y2 y3 y4) (spec_AllPlaces.l0 (k + 1) y0 y1 y2 y3 y4))
  | 0 => fun _ _ _ _ _ r h => by simp [spec_AllPlaces.l0] at h
  | k + 1 => by
    have ih0 := spec_AllPlaces.mono_l k
    · intro y0 y1 y2 y3 y4
      unfold spec_AllPlaces.l0
      repeat' first | (with_reducible first | exact ih0 _ _ _ _ _ | exact spec_GoodCells.mono _ _ _ | exact LeO.refl _ | exact LeO.none _ | refine LeO.ite ?_ ?_ | refine LeO.bind ?_ (fun _ => ?_)) | exact ih0 _ _ _ _ _ | exact spec_GoodCells.mono _ _ _ | exact LeO.none _ | refine LeO.ite ?_ ?_ | refine LeO.bind ?_ (fun _ => ?_)
theorem spec_AllPlaces.mono : ∀ a0 a1 k, LeO (spec_AllPlaces.f k a0 a1) (spec_AllPlaces.f (k + 1) a0 a1) := by
  intro a0 a1 k
  have ih0 := spec_AllPlaces.mono_l k
  unfold spec_AllPlaces.f
  repeat' first | (with_reducible first | exact ih0 _ _ _ _ _ | exact spec_GoodCells.mono _ _ _ | exact LeO.refl _ | exact LeO.none _ | refine LeO.ite ?_ ?_ | refine LeO.bind ?_ (fun _ => ?_)) | exact ih0 _ _ _ _ _ | exact spec_GoodCells.mono _ _ _ | exact LeO.none _ | refine LeO.ite ?_ ?_ | refine LeO.bind ?_ (fun _ => ?_)

/-! ### spec_l1Cur_ends: function 46 -/
def spec_l1Cur_ends.j0 : Nat → List Int → Bool → List Int → Int → Int → Int → List Int → Option (Int × List Int × Int × Int × Int × Int)
  | 0, _, _, _, _, _, _, _ => none
  | k + 1, x6, x17, x1000, x1001, x1002, x484000, x484001 => if x17 = true then ((spec_l1Cur_pick.f x1000 x1001 x1002 (wrap64 ((x484001.length : Int) + 1))).bind fun bt490 => ((spec_l1Cur_pick.f x1000 bt490.2.1 bt490.2.2 (wrap64 ((x484001.length : Int) + 1))).bind fun bt493 => (some (x484000, x484001, bt490.1, wrap64 (bt493.1 - 1), bt493.2.1, bt493.2.2)))) else ((spec_l1Cur_pick.f x1000 x1001 x1002 (x6.length : Int)).bind fun bt496 => (if 0 ≤ bt496.1 then (if bt496.1 < (x6.length : Int) then ((spec_l1Cur_pick.f x1000 bt496.2.1 bt496.2.2 (x6.length : Int)).bind fun bt500 => (if 0 ≤ bt500.1 then (if bt500.1 < (x6.length : Int) then (some (x484000, x484001, rd x6 bt496.1, rd x6 bt500.1, bt500.2.1, bt500.2.2)) else (none)) else (none))) else (none)) else (none)))
def spec_l1Cur_ends.f (k : Nat) (s0_0 : List Int) (s0_1 : Int) (s0_2 : Int) : Option (Int × List Int × Int × Int × Int × Int) := (spec_l1Cur_cells.f k s0_0 s0_1 s0_2).bind fun bt477 => ((spec_AllPlaces.f k bt477.1 bt477.2.1).bind fun t484 => (if (t484.length : Int) = 0 then (spec_l1Cur_ends.j0 k t484 true s0_0 bt477.2.2.1 bt477.2.2.2 bt477.1 bt477.2.1) else ((spec_l1Cur_one.f s0_0 bt477.2.2.1 bt477.2.2.2 16).bind fun bt487 => (spec_l1Cur_ends.j0 k t484 bt487.1 s0_0 bt487.2.1 bt487.2.2 bt477.1 bt477.2.1))))
theorem spec_l1Cur_ends.mono_l : ∀ k, (∀ y0 y1 y2 y3 y4 y5 y6, LeO (spec_l1Cur_ends.j0 k y0 y1 y2 y3 y4 y5 y6) (spec_l1Cur_ends.j0 (k + 1) y0 y1 y2 y3 y4 y5 y6))
  | 0 => fun _ _ _ _ _ _ _ r h => by simp [spec_l1Cur_ends.j0] at h
  | k + 1 => by
    have ih0 := spec_l1Cur_ends.mono_l k
    · intro y0 y1 y2 y3 y4 y5 y6
      unfold spec_l1Cur_ends.j0
      repeat' first | (with_reducible first | exact ih0 _ _ _ _ _ _ _ | exact spec_AllPlaces.mono _ _ _ | exact spec_l1Cur_cells.mono _ _ _ _ | exact LeO.refl _ | exact LeO.none _ | refine LeO.ite ?_ ?_ | refine LeO.bind ?_ (fun _ => ?_)) | exact ih0 _ _ _ _ _ _ _ | exact spec_AllPlaces.mono _ _ _ | exact spec_l1Cur_cells.mono _ _ _ _ | exact LeO.none _ | refine LeO.ite ?_ ?_ | refine LeO.bind ?_ (fun _ => ?_)
theorem spec_l1Cur_ends.mono : ∀ a0 a1 a2 k, LeO (spec_l1Cur_ends.f k a0 a1 a2) (spec_l1Cur_ends.f (k + 1) a0 a1 a2) := by
  intro a0 a1 a2 k
  have ih0 := spec_l1Cur_ends.mono_l k
  unfold spec_l1Cur_ends.f
  repeat' first | (with_reducible first | exact ih0 _ _ _ _ _ _ _ | exact spec_AllPlaces.mono _ _ _ | exact spec_l1Cur_cells.mono _ _ _ _ | exact LeO.refl _ | exact LeO.none _ | refine LeO.ite ?_ ?_ | refine LeO.bind ?_ (fun _ => ?_)) | exact ih0 _ _ _ _ _ _ _ | exact spec_AllPlaces.mono _ _ _ | exact spec_l1Cur_cells.mono _ _ _ _ | exact LeO.none _ | refine LeO.ite ?_ ?_ | refine LeO.bind ?_ (fun _ => ?_)

/-! ### laws_zRising: function 27 -/
def laws_zRising.l0 : Nat → List Int → Int → Option (Bool)
  | 0, _, _ => none
  | k + 1, x0, x3 => if x3 < (x0.length : Int) then (if 0 ≤ x3 then (if 0 ≤ (wrap64 (x3 - 1)) then (if (wrap64 (x3 - 1)) < (x0.length : Int) then (if (rd x0 x3) ≤ (rd x0 (wrap64 (x3 - 1))) then (some false) else (laws_zRising.l0 k x0 (wrap64 (x3 + 1)))) else (none)) else (none)) else (none)) else (some true)
def laws_zRising.f (k : Nat) (l0 : List Int) : Option (Bool) := laws_zRising.l0 k l0 1
theorem laws_zRising.mono_l : ∀ k, (∀ y0 y1, LeO (laws_zRising.l0 k y0 y1) (laws_zRising.l0 (k + 1) y0 y1))
  | 0 => fun _ _ r h => by simp [laws_zRising.l0] at h
  | k + 1 => by
    have ih0 := laws_zRising.mono_l k
    · intro y0 y1
      unfold laws_zRising.l0
      repeat' first | (with_reducible first | exact ih0 _ _ | exact LeO.refl _ | exact LeO.none _ | refine LeO.ite ?_ ?_ | refine LeO.bind ?_ (fun _ => ?_)) | exact ih0 _ _ | exact LeO.none _ | refine LeO.ite ?_ ?_ | refine LeO.bind ?_ (fun _ => ?_)
theorem laws_zRising.mono : ∀ a0 k, LeO (laws_zRising.f k a0) (laws_zRising.f (k + 1) a0) := by
  intro a0 k
  have ih0 := laws_zRising.mono_l k
  unfold laws_zRising.f
  repeat' first | (with_reducible first | exact ih0 _ _ | exact LeO.refl _ | exact LeO.none _ | refine LeO.ite ?_ ?_ | refine LeO.bind ?_ (fun _ => ?_)) | exact ih0 _ _ | exact LeO.none _ | refine LeO.ite ?_ ?_ | refine LeO.bind ?_ (fun _ => ?_)

/-! ### laws_zIn: function 29 -/
def laws_zIn.l0 : Nat → Int → List Int → Int → Int → Option (Bool)
  | 0, _, _, _, _ => none
  | k + 1, x1, x7, x8, x9 => if x9 < x8 then (if 0 ≤ x9 then (if x9 < (x7.length : Int) then (if (rd x7 x9) = x1 then (some true) else (laws_zIn.l0 k x1 x7 x8 (wrap64 (x9 + 1)))) else (none)) else (none)) else (some false)
def laws_zIn.f (k : Nat) (l0 : List Int) (a1 : Int) : Option (Bool) := laws_zIn.l0 k a1 l0 (l0.length : Int) 0
theorem laws_zIn.mono_l : ∀ k, (∀ y0 y1 y2 y3, LeO (laws_zIn.l0 k y0 y1 y2 y3) (laws_zIn.l0 (k + 1) y0 y1 y2 y3))
  | 0 => fun _ _ _ _ r h => by simp [laws_zIn.l0] at h
  | k + 1 => by
    have ih0 := laws_zIn.mono_l k
    · intro y0 y1 y2 y3
      unfold laws_zIn.l0
      repeat' first | (with_reducible first | exact ih0 _ _ _ _ | exact LeO.refl _ | exact LeO.none _ | refine LeO.ite ?_ ?_ | refine LeO.bind ?_ (fun _ => ?_)) | exact ih0 _ _ _ _ | exact LeO.none _ | refine LeO.ite ?_ ?_ | refine LeO.bind ?_ (fun _ => ?_)
theorem laws_zIn.mono : ∀ a0 a1 k, LeO (laws_zIn.f k a0 a1) (laws_zIn.f (k + 1) a0 a1) := by
  intro a0 a1 k
  have ih0 := laws_zIn.mono_l k
  unfold laws_zIn.f
  repeat' first | (with_reducible first | exact ih0 _ _ _ _ | exact LeO.refl _ | exact LeO.none _ | refine LeO.ite ?_ ?_ | refine LeO.bind ?_ (fun _ => ?_)) | exact ih0 _ _ _ _ | exact LeO.none _ | refine LeO.ite ?_ ?_ | refine LeO.bind ?_ (fun _ => ?_)

/-! ### spec_l12Has: function 63 -/
def spec_l12Has.f (a0 : Int) (a1 : Int) (a2 : Int) (a3 : Int) : Option (Bool) := if a2 ≥ 0 then (if a2 < a0 then (if a3 ≥ 0 then (if a0 = 0 then (none) else (some (decide (a3 < (wrap64 (Int.tdiv a1 a0)))))) else (some false)) else (some false)) else (some false)

/-! ### spec_l18Around: function 49 -/
mutual
def spec_l18Around.l0 : Nat → Int → List Int → Int → Int → List Int → Option (List Int)
  | 0, _, _, _, _, _ => none
  | k + 1, x1, x5, x6, x519000, x519001 => if x6 ≤ 1 then (spec_l18Around.l1 k x1 x5 x6 (-1) x519000 x519001) else (some x5)
def spec_l18Around.l1 : Nat → Int → List Int → Int → Int → Int → List Int → Option (List Int)
  | 0, _, _, _, _, _, _ => none
  | k + 1, x1, x5, x6, x7, x519000, x519001 => if x7 ≤ 1 then (if x519000 = 0 then (none) else ((spec_l12Has.f x519000 (x519001.length : Int) (wrap64 ((Int.tmod x1 x519000) + x7)) (wrap64 ((wrap64 (Int.tdiv x1 x519000)) + x6))).bind fun t519 => (if t519 = true then (if x7 = 0 then (if x6 = 0 then (spec_l18Around.l1 k x1 x5 x6 (wrap64 (x7 + 1)) x519000 x519001) else (if x5.length < 17592186044416 then (spec_l18Around.l1 k x1 (x5 ++ [wrap64 ((wrap64 ((wrap64 ((wrap64 (Int.tdiv x1 x519000)) + x6)) * x519000)) + (wrap64 ((Int.tmod x1 x519000) + x7)))]) x6 (wrap64 (x7 + 1)) x519000 x519001) else (none))) else (if x5.length < 17592186044416 then (spec_l18Around.l1 k x1 (x5 ++ [wrap64 ((wrap64 ((wrap64 ((wrap64 (Int.tdiv x1 x519000)) + x6)) * x519000)) + (wrap64 ((Int.tmod x1 x519000) + x7)))]) x6 (wrap64 (x7 + 1)) x519000 x519001) else (none))) else (spec_l18Around.l1 k x1 x5 x6 (wrap64 (x7 + 1)) x519000 x519001)))) else (spec_l18Around.l0 k x1 x5 (wrap64 (x6 + 1)) x519000 x519001)
end
def spec_l18Around.f (k : Nat) (a0_0 : Int) (l0_1 : List Int) (a1 : Int) : Option (List Int) := spec_l18Around.l0 k a1 ([] : List Int) (-1) a0_0 l0_1
theorem spec_l18Around.mono_l : ∀ k, (∀ y0 y1 y2 y3 y4, LeO (spec_l18Around.l0 k y0 y1 y2 y3 y4) (spec_l18Around.l0 (k + 1) y0 y1 y2 y3 y4)) ∧ (∀ y0 y1 y2 y3 y4 y5, LeO (spec_l18Around.l1 k y0 y1 y2 y3 y4 y5) (spec_l18Around.l1 (k + 1) y0 y1 y2 y3 y4 y5))
  | 0 => ⟨fun _ _ _ _ _ r h => by simp [spec_l18Around.l0] at h, fun _ _ _ _ _ _ r h => by simp [spec_l18Around.l1] at h⟩
  | k + 1 => by
    obtain ⟨ih0, ih1⟩ := spec_l18Around.mono_l k
    refine ⟨?_, ?_⟩
    · intro y0 y1 y2 y3 y4
      unfold spec_l18Around.l0
      repeat' first | (with_reducible first | exact ih0 _ _ _ _ _ | exact ih1 _ _ _ _ _ _ | exact LeO.refl _ | exact LeO.none _ | refine LeO.ite ?_ ?_ | refine LeO.bind ?_ (fun _ => ?_)) | exact ih0 _ _ _ _ _ | exact ih1 _ _ _ _ _ _ | exact LeO.none _ | refine LeO.ite ?_ ?_ | refine LeO.bind ?_ (fun _ => ?_)
    · intro y0 y1 y2 y3 y4 y5
      unfold spec_l18Around.l1
      repeat' first | (with_reducible first | exact ih0 _ _ _ _ _ | exact ih1 _ _ _ _ _ _ | exact LeO.refl _ | exact LeO.none _ | refine LeO.ite ?_ ?_ | refine LeO.bind ?_ (fun _ => ?_)) | exact ih0 _ _ _ _ _ | exact ih1 _ _ _ _ _ _ | exact LeO.none _ | refine LeO.ite ?_ ?_ | refine LeO.bind ?_ (fun _ => ?_)
theorem spec_l18Around.mono : ∀ a0 a1 a2 k, LeO (spec_l18Around.f k a0 a1 a2) (spec_l18Around.f (k + 1) a0 a1 a2) := by
  intro a0 a1 a2 k
  obtain ⟨ih0, ih1⟩ := spec_l18Around.mono_l k
  unfold spec_l18Around.f
  repeat' first | (with_reducible first | exact ih0 _ _ _ _ _ | exact ih1 _ _ _ _ _ _ | exact LeO.refl _ | exact LeO.none _ | refine LeO.ite ?_ ?_ | refine LeO.bind ?_ (fun _ => ?_)) | exact ih0 _ _ _ _ _ | exact ih1 _ _ _ _ _ _ | exact LeO.none _ | refine LeO.ite ?_ ?_ | refine LeO.bind ?_ (fun _ => ?_)

/-! ### spec_l18Sign: function 64 -/
def spec_l18Sign.f (a0 : Int) : Option (Int) := if a0 < 0 then (some (-1)) else (if a0 > 0 then (some 1) else (some 0))

/-! ### spec_l18Cmp: function 50 -/
def spec_l18Cmp.j0 : Nat → Int → Int → Bool → Option (Int)
  | 0, _, _, _ => none
  | k + 1, x0, x1, x13 => if x13 = true then ((spec_l18Sign.f x0).bind fun t528 => (some t528)) else (if x0 = 0 then ((spec_l18Sign.f x1).bind fun t529 => (some t529)) else (if (wrap64 (x0 * x0)) > (wrap64 ((wrap64 (2 * x1)) * x1)) then ((spec_l18Sign.f x0).bind fun t530 => (some t530)) else ((spec_l18Sign.f x1).bind fun t531 => (some t531))))
def spec_l18Cmp.f (k : Nat) (a0 : Int) (a1 : Int) : Option (Int) := (spec_l18Sign.f a0).bind fun t526 => ((spec_l18Sign.f a1).bind fun t527 => (if t526 = t527 then (spec_l18Cmp.j0 k a0 a1 true) else (spec_l18Cmp.j0 k a0 a1 (a1 == 0))))
theorem spec_l18Cmp.mono_l : ∀ k, (∀ y0 y1 y2, LeO (spec_l18Cmp.j0 k y0 y1 y2) (spec_l18Cmp.j0 (k + 1) y0 y1 y2))
  | 0 => fun _ _ _ r h => by simp [spec_l18Cmp.j0] at h
  | k + 1 => by
    have ih0 := spec_l18Cmp.mono_l k
    · intro y0 y1 y2
      unfold spec_l18Cmp.j0
      repeat' first | (with_reducible first | exact ih0 _ _ _ | exact LeO.refl _ | exact LeO.none _ | refine LeO.ite ?_ ?_ | refine LeO.bind ?_ (fun _ => ?_)) | exact ih0 _ _ _ | exact LeO.none _ | refine LeO.ite ?_ ?_ | refine LeO.bind ?_ (fun _ => ?_)
theorem spec_l18Cmp.mono : ∀ a0 a1 k, LeO (spec_l18Cmp.f k a0 a1) (spec_l18Cmp.f (k + 1) a0 a1) := by
  intro a0 a1 k
  have ih0 := spec_l18Cmp.mono_l k
  unfold spec_l18Cmp.f
  repeat' first | (with_reducible first | exact ih0 _ _ _ | exact LeO.refl _ | exact LeO.none _ | refine LeO.ite ?_ ?_ | refine LeO.bind ?_ (fun _ => ?_)) | exact ih0 _ _ _ | exact LeO.none _ | refine LeO.ite ?_ ?_ | refine LeO.bind ?_ (fun _ => ?_)

/-! ### impl_sign: function 65 -/
def impl_sign.f (a0 : Int) : Option (Int) := if a0 < 0 then (some (-1)) else (if a0 > 0 then (some 1) else (some 0))

/-! ### impl_cmpCost: function 51 -/
def impl_cmpCost.f (a0 : Int) (a1 : Int) : Option (Int) := (impl_sign.f a0).bind fun t583 => ((impl_sign.f a1).bind fun t584 => (if (wrap64 (t583 * t584)) ≥ 0 then ((impl_sign.f (wrap64 (a0 + a1))).bind fun t585 => (some t585)) else ((impl_sign.f a0).bind fun t586 => ((impl_sign.f (wrap64 ((wrap64 (a0 * a0)) - (wrap64 ((wrap64 (2 * a1)) * a1))))).bind fun t587 => (some (wrap64 (t586 * t587)))))))

/-! ### impl_Cells_around: function 52 -/
mutual
def impl_Cells_around.l0 : Nat → Int → List Int → List (S66) → Int → Int → List Int → Option (List Int × (List (S66)))
  | 0, _, _, _, _, _, _ => none
  | k + 1, x1, x6, x7, x8, x589000, x589001 => if x8 ≤ 1 then (impl_Cells_around.l1 k x1 x6 x7 x8 (-1) x589000 x589001) else (some (x6, x7))
def impl_Cells_around.l1 : Nat → Int → List Int → List (S66) → Int → Int → Int → List Int → Option (List Int × (List (S66)))
  | 0, _, _, _, _, _, _, _ => none
  | k + 1, x1, x6, x7, x8, x9, x589000, x589001 => if x9 ≤ 1 then ((impl_Cells_next.f x589000 x589001 x1 x9 x8).bind fun t589 => (if t589 < 0 then (impl_Cells_around.j2 k x1 x6 x7 x8 x9 t589 true x589000 x589001) else (impl_Cells_around.j2 k x1 x6 x7 x8 x9 t589 (t589 == x1) x589000 x589001))) else (impl_Cells_around.l0 k x1 x6 x7 (wrap64 (x8 + 1)) x589000 x589001)
def impl_Cells_around.j2 : Nat → Int → List Int → List (S66) → Int → Int → Int → Bool → Int → List Int → Option (List Int × (List (S66)))
  | 0, _, _, _, _, _, _, _, _, _ => none
  | k + 1, x1, x6, x7, x8, x9, x10, x32, x589000, x589001 => if x32 = true then (impl_Cells_around.l1 k x1 x6 x7 x8 (wrap64 (x9 + 1)) x589000 x589001) else ((impl_Cells_step.f k x589000 x589001 x1 x10).bind fun bt590 => (if bt590.2.2 = true then ((some (([x10] : List Int) : List Int)).bind fun y594 => (if x6.length + y594.length < 17592186044416 then ((some (([(⟨bt590.1, bt590.2.1⟩ : S66)] : List (S66)) : List (S66))).bind fun y600 => (if x7.length + y600.length < 8796093022208 then (impl_Cells_around.l1 k x1 (x6 ++ y594) (x7 ++ y600) x8 (wrap64 (x9 + 1)) x589000 x589001) else (none))) else (none))) else (impl_Cells_around.l1 k x1 x6 x7 x8 (wrap64 (x9 + 1)) x589000 x589001)))
end
def impl_Cells_around.f (k : Nat) (a0_0 : Int) (l0_1 : List Int) (a1 : Int) : Option (List Int × (List (S66))) := impl_Cells_around.l0 k a1 ([] : List Int) ([] : List (S66)) (-1) a0_0 l0_1
theorem impl_Cells_around.mono_l : ∀ k, (∀ y0 y1 y2 y3 y4 y5, LeO (impl_Cells_around.l0 k y0 y1 y2 y3 y4 y5) (impl_Cells_around.l0 (k + 1) y0 y1 y2 y3 y4 y5)) ∧ (∀ y0 y1 y2 y3 y4 y5 y6, LeO (impl_Cells_around.l1 k y0 y1 y2 y3 y4 y5 y6) (impl_Cells_around.l1 (k + 1) y0 y1 y2 y3 y4 y5 y6)) ∧ (∀ y0 y1 y2 y3 y4 y5 y6 y7 y8, LeO (impl_Cells_around.j2 k y0 y1 y2 y3 y4 y5 y6 y7 y8) (impl_Cells_around.j2 (k + 1) y0 y1 y2 y3 y4 y5 y6 y7 y8))
  | 0 => ⟨fun _ _ _ _ _ _ r h => by simp [impl_Cells_around.l0] at h, fun _ _ _ _ _ _ _ r h => by simp [impl_Cells_around.l1] at h, fun _ _ _ _ _ _ _ _ _ r h => by simp [impl_Cells_around.j2] at h⟩
  | k + 1 => by
    obtain ⟨ih0, ih1, ih2⟩ := impl_Cells_around.mono_l k
    refine ⟨?_, ?_, ?_⟩
    · intro y0 y1 y2 y3 y4 y5
      unfold impl_Cells_around.l0
      repeat' first | (with_reducible first | exact ih0 _ _ _ _ _ _ | exact ih1 _ _ _ _ _ _ _ | exact ih2 _ _ _ _ _ _ _ _ _ | exact impl_Cells_step.mono _ _ _ _ _ | exact LeO.refl _ | exact LeO.none _ | refine LeO.ite ?_ ?_ | refine LeO.bind ?_ (fun _ => ?_)) | exact ih0 _ _ _ _ _ _ | exact ih1 _ _ _ _ _ _ _ | exact ih2 _ _ _ _ _ _ _ _ _ | exact impl_Cells_step.mono _ _ _ _ _ | exact LeO.none _ | refine LeO.ite ?_ ?_ | refine LeO.bind ?_ (fun _ => ?_)
    · intro y0 y1 y2 y3 y4 y5 y6
      unfold impl_Cells_around.l1
      repeat' first | (with_reducible first | exact ih0 _ _ _ _ _ _ | exact ih1 _ _ _ _ _ _ _ | exact ih2 _ _ _ _ _ _ _ _ _ | exact impl_Cells_step.mono _ _ _ _ _ | exact LeO.refl _ | exact LeO.none _ | refine LeO.ite ?_ ?_ | refine LeO.bind ?_ (fun _ => ?_)) | exact ih0 _ _ _ _ _ _ | exact ih1 _ _ _ _ _ _ _ | exact ih2 _ _ _ _ _ _ _ _ _ | exact impl_Cells_step.mono _ _ _ _ _ | exact LeO.none _ | refine LeO.ite ?_ ?_ | refine LeO.bind ?_ (fun _ => ?_)
    · intro y0 y1 y2 y3 y4 y5 y6 y7 y8
      unfold impl_Cells_around.j2
      repeat' first | (with_reducible first | exact ih0 _ _ _ _ _ _ | exact ih1 _ _ _ _ _ _ _ | exact ih2 _ _ _ _ _ _ _ _ _ | exact impl_Cells_step.mono _ _ _ _ _ | exact LeO.refl _ | exact LeO.none _ | refine LeO.ite ?_ ?_ | refine LeO.bind ?_ (fun _ => ?_)) | exact ih0 _ _ _ _ _ _ | exact ih1 _ _ _ _ _ _ _ | exact ih2 _ _ _ _ _ _ _ _ _ | exact impl_Cells_step.mono _ _ _ _ _ | exact LeO.none _ | refine LeO.ite ?_ ?_ | refine LeO.bind ?_ (fun _ => ?_)
theorem impl_Cells_around.mono : ∀ a0 a1 a2 k, LeO (impl_Cells_around.f k a0 a1 a2) (impl_Cells_around.f (k + 1) a0 a1 a2) := by
  intro a0 a1 a2 k
  obtain ⟨ih0, ih1, ih2⟩ := impl_Cells_around.mono_l k
  unfold impl_Cells_around.f
  repeat' first | (with_reducible first | exact ih0 _ _ _ _ _ _ | exact ih1 _ _ _ _ _ _ _ | exact ih2 _ _ _ _ _ _ _ _ _ | exact impl_Cells_step.mono _ _ _ _ _ | exact LeO.refl _ | exact LeO.none _ | refine LeO.ite ?_ ?_ | refine LeO.bind ?_ (fun _ => ?_)) | exact ih0 _ _ _ _ _ _ | exact ih1 _ _ _ _ _ _ _ | exact ih2 _ _ _ _ _ _ _ _ _ | exact impl_Cells_step.mono _ _ _ _ _ | exact LeO.none _ | refine LeO.ite ?_ ?_ | refine LeO.bind ?_ (fun _ => ?_)

/-! ### laws_eqWay: function 32 -/
def laws_eqWay.f (k : Nat) (l0_0 : List Int) (a0_1 : Int) (a0_2 : Int) (l1_0 : List Int) (a1_1 : Int) (a1_2 : Int) : Option (Bool) := (laws_eqIntS.f k l0_0 l1_0).bind fun t613 => (if t613 = true then (if a0_1 = a1_1 then (if a0_2 = a1_2 then (some true) else (some false)) else (some false)) else (some false))
theorem laws_eqWay.mono : ∀ a0 a1 a2 a3 a4 a5 k, LeO (laws_eqWay.f k a0 a1 a2 a3 a4 a5) (laws_eqWay.f (k + 1) a0 a1 a2 a3 a4 a5) := by
  intro a0 a1 a2 a3 a4 a5 k
  unfold laws_eqWay.f
  repeat' first | (with_reducible first | exact laws_eqIntS.mono _ _ _ | exact LeO.refl _ | exact LeO.none _ | refine LeO.ite ?_ ?_ | refine LeO.bind ?_ (fun _ => ?_)) | exact laws_eqIntS.mono _ _ _ | exact LeO.none _ | refine LeO.ite ?_ ?_ | refine LeO.bind ?_ (fun _ => ?_)

/-! ### laws_markWay: function 33 -/
def laws_markWay.f (k : Nat) (l0_0 : List Int) (a0_1 : Int) (a0_2 : Int) (a1 : Int) : Option (Int × List Int) := (laws_markIntS.f k l0_0 a1).bind fun bt615 => (some (bt615.1, bt615.2))
theorem laws_markWay.mono : ∀ a0 a1 a2 a3 k, LeO (laws_markWay.f k a0 a1 a2 a3) (laws_markWay.f (k + 1) a0 a1 a2 a3) := by
  intro a0 a1 a2 a3 k
  unfold laws_markWay.f
  repeat' first | (with_reducible first | exact laws_markIntS.mono _ _ _ | exact LeO.refl _ | exact LeO.none _ | refine LeO.ite ?_ ?_ | refine LeO.bind ?_ (fun _ => ?_)) | exact laws_markIntS.mono _ _ _ | exact LeO.none _ | refine LeO.ite ?_ ?_ | refine LeO.bind ?_ (fun _ => ?_)

/-! ### laws_heldWay: function 34 -/
def laws_heldWay.f (k : Nat) (l0_0 : List Int) (a0_1 : Int) (a0_2 : Int) (a1 : Int) : Option (Int) := (laws_heldIntS.f k l0_0 a1).bind fun t618 => (if t618 < 0 then (some (-1)) else (some t618))
theorem laws_heldWay.mono : ∀ a0 a1 a2 a3 k, LeO (laws_heldWay.f k a0 a1 a2 a3) (laws_heldWay.f (k + 1) a0 a1 a2 a3) := by
  intro a0 a1 a2 a3 k
  unfold laws_heldWay.f
  repeat' first | (with_reducible first | exact laws_heldIntS.mono _ _ _ | exact LeO.refl _ | exact LeO.none _ | refine LeO.ite ?_ ?_ | refine LeO.bind ?_ (fun _ => ?_)) | exact laws_heldIntS.mono _ _ _ | exact LeO.none _ | refine LeO.ite ?_ ?_ | refine LeO.bind ?_ (fun _ => ?_)

/-! ### spec_l1Cur_stroll: function 53 -/
mutual
def spec_l1Cur_stroll.j2 : Nat → List Int → List Int → Int → Int → Int → List Int → Option (List Int × Int × Int)
  | 0, _, _, _, _, _, _ => none
  | k + 1, x7, x1000, x1001, x1002, x636000, x636001 => (spec_l1Cur_one.f x1000 x1001 x1002 16).bind fun bt664 => (if bt664.1 = true then ((spec_l1Cur_pick.f x1000 bt664.2.1 bt664.2.2 (wrap64 ((x636001.length : Int) + 1))).bind fun bt667 => (if x7.length < 17592186044416 then (some ((x7 ++ [bt667.1]), bt667.2.1, bt667.2.2)) else (none))) else (some (x7, bt664.2.1, bt664.2.2)))
def spec_l1Cur_stroll.l0 : Nat → Int → List Int → Int → List Int → Int → Int → Int → List Int → Option (List Int × Int × Int)
  | 0, _, _, _, _, _, _, _, _ => none
  | k + 1, x6, x7, x8, x1000, x1001, x1002, x636000, x636001 => if x8 > 0 then ((spec_l18Around.f k x636000 x636001 x6).bind fun t649 => (spec_l1Cur_stroll.l1 k x6 x7 x8 ([] : List Int) t649 (t649.length : Int) 0 x1000 x1001 x1002 x636000 x636001)) else (spec_l1Cur_stroll.j2 k x7 x1000 x1001 x1002 x636000 x636001)
def spec_l1Cur_stroll.l1 : Nat → Int → List Int → Int → List Int → List Int → Int → Int → List Int → Int → Int → Int → List Int → Option (List Int × Int × Int)
  | 0, _, _, _, _, _, _, _, _, _, _, _, _ => none
  | k + 1, x6, x7, x8, x9, x34, x35, x36, x1000, x1001, x1002, x636000, x636001 => if x36 < x35 then (if 0 ≤ x36 then (if x36 < (x34.length : Int) then ((spec_l18Step.f k x636000 x636001 x6 (rd x34 x36)).bind fun t653 => (if t653 > 0 then (if x9.length < 17592186044416 then (spec_l1Cur_stroll.l1 k x6 x7 x8 (x9 ++ [rd x34 x36]) x34 x35 (wrap64 (x36 + 1)) x1000 x1001 x1002 x636000 x636001) else (none)) else (spec_l1Cur_stroll.l1 k x6 x7 x8 x9 x34 x35 (wrap64 (x36 + 1)) x1000 x1001 x1002 x636000 x636001))) else (none)) else (none)) else (if (x9.length : Int) = 0 then (spec_l1Cur_stroll.j2 k x7 x1000 x1001 x1002 x636000 x636001) else ((spec_l1Cur_pick.f x1000 x1001 x1002 (x9.length : Int)).bind fun bt657 => (if 0 ≤ bt657.1 then (if bt657.1 < (x9.length : Int) then (if x7.length < 17592186044416 then (spec_l1Cur_stroll.l0 k (rd x9 bt657.1) (x7 ++ [rd x9 bt657.1]) (wrap64 (x8 - 1)) x1000 bt657.2.1 bt657.2.2 x636000 x636001) else (none)) else (none)) else (none))))
end
def spec_l1Cur_stroll.f (k : Nat) (s0_0 : List Int) (s0_1 : Int) (s0_2 : Int) (a1_0 : Int) (l1_1 : List Int) : Option (List Int × Int × Int) := (spec_AllPlaces.f k a1_0 l1_1).bind fun t636 => (if (t636.length : Int) = 0 then (some (([] : List Int), s0_1, s0_2)) else ((spec_l1Cur_pick.f s0_0 s0_1 s0_2 (t636.length : Int)).bind fun bt639 => (if 0 ≤ bt639.1 then (if bt639.1 < (t636.length : Int) then ((spec_l1Cur_pick.f s0_0 bt639.2.1 bt639.2.2 12).bind fun bt646 => (spec_l1Cur_stroll.l0 k (rd t636 bt639.1) (([rd t636 bt639.1] : List Int)) bt646.1 s0_0 bt646.2.1 bt646.2.2 a1_0 l1_1)) else (none)) else (none))))
theorem spec_l1Cur_stroll.mono_l : ∀ k, (∀ y0 y1 y2 y3 y4 y5, LeO (spec_l1Cur_stroll.j2 k y0 y1 y2 y3 y4 y5) (spec_l1Cur_stroll.j2 (k + 1) y0 y1 y2 y3 y4 y5)) ∧ (∀ y0 y1 y2 y3 y4 y5 y6 y7, LeO (spec_l1Cur_stroll.l0 k y0 y1 y2 y3 y4 y5 y6 y7) (spec_l1Cur_stroll.l0 (k + 1) y0 y1 y2 y3 y4 y5 y6 y7)) ∧ (∀ y0 y1 y2 y3 y4 y5 y6 y7 y8 y9 y10 y11, LeO (spec_l1Cur_stroll.l1 k y0 y1 y2 y3 y4 y5 y6 y7 y8 y9 y10 y11) (spec_l1Cur_stroll.l1 (k + 1) y0 y1 y2 y3 y4 y5 y6 y7 y8 y9 y10 y11))
  | 0 => ⟨fun _ _ _ _ _ _ r h => by simp [spec_l1Cur_stroll.j2] at h, fun _ _ _ _ _ _ _ _ r h => by simp [spec_l1Cur_stroll.l0] at h, fun _ _ _ _ _ _ _ _ _ _ _ _ r h => by simp [spec_l1Cur_stroll.l1] at h⟩
  | k + 1 => by
    obtain ⟨ih0, ih1, ih2⟩ := spec_l1Cur_stroll.mono_l k
    refine ⟨?_, ?_, ?_⟩
    · intro y0 y1 y2 y3 y4 y5
      unfold spec_l1Cur_stroll.j2
      repeat' first | (with_reducible first | exact ih0 _ _ _ _ _ _ | exact ih1 _ _ _ _ _ _ _ _ | exact ih2 _ _ _ _ _ _ _ _ _ _ _ _ | exact spec_AllPlaces.mono _ _ _ | exact spec_l18Around.mono _ _ _ _ | exact spec_l18Step.mono _ _ _ _ _ | exact LeO.refl _ | exact LeO.none _ | refine LeO.ite ?_ ?_ | refine LeO.bind ?_ (fun _ => ?_)) | exact ih0 _ _ _ _ _ _ | exact ih1 _ _ _ _ _ _ _ _ | exact ih2 _ _ _ _ _ _ _ _ _ _ _ _ | exact spec_AllPlaces.mono _ _ _ | exact spec_l18Around.mono _ _ _ _ | exact spec_l18Step.mono _ _ _ _ _ | exact LeO.none _ | refine LeO.ite ?_ ?_ | refine LeO.bind ?_ (fun _ => ?_)
    · intro y0 y1 y2 y3 y4 y5 y6 y7
      unfold spec_l1Cur_stroll.l0
      repeat' first | (with_reducible first | exact ih0 _ _ _ _ _ _ | exact ih1 _ _ _ _ _ _ _ _ | exact ih2 _ _ _ _ _ _ _ _ _ _ _ _ | exact spec_AllPlaces.mono _ _ _ | exact spec_l18Around.mono _ _ _ _ | exact spec_l18Step.mono _ _ _ _ _ | exact LeO.refl _ | exact LeO.none _ | refine LeO.ite ?_ ?_ | refine LeO.bind ?_ (fun _ => ?_)) | exact ih0 _ _ _ _ _ _ | exact ih1 _ _ _ _ _ _ _ _ | exact ih2 _ _ _ _ _ _ _ _ _ _ _ _ | exact spec_AllPlaces.mono _ _ _ | exact spec_l18Around.mono _ _ _ _ | exact spec_l18Step.mono _ _ _ _ _ | exact LeO.none _ | refine LeO.ite ?_ ?_ | refine LeO.bind ?_ (fun _ => ?_)
    · intro y0 y1 y2 y3 y4 y5 y6 y7 y8 y9 y10 y11
      unfold spec_l1Cur_stroll.l1
      repeat' first | (with_reducible first | exact ih0 _ _ _ _ _ _ | exact ih1 _ _ _ _ _ _ _ _ | exact ih2 _ _ _ _ _ _ _ _ _ _ _ _ | exact spec_AllPlaces.mono _ _ _ | exact spec_l18Around.mono _ _ _ _ | exact spec_l18Step.mono _ _ _ _ _ | exact LeO.refl _ | exact LeO.none _ | refine LeO.ite ?_ ?_ | refine LeO.bind ?_ (fun _ => ?_)) | exact ih0 _ _ _ _ _ _ | exact ih1 _ _ _ _ _ _ _ _ | exact ih2 _ _ _ _ _ _ _ _ _ _ _ _ | exact spec_AllPlaces.mono _ _ _ | exact spec_l18Around.mono _ _ _ _ | exact spec_l18Step.mono _ _ _ _ _ | exact LeO.none _ | refine LeO.ite ?_ ?_ | refine LeO.bind ?_ (fun _ => ?_)
theorem spec_l1Cur_stroll.mono : ∀ a0 a1 a2 a3 a4 k, LeO (spec_l1Cur_stroll.f k a0 a1 a2 a3 a4) (spec_l1Cur_stroll.f (k + 1) a0 a1 a2 a3 a4) := by
  intro a0 a1 a2 a3 a4 k
  obtain ⟨ih0, ih1, ih2⟩ := spec_l1Cur_stroll.mono_l k
  unfold spec_l1Cur_stroll.f
  repeat' first | (with_reducible first | exact ih0 _ _ _ _ _ _ | exact ih1 _ _ _ _ _ _ _ _ | exact ih2 _ _ _ _ _ _ _ _ _ _ _ _ | exact spec_AllPlaces.mono _ _ _ | exact spec_l18Around.mono _ _ _ _ | exact spec_l18Step.mono _ _ _ _ _ | exact LeO.refl _ | exact LeO.none _ | refine LeO.ite ?_ ?_ | refine LeO.bind ?_ (fun _ => ?_)) | exact ih0 _ _ _ _ _ _ | exact ih1 _ _ _ _ _ _ _ _ | exact ih2 _ _ _ _ _ _ _ _ _ _ _ _ | exact spec_AllPlaces.mono _ _ _ | exact spec_l18Around.mono _ _ _ _ | exact spec_l18Step.mono _ _ _ _ _ | exact LeO.none _ | refine LeO.ite ?_ ?_ | refine LeO.bind ?_ (fun _ => ?_)

/-! ### impl_between: function 54 -/
def impl_between.f (a0 : Int) (a1 : Int) (a2 : Int) : Option (Bool) := if a0 ≥ a1 then (some (decide (a0 ≤ a2))) else (some false)

/-! ### impl_CmpCost: function 37 -/
def impl_CmpCost.l0 : Nat → Int → Int → Int → Int → List Int → Int → Int → Option (Int × Bool)
  | 0, _, _, _, _, _, _, _ => none
  | k + 1, x0, x1, x2, x3, x16, x17, x18 => if x18 < x17 then (if 0 ≤ x18 then (if x18 < (x16.length : Int) then ((impl_between.f (rd x16 x18) 0 1000000).bind fun t684 => (if t684 = true then (impl_CmpCost.l0 k x0 x1 x2 x3 x16 x17 (wrap64 (x18 + 1))) else (some (0, false)))) else (none)) else (none)) else ((impl_cmpCost.f (wrap64 (x0 - x2)) (wrap64 (x1 - x3))).bind fun t685 => (some (t685, true)))
def impl_CmpCost.f (k : Nat) (a0 : Int) (a1 : Int) (a2 : Int) (a3 : Int) : Option (Int × Bool) := (some (([a0, a1, a2, a3] : List Int) : List Int)).bind fun y680 => (impl_CmpCost.l0 k a0 a1 a2 a3 y680 (y680.length : Int) 0)
theorem impl_CmpCost.mono_l : ∀ k, (∀ y0 y1 y2 y3 y4 y5 y6, LeO (impl_CmpCost.l0 k y0 y1 y2 y3 y4 y5 y6) (impl_CmpCost.l0 (k + 1) y0 y1 y2 y3 y4 y5 y6))
  | 0 => fun _ _ _ _ _ _ _ r h => by simp [impl_CmpCost.l0] at h
  | k + 1 => by
    have ih0 := impl_CmpCost.mono_l k
    · intro y0 y1 y2 y3 y4 y5 y6
      unfold impl_CmpCost.l0
      repeat' first | (with_reducible first | exact ih0 _ _ _ _ _ _ _ | exact LeO.refl _ | exact LeO.none _ | refine LeO.ite ?_ ?_ | refine LeO.bind ?_ (fun _ => ?_)) | exact ih0 _ _ _ _ _ _ _ | exact LeO.none _ | refine LeO.ite ?_ ?_ | refine LeO.bind ?_ (fun _ => ?_)
theorem impl_CmpCost.mono : ∀ a0 a1 a2 a3 k, LeO (impl_CmpCost.f k a0 a1 a2 a3) (impl_CmpCost.f (k + 1) a0 a1 a2 a3) := by
  intro a0 a1 a2 a3 k
  have ih0 := impl_CmpCost.mono_l k
  unfold impl_CmpCost.f
  repeat' first | (with_reducible first | exact ih0 _ _ _ _ _ _ _ | exact LeO.refl _ | exact LeO.none _ | refine LeO.ite ?_ ?_ | refine LeO.bind ?_ (fun _ => ?_)) | exact ih0 _ _ _ _ _ _ _ | exact LeO.none _ | refine LeO.ite ?_ ?_ | refine LeO.bind ?_ (fun _ => ?_)

end Go.Proofs.Ytjcmlggdaajicaa.Pr
