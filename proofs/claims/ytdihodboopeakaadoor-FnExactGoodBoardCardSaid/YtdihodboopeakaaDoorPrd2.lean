-- Written by this session's own print (wip/tools/mkmp.py) out of the translation. Lean checks it.
import Derived.Test.YtdihodboopeakaaDoorPr0
import Derived.Test.YtdihodboopeakaaDoorOdd
import Derived.Test.YtdihodboopeakaaDoorPrd1
namespace Go.Proofs.YtdihodboopeakaaDoor.Pr
open Go.RowKit Go.Proofs.YtdihodboopeakaaDoorW.PrintWords Go.Proofs.YtdihodboopeakaaDoorW.PrintLast Go.Proofs.YtdihodboopeakaaDoorW.PrintMore
attribute [local go_sem] max2_int min2_int max_two min_two max_three min_three max_four min_four   -- for this text's walks alone
set_option linter.unusedVariables false
set_option linter.unusedSimpArgs false

/-! ### impl_GoodBoard: function 28 -/
mutual
def impl_GoodBoard.j0 : Nat → Int → Bool → List ByteArray → List Bool → List (List Int) → Option (Bool)
  | 0, _, _, _, _, _ => none
  | k + 1, x3, x30, x169000, x169001, x169002 => if x30 = true then (some false) else (impl_GoodBoard.l0 k x3 x169000 (x169000.length : Int) 0 x169000 x169001 x169002)
def impl_GoodBoard.l0 : Nat → Int → List ByteArray → Int → Int → List ByteArray → List Bool → List (List Int) → Option (Bool)
  | 0, _, _, _, _, _, _, _ => none
  | k + 1, x3, x32, x33, x34, x169000, x169001, x169002 => if x34 < x33 then (if 0 ≤ x34 then (if x34 < (x32.length : Int) then (if (rdOf ByteArray.empty x32 x34).toList = ([] : List UInt8) then (if x34 < (x169002.length : Int) then (impl_GoodBoard.j2 k x3 x34 x32 x33 x34 (decide (((rd_L3 x169002 x34).length : Int) > 14)) x169000 x169001 x169002) else (none)) else ((impl_goodName.f (rdOf ByteArray.empty x32 x34)).bind fun t171 => (if t171 = true then (if x34 < (x169002.length : Int) then (impl_GoodBoard.j2 k x3 x34 x32 x33 x34 (decide (((rd_L3 x169002 x34).length : Int) > 14)) x169000 x169001 x169002) else (none)) else (impl_GoodBoard.j2 k x3 x34 x32 x33 x34 true x169000 x169001 x169002)))) else (none)) else (none)) else (some true)
def impl_GoodBoard.j2 : Nat → Int → Int → List ByteArray → Int → Int → Bool → List ByteArray → List Bool → List (List Int) → Option (Bool)
  | 0, _, _, _, _, _, _, _, _, _ => none
  | k + 1, x3, x4, x32, x33, x34, x54, x169000, x169001, x169002 => if x54 = true then (some false) else (if 0 ≤ x4 then (if x4 < (x169002.length : Int) then (impl_GoodBoard.l1 k x3 x4 x32 x33 x34 (rd_L3 x169002 x4) ((rd_L3 x169002 x4).length : Int) 0 x169000 x169001 x169002) else (none)) else (none))
def impl_GoodBoard.l1 : Nat → Int → Int → List ByteArray → Int → Int → List Int → Int → Int → List ByteArray → List Bool → List (List Int) → Option (Bool)
  | 0, _, _, _, _, _, _, _, _, _, _, _ => none
  | k + 1, x3, x4, x32, x33, x34, x59, x60, x61, x169000, x169001, x169002 => if x61 < x60 then (if 0 ≤ x61 then (if x61 < (x59.length : Int) then (if (rd x59 x61) < 0 then (some false) else (if (rd x59 x61) ≥ x3 then (some false) else (if x61 > 0 then (if 0 ≤ x4 then (if x4 < (x169002.length : Int) then (if 0 ≤ (wrap64 (x61 - 1)) then (if (wrap64 (x61 - 1)) < ((rd_L3 x169002 x4).length : Int) then (if (rd x59 x61) ≤ (rd (rd_L3 x169002 x4) (wrap64 (x61 - 1))) then (some false) else (impl_GoodBoard.l1 k x3 x4 x32 x33 x34 x59 x60 (wrap64 (x61 + 1)) x169000 x169001 x169002)) else (none)) else (none)) else (none)) else (none)) else (impl_GoodBoard.l1 k x3 x4 x32 x33 x34 x59 x60 (wrap64 (x61 + 1)) x169000 x169001 x169002)))) else (none)) else (none)) else (impl_GoodBoard.l0 k x3 x32 x33 (wrap64 (x34 + 1)) x169000 x169001 x169002)
end
def impl_GoodBoard.f (k : Nat) (l0_0 : List ByteArray) (l0_1 : List Bool) (l0_2 : List (List Int)) : Option (Bool) := if (l0_0.length : Int) < 1 then (impl_GoodBoard.j0 k (l0_0.length : Int) true l0_0 l0_1 l0_2) else (if (l0_0.length : Int) > 14 then (impl_GoodBoard.j0 k (l0_0.length : Int) true l0_0 l0_1 l0_2) else (if (l0_1.length : Int) = (l0_0.length : Int) then (impl_GoodBoard.j0 k (l0_0.length : Int) ((l0_2.length : Int) != (l0_0.length : Int)) l0_0 l0_1 l0_2) else (impl_GoodBoard.j0 k (l0_0.length : Int) true l0_0 l0_1 l0_2)))
theorem impl_GoodBoard.mono_l : ∀ k, (∀ y0 y1 y2 y3 y4, LeO (impl_GoodBoard.j0 k y0 y1 y2 y3 y4) (impl_GoodBoard.j0 (k + 1) y0 y1 y2 y3 y4)) ∧ (∀ y0 y1 y2 y3 y4 y5 y6, LeO (impl_GoodBoard.l0 k y0 y1 y2 y3 y4 y5 y6) (impl_GoodBoard.l0 (k + 1) y0 y1 y2 y3 y4 y5 y6)) ∧ (∀ y0 y1 y2 y3 y4 y5 y6 y7 y8, LeO (impl_GoodBoard.j2 k y0 y1 y2 y3 y4 y5 y6 y7 y8) (impl_GoodBoard.j2 (k + 1) y0 y1 y2 y3 y4 y5 y6 y7 y8)) ∧ (∀ y0 y1 y2 y3 y4 y5 y6 y7 y8 y9 y10, LeO (impl_GoodBoard.l1 k y0 y1 y2 y3 y4 y5 y6 y7 y8 y9 y10) (impl_GoodBoard.l1 (k + 1) y0 y1 y2 y3 y4 y5 y6 y7 y8 y9 y10))
  | 0 => ⟨fun _ _ _ _ _ r h => by simp [impl_GoodBoard.j0] at h, fun _ _ _ _ _ _ _ r h => by simp [impl_GoodBoard.l0] at h, fun _ _ _ _ _ _ _ _ _ r h => by simp [impl_GoodBoard.j2] at h, fun _ _ _ _ _ _ _ _ _ _ _ r h => by simp [impl_GoodBoard.l1] at h⟩
  | k + 1 => by
    obtain ⟨ih0, ih1, ih2, ih3⟩ := impl_GoodBoard.mono_l k
    refine ⟨?_, ?_, ?_, ?_⟩
    · intro y0 y1 y2 y3 y4
      unfold impl_GoodBoard.j0
      repeat' first | (with_reducible first | exact ih0 _ _ _ _ _ | exact ih1 _ _ _ _ _ _ _ | exact ih2 _ _ _ _ _ _ _ _ _ | exact ih3 _ _ _ _ _ _ _ _ _ _ _ | exact LeO.refl _ | exact LeO.none _ | refine LeO.ite ?_ ?_ | refine LeO.bind ?_ (fun _ => ?_)) | exact ih0 _ _ _ _ _ | exact ih1 _ _ _ _ _ _ _ | exact ih2 _ _ _ _ _ _ _ _ _ | exact ih3 _ _ _ _ _ _ _ _ _ _ _ | exact LeO.none _ | refine LeO.ite ?_ ?_ | refine LeO.bind ?_ (fun _ => ?_)
    · intro y0 y1 y2 y3 y4 y5 y6
      unfold impl_GoodBoard.l0
      repeat' first | (with_reducible first | exact ih0 _ _ _ _ _ | exact ih1 _ _ _ _ _ _ _ | exact ih2 _ _ _ _ _ _ _ _ _ | exact ih3 _ _ _ _ _ _ _ _ _ _ _ | exact LeO.refl _ | exact LeO.none _ | refine LeO.ite ?_ ?_ | refine LeO.bind ?_ (fun _ => ?_)) | exact ih0 _ _ _ _ _ | exact ih1 _ _ _ _ _ _ _ | exact ih2 _ _ _ _ _ _ _ _ _ | exact ih3 _ _ _ _ _ _ _ _ _ _ _ | exact LeO.none _ | refine LeO.ite ?_ ?_ | refine LeO.bind ?_ (fun _ => ?_)
    · intro y0 y1 y2 y3 y4 y5 y6 y7 y8
      unfold impl_GoodBoard.j2
      repeat' first | (with_reducible first | exact ih0 _ _ _ _ _ | exact ih1 _ _ _ _ _ _ _ | exact ih2 _ _ _ _ _ _ _ _ _ | exact ih3 _ _ _ _ _ _ _ _ _ _ _ | exact LeO.refl _ | exact LeO.none _ | refine LeO.ite ?_ ?_ | refine LeO.bind ?_ (fun _ => ?_)) | exact ih0 _ _ _ _ _ | exact ih1 _ _ _ _ _ _ _ | exact ih2 _ _ _ _ _ _ _ _ _ | exact ih3 _ _ _ _ _ _ _ _ _ _ _ | exact LeO.none _ | refine LeO.ite ?_ ?_ | refine LeO.bind ?_ (fun _ => ?_)
    · intro y0 y1 y2 y3 y4 y5 y6 y7 y8 y9 y10
      unfold impl_GoodBoard.l1
      repeat' first | (with_reducible first | exact ih0 _ _ _ _ _ | exact ih1 _ _ _ _ _ _ _ | exact ih2 _ _ _ _ _ _ _ _ _ | exact ih3 _ _ _ _ _ _ _ _ _ _ _ | exact LeO.refl _ | exact LeO.none _ | refine LeO.ite ?_ ?_ | refine LeO.bind ?_ (fun _ => ?_)) | exact ih0 _ _ _ _ _ | exact ih1 _ _ _ _ _ _ _ | exact ih2 _ _ _ _ _ _ _ _ _ | exact ih3 _ _ _ _ _ _ _ _ _ _ _ | exact LeO.none _ | refine LeO.ite ?_ ?_ | refine LeO.bind ?_ (fun _ => ?_)
theorem impl_GoodBoard.mono : ∀ a0 a1 a2 k, LeO (impl_GoodBoard.f k a0 a1 a2) (impl_GoodBoard.f (k + 1) a0 a1 a2) := by
  intro a0 a1 a2 k
  obtain ⟨ih0, ih1, ih2, ih3⟩ := impl_GoodBoard.mono_l k
  unfold impl_GoodBoard.f
  repeat' first | (with_reducible first | exact ih0 _ _ _ _ _ | exact ih1 _ _ _ _ _ _ _ | exact ih2 _ _ _ _ _ _ _ _ _ | exact ih3 _ _ _ _ _ _ _ _ _ _ _ | exact LeO.refl _ | exact LeO.none _ | refine LeO.ite ?_ ?_ | refine LeO.bind ?_ (fun _ => ?_)) | exact ih0 _ _ _ _ _ | exact ih1 _ _ _ _ _ _ _ | exact ih2 _ _ _ _ _ _ _ _ _ | exact ih3 _ _ _ _ _ _ _ _ _ _ _ | exact LeO.none _ | refine LeO.ite ?_ ?_ | refine LeO.bind ?_ (fun _ => ?_)

/-! ### laws_FnExactGoodBoard: function 5 -/
def laws_FnExactGoodBoard.f (k : Nat) (l0_0 : List ByteArray) (l0_1 : List Bool) (l0_2 : List (List Int)) : Option (Bool) := (laws_szBoard.f k l0_0 l0_1 l0_2 1048576).bind fun t178 => (if t178 < 0 then (some true) else ((laws_toBoard.f k l0_0 l0_1 l0_2).bind fun bt179 => ((spec_GoodBoard.f k bt179.1 bt179.2.1 bt179.2.2).bind fun t188 => ((laws_toBoard.f k l0_0 l0_1 l0_2).bind fun bt189 => ((impl_GoodBoard.f k bt189.1 bt189.2.1 bt189.2.2).bind fun t199 => (if (t199 != t188) = true then (some false) else ((laws_toBoard.f k l0_0 l0_1 l0_2).bind fun bt200 => ((laws_eqBoard.f k bt189.1 bt189.2.1 bt189.2.2 bt200.1 bt200.2.1 bt200.2.2).bind fun t209 => (if t209 = true then (some true) else (some false))))))))))
theorem laws_FnExactGoodBoard.mono : ∀ a0 a1 a2 k, LeO (laws_FnExactGoodBoard.f k a0 a1 a2) (laws_FnExactGoodBoard.f (k + 1) a0 a1 a2) := by
  intro a0 a1 a2 k
  unfold laws_FnExactGoodBoard.f
  repeat' first | (with_reducible first | exact impl_GoodBoard.mono _ _ _ _ | exact laws_eqBoard.mono _ _ _ _ _ _ _ | exact laws_szBoard.mono _ _ _ _ _ | exact laws_toBoard.mono _ _ _ _ | exact spec_GoodBoard.mono _ _ _ _ | exact LeO.refl _ | exact LeO.none _ | refine LeO.ite ?_ ?_ | refine LeO.bind ?_ (fun _ => ?_)) | exact impl_GoodBoard.mono _ _ _ _ | exact laws_eqBoard.mono _ _ _ _ _ _ _ | exact laws_szBoard.mono _ _ _ _ _ | exact laws_toBoard.mono _ _ _ _ | exact spec_GoodBoard.mono _ _ _ _ | exact LeO.none _ | refine LeO.ite ?_ ?_ | refine LeO.bind ?_ (fun _ => ?_)

end Go.Proofs.YtdihodboopeakaaDoor.Pr
