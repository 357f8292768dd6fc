/- THE LAW FnExactCrc15, as a statement over numbers and lists: for every text the two checksums agree. No condition. -/
import Derived.Test.YtbdonoeellmeoaaDoorPrd2
import Derived.Test.YtbdonoeellmeoaaDoorPureBit
namespace Go.Proofs.YtbdonoeellmeoaaDoor.Pure
open Go.RowKit Go.Proofs.YtbdonoeellmeoaaDoorW.PrintWords Go.Proofs.YtbdonoeellmeoaaDoorW.PrintLast Go.Proofs.YtbdonoeellmeoaaDoor.Pr Go.Proofs.YtbdonoeellmeoaaDoor.EvKit

theorem FnExactCrc15 : ∀ (a0 : ByteArray), a0.size ≤ 140737488351232 → ∃ k, laws_FnExactCrc15.f k a0 = some true := by
  intro s hs
  apply Ev.rounds
  simp only [laws_FnExactCrc15.f]
  refine Ev.ite (fun _ => Ev.some rfl) (fun _ => ?_)
  unfold spec_Crc15.f impl_Crc15.f
  have hb := l23Bits_ev s
  rw [goodBits_eq]
  by_cases h : (decide (s.size ≤ 300) && all01 s) = true
  · rw [h] at hb ⊢
    have hl : s.size ≤ 100000 := by have := of_decide_eq_true (Bool.and_eq_true_iff.1 h).1; omega
    exact Ev.bnd (Ev.bnd hb (Ev.pos rfl (Ev.bnd (crc_spec s hl) (Ev.some rfl)))) (Ev.bnd (Ev.bnd0 rfl (Ev.pos rfl (Ev.bnd (crc_impl s hl) (Ev.some rfl)))) (Ev.pos rfl (Ev.neg (by simp) (Ev.some rfl))))
  · have h' := Bool.eq_false_iff.2 h
    rw [h'] at hb ⊢
    exact Ev.bnd (Ev.bnd hb (Ev.neg (by decide) (Ev.some rfl))) (Ev.bnd (Ev.bnd0 rfl (Ev.neg (by decide) (Ev.some rfl))) (Ev.pos rfl (Ev.neg (by simp) (Ev.some rfl))))

end Go.Proofs.YtbdonoeellmeoaaDoor.Pure
