/- THE LAW FnExactStuffBits, as a statement over numbers and lists: for every text the two stuffings agree. No condition. -/
import Derived.Test.YtbdonoeellmeoaaDoorPrd3
import Derived.Test.YtbdonoeellmeoaaDoorPureBit
namespace Go.Proofs.YtbdonoeellmeoaaDoor.Pure
open Go.RowKit Go.Proofs.YtbdonoeellmeoaaDoorW.PrintWords Go.Proofs.YtbdonoeellmeoaaDoorW.PrintLast Go.Proofs.YtbdonoeellmeoaaDoor.Pr Go.Proofs.YtbdonoeellmeoaaDoor.EvKit

theorem FnExactStuffBits : ∀ (a0 : ByteArray), a0.size ≤ 140737488351232 → ∃ k, laws_FnExactStuffBits.f k a0 = some true := by
  intro s hs
  apply Ev.rounds
  simp only [laws_FnExactStuffBits.f]
  refine Ev.ite (fun _ => Ev.some rfl) (fun _ => ?_)
  unfold spec_StuffBits.f impl_StuffBits.f
  have hb := l23Bits_ev s
  rw [goodBits_eq]
  by_cases h : (decide (s.size ≤ 300) && all01 s) = true
  · rw [h] at hb ⊢
    have hl : s.size ≤ 100000 := by have := of_decide_eq_true (Bool.and_eq_true_iff.1 h).1; omega
    have e : impl_stuff.f s = some (strOfNums (stf 0 0 (bytesOf s))) := by unfold impl_stuff.f; rw [if_pos hl]
    exact Ev.bnd (Ev.bnd hb (Ev.pos rfl (Ev.bnd (l23Stuff_ev s hl) (Ev.some rfl)))) (Ev.bnd0 (show ((some true).bind fun t129 => if t129 = true then (impl_stuff.f s).bind fun t130 => some (t130, true) else some ((⟨#[]⟩ : ByteArray), false)) = some (strOfNums (stf 0 0 (bytesOf s)), true) by rw [e]; rfl) (Ev.pos rfl (Ev.neg (by simp) (Ev.some rfl))))
  · have h' := Bool.eq_false_iff.2 h
    rw [h'] at hb ⊢
    exact Ev.bnd (Ev.bnd hb (Ev.neg (by decide) (Ev.some rfl))) (Ev.bnd0 rfl (Ev.pos rfl (Ev.neg (by simp) (Ev.some rfl))))

end Go.Proofs.YtbdonoeellmeoaaDoor.Pure
