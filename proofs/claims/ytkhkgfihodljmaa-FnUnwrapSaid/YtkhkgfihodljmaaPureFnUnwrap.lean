/- THE LAW FnUnwrap, as a statement over numbers and lists: proved here. -/
import Derived.Test.YtkhkgfihodljmaaPureUnwrap
namespace Go.Proofs.Ytkhkgfihodljmaa.Pure
open Go.RowKit Go.Proofs.YtkhkgfihodljmaaW.PrintWords Go.Proofs.YtkhkgfihodljmaaW.PrintLast Go.Proofs.Ytkhkgfihodljmaa.Pr Go.Proofs.Ytkhkgfihodljmaa.EvKit

theorem unw_law (l : List Int) (n : Int) (r : List Int) (hr : r.length = l.length) (hl : l.length ≤ 60) (hn : 2 ≤ n) (hn2 : n ≤ 1000000) (hu : Unw l n r) (d : Nat) : ∀ i : Nat, i + d = r.length → Ev (fun k => laws_FnUnwrap.l0 k l n r (r.length : Int) i) true := by
  induction d with
  | zero =>
    intro i hi
    apply Ev.succ
    simp only [laws_FnUnwrap.l0]
    exact Ev.neg (by omega) (Ev.some rfl)
  | succ d ih =>
    intro i hi
    obtain ⟨q1, q2, q3, q4⟩ := hu i (by omega)
    have e1 : rd r (i : Int) = r.getD i 0 := rfl
    have e2 : rd l (i : Int) = l.getD i 0 := rfl
    have wc : impl_WrapCount.f (r.getD i 0) n = some (l.getD i 0) := by
      unfold impl_WrapCount.f impl_within.f impl_goodSize.f
      rw [show wrap64 (-1000000000000) = -1000000000000 from wrap64_id (by omega) (by omega), if_pos (by omega), wrap_eq _ n hn hn2, q1]
      simp only [Option.bind_some]
      rw [if_pos (decide_eq_true (by omega)), if_pos (by omega)]
      simp only [Option.bind_some]
      rw [if_pos (decide_eq_true (by omega))]
    apply Ev.succ
    simp only [laws_FnUnwrap.l0, e1, e2, succ_w (show i < 35184372088833 by omega)]
    refine Ev.pos (by omega) (Ev.pos (by omega) (Ev.pos (by omega) (Ev.bnd0 wc (Ev.pos (by omega) (Ev.pos rfl (Ev.ite (fun h0 => ?_) (fun h0 => ih (i + 1) (by omega))))))))
    have em : wrap64 ((i : Int) - 1) = ((i - 1 : Nat) : Int) := by rw [wrap64_id (by omega) (by omega)]; omega
    have ep : rd r ((i - 1 : Nat) : Int) = r.getD (i - 1) 0 := rfl
    obtain ⟨_, p2, p3, _⟩ := hu (i - 1) (by omega)
    have q5 := q4 (by omega)
    simp only [em, ep, wrap64_id (x := r.getD i 0 - r.getD (i - 1) 0) (by omega) (by omega), wrap64_id (x := 2 * (r.getD i 0 - r.getD (i - 1) 0)) (by omega) (by omega), wrap64_id (x := -n) (by omega) (by omega)]
    exact Ev.pos (by omega) (Ev.pos (by omega) (Ev.neg (by omega) (Ev.neg (by omega) (ih (i + 1) (by omega)))))

theorem FnUnwrap : ∀ (l0 : List Int), (l0.length ≤ maxLen ∧ l0.length * 1 ≤ 140737488351232 ∧ ∀ y0 ∈ l0, (Lit.int .u8 y0).wf = true) → ∃ k, laws_FnUnwrap.f k l0 = some true := by
  intro c hc
  apply Ev.rounds
  simp only [laws_FnUnwrap.f]
  refine Ev.ite (fun _ => Ev.some rfl) (fun h => ?_)
  have hC : Code c := ⟨by omega, fun y hy => by
    have := hc.2.2 y hy
    simp [Lit.wf, IntKind.min, IntKind.max, IntKind.bits, IntKind.signed] at this
    omega⟩
  obtain ⟨l, n, _, _, _, _, e1⟩ := draw_counts hC
  obtain ⟨r, r2, b, e2, e3, hb⟩ := unw_both l n
  refine Ev.bnd e1 (Ev.bnd e2 (Ev.bnd e3 (Ev.neg (by simp) ?_)))
  cases b with
  | false => exact Ev.neg (by simp) (Ev.some rfl)
  | true =>
    obtain ⟨h1, h2, h3, h4, h5⟩ := hb rfl
    exact Ev.pos rfl (Ev.pos (show (r.length : Int) = (l.length : Int) by omega) (unw_law l n r h1 h2 h3 h4 h5 r.length 0 (by omega)))

end Go.Proofs.Ytkhkgfihodljmaa.Pure
