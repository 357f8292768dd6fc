/- FnExactFlatChart: the walk and the plain law, joined. -/
import Derived.Test.YtkhkgfihodljmaaFlx
import Derived.Test.YtkhkgfihodljmaaPureFlat
import Derived.Test.YtkhkgfihodljmaaPureMss
import Derived.Test.YtkhkgfihodljmaaPureChart
namespace Go.Proofs.Ytkhkgfihodljmaa.Pure
open Go.RowKit Go.Proofs.YtkhkgfihodljmaaW.PrintWords Go.Proofs.YtkhkgfihodljmaaW.PrintLast Go.Proofs.Ytkhkgfihodljmaa.Pr Go.Proofs.Ytkhkgfihodljmaa.EvKit
set_option linter.unusedVariables false
theorem ev_get {α : Type} {g : Nat → Option α} {r : α} (h : Ev g r) : ∃ k, g k = some r := by
  obtain ⟨n, h⟩ := h
  exact ⟨n, h n (Nat.le_refl _)⟩
theorem eqIntSS_l0 (l : List (List Int)) (hl : l.length ≤ 1048576) (hr : ∀ x ∈ l, x.length ≤ 1048576) (d : Nat) : ∀ i : Nat, i + d = l.length → Ev (fun k => laws_eqIntSS.l0 k l l i) true := by
  induction d with
  | zero =>
    intro i hi
    refine Ev.succ ?_
    simp only [laws_eqIntSS.l0, show ¬ ((i : Int) < (l.length : Int)) by omega, if_false]
    exact Ev.some rfl
  | succ d ih =>
    intro i hi
    refine Ev.succ ?_
    have hm : rd_L2 l (i : Int) ∈ l := by unfold rd_L2; rw [Int.toNat_natCast]; exact getD_mem l i _ (by omega)
    simp only [laws_eqIntSS.l0, show ((i : Int) < (l.length : Int)) by omega, show (0 : Int) ≤ (i : Int) by omega, if_true]
    refine Ev.bnd (eqIntS_ev _ (by have := hr _ hm; omega)) (Ev.pos rfl ?_)
    rw [show wrap64 ((i : Int) + 1) = ((i + 1 : Nat) : Int) by rw [wrap64_id (by omega) (by omega)]; omega]
    exact ih (i + 1) (by omega)
theorem eqIntSS_ev (l : List (List Int)) (hl : l.length ≤ 1048576) (hr : ∀ x ∈ l, x.length ≤ 1048576) : Ev (fun k => laws_eqIntSS.f k l l) true := by
  simp only [laws_eqIntSS.f, if_true]
  exact eqIntSS_l0 l hl hr l.length 0 (by omega)
set_option maxHeartbeats 2000000 in
theorem flat_law (A0 : Option Addr) (c0 : Nat) (l0 : List S101) (A1 : Option Addr) (c1 : Nat) (l1 : List S103) (w : World)
    (hr0 : Kd.C k101 w A0 l0.length l0) (hc0 : l0.length ≤ c0) (hr1 : Kd.C k103 w A1 l1.length l1) (hc1 : l1.length ≤ c1) (hl : l0.length ≤ 9223372036854775807) (hm : l1.length ≤ 9223372036854775807) :
    Calls Try.prog 11 #[.agg #[.slice A0 l0.length c0, .slice A1 l1.length c1]] w fun e w' => e = .returned (.bool true) ∧ Below w.heap.size w w' := by
  obtain ⟨z, hz, hb⟩ := szChart_eq l0 l1 hl hm
  by_cases h0 : z < 0
  · exact law_flat_big A0 c0 l0 A1 c1 l1 w z hr0 hc0 hr1 hc1 hz h0
  obtain ⟨hl2, hm2⟩ := hb h0
  obtain ⟨k0, e0⟩ := ev_get (toChart_ev l0 l1 hl2 hm2)
  obtain ⟨t, b, t1, t2, i1, i2⟩ := flat_both (l0.map cpS) (l1.map cpA)
  obtain ⟨k1, e1⟩ := ev_get i2
  obtain ⟨k2, e2⟩ := ev_get i1
  obtain ⟨k3, e3⟩ := ev_get (eqIntSS_ev t (by omega) (fun x hx => by have := t2 x hx; omega))
  obtain ⟨k4, e4⟩ := ev_get (eqChart_ev (l0.map cpS) (l1.map cpA) (by simpa using hl2) (by simpa using hm2))
  obtain ⟨st', ar', m5⟩ := markChart_ev (l0.map cpS) (l1.map cpA) (by simpa using hl2) (by simpa using hm2)
  obtain ⟨k5, e5⟩ := ev_get m5
  have ht := tot_le t 6 t2
  obtain ⟨k6, e6⟩ := ev_get (markIntSS_ev t 1 (by omega) (by omega) (by omega))
  obtain ⟨k7, e7⟩ := ev_get (heldIntSS_ev t 1 (by omega) (by omega) (by omega))
  exact law_flat A0 c0 l0 A1 c1 l1 w _ _ st' ar' t _ b z _ _ k0 k1 k2 k3 k4 k5 k6 k7 hr0 hc0 hr1 hc1 hz h0 e0 e1 e2 e3 e4 e5 (by omega) e6 e7 (by omega)
end Go.Proofs.Ytkhkgfihodljmaa.Pure
