/- FnExactRunFlat: the walk and the plain law, joined. -/
import Derived.Test.YtkhkgfihodljmaaRfx
import Derived.Test.YtkhkgfihodljmaaPureRfl
import Derived.Test.YtkhkgfihodljmaaPureMss
import Derived.Test.YtkhkgfihodljmaaPureIntSS
namespace Go.Proofs.Ytkhkgfihodljmaa.Pure
open Go.RowKit Go.Proofs.YtkhkgfihodljmaaW.PrintWords Go.Proofs.YtkhkgfihodljmaaW.PrintLast Go.Proofs.Ytkhkgfihodljmaa.Pr Go.Proofs.Ytkhkgfihodljmaa.EvKit
set_option linter.unusedVariables false
theorem ev_got {α : Type} {g : Nat → Option α} {r : α} (h : Ev g r) : ∃ k, g k = some r := by
  obtain ⟨n, h⟩ := h
  exact ⟨n, h n (Nat.le_refl _)⟩
set_option maxHeartbeats 2000000 in
theorem run_flat_law (A0 : Option Addr) (c0 : Nat) (l0 : List (List Int)) (a1 : Int) (A2 : Option Addr) (c2 : Nat) (l2 : List Int) (w : World) (hr0 : Kd.C (Kd.slice 3 (Kd.int .i64)) w A0 l0.length l0) (hc0 : l0.length ≤ c0) (hn0 : l0.length * 24 ≤ 140737488351232)
    (hq0 : ∀ x ∈ l0, x.length ≤ maxLen ∧ x.length * 8 ≤ 140737488351232 ∧ ∀ y ∈ x, (Lit.int .i64 y).wf = true) (h1 : (Lit.int .i64 a1).wf = true) (hr2 : Kd.C (Kd.int .i64) w A2 l2.length l2) (hc2 : l2.length ≤ c2) (hn2 : l2.length * 8 ≤ 140737488351232) (hq2 : ∀ x ∈ l2, (Lit.int .i64 x).wf = true) :
    Calls Try.prog 5 #[.slice A0 l0.length c0, .int .i64 a1, .slice A2 l2.length c2] w fun e w' => e = .returned (.bool true) ∧ Below w.heap.size w w' := by
  by_cases hbig : (l2.length : Int) > 1048576
  · exact law_run_big A0 c0 l0 a1 A2 c2 l2 w hr0 hc0 hr2 hc2 hbig
  obtain ⟨z, hz', hb⟩ := szIntSS_ev l0 1048576 (by omega) (by omega) (by omega) (fun x hx => by have := (hq0 x hx).2.1; omega)
  obtain ⟨kz, hz⟩ := ev_got hz'
  by_cases h0 : z < 0
  · exact law_run_sz A0 c0 l0 a1 A2 c2 l2 w hr0 hc0 hr2 hc2 kz z hbig hz h0
  obtain ⟨_, g1, g2⟩ := hb h0
  obtain ⟨y, b, hy, i1, i2⟩ := runFlat_both l0 a1 l2 (by omega)
  obtain ⟨k0, e0⟩ := ev_got (toIntSS_ev l0 g1 g2)
  obtain ⟨k1, e1⟩ := ev_got (toIntS_ev l2 (by omega))
  obtain ⟨k2, e2⟩ := ev_got i2
  obtain ⟨k3, e3⟩ := ev_got i1
  obtain ⟨k4, e4⟩ := ev_got (eqIntS_ev y (by omega))
  obtain ⟨k5, e5⟩ := ev_got (eqIntSS_ev l0 g1 g2)
  obtain ⟨k6, e6⟩ := ev_got (eqIntS_ev l2 (by omega))
  have ht := tot_le l0 1048576 g2
  obtain ⟨k7, e7⟩ := ev_got (markIntSS_ev l0 1 (by omega) (by omega) g1)
  obtain ⟨k8, e8⟩ := ev_got (markIntS_ev l2 (1 + tot l0) (by omega) (by omega))
  obtain ⟨k9, e9⟩ := ev_got (markIntS_ev y 1 (by omega) (by omega))
  obtain ⟨ka, ea⟩ := ev_got (heldIntS_ev y.length 1 (by omega) (by omega))
  exact law_run A0 c0 l0 a1 A2 c2 l2 w hr0 hc0 hr2 hc2 y b _ _ _ z _ _ _ kz k0 k1 k2 k3 k4 k5 k6 k7 k8 k9 ka 0 hbig hz h0 e0 e1 e2 e3 e4 e5 e6 e7 e8 (by omega) e9 ea (by omega)
end Go.Proofs.Ytkhkgfihodljmaa.Pure
