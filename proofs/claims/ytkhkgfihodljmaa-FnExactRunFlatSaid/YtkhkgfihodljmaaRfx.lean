/- FnExactRunFlat, walked by hand (gen-runflat.py). -/
import Derived.Test.YtkhkgfihodljmaaMss
import Derived.Test.YtkhkgfihodljmaaIv
import Derived.Test.YtkhkgfihodljmaaRfl
import Derived.Test.YtkhkgfihodljmaaPr7
import Derived.Test.YtkhkgfihodljmaaPr21
import Derived.Test.YtkhkgfihodljmaaPr23
import Derived.Test.YtkhkgfihodljmaaPr24
namespace Go.Proofs.Ytkhkgfihodljmaa.Pr
open Go.RowKit Go.Proofs.YtkhkgfihodljmaaW.PrintWords Go.Proofs.YtkhkgfihodljmaaW.PrintLast Go.Proofs.YtkhkgfihodljmaaW.PrintMore
attribute [local go_sem] bne_self_eq_false
set_option linter.unusedVariables false
set_option linter.unusedSimpArgs false

set_option maxHeartbeats 4000000 in
set_option maxRecDepth 100000 in
theorem law_run_big (A0 : Option Addr) (c0 : Nat) (l0 : List (List Int)) (a1 : Int) (A2 : Option Addr) (c2 : Nat) (l2 : List Int) (w : World) (hr0 : Kd.C (Kd.slice 3 (Kd.int .i64)) w A0 l0.length l0) (hc0 : l0.length ≤ c0) (hr2 : Kd.C (Kd.int .i64) w A2 l2.length l2) (hc2 : l2.length ≤ c2)
    (hbig : (l2.length : Int) > 1048576) :
    Calls Try.prog 5 #[.slice A0 l0.length c0, .int .i64 a1, .slice A2 l2.length c2] w fun e w' => e = .returned (.bool true) ∧ Below w.heap.size w w' := by
  have HR0 := Aside0.mk hr0
  have HC0 := Aside0.mk hc0
  have HR2 := Aside0.mk hr2
  have HC2 := Aside0.mk hc2
  clear hr0 hc0 hr2 hc2
  have c1b0 : decide (1048576 < (l2.length : Int)) = true := decide_eq_true hbig
  have c1b1 : decide (1048576 < l2.length) = true := decide_eq_true (by omega)
  clear hbig
  go_enter Try.func5, Try.ntmps5
  go_wp2_with fail
  go_ret
  exact ⟨rfl, Below.refl _ _⟩
set_option maxHeartbeats 4000000 in
set_option maxRecDepth 100000 in
theorem law_run_sz (A0 : Option Addr) (c0 : Nat) (l0 : List (List Int)) (a1 : Int) (A2 : Option Addr) (c2 : Nat) (l2 : List Int) (w : World) (hr0 : Kd.C (Kd.slice 3 (Kd.int .i64)) w A0 l0.length l0) (hc0 : l0.length ≤ c0) (hr2 : Kd.C (Kd.int .i64) w A2 l2.length l2) (hc2 : l2.length ≤ c2)
    (kz : Nat) (z : Int) (hbig : ¬ (l2.length : Int) > 1048576) (hz : laws_szIntSS.f kz l0 1048576 = some z) (hz0 : z < 0) :
    Calls Try.prog 5 #[.slice A0 l0.length c0, .int .i64 a1, .slice A2 l2.length c2] w fun e w' => e = .returned (.bool true) ∧ Below w.heap.size w w' := by
  have HR0 := Aside0.mk hr0
  have HC0 := Aside0.mk hc0
  have HR2 := Aside0.mk hr2
  have HC2 := Aside0.mk hc2
  clear hr0 hc0 hr2 hc2
  have c1b0 : decide (1048576 < (l2.length : Int)) = false := decide_eq_false hbig
  have c1b1 : decide (1048576 < l2.length) = false := decide_eq_false (by omega)
  clear hbig
  have Z := Aside0.mk hz
  have bz : decide (z < 0) = true := decide_eq_true hz0
  clear hz hz0
  go_enter Try.func5, Try.ntmps5
  have HB := Aside0.mk (Below.refl w.heap.size w)
  have HZ : Aside0 (w.heap.size ≤ w.heap.size) := ⟨Nat.le_refl _⟩
  go_wp2_with fail
  go_at_call 21
  refine (laws_szIntSS.calls kz _ _ l0 1048576 z _ (Kd.C_below HR0.out HB.out) HC0.out Z.out).mono ?_
  rintro e w1 ⟨rfl, hd⟩
  have hb := drawn_below hd
  clear hd
  have n_ := Aside0.mk (below_step HB.out hb)
  clear HB
  have HB := n_
  clear n_
  have n_ := Aside0.mk (And.intro (hb.size) HZ.out)
  clear HZ
  have HZ := n_
  clear n_
  clear hb
  go_wp2_with fail
  go_ret
  exact ⟨rfl, HB.out⟩

set_option maxHeartbeats 4000000 in
set_option maxRecDepth 100000 in
theorem law_run (A0 : Option Addr) (c0 : Nat) (l0 : List (List Int)) (a1 : Int) (A2 : Option Addr) (c2 : Nat) (l2 : List Int) (w : World) (hr0 : Kd.C (Kd.slice 3 (Kd.int .i64)) w A0 l0.length l0) (hc0 : l0.length ≤ c0) (hr2 : Kd.C (Kd.int .i64) w A2 l2.length l2) (hc2 : l2.length ≤ c2)
    (y : List Int) (b : Bool) (t0 : List (List Int)) (t2 t3 : List Int) (z m1 m2 mm : Int) (kz k0 k1 k2 k3 k4 k5 k6 k7 k8 k9 ka kb : Nat) (hbig : ¬ (l2.length : Int) > 1048576) (hz : laws_szIntSS.f kz l0 1048576 = some z) (hz0 : ¬ z < 0)
    (h0 : laws_toIntSS.f k0 l0 = some l0) (h1 : laws_toIntS.f k1 l2 = some l2) (h2 : spec_RunFlat.f k2 l0 a1 l2 = some (y, b)) (h3 : impl_RunFlat.f k3 l0 a1 l2 = some (y, b))
    (h4 : laws_eqIntS.f k4 y y = some true) (h5 : laws_eqIntSS.f k5 l0 l0 = some true) (h6 : laws_eqIntS.f k6 l2 l2 = some true) (h7 : laws_markIntSS.f k7 l0 1 = some (m1, t0)) (h8 : laws_markIntS.f k8 l2 m1 = some (m2, t2)) (hm2 : ¬ m2 < 0)
    (h9 : laws_markIntS.f k9 y 1 = some (mm, t3)) (ha : laws_heldIntS.f ka t3 1 = some mm) (hmm : ¬ mm < 0) :
    Calls Try.prog 5 #[.slice A0 l0.length c0, .int .i64 a1, .slice A2 l2.length c2] w fun e w' => e = .returned (.bool true) ∧ Below w.heap.size w w' := by
  have HR0 := Aside0.mk hr0
  have HC0 := Aside0.mk hc0
  have HR2 := Aside0.mk hr2
  have HC2 := Aside0.mk hc2
  clear hr0 hc0 hr2 hc2
  have c1b0 : decide (1048576 < (l2.length : Int)) = false := decide_eq_false hbig
  have c1b1 : decide (1048576 < l2.length) = false := decide_eq_false (by omega)
  clear hbig
  have E0 := Aside0.mk h0
  clear h0
  have E1 := Aside0.mk h1
  clear h1
  have E2 := Aside0.mk h2
  clear h2
  have E3 := Aside0.mk h3
  clear h3
  have E4 := Aside0.mk h4
  clear h4
  have E5 := Aside0.mk h5
  clear h5
  have E6 := Aside0.mk h6
  clear h6
  have E7 := Aside0.mk h7
  clear h7
  have E8 := Aside0.mk h8
  clear h8
  have E9 := Aside0.mk h9
  clear h9
  have Ea := Aside0.mk ha
  clear ha
  have Z := Aside0.mk hz
  have bz : decide (z < 0) = false := decide_eq_false hz0
  have bm2 : decide (m2 < 0) = false := decide_eq_false hm2
  have bmm : decide (mm < 0) = false := decide_eq_false hmm
  clear hz hz0 hm2 hmm
  go_enter Try.func5, Try.ntmps5
  have HB := Aside0.mk (Below.refl w.heap.size w)
  have HZ : Aside0 (w.heap.size ≤ w.heap.size) := ⟨Nat.le_refl _⟩
  go_wp2_with fail
  go_at_call 21
  refine (laws_szIntSS.calls kz _ _ l0 1048576 z _ (Kd.C_below HR0.out HB.out) HC0.out Z.out).mono ?_
  rintro e w1 ⟨rfl, hd⟩
  have hb := drawn_below hd
  clear hd
  have n_ := Aside0.mk (below_step HB.out hb)
  clear HB
  have HB := n_
  clear n_
  have n_ := Aside0.mk (And.intro (hb.size) HZ.out)
  clear HZ
  have HZ := n_
  clear n_
  clear hb
  go_wp2_with fail
  go_at_call 23
  refine (laws_toIntSS.calls k0 _ _ l0 l0 _ (Kd.C_below HR0.out HB.out) HC0.out E0.out).mono ?_
  rintro e w2 ⟨va, rfl, ho0, hb⟩
  have n_ := Aside0.mk (below_step HB.out hb)
  clear HB
  have HB := n_
  clear n_
  have n_ := Aside0.mk (And.intro (hb.size) HZ.out)
  clear HZ
  have HZ := n_
  clear n_
  clear hb
  obtain ⟨A_T0, c_T0, e_T0⟩ := Kd.S_slice ho0
  subst e_T0
  have T0 := Aside0.mk (S_mk (base := w.heap.size) ho0 (by have z := HZ.out; omega))
  clear ho0
  go_wp2_with fail
  go_at_call 24
  refine (laws_toIntS.calls k1 _ _ l2 l2 _ (Kd.C_below HR2.out HB.out) HC2.out E1.out).mono ?_
  rintro e w3 ⟨va, rfl, ho0, hb⟩
  have n_ := Aside0.mk (Kd.S_below T0.out hb)
  clear T0
  have T0 := n_
  clear n_
  have n_ := Aside0.mk (below_step HB.out hb)
  clear HB
  have HB := n_
  clear n_
  have n_ := Aside0.mk (And.intro (hb.size) HZ.out)
  clear HZ
  have HZ := n_
  clear n_
  clear hb
  obtain ⟨A_T2, c_T2, e_T2⟩ := Kd.R_slice ho0
  subst e_T2
  have T2 := Aside0.mk (R_mk (base := w.heap.size) ho0 (by have z := HZ.out; omega))
  clear ho0
  go_wp2_with fail
  go_at_call 22
  refine (spec_RunFlat.calls k2 _ _ l0 a1 _ _ l2 y b _ (Kd.S_reads' T0.out).2.2 (Kd.S_reads' T0.out).2.1 (Kd.R_reads' T2.out).2.2 (Kd.R_reads' T2.out).2.1 E2.out).mono ?_
  rintro e w4 ⟨va, rfl, ho0, hb⟩
  have n_ := Aside0.mk (Kd.S_below T0.out hb)
  clear T0
  have T0 := n_
  clear n_
  have n_ := Aside0.mk (Kd.R_below T2.out hb)
  clear T2
  have T2 := n_
  clear n_
  have n_ := Aside0.mk (below_step HB.out hb)
  clear HB
  have HB := n_
  clear n_
  have n_ := Aside0.mk (And.intro (hb.size) HZ.out)
  clear HZ
  have HZ := n_
  clear n_
  clear hb
  obtain ⟨A_W0, c_W0, e_W0⟩ := Kd.R_slice ho0
  subst e_W0
  have W0 := Aside0.mk (R_mk (base := w.heap.size) ho0 (by have z := HZ.out; omega))
  clear ho0
  clear T0
  clear T2
  go_wp2_with fail
  go_at_call 23
  refine (laws_toIntSS.calls k0 _ _ l0 l0 _ (Kd.C_below HR0.out HB.out) HC0.out E0.out).mono ?_
  rintro e w5 ⟨va, rfl, ho0, hb⟩
  have n_ := Aside0.mk (Kd.R_below W0.out hb)
  clear W0
  have W0 := n_
  clear n_
  have n_ := Aside0.mk (below_step HB.out hb)
  clear HB
  have HB := n_
  clear n_
  have n_ := Aside0.mk (And.intro (hb.size) HZ.out)
  clear HZ
  have HZ := n_
  clear n_
  clear hb
  obtain ⟨A_X0, c_X0, e_X0⟩ := Kd.S_slice ho0
  subst e_X0
  have X0 := Aside0.mk (S_mk (base := w.heap.size) ho0 (by have z := HZ.out; omega))
  clear ho0
  go_wp2_with fail
  go_at_call 24
  refine (laws_toIntS.calls k1 _ _ l2 l2 _ (Kd.C_below HR2.out HB.out) HC2.out E1.out).mono ?_
  rintro e w6 ⟨va, rfl, ho0, hb⟩
  have n_ := Aside0.mk (Kd.R_below W0.out hb)
  clear W0
  have W0 := n_
  clear n_
  have n_ := Aside0.mk (Kd.S_below X0.out hb)
  clear X0
  have X0 := n_
  clear n_
  have n_ := Aside0.mk (below_step HB.out hb)
  clear HB
  have HB := n_
  clear n_
  have n_ := Aside0.mk (And.intro (hb.size) HZ.out)
  clear HZ
  have HZ := n_
  clear n_
  clear hb
  obtain ⟨A_X2, c_X2, e_X2⟩ := Kd.R_slice ho0
  subst e_X2
  have X2 := Aside0.mk (R_mk (base := w.heap.size) ho0 (by have z := HZ.out; omega))
  clear ho0
  go_wp2_with fail
  go_at_call 25
  refine (impl_RunFlat.calls k3 _ _ l0 a1 _ _ l2 y b _ (Kd.S_reads' X0.out).2.2 (Kd.S_reads' X0.out).2.1 (Kd.R_reads' X2.out).2.2 (Kd.R_reads' X2.out).2.1 E3.out).mono ?_
  rintro e w7 ⟨va, rfl, ho0, hb⟩
  have n_ := Aside0.mk (Kd.R_below W0.out hb)
  clear W0
  have W0 := n_
  clear n_
  have n_ := Aside0.mk (Kd.S_below X0.out hb)
  clear X0
  have X0 := n_
  clear n_
  have n_ := Aside0.mk (Kd.R_below X2.out hb)
  clear X2
  have X2 := n_
  clear n_
  have n_ := Aside0.mk (below_step HB.out hb)
  clear HB
  have HB := n_
  clear n_
  have n_ := Aside0.mk (And.intro (hb.size) HZ.out)
  clear HZ
  have HZ := n_
  clear n_
  clear hb
  obtain ⟨A_G, c_G, e_G⟩ := Kd.R_slice ho0
  subst e_G
  have G := Aside0.mk (R_mk (base := w.heap.size) ho0 (by have z := HZ.out; omega))
  clear ho0
  go_wp2_with fail
  go_at_call 26
  refine (laws_eqIntS.calls k4 _ _ y _ _ y true _ (Kd.R_reads' G.out).2.2 (Kd.R_reads' G.out).2.1 (Kd.R_reads' W0.out).2.2 (Kd.R_reads' W0.out).2.1 E4.out).mono ?_
  rintro e w8 ⟨rfl, hd⟩
  have hb := drawn_below hd
  clear hd
  have n_ := Aside0.mk (Kd.R_below W0.out hb)
  clear W0
  have W0 := n_
  clear n_
  have n_ := Aside0.mk (Kd.S_below X0.out hb)
  clear X0
  have X0 := n_
  clear n_
  have n_ := Aside0.mk (Kd.R_below X2.out hb)
  clear X2
  have X2 := n_
  clear n_
  have n_ := Aside0.mk (Kd.R_below G.out hb)
  clear G
  have G := n_
  clear n_
  have n_ := Aside0.mk (below_step HB.out hb)
  clear HB
  have HB := n_
  clear n_
  have n_ := Aside0.mk (And.intro (hb.size) HZ.out)
  clear HZ
  have HZ := n_
  clear n_
  clear hb
  go_wp2_with fail
  go_at_call 23
  refine (laws_toIntSS.calls k0 _ _ l0 l0 _ (Kd.C_below HR0.out HB.out) HC0.out E0.out).mono ?_
  rintro e w9 ⟨va, rfl, ho0, hb⟩
  have n_ := Aside0.mk (Kd.R_below W0.out hb)
  clear W0
  have W0 := n_
  clear n_
  have n_ := Aside0.mk (Kd.S_below X0.out hb)
  clear X0
  have X0 := n_
  clear n_
  have n_ := Aside0.mk (Kd.R_below X2.out hb)
  clear X2
  have X2 := n_
  clear n_
  have n_ := Aside0.mk (Kd.R_below G.out hb)
  clear G
  have G := n_
  clear n_
  have n_ := Aside0.mk (below_step HB.out hb)
  clear HB
  have HB := n_
  clear n_
  have n_ := Aside0.mk (And.intro (hb.size) HZ.out)
  clear HZ
  have HZ := n_
  clear n_
  clear hb
  obtain ⟨A_V0, c_V0, e_V0⟩ := Kd.S_slice ho0
  subst e_V0
  have V0 := Aside0.mk (S_mk (base := w.heap.size) ho0 (by have z := HZ.out; omega))
  clear ho0
  go_wp2_with fail
  go_at_call 27
  refine (laws_eqIntSS.calls k5 _ _ l0 _ _ l0 true _ (Kd.S_reads' X0.out).2.2 (Kd.S_reads' X0.out).2.1 (Kd.S_reads' V0.out).2.2 (Kd.S_reads' V0.out).2.1 E5.out).mono ?_
  rintro e w10 ⟨rfl, hd⟩
  have hb := drawn_below hd
  clear hd
  have n_ := Aside0.mk (Kd.R_below W0.out hb)
  clear W0
  have W0 := n_
  clear n_
  have n_ := Aside0.mk (Kd.S_below X0.out hb)
  clear X0
  have X0 := n_
  clear n_
  have n_ := Aside0.mk (Kd.R_below X2.out hb)
  clear X2
  have X2 := n_
  clear n_
  have n_ := Aside0.mk (Kd.R_below G.out hb)
  clear G
  have G := n_
  clear n_
  have n_ := Aside0.mk (Kd.S_below V0.out hb)
  clear V0
  have V0 := n_
  clear n_
  have n_ := Aside0.mk (below_step HB.out hb)
  clear HB
  have HB := n_
  clear n_
  have n_ := Aside0.mk (And.intro (hb.size) HZ.out)
  clear HZ
  have HZ := n_
  clear n_
  clear hb
  clear V0
  go_wp2_with fail
  go_at_call 24
  refine (laws_toIntS.calls k1 _ _ l2 l2 _ (Kd.C_below HR2.out HB.out) HC2.out E1.out).mono ?_
  rintro e w11 ⟨va, rfl, ho0, hb⟩
  have n_ := Aside0.mk (Kd.R_below W0.out hb)
  clear W0
  have W0 := n_
  clear n_
  have n_ := Aside0.mk (Kd.S_below X0.out hb)
  clear X0
  have X0 := n_
  clear n_
  have n_ := Aside0.mk (Kd.R_below X2.out hb)
  clear X2
  have X2 := n_
  clear n_
  have n_ := Aside0.mk (Kd.R_below G.out hb)
  clear G
  have G := n_
  clear n_
  have n_ := Aside0.mk (below_step HB.out hb)
  clear HB
  have HB := n_
  clear n_
  have n_ := Aside0.mk (And.intro (hb.size) HZ.out)
  clear HZ
  have HZ := n_
  clear n_
  clear hb
  obtain ⟨A_V2, c_V2, e_V2⟩ := Kd.R_slice ho0
  subst e_V2
  have V2 := Aside0.mk (R_mk (base := w.heap.size) ho0 (by have z := HZ.out; omega))
  clear ho0
  go_wp2_with fail
  go_at_call 26
  refine (laws_eqIntS.calls k6 _ _ l2 _ _ l2 true _ (Kd.R_reads' X2.out).2.2 (Kd.R_reads' X2.out).2.1 (Kd.R_reads' V2.out).2.2 (Kd.R_reads' V2.out).2.1 E6.out).mono ?_
  rintro e w12 ⟨rfl, hd⟩
  have hb := drawn_below hd
  clear hd
  have n_ := Aside0.mk (Kd.R_below W0.out hb)
  clear W0
  have W0 := n_
  clear n_
  have n_ := Aside0.mk (Kd.S_below X0.out hb)
  clear X0
  have X0 := n_
  clear n_
  have n_ := Aside0.mk (Kd.R_below X2.out hb)
  clear X2
  have X2 := n_
  clear n_
  have n_ := Aside0.mk (Kd.R_below G.out hb)
  clear G
  have G := n_
  clear n_
  have n_ := Aside0.mk (Kd.R_below V2.out hb)
  clear V2
  have V2 := n_
  clear n_
  have n_ := Aside0.mk (below_step HB.out hb)
  clear HB
  have HB := n_
  clear n_
  have n_ := Aside0.mk (And.intro (hb.size) HZ.out)
  clear HZ
  have HZ := n_
  clear n_
  clear hb
  clear V2
  go_wp2_with fail
  go_at_call 28
  refine (laws_markIntSS.calls k7 (Iv w4.heap.size w5.heap.size) _ l0 1 m1 t0 w _ HB.out X0.out E7.out).mono ?_
  rintro e w13 ⟨rfl, ho0, hb2, hk⟩
  clear X0 ho0
  have n_ := Aside0.mk (R_iv W0.out hk (by have z := HZ.out; omega))
  clear W0
  have W0 := n_
  clear n_
  have n_ := Aside0.mk (R_iv X2.out hk (by have z := HZ.out; omega))
  clear X2
  have X2 := n_
  clear n_
  have n_ := Aside0.mk (R_iv G.out hk (by have z := HZ.out; omega))
  clear G
  have G := n_
  clear n_
  have n_ := Aside0.mk (hb2)
  clear HB
  have HB := n_
  clear n_
  have n_ := Aside0.mk (And.intro (hk.1) HZ.out)
  clear HZ
  have HZ := n_
  clear n_
  clear hk hb2
  go_wp2_with fail
  go_at_call 29
  refine (laws_markIntS.calls k8 (Iv w5.heap.size w6.heap.size) _ l2 m1 m2 t2 w _ HB.out X2.out E8.out).mono ?_
  rintro e w14 ⟨rfl, ho0, hb2, hk⟩
  clear X2 ho0
  have n_ := Aside0.mk (R_iv W0.out hk (by have z := HZ.out; omega))
  clear W0
  have W0 := n_
  clear n_
  have n_ := Aside0.mk (R_iv G.out hk (by have z := HZ.out; omega))
  clear G
  have G := n_
  clear n_
  have n_ := Aside0.mk (hb2)
  clear HB
  have HB := n_
  clear n_
  have n_ := Aside0.mk (And.intro (hk.1) HZ.out)
  clear HZ
  have HZ := n_
  clear n_
  clear hk hb2
  go_wp2_with fail
  go_at_call 26
  refine (laws_eqIntS.calls k4 _ _ y _ _ y true _ (Kd.R_reads' G.out).2.2 (Kd.R_reads' G.out).2.1 (Kd.R_reads' W0.out).2.2 (Kd.R_reads' W0.out).2.1 E4.out).mono ?_
  rintro e w15 ⟨rfl, hd⟩
  have hb := drawn_below hd
  clear hd
  have n_ := Aside0.mk (Kd.R_below W0.out hb)
  clear W0
  have W0 := n_
  clear n_
  have n_ := Aside0.mk (Kd.R_below G.out hb)
  clear G
  have G := n_
  clear n_
  have n_ := Aside0.mk (below_step HB.out hb)
  clear HB
  have HB := n_
  clear n_
  have n_ := Aside0.mk (And.intro (hb.size) HZ.out)
  clear HZ
  have HZ := n_
  clear n_
  clear hb
  go_wp2_with fail
  go_at_call 29
  refine (laws_markIntS.calls k9 (Iv w6.heap.size w7.heap.size) _ y 1 mm t3 w _ HB.out G.out E9.out).mono ?_
  rintro e w16 ⟨rfl, ho1, hb2, hk⟩
  have ho0 := Kd.R_reok rfl ho1 (fun k e => G.out.1 k e)
  clear G ho1
  have n_ := Aside0.mk (R_iv W0.out hk (by have z := HZ.out; omega))
  clear W0
  have W0 := n_
  clear n_
  have n_ := Aside0.mk (hb2)
  clear HB
  have HB := n_
  clear n_
  have n_ := Aside0.mk (And.intro (hk.1) HZ.out)
  clear HZ
  have HZ := n_
  clear n_
  have G := Aside0.mk ho0
  have HE := Aside0.mk (Kd.R_reads' G.out).1
  clear ho0 hk hb2
  go_wp2_with fail
  go_at_call 30
  refine (calls_of_args (by rw [HE.out]) (laws_heldIntS.calls ka A_G c_G t3 1 mm _ (Kd.R_reads' G.out).2.2 (by rw [← HE.out]; exact (Kd.R_reads' G.out).2.1) Ea.out)).mono ?_
  rintro e w17 ⟨rfl, hd⟩
  have hb := drawn_below hd
  clear hd
  have n_ := Aside0.mk (Kd.R_below W0.out hb)
  clear W0
  have W0 := n_
  clear n_
  have n_ := Aside0.mk (Kd.R_below G.out hb)
  clear G
  have G := n_
  clear n_
  have n_ := Aside0.mk (below_step HB.out hb)
  clear HB
  have HB := n_
  clear n_
  have n_ := Aside0.mk (And.intro (hb.size) HZ.out)
  clear HZ
  have HZ := n_
  clear n_
  clear hb
  go_wp2_with fail
  go_at_call 23
  refine (laws_toIntSS.calls k0 _ _ l0 l0 _ (Kd.C_below HR0.out HB.out) HC0.out E0.out).mono ?_
  rintro e w18 ⟨va, rfl, ho0, hb⟩
  have n_ := Aside0.mk (Kd.R_below W0.out hb)
  clear W0
  have W0 := n_
  clear n_
  have n_ := Aside0.mk (Kd.R_below G.out hb)
  clear G
  have G := n_
  clear n_
  have n_ := Aside0.mk (below_step HB.out hb)
  clear HB
  have HB := n_
  clear n_
  have n_ := Aside0.mk (And.intro (hb.size) HZ.out)
  clear HZ
  have HZ := n_
  clear n_
  clear hb
  obtain ⟨A_U0, c_U0, e_U0⟩ := Kd.S_slice ho0
  subst e_U0
  have U0 := Aside0.mk (S_mk (base := w.heap.size) ho0 (by have z := HZ.out; omega))
  clear ho0
  go_wp2_with fail
  go_at_call 24
  refine (laws_toIntS.calls k1 _ _ l2 l2 _ (Kd.C_below HR2.out HB.out) HC2.out E1.out).mono ?_
  rintro e w19 ⟨va, rfl, ho0, hb⟩
  have n_ := Aside0.mk (Kd.R_below W0.out hb)
  clear W0
  have W0 := n_
  clear n_
  have n_ := Aside0.mk (Kd.R_below G.out hb)
  clear G
  have G := n_
  clear n_
  have n_ := Aside0.mk (Kd.S_below U0.out hb)
  clear U0
  have U0 := n_
  clear n_
  have n_ := Aside0.mk (below_step HB.out hb)
  clear HB
  have HB := n_
  clear n_
  have n_ := Aside0.mk (And.intro (hb.size) HZ.out)
  clear HZ
  have HZ := n_
  clear n_
  clear hb
  obtain ⟨A_U2, c_U2, e_U2⟩ := Kd.R_slice ho0
  subst e_U2
  have U2 := Aside0.mk (R_mk (base := w.heap.size) ho0 (by have z := HZ.out; omega))
  clear ho0
  go_wp2_with fail
  go_at_call 25
  refine (impl_RunFlat.calls k3 _ _ l0 a1 _ _ l2 y b _ (Kd.S_reads' U0.out).2.2 (Kd.S_reads' U0.out).2.1 (Kd.R_reads' U2.out).2.2 (Kd.R_reads' U2.out).2.1 E3.out).mono ?_
  rintro e w20 ⟨va, rfl, ho0, hb⟩
  have n_ := Aside0.mk (Kd.R_below W0.out hb)
  clear W0
  have W0 := n_
  clear n_
  have n_ := Aside0.mk (Kd.R_below G.out hb)
  clear G
  have G := n_
  clear n_
  have n_ := Aside0.mk (Kd.S_below U0.out hb)
  clear U0
  have U0 := n_
  clear n_
  have n_ := Aside0.mk (Kd.R_below U2.out hb)
  clear U2
  have U2 := n_
  clear n_
  have n_ := Aside0.mk (below_step HB.out hb)
  clear HB
  have HB := n_
  clear n_
  have n_ := Aside0.mk (And.intro (hb.size) HZ.out)
  clear HZ
  have HZ := n_
  clear n_
  clear hb
  obtain ⟨A_H, c_H, e_H⟩ := Kd.R_slice ho0
  subst e_H
  have H := Aside0.mk (R_mk (base := w.heap.size) ho0 (by have z := HZ.out; omega))
  clear ho0
  clear U0
  clear U2
  go_wp2_with fail
  go_at_call 26
  refine (laws_eqIntS.calls k4 _ _ y _ _ y true _ (Kd.R_reads' H.out).2.2 (Kd.R_reads' H.out).2.1 (Kd.R_reads' W0.out).2.2 (Kd.R_reads' W0.out).2.1 E4.out).mono ?_
  rintro e w21 ⟨rfl, hd⟩
  have hb := drawn_below hd
  clear hd
  have n_ := Aside0.mk (Kd.R_below W0.out hb)
  clear W0
  have W0 := n_
  clear n_
  have n_ := Aside0.mk (Kd.R_below G.out hb)
  clear G
  have G := n_
  clear n_
  have n_ := Aside0.mk (Kd.R_below H.out hb)
  clear H
  have H := n_
  clear n_
  have n_ := Aside0.mk (below_step HB.out hb)
  clear HB
  have HB := n_
  clear n_
  have n_ := Aside0.mk (And.intro (hb.size) HZ.out)
  clear HZ
  have HZ := n_
  clear n_
  clear hb
  go_wp2_with fail
  go_at_call 30
  refine (calls_of_args (by rw [HE.out]) (laws_heldIntS.calls ka A_G c_G t3 1 mm _ (Kd.R_reads' G.out).2.2 (by rw [← HE.out]; exact (Kd.R_reads' G.out).2.1) Ea.out)).mono ?_
  rintro e w22 ⟨rfl, hd⟩
  have hb := drawn_below hd
  clear hd
  have n_ := Aside0.mk (Kd.R_below W0.out hb)
  clear W0
  have W0 := n_
  clear n_
  have n_ := Aside0.mk (Kd.R_below G.out hb)
  clear G
  have G := n_
  clear n_
  have n_ := Aside0.mk (Kd.R_below H.out hb)
  clear H
  have H := n_
  clear n_
  have n_ := Aside0.mk (below_step HB.out hb)
  clear HB
  have HB := n_
  clear n_
  have n_ := Aside0.mk (And.intro (hb.size) HZ.out)
  clear HZ
  have HZ := n_
  clear n_
  clear hb
  go_wp2_with fail
  go_ret
  exact ⟨rfl, HB.out⟩

end Go.Proofs.Ytkhkgfihodljmaa.Pr
