/- FnExactFlatChart, walked by hand (gen-flat.py). -/
import Derived.Test.YtkhkgfihodljmaaMss
import Derived.Test.YtkhkgfihodljmaaIv
import Derived.Test.YtkhkgfihodljmaaPr8
import Derived.Test.YtkhkgfihodljmaaPr9
import Derived.Test.YtkhkgfihodljmaaPr13
import Derived.Test.YtkhkgfihodljmaaPr16
import Derived.Test.YtkhkgfihodljmaaPr17
import Derived.Test.YtkhkgfihodljmaaPr20
import Derived.Test.YtkhkgfihodljmaaPr21
import Derived.Test.YtkhkgfihodljmaaPr24
namespace Go.Proofs.Ytkhkgfihodljmaa.Pr
open Go.RowKit Go.Proofs.YtkhkgfihodljmaaW.PrintWords Go.Proofs.YtkhkgfihodljmaaW.PrintLast Go.Proofs.YtkhkgfihodljmaaW.PrintMore
attribute [local go_sem] bne_self_eq_false
set_option linter.unusedVariables false
set_option linter.unusedSimpArgs false

set_option maxHeartbeats 4000000 in
set_option maxRecDepth 100000 in
theorem law_flat (A0 : Option Addr) (c0 : Nat) (l0 : List S101) (A1 : Option Addr) (c1 : Nat) (l1 : List S103) (w : World) (st : List S88) (ar : List S90) (st' : List S88) (ar' : List S90) (t t' : List (List Int)) (b : Bool) (z mc mm : Int) (k0 k1 k2 k3 k4 k5 k6 k7 : Nat)
    (hr0 : Kd.C k101 w A0 l0.length l0) (hc0 : l0.length ≤ c0) (hr1 : Kd.C k103 w A1 l1.length l1) (hc1 : l1.length ≤ c1)
    (hz : laws_szChart.f l0 l1 1048576 = some z) (hz0 : ¬ z < 0) (h0 : laws_toChart.f k0 l0 l1 = some (st, ar)) (h1 : spec_FlatChart.f k1 st ar = some (t, b)) (h2 : impl_FlatChart.f k2 st ar = some (t, b))
    (h3 : laws_eqIntSS.f k3 t t = some true) (h4 : laws_eqChart.f k4 st ar st ar = some true) (h5 : laws_markChart.f k5 st ar 1 = some (mc, st', ar')) (hmc : ¬ mc < 0)
    (h6 : laws_markIntSS.f k6 t 1 = some (mm, t')) (h7 : laws_heldIntSS.f k7 t' 1 = some mm) (hmm : ¬ mm < 0) :
    Calls Try.prog 11 #[.agg #[.slice A0 l0.length c0, .slice A1 l1.length c1]] w fun e w' => e = .returned (.bool true) ∧ Below w.heap.size w w' := by
  have hu49 := Try.underlying49
  have hu55 := Try.underlying55
  have HR0 := Aside0.mk hr0
  have HC0 := Aside0.mk hc0
  have HR1 := Aside0.mk hr1
  have HC1 := Aside0.mk hc1
  have Z := Aside0.mk hz
  have E0 := Aside0.mk h0
  have E1 := Aside0.mk h1
  have E2 := Aside0.mk h2
  have E3 := Aside0.mk h3
  have E4 := Aside0.mk h4
  have E5 := Aside0.mk h5
  have E6 := Aside0.mk h6
  have E7 := Aside0.mk h7
  clear hr0 hc0 hr1 hc1 hz h0 h1 h2 h3 h4 h5 h6 h7
  have bz : decide (z < 0) = false := decide_eq_false hz0
  have bmc : decide (mc < 0) = false := decide_eq_false hmc
  have bmm : decide (mm < 0) = false := decide_eq_false hmm
  clear hz0 hmc hmm
  go_enter Try.func11, Try.ntmps11
  have HB := Aside0.mk (Below.refl w.heap.size w)
  have HZ : Aside0 (w.heap.size ≤ w.heap.size) := ⟨Nat.le_refl _⟩
  go_wp2_with (first | ((with_reducible refine gate_dst (N := 1) rfl ?_); refine box_event ?hg (N := 1) ?hd (cs := #[.slice A0 l0.length c0, .slice A1 l1.length c1]) (t := 49) ?hr ?_; (case hd => rfl); (case hg => rfl); (case hr => first | (go_simp; done) | (go_simp; rfl)); intro gb1 hg w1 hbox hb; have G_gb1 := Aside0.mk hg; clear hg; have hcz0 : w1.cell? ⟨gb1, 0, none⟩ = some (.slice A0 l0.length c0) := (blk_cell hbox 0).trans rfl; have hfz0 := blk_frozen hbox 0; have hcz1 : w1.cell? ⟨gb1, 1, none⟩ = some (.slice A1 l1.length c1) := (blk_cell hbox 1).trans rfl; have hfz1 := blk_frozen hbox 1))
  have n_ := Aside0.mk (below_step HB.out hb)
  clear HB
  have HB := n_
  clear n_
  have n_ := Aside0.mk (And.intro (hb.size) HZ.out)
  clear HZ
  have HZ := n_
  clear n_
  have BK1 := Aside0.mk hbox
  have L_gb1 := Aside0.mk (blk_lt hbox)
  clear hb hbox
  go_wp2_with fail
  go_at_call 31
  refine (laws_szChart.calls _ _ l0 _ _ l1 1048576 z _ (Kd.C_below HR0.out HB.out) HC0.out (Kd.C_below HR1.out HB.out) HC1.out Z.out).mono ?_
  rintro e w2 ⟨rfl, hb⟩
  have n_ := Aside0.mk (blk_below BK1.out hb)
  clear BK1
  have BK1 := n_
  clear n_
  have n_ := Aside0.mk (below_step HB.out hb)
  clear HB
  have HB := n_
  clear n_
  have n_ := Aside0.mk (And.intro (hb.size) HZ.out)
  clear HZ
  have HZ := n_
  clear n_
  clear hb
  clear hcz0 hfz0 hcz1 hfz1
  have hcz0 : w2.cell? ⟨gb1, 0, none⟩ = some (.slice A0 l0.length c0) := (blk_cell BK1.out 0).trans rfl
  have hfz0 := blk_frozen BK1.out 0
  have hcz1 : w2.cell? ⟨gb1, 1, none⟩ = some (.slice A1 l1.length c1) := (blk_cell BK1.out 1).trans rfl
  have hfz1 := blk_frozen BK1.out 1
  go_wp2_with fail
  go_at_call 33
  refine (laws_toChart.calls k0 _ _ l0 _ _ l1 st ar _ (Kd.C_below HR0.out HB.out) HC0.out (Kd.C_below HR1.out HB.out) HC1.out E0.out).mono ?_
  rintro e w3 ⟨va, vb, rfl, ho0, ho1, hb⟩
  have n_ := Aside0.mk (blk_below BK1.out hb)
  clear BK1
  have BK1 := n_
  clear n_
  have n_ := Aside0.mk (below_step HB.out hb)
  clear HB
  have HB := n_
  clear n_
  have n_ := Aside0.mk (And.intro (hb.size) HZ.out)
  clear HZ
  have HZ := n_
  clear n_
  clear hb
  obtain ⟨A_Xs, c_Xs, e_Xs⟩ := Kd.R_slice ho0
  subst e_Xs
  have Xs := Aside0.mk (R_mk (base := w.heap.size) ho0 (by have z := HZ.out; omega))
  clear ho0
  obtain ⟨A_Xa, c_Xa, e_Xa⟩ := Kd.R_slice ho1
  subst e_Xa
  have Xa := Aside0.mk (R_mk (base := w.heap.size) ho1 (by have z := HZ.out; omega))
  clear ho1
  clear hcz0 hfz0 hcz1 hfz1
  go_wp2_with fail
  go_at_call 46
  refine (spec_FlatChart.calls k1 _ _ st _ _ ar t b _ (Kd.R_reads' Xs.out).2.2 (Kd.R_reads' Xs.out).2.1 (Kd.R_reads' Xa.out).2.2 (Kd.R_reads' Xa.out).2.1 E1.out).mono ?_
  rintro e w4 ⟨va, rfl, ho0, hb⟩
  have n_ := Aside0.mk (Kd.R_below Xs.out hb)
  clear Xs
  have Xs := n_
  clear n_
  have n_ := Aside0.mk (Kd.R_below Xa.out hb)
  clear Xa
  have Xa := n_
  clear n_
  have n_ := Aside0.mk (blk_below BK1.out hb)
  clear BK1
  have BK1 := n_
  clear n_
  have n_ := Aside0.mk (below_step HB.out hb)
  clear HB
  have HB := n_
  clear n_
  have n_ := Aside0.mk (And.intro (hb.size) HZ.out)
  clear HZ
  have HZ := n_
  clear n_
  clear hb
  obtain ⟨A_W0, c_W0, e_W0⟩ := Kd.S_slice ho0
  subst e_W0
  have W0 := Aside0.mk (S_mk (base := w.heap.size) ho0 (by have z := HZ.out; omega))
  clear ho0
  clear Xs
  clear Xa
  have hcz0 : w4.cell? ⟨gb1, 0, none⟩ = some (.slice A0 l0.length c0) := (blk_cell BK1.out 0).trans rfl
  have hfz0 := blk_frozen BK1.out 0
  have hcz1 : w4.cell? ⟨gb1, 1, none⟩ = some (.slice A1 l1.length c1) := (blk_cell BK1.out 1).trans rfl
  have hfz1 := blk_frozen BK1.out 1
  go_wp2_with fail
  go_at_call 33
  refine (laws_toChart.calls k0 _ _ l0 _ _ l1 st ar _ (Kd.C_below HR0.out HB.out) HC0.out (Kd.C_below HR1.out HB.out) HC1.out E0.out).mono ?_
  rintro e w5 ⟨va, vb, rfl, ho0, ho1, hb⟩
  have n_ := Aside0.mk (Kd.S_below W0.out hb)
  clear W0
  have W0 := n_
  clear n_
  have n_ := Aside0.mk (blk_below BK1.out hb)
  clear BK1
  have BK1 := n_
  clear n_
  have n_ := Aside0.mk (below_step HB.out hb)
  clear HB
  have HB := n_
  clear n_
  have n_ := Aside0.mk (And.intro (hb.size) HZ.out)
  clear HZ
  have HZ := n_
  clear n_
  clear hb
  obtain ⟨A_Ys, c_Ys, e_Ys⟩ := Kd.R_slice ho0
  subst e_Ys
  have Ys := Aside0.mk (R_mk (base := w.heap.size) ho0 (by have z := HZ.out; omega))
  clear ho0
  obtain ⟨A_Ya, c_Ya, e_Ya⟩ := Kd.R_slice ho1
  subst e_Ya
  have Ya := Aside0.mk (R_mk (base := w.heap.size) ho1 (by have z := HZ.out; omega))
  clear ho1
  clear hcz0 hfz0 hcz1 hfz1
  go_wp2_with (first | ((with_reducible refine gate_dst (N := 6) rfl ?_); refine box_event ?hg (N := 6) ?hd (cs := #[.slice none 0 0, .slice none 0 0]) (t := 55) ?hr ?_; (case hd => rfl); (case hg => rfl); (case hr => first | (go_simp; done) | (go_simp; rfl)); intro gb6 hg w6 hbox hb; have G_gb6 := Aside0.mk hg; clear hg; have hcz0 : w6.cell? ⟨gb6, 0, none⟩ = some (.slice none 0 0) := (blk_cell hbox 0).trans rfl; have hfz0 := blk_frozen hbox 0; have hcz1 : w6.cell? ⟨gb6, 1, none⟩ = some (.slice none 0 0) := (blk_cell hbox 1).trans rfl; have hfz1 := blk_frozen hbox 1))
  have n_ := Aside0.mk (Kd.S_below W0.out hb)
  clear W0
  have W0 := n_
  clear n_
  have n_ := Aside0.mk (Kd.R_below Ys.out hb)
  clear Ys
  have Ys := n_
  clear n_
  have n_ := Aside0.mk (Kd.R_below Ya.out hb)
  clear Ya
  have Ya := n_
  clear n_
  have n_ := Aside0.mk (blk_below BK1.out hb)
  clear BK1
  have BK1 := n_
  clear n_
  have n_ := Aside0.mk (below_step HB.out hb)
  clear HB
  have HB := n_
  clear n_
  have n_ := Aside0.mk (And.intro (hb.size) HZ.out)
  clear HZ
  have HZ := n_
  clear n_
  have BK6 := Aside0.mk hbox
  have L_gb6 := Aside0.mk (blk_lt hbox)
  clear hb hbox
  go_wp2_with fail
  have hk := kept_two (W := w6) (g := gb6) (.slice A_Ys st.length c_Ys) (.slice A_Ya ar.length c_Ya) 0 1
  have hb2 : Below w.heap.size w ((w6.setCell ⟨gb6, 0, none⟩ (.slice A_Ys st.length c_Ys)).setCell ⟨gb6, 1, none⟩ (.slice A_Ya ar.length c_Ya)) := below_set (below_set HB.out (by have z := HZ.out; have g1 := G_gb1.out; have l1 := L_gb1.out; have g6 := G_gb6.out; have l6 := L_gb6.out; omega)) (by have z := HZ.out; have g1 := G_gb1.out; have l1 := L_gb1.out; have g6 := G_gb6.out; have l6 := L_gb6.out; omega)
  have hnew : ((w6.setCell ⟨gb6, 0, none⟩ (.slice A_Ys st.length c_Ys)).setCell ⟨gb6, 1, none⟩ (.slice A_Ya ar.length c_Ya)).heap[gb6]? = some (.cells #[.slice A_Ys st.length c_Ys, .slice A_Ya ar.length c_Ya] 55 (0, 0)) := blk_put (cs := #[.slice A_Ys st.length c_Ys, .slice none 0 0]) (blk_put (cs := #[.slice none 0 0, .slice none 0 0]) BK6.out 0 _ rfl) 1 _ rfl
  generalize ((w6.setCell ⟨gb6, 0, none⟩ (.slice A_Ys st.length c_Ys)).setCell ⟨gb6, 1, none⟩ (.slice A_Ya ar.length c_Ya)) = w7 at hk hb2 hnew ⊢
  clear BK6 hcz0 hcz1 hfz0 hfz1
  have n_ := Aside0.mk (S_iv W0.out hk (by have z := HZ.out; have g1 := G_gb1.out; have l1 := L_gb1.out; have g6 := G_gb6.out; have l6 := L_gb6.out; omega))
  clear W0
  have W0 := n_
  clear n_
  have n_ := Aside0.mk (R_iv Ys.out hk (by have z := HZ.out; have g1 := G_gb1.out; have l1 := L_gb1.out; have g6 := G_gb6.out; have l6 := L_gb6.out; omega))
  clear Ys
  have Ys := n_
  clear n_
  have n_ := Aside0.mk (R_iv Ya.out hk (by have z := HZ.out; have g1 := G_gb1.out; have l1 := L_gb1.out; have g6 := G_gb6.out; have l6 := L_gb6.out; omega))
  clear Ya
  have Ya := n_
  clear n_
  have n_ := Aside0.mk (blk_iv BK1.out hk (by have z := HZ.out; have g1 := G_gb1.out; have l1 := L_gb1.out; have g6 := G_gb6.out; have l6 := L_gb6.out; omega))
  clear BK1
  have BK1 := n_
  clear n_
  have n_ := Aside0.mk (hb2)
  clear HB
  have HB := n_
  clear n_
  have n_ := Aside0.mk (And.intro (hk.1) HZ.out)
  clear HZ
  have HZ := n_
  clear n_
  have BK6 := Aside0.mk hnew
  clear hk hb2 hnew
  go_at_call 43
  refine (impl_FlatChart.calls k2 _ _ st _ _ ar t b _ (Kd.R_reads' Ys.out).2.2 (Kd.R_reads' Ys.out).2.1 (Kd.R_reads' Ya.out).2.2 (Kd.R_reads' Ya.out).2.1 E2.out).mono ?_
  rintro e w8 ⟨va, rfl, ho0, hb⟩
  have n_ := Aside0.mk (Kd.S_below W0.out hb)
  clear W0
  have W0 := n_
  clear n_
  have n_ := Aside0.mk (Kd.R_below Ys.out hb)
  clear Ys
  have Ys := n_
  clear n_
  have n_ := Aside0.mk (Kd.R_below Ya.out hb)
  clear Ya
  have Ya := n_
  clear n_
  have n_ := Aside0.mk (blk_below BK1.out hb)
  clear BK1
  have BK1 := n_
  clear n_
  have n_ := Aside0.mk (blk_below BK6.out hb)
  clear BK6
  have BK6 := n_
  clear n_
  have n_ := Aside0.mk (below_step HB.out hb)
  clear HB
  have HB := n_
  clear n_
  have n_ := Aside0.mk (And.intro (hb.size) HZ.out)
  clear HZ
  have HZ := n_
  clear n_
  clear hb
  obtain ⟨A_G, c_G, e_G⟩ := Kd.S_slice ho0
  subst e_G
  have G := Aside0.mk (S_mk (base := w.heap.size) ho0 (by have z := HZ.out; have g1 := G_gb1.out; have l1 := L_gb1.out; have g6 := G_gb6.out; have l6 := L_gb6.out; omega))
  clear ho0
  go_wp2_with fail
  go_at_call 27
  refine (laws_eqIntSS.calls k3 _ _ t _ _ t true _ (Kd.S_reads' G.out).2.2 (Kd.S_reads' G.out).2.1 (Kd.S_reads' W0.out).2.2 (Kd.S_reads' W0.out).2.1 E3.out).mono ?_
  rintro e w9 ⟨rfl, hd⟩
  have hb := drawn_below hd
  clear hd
  have n_ := Aside0.mk (Kd.S_below W0.out hb)
  clear W0
  have W0 := n_
  clear n_
  have n_ := Aside0.mk (Kd.R_below Ys.out hb)
  clear Ys
  have Ys := n_
  clear n_
  have n_ := Aside0.mk (Kd.R_below Ya.out hb)
  clear Ya
  have Ya := n_
  clear n_
  have n_ := Aside0.mk (Kd.S_below G.out hb)
  clear G
  have G := n_
  clear n_
  have n_ := Aside0.mk (blk_below BK1.out hb)
  clear BK1
  have BK1 := n_
  clear n_
  have n_ := Aside0.mk (blk_below BK6.out hb)
  clear BK6
  have BK6 := n_
  clear n_
  have n_ := Aside0.mk (below_step HB.out hb)
  clear HB
  have HB := n_
  clear n_
  have n_ := Aside0.mk (And.intro (hb.size) HZ.out)
  clear HZ
  have HZ := n_
  clear n_
  clear hb
  go_wp2_with fail
  have hb : Below w9.heap.size w9 w9.drew := below_drew (Below.refl _ _)
  have n_ := Aside0.mk (Kd.S_below W0.out hb)
  clear W0
  have W0 := n_
  clear n_
  have n_ := Aside0.mk (Kd.R_below Ys.out hb)
  clear Ys
  have Ys := n_
  clear n_
  have n_ := Aside0.mk (Kd.R_below Ya.out hb)
  clear Ya
  have Ya := n_
  clear n_
  have n_ := Aside0.mk (Kd.S_below G.out hb)
  clear G
  have G := n_
  clear n_
  have n_ := Aside0.mk (blk_below BK1.out hb)
  clear BK1
  have BK1 := n_
  clear n_
  have n_ := Aside0.mk (blk_below BK6.out hb)
  clear BK6
  have BK6 := n_
  clear n_
  have n_ := Aside0.mk (below_step HB.out hb)
  clear HB
  have HB := n_
  clear n_
  have n_ := Aside0.mk (And.intro (hb.size) HZ.out)
  clear HZ
  have HZ := n_
  clear n_
  clear hb
  refine start_ (n := 5) (S := (fun w' => w'.cell? ⟨gb6, 0, none⟩ = some (.slice A_Ys st.length c_Ys) ∧ w'.cell? ⟨gb6, 1, none⟩ = some (.slice A_Ya ar.length c_Ya) ∧ w'.cell? ⟨gb1, 0, none⟩ = some (.slice A0 l0.length c0) ∧ w'.cell? ⟨gb1, 1, none⟩ = some (.slice A1 l1.length c1))) (ds := []) #[false, false, false, false, false] (by kernel_rfl) rfl rfl ⟨(blk_cell BK6.out 0).trans rfl, (blk_cell BK6.out 1).trans rfl, (blk_cell BK1.out 0).trans rfl, (blk_cell BK1.out 1).trans rfl⟩ (fun hHeld => ?_)
  generalize w9.drew = w10 at W0 Ys Ya G BK1 BK6 HB HZ hHeld ⊢
  refine take_ (i := 0) (N := some 41) (v := ?_) (a' := ?_) #[true, false, false, false, false] rfl rfl (by kernel_rfl) (fun _ _ _ h => h) (Or.inl ⟨by rfl, ?_⟩) hHeld ?_ ?_
  rotate_left
  · rintro w' ⟨s0, s1, s2, s3⟩
    go_simp
    with_reducible rfl
  rotate_left
  · simp only [Act.put, List.setIfInBounds_toArray, List.set_cons_zero, List.set_cons_succ]
    rfl
  refine take_ (i := 1) (N := some 42) (v := ?_) (a' := ?_) #[true, true, false, false, false] rfl rfl (by kernel_rfl) (fun _ _ _ h => h) (Or.inl ⟨by rfl, ?_⟩) hHeld ?_ ?_
  rotate_left
  · rintro w' ⟨s0, s1, s2, s3⟩
    go_simp
    with_reducible rfl
  rotate_left
  · simp only [Act.put, List.setIfInBounds_toArray, List.set_cons_zero, List.set_cons_succ]
    rfl
  refine one_ (i := 2) (N := some 43) #[true, true, true, false, false] rfl rfl (by kernel_rfl) (by decide) (fun K hK => ?_)
  refine goes_ Try.func33 (by kernel_rfl) rfl #[.agg #[.slice A0 l0.length c0, .slice A1 l1.length c1]] (by rfl) rfl rfl (by simp only [List.map_toArray, List.map_cons, List.map_nil]; rfl) ?_
  refine (laws_toChart.calls k0 _ _ l0 _ _ l1 st ar _ (Kd.C_below HR0.out HB.out) HC0.out (Kd.C_below HR1.out HB.out) HC1.out E0.out).mono ?_
  rintro e w11 ⟨va, vb, rfl, ho0, ho1, hb⟩
  refine ⟨_, rfl, ?_⟩
  have n_ := Aside0.mk (Kd.S_below W0.out hb)
  clear W0
  have W0 := n_
  clear n_
  have n_ := Aside0.mk (Kd.R_below Ys.out hb)
  clear Ys
  have Ys := n_
  clear n_
  have n_ := Aside0.mk (Kd.R_below Ya.out hb)
  clear Ya
  have Ya := n_
  clear n_
  have n_ := Aside0.mk (Kd.S_below G.out hb)
  clear G
  have G := n_
  clear n_
  have n_ := Aside0.mk (blk_below BK1.out hb)
  clear BK1
  have BK1 := n_
  clear n_
  have n_ := Aside0.mk (blk_below BK6.out hb)
  clear BK6
  have BK6 := n_
  clear n_
  have n_ := Aside0.mk (below_step HB.out hb)
  clear HB
  have HB := n_
  clear n_
  have n_ := Aside0.mk (And.intro (hb.size) HZ.out)
  clear HZ
  have HZ := n_
  clear n_
  clear hb
  obtain ⟨A_Vs, c_Vs, e_Vs⟩ := Kd.R_slice ho0
  subst e_Vs
  have Vs := Aside0.mk (R_mk (base := w.heap.size) ho0 (by have z := HZ.out; have g1 := G_gb1.out; have l1 := L_gb1.out; have g6 := G_gb6.out; have l6 := L_gb6.out; omega))
  clear ho0
  obtain ⟨A_Va, c_Va, e_Va⟩ := Kd.R_slice ho1
  subst e_Va
  have Va := Aside0.mk (R_mk (base := w.heap.size) ho1 (by have z := HZ.out; have g1 := G_gb1.out; have l1 := L_gb1.out; have g6 := G_gb6.out; have l6 := L_gb6.out; omega))
  clear ho1
  refine hK.out _ _ ⟨(blk_cell BK6.out 0).trans rfl, (blk_cell BK6.out 1).trans rfl, (blk_cell BK1.out 0).trans rfl, (blk_cell BK1.out 1).trans rfl⟩ (fun hHeld => ?_)
  clear hK K
  refine norm_ (a' := ?_) ?_ ?_
  rotate_left
  · show Act.put _ (some 43) _ = _
    simp only [Act.put, List.setIfInBounds_toArray, List.set_cons_zero, List.set_cons_succ]
    rfl
  refine one_ (i := 3) (N := some 44) #[true, true, true, true, false] rfl rfl (by kernel_rfl) (by decide) (fun K hK => ?_)
  refine goes_ Try.func35 (by kernel_rfl) rfl #[.agg #[.slice A_Ys st.length c_Ys, .slice A_Ya ar.length c_Ya], .agg #[.slice A_Vs st.length c_Vs, .slice A_Va ar.length c_Va]] (by rfl) rfl rfl (by simp only [List.map_toArray, List.map_cons, List.map_nil]; rfl) ?_
  refine (laws_eqChart.calls k4 _ _ st _ _ ar _ _ st _ _ ar true _ (Kd.R_reads' Ys.out).2.2 (Kd.R_reads' Ys.out).2.1 (Kd.R_reads' Ya.out).2.2 (Kd.R_reads' Ya.out).2.1 (Kd.R_reads' Vs.out).2.2 (Kd.R_reads' Vs.out).2.1 (Kd.R_reads' Va.out).2.2 (Kd.R_reads' Va.out).2.1 E4.out).mono ?_
  rintro e w12 ⟨rfl, hb⟩
  refine ⟨_, rfl, ?_⟩
  have n_ := Aside0.mk (Kd.S_below W0.out hb)
  clear W0
  have W0 := n_
  clear n_
  have n_ := Aside0.mk (Kd.R_below Ys.out hb)
  clear Ys
  have Ys := n_
  clear n_
  have n_ := Aside0.mk (Kd.R_below Ya.out hb)
  clear Ya
  have Ya := n_
  clear n_
  have n_ := Aside0.mk (Kd.S_below G.out hb)
  clear G
  have G := n_
  clear n_
  have n_ := Aside0.mk (Kd.R_below Vs.out hb)
  clear Vs
  have Vs := n_
  clear n_
  have n_ := Aside0.mk (Kd.R_below Va.out hb)
  clear Va
  have Va := n_
  clear n_
  have n_ := Aside0.mk (blk_below BK1.out hb)
  clear BK1
  have BK1 := n_
  clear n_
  have n_ := Aside0.mk (blk_below BK6.out hb)
  clear BK6
  have BK6 := n_
  clear n_
  have n_ := Aside0.mk (below_step HB.out hb)
  clear HB
  have HB := n_
  clear n_
  have n_ := Aside0.mk (And.intro (hb.size) HZ.out)
  clear HZ
  have HZ := n_
  clear n_
  clear hb
  refine hK.out _ _ ⟨(blk_cell BK6.out 0).trans rfl, (blk_cell BK6.out 1).trans rfl, (blk_cell BK1.out 0).trans rfl, (blk_cell BK1.out 1).trans rfl⟩ (fun hHeld => ?_)
  clear hK K
  refine norm_ (a' := ?_) ?_ ?_
  rotate_left
  · show Act.put _ (some 44) _ = _
    simp only [Act.put, List.setIfInBounds_toArray, List.set_cons_zero, List.set_cons_succ]
    rfl
  clear Vs
  clear Va
  refine pure_ (i := 4) (N := some 45) (v := ?_) (a' := ?_) #[true, true, true, true, true] rfl rfl (by kernel_rfl) (fun _ _ _ h => h) (Or.inl ⟨by rfl, ?_⟩) ?_ ?_
  rotate_left
  · intro w'
    go_simp
    with_reducible rfl
  rotate_left
  · simp only [Act.put, List.setIfInBounds_toArray, List.set_cons_zero, List.set_cons_succ]
    rfl
  refine done_ (by kernel_rfl) ?_
  have hcz0 : w12.cell? ⟨gb6, 0, none⟩ = some (.slice A_Ys st.length c_Ys) := (blk_cell BK6.out 0).trans rfl
  have hfz0 := blk_frozen BK6.out 0
  have hcz1 : w12.cell? ⟨gb6, 1, none⟩ = some (.slice A_Ya ar.length c_Ya) := (blk_cell BK6.out 1).trans rfl
  have hfz1 := blk_frozen BK6.out 1
  go_wp2_with fail
  go_at_call 45
  refine (laws_markChart.calls k5 (Iv w4.heap.size w5.heap.size) _ st (Iv w4.heap.size w5.heap.size) _ ar 1 mc st' ar' w _ HB.out Ys.out Ya.out E5.out).mono ?_
  rintro e w13 ⟨rfl, hy0, hy1, hb2, hkp⟩
  have hk := kept_or hkp
  clear hkp hy0 hy1 Ys Ya
  clear hcz0 hfz0 hcz1 hfz1
  have n_ := Aside0.mk (S_iv W0.out hk (by have z := HZ.out; have g1 := G_gb1.out; have l1 := L_gb1.out; have g6 := G_gb6.out; have l6 := L_gb6.out; omega))
  clear W0
  have W0 := n_
  clear n_
  have n_ := Aside0.mk (S_iv G.out hk (by have z := HZ.out; have g1 := G_gb1.out; have l1 := L_gb1.out; have g6 := G_gb6.out; have l6 := L_gb6.out; omega))
  clear G
  have G := n_
  clear n_
  have n_ := Aside0.mk (blk_iv BK1.out hk (by have z := HZ.out; have g1 := G_gb1.out; have l1 := L_gb1.out; have g6 := G_gb6.out; have l6 := L_gb6.out; omega))
  clear BK1
  have BK1 := n_
  clear n_
  have n_ := Aside0.mk (blk_iv BK6.out hk (by have z := HZ.out; have g1 := G_gb1.out; have l1 := L_gb1.out; have g6 := G_gb6.out; have l6 := L_gb6.out; omega))
  clear BK6
  have BK6 := n_
  clear n_
  have n_ := Aside0.mk (hb2)
  clear HB
  have HB := n_
  clear n_
  have n_ := Aside0.mk (And.intro (hk.1) HZ.out)
  clear HZ
  have HZ := n_
  clear n_
  clear hk hb2
  go_wp2_with fail
  go_at_call 27
  refine (laws_eqIntSS.calls k3 _ _ t _ _ t true _ (Kd.S_reads' G.out).2.2 (Kd.S_reads' G.out).2.1 (Kd.S_reads' W0.out).2.2 (Kd.S_reads' W0.out).2.1 E3.out).mono ?_
  rintro e w14 ⟨rfl, hd⟩
  have hb := drawn_below hd
  clear hd
  have n_ := Aside0.mk (Kd.S_below W0.out hb)
  clear W0
  have W0 := n_
  clear n_
  have n_ := Aside0.mk (Kd.S_below G.out hb)
  clear G
  have G := n_
  clear n_
  have n_ := Aside0.mk (blk_below BK1.out hb)
  clear BK1
  have BK1 := n_
  clear n_
  have n_ := Aside0.mk (blk_below BK6.out hb)
  clear BK6
  have BK6 := n_
  clear n_
  have n_ := Aside0.mk (below_step HB.out hb)
  clear HB
  have HB := n_
  clear n_
  have n_ := Aside0.mk (And.intro (hb.size) HZ.out)
  clear HZ
  have HZ := n_
  clear n_
  clear hb
  go_wp2_with fail
  go_at_call 28
  refine (laws_markIntSS.calls k6 (Iv w7.heap.size w8.heap.size) _ t 1 mm t' w _ HB.out G.out E6.out).mono ?_
  rintro e w15 ⟨rfl, ho0, hb2, hk⟩
  clear G
  have n_ := Aside0.mk (S_iv W0.out hk (by have z := HZ.out; have g1 := G_gb1.out; have l1 := L_gb1.out; have g6 := G_gb6.out; have l6 := L_gb6.out; omega))
  clear W0
  have W0 := n_
  clear n_
  have n_ := Aside0.mk (blk_iv BK1.out hk (by have z := HZ.out; have g1 := G_gb1.out; have l1 := L_gb1.out; have g6 := G_gb6.out; have l6 := L_gb6.out; omega))
  clear BK1
  have BK1 := n_
  clear n_
  have n_ := Aside0.mk (blk_iv BK6.out hk (by have z := HZ.out; have g1 := G_gb1.out; have l1 := L_gb1.out; have g6 := G_gb6.out; have l6 := L_gb6.out; omega))
  clear BK6
  have BK6 := n_
  clear n_
  have n_ := Aside0.mk (hb2)
  clear HB
  have HB := n_
  clear n_
  have n_ := Aside0.mk (And.intro (hk.1) HZ.out)
  clear HZ
  have HZ := n_
  clear n_
  have G := Aside0.mk ho0
  have HE := Aside0.mk (Kd.S_reads' G.out).1
  clear ho0 hk hb2
  go_wp2_with fail
  go_at_call 47
  refine (calls_of_args (by rw [HE.out]) (laws_heldIntSS.calls k7 A_G c_G t' 1 mm _ (Kd.S_reads' G.out).2.2 (by rw [← HE.out]; exact (Kd.S_reads' G.out).2.1) E7.out)).mono ?_
  rintro e w16 ⟨rfl, hd⟩
  have hb := drawn_below hd
  clear hd
  have n_ := Aside0.mk (Kd.S_below W0.out hb)
  clear W0
  have W0 := n_
  clear n_
  have n_ := Aside0.mk (Kd.S_below G.out hb)
  clear G
  have G := n_
  clear n_
  have n_ := Aside0.mk (blk_below BK1.out hb)
  clear BK1
  have BK1 := n_
  clear n_
  have n_ := Aside0.mk (blk_below BK6.out hb)
  clear BK6
  have BK6 := n_
  clear n_
  have n_ := Aside0.mk (below_step HB.out hb)
  clear HB
  have HB := n_
  clear n_
  have n_ := Aside0.mk (And.intro (hb.size) HZ.out)
  clear HZ
  have HZ := n_
  clear n_
  clear hb
  have hcz0 : w16.cell? ⟨gb1, 0, none⟩ = some (.slice A0 l0.length c0) := (blk_cell BK1.out 0).trans rfl
  have hfz0 := blk_frozen BK1.out 0
  have hcz1 : w16.cell? ⟨gb1, 1, none⟩ = some (.slice A1 l1.length c1) := (blk_cell BK1.out 1).trans rfl
  have hfz1 := blk_frozen BK1.out 1
  go_wp2_with fail
  go_at_call 33
  refine (laws_toChart.calls k0 _ _ l0 _ _ l1 st ar _ (Kd.C_below HR0.out HB.out) HC0.out (Kd.C_below HR1.out HB.out) HC1.out E0.out).mono ?_
  rintro e w17 ⟨va, vb, rfl, ho0, ho1, hb⟩
  have n_ := Aside0.mk (Kd.S_below W0.out hb)
  clear W0
  have W0 := n_
  clear n_
  have n_ := Aside0.mk (Kd.S_below G.out hb)
  clear G
  have G := n_
  clear n_
  have n_ := Aside0.mk (blk_below BK1.out hb)
  clear BK1
  have BK1 := n_
  clear n_
  have n_ := Aside0.mk (blk_below BK6.out hb)
  clear BK6
  have BK6 := n_
  clear n_
  have n_ := Aside0.mk (below_step HB.out hb)
  clear HB
  have HB := n_
  clear n_
  have n_ := Aside0.mk (And.intro (hb.size) HZ.out)
  clear HZ
  have HZ := n_
  clear n_
  clear hb
  obtain ⟨A_Us, c_Us, e_Us⟩ := Kd.R_slice ho0
  subst e_Us
  have Us := Aside0.mk (R_mk (base := w.heap.size) ho0 (by have z := HZ.out; have g1 := G_gb1.out; have l1 := L_gb1.out; have g6 := G_gb6.out; have l6 := L_gb6.out; omega))
  clear ho0
  obtain ⟨A_Ua, c_Ua, e_Ua⟩ := Kd.R_slice ho1
  subst e_Ua
  have Ua := Aside0.mk (R_mk (base := w.heap.size) ho1 (by have z := HZ.out; have g1 := G_gb1.out; have l1 := L_gb1.out; have g6 := G_gb6.out; have l6 := L_gb6.out; omega))
  clear ho1
  clear hcz0 hfz0 hcz1 hfz1
  go_wp2_with fail
  go_at_call 43
  refine (impl_FlatChart.calls k2 _ _ st _ _ ar t b _ (Kd.R_reads' Us.out).2.2 (Kd.R_reads' Us.out).2.1 (Kd.R_reads' Ua.out).2.2 (Kd.R_reads' Ua.out).2.1 E2.out).mono ?_
  rintro e w18 ⟨va, rfl, ho0, hb⟩
  have n_ := Aside0.mk (Kd.S_below W0.out hb)
  clear W0
  have W0 := n_
  clear n_
  have n_ := Aside0.mk (Kd.S_below G.out hb)
  clear G
  have G := n_
  clear n_
  have n_ := Aside0.mk (Kd.R_below Us.out hb)
  clear Us
  have Us := n_
  clear n_
  have n_ := Aside0.mk (Kd.R_below Ua.out hb)
  clear Ua
  have Ua := n_
  clear n_
  have n_ := Aside0.mk (blk_below BK1.out hb)
  clear BK1
  have BK1 := n_
  clear n_
  have n_ := Aside0.mk (blk_below BK6.out hb)
  clear BK6
  have BK6 := n_
  clear n_
  have n_ := Aside0.mk (below_step HB.out hb)
  clear HB
  have HB := n_
  clear n_
  have n_ := Aside0.mk (And.intro (hb.size) HZ.out)
  clear HZ
  have HZ := n_
  clear n_
  clear hb
  obtain ⟨A_H, c_H, e_H⟩ := Kd.S_slice ho0
  subst e_H
  have H := Aside0.mk (S_mk (base := w.heap.size) ho0 (by have z := HZ.out; have g1 := G_gb1.out; have l1 := L_gb1.out; have g6 := G_gb6.out; have l6 := L_gb6.out; omega))
  clear ho0
  clear Us
  clear Ua
  go_wp2_with fail
  go_at_call 27
  refine (laws_eqIntSS.calls k3 _ _ t _ _ t true _ (Kd.S_reads' H.out).2.2 (Kd.S_reads' H.out).2.1 (Kd.S_reads' W0.out).2.2 (Kd.S_reads' W0.out).2.1 E3.out).mono ?_
  rintro e w19 ⟨rfl, hd⟩
  have hb := drawn_below hd
  clear hd
  have n_ := Aside0.mk (Kd.S_below W0.out hb)
  clear W0
  have W0 := n_
  clear n_
  have n_ := Aside0.mk (Kd.S_below G.out hb)
  clear G
  have G := n_
  clear n_
  have n_ := Aside0.mk (Kd.S_below H.out hb)
  clear H
  have H := n_
  clear n_
  have n_ := Aside0.mk (blk_below BK1.out hb)
  clear BK1
  have BK1 := n_
  clear n_
  have n_ := Aside0.mk (blk_below BK6.out hb)
  clear BK6
  have BK6 := n_
  clear n_
  have n_ := Aside0.mk (below_step HB.out hb)
  clear HB
  have HB := n_
  clear n_
  have n_ := Aside0.mk (And.intro (hb.size) HZ.out)
  clear HZ
  have HZ := n_
  clear n_
  clear hb
  go_wp2_with fail
  go_at_call 47
  refine (calls_of_args (by rw [HE.out]) (laws_heldIntSS.calls k7 A_G c_G t' 1 mm _ (Kd.S_reads' G.out).2.2 (by rw [← HE.out]; exact (Kd.S_reads' G.out).2.1) E7.out)).mono ?_
  rintro e w20 ⟨rfl, hd⟩
  have hb := drawn_below hd
  clear hd
  have n_ := Aside0.mk (Kd.S_below W0.out hb)
  clear W0
  have W0 := n_
  clear n_
  have n_ := Aside0.mk (Kd.S_below G.out hb)
  clear G
  have G := n_
  clear n_
  have n_ := Aside0.mk (Kd.S_below H.out hb)
  clear H
  have H := n_
  clear n_
  have n_ := Aside0.mk (blk_below BK1.out hb)
  clear BK1
  have BK1 := n_
  clear n_
  have n_ := Aside0.mk (blk_below BK6.out hb)
  clear BK6
  have BK6 := n_
  clear n_
  have n_ := Aside0.mk (below_step HB.out hb)
  clear HB
  have HB := n_
  clear n_
  have n_ := Aside0.mk (And.intro (hb.size) HZ.out)
  clear HZ
  have HZ := n_
  clear n_
  clear hb
  go_wp2_with fail
  go_ret
  exact ⟨rfl, HB.out⟩

set_option maxHeartbeats 4000000 in
set_option maxRecDepth 100000 in
theorem law_flat_big (A0 : Option Addr) (c0 : Nat) (l0 : List S101) (A1 : Option Addr) (c1 : Nat) (l1 : List S103) (w : World) (z : Int)
    (hr0 : Kd.C k101 w A0 l0.length l0) (hc0 : l0.length ≤ c0) (hr1 : Kd.C k103 w A1 l1.length l1) (hc1 : l1.length ≤ c1)
    (hz : laws_szChart.f l0 l1 1048576 = some z) (hz0 : z < 0) :
    Calls Try.prog 11 #[.agg #[.slice A0 l0.length c0, .slice A1 l1.length c1]] w fun e w' => e = .returned (.bool true) ∧ Below w.heap.size w w' := by
  have hu49 := Try.underlying49
  have HR0 := Aside0.mk hr0
  have HC0 := Aside0.mk hc0
  have HR1 := Aside0.mk hr1
  have HC1 := Aside0.mk hc1
  have Z := Aside0.mk hz
  clear hr0 hc0 hr1 hc1 hz
  have bz : decide (z < 0) = true := decide_eq_true hz0
  clear hz0
  go_enter Try.func11, Try.ntmps11
  have HB := Aside0.mk (Below.refl w.heap.size w)
  have HZ : Aside0 (w.heap.size ≤ w.heap.size) := ⟨Nat.le_refl _⟩
  go_wp2_with (first | ((with_reducible refine gate_dst (N := 1) rfl ?_); refine box_event ?hg (N := 1) ?hd (cs := #[.slice A0 l0.length c0, .slice A1 l1.length c1]) (t := 49) ?hr ?_; (case hd => rfl); (case hg => rfl); (case hr => first | (go_simp; done) | (go_simp; rfl)); intro gb1 hg w1 hbox hb; have G_gb1 := Aside0.mk hg; clear hg; have hcz0 : w1.cell? ⟨gb1, 0, none⟩ = some (.slice A0 l0.length c0) := (blk_cell hbox 0).trans rfl; have hfz0 := blk_frozen hbox 0; have hcz1 : w1.cell? ⟨gb1, 1, none⟩ = some (.slice A1 l1.length c1) := (blk_cell hbox 1).trans rfl; have hfz1 := blk_frozen hbox 1))
  have n_ := Aside0.mk (below_step HB.out hb)
  clear HB
  have HB := n_
  clear n_
  have n_ := Aside0.mk (And.intro (hb.size) HZ.out)
  clear HZ
  have HZ := n_
  clear n_
  have BK1 := Aside0.mk hbox
  have L_gb1 := Aside0.mk (blk_lt hbox)
  clear hb hbox
  go_wp2_with fail
  go_at_call 31
  refine (laws_szChart.calls _ _ l0 _ _ l1 1048576 z _ (Kd.C_below HR0.out HB.out) HC0.out (Kd.C_below HR1.out HB.out) HC1.out Z.out).mono ?_
  rintro e w2 ⟨rfl, hb⟩
  have n_ := Aside0.mk (blk_below BK1.out hb)
  clear BK1
  have BK1 := n_
  clear n_
  have n_ := Aside0.mk (below_step HB.out hb)
  clear HB
  have HB := n_
  clear n_
  have n_ := Aside0.mk (And.intro (hb.size) HZ.out)
  clear HZ
  have HZ := n_
  clear n_
  clear hb
  clear hcz0 hfz0 hcz1 hfz1
  go_wp2_with fail
  go_ret
  exact ⟨rfl, HB.out⟩

end Go.Proofs.Ytkhkgfihodljmaa.Pr
