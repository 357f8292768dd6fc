/- FnChart, walked by hand (gen-fchart.py). -/
import Derived.Test.YtkhkgfihodljmaaIv
import Derived.Test.YtkhkgfihodljmaaRfl
import Derived.Test.YtkhkgfihodljmaaPr16
import Derived.Test.YtkhkgfihodljmaaPr18
import Derived.Test.YtkhkgfihodljmaaPr25
import Derived.Test.YtkhkgfihodljmaaPr27
import Derived.Test.YtkhkgfihodljmaaPr28
import Derived.Test.YtkhkgfihodljmaaPr29
namespace Go.Proofs.Ytkhkgfihodljmaa.Pr
open Go.RowKit Go.Proofs.YtkhkgfihodljmaaW.PrintWords Go.Proofs.YtkhkgfihodljmaaW.PrintLast Go.Proofs.YtkhkgfihodljmaaW.PrintMore
attribute [local go_sem] bne_self_eq_false beq_self_eq_true
set_option linter.unusedVariables false
set_option linter.unusedSimpArgs false

set_option maxHeartbeats 4000000 in
set_option maxRecDepth 100000 in
theorem law_chart_big (A0 : Option Addr) (c0 : Nat) (l0 : List Int) (w : World) (hr0 : Kd.C (Kd.int .u8) w A0 l0.length l0) (hc0 : l0.length ≤ c0)
    (hbig : (l0.length : Int) > 1048576) :
    Calls Try.prog 9 #[.slice A0 l0.length c0] w fun e w' => e = .returned (.bool true) ∧ Below w.heap.size w w' := by
  have hu55 := Try.underlying55
  have HR0 := Aside0.mk hr0
  have HC0 := Aside0.mk hc0
  clear hr0 hc0
  have c1b0 : decide (1048576 < (l0.length : Int)) = true := decide_eq_true hbig
  have c1b1 : decide (1048576 < l0.length) = true := decide_eq_true (by omega)
  clear hbig
  go_enter Try.func9, Try.ntmps9
  go_wp2_with fail
  go_ret
  exact ⟨rfl, Below.refl _ _⟩
set_option maxHeartbeats 4000000 in
set_option maxRecDepth 100000 in
theorem law_chart_yes (A0 : Option Addr) (c0 : Nat) (l0 : List Int) (w : World) (hr0 : Kd.C (Kd.int .u8) w A0 l0.length l0) (hc0 : l0.length ≤ c0)
    (st : List S88) (ar : List S90) (ev a : List Int) (t : List (List Int)) (r : Int) (k0 k1 k2 k3 k4 k5 k6 : Nat) (hbig : ¬ (l0.length : Int) > 1048576)
    (h0 : spec_DrawRunChart.f k0 l0 = some (st, ar, ev)) (h1 : impl_RunChart.f k1 st ar ev = some (a, true)) (h2 : spec_RunChart.f k2 st ar ev = some (a, true)) (h3 : impl_FlatChart.f k3 st ar = some (t, true)) (h4 : impl_EnterState.f k4 st ar 0 = some r)
    (h5 : impl_RunFlat.f k5 t r ev = some (a, true)) (h6 : spec_SameInts.f k6 a a = some true) :
    Calls Try.prog 9 #[.slice A0 l0.length c0] w fun e w' => e = .returned (.bool true) ∧ Below w.heap.size w w' := by
  have hu55 := Try.underlying55
  have HR0 := Aside0.mk hr0
  have HC0 := Aside0.mk hc0
  clear hr0 hc0
  have c1b0 : decide (1048576 < (l0.length : Int)) = false := decide_eq_false hbig
  have c1b1 : decide (1048576 < l0.length) = false := decide_eq_false (by omega)
  clear hbig
  have E0 := Aside0.mk h0
  clear h0
  have E1 := Aside0.mk h1
  clear h1
  have E2 := Aside0.mk h2
  clear h2
  have E3 := Aside0.mk h3
  clear h3
  have E4 := Aside0.mk h4
  clear h4
  have E5 := Aside0.mk h5
  clear h5
  have E6 := Aside0.mk h6
  clear h6
  go_enter Try.func9, Try.ntmps9
  have HB := Aside0.mk (Below.refl w.heap.size w)
  have HZ : Aside0 (w.heap.size ≤ w.heap.size) := ⟨Nat.le_refl _⟩
  go_wp2_with fail
  go_at_call 40
  refine (spec_DrawRunChart.calls k0 _ _ l0 st ar ev _ (Kd.C_below HR0.out HB.out) HC0.out E0.out).mono ?_
  rintro e w1 ⟨va, vb, vc, rfl, ho0, ho1, ho2, hb⟩
  have n_ := Aside0.mk (below_step HB.out hb)
  clear HB
  have HB := n_
  clear n_
  have n_ := Aside0.mk (And.intro (hb.size) HZ.out)
  clear HZ
  have HZ := n_
  clear n_
  clear hb
  obtain ⟨A_Xs, c_Xs, e_Xs⟩ := Kd.R_slice ho0
  subst e_Xs
  have Xs := Aside0.mk (R_mk (base := w.heap.size) ho0 (by have z := HZ.out; omega))
  clear ho0
  obtain ⟨A_Xa, c_Xa, e_Xa⟩ := Kd.R_slice ho1
  subst e_Xa
  have Xa := Aside0.mk (R_mk (base := w.heap.size) ho1 (by have z := HZ.out; omega))
  clear ho1
  obtain ⟨A_Xe, c_Xe, e_Xe⟩ := Kd.R_slice ho2
  subst e_Xe
  have Xe := Aside0.mk (R_mk (base := w.heap.size) ho2 (by have z := HZ.out; omega))
  clear ho2
  go_wp2_with (first | ((with_reducible refine gate_dst (N := 3) rfl ?_); refine box_event ?hg (N := 3) ?hd (cs := #[.slice none 0 0, .slice none 0 0]) (t := 55) ?hr ?_; (case hd => rfl); (case hg => rfl); (case hr => first | (go_simp; done) | (go_simp; rfl)); intro gb hg w2 hbox hb; have G_gb := Aside0.mk hg; clear hg; have hcz0 : w2.cell? ⟨gb, 0, none⟩ = some (.slice none 0 0) := (blk_cell hbox 0).trans rfl; have hfz0 := blk_frozen hbox 0; have hcz1 : w2.cell? ⟨gb, 1, none⟩ = some (.slice none 0 0) := (blk_cell hbox 1).trans rfl; have hfz1 := blk_frozen hbox 1))
  have n_ := Aside0.mk (Kd.R_below Xs.out hb)
  clear Xs
  have Xs := n_
  clear n_
  have n_ := Aside0.mk (Kd.R_below Xa.out hb)
  clear Xa
  have Xa := n_
  clear n_
  have n_ := Aside0.mk (Kd.R_below Xe.out hb)
  clear Xe
  have Xe := n_
  clear n_
  have n_ := Aside0.mk (below_step HB.out hb)
  clear HB
  have HB := n_
  clear n_
  have n_ := Aside0.mk (And.intro (hb.size) HZ.out)
  clear HZ
  have HZ := n_
  clear n_
  have BK := Aside0.mk hbox
  have L_gb := Aside0.mk (blk_lt hbox)
  clear hb hbox
  go_wp2_with fail
  have hk := kept_two (W := w2) (g := gb) (.slice A_Xs st.length c_Xs) (.slice A_Xa ar.length c_Xa) 0 1
  have hb2 : Below w.heap.size w ((w2.setCell ⟨gb, 0, none⟩ (.slice A_Xs st.length c_Xs)).setCell ⟨gb, 1, none⟩ (.slice A_Xa ar.length c_Xa)) := below_set (below_set HB.out (by have z := HZ.out; have g6 := G_gb.out; have l6 := L_gb.out; omega)) (by have z := HZ.out; have g6 := G_gb.out; have l6 := L_gb.out; omega)
  have hnew : ((w2.setCell ⟨gb, 0, none⟩ (.slice A_Xs st.length c_Xs)).setCell ⟨gb, 1, none⟩ (.slice A_Xa ar.length c_Xa)).heap[gb]? = some (.cells #[.slice A_Xs st.length c_Xs, .slice A_Xa ar.length c_Xa] 55 (0, 0)) := blk_put (cs := #[.slice A_Xs st.length c_Xs, .slice none 0 0]) (blk_put (cs := #[.slice none 0 0, .slice none 0 0]) BK.out 0 _ rfl) 1 _ rfl
  generalize ((w2.setCell ⟨gb, 0, none⟩ (.slice A_Xs st.length c_Xs)).setCell ⟨gb, 1, none⟩ (.slice A_Xa ar.length c_Xa)) = w3 at hk hb2 hnew ⊢
  clear BK hcz0 hcz1 hfz0 hfz1
  have n_ := Aside0.mk (R_iv Xs.out hk (by have z := HZ.out; have g6 := G_gb.out; have l6 := L_gb.out; omega))
  clear Xs
  have Xs := n_
  clear n_
  have n_ := Aside0.mk (R_iv Xa.out hk (by have z := HZ.out; have g6 := G_gb.out; have l6 := L_gb.out; omega))
  clear Xa
  have Xa := n_
  clear n_
  have n_ := Aside0.mk (R_iv Xe.out hk (by have z := HZ.out; have g6 := G_gb.out; have l6 := L_gb.out; omega))
  clear Xe
  have Xe := n_
  clear n_
  have n_ := Aside0.mk (hb2)
  clear HB
  have HB := n_
  clear n_
  have n_ := Aside0.mk (And.intro (hk.1) HZ.out)
  clear HZ
  have HZ := n_
  clear n_
  have BK := Aside0.mk hnew
  clear hk hb2 hnew
  go_at_call 41
  refine (impl_RunChart.calls k1 _ _ st _ _ ar _ _ ev a true _ (Kd.R_reads' Xs.out).2.2 (Kd.R_reads' Xs.out).2.1 (Kd.R_reads' Xa.out).2.2 (Kd.R_reads' Xa.out).2.1 (Kd.R_reads' Xe.out).2.2 (Kd.R_reads' Xe.out).2.1 E1.out).mono ?_
  rintro e w4 ⟨va, rfl, ho0, hb⟩
  have n_ := Aside0.mk (Kd.R_below Xs.out hb)
  clear Xs
  have Xs := n_
  clear n_
  have n_ := Aside0.mk (Kd.R_below Xa.out hb)
  clear Xa
  have Xa := n_
  clear n_
  have n_ := Aside0.mk (Kd.R_below Xe.out hb)
  clear Xe
  have Xe := n_
  clear n_
  have n_ := Aside0.mk (blk_below BK.out hb)
  clear BK
  have BK := n_
  clear n_
  have n_ := Aside0.mk (below_step HB.out hb)
  clear HB
  have HB := n_
  clear n_
  have n_ := Aside0.mk (And.intro (hb.size) HZ.out)
  clear HZ
  have HZ := n_
  clear n_
  clear hb
  obtain ⟨A_Ra, c_Ra, e_Ra⟩ := Kd.R_slice ho0
  subst e_Ra
  have Ra := Aside0.mk (R_mk (base := w.heap.size) ho0 (by have z := HZ.out; have g6 := G_gb.out; have l6 := L_gb.out; omega))
  clear ho0
  have hcz0 : w4.cell? ⟨gb, 0, none⟩ = some (.slice A_Xs st.length c_Xs) := (blk_cell BK.out 0).trans rfl
  have hfz0 := blk_frozen BK.out 0
  have hcz1 : w4.cell? ⟨gb, 1, none⟩ = some (.slice A_Xa ar.length c_Xa) := (blk_cell BK.out 1).trans rfl
  have hfz1 := blk_frozen BK.out 1
  go_wp2_with fail
  go_at_call 42
  refine (spec_RunChart.calls k2 _ _ st _ _ ar _ _ ev a true _ (Kd.R_reads' Xs.out).2.2 (Kd.R_reads' Xs.out).2.1 (Kd.R_reads' Xa.out).2.2 (Kd.R_reads' Xa.out).2.1 (Kd.R_reads' Xe.out).2.2 (Kd.R_reads' Xe.out).2.1 E2.out).mono ?_
  rintro e w5 ⟨va, rfl, ho0, hb⟩
  have n_ := Aside0.mk (Kd.R_below Xs.out hb)
  clear Xs
  have Xs := n_
  clear n_
  have n_ := Aside0.mk (Kd.R_below Xa.out hb)
  clear Xa
  have Xa := n_
  clear n_
  have n_ := Aside0.mk (Kd.R_below Xe.out hb)
  clear Xe
  have Xe := n_
  clear n_
  have n_ := Aside0.mk (Kd.R_below Ra.out hb)
  clear Ra
  have Ra := n_
  clear n_
  have n_ := Aside0.mk (blk_below BK.out hb)
  clear BK
  have BK := n_
  clear n_
  have n_ := Aside0.mk (below_step HB.out hb)
  clear HB
  have HB := n_
  clear n_
  have n_ := Aside0.mk (And.intro (hb.size) HZ.out)
  clear HZ
  have HZ := n_
  clear n_
  clear hb
  obtain ⟨A_Rb, c_Rb, e_Rb⟩ := Kd.R_slice ho0
  subst e_Rb
  have Rb := Aside0.mk (R_mk (base := w.heap.size) ho0 (by have z := HZ.out; have g6 := G_gb.out; have l6 := L_gb.out; omega))
  clear ho0
  clear hcz0 hcz1 hfz0 hfz1
  clear Rb
  have hcz0 : w5.cell? ⟨gb, 0, none⟩ = some (.slice A_Xs st.length c_Xs) := (blk_cell BK.out 0).trans rfl
  have hfz0 := blk_frozen BK.out 0
  have hcz1 : w5.cell? ⟨gb, 1, none⟩ = some (.slice A_Xa ar.length c_Xa) := (blk_cell BK.out 1).trans rfl
  have hfz1 := blk_frozen BK.out 1
  go_wp2_with fail
  go_at_call 43
  refine (impl_FlatChart.calls k3 _ _ st _ _ ar t true _ (Kd.R_reads' Xs.out).2.2 (Kd.R_reads' Xs.out).2.1 (Kd.R_reads' Xa.out).2.2 (Kd.R_reads' Xa.out).2.1 E3.out).mono ?_
  rintro e w6 ⟨va, rfl, ho0, hb⟩
  have n_ := Aside0.mk (Kd.R_below Xs.out hb)
  clear Xs
  have Xs := n_
  clear n_
  have n_ := Aside0.mk (Kd.R_below Xa.out hb)
  clear Xa
  have Xa := n_
  clear n_
  have n_ := Aside0.mk (Kd.R_below Xe.out hb)
  clear Xe
  have Xe := n_
  clear n_
  have n_ := Aside0.mk (Kd.R_below Ra.out hb)
  clear Ra
  have Ra := n_
  clear n_
  have n_ := Aside0.mk (blk_below BK.out hb)
  clear BK
  have BK := n_
  clear n_
  have n_ := Aside0.mk (below_step HB.out hb)
  clear HB
  have HB := n_
  clear n_
  have n_ := Aside0.mk (And.intro (hb.size) HZ.out)
  clear HZ
  have HZ := n_
  clear n_
  clear hb
  obtain ⟨A_Tt, c_Tt, e_Tt⟩ := Kd.S_slice ho0
  subst e_Tt
  have Tt := Aside0.mk (S_mk (base := w.heap.size) ho0 (by have z := HZ.out; have g6 := G_gb.out; have l6 := L_gb.out; omega))
  clear ho0
  clear hcz0 hcz1 hfz0 hfz1
  have hcz0 : w6.cell? ⟨gb, 0, none⟩ = some (.slice A_Xs st.length c_Xs) := (blk_cell BK.out 0).trans rfl
  have hfz0 := blk_frozen BK.out 0
  have hcz1 : w6.cell? ⟨gb, 1, none⟩ = some (.slice A_Xa ar.length c_Xa) := (blk_cell BK.out 1).trans rfl
  have hfz1 := blk_frozen BK.out 1
  go_wp2_with fail
  go_at_call 37
  refine (impl_EnterState.calls k4 _ _ st _ _ ar 0 r _ (Kd.R_reads' Xs.out).2.2 (Kd.R_reads' Xs.out).2.1 (Kd.R_reads' Xa.out).2.2 (Kd.R_reads' Xa.out).2.1 E4.out).mono ?_
  rintro e w7 ⟨rfl, hb⟩
  have n_ := Aside0.mk (Kd.R_below Xs.out hb)
  clear Xs
  have Xs := n_
  clear n_
  have n_ := Aside0.mk (Kd.R_below Xa.out hb)
  clear Xa
  have Xa := n_
  clear n_
  have n_ := Aside0.mk (Kd.R_below Xe.out hb)
  clear Xe
  have Xe := n_
  clear n_
  have n_ := Aside0.mk (Kd.R_below Ra.out hb)
  clear Ra
  have Ra := n_
  clear n_
  have n_ := Aside0.mk (Kd.S_below Tt.out hb)
  clear Tt
  have Tt := n_
  clear n_
  have n_ := Aside0.mk (blk_below BK.out hb)
  clear BK
  have BK := n_
  clear n_
  have n_ := Aside0.mk (below_step HB.out hb)
  clear HB
  have HB := n_
  clear n_
  have n_ := Aside0.mk (And.intro (hb.size) HZ.out)
  clear HZ
  have HZ := n_
  clear n_
  clear hb
  clear hcz0 hcz1 hfz0 hfz1
  go_wp2_with fail
  go_at_call 25
  refine (impl_RunFlat.calls k5 _ _ t r _ _ ev a true _ (Kd.S_reads' Tt.out).2.2 (Kd.S_reads' Tt.out).2.1 (Kd.R_reads' Xe.out).2.2 (Kd.R_reads' Xe.out).2.1 E5.out).mono ?_
  rintro e w8 ⟨va, rfl, ho0, hb⟩
  have n_ := Aside0.mk (Kd.R_below Xs.out hb)
  clear Xs
  have Xs := n_
  clear n_
  have n_ := Aside0.mk (Kd.R_below Xa.out hb)
  clear Xa
  have Xa := n_
  clear n_
  have n_ := Aside0.mk (Kd.R_below Xe.out hb)
  clear Xe
  have Xe := n_
  clear n_
  have n_ := Aside0.mk (Kd.R_below Ra.out hb)
  clear Ra
  have Ra := n_
  clear n_
  have n_ := Aside0.mk (Kd.S_below Tt.out hb)
  clear Tt
  have Tt := n_
  clear n_
  have n_ := Aside0.mk (blk_below BK.out hb)
  clear BK
  have BK := n_
  clear n_
  have n_ := Aside0.mk (below_step HB.out hb)
  clear HB
  have HB := n_
  clear n_
  have n_ := Aside0.mk (And.intro (hb.size) HZ.out)
  clear HZ
  have HZ := n_
  clear n_
  clear hb
  obtain ⟨A_Rf, c_Rf, e_Rf⟩ := Kd.R_slice ho0
  subst e_Rf
  have Rf := Aside0.mk (R_mk (base := w.heap.size) ho0 (by have z := HZ.out; have g6 := G_gb.out; have l6 := L_gb.out; omega))
  clear ho0
  go_wp2_with fail
  go_at_call 44
  refine (spec_SameInts.calls k6 _ _ a _ _ a true _ (Kd.R_reads' Ra.out).2.2 (Kd.R_reads' Ra.out).2.1 (Kd.R_reads' Rf.out).2.2 (Kd.R_reads' Rf.out).2.1 E6.out).mono ?_
  rintro e w9 ⟨rfl, hd⟩
  have hb := drawn_below hd
  clear hd
  have n_ := Aside0.mk (Kd.R_below Xs.out hb)
  clear Xs
  have Xs := n_
  clear n_
  have n_ := Aside0.mk (Kd.R_below Xa.out hb)
  clear Xa
  have Xa := n_
  clear n_
  have n_ := Aside0.mk (Kd.R_below Xe.out hb)
  clear Xe
  have Xe := n_
  clear n_
  have n_ := Aside0.mk (Kd.R_below Ra.out hb)
  clear Ra
  have Ra := n_
  clear n_
  have n_ := Aside0.mk (Kd.S_below Tt.out hb)
  clear Tt
  have Tt := n_
  clear n_
  have n_ := Aside0.mk (Kd.R_below Rf.out hb)
  clear Rf
  have Rf := n_
  clear n_
  have n_ := Aside0.mk (blk_below BK.out hb)
  clear BK
  have BK := n_
  clear n_
  have n_ := Aside0.mk (below_step HB.out hb)
  clear HB
  have HB := n_
  clear n_
  have n_ := Aside0.mk (And.intro (hb.size) HZ.out)
  clear HZ
  have HZ := n_
  clear n_
  clear hb
  go_wp2_with fail
  go_ret
  exact ⟨by rfl, HB.out⟩

set_option maxHeartbeats 4000000 in
set_option maxRecDepth 100000 in
theorem law_chart_no (A0 : Option Addr) (c0 : Nat) (l0 : List Int) (w : World) (hr0 : Kd.C (Kd.int .u8) w A0 l0.length l0) (hc0 : l0.length ≤ c0)
    (st : List S88) (ar : List S90) (ev a b : List Int) (t : List (List Int)) (r : Int) (is told : Bool) (k0 k1 k2 k3 k4 k5 k6 : Nat) (hbig : ¬ (l0.length : Int) > 1048576)
    (h0 : spec_DrawRunChart.f k0 l0 = some (st, ar, ev)) (h1 : impl_RunChart.f k1 st ar ev = some (a, false)) (h2 : spec_RunChart.f k2 st ar ev = some (a, false)) (h3 : impl_FlatChart.f k3 st ar = some (t, is)) (h4 : impl_EnterState.f k4 st ar 0 = some r)
    (h5 : impl_RunFlat.f k5 t r ev = some (b, told)) (h6 : spec_GoodChart.f k6 st ar = some is) :
    Calls Try.prog 9 #[.slice A0 l0.length c0] w fun e w' => e = .returned (.bool true) ∧ Below w.heap.size w w' := by
  have hu55 := Try.underlying55
  have HR0 := Aside0.mk hr0
  have HC0 := Aside0.mk hc0
  clear hr0 hc0
  have c1b0 : decide (1048576 < (l0.length : Int)) = false := decide_eq_false hbig
  have c1b1 : decide (1048576 < l0.length) = false := decide_eq_false (by omega)
  clear hbig
  have E0 := Aside0.mk h0
  clear h0
  have E1 := Aside0.mk h1
  clear h1
  have E2 := Aside0.mk h2
  clear h2
  have E3 := Aside0.mk h3
  clear h3
  have E4 := Aside0.mk h4
  clear h4
  have E5 := Aside0.mk h5
  clear h5
  have E6 := Aside0.mk h6
  clear h6
  go_enter Try.func9, Try.ntmps9
  have HB := Aside0.mk (Below.refl w.heap.size w)
  have HZ : Aside0 (w.heap.size ≤ w.heap.size) := ⟨Nat.le_refl _⟩
  go_wp2_with fail
  go_at_call 40
  refine (spec_DrawRunChart.calls k0 _ _ l0 st ar ev _ (Kd.C_below HR0.out HB.out) HC0.out E0.out).mono ?_
  rintro e w1 ⟨va, vb, vc, rfl, ho0, ho1, ho2, hb⟩
  have n_ := Aside0.mk (below_step HB.out hb)
  clear HB
  have HB := n_
  clear n_
  have n_ := Aside0.mk (And.intro (hb.size) HZ.out)
  clear HZ
  have HZ := n_
  clear n_
  clear hb
  obtain ⟨A_Xs, c_Xs, e_Xs⟩ := Kd.R_slice ho0
  subst e_Xs
  have Xs := Aside0.mk (R_mk (base := w.heap.size) ho0 (by have z := HZ.out; omega))
  clear ho0
  obtain ⟨A_Xa, c_Xa, e_Xa⟩ := Kd.R_slice ho1
  subst e_Xa
  have Xa := Aside0.mk (R_mk (base := w.heap.size) ho1 (by have z := HZ.out; omega))
  clear ho1
  obtain ⟨A_Xe, c_Xe, e_Xe⟩ := Kd.R_slice ho2
  subst e_Xe
  have Xe := Aside0.mk (R_mk (base := w.heap.size) ho2 (by have z := HZ.out; omega))
  clear ho2
  go_wp2_with (first | ((with_reducible refine gate_dst (N := 3) rfl ?_); refine box_event ?hg (N := 3) ?hd (cs := #[.slice none 0 0, .slice none 0 0]) (t := 55) ?hr ?_; (case hd => rfl); (case hg => rfl); (case hr => first | (go_simp; done) | (go_simp; rfl)); intro gb hg w2 hbox hb; have G_gb := Aside0.mk hg; clear hg; have hcz0 : w2.cell? ⟨gb, 0, none⟩ = some (.slice none 0 0) := (blk_cell hbox 0).trans rfl; have hfz0 := blk_frozen hbox 0; have hcz1 : w2.cell? ⟨gb, 1, none⟩ = some (.slice none 0 0) := (blk_cell hbox 1).trans rfl; have hfz1 := blk_frozen hbox 1))
  have n_ := Aside0.mk (Kd.R_below Xs.out hb)
  clear Xs
  have Xs := n_
  clear n_
  have n_ := Aside0.mk (Kd.R_below Xa.out hb)
  clear Xa
  have Xa := n_
  clear n_
  have n_ := Aside0.mk (Kd.R_below Xe.out hb)
  clear Xe
  have Xe := n_
  clear n_
  have n_ := Aside0.mk (below_step HB.out hb)
  clear HB
  have HB := n_
  clear n_
  have n_ := Aside0.mk (And.intro (hb.size) HZ.out)
  clear HZ
  have HZ := n_
  clear n_
  have BK := Aside0.mk hbox
  have L_gb := Aside0.mk (blk_lt hbox)
  clear hb hbox
  go_wp2_with fail
  have hk := kept_two (W := w2) (g := gb) (.slice A_Xs st.length c_Xs) (.slice A_Xa ar.length c_Xa) 0 1
  have hb2 : Below w.heap.size w ((w2.setCell ⟨gb, 0, none⟩ (.slice A_Xs st.length c_Xs)).setCell ⟨gb, 1, none⟩ (.slice A_Xa ar.length c_Xa)) := below_set (below_set HB.out (by have z := HZ.out; have g6 := G_gb.out; have l6 := L_gb.out; omega)) (by have z := HZ.out; have g6 := G_gb.out; have l6 := L_gb.out; omega)
  have hnew : ((w2.setCell ⟨gb, 0, none⟩ (.slice A_Xs st.length c_Xs)).setCell ⟨gb, 1, none⟩ (.slice A_Xa ar.length c_Xa)).heap[gb]? = some (.cells #[.slice A_Xs st.length c_Xs, .slice A_Xa ar.length c_Xa] 55 (0, 0)) := blk_put (cs := #[.slice A_Xs st.length c_Xs, .slice none 0 0]) (blk_put (cs := #[.slice none 0 0, .slice none 0 0]) BK.out 0 _ rfl) 1 _ rfl
  generalize ((w2.setCell ⟨gb, 0, none⟩ (.slice A_Xs st.length c_Xs)).setCell ⟨gb, 1, none⟩ (.slice A_Xa ar.length c_Xa)) = w3 at hk hb2 hnew ⊢
  clear BK hcz0 hcz1 hfz0 hfz1
  have n_ := Aside0.mk (R_iv Xs.out hk (by have z := HZ.out; have g6 := G_gb.out; have l6 := L_gb.out; omega))
  clear Xs
  have Xs := n_
  clear n_
  have n_ := Aside0.mk (R_iv Xa.out hk (by have z := HZ.out; have g6 := G_gb.out; have l6 := L_gb.out; omega))
  clear Xa
  have Xa := n_
  clear n_
  have n_ := Aside0.mk (R_iv Xe.out hk (by have z := HZ.out; have g6 := G_gb.out; have l6 := L_gb.out; omega))
  clear Xe
  have Xe := n_
  clear n_
  have n_ := Aside0.mk (hb2)
  clear HB
  have HB := n_
  clear n_
  have n_ := Aside0.mk (And.intro (hk.1) HZ.out)
  clear HZ
  have HZ := n_
  clear n_
  have BK := Aside0.mk hnew
  clear hk hb2 hnew
  go_at_call 41
  refine (impl_RunChart.calls k1 _ _ st _ _ ar _ _ ev a false _ (Kd.R_reads' Xs.out).2.2 (Kd.R_reads' Xs.out).2.1 (Kd.R_reads' Xa.out).2.2 (Kd.R_reads' Xa.out).2.1 (Kd.R_reads' Xe.out).2.2 (Kd.R_reads' Xe.out).2.1 E1.out).mono ?_
  rintro e w4 ⟨va, rfl, ho0, hb⟩
  have n_ := Aside0.mk (Kd.R_below Xs.out hb)
  clear Xs
  have Xs := n_
  clear n_
  have n_ := Aside0.mk (Kd.R_below Xa.out hb)
  clear Xa
  have Xa := n_
  clear n_
  have n_ := Aside0.mk (Kd.R_below Xe.out hb)
  clear Xe
  have Xe := n_
  clear n_
  have n_ := Aside0.mk (blk_below BK.out hb)
  clear BK
  have BK := n_
  clear n_
  have n_ := Aside0.mk (below_step HB.out hb)
  clear HB
  have HB := n_
  clear n_
  have n_ := Aside0.mk (And.intro (hb.size) HZ.out)
  clear HZ
  have HZ := n_
  clear n_
  clear hb
  obtain ⟨A_Ra, c_Ra, e_Ra⟩ := Kd.R_slice ho0
  subst e_Ra
  have Ra := Aside0.mk (R_mk (base := w.heap.size) ho0 (by have z := HZ.out; have g6 := G_gb.out; have l6 := L_gb.out; omega))
  clear ho0
  have hcz0 : w4.cell? ⟨gb, 0, none⟩ = some (.slice A_Xs st.length c_Xs) := (blk_cell BK.out 0).trans rfl
  have hfz0 := blk_frozen BK.out 0
  have hcz1 : w4.cell? ⟨gb, 1, none⟩ = some (.slice A_Xa ar.length c_Xa) := (blk_cell BK.out 1).trans rfl
  have hfz1 := blk_frozen BK.out 1
  go_wp2_with fail
  go_at_call 42
  refine (spec_RunChart.calls k2 _ _ st _ _ ar _ _ ev a false _ (Kd.R_reads' Xs.out).2.2 (Kd.R_reads' Xs.out).2.1 (Kd.R_reads' Xa.out).2.2 (Kd.R_reads' Xa.out).2.1 (Kd.R_reads' Xe.out).2.2 (Kd.R_reads' Xe.out).2.1 E2.out).mono ?_
  rintro e w5 ⟨va, rfl, ho0, hb⟩
  have n_ := Aside0.mk (Kd.R_below Xs.out hb)
  clear Xs
  have Xs := n_
  clear n_
  have n_ := Aside0.mk (Kd.R_below Xa.out hb)
  clear Xa
  have Xa := n_
  clear n_
  have n_ := Aside0.mk (Kd.R_below Xe.out hb)
  clear Xe
  have Xe := n_
  clear n_
  have n_ := Aside0.mk (Kd.R_below Ra.out hb)
  clear Ra
  have Ra := n_
  clear n_
  have n_ := Aside0.mk (blk_below BK.out hb)
  clear BK
  have BK := n_
  clear n_
  have n_ := Aside0.mk (below_step HB.out hb)
  clear HB
  have HB := n_
  clear n_
  have n_ := Aside0.mk (And.intro (hb.size) HZ.out)
  clear HZ
  have HZ := n_
  clear n_
  clear hb
  obtain ⟨A_Rb, c_Rb, e_Rb⟩ := Kd.R_slice ho0
  subst e_Rb
  have Rb := Aside0.mk (R_mk (base := w.heap.size) ho0 (by have z := HZ.out; have g6 := G_gb.out; have l6 := L_gb.out; omega))
  clear ho0
  clear hcz0 hcz1 hfz0 hfz1
  clear Rb
  have hcz0 : w5.cell? ⟨gb, 0, none⟩ = some (.slice A_Xs st.length c_Xs) := (blk_cell BK.out 0).trans rfl
  have hfz0 := blk_frozen BK.out 0
  have hcz1 : w5.cell? ⟨gb, 1, none⟩ = some (.slice A_Xa ar.length c_Xa) := (blk_cell BK.out 1).trans rfl
  have hfz1 := blk_frozen BK.out 1
  go_wp2_with fail
  go_at_call 43
  refine (impl_FlatChart.calls k3 _ _ st _ _ ar t is _ (Kd.R_reads' Xs.out).2.2 (Kd.R_reads' Xs.out).2.1 (Kd.R_reads' Xa.out).2.2 (Kd.R_reads' Xa.out).2.1 E3.out).mono ?_
  rintro e w6 ⟨va, rfl, ho0, hb⟩
  have n_ := Aside0.mk (Kd.R_below Xs.out hb)
  clear Xs
  have Xs := n_
  clear n_
  have n_ := Aside0.mk (Kd.R_below Xa.out hb)
  clear Xa
  have Xa := n_
  clear n_
  have n_ := Aside0.mk (Kd.R_below Xe.out hb)
  clear Xe
  have Xe := n_
  clear n_
  have n_ := Aside0.mk (Kd.R_below Ra.out hb)
  clear Ra
  have Ra := n_
  clear n_
  have n_ := Aside0.mk (blk_below BK.out hb)
  clear BK
  have BK := n_
  clear n_
  have n_ := Aside0.mk (below_step HB.out hb)
  clear HB
  have HB := n_
  clear n_
  have n_ := Aside0.mk (And.intro (hb.size) HZ.out)
  clear HZ
  have HZ := n_
  clear n_
  clear hb
  obtain ⟨A_Tt, c_Tt, e_Tt⟩ := Kd.S_slice ho0
  subst e_Tt
  have Tt := Aside0.mk (S_mk (base := w.heap.size) ho0 (by have z := HZ.out; have g6 := G_gb.out; have l6 := L_gb.out; omega))
  clear ho0
  clear hcz0 hcz1 hfz0 hfz1
  have hcz0 : w6.cell? ⟨gb, 0, none⟩ = some (.slice A_Xs st.length c_Xs) := (blk_cell BK.out 0).trans rfl
  have hfz0 := blk_frozen BK.out 0
  have hcz1 : w6.cell? ⟨gb, 1, none⟩ = some (.slice A_Xa ar.length c_Xa) := (blk_cell BK.out 1).trans rfl
  have hfz1 := blk_frozen BK.out 1
  go_wp2_with fail
  go_at_call 37
  refine (impl_EnterState.calls k4 _ _ st _ _ ar 0 r _ (Kd.R_reads' Xs.out).2.2 (Kd.R_reads' Xs.out).2.1 (Kd.R_reads' Xa.out).2.2 (Kd.R_reads' Xa.out).2.1 E4.out).mono ?_
  rintro e w7 ⟨rfl, hb⟩
  have n_ := Aside0.mk (Kd.R_below Xs.out hb)
  clear Xs
  have Xs := n_
  clear n_
  have n_ := Aside0.mk (Kd.R_below Xa.out hb)
  clear Xa
  have Xa := n_
  clear n_
  have n_ := Aside0.mk (Kd.R_below Xe.out hb)
  clear Xe
  have Xe := n_
  clear n_
  have n_ := Aside0.mk (Kd.R_below Ra.out hb)
  clear Ra
  have Ra := n_
  clear n_
  have n_ := Aside0.mk (Kd.S_below Tt.out hb)
  clear Tt
  have Tt := n_
  clear n_
  have n_ := Aside0.mk (blk_below BK.out hb)
  clear BK
  have BK := n_
  clear n_
  have n_ := Aside0.mk (below_step HB.out hb)
  clear HB
  have HB := n_
  clear n_
  have n_ := Aside0.mk (And.intro (hb.size) HZ.out)
  clear HZ
  have HZ := n_
  clear n_
  clear hb
  clear hcz0 hcz1 hfz0 hfz1
  go_wp2_with fail
  go_at_call 25
  refine (impl_RunFlat.calls k5 _ _ t r _ _ ev b told _ (Kd.S_reads' Tt.out).2.2 (Kd.S_reads' Tt.out).2.1 (Kd.R_reads' Xe.out).2.2 (Kd.R_reads' Xe.out).2.1 E5.out).mono ?_
  rintro e w8 ⟨va, rfl, ho0, hb⟩
  have n_ := Aside0.mk (Kd.R_below Xs.out hb)
  clear Xs
  have Xs := n_
  clear n_
  have n_ := Aside0.mk (Kd.R_below Xa.out hb)
  clear Xa
  have Xa := n_
  clear n_
  have n_ := Aside0.mk (Kd.R_below Xe.out hb)
  clear Xe
  have Xe := n_
  clear n_
  have n_ := Aside0.mk (Kd.R_below Ra.out hb)
  clear Ra
  have Ra := n_
  clear n_
  have n_ := Aside0.mk (Kd.S_below Tt.out hb)
  clear Tt
  have Tt := n_
  clear n_
  have n_ := Aside0.mk (blk_below BK.out hb)
  clear BK
  have BK := n_
  clear n_
  have n_ := Aside0.mk (below_step HB.out hb)
  clear HB
  have HB := n_
  clear n_
  have n_ := Aside0.mk (And.intro (hb.size) HZ.out)
  clear HZ
  have HZ := n_
  clear n_
  clear hb
  obtain ⟨A_Rf, c_Rf, e_Rf⟩ := Kd.R_slice ho0
  subst e_Rf
  have Rf := Aside0.mk (R_mk (base := w.heap.size) ho0 (by have z := HZ.out; have g6 := G_gb.out; have l6 := L_gb.out; omega))
  clear ho0
  have hcz0 : w8.cell? ⟨gb, 0, none⟩ = some (.slice A_Xs st.length c_Xs) := (blk_cell BK.out 0).trans rfl
  have hfz0 := blk_frozen BK.out 0
  have hcz1 : w8.cell? ⟨gb, 1, none⟩ = some (.slice A_Xa ar.length c_Xa) := (blk_cell BK.out 1).trans rfl
  have hfz1 := blk_frozen BK.out 1
  go_wp2_with fail
  go_at_call 32
  refine (spec_GoodChart.calls k6 _ _ st _ _ ar is _ (Kd.R_reads' Xs.out).2.2 (Kd.R_reads' Xs.out).2.1 (Kd.R_reads' Xa.out).2.2 (Kd.R_reads' Xa.out).2.1 E6.out).mono ?_
  rintro e w9 ⟨rfl, hb⟩
  have n_ := Aside0.mk (Kd.R_below Xs.out hb)
  clear Xs
  have Xs := n_
  clear n_
  have n_ := Aside0.mk (Kd.R_below Xa.out hb)
  clear Xa
  have Xa := n_
  clear n_
  have n_ := Aside0.mk (Kd.R_below Xe.out hb)
  clear Xe
  have Xe := n_
  clear n_
  have n_ := Aside0.mk (Kd.R_below Ra.out hb)
  clear Ra
  have Ra := n_
  clear n_
  have n_ := Aside0.mk (Kd.S_below Tt.out hb)
  clear Tt
  have Tt := n_
  clear n_
  have n_ := Aside0.mk (Kd.R_below Rf.out hb)
  clear Rf
  have Rf := n_
  clear n_
  have n_ := Aside0.mk (blk_below BK.out hb)
  clear BK
  have BK := n_
  clear n_
  have n_ := Aside0.mk (below_step HB.out hb)
  clear HB
  have HB := n_
  clear n_
  have n_ := Aside0.mk (And.intro (hb.size) HZ.out)
  clear HZ
  have HZ := n_
  clear n_
  clear hb
  clear hcz0 hcz1 hfz0 hfz1
  go_wp2_with fail
  go_ret
  exact ⟨by rfl, HB.out⟩

end Go.Proofs.Ytkhkgfihodljmaa.Pr
