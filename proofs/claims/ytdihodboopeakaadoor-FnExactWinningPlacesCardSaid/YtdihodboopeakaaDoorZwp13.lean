-- Joined and pruned by wip/tools/prune.py out of this session's own texts (Wpx)
import Derived.Test.YtdihodboopeakaaDoorZwp12
/- FnExactWinningPlaces, walked by hand (gen-board.py). -/
namespace Go.Proofs.YtdihodboopeakaaDoor.Pr
open Go.RowKit Go.Proofs.YtdihodboopeakaaDoorW.PrintWords Go.Proofs.YtdihodboopeakaaDoorW.PrintLast Go.Proofs.YtdihodboopeakaaDoorW.PrintMore
attribute [local go_sem] bne_self_eq_false
set_option linter.unusedVariables false
set_option linter.unusedSimpArgs false

set_option maxHeartbeats 4000000 in
set_option maxRecDepth 100000 in
theorem law_WinningPlaces_z0 (A0 : Option Addr) (c0 : Nat) (l0 : List ByteArray) (A1 : Option Addr) (c1 : Nat) (l1 : List Bool) (A2 : Option Addr) (c2 : Nat) (l2 : List (List Int)) (A3 : Option Addr) (c3 : Nat) (l3 : List ByteArray) (A4 : Option Addr) (c4 : Nat) (l4 : List ByteArray) (w : World) (hr0 : Kd.C Kd.string w A0 l0.length l0) (hc0 : l0.length ≤ c0) (hr1 : Kd.C Kd.bool w A1 l1.length l1) (hc1 : l1.length ≤ c1) (hr2 : Kd.C (Kd.slice 3 (Kd.int .i64)) w A2 l2.length l2) (hc2 : l2.length ≤ c2) (hr3 : Kd.C Kd.string w A3 l3.length l3) (hc3 : l3.length ≤ c3) (hr4 : Kd.C Kd.string w A4 l4.length l4) (hc4 : l4.length ≤ c4)
    (kz : Nat) (z0 : Int) (hz : laws_szBoard.f kz l0 l1 l2 1048576 = some z0) (hz0 : z0 < 0) :
    Calls Tryd.prog 3 #[.agg #[.slice A0 l0.length c0, .slice A1 l1.length c1, .slice A2 l2.length c2], .agg #[.slice A3 l3.length c3, .slice A4 l4.length c4]] w fun e w' => e = .returned (.bool true) ∧ Below w.heap.size w w' := by
  have hu26 := Tryd.underlying26
  have hu28 := Tryd.underlying28
  have hu34 := Tryd.underlying34
  have hu36 := Tryd.underlying36
  have HR0 := Aside0.mk hr0
  have HC0 := Aside0.mk hc0
  clear hr0 hc0
  have HR1 := Aside0.mk hr1
  have HC1 := Aside0.mk hc1
  clear hr1 hc1
  have HR2 := Aside0.mk hr2
  have HC2 := Aside0.mk hc2
  clear hr2 hc2
  have HR3 := Aside0.mk hr3
  have HC3 := Aside0.mk hc3
  clear hr3 hc3
  have HR4 := Aside0.mk hr4
  have HC4 := Aside0.mk hc4
  clear hr4 hc4
  have Z0 := Aside0.mk hz
  have b0 : decide (z0 < 0) = true := decide_eq_true hz0
  clear hz hz0
  go_enter Tryd.func3, Tryd.ntmps3
  have HB := Aside0.mk (Below.refl w.heap.size w)
  have HZ : Aside0 (w.heap.size ≤ w.heap.size) := ⟨Nat.le_refl _⟩
  go_wp2_with (first | ((with_reducible refine gate_dst (N := 2) rfl ?_); refine box_event ?hg (N := 2) ?hd (cs := #[.slice A0 l0.length c0, .slice A1 l1.length c1, .slice A2 l2.length c2]) (t := 26) ?hr ?_; (case hd => rfl); (case hg => rfl); (case hr => first | (go_simp; done) | (go_simp; rfl)); intro gbB hg w1 hbox hb; have G_gbB := Aside0.mk hg; clear hg; have n_ := Aside0.mk (below_step HB.out hb); clear HB; have HB := n_; clear n_; have n_ := Aside0.mk (And.intro (hb.size) HZ.out); clear HZ; have HZ := n_; clear n_; have BKB := Aside0.mk hbox; have L_gbB := Aside0.mk (blk_lt hbox); clear hb hbox) | ((with_reducible refine gate_dst (N := 3) rfl ?_); refine box_event ?hg (N := 3) ?hd (cs := #[.slice A3 l3.length c3, .slice A4 l4.length c4]) (t := 28) ?hr ?_; (case hd => rfl); (case hg => rfl); (case hr => first | (go_simp; done) | (go_simp; rfl)); intro gbW hg w2 hbox hb; have G_gbW := Aside0.mk hg; clear hg; have n_ := Aside0.mk (blk_below BKB.out hb); clear BKB; have BKB := n_; clear n_; have n_ := Aside0.mk (below_step HB.out hb); clear HB; have HB := n_; clear n_; have n_ := Aside0.mk (And.intro (hb.size) HZ.out); clear HZ; have HZ := n_; clear n_; have BKW := Aside0.mk hbox; have L_gbW := Aside0.mk (blk_lt hbox); clear hb hbox; have zgbB_0 : w2.cell? ⟨gbB, 0, none⟩ = some (.slice A0 l0.length c0) := (blk_cell BKB.out 0).trans rfl; have fgbB_0 := blk_frozen BKB.out 0; have zgbB_1 : w2.cell? ⟨gbB, 1, none⟩ = some (.slice A1 l1.length c1) := (blk_cell BKB.out 1).trans rfl; have fgbB_1 := blk_frozen BKB.out 1; have zgbB_2 : w2.cell? ⟨gbB, 2, none⟩ = some (.slice A2 l2.length c2) := (blk_cell BKB.out 2).trans rfl; have fgbB_2 := blk_frozen BKB.out 2; have ngbB_gbW : gbB ≠ gbW := (by have z := HZ.out; have g_gbB := G_gbB.out; have l_gbB := L_gbB.out; have g_gbW := G_gbW.out; have l_gbW := L_gbW.out; omega); have ngbW_gbB : gbW ≠ gbB := (by have z := HZ.out; have g_gbB := G_gbB.out; have l_gbB := L_gbB.out; have g_gbW := G_gbW.out; have l_gbW := L_gbW.out; omega)))
  go_wp2_with fail
  go_at_call 12
  refine (laws_szBoard.calls kz _ _ l0 _ _ l1 _ _ l2 1048576 z0 _ (Kd.C_below HR0.out HB.out) HC0.out (Kd.C_below HR1.out HB.out) HC1.out (Kd.C_below HR2.out HB.out) HC2.out Z0.out).mono ?_
  rintro e w3 ⟨rfl, hb⟩
  have n_ := Aside0.mk (blk_below BKB.out hb)
  clear BKB; have BKB := n_; clear n_
  have n_ := Aside0.mk (blk_below BKW.out hb)
  clear BKW; have BKW := n_; clear n_
  have n_ := Aside0.mk (below_step HB.out hb)
  clear HB; have HB := n_; clear n_
  have n_ := Aside0.mk (And.intro (hb.size) HZ.out)
  clear HZ; have HZ := n_; clear n_; clear hb; clear zgbB_0 fgbB_0 zgbB_1 fgbB_1 zgbB_2 fgbB_2 ngbB_gbW ngbW_gbB
  go_wp2_with fail
  go_ret
  exact ⟨rfl, HB.out⟩

set_option maxHeartbeats 4000000 in
set_option maxRecDepth 100000 in
theorem law_WinningPlaces_z1 (A0 : Option Addr) (c0 : Nat) (l0 : List ByteArray) (A1 : Option Addr) (c1 : Nat) (l1 : List Bool) (A2 : Option Addr) (c2 : Nat) (l2 : List (List Int)) (A3 : Option Addr) (c3 : Nat) (l3 : List ByteArray) (A4 : Option Addr) (c4 : Nat) (l4 : List ByteArray) (w : World) (hr0 : Kd.C Kd.string w A0 l0.length l0) (hc0 : l0.length ≤ c0) (hr1 : Kd.C Kd.bool w A1 l1.length l1) (hc1 : l1.length ≤ c1) (hr2 : Kd.C (Kd.slice 3 (Kd.int .i64)) w A2 l2.length l2) (hc2 : l2.length ≤ c2) (hr3 : Kd.C Kd.string w A3 l3.length l3) (hc3 : l3.length ≤ c3) (hr4 : Kd.C Kd.string w A4 l4.length l4) (hc4 : l4.length ≤ c4)
    (kz kw : Nat) (z0 z1 : Int) (hz : laws_szBoard.f kz l0 l1 l2 1048576 = some z0) (hz0 : ¬ z0 < 0) (hw : laws_szWish.f kw l3 l4 z0 = some z1) (hz1 : z1 < 0) :
    Calls Tryd.prog 3 #[.agg #[.slice A0 l0.length c0, .slice A1 l1.length c1, .slice A2 l2.length c2], .agg #[.slice A3 l3.length c3, .slice A4 l4.length c4]] w fun e w' => e = .returned (.bool true) ∧ Below w.heap.size w w' := by
  have hu26 := Tryd.underlying26
  have hu28 := Tryd.underlying28
  have hu34 := Tryd.underlying34
  have hu36 := Tryd.underlying36
  have HR0 := Aside0.mk hr0
  have HC0 := Aside0.mk hc0
  clear hr0 hc0
  have HR1 := Aside0.mk hr1
  have HC1 := Aside0.mk hc1
  clear hr1 hc1
  have HR2 := Aside0.mk hr2
  have HC2 := Aside0.mk hc2
  clear hr2 hc2
  have HR3 := Aside0.mk hr3
  have HC3 := Aside0.mk hc3
  clear hr3 hc3
  have HR4 := Aside0.mk hr4
  have HC4 := Aside0.mk hc4
  clear hr4 hc4
  have Z0 := Aside0.mk hz
  have Z1 := Aside0.mk hw
  have b0 : decide (z0 < 0) = false := decide_eq_false hz0
  have b1 : decide (z1 < 0) = true := decide_eq_true hz1
  clear hz hz0 hw hz1
  go_enter Tryd.func3, Tryd.ntmps3
  have HB := Aside0.mk (Below.refl w.heap.size w)
  have HZ : Aside0 (w.heap.size ≤ w.heap.size) := ⟨Nat.le_refl _⟩
  go_wp2_with (first | ((with_reducible refine gate_dst (N := 2) rfl ?_); refine box_event ?hg (N := 2) ?hd (cs := #[.slice A0 l0.length c0, .slice A1 l1.length c1, .slice A2 l2.length c2]) (t := 26) ?hr ?_; (case hd => rfl); (case hg => rfl); (case hr => first | (go_simp; done) | (go_simp; rfl)); intro gbB hg w1 hbox hb; have G_gbB := Aside0.mk hg; clear hg; have n_ := Aside0.mk (below_step HB.out hb); clear HB; have HB := n_; clear n_; have n_ := Aside0.mk (And.intro (hb.size) HZ.out); clear HZ; have HZ := n_; clear n_; have BKB := Aside0.mk hbox; have L_gbB := Aside0.mk (blk_lt hbox); clear hb hbox) | ((with_reducible refine gate_dst (N := 3) rfl ?_); refine box_event ?hg (N := 3) ?hd (cs := #[.slice A3 l3.length c3, .slice A4 l4.length c4]) (t := 28) ?hr ?_; (case hd => rfl); (case hg => rfl); (case hr => first | (go_simp; done) | (go_simp; rfl)); intro gbW hg w2 hbox hb; have G_gbW := Aside0.mk hg; clear hg; have n_ := Aside0.mk (blk_below BKB.out hb); clear BKB; have BKB := n_; clear n_; have n_ := Aside0.mk (below_step HB.out hb); clear HB; have HB := n_; clear n_; have n_ := Aside0.mk (And.intro (hb.size) HZ.out); clear HZ; have HZ := n_; clear n_; have BKW := Aside0.mk hbox; have L_gbW := Aside0.mk (blk_lt hbox); clear hb hbox; have zgbB_0 : w2.cell? ⟨gbB, 0, none⟩ = some (.slice A0 l0.length c0) := (blk_cell BKB.out 0).trans rfl; have fgbB_0 := blk_frozen BKB.out 0; have zgbB_1 : w2.cell? ⟨gbB, 1, none⟩ = some (.slice A1 l1.length c1) := (blk_cell BKB.out 1).trans rfl; have fgbB_1 := blk_frozen BKB.out 1; have zgbB_2 : w2.cell? ⟨gbB, 2, none⟩ = some (.slice A2 l2.length c2) := (blk_cell BKB.out 2).trans rfl; have fgbB_2 := blk_frozen BKB.out 2; have ngbB_gbW : gbB ≠ gbW := (by have z := HZ.out; have g_gbB := G_gbB.out; have l_gbB := L_gbB.out; have g_gbW := G_gbW.out; have l_gbW := L_gbW.out; omega); have ngbW_gbB : gbW ≠ gbB := (by have z := HZ.out; have g_gbB := G_gbB.out; have l_gbB := L_gbB.out; have g_gbW := G_gbW.out; have l_gbW := L_gbW.out; omega)))
  go_wp2_with fail
  go_at_call 12
  refine (laws_szBoard.calls kz _ _ l0 _ _ l1 _ _ l2 1048576 z0 _ (Kd.C_below HR0.out HB.out) HC0.out (Kd.C_below HR1.out HB.out) HC1.out (Kd.C_below HR2.out HB.out) HC2.out Z0.out).mono ?_
  rintro e w3 ⟨rfl, hb⟩
  have n_ := Aside0.mk (blk_below BKB.out hb)
  clear BKB; have BKB := n_; clear n_
  have n_ := Aside0.mk (blk_below BKW.out hb)
  clear BKW; have BKW := n_; clear n_
  have n_ := Aside0.mk (below_step HB.out hb)
  clear HB; have HB := n_; clear n_
  have n_ := Aside0.mk (And.intro (hb.size) HZ.out)
  clear HZ; have HZ := n_; clear n_; clear hb; clear zgbB_0 fgbB_0 zgbB_1 fgbB_1 zgbB_2 fgbB_2 ngbB_gbW ngbW_gbB
  have zgbW_0 : w3.cell? ⟨gbW, 0, none⟩ = some (.slice A3 l3.length c3) := (blk_cell BKW.out 0).trans rfl
  have fgbW_0 := blk_frozen BKW.out 0
  have zgbW_1 : w3.cell? ⟨gbW, 1, none⟩ = some (.slice A4 l4.length c4) := (blk_cell BKW.out 1).trans rfl
  have fgbW_1 := blk_frozen BKW.out 1
  go_wp2_with fail
  go_at_call 13
  refine (laws_szWish.calls kw _ _ l3 _ _ l4 z0 z1 _ (Kd.C_below HR3.out HB.out) HC3.out (Kd.C_below HR4.out HB.out) HC4.out Z1.out).mono ?_
  rintro e w4 ⟨rfl, hb⟩
  have n_ := Aside0.mk (blk_below BKB.out hb)
  clear BKB; have BKB := n_; clear n_
  have n_ := Aside0.mk (blk_below BKW.out hb)
  clear BKW; have BKW := n_; clear n_
  have n_ := Aside0.mk (below_step HB.out hb)
  clear HB; have HB := n_; clear n_
  have n_ := Aside0.mk (And.intro (hb.size) HZ.out)
  clear HZ; have HZ := n_; clear n_; clear hb; clear zgbW_0 fgbW_0 zgbW_1 fgbW_1
  go_wp2_with fail
  go_ret
  exact ⟨rfl, HB.out⟩

set_option maxHeartbeats 4000000 in
set_option maxRecDepth 100000 in
theorem law_WinningPlaces (A0 : Option Addr) (c0 : Nat) (l0 : List ByteArray) (A1 : Option Addr) (c1 : Nat) (l1 : List Bool) (A2 : Option Addr) (c2 : Nat) (l2 : List (List Int)) (A3 : Option Addr) (c3 : Nat) (l3 : List ByteArray) (A4 : Option Addr) (c4 : Nat) (l4 : List ByteArray) (w : World) (hr0 : Kd.C Kd.string w A0 l0.length l0) (hc0 : l0.length ≤ c0) (hr1 : Kd.C Kd.bool w A1 l1.length l1) (hc1 : l1.length ≤ c1) (hr2 : Kd.C (Kd.slice 3 (Kd.int .i64)) w A2 l2.length l2) (hc2 : l2.length ≤ c2) (hr3 : Kd.C Kd.string w A3 l3.length l3) (hc3 : l3.length ≤ c3) (hr4 : Kd.C Kd.string w A4 l4.length l4) (hc4 : l4.length ≤ c4)
    (ht : Tabs w) (y : List Int) (b : Bool) (t0 : List ByteArray) (t1 : List Bool) (t2 : List (List Int)) (t3 t4 : List ByteArray) (t5 : List Int) (z0 m0 m1 m2 m3 mm z1 : Int) (kz k0 k2 k3 k4 k5 k6 ka kb kc kd ke kf kw k1 : Nat) (hz : laws_szBoard.f kz l0 l1 l2 1048576 = some z0) (hw : laws_szWish.f kw l3 l4 z0 = some z1) (h0 : laws_toBoard.f k0 l0 l1 l2 = some (l0, l1, l2)) (h1 : laws_toWish.f k1 l3 l4 = some (l3, l4)) (h2 : spec_WinningPlaces.f k2 l0 l1 l2 l3 l4 = some (y, b)) (h3 : impl_WinningPlaces.f k3 l0 l1 l2 l3 l4 = some (y, b)) (h4 : laws_eqIntS.f k4 y y = some true) (h5 : laws_eqBoard.f k5 l0 l1 l2 l0 l1 l2 = some true) (h6 : laws_eqWish.f k6 l3 l4 l3 l4 = some true) (ha : laws_markStringS.f ka l0 1 = some (m0, t0)) (hb : laws_markBoolS.f kb l1 m0 = some (m1, t1)) (hc : laws_markIntSS.f kc l2 m1 = some (m2, t2)) (hd : laws_markWish.f kd l3 l4 m2 = some (m3, t3, t4)) (he : laws_markIntS.f ke y 1 = some (mm, t5)) (hf : laws_heldIntS.f kf t5 1 = some mm) (hz0 : ¬ z0 < 0) (hz1 : ¬ z1 < 0) (hm3 : ¬ m3 < 0) (hmm : ¬ mm < 0) :
    Calls Tryd.prog 3 #[.agg #[.slice A0 l0.length c0, .slice A1 l1.length c1, .slice A2 l2.length c2], .agg #[.slice A3 l3.length c3, .slice A4 l4.length c4]] w fun e w' => e = .returned (.bool true) ∧ Below w.heap.size w w' := by
  have hu26 := Tryd.underlying26
  have hu28 := Tryd.underlying28
  have hu34 := Tryd.underlying34
  have hu36 := Tryd.underlying36
  have HR0 := Aside0.mk hr0
  have HC0 := Aside0.mk hc0
  clear hr0 hc0
  have HR1 := Aside0.mk hr1
  have HC1 := Aside0.mk hc1
  clear hr1 hc1
  have HR2 := Aside0.mk hr2
  have HC2 := Aside0.mk hc2
  clear hr2 hc2
  have HR3 := Aside0.mk hr3
  have HC3 := Aside0.mk hc3
  clear hr3 hc3
  have HR4 := Aside0.mk hr4
  have HC4 := Aside0.mk hc4
  clear hr4 hc4
  have HTb_ := Aside0.mk ht
  clear ht
  have Z0 := Aside0.mk hz
  clear hz
  have Z1 := Aside0.mk hw
  clear hw
  have E0 := Aside0.mk h0
  clear h0
  have E1 := Aside0.mk h1
  clear h1
  have E2 := Aside0.mk h2
  clear h2
  have E3 := Aside0.mk h3
  clear h3
  have E4 := Aside0.mk h4
  clear h4
  have E5 := Aside0.mk h5
  clear h5
  have E6 := Aside0.mk h6
  clear h6
  have Ea := Aside0.mk ha
  clear ha
  have Eb := Aside0.mk hb
  clear hb
  have Ec := Aside0.mk hc
  clear hc
  have Ed := Aside0.mk hd
  clear hd
  have Ee := Aside0.mk he
  clear he
  have Ef := Aside0.mk hf
  clear hf
  have b_z0 : decide (z0 < 0) = false := decide_eq_false hz0
  clear hz0
  have b_z1 : decide (z1 < 0) = false := decide_eq_false hz1
  clear hz1
  have b_m3 : decide (m3 < 0) = false := decide_eq_false hm3
  clear hm3
  have b_mm : decide (mm < 0) = false := decide_eq_false hmm
  clear hmm
  go_enter Tryd.func3, Tryd.ntmps3
  have HB := Aside0.mk (Below.refl w.heap.size w)
  have HZ : Aside0 (w.heap.size ≤ w.heap.size) := ⟨Nat.le_refl _⟩
  go_wp2_with (first | ((with_reducible refine gate_dst (N := 2) rfl ?_); refine box_event ?hg (N := 2) ?hd (cs := #[.slice A0 l0.length c0, .slice A1 l1.length c1, .slice A2 l2.length c2]) (t := 26) ?hr ?_; (case hd => rfl); (case hg => rfl); (case hr => first | (go_simp; done) | (go_simp; rfl)); intro gbB hg w1 hbox hb; have G_gbB := Aside0.mk hg; clear hg; have n_ := Aside0.mk (below_step HB.out hb); clear HB; have HB := n_; clear n_; have n_ := Aside0.mk (And.intro (hb.size) HZ.out); clear HZ; have HZ := n_; clear n_; have BKB := Aside0.mk hbox; have L_gbB := Aside0.mk (blk_lt hbox); clear hb hbox) | ((with_reducible refine gate_dst (N := 3) rfl ?_); refine box_event ?hg (N := 3) ?hd (cs := #[.slice A3 l3.length c3, .slice A4 l4.length c4]) (t := 28) ?hr ?_; (case hd => rfl); (case hg => rfl); (case hr => first | (go_simp; done) | (go_simp; rfl)); intro gbW hg w2 hbox hb; have G_gbW := Aside0.mk hg; clear hg; have n_ := Aside0.mk (blk_below BKB.out hb); clear BKB; have BKB := n_; clear n_; have n_ := Aside0.mk (below_step HB.out hb); clear HB; have HB := n_; clear n_; have n_ := Aside0.mk (And.intro (hb.size) HZ.out); clear HZ; have HZ := n_; clear n_; have BKW := Aside0.mk hbox; have L_gbW := Aside0.mk (blk_lt hbox); clear hb hbox; have zgbB_0 : w2.cell? ⟨gbB, 0, none⟩ = some (.slice A0 l0.length c0) := (blk_cell BKB.out 0).trans rfl; have fgbB_0 := blk_frozen BKB.out 0; have zgbB_1 : w2.cell? ⟨gbB, 1, none⟩ = some (.slice A1 l1.length c1) := (blk_cell BKB.out 1).trans rfl; have fgbB_1 := blk_frozen BKB.out 1; have zgbB_2 : w2.cell? ⟨gbB, 2, none⟩ = some (.slice A2 l2.length c2) := (blk_cell BKB.out 2).trans rfl; have fgbB_2 := blk_frozen BKB.out 2; have ngbB_gbW : gbB ≠ gbW := (by have z := HZ.out; have g_gbB := G_gbB.out; have l_gbB := L_gbB.out; have g_gbW := G_gbW.out; have l_gbW := L_gbW.out; omega); have ngbW_gbB : gbW ≠ gbB := (by have z := HZ.out; have g_gbB := G_gbB.out; have l_gbB := L_gbB.out; have g_gbW := G_gbW.out; have l_gbW := L_gbW.out; omega)))
  go_wp2_with fail
  go_at_call 12
  refine (laws_szBoard.calls kz _ _ l0 _ _ l1 _ _ l2 1048576 z0 _ (Kd.C_below HR0.out HB.out) HC0.out (Kd.C_below HR1.out HB.out) HC1.out (Kd.C_below HR2.out HB.out) HC2.out Z0.out).mono ?_
  rintro e w3 ⟨rfl, hb⟩
  have n_ := Aside0.mk (blk_below BKB.out hb)
  clear BKB; have BKB := n_; clear n_
  have n_ := Aside0.mk (blk_below BKW.out hb)
  clear BKW; have BKW := n_; clear n_
  have n_ := Aside0.mk (below_step HB.out hb)
  clear HB; have HB := n_; clear n_
  have n_ := Aside0.mk (And.intro (hb.size) HZ.out)
  clear HZ; have HZ := n_; clear n_; clear hb; clear zgbB_0 fgbB_0 zgbB_1 fgbB_1 zgbB_2 fgbB_2 ngbB_gbW ngbW_gbB
  have zgbW_0 : w3.cell? ⟨gbW, 0, none⟩ = some (.slice A3 l3.length c3) := (blk_cell BKW.out 0).trans rfl
  have fgbW_0 := blk_frozen BKW.out 0
  have zgbW_1 : w3.cell? ⟨gbW, 1, none⟩ = some (.slice A4 l4.length c4) := (blk_cell BKW.out 1).trans rfl
  have fgbW_1 := blk_frozen BKW.out 1
  go_wp2_with fail
  go_at_call 13
  refine (laws_szWish.calls kw _ _ l3 _ _ l4 z0 z1 _ (Kd.C_below HR3.out HB.out) HC3.out (Kd.C_below HR4.out HB.out) HC4.out Z1.out).mono ?_
  rintro e w4 ⟨rfl, hb⟩
  have n_ := Aside0.mk (blk_below BKB.out hb)
  clear BKB; have BKB := n_; clear n_
  have n_ := Aside0.mk (blk_below BKW.out hb)
  clear BKW; have BKW := n_; clear n_
  have n_ := Aside0.mk (below_step HB.out hb)
  clear HB; have HB := n_; clear n_
  have n_ := Aside0.mk (And.intro (hb.size) HZ.out)
  clear HZ; have HZ := n_; clear n_; clear hb; clear zgbW_0 fgbW_0 zgbW_1 fgbW_1
  go_wp2_with fail
  have hb : Below w4.heap.size w4 w4.drew := below_drew (Below.refl _ _)
  have n_ := Aside0.mk (blk_below BKB.out hb)
  clear BKB; have BKB := n_; clear n_
  have n_ := Aside0.mk (blk_below BKW.out hb)
  clear BKW; have BKW := n_; clear n_
  have n_ := Aside0.mk (below_step HB.out hb)
  clear HB; have HB := n_; clear n_
  have n_ := Aside0.mk (And.intro (hb.size) HZ.out)
  clear HZ; have HZ := n_; clear n_; clear hb
  refine start_ (n := 10) (S := (fun w' => w'.cell? ⟨gbB, 0, none⟩ = some (.slice A0 l0.length c0) ∧ w'.cell? ⟨gbB, 1, none⟩ = some (.slice A1 l1.length c1) ∧ w'.cell? ⟨gbB, 2, none⟩ = some (.slice A2 l2.length c2) ∧ w'.cell? ⟨gbW, 0, none⟩ = some (.slice A3 l3.length c3) ∧ w'.cell? ⟨gbW, 1, none⟩ = some (.slice A4 l4.length c4))) (ds := []) #[false, false, false, false, false, false, false, false, false, false] (by kernel_rfl) rfl rfl ⟨(blk_cell BKB.out 0).trans rfl, (blk_cell BKB.out 1).trans rfl, (blk_cell BKB.out 2).trans rfl, (blk_cell BKW.out 0).trans rfl, (blk_cell BKW.out 1).trans rfl⟩ (fun hHeld => ?_)
  generalize w4.drew = w5 at BKB BKW HB HZ hHeld ⊢
  refine take_ (i := 0) (N := some 28) (v := ?_) (a' := ?_) #[true, false, false, false, false, false, false, false, false, false] rfl rfl (by kernel_rfl) (fun _ _ _ h => h) (Or.inl ⟨by rfl, ?_⟩) hHeld ?_ ?_
  rotate_left
  · rintro w' ⟨s0, s1, s2, s3, s4⟩
    go_simp
    with_reducible rfl
  rotate_left
  · simp only [Act.put, List.setIfInBounds_toArray, List.set_cons_zero, List.set_cons_succ]
    rfl
  refine take_ (i := 2) (N := some 30) (v := ?_) (a' := ?_) #[true, false, true, false, false, false, false, false, false, false] rfl rfl (by kernel_rfl) (fun _ _ _ h => h) (Or.inl ⟨by rfl, ?_⟩) hHeld ?_ ?_
  rotate_left
  · rintro w' ⟨s0, s1, s2, s3, s4⟩
    go_simp
    with_reducible rfl
  rotate_left
  · simp only [Act.put, List.setIfInBounds_toArray, List.set_cons_zero, List.set_cons_succ]
    rfl
  refine one_ (i := 1) (N := some 29) #[true, true, true, false, false, false, false, false, false, false] rfl rfl (by kernel_rfl) (by decide) (fun K hK => ?_)
  refine goes_ Tryd.func15 (by kernel_rfl) rfl #[.agg #[.slice A0 l0.length c0, .slice A1 l1.length c1, .slice A2 l2.length c2]] (by rfl) rfl rfl (by simp only [List.map_toArray, List.map_cons, List.map_nil]; rfl) ?_
  refine (laws_toBoard.calls k0 _ _ l0 _ _ l1 _ _ l2 l0 l1 l2 _ (Kd.C_below HR0.out HB.out) HC0.out (Kd.C_below HR1.out HB.out) HC1.out (Kd.C_below HR2.out HB.out) HC2.out E0.out).mono ?_
  rintro e w6 ⟨va, vb, vc, rfl, ho0, ho1, ho2, hb⟩
  refine ⟨_, rfl, ?_⟩
  have n_ := Aside0.mk (blk_below BKB.out hb)
  clear BKB; have BKB := n_; clear n_
  have n_ := Aside0.mk (blk_below BKW.out hb)
  clear BKW; have BKW := n_; clear n_
  have n_ := Aside0.mk (below_step HB.out hb)
  clear HB; have HB := n_; clear n_
  have n_ := Aside0.mk (And.intro (hb.size) HZ.out)
  clear HZ; have HZ := n_; clear n_; clear hb
  obtain ⟨A_T0, c_T0, e_T0⟩ := Kd.R_slice ho0
  subst e_T0
  have T0 := Aside0.mk (R_mk (base := w.heap.size) ho0 (by have z := HZ.out; have g_gbB := G_gbB.out; have l_gbB := L_gbB.out; have g_gbW := G_gbW.out; have l_gbW := L_gbW.out; omega))
  clear ho0
  obtain ⟨A_T1, c_T1, e_T1⟩ := Kd.R_slice ho1
  subst e_T1
  have T1 := Aside0.mk (R_mk (base := w.heap.size) ho1 (by have z := HZ.out; have g_gbB := G_gbB.out; have l_gbB := L_gbB.out; have g_gbW := G_gbW.out; have l_gbW := L_gbW.out; omega))
  clear ho1
  obtain ⟨A_T2, c_T2, e_T2⟩ := Kd.S_slice ho2
  subst e_T2
  have T2 := Aside0.mk (S_mk (base := w.heap.size) ho2 (by have z := HZ.out; have g_gbB := G_gbB.out; have l_gbB := L_gbB.out; have g_gbW := G_gbW.out; have l_gbW := L_gbW.out; omega))
  clear ho2
  refine hK.out _ _ ⟨(blk_cell BKB.out 0).trans rfl, (blk_cell BKB.out 1).trans rfl, (blk_cell BKB.out 2).trans rfl, (blk_cell BKW.out 0).trans rfl, (blk_cell BKW.out 1).trans rfl⟩ (fun hHeld => ?_)
  clear hK K
  refine norm_ (a' := ?_) ?_ ?_
  rotate_left
  · show Act.put _ (some 29) _ = _
    simp only [Act.put, List.setIfInBounds_toArray, List.set_cons_zero, List.set_cons_succ]
    rfl
  refine one_ (i := 3) (N := some 31) #[true, true, true, true, false, false, false, false, false, false] rfl rfl (by kernel_rfl) (by decide) (fun K hK => ?_)
  refine goes_ Tryd.func16 (by kernel_rfl) rfl #[.agg #[.slice A3 l3.length c3, .slice A4 l4.length c4]] (by rfl) rfl rfl (by simp only [List.map_toArray, List.map_cons, List.map_nil]; rfl) ?_
  refine (laws_toWish.calls k1 _ _ l3 _ _ l4 l3 l4 _ (Kd.C_below HR3.out HB.out) HC3.out (Kd.C_below HR4.out HB.out) HC4.out E1.out).mono ?_
  rintro e w7 ⟨va, vb, rfl, ho0, ho1, hb⟩
  refine ⟨_, rfl, ?_⟩
  have n_ := Aside0.mk (Kd.R_below T0.out hb)
  clear T0; have T0 := n_; clear n_
  have n_ := Aside0.mk (Kd.R_below T1.out hb)
  clear T1; have T1 := n_; clear n_
  have n_ := Aside0.mk (Kd.S_below T2.out hb)
  clear T2; have T2 := n_; clear n_
  have n_ := Aside0.mk (blk_below BKB.out hb)
  clear BKB; have BKB := n_; clear n_
  have n_ := Aside0.mk (blk_below BKW.out hb)
  clear BKW; have BKW := n_; clear n_
  have n_ := Aside0.mk (below_step HB.out hb)
  clear HB; have HB := n_; clear n_
  have n_ := Aside0.mk (And.intro (hb.size) HZ.out)
  clear HZ; have HZ := n_; clear n_; clear hb
  have NE_T := Aside0.mk ho0.1
  have ho2 := Kd.R_mono ho0 (fun _ _ => trivial)
  have ho3 := Kd.R_mono ho1 (fun _ _ => trivial)
  clear ho0 ho1
  obtain ⟨A_T3, c_T3, e_T3⟩ := Kd.R_slice ho2
  subst e_T3
  have T3 := Aside0.mk (R_mk (base := w.heap.size) ho2 (by have z := HZ.out; have g_gbB := G_gbB.out; have l_gbB := L_gbB.out; have g_gbW := G_gbW.out; have l_gbW := L_gbW.out; omega))
  clear ho2
  obtain ⟨A_T4, c_T4, e_T4⟩ := Kd.R_slice ho3
  subst e_T4
  have T4 := Aside0.mk (R_mk (base := w.heap.size) ho3 (by have z := HZ.out; have g_gbB := G_gbB.out; have l_gbB := L_gbB.out; have g_gbW := G_gbW.out; have l_gbW := L_gbW.out; omega))
  clear ho3; clear NE_T
  refine hK.out _ _ ⟨(blk_cell BKB.out 0).trans rfl, (blk_cell BKB.out 1).trans rfl, (blk_cell BKB.out 2).trans rfl, (blk_cell BKW.out 0).trans rfl, (blk_cell BKW.out 1).trans rfl⟩ (fun hHeld => ?_)
  clear hK K
  refine norm_ (a' := ?_) ?_ ?_
  rotate_left
  · show Act.put _ (some 31) _ = _
    simp only [Act.put, List.setIfInBounds_toArray, List.set_cons_zero, List.set_cons_succ]
    rfl
  refine one_ (i := 4) (N := some 32) #[true, true, true, true, true, false, false, false, false, false] rfl rfl (by kernel_rfl) (by decide) (fun K hK => ?_)
  refine goes_ Tryd.func14 (by kernel_rfl) rfl #[.agg #[.slice A_T0 l0.length c_T0, .slice A_T1 l1.length c_T1, .slice A_T2 l2.length c_T2], .agg #[.slice A_T3 l3.length c_T3, .slice A_T4 l4.length c_T4]] (by rfl) rfl rfl (by simp only [List.map_toArray, List.map_cons, List.map_nil]; rfl) ?_
  refine (spec_WinningPlaces.calls k2 _ _ l0 _ _ l1 _ _ l2 _ _ l3 _ _ l4 y b _ (Kd.R_reads' T0.out).2.2 (Kd.R_reads' T0.out).2.1 (Kd.R_reads' T1.out).2.2 (Kd.R_reads' T1.out).2.1 (Kd.S_reads' T2.out).2.2 (Kd.S_reads' T2.out).2.1 (Kd.R_reads' T3.out).2.2 (Kd.R_reads' T3.out).2.1 (Kd.R_reads' T4.out).2.2 (Kd.R_reads' T4.out).2.1 E2.out).mono ?_
  rintro e w8 ⟨va, rfl, ho0, hb⟩
  refine ⟨_, rfl, ?_⟩
  have n_ := Aside0.mk (Kd.R_below T0.out hb)
  clear T0; have T0 := n_; clear n_
  have n_ := Aside0.mk (Kd.R_below T1.out hb)
  clear T1; have T1 := n_; clear n_
  have n_ := Aside0.mk (Kd.S_below T2.out hb)
  clear T2; have T2 := n_; clear n_
  have n_ := Aside0.mk (Kd.R_below T3.out hb)
  clear T3; have T3 := n_; clear n_
  have n_ := Aside0.mk (Kd.R_below T4.out hb)
  clear T4; have T4 := n_; clear n_
  have n_ := Aside0.mk (blk_below BKB.out hb)
  clear BKB; have BKB := n_; clear n_
  have n_ := Aside0.mk (blk_below BKW.out hb)
  clear BKW; have BKW := n_; clear n_
  have n_ := Aside0.mk (below_step HB.out hb)
  clear HB; have HB := n_; clear n_
  have n_ := Aside0.mk (And.intro (hb.size) HZ.out)
  clear HZ; have HZ := n_; clear n_; clear hb
  obtain ⟨A_W0, c_W0, e_W0⟩ := Kd.R_slice ho0
  subst e_W0
  have W0 := Aside0.mk (R_mk (base := w.heap.size) ho0 (by have z := HZ.out; have g_gbB := G_gbB.out; have l_gbB := L_gbB.out; have g_gbW := G_gbW.out; have l_gbW := L_gbW.out; omega))
  clear ho0
  refine hK.out _ _ ⟨(blk_cell BKB.out 0).trans rfl, (blk_cell BKB.out 1).trans rfl, (blk_cell BKB.out 2).trans rfl, (blk_cell BKW.out 0).trans rfl, (blk_cell BKW.out 1).trans rfl⟩ (fun hHeld => ?_)
  clear hK K
  refine norm_ (a' := ?_) ?_ ?_
  rotate_left
  · show Act.put _ (some 32) _ = _
    simp only [Act.put, List.setIfInBounds_toArray, List.set_cons_zero, List.set_cons_succ]
    rfl
  refine pure_ (i := 5) (N := some 27) (v := ?_) (a' := ?_) #[true, true, true, true, true, true, false, false, false, false] rfl rfl (by kernel_rfl) (fun _ _ _ h => h) (Or.inl ⟨by rfl, ?_⟩) ?_ ?_
  rotate_left
  · intro w'
    go_simp
    with_reducible rfl
  rotate_left
  · simp only [Act.put, List.setIfInBounds_toArray, List.set_cons_zero, List.set_cons_succ]
    rfl
  refine pure_ (i := 6) (N := some 33) (v := ?_) (a' := ?_) #[true, true, true, true, true, true, true, false, false, false] rfl rfl (by kernel_rfl) (fun _ _ _ h => h) (Or.inl ⟨by rfl, ?_⟩) ?_ ?_
  rotate_left
  · intro w'
    go_simp
    with_reducible rfl
  rotate_left
  · simp only [Act.put, List.setIfInBounds_toArray, List.set_cons_zero, List.set_cons_succ]
    rfl
  refine pure_ (i := 7) (N := some 34) (v := ?_) (a' := ?_) #[true, true, true, true, true, true, true, true, false, false] rfl rfl (by kernel_rfl) (fun _ _ _ h => h) (Or.inl ⟨by rfl, ?_⟩) ?_ ?_
  rotate_left
  · intro w'
    go_simp
    with_reducible rfl
  rotate_left
  · simp only [Act.put, List.setIfInBounds_toArray, List.set_cons_zero, List.set_cons_succ]
    rfl
  refine pure_ (i := 8) (N := some 6) (v := ?_) (a' := ?_) #[true, true, true, true, true, true, true, true, true, false] rfl rfl (by kernel_rfl) (fun _ _ _ h => h) (Or.inl ⟨by rfl, ?_⟩) ?_ ?_
  rotate_left
  · intro w'
    go_simp
    with_reducible rfl
  rotate_left
  · simp only [Act.put, List.setIfInBounds_toArray, List.set_cons_zero, List.set_cons_succ]
    rfl
  refine pure_ (i := 9) (N := some 7) (v := ?_) (a' := ?_) #[true, true, true, true, true, true, true, true, true, true] rfl rfl (by kernel_rfl) (fun _ _ _ h => h) (Or.inl ⟨by rfl, ?_⟩) ?_ ?_
  rotate_left
  · intro w'
    go_simp
    with_reducible rfl
  rotate_left
  · simp only [Act.put, List.setIfInBounds_toArray, List.set_cons_zero, List.set_cons_succ]
    rfl
  refine done_ (by kernel_rfl) ?_
  clear T0; clear T1; clear T2; clear T3; clear T4
  have zgbB_0 : w8.cell? ⟨gbB, 0, none⟩ = some (.slice A0 l0.length c0) := (blk_cell BKB.out 0).trans rfl
  have fgbB_0 := blk_frozen BKB.out 0
  have zgbB_1 : w8.cell? ⟨gbB, 1, none⟩ = some (.slice A1 l1.length c1) := (blk_cell BKB.out 1).trans rfl
  have fgbB_1 := blk_frozen BKB.out 1
  have zgbB_2 : w8.cell? ⟨gbB, 2, none⟩ = some (.slice A2 l2.length c2) := (blk_cell BKB.out 2).trans rfl
  have fgbB_2 := blk_frozen BKB.out 2
  go_wp2_with fail
  go_at_call 15
  refine (laws_toBoard.calls k0 _ _ l0 _ _ l1 _ _ l2 l0 l1 l2 _ (Kd.C_below HR0.out HB.out) HC0.out (Kd.C_below HR1.out HB.out) HC1.out (Kd.C_below HR2.out HB.out) HC2.out E0.out).mono ?_
  rintro e w9 ⟨va, vb, vc, rfl, ho0, ho1, ho2, hb⟩
  have n_ := Aside0.mk (Kd.R_below W0.out hb)
  clear W0; have W0 := n_; clear n_
  have n_ := Aside0.mk (blk_below BKB.out hb)
  clear BKB; have BKB := n_; clear n_
  have n_ := Aside0.mk (blk_below BKW.out hb)
  clear BKW; have BKW := n_; clear n_
  have n_ := Aside0.mk (below_step HB.out hb)
  clear HB; have HB := n_; clear n_
  have n_ := Aside0.mk (And.intro (hb.size) HZ.out)
  clear HZ; have HZ := n_; clear n_; clear hb
  obtain ⟨A_X0, c_X0, e_X0⟩ := Kd.R_slice ho0
  subst e_X0
  have X0 := Aside0.mk (R_mk (base := w.heap.size) ho0 (by have z := HZ.out; have g_gbB := G_gbB.out; have l_gbB := L_gbB.out; have g_gbW := G_gbW.out; have l_gbW := L_gbW.out; omega))
  clear ho0
  obtain ⟨A_X1, c_X1, e_X1⟩ := Kd.R_slice ho1
  subst e_X1
  have X1 := Aside0.mk (R_mk (base := w.heap.size) ho1 (by have z := HZ.out; have g_gbB := G_gbB.out; have l_gbB := L_gbB.out; have g_gbW := G_gbW.out; have l_gbW := L_gbW.out; omega))
  clear ho1
  obtain ⟨A_X2, c_X2, e_X2⟩ := Kd.S_slice ho2
  subst e_X2
  have X2 := Aside0.mk (S_mk (base := w.heap.size) ho2 (by have z := HZ.out; have g_gbB := G_gbB.out; have l_gbB := L_gbB.out; have g_gbW := G_gbW.out; have l_gbW := L_gbW.out; omega))
  clear ho2; clear zgbB_0 fgbB_0 zgbB_1 fgbB_1 zgbB_2 fgbB_2
  go_wp2_with (first | ((with_reducible refine gate_dst (N := 8) rfl ?_); refine box_event ?hg (N := 8) ?hd (cs := #[.slice none 0 0, .slice none 0 0, .slice none 0 0]) (t := 34) ?hr ?_; (case hd => rfl); (case hg => rfl); (case hr => first | (go_simp; done) | (go_simp; rfl)); intro gbX hg w10 hbox hb; have G_gbX := Aside0.mk hg; clear hg; have n_ := Aside0.mk (Kd.R_below W0.out hb); clear W0; have W0 := n_; clear n_; have n_ := Aside0.mk (Kd.R_below X0.out hb); clear X0; have X0 := n_; clear n_; have n_ := Aside0.mk (Kd.R_below X1.out hb); clear X1; have X1 := n_; clear n_; have n_ := Aside0.mk (Kd.S_below X2.out hb); clear X2; have X2 := n_; clear n_; have n_ := Aside0.mk (blk_below BKB.out hb); clear BKB; have BKB := n_; clear n_; have n_ := Aside0.mk (blk_below BKW.out hb); clear BKW; have BKW := n_; clear n_; have n_ := Aside0.mk (below_step HB.out hb); clear HB; have HB := n_; clear n_; have n_ := Aside0.mk (And.intro (hb.size) HZ.out); clear HZ; have HZ := n_; clear n_; have BKX := Aside0.mk hbox; have L_gbX := Aside0.mk (blk_lt hbox); clear hb hbox; have zgbX_0 : w10.cell? ⟨gbX, 0, none⟩ = some (.slice none 0 0) := (blk_cell BKX.out 0).trans rfl; have fgbX_0 := blk_frozen BKX.out 0; have zgbX_1 : w10.cell? ⟨gbX, 1, none⟩ = some (.slice none 0 0) := (blk_cell BKX.out 1).trans rfl; have fgbX_1 := blk_frozen BKX.out 1; have zgbX_2 : w10.cell? ⟨gbX, 2, none⟩ = some (.slice none 0 0) := (blk_cell BKX.out 2).trans rfl; have fgbX_2 := blk_frozen BKX.out 2; have zgbW_0 : w10.cell? ⟨gbW, 0, none⟩ = some (.slice A3 l3.length c3) := (blk_cell BKW.out 0).trans rfl; have fgbW_0 := blk_frozen BKW.out 0; have zgbW_1 : w10.cell? ⟨gbW, 1, none⟩ = some (.slice A4 l4.length c4) := (blk_cell BKW.out 1).trans rfl; have fgbW_1 := blk_frozen BKW.out 1; have ngbW_gbX : gbW ≠ gbX := (by have z := HZ.out; have g_gbB := G_gbB.out; have l_gbB := L_gbB.out; have g_gbW := G_gbW.out; have l_gbW := L_gbW.out; have g_gbX := G_gbX.out; have l_gbX := L_gbX.out; omega); have ngbX_gbW : gbX ≠ gbW := (by have z := HZ.out; have g_gbB := G_gbB.out; have l_gbB := L_gbB.out; have g_gbW := G_gbW.out; have l_gbW := L_gbW.out; have g_gbX := G_gbX.out; have l_gbX := L_gbX.out; omega)))
  go_wp2_with fail
  have hk := kept_three (W := w10) (g := gbX) (.slice A_X0 l0.length c_X0) (.slice A_X1 l1.length c_X1) (.slice A_X2 l2.length c_X2) 0 1 2
  have hb2 : Below w.heap.size w (((w10.setCell ⟨gbX, 0, none⟩ (.slice A_X0 l0.length c_X0)).setCell ⟨gbX, 1, none⟩ (.slice A_X1 l1.length c_X1)).setCell ⟨gbX, 2, none⟩ (.slice A_X2 l2.length c_X2)) := (below_set (below_set (below_set HB.out (by have z := HZ.out; have g_gbB := G_gbB.out; have l_gbB := L_gbB.out; have g_gbW := G_gbW.out; have l_gbW := L_gbW.out; have g_gbX := G_gbX.out; have l_gbX := L_gbX.out; omega)) (by have z := HZ.out; have g_gbB := G_gbB.out; have l_gbB := L_gbB.out; have g_gbW := G_gbW.out; have l_gbW := L_gbW.out; have g_gbX := G_gbX.out; have l_gbX := L_gbX.out; omega)) (by have z := HZ.out; have g_gbB := G_gbB.out; have l_gbB := L_gbB.out; have g_gbW := G_gbW.out; have l_gbW := L_gbW.out; have g_gbX := G_gbX.out; have l_gbX := L_gbX.out; omega))
  have hnew : (((w10.setCell ⟨gbX, 0, none⟩ (.slice A_X0 l0.length c_X0)).setCell ⟨gbX, 1, none⟩ (.slice A_X1 l1.length c_X1)).setCell ⟨gbX, 2, none⟩ (.slice A_X2 l2.length c_X2)).heap[gbX]? = some (.cells #[.slice A_X0 l0.length c_X0, .slice A_X1 l1.length c_X1, .slice A_X2 l2.length c_X2] 34 (0, 0)) := (blk_put (cs := #[.slice A_X0 l0.length c_X0, .slice A_X1 l1.length c_X1, .slice none 0 0]) (blk_put (cs := #[.slice A_X0 l0.length c_X0, .slice none 0 0, .slice none 0 0]) (blk_put (cs := #[.slice none 0 0, .slice none 0 0, .slice none 0 0]) BKX.out 0 _ rfl) 1 _ rfl) 2 _ rfl)
  clear zgbX_0 fgbX_0 zgbX_1 fgbX_1 zgbX_2 fgbX_2 zgbW_0 fgbW_0 zgbW_1 fgbW_1 ngbW_gbX ngbX_gbW
  generalize (((w10.setCell ⟨gbX, 0, none⟩ (.slice A_X0 l0.length c_X0)).setCell ⟨gbX, 1, none⟩ (.slice A_X1 l1.length c_X1)).setCell ⟨gbX, 2, none⟩ (.slice A_X2 l2.length c_X2)) = w11 at hk hb2 hnew ⊢
  clear BKX
  have n_ := Aside0.mk (R_iv W0.out hk (by have z := HZ.out; have g_gbB := G_gbB.out; have l_gbB := L_gbB.out; have g_gbW := G_gbW.out; have l_gbW := L_gbW.out; have g_gbX := G_gbX.out; have l_gbX := L_gbX.out; omega))
  clear W0; have W0 := n_; clear n_
  have n_ := Aside0.mk (R_iv X0.out hk (by have z := HZ.out; have g_gbB := G_gbB.out; have l_gbB := L_gbB.out; have g_gbW := G_gbW.out; have l_gbW := L_gbW.out; have g_gbX := G_gbX.out; have l_gbX := L_gbX.out; omega))
  clear X0; have X0 := n_; clear n_
  have n_ := Aside0.mk (R_iv X1.out hk (by have z := HZ.out; have g_gbB := G_gbB.out; have l_gbB := L_gbB.out; have g_gbW := G_gbW.out; have l_gbW := L_gbW.out; have g_gbX := G_gbX.out; have l_gbX := L_gbX.out; omega))
  clear X1; have X1 := n_; clear n_
  have n_ := Aside0.mk (S_iv X2.out hk (by have z := HZ.out; have g_gbB := G_gbB.out; have l_gbB := L_gbB.out; have g_gbW := G_gbW.out; have l_gbW := L_gbW.out; have g_gbX := G_gbX.out; have l_gbX := L_gbX.out; omega))
  clear X2; have X2 := n_; clear n_
  have n_ := Aside0.mk (blk_iv BKB.out hk (by have z := HZ.out; have g_gbB := G_gbB.out; have l_gbB := L_gbB.out; have g_gbW := G_gbW.out; have l_gbW := L_gbW.out; have g_gbX := G_gbX.out; have l_gbX := L_gbX.out; omega))
  clear BKB; have BKB := n_; clear n_
  have n_ := Aside0.mk (blk_iv BKW.out hk (by have z := HZ.out; have g_gbB := G_gbB.out; have l_gbB := L_gbB.out; have g_gbW := G_gbW.out; have l_gbW := L_gbW.out; have g_gbX := G_gbX.out; have l_gbX := L_gbX.out; omega))
  clear BKW; have BKW := n_; clear n_
  have n_ := Aside0.mk (hb2)
  clear HB; have HB := n_; clear n_
  have n_ := Aside0.mk (And.intro (hk.1) HZ.out)
  clear HZ; have HZ := n_; clear n_
  have BKX := Aside0.mk hnew
  clear hk hb2 hnew
  go_wp2_with fail
  go_at_call 16
  refine (laws_toWish.calls k1 _ _ l3 _ _ l4 l3 l4 _ (Kd.C_below HR3.out HB.out) HC3.out (Kd.C_below HR4.out HB.out) HC4.out E1.out).mono ?_
  rintro e w12 ⟨va, vb, rfl, ho0, ho1, hb⟩
  have n_ := Aside0.mk (Kd.R_below W0.out hb)
  clear W0; have W0 := n_; clear n_
  have n_ := Aside0.mk (Kd.R_below X0.out hb)
  clear X0; have X0 := n_; clear n_
  have n_ := Aside0.mk (Kd.R_below X1.out hb)
  clear X1; have X1 := n_; clear n_
  have n_ := Aside0.mk (Kd.S_below X2.out hb)
  clear X2; have X2 := n_; clear n_
  have n_ := Aside0.mk (blk_below BKB.out hb)
  clear BKB; have BKB := n_; clear n_
  have n_ := Aside0.mk (blk_below BKW.out hb)
  clear BKW; have BKW := n_; clear n_
  have n_ := Aside0.mk (blk_below BKX.out hb)
  clear BKX; have BKX := n_; clear n_
  have n_ := Aside0.mk (below_step HB.out hb)
  clear HB; have HB := n_; clear n_
  have n_ := Aside0.mk (And.intro (hb.size) HZ.out)
  clear HZ; have HZ := n_; clear n_; clear hb
  have NE_X := Aside0.mk ho0.1
  have ho2 := Kd.R_mono ho0 (fun _ _ => trivial)
  have ho3 := Kd.R_mono ho1 (fun _ _ => trivial)
  clear ho0 ho1
  obtain ⟨A_X3, c_X3, e_X3⟩ := Kd.R_slice ho2
  subst e_X3
  have X3 := Aside0.mk (R_mk (base := w.heap.size) ho2 (by have z := HZ.out; have g_gbB := G_gbB.out; have l_gbB := L_gbB.out; have g_gbW := G_gbW.out; have l_gbW := L_gbW.out; have g_gbX := G_gbX.out; have l_gbX := L_gbX.out; omega))
  clear ho2
  obtain ⟨A_X4, c_X4, e_X4⟩ := Kd.R_slice ho3
  subst e_X4
  have X4 := Aside0.mk (R_mk (base := w.heap.size) ho3 (by have z := HZ.out; have g_gbB := G_gbB.out; have l_gbB := L_gbB.out; have g_gbW := G_gbW.out; have l_gbW := L_gbW.out; have g_gbX := G_gbX.out; have l_gbX := L_gbX.out; omega))
  clear ho3
  go_wp2_with (first | ((with_reducible refine gate_dst (N := 9) rfl ?_); refine box_event ?hg (N := 9) ?hd (cs := #[.slice none 0 0, .slice none 0 0]) (t := 36) ?hr ?_; (case hd => rfl); (case hg => rfl); (case hr => first | (go_simp; done) | (go_simp; rfl)); intro gbY hg w13 hbox hb; have G_gbY := Aside0.mk hg; clear hg; have n_ := Aside0.mk (Kd.R_below W0.out hb); clear W0; have W0 := n_; clear n_; have n_ := Aside0.mk (Kd.R_below X0.out hb); clear X0; have X0 := n_; clear n_; have n_ := Aside0.mk (Kd.R_below X1.out hb); clear X1; have X1 := n_; clear n_; have n_ := Aside0.mk (Kd.S_below X2.out hb); clear X2; have X2 := n_; clear n_; have n_ := Aside0.mk (Kd.R_below X3.out hb); clear X3; have X3 := n_; clear n_; have n_ := Aside0.mk (Kd.R_below X4.out hb); clear X4; have X4 := n_; clear n_; have n_ := Aside0.mk (blk_below BKB.out hb); clear BKB; have BKB := n_; clear n_; have n_ := Aside0.mk (blk_below BKW.out hb); clear BKW; have BKW := n_; clear n_; have n_ := Aside0.mk (blk_below BKX.out hb); clear BKX; have BKX := n_; clear n_; have n_ := Aside0.mk (below_step HB.out hb); clear HB; have HB := n_; clear n_; have n_ := Aside0.mk (And.intro (hb.size) HZ.out); clear HZ; have HZ := n_; clear n_; have BKY := Aside0.mk hbox; have L_gbY := Aside0.mk (blk_lt hbox); clear hb hbox; have zgbY_0 : w13.cell? ⟨gbY, 0, none⟩ = some (.slice none 0 0) := (blk_cell BKY.out 0).trans rfl; have fgbY_0 := blk_frozen BKY.out 0; have zgbY_1 : w13.cell? ⟨gbY, 1, none⟩ = some (.slice none 0 0) := (blk_cell BKY.out 1).trans rfl; have fgbY_1 := blk_frozen BKY.out 1; have zgbX_0 : w13.cell? ⟨gbX, 0, none⟩ = some (.slice A_X0 l0.length c_X0) := (blk_cell BKX.out 0).trans rfl; have fgbX_0 := blk_frozen BKX.out 0; have zgbX_1 : w13.cell? ⟨gbX, 1, none⟩ = some (.slice A_X1 l1.length c_X1) := (blk_cell BKX.out 1).trans rfl; have fgbX_1 := blk_frozen BKX.out 1; have zgbX_2 : w13.cell? ⟨gbX, 2, none⟩ = some (.slice A_X2 l2.length c_X2) := (blk_cell BKX.out 2).trans rfl; have fgbX_2 := blk_frozen BKX.out 2; have ngbX_gbY : gbX ≠ gbY := (by have z := HZ.out; have g_gbB := G_gbB.out; have l_gbB := L_gbB.out; have g_gbW := G_gbW.out; have l_gbW := L_gbW.out; have g_gbX := G_gbX.out; have l_gbX := L_gbX.out; have g_gbY := G_gbY.out; have l_gbY := L_gbY.out; omega); have ngbY_gbX : gbY ≠ gbX := (by have z := HZ.out; have g_gbB := G_gbB.out; have l_gbB := L_gbB.out; have g_gbW := G_gbW.out; have l_gbW := L_gbW.out; have g_gbX := G_gbX.out; have l_gbX := L_gbX.out; have g_gbY := G_gbY.out; have l_gbY := L_gbY.out; omega)))
  go_wp2_with fail
  have hk := kept_two (W := w13) (g := gbY) (.slice A_X3 l3.length c_X3) (.slice A_X4 l4.length c_X4) 0 1
  have hb2 : Below w.heap.size w ((w13.setCell ⟨gbY, 0, none⟩ (.slice A_X3 l3.length c_X3)).setCell ⟨gbY, 1, none⟩ (.slice A_X4 l4.length c_X4)) := (below_set (below_set HB.out (by have z := HZ.out; have g_gbB := G_gbB.out; have l_gbB := L_gbB.out; have g_gbW := G_gbW.out; have l_gbW := L_gbW.out; have g_gbX := G_gbX.out; have l_gbX := L_gbX.out; have g_gbY := G_gbY.out; have l_gbY := L_gbY.out; omega)) (by have z := HZ.out; have g_gbB := G_gbB.out; have l_gbB := L_gbB.out; have g_gbW := G_gbW.out; have l_gbW := L_gbW.out; have g_gbX := G_gbX.out; have l_gbX := L_gbX.out; have g_gbY := G_gbY.out; have l_gbY := L_gbY.out; omega))
  have hnew : ((w13.setCell ⟨gbY, 0, none⟩ (.slice A_X3 l3.length c_X3)).setCell ⟨gbY, 1, none⟩ (.slice A_X4 l4.length c_X4)).heap[gbY]? = some (.cells #[.slice A_X3 l3.length c_X3, .slice A_X4 l4.length c_X4] 36 (0, 0)) := (blk_put (cs := #[.slice A_X3 l3.length c_X3, .slice none 0 0]) (blk_put (cs := #[.slice none 0 0, .slice none 0 0]) BKY.out 0 _ rfl) 1 _ rfl)
  clear zgbY_0 fgbY_0 zgbY_1 fgbY_1 zgbX_0 fgbX_0 zgbX_1 fgbX_1 zgbX_2 fgbX_2 ngbX_gbY ngbY_gbX
  generalize ((w13.setCell ⟨gbY, 0, none⟩ (.slice A_X3 l3.length c_X3)).setCell ⟨gbY, 1, none⟩ (.slice A_X4 l4.length c_X4)) = w14 at hk hb2 hnew ⊢
  clear BKY
  have n_ := Aside0.mk (R_iv W0.out hk (by have z := HZ.out; have g_gbB := G_gbB.out; have l_gbB := L_gbB.out; have g_gbW := G_gbW.out; have l_gbW := L_gbW.out; have g_gbX := G_gbX.out; have l_gbX := L_gbX.out; have g_gbY := G_gbY.out; have l_gbY := L_gbY.out; omega))
  clear W0; have W0 := n_; clear n_
  have n_ := Aside0.mk (R_iv X0.out hk (by have z := HZ.out; have g_gbB := G_gbB.out; have l_gbB := L_gbB.out; have g_gbW := G_gbW.out; have l_gbW := L_gbW.out; have g_gbX := G_gbX.out; have l_gbX := L_gbX.out; have g_gbY := G_gbY.out; have l_gbY := L_gbY.out; omega))
  clear X0; have X0 := n_; clear n_
  have n_ := Aside0.mk (R_iv X1.out hk (by have z := HZ.out; have g_gbB := G_gbB.out; have l_gbB := L_gbB.out; have g_gbW := G_gbW.out; have l_gbW := L_gbW.out; have g_gbX := G_gbX.out; have l_gbX := L_gbX.out; have g_gbY := G_gbY.out; have l_gbY := L_gbY.out; omega))
  clear X1; have X1 := n_; clear n_
  have n_ := Aside0.mk (S_iv X2.out hk (by have z := HZ.out; have g_gbB := G_gbB.out; have l_gbB := L_gbB.out; have g_gbW := G_gbW.out; have l_gbW := L_gbW.out; have g_gbX := G_gbX.out; have l_gbX := L_gbX.out; have g_gbY := G_gbY.out; have l_gbY := L_gbY.out; omega))
  clear X2; have X2 := n_; clear n_
  have n_ := Aside0.mk (R_iv X3.out hk (by have z := HZ.out; have g_gbB := G_gbB.out; have l_gbB := L_gbB.out; have g_gbW := G_gbW.out; have l_gbW := L_gbW.out; have g_gbX := G_gbX.out; have l_gbX := L_gbX.out; have g_gbY := G_gbY.out; have l_gbY := L_gbY.out; omega))
  clear X3; have X3 := n_; clear n_
  have n_ := Aside0.mk (R_iv X4.out hk (by have z := HZ.out; have g_gbB := G_gbB.out; have l_gbB := L_gbB.out; have g_gbW := G_gbW.out; have l_gbW := L_gbW.out; have g_gbX := G_gbX.out; have l_gbX := L_gbX.out; have g_gbY := G_gbY.out; have l_gbY := L_gbY.out; omega))
  clear X4; have X4 := n_; clear n_
  have n_ := Aside0.mk (blk_iv BKB.out hk (by have z := HZ.out; have g_gbB := G_gbB.out; have l_gbB := L_gbB.out; have g_gbW := G_gbW.out; have l_gbW := L_gbW.out; have g_gbX := G_gbX.out; have l_gbX := L_gbX.out; have g_gbY := G_gbY.out; have l_gbY := L_gbY.out; omega))
  clear BKB; have BKB := n_; clear n_
  have n_ := Aside0.mk (blk_iv BKW.out hk (by have z := HZ.out; have g_gbB := G_gbB.out; have l_gbB := L_gbB.out; have g_gbW := G_gbW.out; have l_gbW := L_gbW.out; have g_gbX := G_gbX.out; have l_gbX := L_gbX.out; have g_gbY := G_gbY.out; have l_gbY := L_gbY.out; omega))
  clear BKW; have BKW := n_; clear n_
  have n_ := Aside0.mk (blk_iv BKX.out hk (by have z := HZ.out; have g_gbB := G_gbB.out; have l_gbB := L_gbB.out; have g_gbW := G_gbW.out; have l_gbW := L_gbW.out; have g_gbX := G_gbX.out; have l_gbX := L_gbX.out; have g_gbY := G_gbY.out; have l_gbY := L_gbY.out; omega))
  clear BKX; have BKX := n_; clear n_
  have n_ := Aside0.mk (hb2)
  clear HB; have HB := n_; clear n_
  have n_ := Aside0.mk (And.intro (hk.1) HZ.out)
  clear HZ; have HZ := n_; clear n_
  have BKY := Aside0.mk hnew
  clear hk hb2 hnew
  go_wp2_with fail
  go_at_call 17
  refine (impl_WinningPlaces.calls k3 _ _ l0 _ _ l1 _ _ l2 _ _ l3 _ _ l4 y b _ (Kd.R_reads' X0.out).2.2 (Kd.R_reads' X0.out).2.1 (Kd.R_reads' X1.out).2.2 (Kd.R_reads' X1.out).2.1 (Kd.S_reads' X2.out).2.2 (Kd.S_reads' X2.out).2.1 (Kd.R_reads' X3.out).2.2 (Kd.R_reads' X3.out).2.1 (Kd.R_reads' X4.out).2.2 (Kd.R_reads' X4.out).2.1 E3.out).mono ?_
  rintro e w15 ⟨va, rfl, ho0, hb⟩
  have n_ := Aside0.mk (Kd.R_below W0.out hb)
  clear W0; have W0 := n_; clear n_
  have n_ := Aside0.mk (Kd.R_below X0.out hb)
  clear X0; have X0 := n_; clear n_
  have n_ := Aside0.mk (Kd.R_below X1.out hb)
  clear X1; have X1 := n_; clear n_
  have n_ := Aside0.mk (Kd.S_below X2.out hb)
  clear X2; have X2 := n_; clear n_
  have n_ := Aside0.mk (Kd.R_below X3.out hb)
  clear X3; have X3 := n_; clear n_
  have n_ := Aside0.mk (Kd.R_below X4.out hb)
  clear X4; have X4 := n_; clear n_
  have n_ := Aside0.mk (blk_below BKB.out hb)
  clear BKB; have BKB := n_; clear n_
  have n_ := Aside0.mk (blk_below BKW.out hb)
  clear BKW; have BKW := n_; clear n_
  have n_ := Aside0.mk (blk_below BKX.out hb)
  clear BKX; have BKX := n_; clear n_
  have n_ := Aside0.mk (blk_below BKY.out hb)
  clear BKY; have BKY := n_; clear n_
  have n_ := Aside0.mk (below_step HB.out hb)
  clear HB; have HB := n_; clear n_
  have n_ := Aside0.mk (And.intro (hb.size) HZ.out)
  clear HZ; have HZ := n_; clear n_; clear hb
  obtain ⟨A_G, c_G, e_G⟩ := Kd.R_slice ho0
  subst e_G
  have G := Aside0.mk (R_mk (base := w.heap.size) ho0 (by have z := HZ.out; have g_gbB := G_gbB.out; have l_gbB := L_gbB.out; have g_gbW := G_gbW.out; have l_gbW := L_gbW.out; have g_gbX := G_gbX.out; have l_gbX := L_gbX.out; have g_gbY := G_gbY.out; have l_gbY := L_gbY.out; omega))
  clear ho0
  go_wp2_with fail
  go_at_call 18
  refine (laws_eqIntS.calls k4 _ _ y _ _ y true _ (Kd.R_reads' G.out).2.2 (Kd.R_reads' G.out).2.1 (Kd.R_reads' W0.out).2.2 (Kd.R_reads' W0.out).2.1 E4.out).mono ?_
  rintro e w16 ⟨rfl, hd⟩
  have hb := drawn_below hd
  clear hd
  have n_ := Aside0.mk (Kd.R_below W0.out hb)
  clear W0; have W0 := n_; clear n_
  have n_ := Aside0.mk (Kd.R_below X0.out hb)
  clear X0; have X0 := n_; clear n_
  have n_ := Aside0.mk (Kd.R_below X1.out hb)
  clear X1; have X1 := n_; clear n_
  have n_ := Aside0.mk (Kd.S_below X2.out hb)
  clear X2; have X2 := n_; clear n_
  have n_ := Aside0.mk (Kd.R_below X3.out hb)
  clear X3; have X3 := n_; clear n_
  have n_ := Aside0.mk (Kd.R_below X4.out hb)
  clear X4; have X4 := n_; clear n_
  have n_ := Aside0.mk (Kd.R_below G.out hb)
  clear G; have G := n_; clear n_
  have n_ := Aside0.mk (blk_below BKB.out hb)
  clear BKB; have BKB := n_; clear n_
  have n_ := Aside0.mk (blk_below BKW.out hb)
  clear BKW; have BKW := n_; clear n_
  have n_ := Aside0.mk (blk_below BKX.out hb)
  clear BKX; have BKX := n_; clear n_
  have n_ := Aside0.mk (blk_below BKY.out hb)
  clear BKY; have BKY := n_; clear n_
  have n_ := Aside0.mk (below_step HB.out hb)
  clear HB; have HB := n_; clear n_
  have n_ := Aside0.mk (And.intro (hb.size) HZ.out)
  clear HZ; have HZ := n_; clear n_; clear hb
  go_wp2_with fail
  have hb : Below w16.heap.size w16 w16.drew := below_drew (Below.refl _ _)
  have n_ := Aside0.mk (Kd.R_below W0.out hb)
  clear W0; have W0 := n_; clear n_
  have n_ := Aside0.mk (Kd.R_below X0.out hb)
  clear X0; have X0 := n_; clear n_
  have n_ := Aside0.mk (Kd.R_below X1.out hb)
  clear X1; have X1 := n_; clear n_
  have n_ := Aside0.mk (Kd.S_below X2.out hb)
  clear X2; have X2 := n_; clear n_
  have n_ := Aside0.mk (Kd.R_below X3.out hb)
  clear X3; have X3 := n_; clear n_
  have n_ := Aside0.mk (Kd.R_below X4.out hb)
  clear X4; have X4 := n_; clear n_
  have n_ := Aside0.mk (Kd.R_below G.out hb)
  clear G; have G := n_; clear n_
  have n_ := Aside0.mk (blk_below BKB.out hb)
  clear BKB; have BKB := n_; clear n_
  have n_ := Aside0.mk (blk_below BKW.out hb)
  clear BKW; have BKW := n_; clear n_
  have n_ := Aside0.mk (blk_below BKX.out hb)
  clear BKX; have BKX := n_; clear n_
  have n_ := Aside0.mk (blk_below BKY.out hb)
  clear BKY; have BKY := n_; clear n_
  have n_ := Aside0.mk (below_step HB.out hb)
  clear HB; have HB := n_; clear n_
  have n_ := Aside0.mk (And.intro (hb.size) HZ.out)
  clear HZ; have HZ := n_; clear n_; clear hb
  refine start_ (n := 5) (S := (fun w' => w'.cell? ⟨gbX, 0, none⟩ = some (.slice A_X0 l0.length c_X0) ∧ w'.cell? ⟨gbX, 1, none⟩ = some (.slice A_X1 l1.length c_X1) ∧ w'.cell? ⟨gbX, 2, none⟩ = some (.slice A_X2 l2.length c_X2) ∧ w'.cell? ⟨gbB, 0, none⟩ = some (.slice A0 l0.length c0) ∧ w'.cell? ⟨gbB, 1, none⟩ = some (.slice A1 l1.length c1) ∧ w'.cell? ⟨gbB, 2, none⟩ = some (.slice A2 l2.length c2))) (ds := []) #[false, false, false, false, false] (by kernel_rfl) rfl rfl ⟨(blk_cell BKX.out 0).trans rfl, (blk_cell BKX.out 1).trans rfl, (blk_cell BKX.out 2).trans rfl, (blk_cell BKB.out 0).trans rfl, (blk_cell BKB.out 1).trans rfl, (blk_cell BKB.out 2).trans rfl⟩ (fun hHeld => ?_)
  generalize w16.drew = w17 at W0 X0 X1 X2 X3 X4 G BKB BKW BKX BKY HB HZ hHeld ⊢
  refine take_ (i := 0) (N := some 54) (v := ?_) (a' := ?_) #[true, false, false, false, false] rfl rfl (by kernel_rfl) (fun _ _ _ h => h) (Or.inl ⟨by rfl, ?_⟩) hHeld ?_ ?_
  rotate_left
  · rintro w' ⟨s0, s1, s2, s3, s4, s5⟩
    go_simp
    with_reducible rfl
  rotate_left
  · simp only [Act.put, List.setIfInBounds_toArray, List.set_cons_zero, List.set_cons_succ]
    rfl
  refine take_ (i := 1) (N := some 55) (v := ?_) (a' := ?_) #[true, true, false, false, false] rfl rfl (by kernel_rfl) (fun _ _ _ h => h) (Or.inl ⟨by rfl, ?_⟩) hHeld ?_ ?_
  rotate_left
  · rintro w' ⟨s0, s1, s2, s3, s4, s5⟩
    go_simp
    with_reducible rfl
  rotate_left
  · simp only [Act.put, List.setIfInBounds_toArray, List.set_cons_zero, List.set_cons_succ]
    rfl
  refine one_ (i := 2) (N := some 56) #[true, true, true, false, false] rfl rfl (by kernel_rfl) (by decide) (fun K hK => ?_)
  refine goes_ Tryd.func15 (by kernel_rfl) rfl #[.agg #[.slice A0 l0.length c0, .slice A1 l1.length c1, .slice A2 l2.length c2]] (by rfl) rfl rfl (by simp only [List.map_toArray, List.map_cons, List.map_nil]; rfl) ?_
  refine (laws_toBoard.calls k0 _ _ l0 _ _ l1 _ _ l2 l0 l1 l2 _ (Kd.C_below HR0.out HB.out) HC0.out (Kd.C_below HR1.out HB.out) HC1.out (Kd.C_below HR2.out HB.out) HC2.out E0.out).mono ?_
  rintro e w18 ⟨va, vb, vc, rfl, ho0, ho1, ho2, hb⟩
  refine ⟨_, rfl, ?_⟩
  have n_ := Aside0.mk (Kd.R_below W0.out hb)
  clear W0; have W0 := n_; clear n_
  have n_ := Aside0.mk (Kd.R_below X0.out hb)
  clear X0; have X0 := n_; clear n_
  have n_ := Aside0.mk (Kd.R_below X1.out hb)
  clear X1; have X1 := n_; clear n_
  have n_ := Aside0.mk (Kd.S_below X2.out hb)
  clear X2; have X2 := n_; clear n_
  have n_ := Aside0.mk (Kd.R_below X3.out hb)
  clear X3; have X3 := n_; clear n_
  have n_ := Aside0.mk (Kd.R_below X4.out hb)
  clear X4; have X4 := n_; clear n_
  have n_ := Aside0.mk (Kd.R_below G.out hb)
  clear G; have G := n_; clear n_
  have n_ := Aside0.mk (blk_below BKB.out hb)
  clear BKB; have BKB := n_; clear n_
  have n_ := Aside0.mk (blk_below BKW.out hb)
  clear BKW; have BKW := n_; clear n_
  have n_ := Aside0.mk (blk_below BKX.out hb)
  clear BKX; have BKX := n_; clear n_
  have n_ := Aside0.mk (blk_below BKY.out hb)
  clear BKY; have BKY := n_; clear n_
  have n_ := Aside0.mk (below_step HB.out hb)
  clear HB; have HB := n_; clear n_
  have n_ := Aside0.mk (And.intro (hb.size) HZ.out)
  clear HZ; have HZ := n_; clear n_; clear hb
  obtain ⟨A_V0, c_V0, e_V0⟩ := Kd.R_slice ho0
  subst e_V0
  have V0 := Aside0.mk (R_mk (base := w.heap.size) ho0 (by have z := HZ.out; have g_gbB := G_gbB.out; have l_gbB := L_gbB.out; have g_gbW := G_gbW.out; have l_gbW := L_gbW.out; have g_gbX := G_gbX.out; have l_gbX := L_gbX.out; have g_gbY := G_gbY.out; have l_gbY := L_gbY.out; omega))
  clear ho0
  obtain ⟨A_V1, c_V1, e_V1⟩ := Kd.R_slice ho1
  subst e_V1
  have V1 := Aside0.mk (R_mk (base := w.heap.size) ho1 (by have z := HZ.out; have g_gbB := G_gbB.out; have l_gbB := L_gbB.out; have g_gbW := G_gbW.out; have l_gbW := L_gbW.out; have g_gbX := G_gbX.out; have l_gbX := L_gbX.out; have g_gbY := G_gbY.out; have l_gbY := L_gbY.out; omega))
  clear ho1
  obtain ⟨A_V2, c_V2, e_V2⟩ := Kd.S_slice ho2
  subst e_V2
  have V2 := Aside0.mk (S_mk (base := w.heap.size) ho2 (by have z := HZ.out; have g_gbB := G_gbB.out; have l_gbB := L_gbB.out; have g_gbW := G_gbW.out; have l_gbW := L_gbW.out; have g_gbX := G_gbX.out; have l_gbX := L_gbX.out; have g_gbY := G_gbY.out; have l_gbY := L_gbY.out; omega))
  clear ho2
  refine hK.out _ _ ⟨(blk_cell BKX.out 0).trans rfl, (blk_cell BKX.out 1).trans rfl, (blk_cell BKX.out 2).trans rfl, (blk_cell BKB.out 0).trans rfl, (blk_cell BKB.out 1).trans rfl, (blk_cell BKB.out 2).trans rfl⟩ (fun hHeld => ?_)
  clear hK K
  refine norm_ (a' := ?_) ?_ ?_
  rotate_left
  · show Act.put _ (some 56) _ = _
    simp only [Act.put, List.setIfInBounds_toArray, List.set_cons_zero, List.set_cons_succ]
    rfl
  refine one_ (i := 3) (N := some 57) #[true, true, true, true, false] rfl rfl (by kernel_rfl) (by decide) (fun K hK => ?_)
  refine goes_ Tryd.func19 (by kernel_rfl) rfl #[.agg #[.slice A_X0 l0.length c_X0, .slice A_X1 l1.length c_X1, .slice A_X2 l2.length c_X2], .agg #[.slice A_V0 l0.length c_V0, .slice A_V1 l1.length c_V1, .slice A_V2 l2.length c_V2]] (by rfl) rfl rfl (by simp only [List.map_toArray, List.map_cons, List.map_nil]; rfl) ?_
  refine (laws_eqBoard.calls k5 _ _ l0 _ _ l1 _ _ l2 _ _ l0 _ _ l1 _ _ l2 true _ (Kd.R_reads' X0.out).2.2 (Kd.R_reads' X0.out).2.1 (Kd.R_reads' X1.out).2.2 (Kd.R_reads' X1.out).2.1 (Kd.S_reads' X2.out).2.2 (Kd.S_reads' X2.out).2.1 (Kd.R_reads' V0.out).2.2 (Kd.R_reads' V0.out).2.1 (Kd.R_reads' V1.out).2.2 (Kd.R_reads' V1.out).2.1 (Kd.S_reads' V2.out).2.2 (Kd.S_reads' V2.out).2.1 E5.out).mono ?_
  rintro e w19 ⟨rfl, hb⟩
  refine ⟨_, rfl, ?_⟩
  have n_ := Aside0.mk (Kd.R_below W0.out hb)
  clear W0; have W0 := n_; clear n_
  have n_ := Aside0.mk (Kd.R_below X0.out hb)
  clear X0; have X0 := n_; clear n_
  have n_ := Aside0.mk (Kd.R_below X1.out hb)
  clear X1; have X1 := n_; clear n_
  have n_ := Aside0.mk (Kd.S_below X2.out hb)
  clear X2; have X2 := n_; clear n_
  have n_ := Aside0.mk (Kd.R_below X3.out hb)
  clear X3; have X3 := n_; clear n_
  have n_ := Aside0.mk (Kd.R_below X4.out hb)
  clear X4; have X4 := n_; clear n_
  have n_ := Aside0.mk (Kd.R_below G.out hb)
  clear G; have G := n_; clear n_
  have n_ := Aside0.mk (Kd.R_below V0.out hb)
  clear V0; have V0 := n_; clear n_
  have n_ := Aside0.mk (Kd.R_below V1.out hb)
  clear V1; have V1 := n_; clear n_
  have n_ := Aside0.mk (Kd.S_below V2.out hb)
  clear V2; have V2 := n_; clear n_
  have n_ := Aside0.mk (blk_below BKB.out hb)
  clear BKB; have BKB := n_; clear n_
  have n_ := Aside0.mk (blk_below BKW.out hb)
  clear BKW; have BKW := n_; clear n_
  have n_ := Aside0.mk (blk_below BKX.out hb)
  clear BKX; have BKX := n_; clear n_
  have n_ := Aside0.mk (blk_below BKY.out hb)
  clear BKY; have BKY := n_; clear n_
  have n_ := Aside0.mk (below_step HB.out hb)
  clear HB; have HB := n_; clear n_
  have n_ := Aside0.mk (And.intro (hb.size) HZ.out)
  clear HZ; have HZ := n_; clear n_; clear hb
  refine hK.out _ _ ⟨(blk_cell BKX.out 0).trans rfl, (blk_cell BKX.out 1).trans rfl, (blk_cell BKX.out 2).trans rfl, (blk_cell BKB.out 0).trans rfl, (blk_cell BKB.out 1).trans rfl, (blk_cell BKB.out 2).trans rfl⟩ (fun hHeld => ?_)
  clear hK K
  refine norm_ (a' := ?_) ?_ ?_
  rotate_left
  · show Act.put _ (some 57) _ = _
    simp only [Act.put, List.setIfInBounds_toArray, List.set_cons_zero, List.set_cons_succ]
    rfl
  clear V0; clear V1; clear V2
  refine pure_ (i := 4) (N := some 58) (v := ?_) (a' := ?_) #[true, true, true, true, true] rfl rfl (by kernel_rfl) (fun _ _ _ h => h) (Or.inl ⟨by rfl, ?_⟩) ?_ ?_
  rotate_left
  · intro w'
    go_simp
    with_reducible rfl
  rotate_left
  · simp only [Act.put, List.setIfInBounds_toArray, List.set_cons_zero, List.set_cons_succ]
    rfl
  refine done_ (by kernel_rfl) ?_
  go_wp2_with fail
  have hb : Below w19.heap.size w19 w19.drew := below_drew (Below.refl _ _)
  have n_ := Aside0.mk (Kd.R_below W0.out hb)
  clear W0; have W0 := n_; clear n_
  have n_ := Aside0.mk (Kd.R_below X0.out hb)
  clear X0; have X0 := n_; clear n_
  have n_ := Aside0.mk (Kd.R_below X1.out hb)
  clear X1; have X1 := n_; clear n_
  have n_ := Aside0.mk (Kd.S_below X2.out hb)
  clear X2; have X2 := n_; clear n_
  have n_ := Aside0.mk (Kd.R_below X3.out hb)
  clear X3; have X3 := n_; clear n_
  have n_ := Aside0.mk (Kd.R_below X4.out hb)
  clear X4; have X4 := n_; clear n_
  have n_ := Aside0.mk (Kd.R_below G.out hb)
  clear G; have G := n_; clear n_
  have n_ := Aside0.mk (blk_below BKB.out hb)
  clear BKB; have BKB := n_; clear n_
  have n_ := Aside0.mk (blk_below BKW.out hb)
  clear BKW; have BKW := n_; clear n_
  have n_ := Aside0.mk (blk_below BKX.out hb)
  clear BKX; have BKX := n_; clear n_
  have n_ := Aside0.mk (blk_below BKY.out hb)
  clear BKY; have BKY := n_; clear n_
  have n_ := Aside0.mk (below_step HB.out hb)
  clear HB; have HB := n_; clear n_
  have n_ := Aside0.mk (And.intro (hb.size) HZ.out)
  clear HZ; have HZ := n_; clear n_; clear hb
  refine start_ (n := 5) (S := (fun w' => w'.cell? ⟨gbY, 0, none⟩ = some (.slice A_X3 l3.length c_X3) ∧ w'.cell? ⟨gbY, 1, none⟩ = some (.slice A_X4 l4.length c_X4) ∧ w'.cell? ⟨gbW, 0, none⟩ = some (.slice A3 l3.length c3) ∧ w'.cell? ⟨gbW, 1, none⟩ = some (.slice A4 l4.length c4))) (ds := []) #[false, false, false, false, false] (by kernel_rfl) rfl rfl ⟨(blk_cell BKY.out 0).trans rfl, (blk_cell BKY.out 1).trans rfl, (blk_cell BKW.out 0).trans rfl, (blk_cell BKW.out 1).trans rfl⟩ (fun hHeld => ?_)
  generalize w19.drew = w20 at W0 X0 X1 X2 X3 X4 G BKB BKW BKX BKY HB HZ hHeld ⊢
  refine take_ (i := 0) (N := some 59) (v := ?_) (a' := ?_) #[true, false, false, false, false] rfl rfl (by kernel_rfl) (fun _ _ _ h => h) (Or.inl ⟨by rfl, ?_⟩) hHeld ?_ ?_
  rotate_left
  · rintro w' ⟨s0, s1, s2, s3⟩
    go_simp
    with_reducible rfl
  rotate_left
  · simp only [Act.put, List.setIfInBounds_toArray, List.set_cons_zero, List.set_cons_succ]
    rfl
  refine take_ (i := 1) (N := some 60) (v := ?_) (a' := ?_) #[true, true, false, false, false] rfl rfl (by kernel_rfl) (fun _ _ _ h => h) (Or.inl ⟨by rfl, ?_⟩) hHeld ?_ ?_
  rotate_left
  · rintro w' ⟨s0, s1, s2, s3⟩
    go_simp
    with_reducible rfl
  rotate_left
  · simp only [Act.put, List.setIfInBounds_toArray, List.set_cons_zero, List.set_cons_succ]
    rfl
  refine one_ (i := 2) (N := some 61) #[true, true, true, false, false] rfl rfl (by kernel_rfl) (by decide) (fun K hK => ?_)
  refine goes_ Tryd.func16 (by kernel_rfl) rfl #[.agg #[.slice A3 l3.length c3, .slice A4 l4.length c4]] (by rfl) rfl rfl (by simp only [List.map_toArray, List.map_cons, List.map_nil]; rfl) ?_
  refine (laws_toWish.calls k1 _ _ l3 _ _ l4 l3 l4 _ (Kd.C_below HR3.out HB.out) HC3.out (Kd.C_below HR4.out HB.out) HC4.out E1.out).mono ?_
  rintro e w21 ⟨va, vb, rfl, ho0, ho1, hb⟩
  refine ⟨_, rfl, ?_⟩
  have n_ := Aside0.mk (Kd.R_below W0.out hb)
  clear W0; have W0 := n_; clear n_
  have n_ := Aside0.mk (Kd.R_below X0.out hb)
  clear X0; have X0 := n_; clear n_
  have n_ := Aside0.mk (Kd.R_below X1.out hb)
  clear X1; have X1 := n_; clear n_
  have n_ := Aside0.mk (Kd.S_below X2.out hb)
  clear X2; have X2 := n_; clear n_
  have n_ := Aside0.mk (Kd.R_below X3.out hb)
  clear X3; have X3 := n_; clear n_
  have n_ := Aside0.mk (Kd.R_below X4.out hb)
  clear X4; have X4 := n_; clear n_
  have n_ := Aside0.mk (Kd.R_below G.out hb)
  clear G; have G := n_; clear n_
  have n_ := Aside0.mk (blk_below BKB.out hb)
  clear BKB; have BKB := n_; clear n_
  have n_ := Aside0.mk (blk_below BKW.out hb)
  clear BKW; have BKW := n_; clear n_
  have n_ := Aside0.mk (blk_below BKX.out hb)
  clear BKX; have BKX := n_; clear n_
  have n_ := Aside0.mk (blk_below BKY.out hb)
  clear BKY; have BKY := n_; clear n_
  have n_ := Aside0.mk (below_step HB.out hb)
  clear HB; have HB := n_; clear n_
  have n_ := Aside0.mk (And.intro (hb.size) HZ.out)
  clear HZ; have HZ := n_; clear n_; clear hb
  have NE_V := Aside0.mk ho0.1
  have ho2 := Kd.R_mono ho0 (fun _ _ => trivial)
  have ho3 := Kd.R_mono ho1 (fun _ _ => trivial)
  clear ho0 ho1
  obtain ⟨A_V3, c_V3, e_V3⟩ := Kd.R_slice ho2
  subst e_V3
  have V3 := Aside0.mk (R_mk (base := w.heap.size) ho2 (by have z := HZ.out; have g_gbB := G_gbB.out; have l_gbB := L_gbB.out; have g_gbW := G_gbW.out; have l_gbW := L_gbW.out; have g_gbX := G_gbX.out; have l_gbX := L_gbX.out; have g_gbY := G_gbY.out; have l_gbY := L_gbY.out; omega))
  clear ho2
  obtain ⟨A_V4, c_V4, e_V4⟩ := Kd.R_slice ho3
  subst e_V4
  have V4 := Aside0.mk (R_mk (base := w.heap.size) ho3 (by have z := HZ.out; have g_gbB := G_gbB.out; have l_gbB := L_gbB.out; have g_gbW := G_gbW.out; have l_gbW := L_gbW.out; have g_gbX := G_gbX.out; have l_gbX := L_gbX.out; have g_gbY := G_gbY.out; have l_gbY := L_gbY.out; omega))
  clear ho3; clear NE_V
  refine hK.out _ _ ⟨(blk_cell BKY.out 0).trans rfl, (blk_cell BKY.out 1).trans rfl, (blk_cell BKW.out 0).trans rfl, (blk_cell BKW.out 1).trans rfl⟩ (fun hHeld => ?_)
  clear hK K
  refine norm_ (a' := ?_) ?_ ?_
  rotate_left
  · show Act.put _ (some 61) _ = _
    simp only [Act.put, List.setIfInBounds_toArray, List.set_cons_zero, List.set_cons_succ]
    rfl
  refine one_ (i := 3) (N := some 62) #[true, true, true, true, false] rfl rfl (by kernel_rfl) (by decide) (fun K hK => ?_)
  refine goes_ Tryd.func20 (by kernel_rfl) rfl #[.agg #[.slice A_X3 l3.length c_X3, .slice A_X4 l4.length c_X4], .agg #[.slice A_V3 l3.length c_V3, .slice A_V4 l4.length c_V4]] (by rfl) rfl rfl (by simp only [List.map_toArray, List.map_cons, List.map_nil]; rfl) ?_
  refine (laws_eqWish.calls k6 _ _ l3 _ _ l4 _ _ l3 _ _ l4 true _ (Kd.R_reads' X3.out).2.2 (Kd.R_reads' X3.out).2.1 (Kd.R_reads' X4.out).2.2 (Kd.R_reads' X4.out).2.1 (Kd.R_reads' V3.out).2.2 (Kd.R_reads' V3.out).2.1 (Kd.R_reads' V4.out).2.2 (Kd.R_reads' V4.out).2.1 E6.out).mono ?_
  rintro e w22 ⟨rfl, hb⟩
  refine ⟨_, rfl, ?_⟩
  have n_ := Aside0.mk (Kd.R_below W0.out hb)
  clear W0; have W0 := n_; clear n_
  have n_ := Aside0.mk (Kd.R_below X0.out hb)
  clear X0; have X0 := n_; clear n_
  have n_ := Aside0.mk (Kd.R_below X1.out hb)
  clear X1; have X1 := n_; clear n_
  have n_ := Aside0.mk (Kd.S_below X2.out hb)
  clear X2; have X2 := n_; clear n_
  have n_ := Aside0.mk (Kd.R_below X3.out hb)
  clear X3; have X3 := n_; clear n_
  have n_ := Aside0.mk (Kd.R_below X4.out hb)
  clear X4; have X4 := n_; clear n_
  have n_ := Aside0.mk (Kd.R_below G.out hb)
  clear G; have G := n_; clear n_
  have n_ := Aside0.mk (Kd.R_below V3.out hb)
  clear V3; have V3 := n_; clear n_
  have n_ := Aside0.mk (Kd.R_below V4.out hb)
  clear V4; have V4 := n_; clear n_
  have n_ := Aside0.mk (blk_below BKB.out hb)
  clear BKB; have BKB := n_; clear n_
  have n_ := Aside0.mk (blk_below BKW.out hb)
  clear BKW; have BKW := n_; clear n_
  have n_ := Aside0.mk (blk_below BKX.out hb)
  clear BKX; have BKX := n_; clear n_
  have n_ := Aside0.mk (blk_below BKY.out hb)
  clear BKY; have BKY := n_; clear n_
  have n_ := Aside0.mk (below_step HB.out hb)
  clear HB; have HB := n_; clear n_
  have n_ := Aside0.mk (And.intro (hb.size) HZ.out)
  clear HZ; have HZ := n_; clear n_; clear hb
  refine hK.out _ _ ⟨(blk_cell BKY.out 0).trans rfl, (blk_cell BKY.out 1).trans rfl, (blk_cell BKW.out 0).trans rfl, (blk_cell BKW.out 1).trans rfl⟩ (fun hHeld => ?_)
  clear hK K
  refine norm_ (a' := ?_) ?_ ?_
  rotate_left
  · show Act.put _ (some 62) _ = _
    simp only [Act.put, List.setIfInBounds_toArray, List.set_cons_zero, List.set_cons_succ]
    rfl
  clear V3; clear V4
  refine pure_ (i := 4) (N := some 63) (v := ?_) (a' := ?_) #[true, true, true, true, true] rfl rfl (by kernel_rfl) (fun _ _ _ h => h) (Or.inl ⟨by rfl, ?_⟩) ?_ ?_
  rotate_left
  · intro w'
    go_simp
    with_reducible rfl
  rotate_left
  · simp only [Act.put, List.setIfInBounds_toArray, List.set_cons_zero, List.set_cons_succ]
    rfl
  refine done_ (by kernel_rfl) ?_
  have zgbX_0 : w22.cell? ⟨gbX, 0, none⟩ = some (.slice A_X0 l0.length c_X0) := (blk_cell BKX.out 0).trans rfl
  have fgbX_0 := blk_frozen BKX.out 0
  have zgbX_1 : w22.cell? ⟨gbX, 1, none⟩ = some (.slice A_X1 l1.length c_X1) := (blk_cell BKX.out 1).trans rfl
  have fgbX_1 := blk_frozen BKX.out 1
  have zgbX_2 : w22.cell? ⟨gbX, 2, none⟩ = some (.slice A_X2 l2.length c_X2) := (blk_cell BKX.out 2).trans rfl
  have fgbX_2 := blk_frozen BKX.out 2
  go_wp2_with fail
  go_at_call 21
  refine (laws_markBoard.calls ka kb kc w8.heap.size w9.heap.size _ _ _ _ _ _ l0 t0 l1 t1 l2 t2 1 m0 m1 m2 w _ HB.out (by have z := HZ.out; have g_gbB := G_gbB.out; have l_gbB := L_gbB.out; have g_gbW := G_gbW.out; have l_gbW := L_gbW.out; have g_gbX := G_gbX.out; have l_gbX := L_gbX.out; have g_gbY := G_gbY.out; have l_gbY := L_gbY.out; omega) X0.out X1.out X2.out Ea.out Eb.out Ec.out).mono ?_
  rintro e w23 ⟨rfl, hb2, hk⟩
  clear zgbX_0 fgbX_0 zgbX_1 fgbX_1 zgbX_2 fgbX_2; clear X0 X1 X2
  have n_ := Aside0.mk (R_iv W0.out hk (by have z := HZ.out; have g_gbB := G_gbB.out; have l_gbB := L_gbB.out; have g_gbW := G_gbW.out; have l_gbW := L_gbW.out; have g_gbX := G_gbX.out; have l_gbX := L_gbX.out; have g_gbY := G_gbY.out; have l_gbY := L_gbY.out; omega))
  clear W0; have W0 := n_; clear n_
  have n_ := Aside0.mk (R_iv X3.out hk (by have z := HZ.out; have g_gbB := G_gbB.out; have l_gbB := L_gbB.out; have g_gbW := G_gbW.out; have l_gbW := L_gbW.out; have g_gbX := G_gbX.out; have l_gbX := L_gbX.out; have g_gbY := G_gbY.out; have l_gbY := L_gbY.out; omega))
  clear X3; have X3 := n_; clear n_
  have n_ := Aside0.mk (R_iv X4.out hk (by have z := HZ.out; have g_gbB := G_gbB.out; have l_gbB := L_gbB.out; have g_gbW := G_gbW.out; have l_gbW := L_gbW.out; have g_gbX := G_gbX.out; have l_gbX := L_gbX.out; have g_gbY := G_gbY.out; have l_gbY := L_gbY.out; omega))
  clear X4; have X4 := n_; clear n_
  have n_ := Aside0.mk (R_iv G.out hk (by have z := HZ.out; have g_gbB := G_gbB.out; have l_gbB := L_gbB.out; have g_gbW := G_gbW.out; have l_gbW := L_gbW.out; have g_gbX := G_gbX.out; have l_gbX := L_gbX.out; have g_gbY := G_gbY.out; have l_gbY := L_gbY.out; omega))
  clear G; have G := n_; clear n_
  have n_ := Aside0.mk (blk_iv BKB.out hk (by have z := HZ.out; have g_gbB := G_gbB.out; have l_gbB := L_gbB.out; have g_gbW := G_gbW.out; have l_gbW := L_gbW.out; have g_gbX := G_gbX.out; have l_gbX := L_gbX.out; have g_gbY := G_gbY.out; have l_gbY := L_gbY.out; omega))
  clear BKB; have BKB := n_; clear n_
  have n_ := Aside0.mk (blk_iv BKW.out hk (by have z := HZ.out; have g_gbB := G_gbB.out; have l_gbB := L_gbB.out; have g_gbW := G_gbW.out; have l_gbW := L_gbW.out; have g_gbX := G_gbX.out; have l_gbX := L_gbX.out; have g_gbY := G_gbY.out; have l_gbY := L_gbY.out; omega))
  clear BKW; have BKW := n_; clear n_
  have n_ := Aside0.mk (blk_iv BKX.out hk (by have z := HZ.out; have g_gbB := G_gbB.out; have l_gbB := L_gbB.out; have g_gbW := G_gbW.out; have l_gbW := L_gbW.out; have g_gbX := G_gbX.out; have l_gbX := L_gbX.out; have g_gbY := G_gbY.out; have l_gbY := L_gbY.out; omega))
  clear BKX; have BKX := n_; clear n_
  have n_ := Aside0.mk (blk_iv BKY.out hk (by have z := HZ.out; have g_gbB := G_gbB.out; have l_gbB := L_gbB.out; have g_gbW := G_gbW.out; have l_gbW := L_gbW.out; have g_gbX := G_gbX.out; have l_gbX := L_gbX.out; have g_gbY := G_gbY.out; have l_gbY := L_gbY.out; omega))
  clear BKY; have BKY := n_; clear n_
  have n_ := Aside0.mk (hb2)
  clear HB; have HB := n_; clear n_
  have n_ := Aside0.mk (And.intro (hk.1) HZ.out)
  clear HZ; have HZ := n_; clear n_; clear hk hb2
  have zgbY_0 : w23.cell? ⟨gbY, 0, none⟩ = some (.slice A_X3 l3.length c_X3) := (blk_cell BKY.out 0).trans rfl
  have fgbY_0 := blk_frozen BKY.out 0
  have zgbY_1 : w23.cell? ⟨gbY, 1, none⟩ = some (.slice A_X4 l4.length c_X4) := (blk_cell BKY.out 1).trans rfl
  have fgbY_1 := blk_frozen BKY.out 1
  go_wp2_with fail
  go_at_call 22
  refine (laws_markWish.calls kd (fun k_ => some k_ = (.slice A_X3 l3.length c_X3 : Value).ownBlock) _ l3 (fun k_ => some k_ = (.slice A_X4 l4.length c_X4 : Value).ownBlock) _ l4 m2 m3 t3 t4 w _ HB.out (Kd.R_tight rfl X3.out) (fun k h1 h2 => NE_X.out k h1.symm h2) (Kd.R_tight rfl X4.out) (fun k h1 h2 => NE_X.out k h2.symm h1) Ed.out).mono ?_
  rintro e w24 ⟨rfl, hy0, hy1, hb2, hkp⟩
  clear zgbY_0 fgbY_0 zgbY_1 fgbY_1
  have hk := Kept.mono hkp (fun k h => h.elim (fun h => X3.out.1 k h.symm) (fun h => X4.out.1 k h.symm))
  clear hy0 hy1 hkp; clear X3 X4 NE_X
  have n_ := Aside0.mk (R_iv W0.out hk (by have z := HZ.out; have g_gbB := G_gbB.out; have l_gbB := L_gbB.out; have g_gbW := G_gbW.out; have l_gbW := L_gbW.out; have g_gbX := G_gbX.out; have l_gbX := L_gbX.out; have g_gbY := G_gbY.out; have l_gbY := L_gbY.out; omega))
  clear W0; have W0 := n_; clear n_
  have n_ := Aside0.mk (R_iv G.out hk (by have z := HZ.out; have g_gbB := G_gbB.out; have l_gbB := L_gbB.out; have g_gbW := G_gbW.out; have l_gbW := L_gbW.out; have g_gbX := G_gbX.out; have l_gbX := L_gbX.out; have g_gbY := G_gbY.out; have l_gbY := L_gbY.out; omega))
  clear G; have G := n_; clear n_
  have n_ := Aside0.mk (blk_iv BKB.out hk (by have z := HZ.out; have g_gbB := G_gbB.out; have l_gbB := L_gbB.out; have g_gbW := G_gbW.out; have l_gbW := L_gbW.out; have g_gbX := G_gbX.out; have l_gbX := L_gbX.out; have g_gbY := G_gbY.out; have l_gbY := L_gbY.out; omega))
  clear BKB; have BKB := n_; clear n_
  have n_ := Aside0.mk (blk_iv BKW.out hk (by have z := HZ.out; have g_gbB := G_gbB.out; have l_gbB := L_gbB.out; have g_gbW := G_gbW.out; have l_gbW := L_gbW.out; have g_gbX := G_gbX.out; have l_gbX := L_gbX.out; have g_gbY := G_gbY.out; have l_gbY := L_gbY.out; omega))
  clear BKW; have BKW := n_; clear n_
  have n_ := Aside0.mk (blk_iv BKX.out hk (by have z := HZ.out; have g_gbB := G_gbB.out; have l_gbB := L_gbB.out; have g_gbW := G_gbW.out; have l_gbW := L_gbW.out; have g_gbX := G_gbX.out; have l_gbX := L_gbX.out; have g_gbY := G_gbY.out; have l_gbY := L_gbY.out; omega))
  clear BKX; have BKX := n_; clear n_
  have n_ := Aside0.mk (blk_iv BKY.out hk (by have z := HZ.out; have g_gbB := G_gbB.out; have l_gbB := L_gbB.out; have g_gbW := G_gbW.out; have l_gbW := L_gbW.out; have g_gbX := G_gbX.out; have l_gbX := L_gbX.out; have g_gbY := G_gbY.out; have l_gbY := L_gbY.out; omega))
  clear BKY; have BKY := n_; clear n_
  have n_ := Aside0.mk (hb2)
  clear HB; have HB := n_; clear n_
  have n_ := Aside0.mk (And.intro (hk.1) HZ.out)
  clear HZ; have HZ := n_; clear n_; clear hk hb2
  go_wp2_with fail
  go_at_call 18
  refine (laws_eqIntS.calls k4 _ _ y _ _ y true _ (Kd.R_reads' G.out).2.2 (Kd.R_reads' G.out).2.1 (Kd.R_reads' W0.out).2.2 (Kd.R_reads' W0.out).2.1 E4.out).mono ?_
  rintro e w25 ⟨rfl, hd⟩
  have hb := drawn_below hd
  clear hd
  have n_ := Aside0.mk (Kd.R_below W0.out hb)
  clear W0; have W0 := n_; clear n_
  have n_ := Aside0.mk (Kd.R_below G.out hb)
  clear G; have G := n_; clear n_
  have n_ := Aside0.mk (blk_below BKB.out hb)
  clear BKB; have BKB := n_; clear n_
  have n_ := Aside0.mk (blk_below BKW.out hb)
  clear BKW; have BKW := n_; clear n_
  have n_ := Aside0.mk (blk_below BKX.out hb)
  clear BKX; have BKX := n_; clear n_
  have n_ := Aside0.mk (blk_below BKY.out hb)
  clear BKY; have BKY := n_; clear n_
  have n_ := Aside0.mk (below_step HB.out hb)
  clear HB; have HB := n_; clear n_
  have n_ := Aside0.mk (And.intro (hb.size) HZ.out)
  clear HZ; have HZ := n_; clear n_; clear hb
  go_wp2_with fail
  go_at_call 23
  refine (laws_markIntS.calls ke (Iv w14.heap.size w15.heap.size) _ y 1 mm t5 w _ HB.out G.out Ee.out).mono ?_
  rintro e w26 ⟨rfl, ho1, hb2, hk⟩
  have ho0 := Kd.R_reok rfl ho1 (fun k e => G.out.1 k e)
  clear G ho1
  have n_ := Aside0.mk (R_iv W0.out hk (by have z := HZ.out; have g_gbB := G_gbB.out; have l_gbB := L_gbB.out; have g_gbW := G_gbW.out; have l_gbW := L_gbW.out; have g_gbX := G_gbX.out; have l_gbX := L_gbX.out; have g_gbY := G_gbY.out; have l_gbY := L_gbY.out; omega))
  clear W0; have W0 := n_; clear n_
  have n_ := Aside0.mk (blk_iv BKB.out hk (by have z := HZ.out; have g_gbB := G_gbB.out; have l_gbB := L_gbB.out; have g_gbW := G_gbW.out; have l_gbW := L_gbW.out; have g_gbX := G_gbX.out; have l_gbX := L_gbX.out; have g_gbY := G_gbY.out; have l_gbY := L_gbY.out; omega))
  clear BKB; have BKB := n_; clear n_
  have n_ := Aside0.mk (blk_iv BKW.out hk (by have z := HZ.out; have g_gbB := G_gbB.out; have l_gbB := L_gbB.out; have g_gbW := G_gbW.out; have l_gbW := L_gbW.out; have g_gbX := G_gbX.out; have l_gbX := L_gbX.out; have g_gbY := G_gbY.out; have l_gbY := L_gbY.out; omega))
  clear BKW; have BKW := n_; clear n_
  have n_ := Aside0.mk (blk_iv BKX.out hk (by have z := HZ.out; have g_gbB := G_gbB.out; have l_gbB := L_gbB.out; have g_gbW := G_gbW.out; have l_gbW := L_gbW.out; have g_gbX := G_gbX.out; have l_gbX := L_gbX.out; have g_gbY := G_gbY.out; have l_gbY := L_gbY.out; omega))
  clear BKX; have BKX := n_; clear n_
  have n_ := Aside0.mk (blk_iv BKY.out hk (by have z := HZ.out; have g_gbB := G_gbB.out; have l_gbB := L_gbB.out; have g_gbW := G_gbW.out; have l_gbW := L_gbW.out; have g_gbX := G_gbX.out; have l_gbX := L_gbX.out; have g_gbY := G_gbY.out; have l_gbY := L_gbY.out; omega))
  clear BKY; have BKY := n_; clear n_
  have n_ := Aside0.mk (hb2)
  clear HB; have HB := n_; clear n_
  have n_ := Aside0.mk (And.intro (hk.1) HZ.out)
  clear HZ; have HZ := n_; clear n_
  have G := Aside0.mk ho0
  have HE := Aside0.mk (Kd.R_reads' G.out).1
  clear ho0 hk hb2
  go_wp2_with fail
  go_at_call 24
  refine (calls_of_args (by rw [HE.out]) (laws_heldIntS.calls kf A_G c_G t5 1 mm _ (Kd.R_reads' G.out).2.2 (by rw [← HE.out]; exact (Kd.R_reads' G.out).2.1) Ef.out)).mono ?_
  rintro e w27 ⟨rfl, hd⟩
  have hb := drawn_below hd
  clear hd
  have n_ := Aside0.mk (Kd.R_below W0.out hb)
  clear W0; have W0 := n_; clear n_
  have n_ := Aside0.mk (Kd.R_below G.out hb)
  clear G; have G := n_; clear n_
  have n_ := Aside0.mk (blk_below BKB.out hb)
  clear BKB; have BKB := n_; clear n_
  have n_ := Aside0.mk (blk_below BKW.out hb)
  clear BKW; have BKW := n_; clear n_
  have n_ := Aside0.mk (blk_below BKX.out hb)
  clear BKX; have BKX := n_; clear n_
  have n_ := Aside0.mk (blk_below BKY.out hb)
  clear BKY; have BKY := n_; clear n_
  have n_ := Aside0.mk (below_step HB.out hb)
  clear HB; have HB := n_; clear n_
  have n_ := Aside0.mk (And.intro (hb.size) HZ.out)
  clear HZ; have HZ := n_; clear n_; clear hb
  go_wp2_with fail
  have hb : Below w27.heap.size w27 w27.drew := below_drew (Below.refl _ _)
  have n_ := Aside0.mk (Kd.R_below W0.out hb)
  clear W0; have W0 := n_; clear n_
  have n_ := Aside0.mk (Kd.R_below G.out hb)
  clear G; have G := n_; clear n_
  have n_ := Aside0.mk (blk_below BKB.out hb)
  clear BKB; have BKB := n_; clear n_
  have n_ := Aside0.mk (blk_below BKW.out hb)
  clear BKW; have BKW := n_; clear n_
  have n_ := Aside0.mk (blk_below BKX.out hb)
  clear BKX; have BKX := n_; clear n_
  have n_ := Aside0.mk (blk_below BKY.out hb)
  clear BKY; have BKY := n_; clear n_
  have n_ := Aside0.mk (below_step HB.out hb)
  clear HB; have HB := n_; clear n_
  have n_ := Aside0.mk (And.intro (hb.size) HZ.out)
  clear HZ; have HZ := n_; clear n_; clear hb
  refine start_ (n := 10) (S := (fun w' => w'.cell? ⟨gbB, 0, none⟩ = some (.slice A0 l0.length c0) ∧ w'.cell? ⟨gbB, 1, none⟩ = some (.slice A1 l1.length c1) ∧ w'.cell? ⟨gbB, 2, none⟩ = some (.slice A2 l2.length c2) ∧ w'.cell? ⟨gbW, 0, none⟩ = some (.slice A3 l3.length c3) ∧ w'.cell? ⟨gbW, 1, none⟩ = some (.slice A4 l4.length c4))) (ds := []) #[false, false, false, false, false, false, false, false, false, false] (by kernel_rfl) rfl rfl ⟨(blk_cell BKB.out 0).trans rfl, (blk_cell BKB.out 1).trans rfl, (blk_cell BKB.out 2).trans rfl, (blk_cell BKW.out 0).trans rfl, (blk_cell BKW.out 1).trans rfl⟩ (fun hHeld => ?_)
  generalize w27.drew = w28 at W0 G BKB BKW BKX BKY HB HZ hHeld ⊢
  refine take_ (i := 0) (N := some 95) (v := ?_) (a' := ?_) #[true, false, false, false, false, false, false, false, false, false] rfl rfl (by kernel_rfl) (fun _ _ _ h => h) (Or.inl ⟨by rfl, ?_⟩) hHeld ?_ ?_
  rotate_left
  · rintro w' ⟨s0, s1, s2, s3, s4⟩
    go_simp
    with_reducible rfl
  rotate_left
  · simp only [Act.put, List.setIfInBounds_toArray, List.set_cons_zero, List.set_cons_succ]
    rfl
  refine take_ (i := 2) (N := some 97) (v := ?_) (a' := ?_) #[true, false, true, false, false, false, false, false, false, false] rfl rfl (by kernel_rfl) (fun _ _ _ h => h) (Or.inl ⟨by rfl, ?_⟩) hHeld ?_ ?_
  rotate_left
  · rintro w' ⟨s0, s1, s2, s3, s4⟩
    go_simp
    with_reducible rfl
  rotate_left
  · simp only [Act.put, List.setIfInBounds_toArray, List.set_cons_zero, List.set_cons_succ]
    rfl
  refine one_ (i := 1) (N := some 96) #[true, true, true, false, false, false, false, false, false, false] rfl rfl (by kernel_rfl) (by decide) (fun K hK => ?_)
  refine goes_ Tryd.func15 (by kernel_rfl) rfl #[.agg #[.slice A0 l0.length c0, .slice A1 l1.length c1, .slice A2 l2.length c2]] (by rfl) rfl rfl (by simp only [List.map_toArray, List.map_cons, List.map_nil]; rfl) ?_
  refine (laws_toBoard.calls k0 _ _ l0 _ _ l1 _ _ l2 l0 l1 l2 _ (Kd.C_below HR0.out HB.out) HC0.out (Kd.C_below HR1.out HB.out) HC1.out (Kd.C_below HR2.out HB.out) HC2.out E0.out).mono ?_
  rintro e w29 ⟨va, vb, vc, rfl, ho0, ho1, ho2, hb⟩
  refine ⟨_, rfl, ?_⟩
  have n_ := Aside0.mk (Kd.R_below W0.out hb)
  clear W0; have W0 := n_; clear n_
  have n_ := Aside0.mk (Kd.R_below G.out hb)
  clear G; have G := n_; clear n_
  have n_ := Aside0.mk (blk_below BKB.out hb)
  clear BKB; have BKB := n_; clear n_
  have n_ := Aside0.mk (blk_below BKW.out hb)
  clear BKW; have BKW := n_; clear n_
  have n_ := Aside0.mk (blk_below BKX.out hb)
  clear BKX; have BKX := n_; clear n_
  have n_ := Aside0.mk (blk_below BKY.out hb)
  clear BKY; have BKY := n_; clear n_
  have n_ := Aside0.mk (below_step HB.out hb)
  clear HB; have HB := n_; clear n_
  have n_ := Aside0.mk (And.intro (hb.size) HZ.out)
  clear HZ; have HZ := n_; clear n_; clear hb
  obtain ⟨A_U0, c_U0, e_U0⟩ := Kd.R_slice ho0
  subst e_U0
  have U0 := Aside0.mk (R_mk (base := w.heap.size) ho0 (by have z := HZ.out; have g_gbB := G_gbB.out; have l_gbB := L_gbB.out; have g_gbW := G_gbW.out; have l_gbW := L_gbW.out; have g_gbX := G_gbX.out; have l_gbX := L_gbX.out; have g_gbY := G_gbY.out; have l_gbY := L_gbY.out; omega))
  clear ho0
  obtain ⟨A_U1, c_U1, e_U1⟩ := Kd.R_slice ho1
  subst e_U1
  have U1 := Aside0.mk (R_mk (base := w.heap.size) ho1 (by have z := HZ.out; have g_gbB := G_gbB.out; have l_gbB := L_gbB.out; have g_gbW := G_gbW.out; have l_gbW := L_gbW.out; have g_gbX := G_gbX.out; have l_gbX := L_gbX.out; have g_gbY := G_gbY.out; have l_gbY := L_gbY.out; omega))
  clear ho1
  obtain ⟨A_U2, c_U2, e_U2⟩ := Kd.S_slice ho2
  subst e_U2
  have U2 := Aside0.mk (S_mk (base := w.heap.size) ho2 (by have z := HZ.out; have g_gbB := G_gbB.out; have l_gbB := L_gbB.out; have g_gbW := G_gbW.out; have l_gbW := L_gbW.out; have g_gbX := G_gbX.out; have l_gbX := L_gbX.out; have g_gbY := G_gbY.out; have l_gbY := L_gbY.out; omega))
  clear ho2
  refine hK.out _ _ ⟨(blk_cell BKB.out 0).trans rfl, (blk_cell BKB.out 1).trans rfl, (blk_cell BKB.out 2).trans rfl, (blk_cell BKW.out 0).trans rfl, (blk_cell BKW.out 1).trans rfl⟩ (fun hHeld => ?_)
  clear hK K
  refine norm_ (a' := ?_) ?_ ?_
  rotate_left
  · show Act.put _ (some 96) _ = _
    simp only [Act.put, List.setIfInBounds_toArray, List.set_cons_zero, List.set_cons_succ]
    rfl
  refine one_ (i := 3) (N := some 98) #[true, true, true, true, false, false, false, false, false, false] rfl rfl (by kernel_rfl) (by decide) (fun K hK => ?_)
  refine goes_ Tryd.func16 (by kernel_rfl) rfl #[.agg #[.slice A3 l3.length c3, .slice A4 l4.length c4]] (by rfl) rfl rfl (by simp only [List.map_toArray, List.map_cons, List.map_nil]; rfl) ?_
  refine (laws_toWish.calls k1 _ _ l3 _ _ l4 l3 l4 _ (Kd.C_below HR3.out HB.out) HC3.out (Kd.C_below HR4.out HB.out) HC4.out E1.out).mono ?_
  rintro e w30 ⟨va, vb, rfl, ho0, ho1, hb⟩
  refine ⟨_, rfl, ?_⟩
  have n_ := Aside0.mk (Kd.R_below W0.out hb)
  clear W0; have W0 := n_; clear n_
  have n_ := Aside0.mk (Kd.R_below G.out hb)
  clear G; have G := n_; clear n_
  have n_ := Aside0.mk (Kd.R_below U0.out hb)
  clear U0; have U0 := n_; clear n_
  have n_ := Aside0.mk (Kd.R_below U1.out hb)
  clear U1; have U1 := n_; clear n_
  have n_ := Aside0.mk (Kd.S_below U2.out hb)
  clear U2; have U2 := n_; clear n_
  have n_ := Aside0.mk (blk_below BKB.out hb)
  clear BKB; have BKB := n_; clear n_
  have n_ := Aside0.mk (blk_below BKW.out hb)
  clear BKW; have BKW := n_; clear n_
  have n_ := Aside0.mk (blk_below BKX.out hb)
  clear BKX; have BKX := n_; clear n_
  have n_ := Aside0.mk (blk_below BKY.out hb)
  clear BKY; have BKY := n_; clear n_
  have n_ := Aside0.mk (below_step HB.out hb)
  clear HB; have HB := n_; clear n_
  have n_ := Aside0.mk (And.intro (hb.size) HZ.out)
  clear HZ; have HZ := n_; clear n_; clear hb
  have NE_U := Aside0.mk ho0.1
  have ho2 := Kd.R_mono ho0 (fun _ _ => trivial)
  have ho3 := Kd.R_mono ho1 (fun _ _ => trivial)
  clear ho0 ho1
  obtain ⟨A_U3, c_U3, e_U3⟩ := Kd.R_slice ho2
  subst e_U3
  have U3 := Aside0.mk (R_mk (base := w.heap.size) ho2 (by have z := HZ.out; have g_gbB := G_gbB.out; have l_gbB := L_gbB.out; have g_gbW := G_gbW.out; have l_gbW := L_gbW.out; have g_gbX := G_gbX.out; have l_gbX := L_gbX.out; have g_gbY := G_gbY.out; have l_gbY := L_gbY.out; omega))
  clear ho2
  obtain ⟨A_U4, c_U4, e_U4⟩ := Kd.R_slice ho3
  subst e_U4
  have U4 := Aside0.mk (R_mk (base := w.heap.size) ho3 (by have z := HZ.out; have g_gbB := G_gbB.out; have l_gbB := L_gbB.out; have g_gbW := G_gbW.out; have l_gbW := L_gbW.out; have g_gbX := G_gbX.out; have l_gbX := L_gbX.out; have g_gbY := G_gbY.out; have l_gbY := L_gbY.out; omega))
  clear ho3; clear NE_U
  refine hK.out _ _ ⟨(blk_cell BKB.out 0).trans rfl, (blk_cell BKB.out 1).trans rfl, (blk_cell BKB.out 2).trans rfl, (blk_cell BKW.out 0).trans rfl, (blk_cell BKW.out 1).trans rfl⟩ (fun hHeld => ?_)
  clear hK K
  refine norm_ (a' := ?_) ?_ ?_
  rotate_left
  · show Act.put _ (some 98) _ = _
    simp only [Act.put, List.setIfInBounds_toArray, List.set_cons_zero, List.set_cons_succ]
    rfl
  refine one_ (i := 4) (N := some 99) #[true, true, true, true, true, false, false, false, false, false] rfl rfl (by kernel_rfl) (by decide) (fun K hK => ?_)
  refine goes_ Tryd.func17 (by kernel_rfl) rfl #[.agg #[.slice A_U0 l0.length c_U0, .slice A_U1 l1.length c_U1, .slice A_U2 l2.length c_U2], .agg #[.slice A_U3 l3.length c_U3, .slice A_U4 l4.length c_U4]] (by rfl) rfl rfl (by simp only [List.map_toArray, List.map_cons, List.map_nil]; rfl) ?_
  refine (impl_WinningPlaces.calls k3 _ _ l0 _ _ l1 _ _ l2 _ _ l3 _ _ l4 y b _ (Kd.R_reads' U0.out).2.2 (Kd.R_reads' U0.out).2.1 (Kd.R_reads' U1.out).2.2 (Kd.R_reads' U1.out).2.1 (Kd.S_reads' U2.out).2.2 (Kd.S_reads' U2.out).2.1 (Kd.R_reads' U3.out).2.2 (Kd.R_reads' U3.out).2.1 (Kd.R_reads' U4.out).2.2 (Kd.R_reads' U4.out).2.1 E3.out).mono ?_
  rintro e w31 ⟨va, rfl, ho0, hb⟩
  refine ⟨_, rfl, ?_⟩
  have n_ := Aside0.mk (Kd.R_below W0.out hb)
  clear W0; have W0 := n_; clear n_
  have n_ := Aside0.mk (Kd.R_below G.out hb)
  clear G; have G := n_; clear n_
  have n_ := Aside0.mk (Kd.R_below U0.out hb)
  clear U0; have U0 := n_; clear n_
  have n_ := Aside0.mk (Kd.R_below U1.out hb)
  clear U1; have U1 := n_; clear n_
  have n_ := Aside0.mk (Kd.S_below U2.out hb)
  clear U2; have U2 := n_; clear n_
  have n_ := Aside0.mk (Kd.R_below U3.out hb)
  clear U3; have U3 := n_; clear n_
  have n_ := Aside0.mk (Kd.R_below U4.out hb)
  clear U4; have U4 := n_; clear n_
  have n_ := Aside0.mk (blk_below BKB.out hb)
  clear BKB; have BKB := n_; clear n_
  have n_ := Aside0.mk (blk_below BKW.out hb)
  clear BKW; have BKW := n_; clear n_
  have n_ := Aside0.mk (blk_below BKX.out hb)
  clear BKX; have BKX := n_; clear n_
  have n_ := Aside0.mk (blk_below BKY.out hb)
  clear BKY; have BKY := n_; clear n_
  have n_ := Aside0.mk (below_step HB.out hb)
  clear HB; have HB := n_; clear n_
  have n_ := Aside0.mk (And.intro (hb.size) HZ.out)
  clear HZ; have HZ := n_; clear n_; clear hb
  obtain ⟨A_H, c_H, e_H⟩ := Kd.R_slice ho0
  subst e_H
  have H := Aside0.mk (R_mk (base := w.heap.size) ho0 (by have z := HZ.out; have g_gbB := G_gbB.out; have l_gbB := L_gbB.out; have g_gbW := G_gbW.out; have l_gbW := L_gbW.out; have g_gbX := G_gbX.out; have l_gbX := L_gbX.out; have g_gbY := G_gbY.out; have l_gbY := L_gbY.out; omega))
  clear ho0
  refine hK.out _ _ ⟨(blk_cell BKB.out 0).trans rfl, (blk_cell BKB.out 1).trans rfl, (blk_cell BKB.out 2).trans rfl, (blk_cell BKW.out 0).trans rfl, (blk_cell BKW.out 1).trans rfl⟩ (fun hHeld => ?_)
  clear hK K
  refine norm_ (a' := ?_) ?_ ?_
  rotate_left
  · show Act.put _ (some 99) _ = _
    simp only [Act.put, List.setIfInBounds_toArray, List.set_cons_zero, List.set_cons_succ]
    rfl
  refine pure_ (i := 5) (N := some 94) (v := ?_) (a' := ?_) #[true, true, true, true, true, true, false, false, false, false] rfl rfl (by kernel_rfl) (fun _ _ _ h => h) (Or.inl ⟨by rfl, ?_⟩) ?_ ?_
  rotate_left
  · intro w'
    go_simp
    with_reducible rfl
  rotate_left
  · simp only [Act.put, List.setIfInBounds_toArray, List.set_cons_zero, List.set_cons_succ]
    rfl
  refine pure_ (i := 6) (N := some 100) (v := ?_) (a' := ?_) #[true, true, true, true, true, true, true, false, false, false] rfl rfl (by kernel_rfl) (fun _ _ _ h => h) (Or.inl ⟨by rfl, ?_⟩) ?_ ?_
  rotate_left
  · intro w'
    go_simp
    with_reducible rfl
  rotate_left
  · simp only [Act.put, List.setIfInBounds_toArray, List.set_cons_zero, List.set_cons_succ]
    rfl
  refine pure_ (i := 7) (N := some 101) (v := ?_) (a' := ?_) #[true, true, true, true, true, true, true, true, false, false] rfl rfl (by kernel_rfl) (fun _ _ _ h => h) (Or.inl ⟨by rfl, ?_⟩) ?_ ?_
  rotate_left
  · intro w'
    go_simp
    with_reducible rfl
  rotate_left
  · simp only [Act.put, List.setIfInBounds_toArray, List.set_cons_zero, List.set_cons_succ]
    rfl
  refine pure_ (i := 8) (N := some 15) (v := ?_) (a' := ?_) #[true, true, true, true, true, true, true, true, true, false] rfl rfl (by kernel_rfl) (fun _ _ _ h => h) (Or.inl ⟨by rfl, ?_⟩) ?_ ?_
  rotate_left
  · intro w'
    go_simp
    with_reducible rfl
  rotate_left
  · simp only [Act.put, List.setIfInBounds_toArray, List.set_cons_zero, List.set_cons_succ]
    rfl
  refine pure_ (i := 9) (N := some 16) (v := ?_) (a' := ?_) #[true, true, true, true, true, true, true, true, true, true] rfl rfl (by kernel_rfl) (fun _ _ _ h => h) (Or.inl ⟨by rfl, ?_⟩) ?_ ?_
  rotate_left
  · intro w'
    go_simp
    with_reducible rfl
  rotate_left
  · simp only [Act.put, List.setIfInBounds_toArray, List.set_cons_zero, List.set_cons_succ]
    rfl
  refine done_ (by kernel_rfl) ?_
  clear U0; clear U1; clear U2; clear U3; clear U4
  go_wp2_with fail
  go_at_call 18
  refine (laws_eqIntS.calls k4 _ _ y _ _ y true _ (Kd.R_reads' H.out).2.2 (Kd.R_reads' H.out).2.1 (Kd.R_reads' W0.out).2.2 (Kd.R_reads' W0.out).2.1 E4.out).mono ?_
  rintro e w32 ⟨rfl, hd⟩
  have hb := drawn_below hd
  clear hd
  have n_ := Aside0.mk (Kd.R_below W0.out hb)
  clear W0; have W0 := n_; clear n_
  have n_ := Aside0.mk (Kd.R_below G.out hb)
  clear G; have G := n_; clear n_
  have n_ := Aside0.mk (Kd.R_below H.out hb)
  clear H; have H := n_; clear n_
  have n_ := Aside0.mk (blk_below BKB.out hb)
  clear BKB; have BKB := n_; clear n_
  have n_ := Aside0.mk (blk_below BKW.out hb)
  clear BKW; have BKW := n_; clear n_
  have n_ := Aside0.mk (blk_below BKX.out hb)
  clear BKX; have BKX := n_; clear n_
  have n_ := Aside0.mk (blk_below BKY.out hb)
  clear BKY; have BKY := n_; clear n_
  have n_ := Aside0.mk (below_step HB.out hb)
  clear HB; have HB := n_; clear n_
  have n_ := Aside0.mk (And.intro (hb.size) HZ.out)
  clear HZ; have HZ := n_; clear n_; clear hb
  go_wp2_with fail
  go_at_call 24
  refine (calls_of_args (by rw [HE.out]) (laws_heldIntS.calls kf A_G c_G t5 1 mm _ (Kd.R_reads' G.out).2.2 (by rw [← HE.out]; exact (Kd.R_reads' G.out).2.1) Ef.out)).mono ?_
  rintro e w33 ⟨rfl, hd⟩
  have hb := drawn_below hd
  clear hd
  have n_ := Aside0.mk (Kd.R_below W0.out hb)
  clear W0; have W0 := n_; clear n_
  have n_ := Aside0.mk (Kd.R_below G.out hb)
  clear G; have G := n_; clear n_
  have n_ := Aside0.mk (Kd.R_below H.out hb)
  clear H; have H := n_; clear n_
  have n_ := Aside0.mk (blk_below BKB.out hb)
  clear BKB; have BKB := n_; clear n_
  have n_ := Aside0.mk (blk_below BKW.out hb)
  clear BKW; have BKW := n_; clear n_
  have n_ := Aside0.mk (blk_below BKX.out hb)
  clear BKX; have BKX := n_; clear n_
  have n_ := Aside0.mk (blk_below BKY.out hb)
  clear BKY; have BKY := n_; clear n_
  have n_ := Aside0.mk (below_step HB.out hb)
  clear HB; have HB := n_; clear n_
  have n_ := Aside0.mk (And.intro (hb.size) HZ.out)
  clear HZ; have HZ := n_; clear n_; clear hb
  go_wp2_with fail
  go_ret
  exact ⟨rfl, HB.out⟩

end Go.Proofs.YtdihodboopeakaaDoor.Pr
