-- Joined and pruned by wip/tools/prune.py out of this session's own texts (Stx, PureInts, PureMarks, PureMss, PureName, PureText, PureBase, PureIntSS)
import Derived.Test.YtdihodboopeakaaDoorZst13
import Derived.Lib.DecodeN
import Derived.Lib.RuneCountTail
import Derived.Lib.Strings
/- FnExactStrategy, walked by hand (gen-board.py). -/
namespace Go.Proofs.YtdihodboopeakaaDoor.Pr
open Go.RowKit Go.Proofs.YtdihodboopeakaaDoorW.PrintWords Go.Proofs.YtdihodboopeakaaDoorW.PrintLast Go.Proofs.YtdihodboopeakaaDoorW.PrintMore
attribute [local go_sem] bne_self_eq_false
set_option linter.unusedVariables false
set_option linter.unusedSimpArgs false

set_option maxHeartbeats 4000000 in
set_option maxRecDepth 100000 in
theorem law_Strategy_z0 (A0 : Option Addr) (c0 : Nat) (l0 : List ByteArray) (A1 : Option Addr) (c1 : Nat) (l1 : List Bool) (A2 : Option Addr) (c2 : Nat) (l2 : List (List Int)) (A3 : Option Addr) (c3 : Nat) (l3 : List ByteArray) (A4 : Option Addr) (c4 : Nat) (l4 : List ByteArray) (w : World) (hr0 : Kd.C Kd.string w A0 l0.length l0) (hc0 : l0.length ≤ c0) (hr1 : Kd.C Kd.bool w A1 l1.length l1) (hc1 : l1.length ≤ c1) (hr2 : Kd.C (Kd.slice 3 (Kd.int .i64)) w A2 l2.length l2) (hc2 : l2.length ≤ c2) (hr3 : Kd.C Kd.string w A3 l3.length l3) (hc3 : l3.length ≤ c3) (hr4 : Kd.C Kd.string w A4 l4.length l4) (hc4 : l4.length ≤ c4)
    (kz : Nat) (z0 : Int) (hz : laws_szBoard.f kz l0 l1 l2 1048576 = some z0) (hz0 : z0 < 0) :
    Calls Tryd.prog 4 #[.agg #[.slice A0 l0.length c0, .slice A1 l1.length c1, .slice A2 l2.length c2], .agg #[.slice A3 l3.length c3, .slice A4 l4.length c4]] w fun e w' => e = .returned (.bool true) ∧ Below w.heap.size w w' := by
  have hu26 := Tryd.underlying26; have hu28 := Tryd.underlying28; have hu34 := Tryd.underlying34; have hu36 := Tryd.underlying36; have HR0 := Aside0.mk hr0; have HC0 := Aside0.mk hc0; clear hr0 hc0; have HR1 := Aside0.mk hr1; have HC1 := Aside0.mk hc1; clear hr1 hc1; have HR2 := Aside0.mk hr2; have HC2 := Aside0.mk hc2; clear hr2 hc2; have HR3 := Aside0.mk hr3; have HC3 := Aside0.mk hc3; clear hr3 hc3; have HR4 := Aside0.mk hr4; have HC4 := Aside0.mk hc4; clear hr4 hc4; have Z0 := Aside0.mk hz; have b0 : decide (z0 < 0) = true := decide_eq_true hz0; clear hz hz0; go_enter Tryd.func4, Tryd.ntmps4; have HB := Aside0.mk (Below.refl w.heap.size w); have HZ : Aside0 (w.heap.size ≤ w.heap.size) := ⟨Nat.le_refl _⟩; go_wp2_with (first | ((with_reducible refine gate_dst (N := 2) rfl ?_); refine box_event ?hg (N := 2) ?hd (cs := #[.slice A0 l0.length c0, .slice A1 l1.length c1, .slice A2 l2.length c2]) (t := 26) ?hr ?_; (case hd => rfl); (case hg => rfl); (case hr => first | (go_simp; done) | (go_simp; rfl)); intro gbB hg w1 hbox hb; have G_gbB := Aside0.mk hg; clear hg; have n_ := Aside0.mk (below_step HB.out hb); clear HB; have HB := n_; clear n_; have n_ := Aside0.mk (And.intro (hb.size) HZ.out); clear HZ; have HZ := n_; clear n_; have BKB := Aside0.mk hbox; have L_gbB := Aside0.mk (blk_lt hbox); clear hb hbox) | ((with_reducible refine gate_dst (N := 3) rfl ?_); refine box_event ?hg (N := 3) ?hd (cs := #[.slice A3 l3.length c3, .slice A4 l4.length c4]) (t := 28) ?hr ?_; (case hd => rfl); (case hg => rfl); (case hr => first | (go_simp; done) | (go_simp; rfl)); intro gbW hg w2 hbox hb; have G_gbW := Aside0.mk hg; clear hg; have n_ := Aside0.mk (blk_below BKB.out hb); clear BKB; have BKB := n_; clear n_; have n_ := Aside0.mk (below_step HB.out hb); clear HB; have HB := n_; clear n_; have n_ := Aside0.mk (And.intro (hb.size) HZ.out); clear HZ; have HZ := n_; clear n_; have BKW := Aside0.mk hbox; have L_gbW := Aside0.mk (blk_lt hbox); clear hb hbox; have zgbB_0 : w2.cell? ⟨gbB, 0, none⟩ = some (.slice A0 l0.length c0) := (blk_cell BKB.out 0).trans rfl; have fgbB_0 := blk_frozen BKB.out 0; have zgbB_1 : w2.cell? ⟨gbB, 1, none⟩ = some (.slice A1 l1.length c1) := (blk_cell BKB.out 1).trans rfl; have fgbB_1 := blk_frozen BKB.out 1; have zgbB_2 : w2.cell? ⟨gbB, 2, none⟩ = some (.slice A2 l2.length c2) := (blk_cell BKB.out 2).trans rfl; have fgbB_2 := blk_frozen BKB.out 2; have ngbB_gbW : gbB ≠ gbW := (by have z := HZ.out; have g_gbB := G_gbB.out; have l_gbB := L_gbB.out; have g_gbW := G_gbW.out; have l_gbW := L_gbW.out; omega); have ngbW_gbB : gbW ≠ gbB := (by have z := HZ.out; have g_gbB := G_gbB.out; have l_gbB := L_gbB.out; have g_gbW := G_gbW.out; have l_gbW := L_gbW.out; omega))); go_wp2_with fail; go_at_call 12; refine (laws_szBoard.calls kz _ _ l0 _ _ l1 _ _ l2 1048576 z0 _ (Kd.C_below HR0.out HB.out) HC0.out (Kd.C_below HR1.out HB.out) HC1.out (Kd.C_below HR2.out HB.out) HC2.out Z0.out).mono ?_; rintro e w3 ⟨rfl, hb⟩; have n_ := Aside0.mk (blk_below BKB.out hb); clear BKB; have BKB := n_; clear n_; have n_ := Aside0.mk (blk_below BKW.out hb); clear BKW; have BKW := n_; clear n_; have n_ := Aside0.mk (below_step HB.out hb); clear HB; have HB := n_; clear n_; have n_ := Aside0.mk (And.intro (hb.size) HZ.out); clear HZ; have HZ := n_; clear n_; clear hb; clear zgbB_0 fgbB_0 zgbB_1 fgbB_1 zgbB_2 fgbB_2 ngbB_gbW ngbW_gbB; go_wp2_with fail; go_ret; exact ⟨rfl, HB.out⟩

set_option maxHeartbeats 4000000 in
set_option maxRecDepth 100000 in
theorem law_Strategy_z1 (A0 : Option Addr) (c0 : Nat) (l0 : List ByteArray) (A1 : Option Addr) (c1 : Nat) (l1 : List Bool) (A2 : Option Addr) (c2 : Nat) (l2 : List (List Int)) (A3 : Option Addr) (c3 : Nat) (l3 : List ByteArray) (A4 : Option Addr) (c4 : Nat) (l4 : List ByteArray) (w : World) (hr0 : Kd.C Kd.string w A0 l0.length l0) (hc0 : l0.length ≤ c0) (hr1 : Kd.C Kd.bool w A1 l1.length l1) (hc1 : l1.length ≤ c1) (hr2 : Kd.C (Kd.slice 3 (Kd.int .i64)) w A2 l2.length l2) (hc2 : l2.length ≤ c2) (hr3 : Kd.C Kd.string w A3 l3.length l3) (hc3 : l3.length ≤ c3) (hr4 : Kd.C Kd.string w A4 l4.length l4) (hc4 : l4.length ≤ c4)
    (kz kw : Nat) (z0 z1 : Int) (hz : laws_szBoard.f kz l0 l1 l2 1048576 = some z0) (hz0 : ¬ z0 < 0) (hw : laws_szWish.f kw l3 l4 z0 = some z1) (hz1 : z1 < 0) :
    Calls Tryd.prog 4 #[.agg #[.slice A0 l0.length c0, .slice A1 l1.length c1, .slice A2 l2.length c2], .agg #[.slice A3 l3.length c3, .slice A4 l4.length c4]] w fun e w' => e = .returned (.bool true) ∧ Below w.heap.size w w' := by
  have hu26 := Tryd.underlying26; have hu28 := Tryd.underlying28; have hu34 := Tryd.underlying34; have hu36 := Tryd.underlying36; have HR0 := Aside0.mk hr0; have HC0 := Aside0.mk hc0; clear hr0 hc0; have HR1 := Aside0.mk hr1; have HC1 := Aside0.mk hc1; clear hr1 hc1; have HR2 := Aside0.mk hr2; have HC2 := Aside0.mk hc2; clear hr2 hc2; have HR3 := Aside0.mk hr3; have HC3 := Aside0.mk hc3; clear hr3 hc3; have HR4 := Aside0.mk hr4; have HC4 := Aside0.mk hc4; clear hr4 hc4; have Z0 := Aside0.mk hz; have Z1 := Aside0.mk hw; have b0 : decide (z0 < 0) = false := decide_eq_false hz0; have b1 : decide (z1 < 0) = true := decide_eq_true hz1; clear hz hz0 hw hz1; go_enter Tryd.func4, Tryd.ntmps4; have HB := Aside0.mk (Below.refl w.heap.size w); have HZ : Aside0 (w.heap.size ≤ w.heap.size) := ⟨Nat.le_refl _⟩; go_wp2_with (first | ((with_reducible refine gate_dst (N := 2) rfl ?_); refine box_event ?hg (N := 2) ?hd (cs := #[.slice A0 l0.length c0, .slice A1 l1.length c1, .slice A2 l2.length c2]) (t := 26) ?hr ?_; (case hd => rfl); (case hg => rfl); (case hr => first | (go_simp; done) | (go_simp; rfl)); intro gbB hg w1 hbox hb; have G_gbB := Aside0.mk hg; clear hg; have n_ := Aside0.mk (below_step HB.out hb); clear HB; have HB := n_; clear n_; have n_ := Aside0.mk (And.intro (hb.size) HZ.out); clear HZ; have HZ := n_; clear n_; have BKB := Aside0.mk hbox; have L_gbB := Aside0.mk (blk_lt hbox); clear hb hbox) | ((with_reducible refine gate_dst (N := 3) rfl ?_); refine box_event ?hg (N := 3) ?hd (cs := #[.slice A3 l3.length c3, .slice A4 l4.length c4]) (t := 28) ?hr ?_; (case hd => rfl); (case hg => rfl); (case hr => first | (go_simp; done) | (go_simp; rfl)); intro gbW hg w2 hbox hb; have G_gbW := Aside0.mk hg; clear hg; have n_ := Aside0.mk (blk_below BKB.out hb); clear BKB; have BKB := n_; clear n_; have n_ := Aside0.mk (below_step HB.out hb); clear HB; have HB := n_; clear n_; have n_ := Aside0.mk (And.intro (hb.size) HZ.out); clear HZ; have HZ := n_; clear n_; have BKW := Aside0.mk hbox; have L_gbW := Aside0.mk (blk_lt hbox); clear hb hbox; have zgbB_0 : w2.cell? ⟨gbB, 0, none⟩ = some (.slice A0 l0.length c0) := (blk_cell BKB.out 0).trans rfl; have fgbB_0 := blk_frozen BKB.out 0; have zgbB_1 : w2.cell? ⟨gbB, 1, none⟩ = some (.slice A1 l1.length c1) := (blk_cell BKB.out 1).trans rfl; have fgbB_1 := blk_frozen BKB.out 1; have zgbB_2 : w2.cell? ⟨gbB, 2, none⟩ = some (.slice A2 l2.length c2) := (blk_cell BKB.out 2).trans rfl; have fgbB_2 := blk_frozen BKB.out 2; have ngbB_gbW : gbB ≠ gbW := (by have z := HZ.out; have g_gbB := G_gbB.out; have l_gbB := L_gbB.out; have g_gbW := G_gbW.out; have l_gbW := L_gbW.out; omega); have ngbW_gbB : gbW ≠ gbB := (by have z := HZ.out; have g_gbB := G_gbB.out; have l_gbB := L_gbB.out; have g_gbW := G_gbW.out; have l_gbW := L_gbW.out; omega))); go_wp2_with fail; go_at_call 12; refine (laws_szBoard.calls kz _ _ l0 _ _ l1 _ _ l2 1048576 z0 _ (Kd.C_below HR0.out HB.out) HC0.out (Kd.C_below HR1.out HB.out) HC1.out (Kd.C_below HR2.out HB.out) HC2.out Z0.out).mono ?_; rintro e w3 ⟨rfl, hb⟩; have n_ := Aside0.mk (blk_below BKB.out hb); clear BKB; have BKB := n_; clear n_; have n_ := Aside0.mk (blk_below BKW.out hb); clear BKW; have BKW := n_; clear n_; have n_ := Aside0.mk (below_step HB.out hb); clear HB; have HB := n_; clear n_; have n_ := Aside0.mk (And.intro (hb.size) HZ.out); clear HZ; have HZ := n_; clear n_; clear hb; clear zgbB_0 fgbB_0 zgbB_1 fgbB_1 zgbB_2 fgbB_2 ngbB_gbW ngbW_gbB; have zgbW_0 : w3.cell? ⟨gbW, 0, none⟩ = some (.slice A3 l3.length c3) := (blk_cell BKW.out 0).trans rfl; have fgbW_0 := blk_frozen BKW.out 0; have zgbW_1 : w3.cell? ⟨gbW, 1, none⟩ = some (.slice A4 l4.length c4) := (blk_cell BKW.out 1).trans rfl; have fgbW_1 := blk_frozen BKW.out 1; go_wp2_with fail; go_at_call 13; refine (laws_szWish.calls kw _ _ l3 _ _ l4 z0 z1 _ (Kd.C_below HR3.out HB.out) HC3.out (Kd.C_below HR4.out HB.out) HC4.out Z1.out).mono ?_; rintro e w4 ⟨rfl, hb⟩; have n_ := Aside0.mk (blk_below BKB.out hb); clear BKB; have BKB := n_; clear n_
  have n_ := Aside0.mk (blk_below BKW.out hb); clear BKW; have BKW := n_; clear n_; have n_ := Aside0.mk (below_step HB.out hb); clear HB; have HB := n_; clear n_; have n_ := Aside0.mk (And.intro (hb.size) HZ.out); clear HZ; have HZ := n_; clear n_; clear hb; clear zgbW_0 fgbW_0 zgbW_1 fgbW_1; go_wp2_with fail; go_ret; exact ⟨rfl, HB.out⟩

set_option maxHeartbeats 4000000 in
set_option maxRecDepth 100000 in
theorem law_Strategy (A0 : Option Addr) (c0 : Nat) (l0 : List ByteArray) (A1 : Option Addr) (c1 : Nat) (l1 : List Bool) (A2 : Option Addr) (c2 : Nat) (l2 : List (List Int)) (A3 : Option Addr) (c3 : Nat) (l3 : List ByteArray) (A4 : Option Addr) (c4 : Nat) (l4 : List ByteArray) (w : World) (hr0 : Kd.C Kd.string w A0 l0.length l0) (hc0 : l0.length ≤ c0) (hr1 : Kd.C Kd.bool w A1 l1.length l1) (hc1 : l1.length ≤ c1) (hr2 : Kd.C (Kd.slice 3 (Kd.int .i64)) w A2 l2.length l2) (hc2 : l2.length ≤ c2) (hr3 : Kd.C Kd.string w A3 l3.length l3) (hc3 : l3.length ≤ c3) (hr4 : Kd.C Kd.string w A4 l4.length l4) (hc4 : l4.length ≤ c4)
    (ht : Tabs w) (y : List Int) (b : Bool) (t0 : List ByteArray) (t1 : List Bool) (t2 : List (List Int)) (t3 t4 : List ByteArray) (t5 : List Int) (z0 m0 m1 m2 m3 mm z1 : Int) (kz k0 k2 k3 k4 k5 k6 ka kb kc kd ke kf kw k1 : Nat) (hz : laws_szBoard.f kz l0 l1 l2 1048576 = some z0) (hw : laws_szWish.f kw l3 l4 z0 = some z1) (h0 : laws_toBoard.f k0 l0 l1 l2 = some (l0, l1, l2)) (h1 : laws_toWish.f k1 l3 l4 = some (l3, l4)) (h2 : spec_Strategy.f k2 l0 l1 l2 l3 l4 = some (y, b)) (h3 : impl_Strategy.f k3 l0 l1 l2 l3 l4 = some (y, b)) (h4 : laws_eqIntS.f k4 y y = some true) (h5 : laws_eqBoard.f k5 l0 l1 l2 l0 l1 l2 = some true) (h6 : laws_eqWish.f k6 l3 l4 l3 l4 = some true) (ha : laws_markStringS.f ka l0 1 = some (m0, t0)) (hb : laws_markBoolS.f kb l1 m0 = some (m1, t1)) (hc : laws_markIntSS.f kc l2 m1 = some (m2, t2)) (hd : laws_markWish.f kd l3 l4 m2 = some (m3, t3, t4)) (he : laws_markIntS.f ke y 1 = some (mm, t5)) (hf : laws_heldIntS.f kf t5 1 = some mm) (hz0 : ¬ z0 < 0) (hz1 : ¬ z1 < 0) (hm3 : ¬ m3 < 0) (hmm : ¬ mm < 0) :
    Calls Tryd.prog 4 #[.agg #[.slice A0 l0.length c0, .slice A1 l1.length c1, .slice A2 l2.length c2], .agg #[.slice A3 l3.length c3, .slice A4 l4.length c4]] w fun e w' => e = .returned (.bool true) ∧ Below w.heap.size w w' := by
  have hu26 := Tryd.underlying26; have hu28 := Tryd.underlying28; have hu34 := Tryd.underlying34; have hu36 := Tryd.underlying36; have HR0 := Aside0.mk hr0; have HC0 := Aside0.mk hc0; clear hr0 hc0; have HR1 := Aside0.mk hr1; have HC1 := Aside0.mk hc1; clear hr1 hc1; have HR2 := Aside0.mk hr2; have HC2 := Aside0.mk hc2; clear hr2 hc2; have HR3 := Aside0.mk hr3; have HC3 := Aside0.mk hc3; clear hr3 hc3; have HR4 := Aside0.mk hr4; have HC4 := Aside0.mk hc4; clear hr4 hc4; have HTb_ := Aside0.mk ht; clear ht; have Z0 := Aside0.mk hz; clear hz; have Z1 := Aside0.mk hw; clear hw; have E0 := Aside0.mk h0; clear h0; have E1 := Aside0.mk h1; clear h1; have E2 := Aside0.mk h2; clear h2; have E3 := Aside0.mk h3; clear h3; have E4 := Aside0.mk h4; clear h4; have E5 := Aside0.mk h5; clear h5; have E6 := Aside0.mk h6; clear h6; have Ea := Aside0.mk ha; clear ha; have Eb := Aside0.mk hb; clear hb; have Ec := Aside0.mk hc; clear hc; have Ed := Aside0.mk hd; clear hd; have Ee := Aside0.mk he; clear he; have Ef := Aside0.mk hf; clear hf; have b_z0 : decide (z0 < 0) = false := decide_eq_false hz0; clear hz0; have b_z1 : decide (z1 < 0) = false := decide_eq_false hz1; clear hz1; have b_m3 : decide (m3 < 0) = false := decide_eq_false hm3; clear hm3; have b_mm : decide (mm < 0) = false := decide_eq_false hmm; clear hmm; go_enter Tryd.func4, Tryd.ntmps4; have HB := Aside0.mk (Below.refl w.heap.size w); have HZ : Aside0 (w.heap.size ≤ w.heap.size) := ⟨Nat.le_refl _⟩; go_wp2_with (first | ((with_reducible refine gate_dst (N := 2) rfl ?_); refine box_event ?hg (N := 2) ?hd (cs := #[.slice A0 l0.length c0, .slice A1 l1.length c1, .slice A2 l2.length c2]) (t := 26) ?hr ?_; (case hd => rfl); (case hg => rfl); (case hr => first | (go_simp; done) | (go_simp; rfl)); intro gbB hg w1 hbox hb; have G_gbB := Aside0.mk hg; clear hg; have n_ := Aside0.mk (below_step HB.out hb); clear HB; have HB := n_; clear n_; have n_ := Aside0.mk (And.intro (hb.size) HZ.out); clear HZ; have HZ := n_; clear n_; have BKB := Aside0.mk hbox; have L_gbB := Aside0.mk (blk_lt hbox); clear hb hbox) | ((with_reducible refine gate_dst (N := 3) rfl ?_); refine box_event ?hg (N := 3) ?hd (cs := #[.slice A3 l3.length c3, .slice A4 l4.length c4]) (t := 28) ?hr ?_; (case hd => rfl); (case hg => rfl); (case hr => first | (go_simp; done) | (go_simp; rfl)); intro gbW hg w2 hbox hb; have G_gbW := Aside0.mk hg; clear hg; have n_ := Aside0.mk (blk_below BKB.out hb); clear BKB; have BKB := n_; clear n_; have n_ := Aside0.mk (below_step HB.out hb); clear HB; have HB := n_; clear n_; have n_ := Aside0.mk (And.intro (hb.size) HZ.out); clear HZ; have HZ := n_; clear n_; have BKW := Aside0.mk hbox; have L_gbW := Aside0.mk (blk_lt hbox); clear hb hbox; have zgbB_0 : w2.cell? ⟨gbB, 0, none⟩ = some (.slice A0 l0.length c0) := (blk_cell BKB.out 0).trans rfl; have fgbB_0 := blk_frozen BKB.out 0; have zgbB_1 : w2.cell? ⟨gbB, 1, none⟩ = some (.slice A1 l1.length c1) := (blk_cell BKB.out 1).trans rfl; have fgbB_1 := blk_frozen BKB.out 1; have zgbB_2 : w2.cell? ⟨gbB, 2, none⟩ = some (.slice A2 l2.length c2) := (blk_cell BKB.out 2).trans rfl; have fgbB_2 := blk_frozen BKB.out 2; have ngbB_gbW : gbB ≠ gbW := (by have z := HZ.out; have g_gbB := G_gbB.out; have l_gbB := L_gbB.out; have g_gbW := G_gbW.out; have l_gbW := L_gbW.out; omega); have ngbW_gbB : gbW ≠ gbB := (by have z := HZ.out; have g_gbB := G_gbB.out; have l_gbB := L_gbB.out; have g_gbW := G_gbW.out; have l_gbW := L_gbW.out; omega))); go_wp2_with fail; go_at_call 12; refine (laws_szBoard.calls kz _ _ l0 _ _ l1 _ _ l2 1048576 z0 _ (Kd.C_below HR0.out HB.out) HC0.out (Kd.C_below HR1.out HB.out) HC1.out (Kd.C_below HR2.out HB.out) HC2.out Z0.out).mono ?_; rintro e w3 ⟨rfl, hb⟩; have n_ := Aside0.mk (blk_below BKB.out hb); clear BKB; have BKB := n_; clear n_; have n_ := Aside0.mk (blk_below BKW.out hb); clear BKW; have BKW := n_; clear n_; have n_ := Aside0.mk (below_step HB.out hb); clear HB; have HB := n_; clear n_; have n_ := Aside0.mk (And.intro (hb.size) HZ.out)
  clear HZ; have HZ := n_; clear n_; clear hb; clear zgbB_0 fgbB_0 zgbB_1 fgbB_1 zgbB_2 fgbB_2 ngbB_gbW ngbW_gbB; have zgbW_0 : w3.cell? ⟨gbW, 0, none⟩ = some (.slice A3 l3.length c3) := (blk_cell BKW.out 0).trans rfl; have fgbW_0 := blk_frozen BKW.out 0; have zgbW_1 : w3.cell? ⟨gbW, 1, none⟩ = some (.slice A4 l4.length c4) := (blk_cell BKW.out 1).trans rfl; have fgbW_1 := blk_frozen BKW.out 1; go_wp2_with fail; go_at_call 13; refine (laws_szWish.calls kw _ _ l3 _ _ l4 z0 z1 _ (Kd.C_below HR3.out HB.out) HC3.out (Kd.C_below HR4.out HB.out) HC4.out Z1.out).mono ?_; rintro e w4 ⟨rfl, hb⟩; have n_ := Aside0.mk (blk_below BKB.out hb); clear BKB; have BKB := n_; clear n_; have n_ := Aside0.mk (blk_below BKW.out hb); clear BKW; have BKW := n_; clear n_; have n_ := Aside0.mk (below_step HB.out hb); clear HB; have HB := n_; clear n_; have n_ := Aside0.mk (And.intro (hb.size) HZ.out); clear HZ; have HZ := n_; clear n_; clear hb; clear zgbW_0 fgbW_0 zgbW_1 fgbW_1; go_wp2_with fail; have hb : Below w4.heap.size w4 w4.drew := below_drew (Below.refl _ _); have n_ := Aside0.mk (blk_below BKB.out hb); clear BKB; have BKB := n_; clear n_; have n_ := Aside0.mk (blk_below BKW.out hb); clear BKW; have BKW := n_; clear n_; have n_ := Aside0.mk (below_step HB.out hb); clear HB; have HB := n_; clear n_; have n_ := Aside0.mk (And.intro (hb.size) HZ.out); clear HZ; have HZ := n_; clear n_; clear hb; refine start_ (n := 10) (S := (fun w' => w'.cell? ⟨gbB, 0, none⟩ = some (.slice A0 l0.length c0) ∧ w'.cell? ⟨gbB, 1, none⟩ = some (.slice A1 l1.length c1) ∧ w'.cell? ⟨gbB, 2, none⟩ = some (.slice A2 l2.length c2) ∧ w'.cell? ⟨gbW, 0, none⟩ = some (.slice A3 l3.length c3) ∧ w'.cell? ⟨gbW, 1, none⟩ = some (.slice A4 l4.length c4))) (ds := []) #[false, false, false, false, false, false, false, false, false, false] (by kernel_rfl) rfl rfl ⟨(blk_cell BKB.out 0).trans rfl, (blk_cell BKB.out 1).trans rfl, (blk_cell BKB.out 2).trans rfl, (blk_cell BKW.out 0).trans rfl, (blk_cell BKW.out 1).trans rfl⟩ (fun hHeld => ?_); generalize w4.drew = w5 at BKB BKW HB HZ hHeld ⊢; refine take_ (i := 0) (N := some 28) (v := ?_) (a' := ?_) #[true, false, false, false, false, false, false, false, false, false] rfl rfl (by kernel_rfl) (fun _ _ _ h => h) (Or.inl ⟨by rfl, ?_⟩) hHeld ?_ ?_; rotate_left
  · rintro w' ⟨s0, s1, s2, s3, s4⟩
    go_simp
    with_reducible rfl
  rotate_left
  · simp only [Act.put, List.setIfInBounds_toArray, List.set_cons_zero, List.set_cons_succ]
    rfl
  refine take_ (i := 2) (N := some 30) (v := ?_) (a' := ?_) #[true, false, true, false, false, false, false, false, false, false] rfl rfl (by kernel_rfl) (fun _ _ _ h => h) (Or.inl ⟨by rfl, ?_⟩) hHeld ?_ ?_; rotate_left
  · rintro w' ⟨s0, s1, s2, s3, s4⟩
    go_simp
    with_reducible rfl
  rotate_left
  · simp only [Act.put, List.setIfInBounds_toArray, List.set_cons_zero, List.set_cons_succ]
    rfl
  refine one_ (i := 1) (N := some 29) #[true, true, true, false, false, false, false, false, false, false] rfl rfl (by kernel_rfl) (by decide) (fun K hK => ?_); refine goes_ Tryd.func15 (by kernel_rfl) rfl #[.agg #[.slice A0 l0.length c0, .slice A1 l1.length c1, .slice A2 l2.length c2]] (by rfl) rfl rfl (by simp only [List.map_toArray, List.map_cons, List.map_nil]; rfl) ?_; refine (laws_toBoard.calls k0 _ _ l0 _ _ l1 _ _ l2 l0 l1 l2 _ (Kd.C_below HR0.out HB.out) HC0.out (Kd.C_below HR1.out HB.out) HC1.out (Kd.C_below HR2.out HB.out) HC2.out E0.out).mono ?_; rintro e w6 ⟨va, vb, vc, rfl, ho0, ho1, ho2, hb⟩; refine ⟨_, rfl, ?_⟩; have n_ := Aside0.mk (blk_below BKB.out hb); clear BKB; have BKB := n_; clear n_; have n_ := Aside0.mk (blk_below BKW.out hb); clear BKW; have BKW := n_; clear n_; have n_ := Aside0.mk (below_step HB.out hb); clear HB; have HB := n_; clear n_; have n_ := Aside0.mk (And.intro (hb.size) HZ.out); clear HZ; have HZ := n_; clear n_; clear hb; obtain ⟨A_T0, c_T0, e_T0⟩ := Kd.R_slice ho0; subst e_T0; have T0 := Aside0.mk (R_mk (base := w.heap.size) ho0 (by have z := HZ.out; have g_gbB := G_gbB.out; have l_gbB := L_gbB.out; have g_gbW := G_gbW.out; have l_gbW := L_gbW.out; omega)); clear ho0; obtain ⟨A_T1, c_T1, e_T1⟩ := Kd.R_slice ho1; subst e_T1; have T1 := Aside0.mk (R_mk (base := w.heap.size) ho1 (by have z := HZ.out; have g_gbB := G_gbB.out; have l_gbB := L_gbB.out; have g_gbW := G_gbW.out; have l_gbW := L_gbW.out; omega)); clear ho1; obtain ⟨A_T2, c_T2, e_T2⟩ := Kd.S_slice ho2; subst e_T2; have T2 := Aside0.mk (S_mk (base := w.heap.size) ho2 (by have z := HZ.out; have g_gbB := G_gbB.out; have l_gbB := L_gbB.out; have g_gbW := G_gbW.out; have l_gbW := L_gbW.out; omega)); clear ho2; refine hK.out _ _ ⟨(blk_cell BKB.out 0).trans rfl, (blk_cell BKB.out 1).trans rfl, (blk_cell BKB.out 2).trans rfl, (blk_cell BKW.out 0).trans rfl, (blk_cell BKW.out 1).trans rfl⟩ (fun hHeld => ?_); clear hK K; refine norm_ (a' := ?_) ?_ ?_; rotate_left
  · show Act.put _ (some 29) _ = _
    simp only [Act.put, List.setIfInBounds_toArray, List.set_cons_zero, List.set_cons_succ]
    rfl
  refine one_ (i := 3) (N := some 31) #[true, true, true, true, false, false, false, false, false, false] rfl rfl (by kernel_rfl) (by decide) (fun K hK => ?_); refine goes_ Tryd.func16 (by kernel_rfl) rfl #[.agg #[.slice A3 l3.length c3, .slice A4 l4.length c4]] (by rfl) rfl rfl (by simp only [List.map_toArray, List.map_cons, List.map_nil]; rfl) ?_; refine (laws_toWish.calls k1 _ _ l3 _ _ l4 l3 l4 _ (Kd.C_below HR3.out HB.out) HC3.out (Kd.C_below HR4.out HB.out) HC4.out E1.out).mono ?_; rintro e w7 ⟨va, vb, rfl, ho0, ho1, hb⟩; refine ⟨_, rfl, ?_⟩; have n_ := Aside0.mk (Kd.R_below T0.out hb); clear T0; have T0 := n_; clear n_; have n_ := Aside0.mk (Kd.R_below T1.out hb); clear T1; have T1 := n_; clear n_; have n_ := Aside0.mk (Kd.S_below T2.out hb); clear T2; have T2 := n_; clear n_; have n_ := Aside0.mk (blk_below BKB.out hb); clear BKB; have BKB := n_; clear n_; have n_ := Aside0.mk (blk_below BKW.out hb); clear BKW; have BKW := n_; clear n_; have n_ := Aside0.mk (below_step HB.out hb); clear HB; have HB := n_; clear n_; have n_ := Aside0.mk (And.intro (hb.size) HZ.out); clear HZ; have HZ := n_; clear n_; clear hb; have NE_T := Aside0.mk ho0.1; have ho2 := Kd.R_mono ho0 (fun _ _ => trivial); have ho3 := Kd.R_mono ho1 (fun _ _ => trivial); clear ho0 ho1; obtain ⟨A_T3, c_T3, e_T3⟩ := Kd.R_slice ho2; subst e_T3; have T3 := Aside0.mk (R_mk (base := w.heap.size) ho2 (by have z := HZ.out; have g_gbB := G_gbB.out; have l_gbB := L_gbB.out; have g_gbW := G_gbW.out; have l_gbW := L_gbW.out; omega)); clear ho2; obtain ⟨A_T4, c_T4, e_T4⟩ := Kd.R_slice ho3; subst e_T4; have T4 := Aside0.mk (R_mk (base := w.heap.size) ho3 (by have z := HZ.out; have g_gbB := G_gbB.out; have l_gbB := L_gbB.out; have g_gbW := G_gbW.out; have l_gbW := L_gbW.out; omega)); clear ho3; clear NE_T; refine hK.out _ _ ⟨(blk_cell BKB.out 0).trans rfl, (blk_cell BKB.out 1).trans rfl, (blk_cell BKB.out 2).trans rfl, (blk_cell BKW.out 0).trans rfl, (blk_cell BKW.out 1).trans rfl⟩ (fun hHeld => ?_); clear hK K; refine norm_ (a' := ?_) ?_ ?_; rotate_left
  · show Act.put _ (some 31) _ = _
    simp only [Act.put, List.setIfInBounds_toArray, List.set_cons_zero, List.set_cons_succ]
    rfl
  refine one_ (i := 4) (N := some 32) #[true, true, true, true, true, false, false, false, false, false] rfl rfl (by kernel_rfl) (by decide) (fun K hK => ?_); refine goes_ Tryd.func25 (by kernel_rfl) rfl #[.agg #[.slice A_T0 l0.length c_T0, .slice A_T1 l1.length c_T1, .slice A_T2 l2.length c_T2], .agg #[.slice A_T3 l3.length c_T3, .slice A_T4 l4.length c_T4]] (by rfl) rfl rfl (by simp only [List.map_toArray, List.map_cons, List.map_nil]; rfl) ?_; refine (spec_Strategy.calls k2 _ _ l0 _ _ l1 _ _ l2 _ _ l3 _ _ l4 y b _ (Kd.R_reads' T0.out).2.2 (Kd.R_reads' T0.out).2.1 (Kd.R_reads' T1.out).2.2 (Kd.R_reads' T1.out).2.1 (Kd.S_reads' T2.out).2.2 (Kd.S_reads' T2.out).2.1 (Kd.R_reads' T3.out).2.2 (Kd.R_reads' T3.out).2.1 (Kd.R_reads' T4.out).2.2 (Kd.R_reads' T4.out).2.1 E2.out).mono ?_; rintro e w8 ⟨va, rfl, ho0, hb⟩; refine ⟨_, rfl, ?_⟩; have n_ := Aside0.mk (Kd.R_below T0.out hb); clear T0; have T0 := n_; clear n_; have n_ := Aside0.mk (Kd.R_below T1.out hb); clear T1; have T1 := n_; clear n_; have n_ := Aside0.mk (Kd.S_below T2.out hb); clear T2; have T2 := n_; clear n_; have n_ := Aside0.mk (Kd.R_below T3.out hb); clear T3; have T3 := n_; clear n_; have n_ := Aside0.mk (Kd.R_below T4.out hb); clear T4; have T4 := n_; clear n_; have n_ := Aside0.mk (blk_below BKB.out hb); clear BKB; have BKB := n_; clear n_; have n_ := Aside0.mk (blk_below BKW.out hb); clear BKW; have BKW := n_; clear n_; have n_ := Aside0.mk (below_step HB.out hb); clear HB; have HB := n_; clear n_; have n_ := Aside0.mk (And.intro (hb.size) HZ.out); clear HZ; have HZ := n_; clear n_; clear hb; obtain ⟨A_W0, c_W0, e_W0⟩ := Kd.R_slice ho0; subst e_W0; have W0 := Aside0.mk (R_mk (base := w.heap.size) ho0 (by have z := HZ.out; have g_gbB := G_gbB.out; have l_gbB := L_gbB.out; have g_gbW := G_gbW.out; have l_gbW := L_gbW.out; omega)); clear ho0; refine hK.out _ _ ⟨(blk_cell BKB.out 0).trans rfl, (blk_cell BKB.out 1).trans rfl, (blk_cell BKB.out 2).trans rfl, (blk_cell BKW.out 0).trans rfl, (blk_cell BKW.out 1).trans rfl⟩ (fun hHeld => ?_); clear hK K; refine norm_ (a' := ?_) ?_ ?_; rotate_left
  · show Act.put _ (some 32) _ = _
    simp only [Act.put, List.setIfInBounds_toArray, List.set_cons_zero, List.set_cons_succ]
    rfl
  refine pure_ (i := 5) (N := some 27) (v := ?_) (a' := ?_) #[true, true, true, true, true, true, false, false, false, false] rfl rfl (by kernel_rfl) (fun _ _ _ h => h) (Or.inl ⟨by rfl, ?_⟩) ?_ ?_; rotate_left
  · intro w'
    go_simp
    with_reducible rfl
  rotate_left
  · simp only [Act.put, List.setIfInBounds_toArray, List.set_cons_zero, List.set_cons_succ]
    rfl
  refine pure_ (i := 6) (N := some 33) (v := ?_) (a' := ?_) #[true, true, true, true, true, true, true, false, false, false] rfl rfl (by kernel_rfl) (fun _ _ _ h => h) (Or.inl ⟨by rfl, ?_⟩) ?_ ?_; rotate_left
  · intro w'
    go_simp
    with_reducible rfl
  rotate_left
  · simp only [Act.put, List.setIfInBounds_toArray, List.set_cons_zero, List.set_cons_succ]
    rfl
  refine pure_ (i := 7) (N := some 34) (v := ?_) (a' := ?_) #[true, true, true, true, true, true, true, true, false, false] rfl rfl (by kernel_rfl) (fun _ _ _ h => h) (Or.inl ⟨by rfl, ?_⟩) ?_ ?_; rotate_left
  · intro w'
    go_simp
    with_reducible rfl
  rotate_left
  · simp only [Act.put, List.setIfInBounds_toArray, List.set_cons_zero, List.set_cons_succ]
    rfl
  refine pure_ (i := 8) (N := some 6) (v := ?_) (a' := ?_) #[true, true, true, true, true, true, true, true, true, false] rfl rfl (by kernel_rfl) (fun _ _ _ h => h) (Or.inl ⟨by rfl, ?_⟩) ?_ ?_; rotate_left
  · intro w'
    go_simp
    with_reducible rfl
  rotate_left
  · simp only [Act.put, List.setIfInBounds_toArray, List.set_cons_zero, List.set_cons_succ]
    rfl
  refine pure_ (i := 9) (N := some 7) (v := ?_) (a' := ?_) #[true, true, true, true, true, true, true, true, true, true] rfl rfl (by kernel_rfl) (fun _ _ _ h => h) (Or.inl ⟨by rfl, ?_⟩) ?_ ?_; rotate_left
  · intro w'
    go_simp
    with_reducible rfl
  rotate_left
  · simp only [Act.put, List.setIfInBounds_toArray, List.set_cons_zero, List.set_cons_succ]
    rfl
  refine done_ (by kernel_rfl) ?_; clear T0; clear T1; clear T2; clear T3; clear T4; have zgbB_0 : w8.cell? ⟨gbB, 0, none⟩ = some (.slice A0 l0.length c0) := (blk_cell BKB.out 0).trans rfl; have fgbB_0 := blk_frozen BKB.out 0; have zgbB_1 : w8.cell? ⟨gbB, 1, none⟩ = some (.slice A1 l1.length c1) := (blk_cell BKB.out 1).trans rfl; have fgbB_1 := blk_frozen BKB.out 1; have zgbB_2 : w8.cell? ⟨gbB, 2, none⟩ = some (.slice A2 l2.length c2) := (blk_cell BKB.out 2).trans rfl; have fgbB_2 := blk_frozen BKB.out 2; go_wp2_with fail; go_at_call 15; refine (laws_toBoard.calls k0 _ _ l0 _ _ l1 _ _ l2 l0 l1 l2 _ (Kd.C_below HR0.out HB.out) HC0.out (Kd.C_below HR1.out HB.out) HC1.out (Kd.C_below HR2.out HB.out) HC2.out E0.out).mono ?_; rintro e w9 ⟨va, vb, vc, rfl, ho0, ho1, ho2, hb⟩; have n_ := Aside0.mk (Kd.R_below W0.out hb); clear W0; have W0 := n_; clear n_; have n_ := Aside0.mk (blk_below BKB.out hb); clear BKB; have BKB := n_; clear n_; have n_ := Aside0.mk (blk_below BKW.out hb); clear BKW; have BKW := n_; clear n_; have n_ := Aside0.mk (below_step HB.out hb); clear HB; have HB := n_; clear n_; have n_ := Aside0.mk (And.intro (hb.size) HZ.out); clear HZ; have HZ := n_; clear n_; clear hb; obtain ⟨A_X0, c_X0, e_X0⟩ := Kd.R_slice ho0; subst e_X0; have X0 := Aside0.mk (R_mk (base := w.heap.size) ho0 (by have z := HZ.out; have g_gbB := G_gbB.out; have l_gbB := L_gbB.out; have g_gbW := G_gbW.out; have l_gbW := L_gbW.out; omega)); clear ho0; obtain ⟨A_X1, c_X1, e_X1⟩ := Kd.R_slice ho1; subst e_X1; have X1 := Aside0.mk (R_mk (base := w.heap.size) ho1 (by have z := HZ.out; have g_gbB := G_gbB.out; have l_gbB := L_gbB.out; have g_gbW := G_gbW.out; have l_gbW := L_gbW.out; omega)); clear ho1; obtain ⟨A_X2, c_X2, e_X2⟩ := Kd.S_slice ho2; subst e_X2; have X2 := Aside0.mk (S_mk (base := w.heap.size) ho2 (by have z := HZ.out; have g_gbB := G_gbB.out; have l_gbB := L_gbB.out; have g_gbW := G_gbW.out; have l_gbW := L_gbW.out; omega)); clear ho2; clear zgbB_0 fgbB_0 zgbB_1 fgbB_1 zgbB_2 fgbB_2; go_wp2_with (first | ((with_reducible refine gate_dst (N := 8) rfl ?_); refine box_event ?hg (N := 8) ?hd (cs := #[.slice none 0 0, .slice none 0 0, .slice none 0 0]) (t := 34) ?hr ?_; (case hd => rfl); (case hg => rfl); (case hr => first | (go_simp; done) | (go_simp; rfl)); intro gbX hg w10 hbox hb; have G_gbX := Aside0.mk hg; clear hg; have n_ := Aside0.mk (Kd.R_below W0.out hb); clear W0; have W0 := n_; clear n_; have n_ := Aside0.mk (Kd.R_below X0.out hb); clear X0; have X0 := n_; clear n_; have n_ := Aside0.mk (Kd.R_below X1.out hb); clear X1; have X1 := n_; clear n_; have n_ := Aside0.mk (Kd.S_below X2.out hb); clear X2; have X2 := n_; clear n_; have n_ := Aside0.mk (blk_below BKB.out hb); clear BKB; have BKB := n_; clear n_; have n_ := Aside0.mk (blk_below BKW.out hb); clear BKW; have BKW := n_; clear n_; have n_ := Aside0.mk (below_step HB.out hb); clear HB; have HB := n_; clear n_; have n_ := Aside0.mk (And.intro (hb.size) HZ.out); clear HZ; have HZ := n_; clear n_; have BKX := Aside0.mk hbox; have L_gbX := Aside0.mk (blk_lt hbox); clear hb hbox; have zgbX_0 : w10.cell? ⟨gbX, 0, none⟩ = some (.slice none 0 0) := (blk_cell BKX.out 0).trans rfl; have fgbX_0 := blk_frozen BKX.out 0; have zgbX_1 : w10.cell? ⟨gbX, 1, none⟩ = some (.slice none 0 0) := (blk_cell BKX.out 1).trans rfl; have fgbX_1 := blk_frozen BKX.out 1; have zgbX_2 : w10.cell? ⟨gbX, 2, none⟩ = some (.slice none 0 0) := (blk_cell BKX.out 2).trans rfl; have fgbX_2 := blk_frozen BKX.out 2; have zgbW_0 : w10.cell? ⟨gbW, 0, none⟩ = some (.slice A3 l3.length c3) := (blk_cell BKW.out 0).trans rfl; have fgbW_0 := blk_frozen BKW.out 0; have zgbW_1 : w10.cell? ⟨gbW, 1, none⟩ = some (.slice A4 l4.length c4) := (blk_cell BKW.out 1).trans rfl; have fgbW_1 := blk_frozen BKW.out 1; have ngbW_gbX : gbW ≠ gbX := (by have z := HZ.out; have g_gbB := G_gbB.out; have l_gbB := L_gbB.out; have g_gbW := G_gbW.out; have l_gbW := L_gbW.out; have g_gbX := G_gbX.out; have l_gbX := L_gbX.out; omega); have ngbX_gbW : gbX ≠ gbW := (by have z := HZ.out; have g_gbB := G_gbB.out; have l_gbB := L_gbB.out; have g_gbW := G_gbW.out; have l_gbW := L_gbW.out; have g_gbX := G_gbX.out; have l_gbX := L_gbX.out; omega)))
  go_wp2_with fail; have hk := kept_three (W := w10) (g := gbX) (.slice A_X0 l0.length c_X0) (.slice A_X1 l1.length c_X1) (.slice A_X2 l2.length c_X2) 0 1 2; have hb2 : Below w.heap.size w (((w10.setCell ⟨gbX, 0, none⟩ (.slice A_X0 l0.length c_X0)).setCell ⟨gbX, 1, none⟩ (.slice A_X1 l1.length c_X1)).setCell ⟨gbX, 2, none⟩ (.slice A_X2 l2.length c_X2)) := (below_set (below_set (below_set HB.out (by have z := HZ.out; have g_gbB := G_gbB.out; have l_gbB := L_gbB.out; have g_gbW := G_gbW.out; have l_gbW := L_gbW.out; have g_gbX := G_gbX.out; have l_gbX := L_gbX.out; omega)) (by have z := HZ.out; have g_gbB := G_gbB.out; have l_gbB := L_gbB.out; have g_gbW := G_gbW.out; have l_gbW := L_gbW.out; have g_gbX := G_gbX.out; have l_gbX := L_gbX.out; omega)) (by have z := HZ.out; have g_gbB := G_gbB.out; have l_gbB := L_gbB.out; have g_gbW := G_gbW.out; have l_gbW := L_gbW.out; have g_gbX := G_gbX.out; have l_gbX := L_gbX.out; omega)); have hnew : (((w10.setCell ⟨gbX, 0, none⟩ (.slice A_X0 l0.length c_X0)).setCell ⟨gbX, 1, none⟩ (.slice A_X1 l1.length c_X1)).setCell ⟨gbX, 2, none⟩ (.slice A_X2 l2.length c_X2)).heap[gbX]? = some (.cells #[.slice A_X0 l0.length c_X0, .slice A_X1 l1.length c_X1, .slice A_X2 l2.length c_X2] 34 (0, 0)) := (blk_put (cs := #[.slice A_X0 l0.length c_X0, .slice A_X1 l1.length c_X1, .slice none 0 0]) (blk_put (cs := #[.slice A_X0 l0.length c_X0, .slice none 0 0, .slice none 0 0]) (blk_put (cs := #[.slice none 0 0, .slice none 0 0, .slice none 0 0]) BKX.out 0 _ rfl) 1 _ rfl) 2 _ rfl); clear zgbX_0 fgbX_0 zgbX_1 fgbX_1 zgbX_2 fgbX_2 zgbW_0 fgbW_0 zgbW_1 fgbW_1 ngbW_gbX ngbX_gbW; generalize (((w10.setCell ⟨gbX, 0, none⟩ (.slice A_X0 l0.length c_X0)).setCell ⟨gbX, 1, none⟩ (.slice A_X1 l1.length c_X1)).setCell ⟨gbX, 2, none⟩ (.slice A_X2 l2.length c_X2)) = w11 at hk hb2 hnew ⊢; clear BKX; have n_ := Aside0.mk (R_iv W0.out hk (by have z := HZ.out; have g_gbB := G_gbB.out; have l_gbB := L_gbB.out; have g_gbW := G_gbW.out; have l_gbW := L_gbW.out; have g_gbX := G_gbX.out; have l_gbX := L_gbX.out; omega)); clear W0; have W0 := n_; clear n_; have n_ := Aside0.mk (R_iv X0.out hk (by have z := HZ.out; have g_gbB := G_gbB.out; have l_gbB := L_gbB.out; have g_gbW := G_gbW.out; have l_gbW := L_gbW.out; have g_gbX := G_gbX.out; have l_gbX := L_gbX.out; omega)); clear X0; have X0 := n_; clear n_; have n_ := Aside0.mk (R_iv X1.out hk (by have z := HZ.out; have g_gbB := G_gbB.out; have l_gbB := L_gbB.out; have g_gbW := G_gbW.out; have l_gbW := L_gbW.out; have g_gbX := G_gbX.out; have l_gbX := L_gbX.out; omega)); clear X1; have X1 := n_; clear n_; have n_ := Aside0.mk (S_iv X2.out hk (by have z := HZ.out; have g_gbB := G_gbB.out; have l_gbB := L_gbB.out; have g_gbW := G_gbW.out; have l_gbW := L_gbW.out; have g_gbX := G_gbX.out; have l_gbX := L_gbX.out; omega)); clear X2; have X2 := n_; clear n_; have n_ := Aside0.mk (blk_iv BKB.out hk (by have z := HZ.out; have g_gbB := G_gbB.out; have l_gbB := L_gbB.out; have g_gbW := G_gbW.out; have l_gbW := L_gbW.out; have g_gbX := G_gbX.out; have l_gbX := L_gbX.out; omega)); clear BKB; have BKB := n_; clear n_; have n_ := Aside0.mk (blk_iv BKW.out hk (by have z := HZ.out; have g_gbB := G_gbB.out; have l_gbB := L_gbB.out; have g_gbW := G_gbW.out; have l_gbW := L_gbW.out; have g_gbX := G_gbX.out; have l_gbX := L_gbX.out; omega)); clear BKW; have BKW := n_; clear n_; have n_ := Aside0.mk (hb2); clear HB; have HB := n_; clear n_; have n_ := Aside0.mk (And.intro (hk.1) HZ.out); clear HZ; have HZ := n_; clear n_; have BKX := Aside0.mk hnew; clear hk hb2 hnew; go_wp2_with fail; go_at_call 16; refine (laws_toWish.calls k1 _ _ l3 _ _ l4 l3 l4 _ (Kd.C_below HR3.out HB.out) HC3.out (Kd.C_below HR4.out HB.out) HC4.out E1.out).mono ?_; rintro e w12 ⟨va, vb, rfl, ho0, ho1, hb⟩; have n_ := Aside0.mk (Kd.R_below W0.out hb); clear W0; have W0 := n_; clear n_; have n_ := Aside0.mk (Kd.R_below X0.out hb); clear X0; have X0 := n_; clear n_; have n_ := Aside0.mk (Kd.R_below X1.out hb); clear X1; have X1 := n_; clear n_
  have n_ := Aside0.mk (Kd.S_below X2.out hb); clear X2; have X2 := n_; clear n_; have n_ := Aside0.mk (blk_below BKB.out hb); clear BKB; have BKB := n_; clear n_; have n_ := Aside0.mk (blk_below BKW.out hb); clear BKW; have BKW := n_; clear n_; have n_ := Aside0.mk (blk_below BKX.out hb); clear BKX; have BKX := n_; clear n_; have n_ := Aside0.mk (below_step HB.out hb); clear HB; have HB := n_; clear n_; have n_ := Aside0.mk (And.intro (hb.size) HZ.out); clear HZ; have HZ := n_; clear n_; clear hb; have NE_X := Aside0.mk ho0.1; have ho2 := Kd.R_mono ho0 (fun _ _ => trivial); have ho3 := Kd.R_mono ho1 (fun _ _ => trivial); clear ho0 ho1; obtain ⟨A_X3, c_X3, e_X3⟩ := Kd.R_slice ho2; subst e_X3; have X3 := Aside0.mk (R_mk (base := w.heap.size) ho2 (by have z := HZ.out; have g_gbB := G_gbB.out; have l_gbB := L_gbB.out; have g_gbW := G_gbW.out; have l_gbW := L_gbW.out; have g_gbX := G_gbX.out; have l_gbX := L_gbX.out; omega)); clear ho2; obtain ⟨A_X4, c_X4, e_X4⟩ := Kd.R_slice ho3; subst e_X4; have X4 := Aside0.mk (R_mk (base := w.heap.size) ho3 (by have z := HZ.out; have g_gbB := G_gbB.out; have l_gbB := L_gbB.out; have g_gbW := G_gbW.out; have l_gbW := L_gbW.out; have g_gbX := G_gbX.out; have l_gbX := L_gbX.out; omega)); clear ho3; go_wp2_with (first | ((with_reducible refine gate_dst (N := 9) rfl ?_); refine box_event ?hg (N := 9) ?hd (cs := #[.slice none 0 0, .slice none 0 0]) (t := 36) ?hr ?_; (case hd => rfl); (case hg => rfl); (case hr => first | (go_simp; done) | (go_simp; rfl)); intro gbY hg w13 hbox hb; have G_gbY := Aside0.mk hg; clear hg; have n_ := Aside0.mk (Kd.R_below W0.out hb); clear W0; have W0 := n_; clear n_; have n_ := Aside0.mk (Kd.R_below X0.out hb); clear X0; have X0 := n_; clear n_; have n_ := Aside0.mk (Kd.R_below X1.out hb); clear X1; have X1 := n_; clear n_; have n_ := Aside0.mk (Kd.S_below X2.out hb); clear X2; have X2 := n_; clear n_; have n_ := Aside0.mk (Kd.R_below X3.out hb); clear X3; have X3 := n_; clear n_; have n_ := Aside0.mk (Kd.R_below X4.out hb); clear X4; have X4 := n_; clear n_; have n_ := Aside0.mk (blk_below BKB.out hb); clear BKB; have BKB := n_; clear n_; have n_ := Aside0.mk (blk_below BKW.out hb); clear BKW; have BKW := n_; clear n_; have n_ := Aside0.mk (blk_below BKX.out hb); clear BKX; have BKX := n_; clear n_; have n_ := Aside0.mk (below_step HB.out hb); clear HB; have HB := n_; clear n_; have n_ := Aside0.mk (And.intro (hb.size) HZ.out); clear HZ; have HZ := n_; clear n_; have BKY := Aside0.mk hbox; have L_gbY := Aside0.mk (blk_lt hbox); clear hb hbox; have zgbY_0 : w13.cell? ⟨gbY, 0, none⟩ = some (.slice none 0 0) := (blk_cell BKY.out 0).trans rfl; have fgbY_0 := blk_frozen BKY.out 0; have zgbY_1 : w13.cell? ⟨gbY, 1, none⟩ = some (.slice none 0 0) := (blk_cell BKY.out 1).trans rfl; have fgbY_1 := blk_frozen BKY.out 1; have zgbX_0 : w13.cell? ⟨gbX, 0, none⟩ = some (.slice A_X0 l0.length c_X0) := (blk_cell BKX.out 0).trans rfl; have fgbX_0 := blk_frozen BKX.out 0; have zgbX_1 : w13.cell? ⟨gbX, 1, none⟩ = some (.slice A_X1 l1.length c_X1) := (blk_cell BKX.out 1).trans rfl; have fgbX_1 := blk_frozen BKX.out 1; have zgbX_2 : w13.cell? ⟨gbX, 2, none⟩ = some (.slice A_X2 l2.length c_X2) := (blk_cell BKX.out 2).trans rfl; have fgbX_2 := blk_frozen BKX.out 2; have ngbX_gbY : gbX ≠ gbY := (by have z := HZ.out; have g_gbB := G_gbB.out; have l_gbB := L_gbB.out; have g_gbW := G_gbW.out; have l_gbW := L_gbW.out; have g_gbX := G_gbX.out; have l_gbX := L_gbX.out; have g_gbY := G_gbY.out; have l_gbY := L_gbY.out; omega); have ngbY_gbX : gbY ≠ gbX := (by have z := HZ.out; have g_gbB := G_gbB.out; have l_gbB := L_gbB.out; have g_gbW := G_gbW.out; have l_gbW := L_gbW.out; have g_gbX := G_gbX.out; have l_gbX := L_gbX.out; have g_gbY := G_gbY.out; have l_gbY := L_gbY.out; omega))); go_wp2_with fail; have hk := kept_two (W := w13) (g := gbY) (.slice A_X3 l3.length c_X3) (.slice A_X4 l4.length c_X4) 0 1; have hb2 : Below w.heap.size w ((w13.setCell ⟨gbY, 0, none⟩ (.slice A_X3 l3.length c_X3)).setCell ⟨gbY, 1, none⟩ (.slice A_X4 l4.length c_X4)) := (below_set (below_set HB.out (by have z := HZ.out; have g_gbB := G_gbB.out; have l_gbB := L_gbB.out; have g_gbW := G_gbW.out; have l_gbW := L_gbW.out; have g_gbX := G_gbX.out; have l_gbX := L_gbX.out; have g_gbY := G_gbY.out; have l_gbY := L_gbY.out; omega)) (by have z := HZ.out; have g_gbB := G_gbB.out; have l_gbB := L_gbB.out; have g_gbW := G_gbW.out; have l_gbW := L_gbW.out; have g_gbX := G_gbX.out; have l_gbX := L_gbX.out; have g_gbY := G_gbY.out; have l_gbY := L_gbY.out; omega))
  have hnew : ((w13.setCell ⟨gbY, 0, none⟩ (.slice A_X3 l3.length c_X3)).setCell ⟨gbY, 1, none⟩ (.slice A_X4 l4.length c_X4)).heap[gbY]? = some (.cells #[.slice A_X3 l3.length c_X3, .slice A_X4 l4.length c_X4] 36 (0, 0)) := (blk_put (cs := #[.slice A_X3 l3.length c_X3, .slice none 0 0]) (blk_put (cs := #[.slice none 0 0, .slice none 0 0]) BKY.out 0 _ rfl) 1 _ rfl); clear zgbY_0 fgbY_0 zgbY_1 fgbY_1 zgbX_0 fgbX_0 zgbX_1 fgbX_1 zgbX_2 fgbX_2 ngbX_gbY ngbY_gbX; generalize ((w13.setCell ⟨gbY, 0, none⟩ (.slice A_X3 l3.length c_X3)).setCell ⟨gbY, 1, none⟩ (.slice A_X4 l4.length c_X4)) = w14 at hk hb2 hnew ⊢; clear BKY; have n_ := Aside0.mk (R_iv W0.out hk (by have z := HZ.out; have g_gbB := G_gbB.out; have l_gbB := L_gbB.out; have g_gbW := G_gbW.out; have l_gbW := L_gbW.out; have g_gbX := G_gbX.out; have l_gbX := L_gbX.out; have g_gbY := G_gbY.out; have l_gbY := L_gbY.out; omega)); clear W0; have W0 := n_; clear n_; have n_ := Aside0.mk (R_iv X0.out hk (by have z := HZ.out; have g_gbB := G_gbB.out; have l_gbB := L_gbB.out; have g_gbW := G_gbW.out; have l_gbW := L_gbW.out; have g_gbX := G_gbX.out; have l_gbX := L_gbX.out; have g_gbY := G_gbY.out; have l_gbY := L_gbY.out; omega)); clear X0; have X0 := n_; clear n_; have n_ := Aside0.mk (R_iv X1.out hk (by have z := HZ.out; have g_gbB := G_gbB.out; have l_gbB := L_gbB.out; have g_gbW := G_gbW.out; have l_gbW := L_gbW.out; have g_gbX := G_gbX.out; have l_gbX := L_gbX.out; have g_gbY := G_gbY.out; have l_gbY := L_gbY.out; omega)); clear X1; have X1 := n_; clear n_; have n_ := Aside0.mk (S_iv X2.out hk (by have z := HZ.out; have g_gbB := G_gbB.out; have l_gbB := L_gbB.out; have g_gbW := G_gbW.out; have l_gbW := L_gbW.out; have g_gbX := G_gbX.out; have l_gbX := L_gbX.out; have g_gbY := G_gbY.out; have l_gbY := L_gbY.out; omega)); clear X2; have X2 := n_; clear n_; have n_ := Aside0.mk (R_iv X3.out hk (by have z := HZ.out; have g_gbB := G_gbB.out; have l_gbB := L_gbB.out; have g_gbW := G_gbW.out; have l_gbW := L_gbW.out; have g_gbX := G_gbX.out; have l_gbX := L_gbX.out; have g_gbY := G_gbY.out; have l_gbY := L_gbY.out; omega)); clear X3; have X3 := n_; clear n_; have n_ := Aside0.mk (R_iv X4.out hk (by have z := HZ.out; have g_gbB := G_gbB.out; have l_gbB := L_gbB.out; have g_gbW := G_gbW.out; have l_gbW := L_gbW.out; have g_gbX := G_gbX.out; have l_gbX := L_gbX.out; have g_gbY := G_gbY.out; have l_gbY := L_gbY.out; omega)); clear X4; have X4 := n_; clear n_; have n_ := Aside0.mk (blk_iv BKB.out hk (by have z := HZ.out; have g_gbB := G_gbB.out; have l_gbB := L_gbB.out; have g_gbW := G_gbW.out; have l_gbW := L_gbW.out; have g_gbX := G_gbX.out; have l_gbX := L_gbX.out; have g_gbY := G_gbY.out; have l_gbY := L_gbY.out; omega)); clear BKB; have BKB := n_; clear n_; have n_ := Aside0.mk (blk_iv BKW.out hk (by have z := HZ.out; have g_gbB := G_gbB.out; have l_gbB := L_gbB.out; have g_gbW := G_gbW.out; have l_gbW := L_gbW.out; have g_gbX := G_gbX.out; have l_gbX := L_gbX.out; have g_gbY := G_gbY.out; have l_gbY := L_gbY.out; omega)); clear BKW; have BKW := n_; clear n_; have n_ := Aside0.mk (blk_iv BKX.out hk (by have z := HZ.out; have g_gbB := G_gbB.out; have l_gbB := L_gbB.out; have g_gbW := G_gbW.out; have l_gbW := L_gbW.out; have g_gbX := G_gbX.out; have l_gbX := L_gbX.out; have g_gbY := G_gbY.out; have l_gbY := L_gbY.out; omega)); clear BKX; have BKX := n_; clear n_; have n_ := Aside0.mk (hb2); clear HB; have HB := n_; clear n_; have n_ := Aside0.mk (And.intro (hk.1) HZ.out); clear HZ; have HZ := n_; clear n_; have BKY := Aside0.mk hnew; clear hk hb2 hnew; go_wp2_with fail; go_at_call 26; refine (impl_Strategy.calls k3 _ _ l0 _ _ l1 _ _ l2 _ _ l3 _ _ l4 y b _ (Kd.R_reads' X0.out).2.2 (Kd.R_reads' X0.out).2.1 (Kd.R_reads' X1.out).2.2 (Kd.R_reads' X1.out).2.1 (Kd.S_reads' X2.out).2.2 (Kd.S_reads' X2.out).2.1 (Kd.R_reads' X3.out).2.2 (Kd.R_reads' X3.out).2.1 (Kd.R_reads' X4.out).2.2 (Kd.R_reads' X4.out).2.1 E3.out).mono ?_; rintro e w15 ⟨va, rfl, ho0, hb⟩; have n_ := Aside0.mk (Kd.R_below W0.out hb)
  clear W0; have W0 := n_; clear n_; have n_ := Aside0.mk (Kd.R_below X0.out hb); clear X0; have X0 := n_; clear n_; have n_ := Aside0.mk (Kd.R_below X1.out hb); clear X1; have X1 := n_; clear n_; have n_ := Aside0.mk (Kd.S_below X2.out hb); clear X2; have X2 := n_; clear n_; have n_ := Aside0.mk (Kd.R_below X3.out hb); clear X3; have X3 := n_; clear n_; have n_ := Aside0.mk (Kd.R_below X4.out hb); clear X4; have X4 := n_; clear n_; have n_ := Aside0.mk (blk_below BKB.out hb); clear BKB; have BKB := n_; clear n_; have n_ := Aside0.mk (blk_below BKW.out hb); clear BKW; have BKW := n_; clear n_; have n_ := Aside0.mk (blk_below BKX.out hb); clear BKX; have BKX := n_; clear n_; have n_ := Aside0.mk (blk_below BKY.out hb); clear BKY; have BKY := n_; clear n_; have n_ := Aside0.mk (below_step HB.out hb); clear HB; have HB := n_; clear n_; have n_ := Aside0.mk (And.intro (hb.size) HZ.out); clear HZ; have HZ := n_; clear n_; clear hb; obtain ⟨A_G, c_G, e_G⟩ := Kd.R_slice ho0; subst e_G; have G := Aside0.mk (R_mk (base := w.heap.size) ho0 (by have z := HZ.out; have g_gbB := G_gbB.out; have l_gbB := L_gbB.out; have g_gbW := G_gbW.out; have l_gbW := L_gbW.out; have g_gbX := G_gbX.out; have l_gbX := L_gbX.out; have g_gbY := G_gbY.out; have l_gbY := L_gbY.out; omega)); clear ho0; go_wp2_with fail; go_at_call 18; refine (laws_eqIntS.calls k4 _ _ y _ _ y true _ (Kd.R_reads' G.out).2.2 (Kd.R_reads' G.out).2.1 (Kd.R_reads' W0.out).2.2 (Kd.R_reads' W0.out).2.1 E4.out).mono ?_; rintro e w16 ⟨rfl, hd⟩; have hb := drawn_below hd; clear hd; have n_ := Aside0.mk (Kd.R_below W0.out hb); clear W0; have W0 := n_; clear n_; have n_ := Aside0.mk (Kd.R_below X0.out hb); clear X0; have X0 := n_; clear n_; have n_ := Aside0.mk (Kd.R_below X1.out hb); clear X1; have X1 := n_; clear n_; have n_ := Aside0.mk (Kd.S_below X2.out hb); clear X2; have X2 := n_; clear n_; have n_ := Aside0.mk (Kd.R_below X3.out hb); clear X3; have X3 := n_; clear n_; have n_ := Aside0.mk (Kd.R_below X4.out hb); clear X4; have X4 := n_; clear n_; have n_ := Aside0.mk (Kd.R_below G.out hb); clear G; have G := n_; clear n_; have n_ := Aside0.mk (blk_below BKB.out hb); clear BKB; have BKB := n_; clear n_; have n_ := Aside0.mk (blk_below BKW.out hb); clear BKW; have BKW := n_; clear n_; have n_ := Aside0.mk (blk_below BKX.out hb); clear BKX; have BKX := n_; clear n_; have n_ := Aside0.mk (blk_below BKY.out hb); clear BKY; have BKY := n_; clear n_; have n_ := Aside0.mk (below_step HB.out hb); clear HB; have HB := n_; clear n_; have n_ := Aside0.mk (And.intro (hb.size) HZ.out); clear HZ; have HZ := n_; clear n_; clear hb; go_wp2_with fail; have hb : Below w16.heap.size w16 w16.drew := below_drew (Below.refl _ _); have n_ := Aside0.mk (Kd.R_below W0.out hb); clear W0; have W0 := n_; clear n_; have n_ := Aside0.mk (Kd.R_below X0.out hb); clear X0; have X0 := n_; clear n_; have n_ := Aside0.mk (Kd.R_below X1.out hb); clear X1; have X1 := n_; clear n_; have n_ := Aside0.mk (Kd.S_below X2.out hb); clear X2; have X2 := n_; clear n_; have n_ := Aside0.mk (Kd.R_below X3.out hb); clear X3; have X3 := n_; clear n_; have n_ := Aside0.mk (Kd.R_below X4.out hb); clear X4; have X4 := n_; clear n_; have n_ := Aside0.mk (Kd.R_below G.out hb); clear G; have G := n_; clear n_; have n_ := Aside0.mk (blk_below BKB.out hb); clear BKB; have BKB := n_; clear n_; have n_ := Aside0.mk (blk_below BKW.out hb); clear BKW; have BKW := n_; clear n_; have n_ := Aside0.mk (blk_below BKX.out hb); clear BKX; have BKX := n_; clear n_; have n_ := Aside0.mk (blk_below BKY.out hb); clear BKY; have BKY := n_; clear n_; have n_ := Aside0.mk (below_step HB.out hb); clear HB; have HB := n_; clear n_; have n_ := Aside0.mk (And.intro (hb.size) HZ.out); clear HZ; have HZ := n_; clear n_; clear hb; refine start_ (n := 5) (S := (fun w' => w'.cell? ⟨gbX, 0, none⟩ = some (.slice A_X0 l0.length c_X0) ∧ w'.cell? ⟨gbX, 1, none⟩ = some (.slice A_X1 l1.length c_X1) ∧ w'.cell? ⟨gbX, 2, none⟩ = some (.slice A_X2 l2.length c_X2) ∧ w'.cell? ⟨gbB, 0, none⟩ = some (.slice A0 l0.length c0) ∧ w'.cell? ⟨gbB, 1, none⟩ = some (.slice A1 l1.length c1) ∧ w'.cell? ⟨gbB, 2, none⟩ = some (.slice A2 l2.length c2))) (ds := []) #[false, false, false, false, false] (by kernel_rfl) rfl rfl ⟨(blk_cell BKX.out 0).trans rfl, (blk_cell BKX.out 1).trans rfl, (blk_cell BKX.out 2).trans rfl, (blk_cell BKB.out 0).trans rfl, (blk_cell BKB.out 1).trans rfl, (blk_cell BKB.out 2).trans rfl⟩ (fun hHeld => ?_)
  generalize w16.drew = w17 at W0 X0 X1 X2 X3 X4 G BKB BKW BKX BKY HB HZ hHeld ⊢; refine take_ (i := 0) (N := some 54) (v := ?_) (a' := ?_) #[true, false, false, false, false] rfl rfl (by kernel_rfl) (fun _ _ _ h => h) (Or.inl ⟨by rfl, ?_⟩) hHeld ?_ ?_; rotate_left
  · rintro w' ⟨s0, s1, s2, s3, s4, s5⟩
    go_simp
    with_reducible rfl
  rotate_left
  · simp only [Act.put, List.setIfInBounds_toArray, List.set_cons_zero, List.set_cons_succ]
    rfl
  refine take_ (i := 1) (N := some 55) (v := ?_) (a' := ?_) #[true, true, false, false, false] rfl rfl (by kernel_rfl) (fun _ _ _ h => h) (Or.inl ⟨by rfl, ?_⟩) hHeld ?_ ?_; rotate_left
  · rintro w' ⟨s0, s1, s2, s3, s4, s5⟩
    go_simp
    with_reducible rfl
  rotate_left
  · simp only [Act.put, List.setIfInBounds_toArray, List.set_cons_zero, List.set_cons_succ]
    rfl
  refine one_ (i := 2) (N := some 56) #[true, true, true, false, false] rfl rfl (by kernel_rfl) (by decide) (fun K hK => ?_); refine goes_ Tryd.func15 (by kernel_rfl) rfl #[.agg #[.slice A0 l0.length c0, .slice A1 l1.length c1, .slice A2 l2.length c2]] (by rfl) rfl rfl (by simp only [List.map_toArray, List.map_cons, List.map_nil]; rfl) ?_; refine (laws_toBoard.calls k0 _ _ l0 _ _ l1 _ _ l2 l0 l1 l2 _ (Kd.C_below HR0.out HB.out) HC0.out (Kd.C_below HR1.out HB.out) HC1.out (Kd.C_below HR2.out HB.out) HC2.out E0.out).mono ?_; rintro e w18 ⟨va, vb, vc, rfl, ho0, ho1, ho2, hb⟩; refine ⟨_, rfl, ?_⟩; have n_ := Aside0.mk (Kd.R_below W0.out hb); clear W0; have W0 := n_; clear n_; have n_ := Aside0.mk (Kd.R_below X0.out hb); clear X0; have X0 := n_; clear n_; have n_ := Aside0.mk (Kd.R_below X1.out hb); clear X1; have X1 := n_; clear n_; have n_ := Aside0.mk (Kd.S_below X2.out hb); clear X2; have X2 := n_; clear n_; have n_ := Aside0.mk (Kd.R_below X3.out hb); clear X3; have X3 := n_; clear n_; have n_ := Aside0.mk (Kd.R_below X4.out hb); clear X4; have X4 := n_; clear n_; have n_ := Aside0.mk (Kd.R_below G.out hb); clear G; have G := n_; clear n_; have n_ := Aside0.mk (blk_below BKB.out hb); clear BKB; have BKB := n_; clear n_; have n_ := Aside0.mk (blk_below BKW.out hb); clear BKW; have BKW := n_; clear n_; have n_ := Aside0.mk (blk_below BKX.out hb); clear BKX; have BKX := n_; clear n_; have n_ := Aside0.mk (blk_below BKY.out hb); clear BKY; have BKY := n_; clear n_; have n_ := Aside0.mk (below_step HB.out hb); clear HB; have HB := n_; clear n_; have n_ := Aside0.mk (And.intro (hb.size) HZ.out); clear HZ; have HZ := n_; clear n_; clear hb; obtain ⟨A_V0, c_V0, e_V0⟩ := Kd.R_slice ho0; subst e_V0; have V0 := Aside0.mk (R_mk (base := w.heap.size) ho0 (by have z := HZ.out; have g_gbB := G_gbB.out; have l_gbB := L_gbB.out; have g_gbW := G_gbW.out; have l_gbW := L_gbW.out; have g_gbX := G_gbX.out; have l_gbX := L_gbX.out; have g_gbY := G_gbY.out; have l_gbY := L_gbY.out; omega)); clear ho0; obtain ⟨A_V1, c_V1, e_V1⟩ := Kd.R_slice ho1; subst e_V1; have V1 := Aside0.mk (R_mk (base := w.heap.size) ho1 (by have z := HZ.out; have g_gbB := G_gbB.out; have l_gbB := L_gbB.out; have g_gbW := G_gbW.out; have l_gbW := L_gbW.out; have g_gbX := G_gbX.out; have l_gbX := L_gbX.out; have g_gbY := G_gbY.out; have l_gbY := L_gbY.out; omega)); clear ho1; obtain ⟨A_V2, c_V2, e_V2⟩ := Kd.S_slice ho2; subst e_V2; have V2 := Aside0.mk (S_mk (base := w.heap.size) ho2 (by have z := HZ.out; have g_gbB := G_gbB.out; have l_gbB := L_gbB.out; have g_gbW := G_gbW.out; have l_gbW := L_gbW.out; have g_gbX := G_gbX.out; have l_gbX := L_gbX.out; have g_gbY := G_gbY.out; have l_gbY := L_gbY.out; omega)); clear ho2; refine hK.out _ _ ⟨(blk_cell BKX.out 0).trans rfl, (blk_cell BKX.out 1).trans rfl, (blk_cell BKX.out 2).trans rfl, (blk_cell BKB.out 0).trans rfl, (blk_cell BKB.out 1).trans rfl, (blk_cell BKB.out 2).trans rfl⟩ (fun hHeld => ?_); clear hK K; refine norm_ (a' := ?_) ?_ ?_; rotate_left
  · show Act.put _ (some 56) _ = _
    simp only [Act.put, List.setIfInBounds_toArray, List.set_cons_zero, List.set_cons_succ]
    rfl
  refine one_ (i := 3) (N := some 57) #[true, true, true, true, false] rfl rfl (by kernel_rfl) (by decide) (fun K hK => ?_); refine goes_ Tryd.func19 (by kernel_rfl) rfl #[.agg #[.slice A_X0 l0.length c_X0, .slice A_X1 l1.length c_X1, .slice A_X2 l2.length c_X2], .agg #[.slice A_V0 l0.length c_V0, .slice A_V1 l1.length c_V1, .slice A_V2 l2.length c_V2]] (by rfl) rfl rfl (by simp only [List.map_toArray, List.map_cons, List.map_nil]; rfl) ?_; refine (laws_eqBoard.calls k5 _ _ l0 _ _ l1 _ _ l2 _ _ l0 _ _ l1 _ _ l2 true _ (Kd.R_reads' X0.out).2.2 (Kd.R_reads' X0.out).2.1 (Kd.R_reads' X1.out).2.2 (Kd.R_reads' X1.out).2.1 (Kd.S_reads' X2.out).2.2 (Kd.S_reads' X2.out).2.1 (Kd.R_reads' V0.out).2.2 (Kd.R_reads' V0.out).2.1 (Kd.R_reads' V1.out).2.2 (Kd.R_reads' V1.out).2.1 (Kd.S_reads' V2.out).2.2 (Kd.S_reads' V2.out).2.1 E5.out).mono ?_; rintro e w19 ⟨rfl, hb⟩; refine ⟨_, rfl, ?_⟩; have n_ := Aside0.mk (Kd.R_below W0.out hb); clear W0; have W0 := n_; clear n_; have n_ := Aside0.mk (Kd.R_below X0.out hb); clear X0; have X0 := n_; clear n_; have n_ := Aside0.mk (Kd.R_below X1.out hb); clear X1; have X1 := n_; clear n_; have n_ := Aside0.mk (Kd.S_below X2.out hb); clear X2; have X2 := n_; clear n_; have n_ := Aside0.mk (Kd.R_below X3.out hb); clear X3; have X3 := n_; clear n_; have n_ := Aside0.mk (Kd.R_below X4.out hb); clear X4; have X4 := n_; clear n_; have n_ := Aside0.mk (Kd.R_below G.out hb); clear G; have G := n_; clear n_; have n_ := Aside0.mk (Kd.R_below V0.out hb); clear V0; have V0 := n_; clear n_; have n_ := Aside0.mk (Kd.R_below V1.out hb); clear V1; have V1 := n_; clear n_; have n_ := Aside0.mk (Kd.S_below V2.out hb); clear V2; have V2 := n_; clear n_; have n_ := Aside0.mk (blk_below BKB.out hb); clear BKB; have BKB := n_; clear n_; have n_ := Aside0.mk (blk_below BKW.out hb); clear BKW; have BKW := n_; clear n_; have n_ := Aside0.mk (blk_below BKX.out hb); clear BKX; have BKX := n_; clear n_; have n_ := Aside0.mk (blk_below BKY.out hb); clear BKY; have BKY := n_; clear n_; have n_ := Aside0.mk (below_step HB.out hb); clear HB; have HB := n_; clear n_; have n_ := Aside0.mk (And.intro (hb.size) HZ.out); clear HZ; have HZ := n_; clear n_; clear hb; refine hK.out _ _ ⟨(blk_cell BKX.out 0).trans rfl, (blk_cell BKX.out 1).trans rfl, (blk_cell BKX.out 2).trans rfl, (blk_cell BKB.out 0).trans rfl, (blk_cell BKB.out 1).trans rfl, (blk_cell BKB.out 2).trans rfl⟩ (fun hHeld => ?_); clear hK K; refine norm_ (a' := ?_) ?_ ?_; rotate_left
  · show Act.put _ (some 57) _ = _
    simp only [Act.put, List.setIfInBounds_toArray, List.set_cons_zero, List.set_cons_succ]
    rfl
  clear V0; clear V1; clear V2; refine pure_ (i := 4) (N := some 58) (v := ?_) (a' := ?_) #[true, true, true, true, true] rfl rfl (by kernel_rfl) (fun _ _ _ h => h) (Or.inl ⟨by rfl, ?_⟩) ?_ ?_; rotate_left
  · intro w'
    go_simp
    with_reducible rfl
  rotate_left
  · simp only [Act.put, List.setIfInBounds_toArray, List.set_cons_zero, List.set_cons_succ]
    rfl
  refine done_ (by kernel_rfl) ?_; go_wp2_with fail; have hb : Below w19.heap.size w19 w19.drew := below_drew (Below.refl _ _); have n_ := Aside0.mk (Kd.R_below W0.out hb); clear W0; have W0 := n_; clear n_; have n_ := Aside0.mk (Kd.R_below X0.out hb); clear X0; have X0 := n_; clear n_; have n_ := Aside0.mk (Kd.R_below X1.out hb); clear X1; have X1 := n_; clear n_; have n_ := Aside0.mk (Kd.S_below X2.out hb); clear X2; have X2 := n_; clear n_; have n_ := Aside0.mk (Kd.R_below X3.out hb); clear X3; have X3 := n_; clear n_; have n_ := Aside0.mk (Kd.R_below X4.out hb); clear X4; have X4 := n_; clear n_; have n_ := Aside0.mk (Kd.R_below G.out hb); clear G; have G := n_; clear n_; have n_ := Aside0.mk (blk_below BKB.out hb); clear BKB; have BKB := n_; clear n_; have n_ := Aside0.mk (blk_below BKW.out hb); clear BKW; have BKW := n_; clear n_; have n_ := Aside0.mk (blk_below BKX.out hb); clear BKX; have BKX := n_; clear n_; have n_ := Aside0.mk (blk_below BKY.out hb); clear BKY; have BKY := n_; clear n_; have n_ := Aside0.mk (below_step HB.out hb); clear HB; have HB := n_; clear n_; have n_ := Aside0.mk (And.intro (hb.size) HZ.out); clear HZ; have HZ := n_; clear n_; clear hb; refine start_ (n := 5) (S := (fun w' => w'.cell? ⟨gbY, 0, none⟩ = some (.slice A_X3 l3.length c_X3) ∧ w'.cell? ⟨gbY, 1, none⟩ = some (.slice A_X4 l4.length c_X4) ∧ w'.cell? ⟨gbW, 0, none⟩ = some (.slice A3 l3.length c3) ∧ w'.cell? ⟨gbW, 1, none⟩ = some (.slice A4 l4.length c4))) (ds := []) #[false, false, false, false, false] (by kernel_rfl) rfl rfl ⟨(blk_cell BKY.out 0).trans rfl, (blk_cell BKY.out 1).trans rfl, (blk_cell BKW.out 0).trans rfl, (blk_cell BKW.out 1).trans rfl⟩ (fun hHeld => ?_); generalize w19.drew = w20 at W0 X0 X1 X2 X3 X4 G BKB BKW BKX BKY HB HZ hHeld ⊢; refine take_ (i := 0) (N := some 59) (v := ?_) (a' := ?_) #[true, false, false, false, false] rfl rfl (by kernel_rfl) (fun _ _ _ h => h) (Or.inl ⟨by rfl, ?_⟩) hHeld ?_ ?_; rotate_left
  · rintro w' ⟨s0, s1, s2, s3⟩
    go_simp
    with_reducible rfl
  rotate_left
  · simp only [Act.put, List.setIfInBounds_toArray, List.set_cons_zero, List.set_cons_succ]
    rfl
  refine take_ (i := 1) (N := some 60) (v := ?_) (a' := ?_) #[true, true, false, false, false] rfl rfl (by kernel_rfl) (fun _ _ _ h => h) (Or.inl ⟨by rfl, ?_⟩) hHeld ?_ ?_; rotate_left
  · rintro w' ⟨s0, s1, s2, s3⟩
    go_simp
    with_reducible rfl
  rotate_left
  · simp only [Act.put, List.setIfInBounds_toArray, List.set_cons_zero, List.set_cons_succ]
    rfl
  refine one_ (i := 2) (N := some 61) #[true, true, true, false, false] rfl rfl (by kernel_rfl) (by decide) (fun K hK => ?_); refine goes_ Tryd.func16 (by kernel_rfl) rfl #[.agg #[.slice A3 l3.length c3, .slice A4 l4.length c4]] (by rfl) rfl rfl (by simp only [List.map_toArray, List.map_cons, List.map_nil]; rfl) ?_; refine (laws_toWish.calls k1 _ _ l3 _ _ l4 l3 l4 _ (Kd.C_below HR3.out HB.out) HC3.out (Kd.C_below HR4.out HB.out) HC4.out E1.out).mono ?_; rintro e w21 ⟨va, vb, rfl, ho0, ho1, hb⟩; refine ⟨_, rfl, ?_⟩; have n_ := Aside0.mk (Kd.R_below W0.out hb); clear W0; have W0 := n_; clear n_; have n_ := Aside0.mk (Kd.R_below X0.out hb); clear X0; have X0 := n_; clear n_; have n_ := Aside0.mk (Kd.R_below X1.out hb); clear X1; have X1 := n_; clear n_; have n_ := Aside0.mk (Kd.S_below X2.out hb); clear X2; have X2 := n_; clear n_; have n_ := Aside0.mk (Kd.R_below X3.out hb); clear X3; have X3 := n_; clear n_; have n_ := Aside0.mk (Kd.R_below X4.out hb); clear X4; have X4 := n_; clear n_; have n_ := Aside0.mk (Kd.R_below G.out hb); clear G; have G := n_; clear n_; have n_ := Aside0.mk (blk_below BKB.out hb); clear BKB; have BKB := n_; clear n_; have n_ := Aside0.mk (blk_below BKW.out hb); clear BKW; have BKW := n_; clear n_; have n_ := Aside0.mk (blk_below BKX.out hb); clear BKX; have BKX := n_; clear n_; have n_ := Aside0.mk (blk_below BKY.out hb); clear BKY; have BKY := n_; clear n_; have n_ := Aside0.mk (below_step HB.out hb); clear HB; have HB := n_; clear n_; have n_ := Aside0.mk (And.intro (hb.size) HZ.out); clear HZ; have HZ := n_; clear n_; clear hb; have NE_V := Aside0.mk ho0.1; have ho2 := Kd.R_mono ho0 (fun _ _ => trivial); have ho3 := Kd.R_mono ho1 (fun _ _ => trivial); clear ho0 ho1; obtain ⟨A_V3, c_V3, e_V3⟩ := Kd.R_slice ho2; subst e_V3; have V3 := Aside0.mk (R_mk (base := w.heap.size) ho2 (by have z := HZ.out; have g_gbB := G_gbB.out; have l_gbB := L_gbB.out; have g_gbW := G_gbW.out; have l_gbW := L_gbW.out; have g_gbX := G_gbX.out; have l_gbX := L_gbX.out; have g_gbY := G_gbY.out; have l_gbY := L_gbY.out; omega)); clear ho2; obtain ⟨A_V4, c_V4, e_V4⟩ := Kd.R_slice ho3; subst e_V4; have V4 := Aside0.mk (R_mk (base := w.heap.size) ho3 (by have z := HZ.out; have g_gbB := G_gbB.out; have l_gbB := L_gbB.out; have g_gbW := G_gbW.out; have l_gbW := L_gbW.out; have g_gbX := G_gbX.out; have l_gbX := L_gbX.out; have g_gbY := G_gbY.out; have l_gbY := L_gbY.out; omega)); clear ho3; clear NE_V; refine hK.out _ _ ⟨(blk_cell BKY.out 0).trans rfl, (blk_cell BKY.out 1).trans rfl, (blk_cell BKW.out 0).trans rfl, (blk_cell BKW.out 1).trans rfl⟩ (fun hHeld => ?_); clear hK K; refine norm_ (a' := ?_) ?_ ?_; rotate_left
  · show Act.put _ (some 61) _ = _
    simp only [Act.put, List.setIfInBounds_toArray, List.set_cons_zero, List.set_cons_succ]
    rfl
  refine one_ (i := 3) (N := some 62) #[true, true, true, true, false] rfl rfl (by kernel_rfl) (by decide) (fun K hK => ?_); refine goes_ Tryd.func20 (by kernel_rfl) rfl #[.agg #[.slice A_X3 l3.length c_X3, .slice A_X4 l4.length c_X4], .agg #[.slice A_V3 l3.length c_V3, .slice A_V4 l4.length c_V4]] (by rfl) rfl rfl (by simp only [List.map_toArray, List.map_cons, List.map_nil]; rfl) ?_; refine (laws_eqWish.calls k6 _ _ l3 _ _ l4 _ _ l3 _ _ l4 true _ (Kd.R_reads' X3.out).2.2 (Kd.R_reads' X3.out).2.1 (Kd.R_reads' X4.out).2.2 (Kd.R_reads' X4.out).2.1 (Kd.R_reads' V3.out).2.2 (Kd.R_reads' V3.out).2.1 (Kd.R_reads' V4.out).2.2 (Kd.R_reads' V4.out).2.1 E6.out).mono ?_; rintro e w22 ⟨rfl, hb⟩; refine ⟨_, rfl, ?_⟩; have n_ := Aside0.mk (Kd.R_below W0.out hb); clear W0; have W0 := n_; clear n_; have n_ := Aside0.mk (Kd.R_below X0.out hb); clear X0; have X0 := n_; clear n_; have n_ := Aside0.mk (Kd.R_below X1.out hb); clear X1; have X1 := n_; clear n_; have n_ := Aside0.mk (Kd.S_below X2.out hb); clear X2; have X2 := n_; clear n_; have n_ := Aside0.mk (Kd.R_below X3.out hb); clear X3; have X3 := n_; clear n_; have n_ := Aside0.mk (Kd.R_below X4.out hb); clear X4; have X4 := n_; clear n_; have n_ := Aside0.mk (Kd.R_below G.out hb); clear G; have G := n_; clear n_; have n_ := Aside0.mk (Kd.R_below V3.out hb); clear V3; have V3 := n_; clear n_; have n_ := Aside0.mk (Kd.R_below V4.out hb); clear V4; have V4 := n_; clear n_; have n_ := Aside0.mk (blk_below BKB.out hb); clear BKB; have BKB := n_; clear n_; have n_ := Aside0.mk (blk_below BKW.out hb); clear BKW; have BKW := n_; clear n_; have n_ := Aside0.mk (blk_below BKX.out hb); clear BKX; have BKX := n_; clear n_; have n_ := Aside0.mk (blk_below BKY.out hb); clear BKY; have BKY := n_; clear n_; have n_ := Aside0.mk (below_step HB.out hb); clear HB; have HB := n_; clear n_; have n_ := Aside0.mk (And.intro (hb.size) HZ.out); clear HZ; have HZ := n_; clear n_; clear hb; refine hK.out _ _ ⟨(blk_cell BKY.out 0).trans rfl, (blk_cell BKY.out 1).trans rfl, (blk_cell BKW.out 0).trans rfl, (blk_cell BKW.out 1).trans rfl⟩ (fun hHeld => ?_); clear hK K; refine norm_ (a' := ?_) ?_ ?_; rotate_left
  · show Act.put _ (some 62) _ = _
    simp only [Act.put, List.setIfInBounds_toArray, List.set_cons_zero, List.set_cons_succ]
    rfl
  clear V3; clear V4; refine pure_ (i := 4) (N := some 63) (v := ?_) (a' := ?_) #[true, true, true, true, true] rfl rfl (by kernel_rfl) (fun _ _ _ h => h) (Or.inl ⟨by rfl, ?_⟩) ?_ ?_; rotate_left
  · intro w'
    go_simp
    with_reducible rfl
  rotate_left
  · simp only [Act.put, List.setIfInBounds_toArray, List.set_cons_zero, List.set_cons_succ]
    rfl
  refine done_ (by kernel_rfl) ?_; have zgbX_0 : w22.cell? ⟨gbX, 0, none⟩ = some (.slice A_X0 l0.length c_X0) := (blk_cell BKX.out 0).trans rfl; have fgbX_0 := blk_frozen BKX.out 0; have zgbX_1 : w22.cell? ⟨gbX, 1, none⟩ = some (.slice A_X1 l1.length c_X1) := (blk_cell BKX.out 1).trans rfl; have fgbX_1 := blk_frozen BKX.out 1; have zgbX_2 : w22.cell? ⟨gbX, 2, none⟩ = some (.slice A_X2 l2.length c_X2) := (blk_cell BKX.out 2).trans rfl; have fgbX_2 := blk_frozen BKX.out 2; go_wp2_with fail; go_at_call 21; refine (laws_markBoard.calls ka kb kc w8.heap.size w9.heap.size _ _ _ _ _ _ l0 t0 l1 t1 l2 t2 1 m0 m1 m2 w _ HB.out (by have z := HZ.out; have g_gbB := G_gbB.out; have l_gbB := L_gbB.out; have g_gbW := G_gbW.out; have l_gbW := L_gbW.out; have g_gbX := G_gbX.out; have l_gbX := L_gbX.out; have g_gbY := G_gbY.out; have l_gbY := L_gbY.out; omega) X0.out X1.out X2.out Ea.out Eb.out Ec.out).mono ?_; rintro e w23 ⟨rfl, hb2, hk⟩; clear zgbX_0 fgbX_0 zgbX_1 fgbX_1 zgbX_2 fgbX_2; clear X0 X1 X2; have n_ := Aside0.mk (R_iv W0.out hk (by have z := HZ.out; have g_gbB := G_gbB.out; have l_gbB := L_gbB.out; have g_gbW := G_gbW.out; have l_gbW := L_gbW.out; have g_gbX := G_gbX.out; have l_gbX := L_gbX.out; have g_gbY := G_gbY.out; have l_gbY := L_gbY.out; omega)); clear W0; have W0 := n_; clear n_; have n_ := Aside0.mk (R_iv X3.out hk (by have z := HZ.out; have g_gbB := G_gbB.out; have l_gbB := L_gbB.out; have g_gbW := G_gbW.out; have l_gbW := L_gbW.out; have g_gbX := G_gbX.out; have l_gbX := L_gbX.out; have g_gbY := G_gbY.out; have l_gbY := L_gbY.out; omega)); clear X3; have X3 := n_; clear n_; have n_ := Aside0.mk (R_iv X4.out hk (by have z := HZ.out; have g_gbB := G_gbB.out; have l_gbB := L_gbB.out; have g_gbW := G_gbW.out; have l_gbW := L_gbW.out; have g_gbX := G_gbX.out; have l_gbX := L_gbX.out; have g_gbY := G_gbY.out; have l_gbY := L_gbY.out; omega)); clear X4; have X4 := n_; clear n_; have n_ := Aside0.mk (R_iv G.out hk (by have z := HZ.out; have g_gbB := G_gbB.out; have l_gbB := L_gbB.out; have g_gbW := G_gbW.out; have l_gbW := L_gbW.out; have g_gbX := G_gbX.out; have l_gbX := L_gbX.out; have g_gbY := G_gbY.out; have l_gbY := L_gbY.out; omega)); clear G; have G := n_; clear n_; have n_ := Aside0.mk (blk_iv BKB.out hk (by have z := HZ.out; have g_gbB := G_gbB.out; have l_gbB := L_gbB.out; have g_gbW := G_gbW.out; have l_gbW := L_gbW.out; have g_gbX := G_gbX.out; have l_gbX := L_gbX.out; have g_gbY := G_gbY.out; have l_gbY := L_gbY.out; omega)); clear BKB; have BKB := n_; clear n_; have n_ := Aside0.mk (blk_iv BKW.out hk (by have z := HZ.out; have g_gbB := G_gbB.out; have l_gbB := L_gbB.out; have g_gbW := G_gbW.out; have l_gbW := L_gbW.out; have g_gbX := G_gbX.out; have l_gbX := L_gbX.out; have g_gbY := G_gbY.out; have l_gbY := L_gbY.out; omega)); clear BKW; have BKW := n_; clear n_; have n_ := Aside0.mk (blk_iv BKX.out hk (by have z := HZ.out; have g_gbB := G_gbB.out; have l_gbB := L_gbB.out; have g_gbW := G_gbW.out; have l_gbW := L_gbW.out; have g_gbX := G_gbX.out; have l_gbX := L_gbX.out; have g_gbY := G_gbY.out; have l_gbY := L_gbY.out; omega)); clear BKX; have BKX := n_; clear n_; have n_ := Aside0.mk (blk_iv BKY.out hk (by have z := HZ.out; have g_gbB := G_gbB.out; have l_gbB := L_gbB.out; have g_gbW := G_gbW.out; have l_gbW := L_gbW.out; have g_gbX := G_gbX.out; have l_gbX := L_gbX.out; have g_gbY := G_gbY.out; have l_gbY := L_gbY.out; omega)); clear BKY; have BKY := n_; clear n_; have n_ := Aside0.mk (hb2); clear HB; have HB := n_; clear n_; have n_ := Aside0.mk (And.intro (hk.1) HZ.out); clear HZ; have HZ := n_; clear n_; clear hk hb2; have zgbY_0 : w23.cell? ⟨gbY, 0, none⟩ = some (.slice A_X3 l3.length c_X3) := (blk_cell BKY.out 0).trans rfl; have fgbY_0 := blk_frozen BKY.out 0; have zgbY_1 : w23.cell? ⟨gbY, 1, none⟩ = some (.slice A_X4 l4.length c_X4) := (blk_cell BKY.out 1).trans rfl; have fgbY_1 := blk_frozen BKY.out 1; go_wp2_with fail; go_at_call 22; refine (laws_markWish.calls kd (fun k_ => some k_ = (.slice A_X3 l3.length c_X3 : Value).ownBlock) _ l3 (fun k_ => some k_ = (.slice A_X4 l4.length c_X4 : Value).ownBlock) _ l4 m2 m3 t3 t4 w _ HB.out (Kd.R_tight rfl X3.out) (fun k h1 h2 => NE_X.out k h1.symm h2) (Kd.R_tight rfl X4.out) (fun k h1 h2 => NE_X.out k h2.symm h1) Ed.out).mono ?_
  rintro e w24 ⟨rfl, hy0, hy1, hb2, hkp⟩; clear zgbY_0 fgbY_0 zgbY_1 fgbY_1; have hk := Kept.mono hkp (fun k h => h.elim (fun h => X3.out.1 k h.symm) (fun h => X4.out.1 k h.symm)); clear hy0 hy1 hkp; clear X3 X4 NE_X; have n_ := Aside0.mk (R_iv W0.out hk (by have z := HZ.out; have g_gbB := G_gbB.out; have l_gbB := L_gbB.out; have g_gbW := G_gbW.out; have l_gbW := L_gbW.out; have g_gbX := G_gbX.out; have l_gbX := L_gbX.out; have g_gbY := G_gbY.out; have l_gbY := L_gbY.out; omega)); clear W0; have W0 := n_; clear n_; have n_ := Aside0.mk (R_iv G.out hk (by have z := HZ.out; have g_gbB := G_gbB.out; have l_gbB := L_gbB.out; have g_gbW := G_gbW.out; have l_gbW := L_gbW.out; have g_gbX := G_gbX.out; have l_gbX := L_gbX.out; have g_gbY := G_gbY.out; have l_gbY := L_gbY.out; omega)); clear G; have G := n_; clear n_; have n_ := Aside0.mk (blk_iv BKB.out hk (by have z := HZ.out; have g_gbB := G_gbB.out; have l_gbB := L_gbB.out; have g_gbW := G_gbW.out; have l_gbW := L_gbW.out; have g_gbX := G_gbX.out; have l_gbX := L_gbX.out; have g_gbY := G_gbY.out; have l_gbY := L_gbY.out; omega)); clear BKB; have BKB := n_; clear n_; have n_ := Aside0.mk (blk_iv BKW.out hk (by have z := HZ.out; have g_gbB := G_gbB.out; have l_gbB := L_gbB.out; have g_gbW := G_gbW.out; have l_gbW := L_gbW.out; have g_gbX := G_gbX.out; have l_gbX := L_gbX.out; have g_gbY := G_gbY.out; have l_gbY := L_gbY.out; omega)); clear BKW; have BKW := n_; clear n_; have n_ := Aside0.mk (blk_iv BKX.out hk (by have z := HZ.out; have g_gbB := G_gbB.out; have l_gbB := L_gbB.out; have g_gbW := G_gbW.out; have l_gbW := L_gbW.out; have g_gbX := G_gbX.out; have l_gbX := L_gbX.out; have g_gbY := G_gbY.out; have l_gbY := L_gbY.out; omega)); clear BKX; have BKX := n_; clear n_; have n_ := Aside0.mk (blk_iv BKY.out hk (by have z := HZ.out; have g_gbB := G_gbB.out; have l_gbB := L_gbB.out; have g_gbW := G_gbW.out; have l_gbW := L_gbW.out; have g_gbX := G_gbX.out; have l_gbX := L_gbX.out; have g_gbY := G_gbY.out; have l_gbY := L_gbY.out; omega)); clear BKY; have BKY := n_; clear n_; have n_ := Aside0.mk (hb2); clear HB; have HB := n_; clear n_; have n_ := Aside0.mk (And.intro (hk.1) HZ.out); clear HZ; have HZ := n_; clear n_; clear hk hb2; go_wp2_with fail; go_at_call 18; refine (laws_eqIntS.calls k4 _ _ y _ _ y true _ (Kd.R_reads' G.out).2.2 (Kd.R_reads' G.out).2.1 (Kd.R_reads' W0.out).2.2 (Kd.R_reads' W0.out).2.1 E4.out).mono ?_; rintro e w25 ⟨rfl, hd⟩; have hb := drawn_below hd; clear hd; have n_ := Aside0.mk (Kd.R_below W0.out hb); clear W0; have W0 := n_; clear n_; have n_ := Aside0.mk (Kd.R_below G.out hb); clear G; have G := n_; clear n_; have n_ := Aside0.mk (blk_below BKB.out hb); clear BKB; have BKB := n_; clear n_; have n_ := Aside0.mk (blk_below BKW.out hb); clear BKW; have BKW := n_; clear n_; have n_ := Aside0.mk (blk_below BKX.out hb); clear BKX; have BKX := n_; clear n_; have n_ := Aside0.mk (blk_below BKY.out hb); clear BKY; have BKY := n_; clear n_; have n_ := Aside0.mk (below_step HB.out hb); clear HB; have HB := n_; clear n_; have n_ := Aside0.mk (And.intro (hb.size) HZ.out); clear HZ; have HZ := n_; clear n_; clear hb; go_wp2_with fail; go_at_call 23; refine (laws_markIntS.calls ke (Iv w14.heap.size w15.heap.size) _ y 1 mm t5 w _ HB.out G.out Ee.out).mono ?_; rintro e w26 ⟨rfl, ho1, hb2, hk⟩; have ho0 := Kd.R_reok rfl ho1 (fun k e => G.out.1 k e); clear G ho1; have n_ := Aside0.mk (R_iv W0.out hk (by have z := HZ.out; have g_gbB := G_gbB.out; have l_gbB := L_gbB.out; have g_gbW := G_gbW.out; have l_gbW := L_gbW.out; have g_gbX := G_gbX.out; have l_gbX := L_gbX.out; have g_gbY := G_gbY.out; have l_gbY := L_gbY.out; omega)); clear W0; have W0 := n_; clear n_; have n_ := Aside0.mk (blk_iv BKB.out hk (by have z := HZ.out; have g_gbB := G_gbB.out; have l_gbB := L_gbB.out; have g_gbW := G_gbW.out; have l_gbW := L_gbW.out; have g_gbX := G_gbX.out; have l_gbX := L_gbX.out; have g_gbY := G_gbY.out; have l_gbY := L_gbY.out; omega)); clear BKB; have BKB := n_; clear n_; have n_ := Aside0.mk (blk_iv BKW.out hk (by have z := HZ.out; have g_gbB := G_gbB.out; have l_gbB := L_gbB.out; have g_gbW := G_gbW.out; have l_gbW := L_gbW.out; have g_gbX := G_gbX.out; have l_gbX := L_gbX.out; have g_gbY := G_gbY.out; have l_gbY := L_gbY.out; omega))
  clear BKW; have BKW := n_; clear n_; have n_ := Aside0.mk (blk_iv BKX.out hk (by have z := HZ.out; have g_gbB := G_gbB.out; have l_gbB := L_gbB.out; have g_gbW := G_gbW.out; have l_gbW := L_gbW.out; have g_gbX := G_gbX.out; have l_gbX := L_gbX.out; have g_gbY := G_gbY.out; have l_gbY := L_gbY.out; omega)); clear BKX; have BKX := n_; clear n_; have n_ := Aside0.mk (blk_iv BKY.out hk (by have z := HZ.out; have g_gbB := G_gbB.out; have l_gbB := L_gbB.out; have g_gbW := G_gbW.out; have l_gbW := L_gbW.out; have g_gbX := G_gbX.out; have l_gbX := L_gbX.out; have g_gbY := G_gbY.out; have l_gbY := L_gbY.out; omega)); clear BKY; have BKY := n_; clear n_; have n_ := Aside0.mk (hb2); clear HB; have HB := n_; clear n_; have n_ := Aside0.mk (And.intro (hk.1) HZ.out); clear HZ; have HZ := n_; clear n_; have G := Aside0.mk ho0; have HE := Aside0.mk (Kd.R_reads' G.out).1; clear ho0 hk hb2; go_wp2_with fail; go_at_call 24; refine (calls_of_args (by rw [HE.out]) (laws_heldIntS.calls kf A_G c_G t5 1 mm _ (Kd.R_reads' G.out).2.2 (by rw [← HE.out]; exact (Kd.R_reads' G.out).2.1) Ef.out)).mono ?_; rintro e w27 ⟨rfl, hd⟩; have hb := drawn_below hd; clear hd; have n_ := Aside0.mk (Kd.R_below W0.out hb); clear W0; have W0 := n_; clear n_; have n_ := Aside0.mk (Kd.R_below G.out hb); clear G; have G := n_; clear n_; have n_ := Aside0.mk (blk_below BKB.out hb); clear BKB; have BKB := n_; clear n_; have n_ := Aside0.mk (blk_below BKW.out hb); clear BKW; have BKW := n_; clear n_; have n_ := Aside0.mk (blk_below BKX.out hb); clear BKX; have BKX := n_; clear n_; have n_ := Aside0.mk (blk_below BKY.out hb); clear BKY; have BKY := n_; clear n_; have n_ := Aside0.mk (below_step HB.out hb); clear HB; have HB := n_; clear n_; have n_ := Aside0.mk (And.intro (hb.size) HZ.out); clear HZ; have HZ := n_; clear n_; clear hb; go_wp2_with fail; have hb : Below w27.heap.size w27 w27.drew := below_drew (Below.refl _ _); have n_ := Aside0.mk (Kd.R_below W0.out hb); clear W0; have W0 := n_; clear n_; have n_ := Aside0.mk (Kd.R_below G.out hb); clear G; have G := n_; clear n_; have n_ := Aside0.mk (blk_below BKB.out hb); clear BKB; have BKB := n_; clear n_; have n_ := Aside0.mk (blk_below BKW.out hb); clear BKW; have BKW := n_; clear n_; have n_ := Aside0.mk (blk_below BKX.out hb); clear BKX; have BKX := n_; clear n_; have n_ := Aside0.mk (blk_below BKY.out hb); clear BKY; have BKY := n_; clear n_; have n_ := Aside0.mk (below_step HB.out hb); clear HB; have HB := n_; clear n_; have n_ := Aside0.mk (And.intro (hb.size) HZ.out); clear HZ; have HZ := n_; clear n_; clear hb; refine start_ (n := 10) (S := (fun w' => w'.cell? ⟨gbB, 0, none⟩ = some (.slice A0 l0.length c0) ∧ w'.cell? ⟨gbB, 1, none⟩ = some (.slice A1 l1.length c1) ∧ w'.cell? ⟨gbB, 2, none⟩ = some (.slice A2 l2.length c2) ∧ w'.cell? ⟨gbW, 0, none⟩ = some (.slice A3 l3.length c3) ∧ w'.cell? ⟨gbW, 1, none⟩ = some (.slice A4 l4.length c4))) (ds := []) #[false, false, false, false, false, false, false, false, false, false] (by kernel_rfl) rfl rfl ⟨(blk_cell BKB.out 0).trans rfl, (blk_cell BKB.out 1).trans rfl, (blk_cell BKB.out 2).trans rfl, (blk_cell BKW.out 0).trans rfl, (blk_cell BKW.out 1).trans rfl⟩ (fun hHeld => ?_); generalize w27.drew = w28 at W0 G BKB BKW BKX BKY HB HZ hHeld ⊢; refine take_ (i := 0) (N := some 95) (v := ?_) (a' := ?_) #[true, false, false, false, false, false, false, false, false, false] rfl rfl (by kernel_rfl) (fun _ _ _ h => h) (Or.inl ⟨by rfl, ?_⟩) hHeld ?_ ?_; rotate_left
  · rintro w' ⟨s0, s1, s2, s3, s4⟩
    go_simp
    with_reducible rfl
  rotate_left
  · simp only [Act.put, List.setIfInBounds_toArray, List.set_cons_zero, List.set_cons_succ]
    rfl
  refine take_ (i := 2) (N := some 97) (v := ?_) (a' := ?_) #[true, false, true, false, false, false, false, false, false, false] rfl rfl (by kernel_rfl) (fun _ _ _ h => h) (Or.inl ⟨by rfl, ?_⟩) hHeld ?_ ?_; rotate_left
  · rintro w' ⟨s0, s1, s2, s3, s4⟩
    go_simp
    with_reducible rfl
  rotate_left
  · simp only [Act.put, List.setIfInBounds_toArray, List.set_cons_zero, List.set_cons_succ]
    rfl
  refine one_ (i := 1) (N := some 96) #[true, true, true, false, false, false, false, false, false, false] rfl rfl (by kernel_rfl) (by decide) (fun K hK => ?_); refine goes_ Tryd.func15 (by kernel_rfl) rfl #[.agg #[.slice A0 l0.length c0, .slice A1 l1.length c1, .slice A2 l2.length c2]] (by rfl) rfl rfl (by simp only [List.map_toArray, List.map_cons, List.map_nil]; rfl) ?_; refine (laws_toBoard.calls k0 _ _ l0 _ _ l1 _ _ l2 l0 l1 l2 _ (Kd.C_below HR0.out HB.out) HC0.out (Kd.C_below HR1.out HB.out) HC1.out (Kd.C_below HR2.out HB.out) HC2.out E0.out).mono ?_; rintro e w29 ⟨va, vb, vc, rfl, ho0, ho1, ho2, hb⟩; refine ⟨_, rfl, ?_⟩; have n_ := Aside0.mk (Kd.R_below W0.out hb); clear W0; have W0 := n_; clear n_; have n_ := Aside0.mk (Kd.R_below G.out hb); clear G; have G := n_; clear n_; have n_ := Aside0.mk (blk_below BKB.out hb); clear BKB; have BKB := n_; clear n_; have n_ := Aside0.mk (blk_below BKW.out hb); clear BKW; have BKW := n_; clear n_; have n_ := Aside0.mk (blk_below BKX.out hb); clear BKX; have BKX := n_; clear n_; have n_ := Aside0.mk (blk_below BKY.out hb); clear BKY; have BKY := n_; clear n_; have n_ := Aside0.mk (below_step HB.out hb); clear HB; have HB := n_; clear n_; have n_ := Aside0.mk (And.intro (hb.size) HZ.out); clear HZ; have HZ := n_; clear n_; clear hb; obtain ⟨A_U0, c_U0, e_U0⟩ := Kd.R_slice ho0; subst e_U0; have U0 := Aside0.mk (R_mk (base := w.heap.size) ho0 (by have z := HZ.out; have g_gbB := G_gbB.out; have l_gbB := L_gbB.out; have g_gbW := G_gbW.out; have l_gbW := L_gbW.out; have g_gbX := G_gbX.out; have l_gbX := L_gbX.out; have g_gbY := G_gbY.out; have l_gbY := L_gbY.out; omega)); clear ho0; obtain ⟨A_U1, c_U1, e_U1⟩ := Kd.R_slice ho1; subst e_U1; have U1 := Aside0.mk (R_mk (base := w.heap.size) ho1 (by have z := HZ.out; have g_gbB := G_gbB.out; have l_gbB := L_gbB.out; have g_gbW := G_gbW.out; have l_gbW := L_gbW.out; have g_gbX := G_gbX.out; have l_gbX := L_gbX.out; have g_gbY := G_gbY.out; have l_gbY := L_gbY.out; omega)); clear ho1; obtain ⟨A_U2, c_U2, e_U2⟩ := Kd.S_slice ho2; subst e_U2; have U2 := Aside0.mk (S_mk (base := w.heap.size) ho2 (by have z := HZ.out; have g_gbB := G_gbB.out; have l_gbB := L_gbB.out; have g_gbW := G_gbW.out; have l_gbW := L_gbW.out; have g_gbX := G_gbX.out; have l_gbX := L_gbX.out; have g_gbY := G_gbY.out; have l_gbY := L_gbY.out; omega)); clear ho2; refine hK.out _ _ ⟨(blk_cell BKB.out 0).trans rfl, (blk_cell BKB.out 1).trans rfl, (blk_cell BKB.out 2).trans rfl, (blk_cell BKW.out 0).trans rfl, (blk_cell BKW.out 1).trans rfl⟩ (fun hHeld => ?_); clear hK K; refine norm_ (a' := ?_) ?_ ?_; rotate_left
  · show Act.put _ (some 96) _ = _
    simp only [Act.put, List.setIfInBounds_toArray, List.set_cons_zero, List.set_cons_succ]
    rfl
  refine one_ (i := 3) (N := some 98) #[true, true, true, true, false, false, false, false, false, false] rfl rfl (by kernel_rfl) (by decide) (fun K hK => ?_); refine goes_ Tryd.func16 (by kernel_rfl) rfl #[.agg #[.slice A3 l3.length c3, .slice A4 l4.length c4]] (by rfl) rfl rfl (by simp only [List.map_toArray, List.map_cons, List.map_nil]; rfl) ?_; refine (laws_toWish.calls k1 _ _ l3 _ _ l4 l3 l4 _ (Kd.C_below HR3.out HB.out) HC3.out (Kd.C_below HR4.out HB.out) HC4.out E1.out).mono ?_; rintro e w30 ⟨va, vb, rfl, ho0, ho1, hb⟩; refine ⟨_, rfl, ?_⟩; have n_ := Aside0.mk (Kd.R_below W0.out hb); clear W0; have W0 := n_; clear n_; have n_ := Aside0.mk (Kd.R_below G.out hb); clear G; have G := n_; clear n_; have n_ := Aside0.mk (Kd.R_below U0.out hb); clear U0; have U0 := n_; clear n_; have n_ := Aside0.mk (Kd.R_below U1.out hb); clear U1; have U1 := n_; clear n_; have n_ := Aside0.mk (Kd.S_below U2.out hb); clear U2; have U2 := n_; clear n_; have n_ := Aside0.mk (blk_below BKB.out hb); clear BKB; have BKB := n_; clear n_; have n_ := Aside0.mk (blk_below BKW.out hb); clear BKW; have BKW := n_; clear n_; have n_ := Aside0.mk (blk_below BKX.out hb); clear BKX; have BKX := n_; clear n_; have n_ := Aside0.mk (blk_below BKY.out hb); clear BKY; have BKY := n_; clear n_; have n_ := Aside0.mk (below_step HB.out hb); clear HB; have HB := n_; clear n_; have n_ := Aside0.mk (And.intro (hb.size) HZ.out); clear HZ; have HZ := n_; clear n_; clear hb; have NE_U := Aside0.mk ho0.1; have ho2 := Kd.R_mono ho0 (fun _ _ => trivial); have ho3 := Kd.R_mono ho1 (fun _ _ => trivial); clear ho0 ho1; obtain ⟨A_U3, c_U3, e_U3⟩ := Kd.R_slice ho2; subst e_U3; have U3 := Aside0.mk (R_mk (base := w.heap.size) ho2 (by have z := HZ.out; have g_gbB := G_gbB.out; have l_gbB := L_gbB.out; have g_gbW := G_gbW.out; have l_gbW := L_gbW.out; have g_gbX := G_gbX.out; have l_gbX := L_gbX.out; have g_gbY := G_gbY.out; have l_gbY := L_gbY.out; omega)); clear ho2; obtain ⟨A_U4, c_U4, e_U4⟩ := Kd.R_slice ho3; subst e_U4; have U4 := Aside0.mk (R_mk (base := w.heap.size) ho3 (by have z := HZ.out; have g_gbB := G_gbB.out; have l_gbB := L_gbB.out; have g_gbW := G_gbW.out; have l_gbW := L_gbW.out; have g_gbX := G_gbX.out; have l_gbX := L_gbX.out; have g_gbY := G_gbY.out; have l_gbY := L_gbY.out; omega)); clear ho3; clear NE_U; refine hK.out _ _ ⟨(blk_cell BKB.out 0).trans rfl, (blk_cell BKB.out 1).trans rfl, (blk_cell BKB.out 2).trans rfl, (blk_cell BKW.out 0).trans rfl, (blk_cell BKW.out 1).trans rfl⟩ (fun hHeld => ?_); clear hK K; refine norm_ (a' := ?_) ?_ ?_; rotate_left
  · show Act.put _ (some 98) _ = _
    simp only [Act.put, List.setIfInBounds_toArray, List.set_cons_zero, List.set_cons_succ]
    rfl
  refine one_ (i := 4) (N := some 99) #[true, true, true, true, true, false, false, false, false, false] rfl rfl (by kernel_rfl) (by decide) (fun K hK => ?_); refine goes_ Tryd.func26 (by kernel_rfl) rfl #[.agg #[.slice A_U0 l0.length c_U0, .slice A_U1 l1.length c_U1, .slice A_U2 l2.length c_U2], .agg #[.slice A_U3 l3.length c_U3, .slice A_U4 l4.length c_U4]] (by rfl) rfl rfl (by simp only [List.map_toArray, List.map_cons, List.map_nil]; rfl) ?_; refine (impl_Strategy.calls k3 _ _ l0 _ _ l1 _ _ l2 _ _ l3 _ _ l4 y b _ (Kd.R_reads' U0.out).2.2 (Kd.R_reads' U0.out).2.1 (Kd.R_reads' U1.out).2.2 (Kd.R_reads' U1.out).2.1 (Kd.S_reads' U2.out).2.2 (Kd.S_reads' U2.out).2.1 (Kd.R_reads' U3.out).2.2 (Kd.R_reads' U3.out).2.1 (Kd.R_reads' U4.out).2.2 (Kd.R_reads' U4.out).2.1 E3.out).mono ?_; rintro e w31 ⟨va, rfl, ho0, hb⟩; refine ⟨_, rfl, ?_⟩; have n_ := Aside0.mk (Kd.R_below W0.out hb); clear W0; have W0 := n_; clear n_; have n_ := Aside0.mk (Kd.R_below G.out hb); clear G; have G := n_; clear n_; have n_ := Aside0.mk (Kd.R_below U0.out hb); clear U0; have U0 := n_; clear n_; have n_ := Aside0.mk (Kd.R_below U1.out hb); clear U1; have U1 := n_; clear n_; have n_ := Aside0.mk (Kd.S_below U2.out hb); clear U2; have U2 := n_; clear n_; have n_ := Aside0.mk (Kd.R_below U3.out hb); clear U3; have U3 := n_; clear n_; have n_ := Aside0.mk (Kd.R_below U4.out hb); clear U4; have U4 := n_; clear n_; have n_ := Aside0.mk (blk_below BKB.out hb); clear BKB; have BKB := n_; clear n_; have n_ := Aside0.mk (blk_below BKW.out hb); clear BKW; have BKW := n_; clear n_; have n_ := Aside0.mk (blk_below BKX.out hb); clear BKX; have BKX := n_; clear n_; have n_ := Aside0.mk (blk_below BKY.out hb); clear BKY; have BKY := n_; clear n_; have n_ := Aside0.mk (below_step HB.out hb); clear HB; have HB := n_; clear n_; have n_ := Aside0.mk (And.intro (hb.size) HZ.out); clear HZ; have HZ := n_; clear n_; clear hb; obtain ⟨A_H, c_H, e_H⟩ := Kd.R_slice ho0; subst e_H; have H := Aside0.mk (R_mk (base := w.heap.size) ho0 (by have z := HZ.out; have g_gbB := G_gbB.out; have l_gbB := L_gbB.out; have g_gbW := G_gbW.out; have l_gbW := L_gbW.out; have g_gbX := G_gbX.out; have l_gbX := L_gbX.out; have g_gbY := G_gbY.out; have l_gbY := L_gbY.out; omega)); clear ho0; refine hK.out _ _ ⟨(blk_cell BKB.out 0).trans rfl, (blk_cell BKB.out 1).trans rfl, (blk_cell BKB.out 2).trans rfl, (blk_cell BKW.out 0).trans rfl, (blk_cell BKW.out 1).trans rfl⟩ (fun hHeld => ?_); clear hK K; refine norm_ (a' := ?_) ?_ ?_; rotate_left
  · show Act.put _ (some 99) _ = _
    simp only [Act.put, List.setIfInBounds_toArray, List.set_cons_zero, List.set_cons_succ]
    rfl
  refine pure_ (i := 5) (N := some 94) (v := ?_) (a' := ?_) #[true, true, true, true, true, true, false, false, false, false] rfl rfl (by kernel_rfl) (fun _ _ _ h => h) (Or.inl ⟨by rfl, ?_⟩) ?_ ?_; rotate_left
  · intro w'
    go_simp
    with_reducible rfl
  rotate_left
  · simp only [Act.put, List.setIfInBounds_toArray, List.set_cons_zero, List.set_cons_succ]
    rfl
  refine pure_ (i := 6) (N := some 100) (v := ?_) (a' := ?_) #[true, true, true, true, true, true, true, false, false, false] rfl rfl (by kernel_rfl) (fun _ _ _ h => h) (Or.inl ⟨by rfl, ?_⟩) ?_ ?_; rotate_left
  · intro w'
    go_simp
    with_reducible rfl
  rotate_left
  · simp only [Act.put, List.setIfInBounds_toArray, List.set_cons_zero, List.set_cons_succ]
    rfl
  refine pure_ (i := 7) (N := some 101) (v := ?_) (a' := ?_) #[true, true, true, true, true, true, true, true, false, false] rfl rfl (by kernel_rfl) (fun _ _ _ h => h) (Or.inl ⟨by rfl, ?_⟩) ?_ ?_; rotate_left
  · intro w'
    go_simp
    with_reducible rfl
  rotate_left
  · simp only [Act.put, List.setIfInBounds_toArray, List.set_cons_zero, List.set_cons_succ]
    rfl
  refine pure_ (i := 8) (N := some 15) (v := ?_) (a' := ?_) #[true, true, true, true, true, true, true, true, true, false] rfl rfl (by kernel_rfl) (fun _ _ _ h => h) (Or.inl ⟨by rfl, ?_⟩) ?_ ?_; rotate_left
  · intro w'
    go_simp
    with_reducible rfl
  rotate_left
  · simp only [Act.put, List.setIfInBounds_toArray, List.set_cons_zero, List.set_cons_succ]
    rfl
  refine pure_ (i := 9) (N := some 16) (v := ?_) (a' := ?_) #[true, true, true, true, true, true, true, true, true, true] rfl rfl (by kernel_rfl) (fun _ _ _ h => h) (Or.inl ⟨by rfl, ?_⟩) ?_ ?_; rotate_left
  · intro w'
    go_simp
    with_reducible rfl
  rotate_left
  · simp only [Act.put, List.setIfInBounds_toArray, List.set_cons_zero, List.set_cons_succ]
    rfl
  refine done_ (by kernel_rfl) ?_; clear U0; clear U1; clear U2; clear U3; clear U4; go_wp2_with fail; go_at_call 18; refine (laws_eqIntS.calls k4 _ _ y _ _ y true _ (Kd.R_reads' H.out).2.2 (Kd.R_reads' H.out).2.1 (Kd.R_reads' W0.out).2.2 (Kd.R_reads' W0.out).2.1 E4.out).mono ?_; rintro e w32 ⟨rfl, hd⟩; have hb := drawn_below hd; clear hd; have n_ := Aside0.mk (Kd.R_below W0.out hb); clear W0; have W0 := n_; clear n_; have n_ := Aside0.mk (Kd.R_below G.out hb); clear G; have G := n_; clear n_; have n_ := Aside0.mk (Kd.R_below H.out hb); clear H; have H := n_; clear n_; have n_ := Aside0.mk (blk_below BKB.out hb); clear BKB; have BKB := n_; clear n_; have n_ := Aside0.mk (blk_below BKW.out hb); clear BKW; have BKW := n_; clear n_; have n_ := Aside0.mk (blk_below BKX.out hb); clear BKX; have BKX := n_; clear n_; have n_ := Aside0.mk (blk_below BKY.out hb); clear BKY; have BKY := n_; clear n_; have n_ := Aside0.mk (below_step HB.out hb); clear HB; have HB := n_; clear n_; have n_ := Aside0.mk (And.intro (hb.size) HZ.out); clear HZ; have HZ := n_; clear n_; clear hb; go_wp2_with fail; go_at_call 24; refine (calls_of_args (by rw [HE.out]) (laws_heldIntS.calls kf A_G c_G t5 1 mm _ (Kd.R_reads' G.out).2.2 (by rw [← HE.out]; exact (Kd.R_reads' G.out).2.1) Ef.out)).mono ?_; rintro e w33 ⟨rfl, hd⟩; have hb := drawn_below hd; clear hd; have n_ := Aside0.mk (Kd.R_below W0.out hb); clear W0; have W0 := n_; clear n_; have n_ := Aside0.mk (Kd.R_below G.out hb); clear G; have G := n_; clear n_; have n_ := Aside0.mk (Kd.R_below H.out hb); clear H; have H := n_; clear n_; have n_ := Aside0.mk (blk_below BKB.out hb); clear BKB; have BKB := n_; clear n_; have n_ := Aside0.mk (blk_below BKW.out hb); clear BKW; have BKW := n_; clear n_; have n_ := Aside0.mk (blk_below BKX.out hb); clear BKX; have BKX := n_; clear n_; have n_ := Aside0.mk (blk_below BKY.out hb); clear BKY; have BKY := n_; clear n_; have n_ := Aside0.mk (below_step HB.out hb); clear HB; have HB := n_; clear n_; have n_ := Aside0.mk (And.intro (hb.size) HZ.out); clear HZ; have HZ := n_; clear n_; clear hb; go_wp2_with fail; go_ret; exact ⟨rfl, HB.out⟩

end Go.Proofs.YtdihodboopeakaaDoor.Pr
/-
Own text: what the laws' own helpers on []int come to: a copy, a comparison.
-/
namespace Go.Proofs.YtdihodboopeakaaDoor.Pure
open Go.RowKit Go.Proofs.YtdihodboopeakaaDoorW.PrintWords Go.Proofs.YtdihodboopeakaaDoorW.PrintLast Go.Proofs.YtdihodboopeakaaDoor.Pr Go.Proofs.YtdihodboopeakaaDoor.EvKit

theorem toIntS_l0 (l : List Int) (hl : l.length ≤ 35184372088832) (d : Nat) : ∀ i : Nat, i + d = l.length →
    Ev (fun k => laws_toIntS.l0 k l ((l.take i).map id ++ List.replicate (l.length - i) 0) i) (l.map id) := by
  induction d with
  | zero =>
    intro i hi; apply Ev.succ; simp only [laws_toIntS.l0, show ¬ ((i : Int) < (l.length : Int)) by omega, if_false]; (have : i = l.length := by omega); subst this; exact Ev.some (copy_done _ _ _)
  | succ d ih =>
    intro i hi; apply Ev.succ; (have hlen : ((l.take i).map id ++ List.replicate (l.length - i) (0 : Int)).length = l.length := by simp; omega); simp only [laws_toIntS.l0, hlen, show ((i : Int) < (l.length : Int)) by omega, show (0 : Int) ≤ (i : Int) by omega, if_true, Int.toNat_natCast]; rw [show wrap64 ((i : Int) + 1) = ((i + 1 : Nat) : Int) by rw [wrap64_id (by omega) (by omega)]; omega]; have := copy_step id (0 : Int) 0 l i (by omega); have e : rd l (i : Int) = id (l.getD i 0) := rfl; rw [e, this]; exact ih (i + 1) (by omega)
theorem toIntS_ev (l : List Int) (hl : l.length ≤ 35184372088832) : Ev (fun k => laws_toIntS.f k l) l := by
  simp only [laws_toIntS.f, Int.toNat_natCast, show (0 : Int) ≤ (l.length : Int) by omega, hl, if_true]; have := toIntS_l0 l hl l.length 0 (by omega)
  simpa using this

theorem eqIntS_l0 (l : List Int) (hl : l.length ≤ 35184372088832) (d : Nat) : ∀ i : Nat, i + d = l.length → Ev (fun k => laws_eqIntS.l0 k l l i) true := by
  induction d with
  | zero =>
    intro i hi; apply Ev.succ; simp only [laws_eqIntS.l0, show ¬ ((i : Int) < (l.length : Int)) by omega, if_false]; exact Ev.some rfl
  | succ d ih =>
    intro i hi; apply Ev.succ; simp only [laws_eqIntS.l0, show ((i : Int) < (l.length : Int)) by omega, show (0 : Int) ≤ (i : Int) by omega, if_true]; rw [show wrap64 ((i : Int) + 1) = ((i + 1 : Nat) : Int) by rw [wrap64_id (by omega) (by omega)]; omega]; exact ih (i + 1) (by omega)
theorem eqIntS_ev (l : List Int) (hl : l.length ≤ 35184372088832) : Ev (fun k => laws_eqIntS.f k l l) true := by
  simp only [laws_eqIntS.f, if_true]; exact eqIntS_l0 l hl l.length 0 (by omega)

end Go.Proofs.YtdihodboopeakaaDoor.Pure
/-
Own text: marks are 1, 2, ..; what is held is what was marked.
-/
namespace Go.Proofs.YtdihodboopeakaaDoor.Pure
open Go.RowKit Go.Proofs.YtdihodboopeakaaDoorW.PrintWords Go.Proofs.YtdihodboopeakaaDoorW.PrintLast Go.Proofs.YtdihodboopeakaaDoor.Pr Go.Proofs.YtdihodboopeakaaDoor.EvKit

/-- a, a + 1, .., n of them. -/
def seqI (a : Int) (n : Nat) : List Int := (List.range n).map fun j : Nat => a + (j : Int)
theorem seqI_length (a : Int) (n : Nat) : (seqI a n).length = n := by simp [seqI]
theorem rd_seqI (a : Int) (n i : Nat) (h : i < n) : rd (seqI a n) (i : Int) = a + i := by
  simp [rd, seqI, List.getD_eq_getElem?_getD, h]

theorem markIntS_l0 (n : Nat) (a : Int) (ha : 0 ≤ a) (han : a + n ≤ 9223372036854775806) (d : Nat) : ∀ (i : Nat) (l : List Int), i + d = n → l.length = n → (l.take i = seqI a i) →
    Ev (fun k => laws_markIntS.l0 k l (a + i) i) (a + n, seqI a n) := by
  induction d with
  | zero =>
    intro i l hi hl ht; apply Ev.succ; simp only [laws_markIntS.l0, show ¬ ((i : Int) < (l.length : Int)) by omega, if_false]; (have : i = n := by omega); subst this; refine Ev.some ?_; rw [← ht, List.take_of_length_le (by omega)]
  | succ d ih =>
    intro i l hi hl ht; apply Ev.succ; simp only [laws_markIntS.l0, show ((i : Int) < (l.length : Int)) by omega, show (0 : Int) ≤ (i : Int) by omega, if_true, Int.toNat_natCast]; rw [show wrap64 ((i : Int) + 1) = ((i + 1 : Nat) : Int) by rw [wrap64_id (by omega) (by omega)]; omega, show wrap64 (a + (i : Int) + 1) = a + ((i + 1 : Nat) : Int) by rw [wrap64_id (by omega) (by omega)]; omega]; refine ih (i + 1) _ (by omega) (by simpa using hl) ?_; rw [List.take_succ_eq_append_getElem (by simp; omega), List.take_set_of_le (by omega), ht]
    simp [seqI, List.range_succ]
theorem markIntS_ev (l : List Int) (a : Int) (ha : 0 ≤ a) (han : a + l.length ≤ 9223372036854775806) : Ev (fun k => laws_markIntS.f k l a) (a + l.length, seqI a l.length) := by
  simp only [laws_markIntS.f]; have := markIntS_l0 l.length a ha han l.length 0 l (by omega) rfl (by simp [seqI])
  simpa using this

theorem heldIntS_l0 (n : Nat) (a : Int) (ha : 0 ≤ a) (han : a + n ≤ 9223372036854775806) (d : Nat) : ∀ i : Nat, i + d = n → Ev (fun k => laws_heldIntS.l0 k (seqI a n) (a + i) i) (a + n) := by
  induction d with
  | zero =>
    intro i hi; apply Ev.succ; simp only [laws_heldIntS.l0, seqI_length, show ¬ ((i : Int) < (n : Int)) by omega, if_false]; exact Ev.some (by omega)
  | succ d ih =>
    intro i hi; apply Ev.succ; simp only [laws_heldIntS.l0, seqI_length, rd_seqI a n i (by omega), show ((i : Int) < (n : Int)) by omega, show (0 : Int) ≤ (i : Int) by omega, if_true]; rw [show wrap64 ((i : Int) + 1) = ((i + 1 : Nat) : Int) by rw [wrap64_id (by omega) (by omega)]; omega, show wrap64 (a + (i : Int) + 1) = a + ((i + 1 : Nat) : Int) by rw [wrap64_id (by omega) (by omega)]; omega]; exact ih (i + 1) (by omega)
theorem heldIntS_ev (n : Nat) (a : Int) (ha : 0 ≤ a) (han : a + n ≤ 9223372036854775806) : Ev (fun k => laws_heldIntS.f k (seqI a n) a) (a + n) := by
  simp only [laws_heldIntS.f]; have := heldIntS_l0 n a ha han n 0 (by omega)
  simpa using this
end Go.Proofs.YtdihodboopeakaaDoor.Pure
/- markIntSS and heldIntSS, to their ends. -/
namespace Go.Proofs.YtdihodboopeakaaDoor.Pure
open Go.RowKit Go.Proofs.YtdihodboopeakaaDoorW.PrintWords Go.Proofs.YtdihodboopeakaaDoorW.PrintLast Go.Proofs.YtdihodboopeakaaDoor.Pr Go.Proofs.YtdihodboopeakaaDoor.EvKit
set_option linter.unusedVariables false
def mk : List (List Int) → Int → List (List Int)
  | [], _ => []
  | y :: Y, a => seqI a y.length :: mk Y (a + y.length)
def tot : List (List Int) → Nat
  | [] => 0
  | y :: Y => y.length + tot Y
theorem markIntSS_l0 (Y : List (List Int)) : ∀ (X : List (List Int)) (a : Int), 0 ≤ a → a + tot Y ≤ 9223372036854775806 → X.length + Y.length ≤ 1048576 →
    Ev (fun k => laws_markIntSS.l0 k (X ++ Y) a X.length) (a + tot Y, X ++ mk Y a) := by
  induction Y with
  | nil =>
    intro X a h0 h1 h2; refine Ev.succ ?_; simp only [laws_markIntSS.l0, List.append_nil, show ¬ ((X.length : Int) < (X.length : Int)) by omega, if_false]; exact Ev.some (by simp [tot, mk])
  | cons y Y ih =>
    intro X a h0 h1 h2; simp only [tot, List.length_cons] at h1 h2; refine Ev.succ ?_; (have hl : (X ++ y :: Y).length = X.length + Y.length + 1 := by simp; omega); simp only [laws_markIntSS.l0, hl, show ((X.length : Int) < ((X.length + Y.length + 1 : Nat) : Int)) by omega, show (0 : Int) ≤ (X.length : Int) by omega, if_true, Int.toNat_natCast]; rw [show (X ++ y :: Y).getD X.length [] = y by rw [List.getD_eq_getElem?_getD, List.getElem?_append_right (Nat.le_refl _)]; simp]; refine Ev.bnd (markIntS_ev y a h0 (by omega)) ?_; rw [show (X ++ y :: Y).set X.length (a + (y.length : Int), seqI a y.length).2 = (X ++ [seqI a y.length]) ++ Y by rw [List.set_append, if_neg (by omega), Nat.sub_self]; simp]; have := ih (X ++ [seqI a y.length]) (a + y.length) (by omega) (by omega) (by simp; omega); rw [show ((X ++ [seqI a y.length]).length : Int) = wrap64 ((X.length : Int) + 1) by rw [wrap64_id (by omega) (by omega)]; simp] at this; refine Ev.eq this ?_; simp only [tot, mk, List.append_assoc, List.singleton_append, Int.natCast_add, Prod.mk.injEq, and_true]
    omega
theorem markIntSS_ev (l : List (List Int)) (a : Int) (h0 : 0 ≤ a) (h1 : a + tot l ≤ 9223372036854775806) (h2 : l.length ≤ 1048576) : Ev (fun k => laws_markIntSS.f k l a) (a + tot l, mk l a) := by
  simp only [laws_markIntSS.f]; exact markIntSS_l0 l [] a h0 h1 (by simpa using h2)
theorem tot_le (l : List (List Int)) (B : Nat) (h : ∀ x ∈ l, x.length ≤ B) : tot l ≤ l.length * B := by
  induction l with
  | nil => simp [tot]
  | cons y Y ih =>
    have h1 := h y (List.mem_cons_self ..); have h2 := ih (fun x hx => h x (List.mem_cons_of_mem _ hx)); simp only [tot, List.length_cons, Nat.succ_mul]
    omega
end Go.Proofs.YtdihodboopeakaaDoor.Pure
/-
Own text: what a name is: the program's reading of runes (over the model's own decoding) and the reference's come to the same.
-/
namespace Go.Proofs.YtdihodboopeakaaDoor.Pure
open Go.RowKit Go.Proofs.YtdihodboopeakaaDoorW.PrintWords Go.Proofs.YtdihodboopeakaaDoorW.PrintLast Go.Proofs.YtdihodboopeakaaDoor.Pr Go.Proofs.YtdihodboopeakaaDoor.EvKit

def szOf (b : Nat) : Nat := if 194 ≤ b ∧ b ≤ 223 then 2 else if 224 ≤ b ∧ b ≤ 239 then 3 else if 240 ≤ b ∧ b ≤ 244 then 4 else 0
def loOf (b : Nat) : Nat := if b = 224 then 160 else if b = 240 then 144 else 128
def hiOf (b : Nat) : Nat := if b = 237 then 159 else if b = 244 then 143 else 191
abbrev contOk (n b1 b2 b3 sz lo hi : Nat) : Prop := (1 < n ∧ lo ≤ b1 ∧ b1 ≤ hi) ∧ (3 ≤ sz → 2 < n ∧ 128 ≤ b2 ∧ b2 ≤ 191) ∧ (4 ≤ sz → 3 < n ∧ 128 ≤ b3 ∧ b3 ≤ 191)
/-- How many bytes the rune has; 0: there is none. -/
def rw4 (n b0 b1 b2 b3 : Nat) : Nat := if b0 < 128 then 1 else if szOf b0 = 0 then 0 else if contOk n b1 b2 b3 (szOf b0) (loOf b0) (hiOf b0) then szOf b0 else 0
def wid (d : Nat × Nat) : Nat := if d.1 = 65533 ∧ d.2 = 1 then 0 else d.2
theorem slow_wid (n b0 b1 b2 b3 sz lo hi : Nat) (hs : 2 ≤ sz) (hs4 : sz ≤ 4) : wid (Lib.slowN n b0 b1 b2 b3 sz lo hi) = if contOk n b1 b2 b3 sz lo hi then sz else 0 := by
  (have w0 : wid (65533, 1) = 0 := by decide); (have w2 (x y : Nat) (hy : 2 ≤ y) : wid (x, y) = y := by unfold wid; exact if_neg (fun h => by have := h.2; simp only at this; omega)); unfold Lib.slowN contOk; by_cases a : n < sz
  · rw [if_pos a, w0, if_neg (by omega)]
  rw [if_neg a]; by_cases b : b1 < lo ∨ hi < b1
  · rw [if_pos b, w0, if_neg (by omega)]
  rw [if_neg b]; by_cases c : sz ≤ 2
  · rw [if_pos c, w2 _ _ (by decide), if_pos (by omega)]
    omega
  rw [if_neg c]; by_cases d : b2 < 128 ∨ 191 < b2
  · rw [if_pos d, w0, if_neg (by omega)]
  rw [if_neg d]; by_cases e : sz ≤ 3
  · rw [if_pos e, w2 _ _ (by decide), if_pos (by omega)]
    omega
  rw [if_neg e]; by_cases f : b3 < 128 ∨ 191 < b3
  · rw [if_pos f, w0, if_neg (by omega)]
  rw [if_neg f, w2 _ _ (by decide), if_pos (by omega)]
  omega
theorem rw4_eq (n b0 b1 b2 b3 : Nat) (hn : 1 ≤ n) (h0 : b0 < 256) (h1 : b1 < 256) (h2 : b2 < 256) (h3 : b3 < 256) : wid (Lib.decodeN n b0 b1 b2 b3) = rw4 n b0 b1 b2 b3 := by
  unfold rw4; by_cases c1 : b0 < 128
  · rw [if_pos c1]
    (have e : Lib.decodeN n b0 b1 b2 b3 = (b0, 1) := by unfold Lib.decodeN; rw [if_pos c1]); rw [e]; unfold wid; rw [if_neg (by simp only; omega)]
  rw [if_neg c1]; by_cases c2 : 194 ≤ b0 ∧ b0 < 224
  · have es : szOf b0 = 2 := by unfold szOf; rw [if_pos (by omega)]
    (have el : loOf b0 = 128 := by unfold loOf; rw [if_neg (by omega), if_neg (by omega)]); (have eh : hiOf b0 = 191 := by unfold hiOf; rw [if_neg (by omega), if_neg (by omega)]); rw [es, el, eh, if_neg (by decide), ← Lib.slow_C2 n b0 b1 b2 b3 hn h1 h2 h3 c2, slow_wid _ _ _ _ _ _ _ _ (by decide) (by decide)]
  by_cases c3 : b0 = 224
  · have es : szOf b0 = 3 := by unfold szOf; rw [if_neg (by omega), if_pos (by omega)]
    (have el : loOf b0 = 160 := by unfold loOf; rw [if_pos c3]); (have eh : hiOf b0 = 191 := by unfold hiOf; rw [if_neg (by omega), if_neg (by omega)]); rw [es, el, eh, if_neg (by decide), ← Lib.slow_E0 n b0 b1 b2 b3 hn h1 h2 h3 c3, slow_wid _ _ _ _ _ _ _ _ (by decide) (by decide)]
  by_cases c4 : (225 ≤ b0 ∧ b0 < 237) ∨ (238 ≤ b0 ∧ b0 < 240)
  · have es : szOf b0 = 3 := by unfold szOf; rw [if_neg (by omega), if_pos (by omega)]
    (have el : loOf b0 = 128 := by unfold loOf; rw [if_neg (by omega), if_neg (by omega)]); (have eh : hiOf b0 = 191 := by unfold hiOf; rw [if_neg (by omega), if_neg (by omega)]); rw [es, el, eh, if_neg (by decide), ← Lib.slow_E1 n b0 b1 b2 b3 hn h1 h2 h3 c4, slow_wid _ _ _ _ _ _ _ _ (by decide) (by decide)]
  by_cases c5 : b0 = 237
  · have es : szOf b0 = 3 := by unfold szOf; rw [if_neg (by omega), if_pos (by omega)]
    (have el : loOf b0 = 128 := by unfold loOf; rw [if_neg (by omega), if_neg (by omega)]); (have eh : hiOf b0 = 159 := by unfold hiOf; rw [if_pos c5]); rw [es, el, eh, if_neg (by decide), ← Lib.slow_ED n b0 b1 b2 b3 hn h1 h2 h3 c5, slow_wid _ _ _ _ _ _ _ _ (by decide) (by decide)]
  by_cases c6 : b0 = 240
  · have es : szOf b0 = 4 := by unfold szOf; rw [if_neg (by omega), if_neg (by omega), if_pos (by omega)]
    (have el : loOf b0 = 144 := by unfold loOf; rw [if_neg (by omega), if_pos c6]); (have eh : hiOf b0 = 191 := by unfold hiOf; rw [if_neg (by omega), if_neg (by omega)]); rw [es, el, eh, if_neg (by decide), ← Lib.slow_F0 n b0 b1 b2 b3 hn h1 h2 h3 c6, slow_wid _ _ _ _ _ _ _ _ (by decide) (by decide)]
  by_cases c7 : 241 ≤ b0 ∧ b0 < 244
  · have es : szOf b0 = 4 := by unfold szOf; rw [if_neg (by omega), if_neg (by omega), if_pos (by omega)]
    (have el : loOf b0 = 128 := by unfold loOf; rw [if_neg (by omega), if_neg (by omega)]); (have eh : hiOf b0 = 191 := by unfold hiOf; rw [if_neg (by omega), if_neg (by omega)]); rw [es, el, eh, if_neg (by decide), ← Lib.slow_F1 n b0 b1 b2 b3 hn h1 h2 h3 c7, slow_wid _ _ _ _ _ _ _ _ (by decide) (by decide)]
  by_cases c8 : b0 = 244
  · have es : szOf b0 = 4 := by unfold szOf; rw [if_neg (by omega), if_neg (by omega), if_pos (by omega)]
    (have el : loOf b0 = 128 := by unfold loOf; rw [if_neg (by omega), if_neg (by omega)]); (have eh : hiOf b0 = 143 := by unfold hiOf; rw [if_neg (by omega), if_pos c8]); rw [es, el, eh, if_neg (by decide), ← Lib.slow_F4 n b0 b1 b2 b3 hn h1 h2 h3 c8, slow_wid _ _ _ _ _ _ _ _ (by decide) (by decide)]
  · have es : szOf b0 = 0 := by unfold szOf; rw [if_neg (by omega), if_neg (by omega), if_neg (by omega)]
    rw [es, if_pos rfl]; unfold Lib.decodeN wid
    repeat' split
    all_goals first | rfl | (exfalso; omega)
theorem bt_get (s : ByteArray) (i : Nat) (h : i < s.size) : bt s (i : Int) = ((s.get! i).toNat : Int) := by
  unfold bt; rw [dif_pos (by simpa using h)]
  have : s.get! i = s[i]'h := by
    have h2 : i < s.data.size := h
    cases s with
    | mk a => simp [ByteArray.get!, getElem!_pos, h2]; rfl
  rw [this]
  rfl
def rwAt (s : ByteArray) (i : Nat) : Nat := rw4 (s.size - i) (s.get! i).toNat (s.get! (i + 1)).toNat (s.get! (i + 2)).toNat (s.get! (i + 3)).toNat
theorem rwAt_eq (s : ByteArray) (i : Nat) (h : i < s.size) : rwAt s i = wid (Utf8.decode s i) := by
  unfold rwAt; rw [Lib.decode_at, rw4_eq _ _ _ _ _ (by omega) (UInt8.toNat_lt _) (UInt8.toNat_lt _) (UInt8.toNat_lt _) (UInt8.toNat_lt _)]
/-- One more byte of a rune. -/
theorem l22Rune_step (s : ByteArray) (hs : s.size ≤ 1000000000) (i sz j lo hi : Nat) (r : Int) (hj : j < sz) (h4 : sz ≤ 4) (hi0 : i < s.size)
    (hbad : ¬ (i + j < s.size ∧ lo ≤ (s.get! (i + j)).toNat ∧ (s.get! (i + j)).toNat ≤ hi) → r = 0)
    (hgo : (i + j < s.size ∧ lo ≤ (s.get! (i + j)).toNat ∧ (s.get! (i + j)).toNat ≤ hi) → Ev (fun k => spec_l22Rune.l0 k s i sz 128 191 ((j + 1 : Nat) : Int)) r) : Ev (fun k => spec_l22Rune.l0 k s i sz lo hi (j : Int)) r := by
  apply Ev.succ; (have hw : wrap64 ((i : Int) + (j : Int)) = ((i + j : Nat) : Int) := by rw [wrap64_id (by omega) (by omega)]; omega); (have hw1 : wrap64 ((j : Int) + 1) = ((j + 1 : Nat) : Int) := by rw [wrap64_id (by omega) (by omega)]; omega); simp only [spec_l22Rune.l0, show ((j : Int) < (sz : Int)) by omega, if_true, hw, hw1]; by_cases c1 : i + j < s.size
  · refine Ev.neg (by omega) (Ev.pos (by omega) (Ev.pos (by omega) ?_))
    rw [bt_get s (i + j) c1]; have hb := UInt8.toNat_lt (s.get! (i + j)); rw [wrap64_id (by omega) (by omega)]; by_cases c2 : (s.get! (i + j)).toNat < lo
    · exact Ev.pos (by omega) (Ev.some (hbad (by omega)).symm)
    · refine Ev.neg (by omega) ?_
      by_cases c3 : hi < (s.get! (i + j)).toNat
      · exact Ev.pos (by omega) (Ev.some (hbad (by omega)).symm)
      · exact Ev.neg (by omega) (hgo (by omega))
  · exact Ev.pos (by omega) (Ev.some (hbad (by omega)).symm)
theorem l22Rune_end (s : ByteArray) (i sz lo hi : Nat) (j : Nat) (hj : j = sz) : Ev (fun k => spec_l22Rune.l0 k s i sz lo hi (j : Int)) (sz : Int) := by
  apply Ev.succ; subst hj; simp only [spec_l22Rune.l0, Int.lt_irrefl, if_false]; exact Ev.some rfl
theorem l22Rune_l0 (s : ByteArray) (hs : s.size ≤ 1000000000) (i sz lo hi : Nat) (h2 : 2 ≤ sz) (h4 : sz ≤ 4) (hi0 : i < s.size) :
    Ev (fun k => spec_l22Rune.l0 k s i sz lo hi 1) ((if contOk (s.size - i) (s.get! (i + 1)).toNat (s.get! (i + 2)).toNat (s.get! (i + 3)).toNat sz lo hi then sz else 0 : Nat) : Int) := by
  generalize hr : (if contOk (s.size - i) (s.get! (i + 1)).toNat (s.get! (i + 2)).toNat (s.get! (i + 3)).toNat sz lo hi then sz else 0) = r; unfold contOk at hr; refine l22Rune_step s hs i sz 1 lo hi r (by omega) h4 hi0 (fun hb => ?_) (fun hg => ?_)
  · rw [← hr, if_neg (by omega)]; rfl
  by_cases e2 : sz = 2
  · subst e2
    (have : r = 2 := by rw [← hr, if_pos (by omega)]); subst this; exact l22Rune_end s i 2 128 191 2 rfl
  refine l22Rune_step s hs i sz 2 128 191 r (by omega) h4 hi0 (fun hb => ?_) (fun hg2 => ?_)
  · rw [← hr, if_neg (by omega)]; rfl
  by_cases e3 : sz = 3
  · subst e3
    (have : r = 3 := by rw [← hr, if_pos (by omega)]); subst this; exact l22Rune_end s i 3 128 191 3 rfl
  refine l22Rune_step s hs i sz 3 128 191 r (by omega) h4 hi0 (fun hb => ?_) (fun hg3 => ?_)
  · rw [← hr, if_neg (by omega)]; rfl
  (have e4 : sz = 4 := by omega); subst e4; (have : r = 4 := by rw [← hr, if_pos (by omega)]); subst this; exact l22Rune_end s i 4 128 191 4 rfl
theorem l22Rune_ev (s : ByteArray) (hs : s.size ≤ 1000000000) (i : Nat) (h : i < s.size) : Ev (fun k => spec_l22Rune.f k s i) ((rwAt s i : Nat) : Int) := by
  unfold spec_l22Rune.f; refine Ev.pos (by omega) (Ev.pos (by omega) ?_); have hb := UInt8.toNat_lt (s.get! i); rw [bt_get s i h, wrap64_id (x := ((s.get! i).toNat : Int)) (by omega) (by omega)]; unfold rwAt rw4; generalize hb0 : (s.get! i).toNat = b at hb; by_cases c1 : b < 128
  · rw [if_pos c1]
    exact Ev.pos (by omega) (Ev.some rfl)
  rw [if_neg c1]; refine Ev.neg (by omega) ?_
  have key (sz lo hi : Nat) (h2 : 2 ≤ sz) (h4 : sz ≤ 4) : Ev (fun k => spec_l22Rune.j3 k s i sz lo hi) ((if contOk (s.size - i) (s.get! (i + 1)).toNat (s.get! (i + 2)).toNat (s.get! (i + 3)).toNat sz lo hi then sz else 0 : Nat) : Int) := by
    apply Ev.succ; simp only [spec_l22Rune.j3]; exact l22Rune_l0 s hs i sz lo hi h2 h4 h
  by_cases c2 : 194 ≤ b ∧ b ≤ 223
  · have es : szOf b = 2 := by unfold szOf; rw [if_pos (by omega)]
    (have el : loOf b = 128 := by unfold loOf; rw [if_neg (by omega), if_neg (by omega)]); (have eh : hiOf b = 191 := by unfold hiOf; rw [if_neg (by omega), if_neg (by omega)]); rw [es, el, eh, if_neg (by decide)]; refine Ev.pos (by omega) ?_; apply Ev.succ; simp only [spec_l22Rune.j0]; exact Ev.pos (by simp; omega) (key 2 128 191 (by decide) (by decide))
  · have hj0 : ∀ x : Bool, x = false → Ev (fun k => spec_l22Rune.j0 k s i (b : Int) 128 191 x) (((if szOf b = 0 then 0 else if contOk (s.size - i) (s.get! (i + 1)).toNat (s.get! (i + 2)).toNat (s.get! (i + 3)).toNat (szOf b) (loOf b) (hiOf b) then szOf b else 0) : Nat) : Int) := by
      intro x hx; subst hx; apply Ev.succ; simp only [spec_l22Rune.j0, Bool.false_eq_true, if_false]; by_cases c3 : 224 ≤ b ∧ b ≤ 239
      · refine Ev.pos (by omega) ?_
        apply Ev.succ; simp only [spec_l22Rune.j1]; refine Ev.pos (by simp; omega) ?_; (have es : szOf b = 3 := by unfold szOf; rw [if_neg (by omega), if_pos (by omega)]); rw [es, if_neg (by decide)]; by_cases c4 : b = 224
        · have el : loOf b = 160 := by unfold loOf; rw [if_pos c4]
          (have eh : hiOf b = 191 := by unfold hiOf; rw [if_neg (by omega), if_neg (by omega)]); rw [el, eh]; exact Ev.pos (by omega) (Ev.neg (by omega) (key 3 160 191 (by decide) (by decide)))
        · have el : loOf b = 128 := by unfold loOf; rw [if_neg (by omega), if_neg (by omega)]
          rw [el]; refine Ev.neg (by omega) ?_; by_cases c5 : b = 237
          · have eh : hiOf b = 159 := by unfold hiOf; rw [if_pos c5]
            rw [eh]; exact Ev.pos (by omega) (key 3 128 159 (by decide) (by decide))
          · have eh : hiOf b = 191 := by unfold hiOf; rw [if_neg (by omega), if_neg (by omega)]
            rw [eh]; exact Ev.neg (by omega) (key 3 128 191 (by decide) (by decide))
      · have hj1 : ∀ y : Bool, y = false → Ev (fun k => spec_l22Rune.j1 k s i (b : Int) 128 191 y) (((if szOf b = 0 then 0 else if contOk (s.size - i) (s.get! (i + 1)).toNat (s.get! (i + 2)).toNat (s.get! (i + 3)).toNat (szOf b) (loOf b) (hiOf b) then szOf b else 0) : Nat) : Int) := by
          intro y hy; subst hy; apply Ev.succ; simp only [spec_l22Rune.j1, Bool.false_eq_true, if_false]; by_cases c6 : 240 ≤ b ∧ b ≤ 244
          · refine Ev.pos (by omega) ?_
            apply Ev.succ; simp only [spec_l22Rune.j2]; refine Ev.pos (by simp; omega) ?_; (have es : szOf b = 4 := by unfold szOf; rw [if_neg (by omega), if_neg (by omega), if_pos (by omega)]); rw [es, if_neg (by decide)]; by_cases c7 : b = 240
            · have el : loOf b = 144 := by unfold loOf; rw [if_neg (by omega), if_pos c7]
              (have eh : hiOf b = 191 := by unfold hiOf; rw [if_neg (by omega), if_neg (by omega)]); rw [el, eh]; exact Ev.pos (by omega) (Ev.neg (by omega) (key 4 144 191 (by decide) (by decide)))
            · have el : loOf b = 128 := by unfold loOf; rw [if_neg (by omega), if_neg (by omega)]
              rw [el]; refine Ev.neg (by omega) ?_; by_cases c8 : b = 244
              · have eh : hiOf b = 143 := by unfold hiOf; rw [if_neg (by omega), if_pos c8]
                rw [eh]; exact Ev.pos (by omega) (key 4 128 143 (by decide) (by decide))
              · have eh : hiOf b = 191 := by unfold hiOf; rw [if_neg (by omega), if_neg (by omega)]
                rw [eh]; exact Ev.neg (by omega) (key 4 128 191 (by decide) (by decide))
          · have es : szOf b = 0 := by unfold szOf; rw [if_neg (by omega), if_neg (by omega), if_neg (by omega)]
            rw [es, if_pos rfl]
            have hj2 : ∀ z : Bool, z = false → Ev (fun k => spec_l22Rune.j2 k s i (b : Int) 128 191 z) ((0 : Nat) : Int) := by
              intro z hz; subst hz; apply Ev.succ; simp only [spec_l22Rune.j2, Bool.false_eq_true, if_false]; exact Ev.some rfl
            exact Ev.ite (fun _ => hj2 _ (decide_eq_false (by omega))) (fun _ => hj2 _ rfl)
        exact Ev.ite (fun _ => hj1 _ (decide_eq_false (by omega))) (fun _ => hj1 _ rfl)
    exact Ev.ite (fun _ => hj0 _ (decide_eq_false (by omega))) (fun _ => hj0 _ rfl)
theorem decode_small (s : ByteArray) (i : Nat) (h : (s.get! i).toNat < 128) : Utf8.decode s i = ((s.get! i).toNat, 1) := by
  rw [Lib.decode_at]; unfold Lib.decodeN; rw [if_pos h]
theorem decode_great (s : ByteArray) (i : Nat) (h : ¬ (s.get! i).toNat < 128) : 128 ≤ (Utf8.decode s i).1 ∧ ((Utf8.decode s i).2 = 1 → (Utf8.decode s i).1 = 65533) := by
  rw [Lib.decode_at]; generalize (s.get! i).toNat = b0 at h; generalize (s.get! (i + 1)).toNat = b1; generalize (s.get! (i + 2)).toNat = b2; generalize (s.get! (i + 3)).toNat = b3; unfold Lib.decodeN; rw [if_neg h]
  repeat' split
  all_goals (refine ⟨?_, fun h => ?_⟩ <;> simp only at * <;> omega)
theorem decode_w (s : ByteArray) (i : Nat) : 1 ≤ (Utf8.decode s i).2 ∧ (Utf8.decode s i).2 ≤ 4 := by
  rw [Lib.decode_at]; generalize (s.get! i).toNat = b0; generalize (s.get! (i + 1)).toNat = b1; generalize (s.get! (i + 2)).toNat = b2; generalize (s.get! (i + 3)).toNat = b3; unfold Lib.decodeN
  repeat' split
  all_goals simp
theorem letter_eq (b : Int) : spec_l22Letter.f b = some (decide ((97 ≤ b ∧ b ≤ 122) ∨ (65 ≤ b ∧ b ≤ 90))) := by
  unfold spec_l22Letter.f; by_cases h1 : b ≥ 97
  · rw [if_pos h1]
    by_cases h2 : b ≤ 122
    · rw [if_pos h2, decide_eq_true (Or.inl ⟨h1, h2⟩)]
    · rw [if_neg h2, if_pos (by omega)]
      congr 1
      rw [Bool.eq_iff_iff]; simp only [decide_eq_true_eq]
      omega
  · rw [if_neg h1]
    by_cases h3 : b ≥ 65
    · rw [if_pos h3]
      congr 1
      rw [Bool.eq_iff_iff]; simp only [decide_eq_true_eq]
      omega
    · rw [if_neg h3, decide_eq_false (by omega)]
/-- What the reference's reading of a token tells. -/
def oddR (o : Int) (n : Int) : Int × Int := if o < 0 then (-1, n) else (o, 0)
theorem l22Odd_l0 (s : ByteArray) (hs : s.size ≤ 1000000000) (f : Nat) : ∀ (i x : Nat), s.size - i ≤ f → i ≤ s.size + 4 → x ≤ i →
    Ev (fun k => spec_l22Odd.l0 k s (x : Int) (i : Int)) (oddR (oddFrom s f i) ((x + Lib.runeCountFrom s f i : Nat) : Int)) := by
  induction f with
  | zero =>
    intro i x hf hi hx; apply Ev.succ; simp only [spec_l22Odd.l0, show ¬ ((i : Int) < (s.size : Int)) by omega, if_false]; exact Ev.some rfl
  | succ f ih =>
    intro i x hf hi hx; apply Ev.succ; simp only [spec_l22Odd.l0, oddFrom, Lib.runeCountFrom]; by_cases h : i < s.size
    · rw [if_pos h, if_pos h]
      refine Ev.pos (by omega) (Ev.bnd (l22Rune_ev s hs i h) ?_); rw [rwAt_eq s i h]; have hw := decode_w s i; by_cases c : (s.get! i).toNat < 128
      · have hd := decode_small s i c
        rw [hd]; (have e1 : wid ((s.get! i).toNat, 1) = 1 := by unfold wid; exact if_neg (fun h => by have := h.1; simp only at this; omega)); rw [e1]; refine Ev.neg (by decide) (Ev.pos rfl (Ev.pos (by omega) ?_)); rw [bt_get s i h]; refine Ev.bnd0 (letter_eq _) ?_; by_cases c2 : (97 ≤ (s.get! i).toNat ∧ (s.get! i).toNat ≤ 122) ∨ (65 ≤ (s.get! i).toNat ∧ (s.get! i).toNat ≤ 90)
        · have e2 : badRune ((s.get! i).toNat, 1) = false := decide_eq_false (fun h => by simp only at h; omega)
          rw [e2, if_neg (by decide)]; refine Ev.pos (decide_eq_true (by omega)) ?_; rw [show wrap64 ((x : Int) + 1) = ((x + 1 : Nat) : Int) by rw [wrap64_id (by omega) (by omega)]; omega, show wrap64 ((i : Int) + ((1 : Nat) : Int)) = ((i + 1 : Nat) : Int) by rw [wrap64_id (by omega) (by omega)]; omega]; refine Ev.eq (ih (i + 1) (x + 1) (by omega) (by omega) (by omega)) ?_; rw [Nat.add_assoc]
        · have e2 : badRune ((s.get! i).toNat, 1) = true := decide_eq_true (Or.inr ⟨c, c2⟩)
          rw [e2, if_pos rfl]; refine Ev.neg (fun h => c2 (by have := of_decide_eq_true h; omega)) (Ev.some ?_); unfold oddR; rw [if_neg (by omega)]
      · obtain ⟨g1, g2⟩ := decode_great s i c
        by_cases c2 : (Utf8.decode s i).1 = 65533 ∧ (Utf8.decode s i).2 = 1
        · have e1 : wid (Utf8.decode s i) = 0 := if_pos c2
          have e2 : badRune (Utf8.decode s i) = true := decide_eq_true (Or.inl c2); rw [e1, e2, if_pos rfl]; refine Ev.pos rfl (Ev.some ?_); unfold oddR; rw [if_neg (by omega)]
        · have e1 : wid (Utf8.decode s i) = (Utf8.decode s i).2 := if_neg c2
          have e2 : badRune (Utf8.decode s i) = false := decide_eq_false (fun h => h.elim c2 (fun h => by omega)); (have e3 : (Utf8.decode s i).2 ≠ 1 := fun h => c2 ⟨g2 h, h⟩); rw [e1, e2, if_neg (by decide)]; refine Ev.neg (by omega) (Ev.neg (by omega) ?_); rw [show wrap64 ((x : Int) + 1) = ((x + 1 : Nat) : Int) by rw [wrap64_id (by omega) (by omega)]; omega, show wrap64 ((i : Int) + (((Utf8.decode s i).2 : Nat) : Int)) = ((i + (Utf8.decode s i).2 : Nat) : Int) by rw [wrap64_id (by omega) (by omega)]; omega]; refine Ev.eq (ih (i + (Utf8.decode s i).2) (x + 1) (by omega) (by omega) (by omega)) ?_; rw [Nat.add_assoc]
    · rw [if_neg h, if_neg h]
      exact Ev.neg (by omega) (Ev.some (by simp [oddR]))
theorem l22Odd_ev (s : ByteArray) (hs : s.size ≤ 1000000000) : Ev (fun k => spec_l22Odd.f k s) (oddR (oddOf s) (Lib.runeCount s : Int)) := by
  unfold spec_l22Odd.f; have := l22Odd_l0 s hs s.size 0 0 (by omega) (by omega) (by omega)
  simpa [oddOf, Lib.runeCount] using this
/-- A name. -/
def NameOk (s : ByteArray) : Prop := 1 ≤ Lib.runeCount s ∧ Lib.runeCount s ≤ 12 ∧ oddOf s < 0
instance (s : ByteArray) : Decidable (NameOk s) := by unfold NameOk; infer_instance
theorem goodName_eq (s : ByteArray) (hs : s.size ≤ 1000000000) : impl_goodName.f s = some (decide (NameOk s)) := by
  unfold impl_goodName.f; rw [if_pos (by omega)]
  rfl
theorem l22Name_ev (s : ByteArray) (hs : s.size ≤ 1000000000) : Ev (fun k => spec_l22Name.f k s) (decide (NameOk s)) := by
  unfold spec_l22Name.f; refine Ev.bnd (l22Odd_ev s hs) ?_; unfold oddR; by_cases h : oddOf s < 0
  · rw [if_pos h]
    refine Ev.pos (by show (-1 : Int) < 0; decide) ?_; by_cases h1 : 1 ≤ Lib.runeCount s
    · refine Ev.pos (by simp only; omega) (Ev.some ?_)
      rw [Bool.eq_iff_iff]; simp only [decide_eq_true_eq]; unfold NameOk
      omega
    · refine Ev.neg (by simp only; omega) (Ev.some ?_)
      rw [decide_eq_false]; (exact fun h2 => h1 h2.1)
  · rw [if_neg h]
    refine Ev.neg (by simp only; omega) (Ev.some ?_); rw [decide_eq_false]; (exact fun h2 => h h2.2.2)
end Go.Proofs.YtdihodboopeakaaDoor.Pure
/-
Own text: what the laws' own helpers on []string and []bool come to: a copy, a comparison, a size.
-/
namespace Go.Proofs.YtdihodboopeakaaDoor.Pure
open Go.RowKit Go.Proofs.YtdihodboopeakaaDoorW.PrintWords Go.Proofs.YtdihodboopeakaaDoorW.PrintLast Go.Proofs.YtdihodboopeakaaDoor.Pr Go.Proofs.YtdihodboopeakaaDoor.EvKit

theorem toStringS_l0 (l : List ByteArray) (hl : l.length ≤ 1048576) (d : Nat) : ∀ i : Nat, i + d = l.length →
    Ev (fun k => laws_toStringS.l0 k l ((l.take i).map id ++ List.replicate (l.length - i) (⟨#[]⟩ : ByteArray)) i) (l.map id) := by
  induction d with
  | zero =>
    intro i hi; apply Ev.succ; simp only [laws_toStringS.l0, show ¬ ((i : Int) < (l.length : Int)) by omega, if_false]; (have : i = l.length := by omega); subst this; exact Ev.some (copy_done _ _ _)
  | succ d ih =>
    intro i hi; apply Ev.succ; (have hlen : ((l.take i).map id ++ List.replicate (l.length - i) (⟨#[]⟩ : ByteArray)).length = l.length := by simp; omega); simp only [laws_toStringS.l0, hlen, show ((i : Int) < (l.length : Int)) by omega, show (0 : Int) ≤ (i : Int) by omega, if_true, Int.toNat_natCast]; rw [show wrap64 ((i : Int) + 1) = ((i + 1 : Nat) : Int) by rw [wrap64_id (by omega) (by omega)]; omega]; have := copy_step id (⟨#[]⟩ : ByteArray) ByteArray.empty l i (by omega); have e : rdOf ByteArray.empty l (i : Int) = id (l.getD i ByteArray.empty) := rfl; rw [e, this]; exact ih (i + 1) (by omega)
theorem toStringS_ev (l : List ByteArray) (hl : l.length ≤ 1048576) : Ev (fun k => laws_toStringS.f k l) l := by
  simp only [laws_toStringS.f, Int.toNat_natCast, show (0 : Int) ≤ (l.length : Int) by omega, show l.length ≤ 17592186044416 by omega, if_true]; have := toStringS_l0 l hl l.length 0 (by omega)
  simpa using this
theorem eqStringS_l0 (l : List ByteArray) (hl : l.length ≤ 1048576) (d : Nat) : ∀ i : Nat, i + d = l.length → Ev (fun k => laws_eqStringS.l0 k l l i) true := by
  induction d with
  | zero =>
    intro i hi; apply Ev.succ; simp only [laws_eqStringS.l0, show ¬ ((i : Int) < (l.length : Int)) by omega, if_false]; exact Ev.some rfl
  | succ d ih =>
    intro i hi; apply Ev.succ; simp only [laws_eqStringS.l0, show ((i : Int) < (l.length : Int)) by omega, show (0 : Int) ≤ (i : Int) by omega, if_true]; rw [show wrap64 ((i : Int) + 1) = ((i + 1 : Nat) : Int) by rw [wrap64_id (by omega) (by omega)]; omega]; exact ih (i + 1) (by omega)
theorem eqStringS_ev (l : List ByteArray) (hl : l.length ≤ 1048576) : Ev (fun k => laws_eqStringS.f k l l) true := by
  simp only [laws_eqStringS.f, if_true]; exact eqStringS_l0 l hl l.length 0 (by omega)
theorem szStringS_l0 (l : List ByteArray) (hl : l.length ≤ 1048576) (hr : ∀ x ∈ l, x.size ≤ 140737488351232) (d : Nat) : ∀ (i : Nat) (a : Int), i + d = l.length → 0 ≤ a → a ≤ 1048576 →
    ∃ r, Ev (fun k => laws_szStringS.l0 k l a i) r ∧ (¬ r < 0 → r ≤ a ∧ ∀ j, i ≤ j → j < l.length → ((l.getD j ByteArray.empty).size : Int) ≤ 1048576) := by
  induction d with
  | zero =>
    intro i a hi h0 h1; refine ⟨a, ?_, fun _ => ⟨Int.le_refl _, fun j h2 h3 => by omega⟩⟩; apply Ev.succ; simp only [laws_szStringS.l0, show ¬ ((i : Int) < (l.length : Int)) by omega, if_false]; exact Ev.some rfl
  | succ d ih =>
    intro i a hi h0 h1; have hm := hr _ (getD_mem l i ByteArray.empty (by omega)); have e : rdOf ByteArray.empty l (i : Int) = l.getD i ByteArray.empty := rfl; (have hw : wrap64 (a - ((rdOf ByteArray.empty l (i : Int)).size : Int)) = a - ((l.getD i ByteArray.empty).size : Int) := by rw [e, wrap64_id (by omega) (by omega)]); by_cases c : a - ((l.getD i ByteArray.empty).size : Int) < 0
    · refine ⟨-1, ?_, fun h => absurd (by decide) h⟩
      apply Ev.succ; simp only [laws_szStringS.l0, show ((i : Int) < (l.length : Int)) by omega, show (0 : Int) ≤ (i : Int) by omega, if_true, hw]; exact Ev.pos c (Ev.some rfl)
    · obtain ⟨r, e1, e2⟩ := ih (i + 1) (a - ((l.getD i ByteArray.empty).size : Int)) (by omega) (by omega) (by omega)
      refine ⟨r, ?_, fun h => ?_⟩
      · apply Ev.succ
        simp only [laws_szStringS.l0, show ((i : Int) < (l.length : Int)) by omega, show (0 : Int) ≤ (i : Int) by omega, if_true, hw]; refine Ev.neg c ?_; rw [show wrap64 ((i : Int) + 1) = ((i + 1 : Nat) : Int) by rw [wrap64_id (by omega) (by omega)]; omega]; exact e1
      · obtain ⟨h2, h3⟩ := e2 h
        refine ⟨by omega, fun j hj hjl => ?_⟩; by_cases ej : j = i
        · subst ej; omega
        · exact h3 j (by omega) hjl
theorem szStringS_ev (l : List ByteArray) (a : Int) (h0 : 0 ≤ a) (h1 : a ≤ 1048576) (hl : l.length ≤ 9223372036854775807) (hr : ∀ x ∈ l, x.size ≤ 140737488351232) :
    ∃ r, Ev (fun k => laws_szStringS.f k l a) r ∧ (¬ r < 0 → r ≤ a ∧ l.length ≤ 1048576 ∧ ∀ x ∈ l, x.size ≤ 1048576) := by
  simp only [laws_szStringS.f]; rw [wrap64_id (x := a - (l.length : Int)) (by omega) (by omega)]; by_cases c : a - (l.length : Int) < 0
  · exact ⟨-1, Ev.pos c (Ev.some rfl), fun h => absurd (by decide) h⟩
  · obtain ⟨r, e1, e2⟩ := szStringS_l0 l (by omega) hr l.length 0 (a - (l.length : Int)) (by omega) (by omega) (by omega)
    refine ⟨r, Ev.neg c e1, fun h => ?_⟩; obtain ⟨h2, h3⟩ := e2 h; refine ⟨by omega, by omega, fun x hx => ?_⟩; obtain ⟨j, hj, rfl⟩ := List.getElem_of_mem hx; have := h3 j (by omega) hj; rw [List.getD_eq_getElem?_getD, List.getElem?_eq_getElem hj] at this; simp only [Option.getD_some] at this
    omega

theorem toBoolS_l0 (l : List Bool) (hl : l.length ≤ 1048576) (d : Nat) : ∀ i : Nat, i + d = l.length →
    Ev (fun k => laws_toBoolS.l0 k l ((l.take i).map id ++ List.replicate (l.length - i) false) i) (l.map id) := by
  induction d with
  | zero =>
    intro i hi; apply Ev.succ; simp only [laws_toBoolS.l0, show ¬ ((i : Int) < (l.length : Int)) by omega, if_false]; (have : i = l.length := by omega); subst this; exact Ev.some (copy_done _ _ _)
  | succ d ih =>
    intro i hi; apply Ev.succ; (have hlen : ((l.take i).map id ++ List.replicate (l.length - i) false).length = l.length := by simp; omega); simp only [laws_toBoolS.l0, hlen, show ((i : Int) < (l.length : Int)) by omega, show (0 : Int) ≤ (i : Int) by omega, if_true, Int.toNat_natCast]; rw [show wrap64 ((i : Int) + 1) = ((i + 1 : Nat) : Int) by rw [wrap64_id (by omega) (by omega)]; omega]; have := copy_step id false false l i (by omega); have e : rdOf false l (i : Int) = id (l.getD i false) := rfl; rw [e, this]; exact ih (i + 1) (by omega)
theorem toBoolS_ev (l : List Bool) (hl : l.length ≤ 1048576) : Ev (fun k => laws_toBoolS.f k l) l := by
  simp only [laws_toBoolS.f, Int.toNat_natCast, show (0 : Int) ≤ (l.length : Int) by omega, show l.length ≤ 281474976710656 by omega, if_true]; have := toBoolS_l0 l hl l.length 0 (by omega)
  simpa using this
theorem eqBoolS_l0 (l : List Bool) (hl : l.length ≤ 1048576) (d : Nat) : ∀ i : Nat, i + d = l.length → Ev (fun k => laws_eqBoolS.l0 k l l i) true := by
  induction d with
  | zero =>
    intro i hi; apply Ev.succ; simp only [laws_eqBoolS.l0, show ¬ ((i : Int) < (l.length : Int)) by omega, if_false]; exact Ev.some rfl
  | succ d ih =>
    intro i hi; apply Ev.succ; simp only [laws_eqBoolS.l0, show ((i : Int) < (l.length : Int)) by omega, show (0 : Int) ≤ (i : Int) by omega, if_true]; refine Ev.neg (by simp) ?_; rw [show wrap64 ((i : Int) + 1) = ((i + 1 : Nat) : Int) by rw [wrap64_id (by omega) (by omega)]; omega]; exact ih (i + 1) (by omega)
theorem eqBoolS_ev (l : List Bool) (hl : l.length ≤ 1048576) : Ev (fun k => laws_eqBoolS.f k l l) true := by
  simp only [laws_eqBoolS.f, if_true]; exact eqBoolS_l0 l hl l.length 0 (by omega)
theorem szBoolS_eq (l : List Bool) (a : Int) (hl : l.length ≤ 9223372036854775807) (h0 : 0 ≤ a) (h1 : a ≤ 1048576) :
    ∃ r, laws_szBoolS.f l a = some r ∧ (¬ r < 0 → (l.length : Int) ≤ a ∧ r ≤ a) := by
  simp only [laws_szBoolS.f]; rw [wrap64_id (x := a - (l.length : Int)) (by omega) (by omega)]; by_cases h : a - (l.length : Int) < 0
  · exact ⟨-1, by simp [h], by omega⟩
  · exact ⟨a - (l.length : Int), by simp only [h, if_false], by omega⟩
end Go.Proofs.YtdihodboopeakaaDoor.Pure
/-
Own text: what many of the pure proofs use: 'for all from i on', counters, 'between', the copy and the comparison of slices of bytes.
-/
namespace Go.Proofs.YtdihodboopeakaaDoor.Pure
open Go.RowKit Go.Proofs.YtdihodboopeakaaDoorW.PrintWords Go.Proofs.YtdihodboopeakaaDoor.EvKit

def From (n i : Nat) (C : Nat → Prop) : Prop := ∀ j, i ≤ j → j < n → C j
theorem From.end_ {n i : Nat} {C : Nat → Prop} (h : n ≤ i) : From n i C := fun j h1 h2 => by omega
theorem From.step {n i : Nat} {C : Nat → Prop} (h : i < n) : From n i C ↔ C i ∧ From n (i + 1) C := by
  constructor
  · exact fun a => ⟨a i (Nat.le_refl i) h, fun j h1 h2 => a j (by omega) h2⟩
  · rintro ⟨a, b⟩ j h1 h2
    by_cases e : j = i
    · exact e ▸ a
    · exact b j (by omega) h2
/-- One of those from i on, below n. -/
def Some_ (n i : Nat) (C : Nat → Prop) : Prop := ∃ j, i ≤ j ∧ j < n ∧ C j
theorem Some_.end_ {n i : Nat} {C : Nat → Prop} (h : n ≤ i) : ¬ Some_ n i C := by
  rintro ⟨j, h1, h2, _⟩
  omega
theorem Some_.step {n i : Nat} {C : Nat → Prop} (h : i < n) : Some_ n i C ↔ C i ∨ Some_ n (i + 1) C := by
  constructor
  · rintro ⟨j, h1, h2, h3⟩
    by_cases e : j = i
    · exact Or.inl (e ▸ h3)
    · exact Or.inr ⟨j, by omega, h2, h3⟩
  · rintro (a | ⟨j, h1, h2, h3⟩)
    · exact ⟨i, Nat.le_refl i, h, a⟩
    · exact ⟨j, by omega, h2, h3⟩
theorem succ_w {i : Nat} (h : i < 35184372088833) : wrap64 ((i : Int) + 1) = ((i + 1 : Nat) : Int) := by rw [wrap64_id (by omega) (by omega)]; omega
end Go.Proofs.YtdihodboopeakaaDoor.Pure
/-
Own text: what the laws' own helpers on [][]int come to: their size, a copy, a comparison.
-/
namespace Go.Proofs.YtdihodboopeakaaDoor.Pure
open Go.RowKit Go.Proofs.YtdihodboopeakaaDoorW.PrintWords Go.Proofs.YtdihodboopeakaaDoorW.PrintLast Go.Proofs.YtdihodboopeakaaDoor.Pr Go.Proofs.YtdihodboopeakaaDoor.EvKit

theorem toIntSS_l0 (l : List (List Int)) (hl : l.length ≤ 1048576) (hr : ∀ x ∈ l, x.length ≤ 1048576) (d : Nat) : ∀ i : Nat, i + d = l.length →
    Ev (fun k => laws_toIntSS.l0 k l ((l.take i).map id ++ List.replicate (l.length - i) []) i) (l.map id) := by
  induction d with
  | zero =>
    intro i hi; apply Ev.succ; simp only [laws_toIntSS.l0, show ¬ ((i : Int) < (l.length : Int)) by omega, if_false]; (have : i = l.length := by omega); subst this; exact Ev.some (copy_done _ _ _)
  | succ d ih =>
    intro i hi; apply Ev.succ; (have hlen : ((l.take i).map id ++ List.replicate (l.length - i) ([] : List Int)).length = l.length := by simp; omega); simp only [laws_toIntSS.l0, hlen, show ((i : Int) < (l.length : Int)) by omega, show (0 : Int) ≤ (i : Int) by omega, if_true, Int.toNat_natCast, succ_w (show i < 35184372088833 by omega)]; have hm := getD_mem l i [] (by omega); have := copy_step id ([] : List Int) [] l i (by omega); refine Ev.bnd (toIntS_ev (rd_L3 l (i : Int)) (Nat.le_trans (hr _ hm) (by omega))) ?_; have e : rd_L3 l (i : Int) = id (l.getD i []) := rfl; simp only [e, this]; exact ih (i + 1) (by omega)
theorem toIntSS_ev (l : List (List Int)) (hl : l.length ≤ 1048576) (hr : ∀ x ∈ l, x.length ≤ 1048576) : Ev (fun k => laws_toIntSS.f k l) l := by
  simp only [laws_toIntSS.f, Int.toNat_natCast, show (0 : Int) ≤ (l.length : Int) by omega, show l.length ≤ 11728124029610 by omega, if_true]; have := toIntSS_l0 l hl hr l.length 0 (by omega)
  simpa using this

theorem eqIntSS_l0 (l : List (List Int)) (hl : l.length ≤ 1048576) (hr : ∀ x ∈ l, x.length ≤ 1048576) (d : Nat) : ∀ i : Nat, i + d = l.length → Ev (fun k => laws_eqIntSS.l0 k l l i) true := by
  induction d with
  | zero =>
    intro i hi; apply Ev.succ; simp only [laws_eqIntSS.l0, show ¬ ((i : Int) < (l.length : Int)) by omega, if_false]; exact Ev.some rfl
  | succ d ih =>
    intro i hi; apply Ev.succ; simp only [laws_eqIntSS.l0, show ((i : Int) < (l.length : Int)) by omega, show (0 : Int) ≤ (i : Int) by omega, if_true, succ_w (show i < 35184372088833 by omega)]; have hm := getD_mem l i [] (by omega); exact Ev.bnd (eqIntS_ev (rd_L3 l (i : Int)) (Nat.le_trans (hr _ hm) (by omega))) (Ev.pos rfl (ih (i + 1) (by omega)))
theorem eqIntSS_ev (l : List (List Int)) (hl : l.length ≤ 1048576) (hr : ∀ x ∈ l, x.length ≤ 1048576) : Ev (fun k => laws_eqIntSS.f k l l) true := by
  simp only [laws_eqIntSS.f, if_true]; exact eqIntSS_l0 l hl hr l.length 0 (by omega)

theorem szIntS_eq (l : List Int) (a : Int) (hl : l.length ≤ 9223372036854775807) (h0 : 0 ≤ a) (h1 : a ≤ 1048576) :
    ∃ r, laws_szIntS.f l a = some r ∧ (¬ r < 0 → (l.length : Int) ≤ a ∧ r ≤ a) := by
  simp only [laws_szIntS.f]; rw [wrap64_id (x := a - (l.length : Int)) (by omega) (by omega)]; by_cases h : a - (l.length : Int) < 0
  · exact ⟨-1, by simp [h], by omega⟩
  · exact ⟨_, by rw [if_neg h], by omega⟩
theorem szIntSS_l0 (l : List (List Int)) (hl : l.length ≤ 1048576) (hr : ∀ x ∈ l, x.length ≤ 9223372036854775807) (d : Nat) : ∀ (i : Nat) (a : Int), i + d = l.length → 0 ≤ a → a ≤ 1048576 →
    ∃ r, Ev (fun k => laws_szIntSS.l0 k l a i) r ∧ (¬ r < 0 → r ≤ a ∧ ∀ j, i ≤ j → j < l.length → ((l.getD j []).length : Int) ≤ 1048576) := by
  induction d with
  | zero =>
    intro i a hi h0 h1; refine ⟨a, Ev.succ ?_, fun _ => ⟨Int.le_refl a, fun j a b => by omega⟩⟩; simp only [laws_szIntSS.l0, show ¬ ((i : Int) < (l.length : Int)) by omega, if_false]; exact Ev.some rfl
  | succ d ih =>
    intro i a hi h0 h1; have hm := getD_mem l i [] (by omega); obtain ⟨s, hs, hs2⟩ := szIntS_eq (l.getD i []) a (hr _ hm) h0 h1; by_cases hneg : s < 0
    · refine ⟨-1, Ev.succ ?_, by omega⟩
      simp only [laws_szIntSS.l0, show ((i : Int) < (l.length : Int)) by omega, show (0 : Int) ≤ (i : Int) by omega, if_true]; exact Ev.bnd0 hs (Ev.pos hneg (Ev.some rfl))
    · obtain ⟨h2, h3⟩ := hs2 hneg
      obtain ⟨r, hr1, hr2⟩ := ih (i + 1) s (by omega) (by omega) (by omega); refine ⟨r, Ev.succ ?_, fun h => ⟨by have := (hr2 h).1; omega, fun j a1 b1 => ?_⟩⟩
      · simp only [laws_szIntSS.l0, show ((i : Int) < (l.length : Int)) by omega, show (0 : Int) ≤ (i : Int) by omega, if_true, succ_w (show i < 35184372088833 by omega)]
        exact Ev.bnd0 hs (Ev.neg hneg hr1)
      · by_cases e : j = i
        · subst e; omega
        · exact (hr2 h).2 j (by omega) b1
theorem szIntSS_ev (l : List (List Int)) (a : Int) (h0 : 0 ≤ a) (h1 : a ≤ 1048576) (hl : l.length ≤ 9223372036854775807) (hr : ∀ x ∈ l, x.length ≤ 9223372036854775807) :
    ∃ r, Ev (fun k => laws_szIntSS.f k l a) r ∧ (¬ r < 0 → r ≤ a ∧ l.length ≤ 1048576 ∧ ∀ x ∈ l, x.length ≤ 1048576) := by
  simp only [laws_szIntSS.f]; rw [wrap64_id (x := a - (l.length : Int)) (by omega) (by omega)]; by_cases h : a - (l.length : Int) < 0
  · exact ⟨-1, Ev.pos h (Ev.some rfl), by omega⟩
  · obtain ⟨r, e1, e2⟩ := szIntSS_l0 l (by omega) hr l.length 0 (a - l.length) (by omega) (by omega) (by omega)
    refine ⟨r, Ev.neg h e1, fun hn => ⟨by have := (e2 hn).1; omega, by omega, fun x hx => ?_⟩⟩; obtain ⟨j, hj⟩ := List.getElem?_of_mem hx; have hj2 := (List.getElem?_eq_some_iff.1 hj).1; have := (e2 hn).2 j (by omega) hj2; rw [List.getD_eq_getElem?_getD, hj] at this
    simp at this
    omega
end Go.Proofs.YtdihodboopeakaaDoor.Pure
