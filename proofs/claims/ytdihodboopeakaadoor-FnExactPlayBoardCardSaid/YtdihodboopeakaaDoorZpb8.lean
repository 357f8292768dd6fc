-- Joined and pruned by wip/tools/prune.py out of this session's own texts (Pbx, PureInts, PureMarks, PureMss, PureName, PureText, PureBase, PureIntSS, PureBoard, PureWish, PureMk, PureRank, PureMet)
import Derived.Test.YtdihodboopeakaaDoorZpb7
import Derived.Lib.DecodeN
import Derived.Lib.RuneCountTail
import Derived.Lib.Strings
/- FnExactPlayBoard, walked by hand (gen-board.py). -/
namespace Go.Proofs.YtdihodboopeakaaDoor.Pr
open Go.RowKit Go.Proofs.YtdihodboopeakaaDoorW.PrintWords Go.Proofs.YtdihodboopeakaaDoorW.PrintLast Go.Proofs.YtdihodboopeakaaDoorW.PrintMore
attribute [local go_sem] bne_self_eq_false
set_option linter.unusedVariables false
set_option linter.unusedSimpArgs false

set_option maxHeartbeats 4000000 in
set_option maxRecDepth 100000 in
theorem law_PlayBoard_l5 (A0 : Option Addr) (c0 : Nat) (l0 : List ByteArray) (A1 : Option Addr) (c1 : Nat) (l1 : List Bool) (A2 : Option Addr) (c2 : Nat) (l2 : List (List Int)) (A5 : Option Addr) (c5 : Nat) (l5 : List Int) (A7 : Option Addr) (c7 : Nat) (l7 : List Int) (a6 : Int) (w : World) (hr0 : Kd.C Kd.string w A0 l0.length l0) (hc0 : l0.length ≤ c0) (hr1 : Kd.C Kd.bool w A1 l1.length l1) (hc1 : l1.length ≤ c1) (hr2 : Kd.C (Kd.slice 3 (Kd.int .i64)) w A2 l2.length l2) (hc2 : l2.length ≤ c2) (hr5 : Kd.C (Kd.int .i64) w A5 l5.length l5) (hc5 : l5.length ≤ c5) (hr7 : Kd.C (Kd.int .i64) w A7 l7.length l7) (hc7 : l7.length ≤ c7)
    (hs5 : (l5.length : Int) > 1048576) :
    Calls Tryd.prog 9 #[.agg #[.slice A0 l0.length c0, .slice A1 l1.length c1, .slice A2 l2.length c2], .slice A5 l5.length c5, .int .i64 a6, .slice A7 l7.length c7] w fun e w' => e = .returned (.bool true) ∧ Below w.heap.size w w' := by
  have hu26 := Tryd.underlying26
  have hu28 := Tryd.underlying28
  have hu34 := Tryd.underlying34
  have hu36 := Tryd.underlying36
  have HR0 := Aside0.mk hr0
  have HC0 := Aside0.mk hc0
  clear hr0 hc0
  have HR1 := Aside0.mk hr1
  have HC1 := Aside0.mk hc1
  clear hr1 hc1
  have HR2 := Aside0.mk hr2
  have HC2 := Aside0.mk hc2
  clear hr2 hc2
  have HR5 := Aside0.mk hr5
  have HC5 := Aside0.mk hc5
  clear hr5 hc5
  have HR7 := Aside0.mk hr7
  have HC7 := Aside0.mk hc7
  clear hr7 hc7
  have s5a : decide (1048576 < (l5.length : Int)) = true := decide_eq_true hs5
  have s5b : decide (1048576 < l5.length) = true := decide_eq_true (by omega)
  clear hs5
  go_enter Tryd.func9, Tryd.ntmps9
  have HB := Aside0.mk (Below.refl w.heap.size w)
  have HZ : Aside0 (w.heap.size ≤ w.heap.size) := ⟨Nat.le_refl _⟩
  go_wp2_with (first | ((with_reducible refine gate_dst (N := 4) rfl ?_); refine box_event ?hg (N := 4) ?hd (cs := #[.slice A0 l0.length c0, .slice A1 l1.length c1, .slice A2 l2.length c2]) (t := 26) ?hr ?_; (case hd => rfl); (case hg => rfl); (case hr => first | (go_simp; done) | (go_simp; rfl)); intro gbB hg w1 hbox hb; have G_gbB := Aside0.mk hg; clear hg; have n_ := Aside0.mk (below_step HB.out hb); clear HB; have HB := n_; clear n_; have n_ := Aside0.mk (And.intro (hb.size) HZ.out); clear HZ; have HZ := n_; clear n_; have BKB := Aside0.mk hbox; have L_gbB := Aside0.mk (blk_lt hbox); clear hb hbox))
  go_wp2_with fail
  go_ret
  exact ⟨rfl, HB.out⟩

set_option maxHeartbeats 4000000 in
set_option maxRecDepth 100000 in
theorem law_PlayBoard_l7 (A0 : Option Addr) (c0 : Nat) (l0 : List ByteArray) (A1 : Option Addr) (c1 : Nat) (l1 : List Bool) (A2 : Option Addr) (c2 : Nat) (l2 : List (List Int)) (A5 : Option Addr) (c5 : Nat) (l5 : List Int) (A7 : Option Addr) (c7 : Nat) (l7 : List Int) (a6 : Int) (w : World) (hr0 : Kd.C Kd.string w A0 l0.length l0) (hc0 : l0.length ≤ c0) (hr1 : Kd.C Kd.bool w A1 l1.length l1) (hc1 : l1.length ≤ c1) (hr2 : Kd.C (Kd.slice 3 (Kd.int .i64)) w A2 l2.length l2) (hc2 : l2.length ≤ c2) (hr5 : Kd.C (Kd.int .i64) w A5 l5.length l5) (hc5 : l5.length ≤ c5) (hr7 : Kd.C (Kd.int .i64) w A7 l7.length l7) (hc7 : l7.length ≤ c7)
    (hs5 : ¬ (l5.length : Int) > 1048576) (hs7 : (l7.length : Int) > 1048576) :
    Calls Tryd.prog 9 #[.agg #[.slice A0 l0.length c0, .slice A1 l1.length c1, .slice A2 l2.length c2], .slice A5 l5.length c5, .int .i64 a6, .slice A7 l7.length c7] w fun e w' => e = .returned (.bool true) ∧ Below w.heap.size w w' := by
  have hu26 := Tryd.underlying26
  have hu28 := Tryd.underlying28
  have hu34 := Tryd.underlying34
  have hu36 := Tryd.underlying36
  have HR0 := Aside0.mk hr0
  have HC0 := Aside0.mk hc0
  clear hr0 hc0
  have HR1 := Aside0.mk hr1
  have HC1 := Aside0.mk hc1
  clear hr1 hc1
  have HR2 := Aside0.mk hr2
  have HC2 := Aside0.mk hc2
  clear hr2 hc2
  have HR5 := Aside0.mk hr5
  have HC5 := Aside0.mk hc5
  clear hr5 hc5
  have HR7 := Aside0.mk hr7
  have HC7 := Aside0.mk hc7
  clear hr7 hc7
  have s5a : decide (1048576 < (l5.length : Int)) = false := decide_eq_false hs5
  have s5b : decide (1048576 < l5.length) = false := decide_eq_false (by omega)
  have s7a : decide (1048576 < (l7.length : Int)) = true := decide_eq_true hs7
  have s7b : decide (1048576 < l7.length) = true := decide_eq_true (by omega)
  clear hs5 hs7
  go_enter Tryd.func9, Tryd.ntmps9
  have HB := Aside0.mk (Below.refl w.heap.size w)
  have HZ : Aside0 (w.heap.size ≤ w.heap.size) := ⟨Nat.le_refl _⟩
  go_wp2_with (first | ((with_reducible refine gate_dst (N := 4) rfl ?_); refine box_event ?hg (N := 4) ?hd (cs := #[.slice A0 l0.length c0, .slice A1 l1.length c1, .slice A2 l2.length c2]) (t := 26) ?hr ?_; (case hd => rfl); (case hg => rfl); (case hr => first | (go_simp; done) | (go_simp; rfl)); intro gbB hg w1 hbox hb; have G_gbB := Aside0.mk hg; clear hg; have n_ := Aside0.mk (below_step HB.out hb); clear HB; have HB := n_; clear n_; have n_ := Aside0.mk (And.intro (hb.size) HZ.out); clear HZ; have HZ := n_; clear n_; have BKB := Aside0.mk hbox; have L_gbB := Aside0.mk (blk_lt hbox); clear hb hbox))
  go_wp2_with fail
  go_ret
  exact ⟨rfl, HB.out⟩

set_option maxHeartbeats 4000000 in
set_option maxRecDepth 100000 in
theorem law_PlayBoard_z0 (A0 : Option Addr) (c0 : Nat) (l0 : List ByteArray) (A1 : Option Addr) (c1 : Nat) (l1 : List Bool) (A2 : Option Addr) (c2 : Nat) (l2 : List (List Int)) (A5 : Option Addr) (c5 : Nat) (l5 : List Int) (A7 : Option Addr) (c7 : Nat) (l7 : List Int) (a6 : Int) (w : World) (hr0 : Kd.C Kd.string w A0 l0.length l0) (hc0 : l0.length ≤ c0) (hr1 : Kd.C Kd.bool w A1 l1.length l1) (hc1 : l1.length ≤ c1) (hr2 : Kd.C (Kd.slice 3 (Kd.int .i64)) w A2 l2.length l2) (hc2 : l2.length ≤ c2) (hr5 : Kd.C (Kd.int .i64) w A5 l5.length l5) (hc5 : l5.length ≤ c5) (hr7 : Kd.C (Kd.int .i64) w A7 l7.length l7) (hc7 : l7.length ≤ c7)
    (hs5 : ¬ (l5.length : Int) > 1048576) (hs7 : ¬ (l7.length : Int) > 1048576) (kz : Nat) (z0 : Int) (hz : laws_szBoard.f kz l0 l1 l2 1048576 = some z0) (hz0 : z0 < 0) :
    Calls Tryd.prog 9 #[.agg #[.slice A0 l0.length c0, .slice A1 l1.length c1, .slice A2 l2.length c2], .slice A5 l5.length c5, .int .i64 a6, .slice A7 l7.length c7] w fun e w' => e = .returned (.bool true) ∧ Below w.heap.size w w' := by
  have hu26 := Tryd.underlying26
  have hu28 := Tryd.underlying28
  have hu34 := Tryd.underlying34
  have hu36 := Tryd.underlying36
  have HR0 := Aside0.mk hr0
  have HC0 := Aside0.mk hc0
  clear hr0 hc0
  have HR1 := Aside0.mk hr1
  have HC1 := Aside0.mk hc1
  clear hr1 hc1
  have HR2 := Aside0.mk hr2
  have HC2 := Aside0.mk hc2
  clear hr2 hc2
  have HR5 := Aside0.mk hr5
  have HC5 := Aside0.mk hc5
  clear hr5 hc5
  have HR7 := Aside0.mk hr7
  have HC7 := Aside0.mk hc7
  clear hr7 hc7
  have s5a : decide (1048576 < (l5.length : Int)) = false := decide_eq_false hs5
  have s5b : decide (1048576 < l5.length) = false := decide_eq_false (by omega)
  clear hs5
  have s7a : decide (1048576 < (l7.length : Int)) = false := decide_eq_false hs7
  have s7b : decide (1048576 < l7.length) = false := decide_eq_false (by omega)
  clear hs7
  have Z0 := Aside0.mk hz
  have b0 : decide (z0 < 0) = true := decide_eq_true hz0
  clear hz hz0
  go_enter Tryd.func9, Tryd.ntmps9
  have HB := Aside0.mk (Below.refl w.heap.size w)
  have HZ : Aside0 (w.heap.size ≤ w.heap.size) := ⟨Nat.le_refl _⟩
  go_wp2_with (first | ((with_reducible refine gate_dst (N := 4) rfl ?_); refine box_event ?hg (N := 4) ?hd (cs := #[.slice A0 l0.length c0, .slice A1 l1.length c1, .slice A2 l2.length c2]) (t := 26) ?hr ?_; (case hd => rfl); (case hg => rfl); (case hr => first | (go_simp; done) | (go_simp; rfl)); intro gbB hg w1 hbox hb; have G_gbB := Aside0.mk hg; clear hg; have n_ := Aside0.mk (below_step HB.out hb); clear HB; have HB := n_; clear n_; have n_ := Aside0.mk (And.intro (hb.size) HZ.out); clear HZ; have HZ := n_; clear n_; have BKB := Aside0.mk hbox; have L_gbB := Aside0.mk (blk_lt hbox); clear hb hbox; have zgbB_0 : w1.cell? ⟨gbB, 0, none⟩ = some (.slice A0 l0.length c0) := (blk_cell BKB.out 0).trans rfl; have fgbB_0 := blk_frozen BKB.out 0; have zgbB_1 : w1.cell? ⟨gbB, 1, none⟩ = some (.slice A1 l1.length c1) := (blk_cell BKB.out 1).trans rfl; have fgbB_1 := blk_frozen BKB.out 1; have zgbB_2 : w1.cell? ⟨gbB, 2, none⟩ = some (.slice A2 l2.length c2) := (blk_cell BKB.out 2).trans rfl; have fgbB_2 := blk_frozen BKB.out 2))
  go_wp2_with fail
  go_at_call 12
  refine (laws_szBoard.calls kz _ _ l0 _ _ l1 _ _ l2 1048576 z0 _ (Kd.C_below HR0.out HB.out) HC0.out (Kd.C_below HR1.out HB.out) HC1.out (Kd.C_below HR2.out HB.out) HC2.out Z0.out).mono ?_
  rintro e w2 ⟨rfl, hb⟩
  have n_ := Aside0.mk (blk_below BKB.out hb)
  clear BKB; have BKB := n_; clear n_
  have n_ := Aside0.mk (below_step HB.out hb)
  clear HB; have HB := n_; clear n_
  have n_ := Aside0.mk (And.intro (hb.size) HZ.out)
  clear HZ; have HZ := n_; clear n_; clear hb; clear zgbB_0 fgbB_0 zgbB_1 fgbB_1 zgbB_2 fgbB_2
  go_wp2_with fail
  go_ret
  exact ⟨rfl, HB.out⟩

set_option maxHeartbeats 4000000 in
set_option maxRecDepth 100000 in
theorem law_PlayBoard (A0 : Option Addr) (c0 : Nat) (l0 : List ByteArray) (A1 : Option Addr) (c1 : Nat) (l1 : List Bool) (A2 : Option Addr) (c2 : Nat) (l2 : List (List Int)) (A5 : Option Addr) (c5 : Nat) (l5 : List Int) (A7 : Option Addr) (c7 : Nat) (l7 : List Int) (a6 : Int) (w : World) (hr0 : Kd.C Kd.string w A0 l0.length l0) (hc0 : l0.length ≤ c0) (hr1 : Kd.C Kd.bool w A1 l1.length l1) (hc1 : l1.length ≤ c1) (hr2 : Kd.C (Kd.slice 3 (Kd.int .i64)) w A2 l2.length l2) (hc2 : l2.length ≤ c2) (hr5 : Kd.C (Kd.int .i64) w A5 l5.length l5) (hc5 : l5.length ≤ c5) (hr7 : Kd.C (Kd.int .i64) w A7 l7.length l7) (hc7 : l7.length ≤ c7)
    (hs5 : ¬ (l5.length : Int) > 1048576) (hs7 : ¬ (l7.length : Int) > 1048576) (ht : Tabs w) (y : List Int) (b : Bool) (t0 : List ByteArray) (t1 : List Bool) (t2 : List (List Int)) (t3 t4 : List Int) (t5 : List Int) (z0 m0 m1 m2 m3 mm m4 : Int) (kz k0 k2 k3 k4 k5 k6 ka kb kc kd ke kf kx ky k6b kd2 : Nat) (hz : laws_szBoard.f kz l0 l1 l2 1048576 = some z0) (h0 : laws_toBoard.f k0 l0 l1 l2 = some (l0, l1, l2)) (hx : laws_toIntS.f kx l5 = some l5) (hy : laws_toIntS.f ky l7 = some l7) (h2 : spec_PlayBoard.f k2 l0 l1 l2 l5 a6 l7 = some (y, b)) (h3 : impl_PlayBoard.f k3 l0 l1 l2 l5 a6 l7 = some (y, b)) (h4 : laws_eqIntS.f k4 y y = some true) (h5 : laws_eqBoard.f k5 l0 l1 l2 l0 l1 l2 = some true) (h6 : laws_eqIntS.f k6 l5 l5 = some true) (h6b : laws_eqIntS.f k6b l7 l7 = some true) (ha : laws_markStringS.f ka l0 1 = some (m0, t0)) (hb : laws_markBoolS.f kb l1 m0 = some (m1, t1)) (hc : laws_markIntSS.f kc l2 m1 = some (m2, t2)) (hd : laws_markIntS.f kd l5 m2 = some (m4, t3)) (hd2 : laws_markIntS.f kd2 l7 m4 = some (m3, t4)) (he : laws_markIntS.f ke y 1 = some (mm, t5)) (hf : laws_heldIntS.f kf t5 1 = some mm) (hz0 : ¬ z0 < 0) (hm3 : ¬ m3 < 0) (hmm : ¬ mm < 0) :
    Calls Tryd.prog 9 #[.agg #[.slice A0 l0.length c0, .slice A1 l1.length c1, .slice A2 l2.length c2], .slice A5 l5.length c5, .int .i64 a6, .slice A7 l7.length c7] w fun e w' => e = .returned (.bool true) ∧ Below w.heap.size w w' := by
  have hu26 := Tryd.underlying26
  have hu28 := Tryd.underlying28
  have hu34 := Tryd.underlying34
  have hu36 := Tryd.underlying36
  have HR0 := Aside0.mk hr0
  have HC0 := Aside0.mk hc0
  clear hr0 hc0
  have HR1 := Aside0.mk hr1
  have HC1 := Aside0.mk hc1
  clear hr1 hc1
  have HR2 := Aside0.mk hr2
  have HC2 := Aside0.mk hc2
  clear hr2 hc2
  have HR5 := Aside0.mk hr5
  have HC5 := Aside0.mk hc5
  clear hr5 hc5
  have HR7 := Aside0.mk hr7
  have HC7 := Aside0.mk hc7
  clear hr7 hc7
  have s5a : decide (1048576 < (l5.length : Int)) = false := decide_eq_false hs5
  have s5b : decide (1048576 < l5.length) = false := decide_eq_false (by omega)
  clear hs5
  have s7a : decide (1048576 < (l7.length : Int)) = false := decide_eq_false hs7
  have s7b : decide (1048576 < l7.length) = false := decide_eq_false (by omega)
  clear hs7
  have HTb_ := Aside0.mk ht
  clear ht
  have Z0 := Aside0.mk hz
  clear hz
  have E0 := Aside0.mk h0
  clear h0
  have Ex := Aside0.mk hx
  clear hx
  have Ey := Aside0.mk hy
  clear hy
  have E2 := Aside0.mk h2
  clear h2
  have E3 := Aside0.mk h3
  clear h3
  have E4 := Aside0.mk h4
  clear h4
  have E5 := Aside0.mk h5
  clear h5
  have E6 := Aside0.mk h6
  clear h6
  have E6b := Aside0.mk h6b
  clear h6b
  have Ea := Aside0.mk ha
  clear ha
  have Eb := Aside0.mk hb
  clear hb
  have Ec := Aside0.mk hc
  clear hc
  have Ed := Aside0.mk hd
  clear hd
  have Ed2 := Aside0.mk hd2
  clear hd2
  have Ee := Aside0.mk he
  clear he
  have Ef := Aside0.mk hf
  clear hf
  have b_z0 : decide (z0 < 0) = false := decide_eq_false hz0
  clear hz0
  have b_m3 : decide (m3 < 0) = false := decide_eq_false hm3
  clear hm3
  have b_mm : decide (mm < 0) = false := decide_eq_false hmm
  clear hmm
  go_enter Tryd.func9, Tryd.ntmps9
  have HB := Aside0.mk (Below.refl w.heap.size w)
  have HZ : Aside0 (w.heap.size ≤ w.heap.size) := ⟨Nat.le_refl _⟩
  go_wp2_with (first | ((with_reducible refine gate_dst (N := 4) rfl ?_); refine box_event ?hg (N := 4) ?hd (cs := #[.slice A0 l0.length c0, .slice A1 l1.length c1, .slice A2 l2.length c2]) (t := 26) ?hr ?_; (case hd => rfl); (case hg => rfl); (case hr => first | (go_simp; done) | (go_simp; rfl)); intro gbB hg w1 hbox hb; have G_gbB := Aside0.mk hg; clear hg; have n_ := Aside0.mk (below_step HB.out hb); clear HB; have HB := n_; clear n_; have n_ := Aside0.mk (And.intro (hb.size) HZ.out); clear HZ; have HZ := n_; clear n_; have BKB := Aside0.mk hbox; have L_gbB := Aside0.mk (blk_lt hbox); clear hb hbox; have zgbB_0 : w1.cell? ⟨gbB, 0, none⟩ = some (.slice A0 l0.length c0) := (blk_cell BKB.out 0).trans rfl; have fgbB_0 := blk_frozen BKB.out 0; have zgbB_1 : w1.cell? ⟨gbB, 1, none⟩ = some (.slice A1 l1.length c1) := (blk_cell BKB.out 1).trans rfl; have fgbB_1 := blk_frozen BKB.out 1; have zgbB_2 : w1.cell? ⟨gbB, 2, none⟩ = some (.slice A2 l2.length c2) := (blk_cell BKB.out 2).trans rfl; have fgbB_2 := blk_frozen BKB.out 2))
  go_wp2_with fail
  go_at_call 12
  refine (laws_szBoard.calls kz _ _ l0 _ _ l1 _ _ l2 1048576 z0 _ (Kd.C_below HR0.out HB.out) HC0.out (Kd.C_below HR1.out HB.out) HC1.out (Kd.C_below HR2.out HB.out) HC2.out Z0.out).mono ?_
  rintro e w2 ⟨rfl, hb⟩
  have n_ := Aside0.mk (blk_below BKB.out hb)
  clear BKB; have BKB := n_; clear n_
  have n_ := Aside0.mk (below_step HB.out hb)
  clear HB; have HB := n_; clear n_
  have n_ := Aside0.mk (And.intro (hb.size) HZ.out)
  clear HZ; have HZ := n_; clear n_; clear hb; clear zgbB_0 fgbB_0 zgbB_1 fgbB_1 zgbB_2 fgbB_2
  have zgbB_0 : w2.cell? ⟨gbB, 0, none⟩ = some (.slice A0 l0.length c0) := (blk_cell BKB.out 0).trans rfl
  have fgbB_0 := blk_frozen BKB.out 0
  have zgbB_1 : w2.cell? ⟨gbB, 1, none⟩ = some (.slice A1 l1.length c1) := (blk_cell BKB.out 1).trans rfl
  have fgbB_1 := blk_frozen BKB.out 1
  have zgbB_2 : w2.cell? ⟨gbB, 2, none⟩ = some (.slice A2 l2.length c2) := (blk_cell BKB.out 2).trans rfl
  have fgbB_2 := blk_frozen BKB.out 2
  go_wp2_with fail
  go_at_call 15
  refine (laws_toBoard.calls k0 _ _ l0 _ _ l1 _ _ l2 l0 l1 l2 _ (Kd.C_below HR0.out HB.out) HC0.out (Kd.C_below HR1.out HB.out) HC1.out (Kd.C_below HR2.out HB.out) HC2.out E0.out).mono ?_
  rintro e w3 ⟨va, vb, vc, rfl, ho0, ho1, ho2, hb⟩
  have n_ := Aside0.mk (blk_below BKB.out hb)
  clear BKB; have BKB := n_; clear n_
  have n_ := Aside0.mk (below_step HB.out hb)
  clear HB; have HB := n_; clear n_
  have n_ := Aside0.mk (And.intro (hb.size) HZ.out)
  clear HZ; have HZ := n_; clear n_; clear hb
  obtain ⟨A_T0, c_T0, e_T0⟩ := Kd.R_slice ho0
  subst e_T0
  have T0 := Aside0.mk (R_mk (base := w.heap.size) ho0 (by have z := HZ.out; have g_gbB := G_gbB.out; have l_gbB := L_gbB.out; omega))
  clear ho0
  obtain ⟨A_T1, c_T1, e_T1⟩ := Kd.R_slice ho1
  subst e_T1
  have T1 := Aside0.mk (R_mk (base := w.heap.size) ho1 (by have z := HZ.out; have g_gbB := G_gbB.out; have l_gbB := L_gbB.out; omega))
  clear ho1
  obtain ⟨A_T2, c_T2, e_T2⟩ := Kd.S_slice ho2
  subst e_T2
  have T2 := Aside0.mk (S_mk (base := w.heap.size) ho2 (by have z := HZ.out; have g_gbB := G_gbB.out; have l_gbB := L_gbB.out; omega))
  clear ho2; clear zgbB_0 fgbB_0 zgbB_1 fgbB_1 zgbB_2 fgbB_2
  go_wp2_with fail
  go_at_call 37
  refine (laws_toIntS.calls kx _ _ l5 l5 _ (Kd.C_below HR5.out HB.out) HC5.out Ex.out).mono ?_
  rintro e w4 ⟨va, rfl, ho0, hb⟩
  have n_ := Aside0.mk (Kd.R_below T0.out hb)
  clear T0; have T0 := n_; clear n_
  have n_ := Aside0.mk (Kd.R_below T1.out hb)
  clear T1; have T1 := n_; clear n_
  have n_ := Aside0.mk (Kd.S_below T2.out hb)
  clear T2; have T2 := n_; clear n_
  have n_ := Aside0.mk (blk_below BKB.out hb)
  clear BKB; have BKB := n_; clear n_
  have n_ := Aside0.mk (below_step HB.out hb)
  clear HB; have HB := n_; clear n_
  have n_ := Aside0.mk (And.intro (hb.size) HZ.out)
  clear HZ; have HZ := n_; clear n_; clear hb
  obtain ⟨A_T5, c_T5, e_T5⟩ := Kd.R_slice ho0
  subst e_T5
  have T5 := Aside0.mk (R_mk (base := w.heap.size) ho0 (by have z := HZ.out; have g_gbB := G_gbB.out; have l_gbB := L_gbB.out; omega))
  clear ho0
  go_wp2_with fail
  go_at_call 37
  refine (laws_toIntS.calls ky _ _ l7 l7 _ (Kd.C_below HR7.out HB.out) HC7.out Ey.out).mono ?_
  rintro e w5 ⟨va, rfl, ho0, hb⟩
  have n_ := Aside0.mk (Kd.R_below T0.out hb)
  clear T0; have T0 := n_; clear n_
  have n_ := Aside0.mk (Kd.R_below T1.out hb)
  clear T1; have T1 := n_; clear n_
  have n_ := Aside0.mk (Kd.S_below T2.out hb)
  clear T2; have T2 := n_; clear n_
  have n_ := Aside0.mk (Kd.R_below T5.out hb)
  clear T5; have T5 := n_; clear n_
  have n_ := Aside0.mk (blk_below BKB.out hb)
  clear BKB; have BKB := n_; clear n_
  have n_ := Aside0.mk (below_step HB.out hb)
  clear HB; have HB := n_; clear n_
  have n_ := Aside0.mk (And.intro (hb.size) HZ.out)
  clear HZ; have HZ := n_; clear n_; clear hb
  obtain ⟨A_T7, c_T7, e_T7⟩ := Kd.R_slice ho0
  subst e_T7
  have T7 := Aside0.mk (R_mk (base := w.heap.size) ho0 (by have z := HZ.out; have g_gbB := G_gbB.out; have l_gbB := L_gbB.out; omega))
  clear ho0
  go_wp2_with fail
  go_at_call 39
  refine (spec_PlayBoard.calls k2 _ _ l0 _ _ l1 _ _ l2 _ _ l5 a6 _ _ l7 y b _ (Kd.R_reads' T0.out).2.2 (Kd.R_reads' T0.out).2.1 (Kd.R_reads' T1.out).2.2 (Kd.R_reads' T1.out).2.1 (Kd.S_reads' T2.out).2.2 (Kd.S_reads' T2.out).2.1 (Kd.R_reads' T5.out).2.2 (Kd.R_reads' T5.out).2.1 (Kd.R_reads' T7.out).2.2 (Kd.R_reads' T7.out).2.1 E2.out).mono ?_
  rintro e w6 ⟨va, rfl, ho0, hb⟩
  have n_ := Aside0.mk (Kd.R_below T0.out hb)
  clear T0; have T0 := n_; clear n_
  have n_ := Aside0.mk (Kd.R_below T1.out hb)
  clear T1; have T1 := n_; clear n_
  have n_ := Aside0.mk (Kd.S_below T2.out hb)
  clear T2; have T2 := n_; clear n_
  have n_ := Aside0.mk (Kd.R_below T5.out hb)
  clear T5; have T5 := n_; clear n_
  have n_ := Aside0.mk (Kd.R_below T7.out hb)
  clear T7; have T7 := n_; clear n_
  have n_ := Aside0.mk (blk_below BKB.out hb)
  clear BKB; have BKB := n_; clear n_
  have n_ := Aside0.mk (below_step HB.out hb)
  clear HB; have HB := n_; clear n_
  have n_ := Aside0.mk (And.intro (hb.size) HZ.out)
  clear HZ; have HZ := n_; clear n_; clear hb
  obtain ⟨A_W0, c_W0, e_W0⟩ := Kd.R_slice ho0
  subst e_W0
  have W0 := Aside0.mk (R_mk (base := w.heap.size) ho0 (by have z := HZ.out; have g_gbB := G_gbB.out; have l_gbB := L_gbB.out; omega))
  clear ho0; clear T0; clear T1; clear T2; clear T5; clear T7
  have zgbB_0 : w6.cell? ⟨gbB, 0, none⟩ = some (.slice A0 l0.length c0) := (blk_cell BKB.out 0).trans rfl
  have fgbB_0 := blk_frozen BKB.out 0
  have zgbB_1 : w6.cell? ⟨gbB, 1, none⟩ = some (.slice A1 l1.length c1) := (blk_cell BKB.out 1).trans rfl
  have fgbB_1 := blk_frozen BKB.out 1
  have zgbB_2 : w6.cell? ⟨gbB, 2, none⟩ = some (.slice A2 l2.length c2) := (blk_cell BKB.out 2).trans rfl
  have fgbB_2 := blk_frozen BKB.out 2
  go_wp2_with fail
  go_at_call 15
  refine (laws_toBoard.calls k0 _ _ l0 _ _ l1 _ _ l2 l0 l1 l2 _ (Kd.C_below HR0.out HB.out) HC0.out (Kd.C_below HR1.out HB.out) HC1.out (Kd.C_below HR2.out HB.out) HC2.out E0.out).mono ?_
  rintro e w7 ⟨va, vb, vc, rfl, ho0, ho1, ho2, hb⟩
  have n_ := Aside0.mk (Kd.R_below W0.out hb)
  clear W0; have W0 := n_; clear n_
  have n_ := Aside0.mk (blk_below BKB.out hb)
  clear BKB; have BKB := n_; clear n_
  have n_ := Aside0.mk (below_step HB.out hb)
  clear HB; have HB := n_; clear n_
  have n_ := Aside0.mk (And.intro (hb.size) HZ.out)
  clear HZ; have HZ := n_; clear n_; clear hb
  obtain ⟨A_X0, c_X0, e_X0⟩ := Kd.R_slice ho0
  subst e_X0
  have X0 := Aside0.mk (R_mk (base := w.heap.size) ho0 (by have z := HZ.out; have g_gbB := G_gbB.out; have l_gbB := L_gbB.out; omega))
  clear ho0
  obtain ⟨A_X1, c_X1, e_X1⟩ := Kd.R_slice ho1
  subst e_X1
  have X1 := Aside0.mk (R_mk (base := w.heap.size) ho1 (by have z := HZ.out; have g_gbB := G_gbB.out; have l_gbB := L_gbB.out; omega))
  clear ho1
  obtain ⟨A_X2, c_X2, e_X2⟩ := Kd.S_slice ho2
  subst e_X2
  have X2 := Aside0.mk (S_mk (base := w.heap.size) ho2 (by have z := HZ.out; have g_gbB := G_gbB.out; have l_gbB := L_gbB.out; omega))
  clear ho2; clear zgbB_0 fgbB_0 zgbB_1 fgbB_1 zgbB_2 fgbB_2
  go_wp2_with (first | ((with_reducible refine gate_dst (N := 12) rfl ?_); refine box_event ?hg (N := 12) ?hd (cs := #[.slice none 0 0, .slice none 0 0, .slice none 0 0]) (t := 34) ?hr ?_; (case hd => rfl); (case hg => rfl); (case hr => first | (go_simp; done) | (go_simp; rfl)); intro gbX hg w8 hbox hb; have G_gbX := Aside0.mk hg; clear hg; have n_ := Aside0.mk (Kd.R_below W0.out hb); clear W0; have W0 := n_; clear n_; have n_ := Aside0.mk (Kd.R_below X0.out hb); clear X0; have X0 := n_; clear n_; have n_ := Aside0.mk (Kd.R_below X1.out hb); clear X1; have X1 := n_; clear n_; have n_ := Aside0.mk (Kd.S_below X2.out hb); clear X2; have X2 := n_; clear n_; have n_ := Aside0.mk (blk_below BKB.out hb); clear BKB; have BKB := n_; clear n_; have n_ := Aside0.mk (below_step HB.out hb); clear HB; have HB := n_; clear n_; have n_ := Aside0.mk (And.intro (hb.size) HZ.out); clear HZ; have HZ := n_; clear n_; have BKX := Aside0.mk hbox; have L_gbX := Aside0.mk (blk_lt hbox); clear hb hbox; have zgbX_0 : w8.cell? ⟨gbX, 0, none⟩ = some (.slice none 0 0) := (blk_cell BKX.out 0).trans rfl; have fgbX_0 := blk_frozen BKX.out 0; have zgbX_1 : w8.cell? ⟨gbX, 1, none⟩ = some (.slice none 0 0) := (blk_cell BKX.out 1).trans rfl; have fgbX_1 := blk_frozen BKX.out 1; have zgbX_2 : w8.cell? ⟨gbX, 2, none⟩ = some (.slice none 0 0) := (blk_cell BKX.out 2).trans rfl; have fgbX_2 := blk_frozen BKX.out 2))
  go_wp2_with fail
  have hk := kept_three (W := w8) (g := gbX) (.slice A_X0 l0.length c_X0) (.slice A_X1 l1.length c_X1) (.slice A_X2 l2.length c_X2) 0 1 2
  have hb2 : Below w.heap.size w (((w8.setCell ⟨gbX, 0, none⟩ (.slice A_X0 l0.length c_X0)).setCell ⟨gbX, 1, none⟩ (.slice A_X1 l1.length c_X1)).setCell ⟨gbX, 2, none⟩ (.slice A_X2 l2.length c_X2)) := (below_set (below_set (below_set HB.out (by have z := HZ.out; have g_gbB := G_gbB.out; have l_gbB := L_gbB.out; have g_gbX := G_gbX.out; have l_gbX := L_gbX.out; omega)) (by have z := HZ.out; have g_gbB := G_gbB.out; have l_gbB := L_gbB.out; have g_gbX := G_gbX.out; have l_gbX := L_gbX.out; omega)) (by have z := HZ.out; have g_gbB := G_gbB.out; have l_gbB := L_gbB.out; have g_gbX := G_gbX.out; have l_gbX := L_gbX.out; omega))
  have hnew : (((w8.setCell ⟨gbX, 0, none⟩ (.slice A_X0 l0.length c_X0)).setCell ⟨gbX, 1, none⟩ (.slice A_X1 l1.length c_X1)).setCell ⟨gbX, 2, none⟩ (.slice A_X2 l2.length c_X2)).heap[gbX]? = some (.cells #[.slice A_X0 l0.length c_X0, .slice A_X1 l1.length c_X1, .slice A_X2 l2.length c_X2] 34 (0, 0)) := (blk_put (cs := #[.slice A_X0 l0.length c_X0, .slice A_X1 l1.length c_X1, .slice none 0 0]) (blk_put (cs := #[.slice A_X0 l0.length c_X0, .slice none 0 0, .slice none 0 0]) (blk_put (cs := #[.slice none 0 0, .slice none 0 0, .slice none 0 0]) BKX.out 0 _ rfl) 1 _ rfl) 2 _ rfl)
  clear zgbX_0 fgbX_0 zgbX_1 fgbX_1 zgbX_2 fgbX_2
  generalize (((w8.setCell ⟨gbX, 0, none⟩ (.slice A_X0 l0.length c_X0)).setCell ⟨gbX, 1, none⟩ (.slice A_X1 l1.length c_X1)).setCell ⟨gbX, 2, none⟩ (.slice A_X2 l2.length c_X2)) = w9 at hk hb2 hnew ⊢
  clear BKX
  have n_ := Aside0.mk (R_iv W0.out hk (by have z := HZ.out; have g_gbB := G_gbB.out; have l_gbB := L_gbB.out; have g_gbX := G_gbX.out; have l_gbX := L_gbX.out; omega))
  clear W0; have W0 := n_; clear n_
  have n_ := Aside0.mk (R_iv X0.out hk (by have z := HZ.out; have g_gbB := G_gbB.out; have l_gbB := L_gbB.out; have g_gbX := G_gbX.out; have l_gbX := L_gbX.out; omega))
  clear X0; have X0 := n_; clear n_
  have n_ := Aside0.mk (R_iv X1.out hk (by have z := HZ.out; have g_gbB := G_gbB.out; have l_gbB := L_gbB.out; have g_gbX := G_gbX.out; have l_gbX := L_gbX.out; omega))
  clear X1; have X1 := n_; clear n_
  have n_ := Aside0.mk (S_iv X2.out hk (by have z := HZ.out; have g_gbB := G_gbB.out; have l_gbB := L_gbB.out; have g_gbX := G_gbX.out; have l_gbX := L_gbX.out; omega))
  clear X2; have X2 := n_; clear n_
  have n_ := Aside0.mk (blk_iv BKB.out hk (by have z := HZ.out; have g_gbB := G_gbB.out; have l_gbB := L_gbB.out; have g_gbX := G_gbX.out; have l_gbX := L_gbX.out; omega))
  clear BKB; have BKB := n_; clear n_
  have n_ := Aside0.mk (hb2)
  clear HB; have HB := n_; clear n_
  have n_ := Aside0.mk (And.intro (hk.1) HZ.out)
  clear HZ; have HZ := n_; clear n_
  have BKX := Aside0.mk hnew
  clear hk hb2 hnew
  go_wp2_with fail
  go_at_call 37
  refine (laws_toIntS.calls kx _ _ l5 l5 _ (Kd.C_below HR5.out HB.out) HC5.out Ex.out).mono ?_
  rintro e w10 ⟨va, rfl, ho0, hb⟩
  have n_ := Aside0.mk (Kd.R_below W0.out hb)
  clear W0; have W0 := n_; clear n_
  have n_ := Aside0.mk (Kd.R_below X0.out hb)
  clear X0; have X0 := n_; clear n_
  have n_ := Aside0.mk (Kd.R_below X1.out hb)
  clear X1; have X1 := n_; clear n_
  have n_ := Aside0.mk (Kd.S_below X2.out hb)
  clear X2; have X2 := n_; clear n_
  have n_ := Aside0.mk (blk_below BKB.out hb)
  clear BKB; have BKB := n_; clear n_
  have n_ := Aside0.mk (blk_below BKX.out hb)
  clear BKX; have BKX := n_; clear n_
  have n_ := Aside0.mk (below_step HB.out hb)
  clear HB; have HB := n_; clear n_
  have n_ := Aside0.mk (And.intro (hb.size) HZ.out)
  clear HZ; have HZ := n_; clear n_; clear hb
  obtain ⟨A_X5, c_X5, e_X5⟩ := Kd.R_slice ho0
  subst e_X5
  have X5 := Aside0.mk (R_mk (base := w.heap.size) ho0 (by have z := HZ.out; have g_gbB := G_gbB.out; have l_gbB := L_gbB.out; have g_gbX := G_gbX.out; have l_gbX := L_gbX.out; omega))
  clear ho0
  go_wp2_with fail
  go_at_call 37
  refine (laws_toIntS.calls ky _ _ l7 l7 _ (Kd.C_below HR7.out HB.out) HC7.out Ey.out).mono ?_
  rintro e w11 ⟨va, rfl, ho0, hb⟩
  have n_ := Aside0.mk (Kd.R_below W0.out hb)
  clear W0; have W0 := n_; clear n_
  have n_ := Aside0.mk (Kd.R_below X0.out hb)
  clear X0; have X0 := n_; clear n_
  have n_ := Aside0.mk (Kd.R_below X1.out hb)
  clear X1; have X1 := n_; clear n_
  have n_ := Aside0.mk (Kd.S_below X2.out hb)
  clear X2; have X2 := n_; clear n_
  have n_ := Aside0.mk (Kd.R_below X5.out hb)
  clear X5; have X5 := n_; clear n_
  have n_ := Aside0.mk (blk_below BKB.out hb)
  clear BKB; have BKB := n_; clear n_
  have n_ := Aside0.mk (blk_below BKX.out hb)
  clear BKX; have BKX := n_; clear n_
  have n_ := Aside0.mk (below_step HB.out hb)
  clear HB; have HB := n_; clear n_
  have n_ := Aside0.mk (And.intro (hb.size) HZ.out)
  clear HZ; have HZ := n_; clear n_; clear hb
  obtain ⟨A_X7, c_X7, e_X7⟩ := Kd.R_slice ho0
  subst e_X7
  have X7 := Aside0.mk (R_mk (base := w.heap.size) ho0 (by have z := HZ.out; have g_gbB := G_gbB.out; have l_gbB := L_gbB.out; have g_gbX := G_gbX.out; have l_gbX := L_gbX.out; omega))
  clear ho0
  have zgbX_0 : w11.cell? ⟨gbX, 0, none⟩ = some (.slice A_X0 l0.length c_X0) := (blk_cell BKX.out 0).trans rfl
  have fgbX_0 := blk_frozen BKX.out 0
  have zgbX_1 : w11.cell? ⟨gbX, 1, none⟩ = some (.slice A_X1 l1.length c_X1) := (blk_cell BKX.out 1).trans rfl
  have fgbX_1 := blk_frozen BKX.out 1
  have zgbX_2 : w11.cell? ⟨gbX, 2, none⟩ = some (.slice A_X2 l2.length c_X2) := (blk_cell BKX.out 2).trans rfl
  have fgbX_2 := blk_frozen BKX.out 2
  go_wp2_with fail
  go_at_call 40
  refine (impl_PlayBoard.calls k3 _ _ l0 _ _ l1 _ _ l2 _ _ l5 a6 _ _ l7 y b _ (Kd.R_reads' X0.out).2.2 (Kd.R_reads' X0.out).2.1 (Kd.R_reads' X1.out).2.2 (Kd.R_reads' X1.out).2.1 (Kd.S_reads' X2.out).2.2 (Kd.S_reads' X2.out).2.1 (Kd.R_reads' X5.out).2.2 (Kd.R_reads' X5.out).2.1 (Kd.R_reads' X7.out).2.2 (Kd.R_reads' X7.out).2.1 E3.out).mono ?_
  rintro e w12 ⟨va, rfl, ho0, hb⟩
  have n_ := Aside0.mk (Kd.R_below W0.out hb)
  clear W0; have W0 := n_; clear n_
  have n_ := Aside0.mk (Kd.R_below X0.out hb)
  clear X0; have X0 := n_; clear n_
  have n_ := Aside0.mk (Kd.R_below X1.out hb)
  clear X1; have X1 := n_; clear n_
  have n_ := Aside0.mk (Kd.S_below X2.out hb)
  clear X2; have X2 := n_; clear n_
  have n_ := Aside0.mk (Kd.R_below X5.out hb)
  clear X5; have X5 := n_; clear n_
  have n_ := Aside0.mk (Kd.R_below X7.out hb)
  clear X7; have X7 := n_; clear n_
  have n_ := Aside0.mk (blk_below BKB.out hb)
  clear BKB; have BKB := n_; clear n_
  have n_ := Aside0.mk (blk_below BKX.out hb)
  clear BKX; have BKX := n_; clear n_
  have n_ := Aside0.mk (below_step HB.out hb)
  clear HB; have HB := n_; clear n_
  have n_ := Aside0.mk (And.intro (hb.size) HZ.out)
  clear HZ; have HZ := n_; clear n_; clear hb
  obtain ⟨A_G, c_G, e_G⟩ := Kd.R_slice ho0
  subst e_G
  have G := Aside0.mk (R_mk (base := w.heap.size) ho0 (by have z := HZ.out; have g_gbB := G_gbB.out; have l_gbB := L_gbB.out; have g_gbX := G_gbX.out; have l_gbX := L_gbX.out; omega))
  clear ho0; clear zgbX_0 fgbX_0 zgbX_1 fgbX_1 zgbX_2 fgbX_2
  go_wp2_with fail
  go_at_call 18
  refine (laws_eqIntS.calls k4 _ _ y _ _ y true _ (Kd.R_reads' G.out).2.2 (Kd.R_reads' G.out).2.1 (Kd.R_reads' W0.out).2.2 (Kd.R_reads' W0.out).2.1 E4.out).mono ?_
  rintro e w13 ⟨rfl, hd⟩
  have hb := drawn_below hd
  clear hd
  have n_ := Aside0.mk (Kd.R_below W0.out hb)
  clear W0; have W0 := n_; clear n_
  have n_ := Aside0.mk (Kd.R_below X0.out hb)
  clear X0; have X0 := n_; clear n_
  have n_ := Aside0.mk (Kd.R_below X1.out hb)
  clear X1; have X1 := n_; clear n_
  have n_ := Aside0.mk (Kd.S_below X2.out hb)
  clear X2; have X2 := n_; clear n_
  have n_ := Aside0.mk (Kd.R_below X5.out hb)
  clear X5; have X5 := n_; clear n_
  have n_ := Aside0.mk (Kd.R_below X7.out hb)
  clear X7; have X7 := n_; clear n_
  have n_ := Aside0.mk (Kd.R_below G.out hb)
  clear G; have G := n_; clear n_
  have n_ := Aside0.mk (blk_below BKB.out hb)
  clear BKB; have BKB := n_; clear n_
  have n_ := Aside0.mk (blk_below BKX.out hb)
  clear BKX; have BKX := n_; clear n_
  have n_ := Aside0.mk (below_step HB.out hb)
  clear HB; have HB := n_; clear n_
  have n_ := Aside0.mk (And.intro (hb.size) HZ.out)
  clear HZ; have HZ := n_; clear n_; clear hb
  go_wp2_with fail
  have hb : Below w13.heap.size w13 w13.drew := below_drew (Below.refl _ _)
  have n_ := Aside0.mk (Kd.R_below W0.out hb)
  clear W0; have W0 := n_; clear n_
  have n_ := Aside0.mk (Kd.R_below X0.out hb)
  clear X0; have X0 := n_; clear n_
  have n_ := Aside0.mk (Kd.R_below X1.out hb)
  clear X1; have X1 := n_; clear n_
  have n_ := Aside0.mk (Kd.S_below X2.out hb)
  clear X2; have X2 := n_; clear n_
  have n_ := Aside0.mk (Kd.R_below X5.out hb)
  clear X5; have X5 := n_; clear n_
  have n_ := Aside0.mk (Kd.R_below X7.out hb)
  clear X7; have X7 := n_; clear n_
  have n_ := Aside0.mk (Kd.R_below G.out hb)
  clear G; have G := n_; clear n_
  have n_ := Aside0.mk (blk_below BKB.out hb)
  clear BKB; have BKB := n_; clear n_
  have n_ := Aside0.mk (blk_below BKX.out hb)
  clear BKX; have BKX := n_; clear n_
  have n_ := Aside0.mk (below_step HB.out hb)
  clear HB; have HB := n_; clear n_
  have n_ := Aside0.mk (And.intro (hb.size) HZ.out)
  clear HZ; have HZ := n_; clear n_; clear hb
  refine start_ (n := 5) (S := (fun w' => w'.cell? ⟨gbX, 0, none⟩ = some (.slice A_X0 l0.length c_X0) ∧ w'.cell? ⟨gbX, 1, none⟩ = some (.slice A_X1 l1.length c_X1) ∧ w'.cell? ⟨gbX, 2, none⟩ = some (.slice A_X2 l2.length c_X2) ∧ w'.cell? ⟨gbB, 0, none⟩ = some (.slice A0 l0.length c0) ∧ w'.cell? ⟨gbB, 1, none⟩ = some (.slice A1 l1.length c1) ∧ w'.cell? ⟨gbB, 2, none⟩ = some (.slice A2 l2.length c2))) (ds := []) #[false, false, false, false, false] (by kernel_rfl) rfl rfl ⟨(blk_cell BKX.out 0).trans rfl, (blk_cell BKX.out 1).trans rfl, (blk_cell BKX.out 2).trans rfl, (blk_cell BKB.out 0).trans rfl, (blk_cell BKB.out 1).trans rfl, (blk_cell BKB.out 2).trans rfl⟩ (fun hHeld => ?_)
  generalize w13.drew = w14 at W0 X0 X1 X2 X5 X7 G BKB BKX HB HZ hHeld ⊢
  refine take_ (i := 0) (N := some 67) (v := ?_) (a' := ?_) #[true, false, false, false, false] rfl rfl (by kernel_rfl) (fun _ _ _ h => h) (Or.inl ⟨by rfl, ?_⟩) hHeld ?_ ?_
  rotate_left
  · rintro w' ⟨s0, s1, s2, s3, s4, s5⟩
    go_simp
    with_reducible rfl
  rotate_left
  · simp only [Act.put, List.setIfInBounds_toArray, List.set_cons_zero, List.set_cons_succ]
    rfl
  refine take_ (i := 1) (N := some 68) (v := ?_) (a' := ?_) #[true, true, false, false, false] rfl rfl (by kernel_rfl) (fun _ _ _ h => h) (Or.inl ⟨by rfl, ?_⟩) hHeld ?_ ?_
  rotate_left
  · rintro w' ⟨s0, s1, s2, s3, s4, s5⟩
    go_simp
    with_reducible rfl
  rotate_left
  · simp only [Act.put, List.setIfInBounds_toArray, List.set_cons_zero, List.set_cons_succ]
    rfl
  refine one_ (i := 2) (N := some 69) #[true, true, true, false, false] rfl rfl (by kernel_rfl) (by decide) (fun K hK => ?_)
  refine goes_ Tryd.func15 (by kernel_rfl) rfl #[.agg #[.slice A0 l0.length c0, .slice A1 l1.length c1, .slice A2 l2.length c2]] (by rfl) rfl rfl (by simp only [List.map_toArray, List.map_cons, List.map_nil]; rfl) ?_
  refine (laws_toBoard.calls k0 _ _ l0 _ _ l1 _ _ l2 l0 l1 l2 _ (Kd.C_below HR0.out HB.out) HC0.out (Kd.C_below HR1.out HB.out) HC1.out (Kd.C_below HR2.out HB.out) HC2.out E0.out).mono ?_
  rintro e w15 ⟨va, vb, vc, rfl, ho0, ho1, ho2, hb⟩
  refine ⟨_, rfl, ?_⟩
  have n_ := Aside0.mk (Kd.R_below W0.out hb)
  clear W0; have W0 := n_; clear n_
  have n_ := Aside0.mk (Kd.R_below X0.out hb)
  clear X0; have X0 := n_; clear n_
  have n_ := Aside0.mk (Kd.R_below X1.out hb)
  clear X1; have X1 := n_; clear n_
  have n_ := Aside0.mk (Kd.S_below X2.out hb)
  clear X2; have X2 := n_; clear n_
  have n_ := Aside0.mk (Kd.R_below X5.out hb)
  clear X5; have X5 := n_; clear n_
  have n_ := Aside0.mk (Kd.R_below X7.out hb)
  clear X7; have X7 := n_; clear n_
  have n_ := Aside0.mk (Kd.R_below G.out hb)
  clear G; have G := n_; clear n_
  have n_ := Aside0.mk (blk_below BKB.out hb)
  clear BKB; have BKB := n_; clear n_
  have n_ := Aside0.mk (blk_below BKX.out hb)
  clear BKX; have BKX := n_; clear n_
  have n_ := Aside0.mk (below_step HB.out hb)
  clear HB; have HB := n_; clear n_
  have n_ := Aside0.mk (And.intro (hb.size) HZ.out)
  clear HZ; have HZ := n_; clear n_; clear hb
  obtain ⟨A_V0, c_V0, e_V0⟩ := Kd.R_slice ho0
  subst e_V0
  have V0 := Aside0.mk (R_mk (base := w.heap.size) ho0 (by have z := HZ.out; have g_gbB := G_gbB.out; have l_gbB := L_gbB.out; have g_gbX := G_gbX.out; have l_gbX := L_gbX.out; omega))
  clear ho0
  obtain ⟨A_V1, c_V1, e_V1⟩ := Kd.R_slice ho1
  subst e_V1
  have V1 := Aside0.mk (R_mk (base := w.heap.size) ho1 (by have z := HZ.out; have g_gbB := G_gbB.out; have l_gbB := L_gbB.out; have g_gbX := G_gbX.out; have l_gbX := L_gbX.out; omega))
  clear ho1
  obtain ⟨A_V2, c_V2, e_V2⟩ := Kd.S_slice ho2
  subst e_V2
  have V2 := Aside0.mk (S_mk (base := w.heap.size) ho2 (by have z := HZ.out; have g_gbB := G_gbB.out; have l_gbB := L_gbB.out; have g_gbX := G_gbX.out; have l_gbX := L_gbX.out; omega))
  clear ho2
  refine hK.out _ _ ⟨(blk_cell BKX.out 0).trans rfl, (blk_cell BKX.out 1).trans rfl, (blk_cell BKX.out 2).trans rfl, (blk_cell BKB.out 0).trans rfl, (blk_cell BKB.out 1).trans rfl, (blk_cell BKB.out 2).trans rfl⟩ (fun hHeld => ?_)
  clear hK K
  refine norm_ (a' := ?_) ?_ ?_
  rotate_left
  · show Act.put _ (some 69) _ = _
    simp only [Act.put, List.setIfInBounds_toArray, List.set_cons_zero, List.set_cons_succ]
    rfl
  refine one_ (i := 3) (N := some 70) #[true, true, true, true, false] rfl rfl (by kernel_rfl) (by decide) (fun K hK => ?_)
  refine goes_ Tryd.func19 (by kernel_rfl) rfl #[.agg #[.slice A_X0 l0.length c_X0, .slice A_X1 l1.length c_X1, .slice A_X2 l2.length c_X2], .agg #[.slice A_V0 l0.length c_V0, .slice A_V1 l1.length c_V1, .slice A_V2 l2.length c_V2]] (by rfl) rfl rfl (by simp only [List.map_toArray, List.map_cons, List.map_nil]; rfl) ?_
  refine (laws_eqBoard.calls k5 _ _ l0 _ _ l1 _ _ l2 _ _ l0 _ _ l1 _ _ l2 true _ (Kd.R_reads' X0.out).2.2 (Kd.R_reads' X0.out).2.1 (Kd.R_reads' X1.out).2.2 (Kd.R_reads' X1.out).2.1 (Kd.S_reads' X2.out).2.2 (Kd.S_reads' X2.out).2.1 (Kd.R_reads' V0.out).2.2 (Kd.R_reads' V0.out).2.1 (Kd.R_reads' V1.out).2.2 (Kd.R_reads' V1.out).2.1 (Kd.S_reads' V2.out).2.2 (Kd.S_reads' V2.out).2.1 E5.out).mono ?_
  rintro e w16 ⟨rfl, hb⟩
  refine ⟨_, rfl, ?_⟩
  have n_ := Aside0.mk (Kd.R_below W0.out hb)
  clear W0; have W0 := n_; clear n_
  have n_ := Aside0.mk (Kd.R_below X0.out hb)
  clear X0; have X0 := n_; clear n_
  have n_ := Aside0.mk (Kd.R_below X1.out hb)
  clear X1; have X1 := n_; clear n_
  have n_ := Aside0.mk (Kd.S_below X2.out hb)
  clear X2; have X2 := n_; clear n_
  have n_ := Aside0.mk (Kd.R_below X5.out hb)
  clear X5; have X5 := n_; clear n_
  have n_ := Aside0.mk (Kd.R_below X7.out hb)
  clear X7; have X7 := n_; clear n_
  have n_ := Aside0.mk (Kd.R_below G.out hb)
  clear G; have G := n_; clear n_
  have n_ := Aside0.mk (Kd.R_below V0.out hb)
  clear V0; have V0 := n_; clear n_
  have n_ := Aside0.mk (Kd.R_below V1.out hb)
  clear V1; have V1 := n_; clear n_
  have n_ := Aside0.mk (Kd.S_below V2.out hb)
  clear V2; have V2 := n_; clear n_
  have n_ := Aside0.mk (blk_below BKB.out hb)
  clear BKB; have BKB := n_; clear n_
  have n_ := Aside0.mk (blk_below BKX.out hb)
  clear BKX; have BKX := n_; clear n_
  have n_ := Aside0.mk (below_step HB.out hb)
  clear HB; have HB := n_; clear n_
  have n_ := Aside0.mk (And.intro (hb.size) HZ.out)
  clear HZ; have HZ := n_; clear n_; clear hb
  refine hK.out _ _ ⟨(blk_cell BKX.out 0).trans rfl, (blk_cell BKX.out 1).trans rfl, (blk_cell BKX.out 2).trans rfl, (blk_cell BKB.out 0).trans rfl, (blk_cell BKB.out 1).trans rfl, (blk_cell BKB.out 2).trans rfl⟩ (fun hHeld => ?_)
  clear hK K
  refine norm_ (a' := ?_) ?_ ?_
  rotate_left
  · show Act.put _ (some 70) _ = _
    simp only [Act.put, List.setIfInBounds_toArray, List.set_cons_zero, List.set_cons_succ]
    rfl
  clear V0; clear V1; clear V2
  refine pure_ (i := 4) (N := some 71) (v := ?_) (a' := ?_) #[true, true, true, true, true] rfl rfl (by kernel_rfl) (fun _ _ _ h => h) (Or.inl ⟨by rfl, ?_⟩) ?_ ?_
  rotate_left
  · intro w'
    go_simp
    with_reducible rfl
  rotate_left
  · simp only [Act.put, List.setIfInBounds_toArray, List.set_cons_zero, List.set_cons_succ]
    rfl
  refine done_ (by kernel_rfl) ?_
  go_wp2_with fail
  go_at_call 37
  refine (laws_toIntS.calls kx _ _ l5 l5 _ (Kd.C_below HR5.out HB.out) HC5.out Ex.out).mono ?_
  rintro e w17 ⟨va, rfl, ho0, hb⟩
  have n_ := Aside0.mk (Kd.R_below W0.out hb)
  clear W0; have W0 := n_; clear n_
  have n_ := Aside0.mk (Kd.R_below X0.out hb)
  clear X0; have X0 := n_; clear n_
  have n_ := Aside0.mk (Kd.R_below X1.out hb)
  clear X1; have X1 := n_; clear n_
  have n_ := Aside0.mk (Kd.S_below X2.out hb)
  clear X2; have X2 := n_; clear n_
  have n_ := Aside0.mk (Kd.R_below X5.out hb)
  clear X5; have X5 := n_; clear n_
  have n_ := Aside0.mk (Kd.R_below X7.out hb)
  clear X7; have X7 := n_; clear n_
  have n_ := Aside0.mk (Kd.R_below G.out hb)
  clear G; have G := n_; clear n_
  have n_ := Aside0.mk (blk_below BKB.out hb)
  clear BKB; have BKB := n_; clear n_
  have n_ := Aside0.mk (blk_below BKX.out hb)
  clear BKX; have BKX := n_; clear n_
  have n_ := Aside0.mk (below_step HB.out hb)
  clear HB; have HB := n_; clear n_
  have n_ := Aside0.mk (And.intro (hb.size) HZ.out)
  clear HZ; have HZ := n_; clear n_; clear hb
  obtain ⟨A_V5, c_V5, e_V5⟩ := Kd.R_slice ho0
  subst e_V5
  have V5 := Aside0.mk (R_mk (base := w.heap.size) ho0 (by have z := HZ.out; have g_gbB := G_gbB.out; have l_gbB := L_gbB.out; have g_gbX := G_gbX.out; have l_gbX := L_gbX.out; omega))
  clear ho0
  go_wp2_with fail
  go_at_call 18
  refine (laws_eqIntS.calls k6 _ _ l5 _ _ l5 true _ (Kd.R_reads' X5.out).2.2 (Kd.R_reads' X5.out).2.1 (Kd.R_reads' V5.out).2.2 (Kd.R_reads' V5.out).2.1 E6.out).mono ?_
  rintro e w18 ⟨rfl, hd⟩
  have hb := drawn_below hd
  clear hd
  have n_ := Aside0.mk (Kd.R_below W0.out hb)
  clear W0; have W0 := n_; clear n_
  have n_ := Aside0.mk (Kd.R_below X0.out hb)
  clear X0; have X0 := n_; clear n_
  have n_ := Aside0.mk (Kd.R_below X1.out hb)
  clear X1; have X1 := n_; clear n_
  have n_ := Aside0.mk (Kd.S_below X2.out hb)
  clear X2; have X2 := n_; clear n_
  have n_ := Aside0.mk (Kd.R_below X5.out hb)
  clear X5; have X5 := n_; clear n_
  have n_ := Aside0.mk (Kd.R_below X7.out hb)
  clear X7; have X7 := n_; clear n_
  have n_ := Aside0.mk (Kd.R_below G.out hb)
  clear G; have G := n_; clear n_
  have n_ := Aside0.mk (Kd.R_below V5.out hb)
  clear V5; have V5 := n_; clear n_
  have n_ := Aside0.mk (blk_below BKB.out hb)
  clear BKB; have BKB := n_; clear n_
  have n_ := Aside0.mk (blk_below BKX.out hb)
  clear BKX; have BKX := n_; clear n_
  have n_ := Aside0.mk (below_step HB.out hb)
  clear HB; have HB := n_; clear n_
  have n_ := Aside0.mk (And.intro (hb.size) HZ.out)
  clear HZ; have HZ := n_; clear n_; clear hb; clear V5
  go_wp2_with fail
  go_at_call 37
  refine (laws_toIntS.calls ky _ _ l7 l7 _ (Kd.C_below HR7.out HB.out) HC7.out Ey.out).mono ?_
  rintro e w19 ⟨va, rfl, ho0, hb⟩
  have n_ := Aside0.mk (Kd.R_below W0.out hb)
  clear W0; have W0 := n_; clear n_
  have n_ := Aside0.mk (Kd.R_below X0.out hb)
  clear X0; have X0 := n_; clear n_
  have n_ := Aside0.mk (Kd.R_below X1.out hb)
  clear X1; have X1 := n_; clear n_
  have n_ := Aside0.mk (Kd.S_below X2.out hb)
  clear X2; have X2 := n_; clear n_
  have n_ := Aside0.mk (Kd.R_below X5.out hb)
  clear X5; have X5 := n_; clear n_
  have n_ := Aside0.mk (Kd.R_below X7.out hb)
  clear X7; have X7 := n_; clear n_
  have n_ := Aside0.mk (Kd.R_below G.out hb)
  clear G; have G := n_; clear n_
  have n_ := Aside0.mk (blk_below BKB.out hb)
  clear BKB; have BKB := n_; clear n_
  have n_ := Aside0.mk (blk_below BKX.out hb)
  clear BKX; have BKX := n_; clear n_
  have n_ := Aside0.mk (below_step HB.out hb)
  clear HB; have HB := n_; clear n_
  have n_ := Aside0.mk (And.intro (hb.size) HZ.out)
  clear HZ; have HZ := n_; clear n_; clear hb
  obtain ⟨A_V7, c_V7, e_V7⟩ := Kd.R_slice ho0
  subst e_V7
  have V7 := Aside0.mk (R_mk (base := w.heap.size) ho0 (by have z := HZ.out; have g_gbB := G_gbB.out; have l_gbB := L_gbB.out; have g_gbX := G_gbX.out; have l_gbX := L_gbX.out; omega))
  clear ho0
  go_wp2_with fail
  go_at_call 18
  refine (laws_eqIntS.calls k6b _ _ l7 _ _ l7 true _ (Kd.R_reads' X7.out).2.2 (Kd.R_reads' X7.out).2.1 (Kd.R_reads' V7.out).2.2 (Kd.R_reads' V7.out).2.1 E6b.out).mono ?_
  rintro e w20 ⟨rfl, hd⟩
  have hb := drawn_below hd
  clear hd
  have n_ := Aside0.mk (Kd.R_below W0.out hb)
  clear W0; have W0 := n_; clear n_
  have n_ := Aside0.mk (Kd.R_below X0.out hb)
  clear X0; have X0 := n_; clear n_
  have n_ := Aside0.mk (Kd.R_below X1.out hb)
  clear X1; have X1 := n_; clear n_
  have n_ := Aside0.mk (Kd.S_below X2.out hb)
  clear X2; have X2 := n_; clear n_
  have n_ := Aside0.mk (Kd.R_below X5.out hb)
  clear X5; have X5 := n_; clear n_
  have n_ := Aside0.mk (Kd.R_below X7.out hb)
  clear X7; have X7 := n_; clear n_
  have n_ := Aside0.mk (Kd.R_below G.out hb)
  clear G; have G := n_; clear n_
  have n_ := Aside0.mk (Kd.R_below V7.out hb)
  clear V7; have V7 := n_; clear n_
  have n_ := Aside0.mk (blk_below BKB.out hb)
  clear BKB; have BKB := n_; clear n_
  have n_ := Aside0.mk (blk_below BKX.out hb)
  clear BKX; have BKX := n_; clear n_
  have n_ := Aside0.mk (below_step HB.out hb)
  clear HB; have HB := n_; clear n_
  have n_ := Aside0.mk (And.intro (hb.size) HZ.out)
  clear HZ; have HZ := n_; clear n_; clear hb; clear V7
  have zgbX_0 : w20.cell? ⟨gbX, 0, none⟩ = some (.slice A_X0 l0.length c_X0) := (blk_cell BKX.out 0).trans rfl
  have fgbX_0 := blk_frozen BKX.out 0
  have zgbX_1 : w20.cell? ⟨gbX, 1, none⟩ = some (.slice A_X1 l1.length c_X1) := (blk_cell BKX.out 1).trans rfl
  have fgbX_1 := blk_frozen BKX.out 1
  have zgbX_2 : w20.cell? ⟨gbX, 2, none⟩ = some (.slice A_X2 l2.length c_X2) := (blk_cell BKX.out 2).trans rfl
  have fgbX_2 := blk_frozen BKX.out 2
  go_wp2_with fail
  go_at_call 21
  refine (laws_markBoard.calls ka kb kc w6.heap.size w7.heap.size _ _ _ _ _ _ l0 t0 l1 t1 l2 t2 1 m0 m1 m2 w _ HB.out (by have z := HZ.out; have g_gbB := G_gbB.out; have l_gbB := L_gbB.out; have g_gbX := G_gbX.out; have l_gbX := L_gbX.out; omega) X0.out X1.out X2.out Ea.out Eb.out Ec.out).mono ?_
  rintro e w21 ⟨rfl, hb2, hk⟩
  clear zgbX_0 fgbX_0 zgbX_1 fgbX_1 zgbX_2 fgbX_2; clear X0 X1 X2
  have n_ := Aside0.mk (R_iv W0.out hk (by have z := HZ.out; have g_gbB := G_gbB.out; have l_gbB := L_gbB.out; have g_gbX := G_gbX.out; have l_gbX := L_gbX.out; omega))
  clear W0; have W0 := n_; clear n_
  have n_ := Aside0.mk (R_iv X5.out hk (by have z := HZ.out; have g_gbB := G_gbB.out; have l_gbB := L_gbB.out; have g_gbX := G_gbX.out; have l_gbX := L_gbX.out; omega))
  clear X5; have X5 := n_; clear n_
  have n_ := Aside0.mk (R_iv X7.out hk (by have z := HZ.out; have g_gbB := G_gbB.out; have l_gbB := L_gbB.out; have g_gbX := G_gbX.out; have l_gbX := L_gbX.out; omega))
  clear X7; have X7 := n_; clear n_
  have n_ := Aside0.mk (R_iv G.out hk (by have z := HZ.out; have g_gbB := G_gbB.out; have l_gbB := L_gbB.out; have g_gbX := G_gbX.out; have l_gbX := L_gbX.out; omega))
  clear G; have G := n_; clear n_
  have n_ := Aside0.mk (blk_iv BKB.out hk (by have z := HZ.out; have g_gbB := G_gbB.out; have l_gbB := L_gbB.out; have g_gbX := G_gbX.out; have l_gbX := L_gbX.out; omega))
  clear BKB; have BKB := n_; clear n_
  have n_ := Aside0.mk (blk_iv BKX.out hk (by have z := HZ.out; have g_gbB := G_gbB.out; have l_gbB := L_gbB.out; have g_gbX := G_gbX.out; have l_gbX := L_gbX.out; omega))
  clear BKX; have BKX := n_; clear n_
  have n_ := Aside0.mk (hb2)
  clear HB; have HB := n_; clear n_
  have n_ := Aside0.mk (And.intro (hk.1) HZ.out)
  clear HZ; have HZ := n_; clear n_; clear hk hb2
  go_wp2_with fail
  go_at_call 23
  refine (laws_markIntS.calls kd (Iv w9.heap.size w10.heap.size) _ l5 m2 m4 t3 w _ HB.out X5.out Ed.out).mono ?_
  rintro e w22 ⟨rfl, ho0, hb2, hk⟩
  clear X5 ho0
  have n_ := Aside0.mk (R_iv W0.out hk (by have z := HZ.out; have g_gbB := G_gbB.out; have l_gbB := L_gbB.out; have g_gbX := G_gbX.out; have l_gbX := L_gbX.out; omega))
  clear W0; have W0 := n_; clear n_
  have n_ := Aside0.mk (R_iv X7.out hk (by have z := HZ.out; have g_gbB := G_gbB.out; have l_gbB := L_gbB.out; have g_gbX := G_gbX.out; have l_gbX := L_gbX.out; omega))
  clear X7; have X7 := n_; clear n_
  have n_ := Aside0.mk (R_iv G.out hk (by have z := HZ.out; have g_gbB := G_gbB.out; have l_gbB := L_gbB.out; have g_gbX := G_gbX.out; have l_gbX := L_gbX.out; omega))
  clear G; have G := n_; clear n_
  have n_ := Aside0.mk (blk_iv BKB.out hk (by have z := HZ.out; have g_gbB := G_gbB.out; have l_gbB := L_gbB.out; have g_gbX := G_gbX.out; have l_gbX := L_gbX.out; omega))
  clear BKB; have BKB := n_; clear n_
  have n_ := Aside0.mk (blk_iv BKX.out hk (by have z := HZ.out; have g_gbB := G_gbB.out; have l_gbB := L_gbB.out; have g_gbX := G_gbX.out; have l_gbX := L_gbX.out; omega))
  clear BKX; have BKX := n_; clear n_
  have n_ := Aside0.mk (hb2)
  clear HB; have HB := n_; clear n_
  have n_ := Aside0.mk (And.intro (hk.1) HZ.out)
  clear HZ; have HZ := n_; clear n_; clear hk hb2
  go_wp2_with fail
  go_at_call 23
  refine (laws_markIntS.calls kd2 (Iv w10.heap.size w11.heap.size) _ l7 m4 m3 t4 w _ HB.out X7.out Ed2.out).mono ?_
  rintro e w23 ⟨rfl, ho0, hb2, hk⟩
  clear X7 ho0
  have n_ := Aside0.mk (R_iv W0.out hk (by have z := HZ.out; have g_gbB := G_gbB.out; have l_gbB := L_gbB.out; have g_gbX := G_gbX.out; have l_gbX := L_gbX.out; omega))
  clear W0; have W0 := n_; clear n_
  have n_ := Aside0.mk (R_iv G.out hk (by have z := HZ.out; have g_gbB := G_gbB.out; have l_gbB := L_gbB.out; have g_gbX := G_gbX.out; have l_gbX := L_gbX.out; omega))
  clear G; have G := n_; clear n_
  have n_ := Aside0.mk (blk_iv BKB.out hk (by have z := HZ.out; have g_gbB := G_gbB.out; have l_gbB := L_gbB.out; have g_gbX := G_gbX.out; have l_gbX := L_gbX.out; omega))
  clear BKB; have BKB := n_; clear n_
  have n_ := Aside0.mk (blk_iv BKX.out hk (by have z := HZ.out; have g_gbB := G_gbB.out; have l_gbB := L_gbB.out; have g_gbX := G_gbX.out; have l_gbX := L_gbX.out; omega))
  clear BKX; have BKX := n_; clear n_
  have n_ := Aside0.mk (hb2)
  clear HB; have HB := n_; clear n_
  have n_ := Aside0.mk (And.intro (hk.1) HZ.out)
  clear HZ; have HZ := n_; clear n_; clear hk hb2
  go_wp2_with fail
  go_at_call 18
  refine (laws_eqIntS.calls k4 _ _ y _ _ y true _ (Kd.R_reads' G.out).2.2 (Kd.R_reads' G.out).2.1 (Kd.R_reads' W0.out).2.2 (Kd.R_reads' W0.out).2.1 E4.out).mono ?_
  rintro e w24 ⟨rfl, hd⟩
  have hb := drawn_below hd
  clear hd
  have n_ := Aside0.mk (Kd.R_below W0.out hb)
  clear W0; have W0 := n_; clear n_
  have n_ := Aside0.mk (Kd.R_below G.out hb)
  clear G; have G := n_; clear n_
  have n_ := Aside0.mk (blk_below BKB.out hb)
  clear BKB; have BKB := n_; clear n_
  have n_ := Aside0.mk (blk_below BKX.out hb)
  clear BKX; have BKX := n_; clear n_
  have n_ := Aside0.mk (below_step HB.out hb)
  clear HB; have HB := n_; clear n_
  have n_ := Aside0.mk (And.intro (hb.size) HZ.out)
  clear HZ; have HZ := n_; clear n_; clear hb
  go_wp2_with fail
  go_at_call 23
  refine (laws_markIntS.calls ke (Iv w11.heap.size w12.heap.size) _ y 1 mm t5 w _ HB.out G.out Ee.out).mono ?_
  rintro e w25 ⟨rfl, ho1, hb2, hk⟩
  have ho0 := Kd.R_reok rfl ho1 (fun k e => G.out.1 k e)
  clear G ho1
  have n_ := Aside0.mk (R_iv W0.out hk (by have z := HZ.out; have g_gbB := G_gbB.out; have l_gbB := L_gbB.out; have g_gbX := G_gbX.out; have l_gbX := L_gbX.out; omega))
  clear W0; have W0 := n_; clear n_
  have n_ := Aside0.mk (blk_iv BKB.out hk (by have z := HZ.out; have g_gbB := G_gbB.out; have l_gbB := L_gbB.out; have g_gbX := G_gbX.out; have l_gbX := L_gbX.out; omega))
  clear BKB; have BKB := n_; clear n_
  have n_ := Aside0.mk (blk_iv BKX.out hk (by have z := HZ.out; have g_gbB := G_gbB.out; have l_gbB := L_gbB.out; have g_gbX := G_gbX.out; have l_gbX := L_gbX.out; omega))
  clear BKX; have BKX := n_; clear n_
  have n_ := Aside0.mk (hb2)
  clear HB; have HB := n_; clear n_
  have n_ := Aside0.mk (And.intro (hk.1) HZ.out)
  clear HZ; have HZ := n_; clear n_
  have G := Aside0.mk ho0
  have HE := Aside0.mk (Kd.R_reads' G.out).1
  clear ho0 hk hb2
  go_wp2_with fail
  go_at_call 24
  refine (calls_of_args (by rw [HE.out]) (laws_heldIntS.calls kf A_G c_G t5 1 mm _ (Kd.R_reads' G.out).2.2 (by rw [← HE.out]; exact (Kd.R_reads' G.out).2.1) Ef.out)).mono ?_
  rintro e w26 ⟨rfl, hd⟩
  have hb := drawn_below hd
  clear hd
  have n_ := Aside0.mk (Kd.R_below W0.out hb)
  clear W0; have W0 := n_; clear n_
  have n_ := Aside0.mk (Kd.R_below G.out hb)
  clear G; have G := n_; clear n_
  have n_ := Aside0.mk (blk_below BKB.out hb)
  clear BKB; have BKB := n_; clear n_
  have n_ := Aside0.mk (blk_below BKX.out hb)
  clear BKX; have BKX := n_; clear n_
  have n_ := Aside0.mk (below_step HB.out hb)
  clear HB; have HB := n_; clear n_
  have n_ := Aside0.mk (And.intro (hb.size) HZ.out)
  clear HZ; have HZ := n_; clear n_; clear hb
  have zgbB_0 : w26.cell? ⟨gbB, 0, none⟩ = some (.slice A0 l0.length c0) := (blk_cell BKB.out 0).trans rfl
  have fgbB_0 := blk_frozen BKB.out 0
  have zgbB_1 : w26.cell? ⟨gbB, 1, none⟩ = some (.slice A1 l1.length c1) := (blk_cell BKB.out 1).trans rfl
  have fgbB_1 := blk_frozen BKB.out 1
  have zgbB_2 : w26.cell? ⟨gbB, 2, none⟩ = some (.slice A2 l2.length c2) := (blk_cell BKB.out 2).trans rfl
  have fgbB_2 := blk_frozen BKB.out 2
  go_wp2_with fail
  go_at_call 15
  refine (laws_toBoard.calls k0 _ _ l0 _ _ l1 _ _ l2 l0 l1 l2 _ (Kd.C_below HR0.out HB.out) HC0.out (Kd.C_below HR1.out HB.out) HC1.out (Kd.C_below HR2.out HB.out) HC2.out E0.out).mono ?_
  rintro e w27 ⟨va, vb, vc, rfl, ho0, ho1, ho2, hb⟩
  have n_ := Aside0.mk (Kd.R_below W0.out hb)
  clear W0; have W0 := n_; clear n_
  have n_ := Aside0.mk (Kd.R_below G.out hb)
  clear G; have G := n_; clear n_
  have n_ := Aside0.mk (blk_below BKB.out hb)
  clear BKB; have BKB := n_; clear n_
  have n_ := Aside0.mk (blk_below BKX.out hb)
  clear BKX; have BKX := n_; clear n_
  have n_ := Aside0.mk (below_step HB.out hb)
  clear HB; have HB := n_; clear n_
  have n_ := Aside0.mk (And.intro (hb.size) HZ.out)
  clear HZ; have HZ := n_; clear n_; clear hb
  obtain ⟨A_U0, c_U0, e_U0⟩ := Kd.R_slice ho0
  subst e_U0
  have U0 := Aside0.mk (R_mk (base := w.heap.size) ho0 (by have z := HZ.out; have g_gbB := G_gbB.out; have l_gbB := L_gbB.out; have g_gbX := G_gbX.out; have l_gbX := L_gbX.out; omega))
  clear ho0
  obtain ⟨A_U1, c_U1, e_U1⟩ := Kd.R_slice ho1
  subst e_U1
  have U1 := Aside0.mk (R_mk (base := w.heap.size) ho1 (by have z := HZ.out; have g_gbB := G_gbB.out; have l_gbB := L_gbB.out; have g_gbX := G_gbX.out; have l_gbX := L_gbX.out; omega))
  clear ho1
  obtain ⟨A_U2, c_U2, e_U2⟩ := Kd.S_slice ho2
  subst e_U2
  have U2 := Aside0.mk (S_mk (base := w.heap.size) ho2 (by have z := HZ.out; have g_gbB := G_gbB.out; have l_gbB := L_gbB.out; have g_gbX := G_gbX.out; have l_gbX := L_gbX.out; omega))
  clear ho2; clear zgbB_0 fgbB_0 zgbB_1 fgbB_1 zgbB_2 fgbB_2
  go_wp2_with fail
  go_at_call 37
  refine (laws_toIntS.calls kx _ _ l5 l5 _ (Kd.C_below HR5.out HB.out) HC5.out Ex.out).mono ?_
  rintro e w28 ⟨va, rfl, ho0, hb⟩
  have n_ := Aside0.mk (Kd.R_below W0.out hb)
  clear W0; have W0 := n_; clear n_
  have n_ := Aside0.mk (Kd.R_below G.out hb)
  clear G; have G := n_; clear n_
  have n_ := Aside0.mk (Kd.R_below U0.out hb)
  clear U0; have U0 := n_; clear n_
  have n_ := Aside0.mk (Kd.R_below U1.out hb)
  clear U1; have U1 := n_; clear n_
  have n_ := Aside0.mk (Kd.S_below U2.out hb)
  clear U2; have U2 := n_; clear n_
  have n_ := Aside0.mk (blk_below BKB.out hb)
  clear BKB; have BKB := n_; clear n_
  have n_ := Aside0.mk (blk_below BKX.out hb)
  clear BKX; have BKX := n_; clear n_
  have n_ := Aside0.mk (below_step HB.out hb)
  clear HB; have HB := n_; clear n_
  have n_ := Aside0.mk (And.intro (hb.size) HZ.out)
  clear HZ; have HZ := n_; clear n_; clear hb
  obtain ⟨A_U5, c_U5, e_U5⟩ := Kd.R_slice ho0
  subst e_U5
  have U5 := Aside0.mk (R_mk (base := w.heap.size) ho0 (by have z := HZ.out; have g_gbB := G_gbB.out; have l_gbB := L_gbB.out; have g_gbX := G_gbX.out; have l_gbX := L_gbX.out; omega))
  clear ho0
  go_wp2_with fail
  go_at_call 37
  refine (laws_toIntS.calls ky _ _ l7 l7 _ (Kd.C_below HR7.out HB.out) HC7.out Ey.out).mono ?_
  rintro e w29 ⟨va, rfl, ho0, hb⟩
  have n_ := Aside0.mk (Kd.R_below W0.out hb)
  clear W0; have W0 := n_; clear n_
  have n_ := Aside0.mk (Kd.R_below G.out hb)
  clear G; have G := n_; clear n_
  have n_ := Aside0.mk (Kd.R_below U0.out hb)
  clear U0; have U0 := n_; clear n_
  have n_ := Aside0.mk (Kd.R_below U1.out hb)
  clear U1; have U1 := n_; clear n_
  have n_ := Aside0.mk (Kd.S_below U2.out hb)
  clear U2; have U2 := n_; clear n_
  have n_ := Aside0.mk (Kd.R_below U5.out hb)
  clear U5; have U5 := n_; clear n_
  have n_ := Aside0.mk (blk_below BKB.out hb)
  clear BKB; have BKB := n_; clear n_
  have n_ := Aside0.mk (blk_below BKX.out hb)
  clear BKX; have BKX := n_; clear n_
  have n_ := Aside0.mk (below_step HB.out hb)
  clear HB; have HB := n_; clear n_
  have n_ := Aside0.mk (And.intro (hb.size) HZ.out)
  clear HZ; have HZ := n_; clear n_; clear hb
  obtain ⟨A_U7, c_U7, e_U7⟩ := Kd.R_slice ho0
  subst e_U7
  have U7 := Aside0.mk (R_mk (base := w.heap.size) ho0 (by have z := HZ.out; have g_gbB := G_gbB.out; have l_gbB := L_gbB.out; have g_gbX := G_gbX.out; have l_gbX := L_gbX.out; omega))
  clear ho0
  go_wp2_with fail
  go_at_call 40
  refine (impl_PlayBoard.calls k3 _ _ l0 _ _ l1 _ _ l2 _ _ l5 a6 _ _ l7 y b _ (Kd.R_reads' U0.out).2.2 (Kd.R_reads' U0.out).2.1 (Kd.R_reads' U1.out).2.2 (Kd.R_reads' U1.out).2.1 (Kd.S_reads' U2.out).2.2 (Kd.S_reads' U2.out).2.1 (Kd.R_reads' U5.out).2.2 (Kd.R_reads' U5.out).2.1 (Kd.R_reads' U7.out).2.2 (Kd.R_reads' U7.out).2.1 E3.out).mono ?_
  rintro e w30 ⟨va, rfl, ho0, hb⟩
  have n_ := Aside0.mk (Kd.R_below W0.out hb)
  clear W0; have W0 := n_; clear n_
  have n_ := Aside0.mk (Kd.R_below G.out hb)
  clear G; have G := n_; clear n_
  have n_ := Aside0.mk (Kd.R_below U0.out hb)
  clear U0; have U0 := n_; clear n_
  have n_ := Aside0.mk (Kd.R_below U1.out hb)
  clear U1; have U1 := n_; clear n_
  have n_ := Aside0.mk (Kd.S_below U2.out hb)
  clear U2; have U2 := n_; clear n_
  have n_ := Aside0.mk (Kd.R_below U5.out hb)
  clear U5; have U5 := n_; clear n_
  have n_ := Aside0.mk (Kd.R_below U7.out hb)
  clear U7; have U7 := n_; clear n_
  have n_ := Aside0.mk (blk_below BKB.out hb)
  clear BKB; have BKB := n_; clear n_
  have n_ := Aside0.mk (blk_below BKX.out hb)
  clear BKX; have BKX := n_; clear n_
  have n_ := Aside0.mk (below_step HB.out hb)
  clear HB; have HB := n_; clear n_
  have n_ := Aside0.mk (And.intro (hb.size) HZ.out)
  clear HZ; have HZ := n_; clear n_; clear hb
  obtain ⟨A_H, c_H, e_H⟩ := Kd.R_slice ho0
  subst e_H
  have H := Aside0.mk (R_mk (base := w.heap.size) ho0 (by have z := HZ.out; have g_gbB := G_gbB.out; have l_gbB := L_gbB.out; have g_gbX := G_gbX.out; have l_gbX := L_gbX.out; omega))
  clear ho0; clear U0; clear U1; clear U2; clear U5; clear U7
  go_wp2_with fail
  go_at_call 18
  refine (laws_eqIntS.calls k4 _ _ y _ _ y true _ (Kd.R_reads' H.out).2.2 (Kd.R_reads' H.out).2.1 (Kd.R_reads' W0.out).2.2 (Kd.R_reads' W0.out).2.1 E4.out).mono ?_
  rintro e w31 ⟨rfl, hd⟩
  have hb := drawn_below hd
  clear hd
  have n_ := Aside0.mk (Kd.R_below W0.out hb)
  clear W0; have W0 := n_; clear n_
  have n_ := Aside0.mk (Kd.R_below G.out hb)
  clear G; have G := n_; clear n_
  have n_ := Aside0.mk (Kd.R_below H.out hb)
  clear H; have H := n_; clear n_
  have n_ := Aside0.mk (blk_below BKB.out hb)
  clear BKB; have BKB := n_; clear n_
  have n_ := Aside0.mk (blk_below BKX.out hb)
  clear BKX; have BKX := n_; clear n_
  have n_ := Aside0.mk (below_step HB.out hb)
  clear HB; have HB := n_; clear n_
  have n_ := Aside0.mk (And.intro (hb.size) HZ.out)
  clear HZ; have HZ := n_; clear n_; clear hb
  go_wp2_with fail
  go_at_call 24
  refine (calls_of_args (by rw [HE.out]) (laws_heldIntS.calls kf A_G c_G t5 1 mm _ (Kd.R_reads' G.out).2.2 (by rw [← HE.out]; exact (Kd.R_reads' G.out).2.1) Ef.out)).mono ?_
  rintro e w32 ⟨rfl, hd⟩
  have hb := drawn_below hd
  clear hd
  have n_ := Aside0.mk (Kd.R_below W0.out hb)
  clear W0; have W0 := n_; clear n_
  have n_ := Aside0.mk (Kd.R_below G.out hb)
  clear G; have G := n_; clear n_
  have n_ := Aside0.mk (Kd.R_below H.out hb)
  clear H; have H := n_; clear n_
  have n_ := Aside0.mk (blk_below BKB.out hb)
  clear BKB; have BKB := n_; clear n_
  have n_ := Aside0.mk (blk_below BKX.out hb)
  clear BKX; have BKX := n_; clear n_
  have n_ := Aside0.mk (below_step HB.out hb)
  clear HB; have HB := n_; clear n_
  have n_ := Aside0.mk (And.intro (hb.size) HZ.out)
  clear HZ; have HZ := n_; clear n_; clear hb
  go_wp2_with fail
  go_ret
  exact ⟨rfl, HB.out⟩

end Go.Proofs.YtdihodboopeakaaDoor.Pr
/-
Own text: what the laws' own helpers on []int come to: a copy, a comparison.
-/
namespace Go.Proofs.YtdihodboopeakaaDoor.Pure
open Go.RowKit Go.Proofs.YtdihodboopeakaaDoorW.PrintWords Go.Proofs.YtdihodboopeakaaDoorW.PrintLast Go.Proofs.YtdihodboopeakaaDoor.Pr Go.Proofs.YtdihodboopeakaaDoor.EvKit

theorem toIntS_l0 (l : List Int) (hl : l.length ≤ 35184372088832) (d : Nat) : ∀ i : Nat, i + d = l.length →
    Ev (fun k => laws_toIntS.l0 k l ((l.take i).map id ++ List.replicate (l.length - i) 0) i) (l.map id) := by
  induction d with
  | zero =>
    intro i hi
    apply Ev.succ
    simp only [laws_toIntS.l0, show ¬ ((i : Int) < (l.length : Int)) by omega, if_false]
    have : i = l.length := by omega
    subst this
    exact Ev.some (copy_done _ _ _)
  | succ d ih =>
    intro i hi
    apply Ev.succ
    have hlen : ((l.take i).map id ++ List.replicate (l.length - i) (0 : Int)).length = l.length := by simp; omega
    simp only [laws_toIntS.l0, hlen, show ((i : Int) < (l.length : Int)) by omega, show (0 : Int) ≤ (i : Int) by omega, if_true, Int.toNat_natCast]
    rw [show wrap64 ((i : Int) + 1) = ((i + 1 : Nat) : Int) by rw [wrap64_id (by omega) (by omega)]; omega]
    have := copy_step id (0 : Int) 0 l i (by omega)
    have e : rd l (i : Int) = id (l.getD i 0) := rfl
    rw [e, this]
    exact ih (i + 1) (by omega)
theorem toIntS_ev (l : List Int) (hl : l.length ≤ 35184372088832) : Ev (fun k => laws_toIntS.f k l) l := by
  simp only [laws_toIntS.f, Int.toNat_natCast, show (0 : Int) ≤ (l.length : Int) by omega, hl, if_true]
  have := toIntS_l0 l hl l.length 0 (by omega)
  simpa using this

theorem eqIntS_l0 (l : List Int) (hl : l.length ≤ 35184372088832) (d : Nat) : ∀ i : Nat, i + d = l.length → Ev (fun k => laws_eqIntS.l0 k l l i) true := by
  induction d with
  | zero =>
    intro i hi
    apply Ev.succ
    simp only [laws_eqIntS.l0, show ¬ ((i : Int) < (l.length : Int)) by omega, if_false]
    exact Ev.some rfl
  | succ d ih =>
    intro i hi
    apply Ev.succ
    simp only [laws_eqIntS.l0, show ((i : Int) < (l.length : Int)) by omega, show (0 : Int) ≤ (i : Int) by omega, if_true]
    rw [show wrap64 ((i : Int) + 1) = ((i + 1 : Nat) : Int) by rw [wrap64_id (by omega) (by omega)]; omega]
    exact ih (i + 1) (by omega)
theorem eqIntS_ev (l : List Int) (hl : l.length ≤ 35184372088832) : Ev (fun k => laws_eqIntS.f k l l) true := by
  simp only [laws_eqIntS.f, if_true]
  exact eqIntS_l0 l hl l.length 0 (by omega)

end Go.Proofs.YtdihodboopeakaaDoor.Pure
/-
Own text: marks are 1, 2, ..; what is held is what was marked.
-/
namespace Go.Proofs.YtdihodboopeakaaDoor.Pure
open Go.RowKit Go.Proofs.YtdihodboopeakaaDoorW.PrintWords Go.Proofs.YtdihodboopeakaaDoorW.PrintLast Go.Proofs.YtdihodboopeakaaDoor.Pr Go.Proofs.YtdihodboopeakaaDoor.EvKit

/-- a, a + 1, .., n of them. -/
def seqI (a : Int) (n : Nat) : List Int := (List.range n).map fun j : Nat => a + (j : Int)
theorem seqI_length (a : Int) (n : Nat) : (seqI a n).length = n := by simp [seqI]
theorem rd_seqI (a : Int) (n i : Nat) (h : i < n) : rd (seqI a n) (i : Int) = a + i := by
  simp [rd, seqI, List.getD_eq_getElem?_getD, h]

theorem markIntS_l0 (n : Nat) (a : Int) (ha : 0 ≤ a) (han : a + n ≤ 9223372036854775806) (d : Nat) : ∀ (i : Nat) (l : List Int), i + d = n → l.length = n → (l.take i = seqI a i) →
    Ev (fun k => laws_markIntS.l0 k l (a + i) i) (a + n, seqI a n) := by
  induction d with
  | zero =>
    intro i l hi hl ht
    apply Ev.succ
    simp only [laws_markIntS.l0, show ¬ ((i : Int) < (l.length : Int)) by omega, if_false]
    have : i = n := by omega
    subst this
    refine Ev.some ?_
    rw [← ht, List.take_of_length_le (by omega)]
  | succ d ih =>
    intro i l hi hl ht
    apply Ev.succ
    simp only [laws_markIntS.l0, show ((i : Int) < (l.length : Int)) by omega, show (0 : Int) ≤ (i : Int) by omega, if_true, Int.toNat_natCast]
    rw [show wrap64 ((i : Int) + 1) = ((i + 1 : Nat) : Int) by rw [wrap64_id (by omega) (by omega)]; omega, show wrap64 (a + (i : Int) + 1) = a + ((i + 1 : Nat) : Int) by rw [wrap64_id (by omega) (by omega)]; omega]
    refine ih (i + 1) _ (by omega) (by simpa using hl) ?_
    rw [List.take_succ_eq_append_getElem (by simp; omega), List.take_set_of_le (by omega), ht]
    simp [seqI, List.range_succ]
theorem markIntS_ev (l : List Int) (a : Int) (ha : 0 ≤ a) (han : a + l.length ≤ 9223372036854775806) : Ev (fun k => laws_markIntS.f k l a) (a + l.length, seqI a l.length) := by
  simp only [laws_markIntS.f]
  have := markIntS_l0 l.length a ha han l.length 0 l (by omega) rfl (by simp [seqI])
  simpa using this

theorem heldIntS_l0 (n : Nat) (a : Int) (ha : 0 ≤ a) (han : a + n ≤ 9223372036854775806) (d : Nat) : ∀ i : Nat, i + d = n → Ev (fun k => laws_heldIntS.l0 k (seqI a n) (a + i) i) (a + n) := by
  induction d with
  | zero =>
    intro i hi
    apply Ev.succ
    simp only [laws_heldIntS.l0, seqI_length, show ¬ ((i : Int) < (n : Int)) by omega, if_false]
    exact Ev.some (by omega)
  | succ d ih =>
    intro i hi
    apply Ev.succ
    simp only [laws_heldIntS.l0, seqI_length, rd_seqI a n i (by omega), show ((i : Int) < (n : Int)) by omega, show (0 : Int) ≤ (i : Int) by omega, if_true]
    rw [show wrap64 ((i : Int) + 1) = ((i + 1 : Nat) : Int) by rw [wrap64_id (by omega) (by omega)]; omega, show wrap64 (a + (i : Int) + 1) = a + ((i + 1 : Nat) : Int) by rw [wrap64_id (by omega) (by omega)]; omega]
    exact ih (i + 1) (by omega)
theorem heldIntS_ev (n : Nat) (a : Int) (ha : 0 ≤ a) (han : a + n ≤ 9223372036854775806) : Ev (fun k => laws_heldIntS.f k (seqI a n) a) (a + n) := by
  simp only [laws_heldIntS.f]
  have := heldIntS_l0 n a ha han n 0 (by omega)
  simpa using this
end Go.Proofs.YtdihodboopeakaaDoor.Pure
/- markIntSS and heldIntSS, to their ends. -/
namespace Go.Proofs.YtdihodboopeakaaDoor.Pure
open Go.RowKit Go.Proofs.YtdihodboopeakaaDoorW.PrintWords Go.Proofs.YtdihodboopeakaaDoorW.PrintLast Go.Proofs.YtdihodboopeakaaDoor.Pr Go.Proofs.YtdihodboopeakaaDoor.EvKit
set_option linter.unusedVariables false
def mk : List (List Int) → Int → List (List Int)
  | [], _ => []
  | y :: Y, a => seqI a y.length :: mk Y (a + y.length)
def tot : List (List Int) → Nat
  | [] => 0
  | y :: Y => y.length + tot Y
theorem markIntSS_l0 (Y : List (List Int)) : ∀ (X : List (List Int)) (a : Int), 0 ≤ a → a + tot Y ≤ 9223372036854775806 → X.length + Y.length ≤ 1048576 →
    Ev (fun k => laws_markIntSS.l0 k (X ++ Y) a X.length) (a + tot Y, X ++ mk Y a) := by
  induction Y with
  | nil =>
    intro X a h0 h1 h2
    refine Ev.succ ?_
    simp only [laws_markIntSS.l0, List.append_nil, show ¬ ((X.length : Int) < (X.length : Int)) by omega, if_false]
    exact Ev.some (by simp [tot, mk])
  | cons y Y ih =>
    intro X a h0 h1 h2
    simp only [tot, List.length_cons] at h1 h2
    refine Ev.succ ?_
    have hl : (X ++ y :: Y).length = X.length + Y.length + 1 := by simp; omega
    simp only [laws_markIntSS.l0, hl, show ((X.length : Int) < ((X.length + Y.length + 1 : Nat) : Int)) by omega, show (0 : Int) ≤ (X.length : Int) by omega, if_true, Int.toNat_natCast]
    rw [show (X ++ y :: Y).getD X.length [] = y by rw [List.getD_eq_getElem?_getD, List.getElem?_append_right (Nat.le_refl _)]; simp]
    refine Ev.bnd (markIntS_ev y a h0 (by omega)) ?_
    rw [show (X ++ y :: Y).set X.length (a + (y.length : Int), seqI a y.length).2 = (X ++ [seqI a y.length]) ++ Y by rw [List.set_append, if_neg (by omega), Nat.sub_self]; simp]
    have := ih (X ++ [seqI a y.length]) (a + y.length) (by omega) (by omega) (by simp; omega)
    rw [show ((X ++ [seqI a y.length]).length : Int) = wrap64 ((X.length : Int) + 1) by rw [wrap64_id (by omega) (by omega)]; simp] at this
    refine Ev.eq this ?_
    simp only [tot, mk, List.append_assoc, List.singleton_append, Int.natCast_add, Prod.mk.injEq, and_true]
    omega
theorem markIntSS_ev (l : List (List Int)) (a : Int) (h0 : 0 ≤ a) (h1 : a + tot l ≤ 9223372036854775806) (h2 : l.length ≤ 1048576) : Ev (fun k => laws_markIntSS.f k l a) (a + tot l, mk l a) := by
  simp only [laws_markIntSS.f]
  exact markIntSS_l0 l [] a h0 h1 (by simpa using h2)
theorem tot_le (l : List (List Int)) (B : Nat) (h : ∀ x ∈ l, x.length ≤ B) : tot l ≤ l.length * B := by
  induction l with
  | nil => simp [tot]
  | cons y Y ih =>
    have h1 := h y (List.mem_cons_self ..)
    have h2 := ih (fun x hx => h x (List.mem_cons_of_mem _ hx))
    simp only [tot, List.length_cons, Nat.succ_mul]
    omega
end Go.Proofs.YtdihodboopeakaaDoor.Pure
/-
Own text: what a name is: the program's reading of runes (over the model's own decoding) and the reference's come to the same.
-/
namespace Go.Proofs.YtdihodboopeakaaDoor.Pure
open Go.RowKit Go.Proofs.YtdihodboopeakaaDoorW.PrintWords Go.Proofs.YtdihodboopeakaaDoorW.PrintLast Go.Proofs.YtdihodboopeakaaDoor.Pr Go.Proofs.YtdihodboopeakaaDoor.EvKit

def szOf (b : Nat) : Nat := if 194 ≤ b ∧ b ≤ 223 then 2 else if 224 ≤ b ∧ b ≤ 239 then 3 else if 240 ≤ b ∧ b ≤ 244 then 4 else 0
def loOf (b : Nat) : Nat := if b = 224 then 160 else if b = 240 then 144 else 128
def hiOf (b : Nat) : Nat := if b = 237 then 159 else if b = 244 then 143 else 191
abbrev contOk (n b1 b2 b3 sz lo hi : Nat) : Prop := (1 < n ∧ lo ≤ b1 ∧ b1 ≤ hi) ∧ (3 ≤ sz → 2 < n ∧ 128 ≤ b2 ∧ b2 ≤ 191) ∧ (4 ≤ sz → 3 < n ∧ 128 ≤ b3 ∧ b3 ≤ 191)
/-- How many bytes the rune has; 0: there is none. -/
def rw4 (n b0 b1 b2 b3 : Nat) : Nat := if b0 < 128 then 1 else if szOf b0 = 0 then 0 else if contOk n b1 b2 b3 (szOf b0) (loOf b0) (hiOf b0) then szOf b0 else 0
def wid (d : Nat × Nat) : Nat := if d.1 = 65533 ∧ d.2 = 1 then 0 else d.2
theorem slow_wid (n b0 b1 b2 b3 sz lo hi : Nat) (hs : 2 ≤ sz) (hs4 : sz ≤ 4) : wid (Lib.slowN n b0 b1 b2 b3 sz lo hi) = if contOk n b1 b2 b3 sz lo hi then sz else 0 := by
  have w0 : wid (65533, 1) = 0 := by decide
  have w2 (x y : Nat) (hy : 2 ≤ y) : wid (x, y) = y := by unfold wid; exact if_neg (fun h => by have := h.2; simp only at this; omega)
  unfold Lib.slowN contOk
  by_cases a : n < sz
  · rw [if_pos a, w0, if_neg (by omega)]
  rw [if_neg a]
  by_cases b : b1 < lo ∨ hi < b1
  · rw [if_pos b, w0, if_neg (by omega)]
  rw [if_neg b]
  by_cases c : sz ≤ 2
  · rw [if_pos c, w2 _ _ (by decide), if_pos (by omega)]
    omega
  rw [if_neg c]
  by_cases d : b2 < 128 ∨ 191 < b2
  · rw [if_pos d, w0, if_neg (by omega)]
  rw [if_neg d]
  by_cases e : sz ≤ 3
  · rw [if_pos e, w2 _ _ (by decide), if_pos (by omega)]
    omega
  rw [if_neg e]
  by_cases f : b3 < 128 ∨ 191 < b3
  · rw [if_pos f, w0, if_neg (by omega)]
  rw [if_neg f, w2 _ _ (by decide), if_pos (by omega)]
  omega
theorem rw4_eq (n b0 b1 b2 b3 : Nat) (hn : 1 ≤ n) (h0 : b0 < 256) (h1 : b1 < 256) (h2 : b2 < 256) (h3 : b3 < 256) : wid (Lib.decodeN n b0 b1 b2 b3) = rw4 n b0 b1 b2 b3 := by
  unfold rw4
  by_cases c1 : b0 < 128
  · rw [if_pos c1]
    have e : Lib.decodeN n b0 b1 b2 b3 = (b0, 1) := by unfold Lib.decodeN; rw [if_pos c1]
    rw [e]
    unfold wid
    rw [if_neg (by simp only; omega)]
  rw [if_neg c1]
  by_cases c2 : 194 ≤ b0 ∧ b0 < 224
  · have es : szOf b0 = 2 := by unfold szOf; rw [if_pos (by omega)]
    have el : loOf b0 = 128 := by unfold loOf; rw [if_neg (by omega), if_neg (by omega)]
    have eh : hiOf b0 = 191 := by unfold hiOf; rw [if_neg (by omega), if_neg (by omega)]
    rw [es, el, eh, if_neg (by decide), ← Lib.slow_C2 n b0 b1 b2 b3 hn h1 h2 h3 c2, slow_wid _ _ _ _ _ _ _ _ (by decide) (by decide)]
  by_cases c3 : b0 = 224
  · have es : szOf b0 = 3 := by unfold szOf; rw [if_neg (by omega), if_pos (by omega)]
    have el : loOf b0 = 160 := by unfold loOf; rw [if_pos c3]
    have eh : hiOf b0 = 191 := by unfold hiOf; rw [if_neg (by omega), if_neg (by omega)]
    rw [es, el, eh, if_neg (by decide), ← Lib.slow_E0 n b0 b1 b2 b3 hn h1 h2 h3 c3, slow_wid _ _ _ _ _ _ _ _ (by decide) (by decide)]
  by_cases c4 : (225 ≤ b0 ∧ b0 < 237) ∨ (238 ≤ b0 ∧ b0 < 240)
  · have es : szOf b0 = 3 := by unfold szOf; rw [if_neg (by omega), if_pos (by omega)]
    have el : loOf b0 = 128 := by unfold loOf; rw [if_neg (by omega), if_neg (by omega)]
    have eh : hiOf b0 = 191 := by unfold hiOf; rw [if_neg (by omega), if_neg (by omega)]
    rw [es, el, eh, if_neg (by decide), ← Lib.slow_E1 n b0 b1 b2 b3 hn h1 h2 h3 c4, slow_wid _ _ _ _ _ _ _ _ (by decide) (by decide)]
  by_cases c5 : b0 = 237
  · have es : szOf b0 = 3 := by unfold szOf; rw [if_neg (by omega), if_pos (by omega)]
    have el : loOf b0 = 128 := by unfold loOf; rw [if_neg (by omega), if_neg (by omega)]
    have eh : hiOf b0 = 159 := by unfold hiOf; rw [if_pos c5]
    rw [es, el, eh, if_neg (by decide), ← Lib.slow_ED n b0 b1 b2 b3 hn h1 h2 h3 c5, slow_wid _ _ _ _ _ _ _ _ (by decide) (by decide)]
  by_cases c6 : b0 = 240
  · have es : szOf b0 = 4 := by unfold szOf; rw [if_neg (by omega), if_neg (by omega), if_pos (by omega)]
    have el : loOf b0 = 144 := by unfold loOf; rw [if_neg (by omega), if_pos c6]
    have eh : hiOf b0 = 191 := by unfold hiOf; rw [if_neg (by omega), if_neg (by omega)]
    rw [es, el, eh, if_neg (by decide), ← Lib.slow_F0 n b0 b1 b2 b3 hn h1 h2 h3 c6, slow_wid _ _ _ _ _ _ _ _ (by decide) (by decide)]
  by_cases c7 : 241 ≤ b0 ∧ b0 < 244
  · have es : szOf b0 = 4 := by unfold szOf; rw [if_neg (by omega), if_neg (by omega), if_pos (by omega)]
    have el : loOf b0 = 128 := by unfold loOf; rw [if_neg (by omega), if_neg (by omega)]
    have eh : hiOf b0 = 191 := by unfold hiOf; rw [if_neg (by omega), if_neg (by omega)]
    rw [es, el, eh, if_neg (by decide), ← Lib.slow_F1 n b0 b1 b2 b3 hn h1 h2 h3 c7, slow_wid _ _ _ _ _ _ _ _ (by decide) (by decide)]
  by_cases c8 : b0 = 244
  · have es : szOf b0 = 4 := by unfold szOf; rw [if_neg (by omega), if_neg (by omega), if_pos (by omega)]
    have el : loOf b0 = 128 := by unfold loOf; rw [if_neg (by omega), if_neg (by omega)]
    have eh : hiOf b0 = 143 := by unfold hiOf; rw [if_neg (by omega), if_pos c8]
    rw [es, el, eh, if_neg (by decide), ← Lib.slow_F4 n b0 b1 b2 b3 hn h1 h2 h3 c8, slow_wid _ _ _ _ _ _ _ _ (by decide) (by decide)]
  · have es : szOf b0 = 0 := by unfold szOf; rw [if_neg (by omega), if_neg (by omega), if_neg (by omega)]
    rw [es, if_pos rfl]
    unfold Lib.decodeN wid
    repeat' split
    all_goals first | rfl | (exfalso; omega)
theorem bt_get (s : ByteArray) (i : Nat) (h : i < s.size) : bt s (i : Int) = ((s.get! i).toNat : Int) := by
  unfold bt
  rw [dif_pos (by simpa using h)]
  have : s.get! i = s[i]'h := by
    have h2 : i < s.data.size := h
    cases s with
    | mk a => simp [ByteArray.get!, getElem!_pos, h2]; rfl
  rw [this]
  rfl
def rwAt (s : ByteArray) (i : Nat) : Nat := rw4 (s.size - i) (s.get! i).toNat (s.get! (i + 1)).toNat (s.get! (i + 2)).toNat (s.get! (i + 3)).toNat
theorem rwAt_eq (s : ByteArray) (i : Nat) (h : i < s.size) : rwAt s i = wid (Utf8.decode s i) := by
  unfold rwAt
  rw [Lib.decode_at, rw4_eq _ _ _ _ _ (by omega) (UInt8.toNat_lt _) (UInt8.toNat_lt _) (UInt8.toNat_lt _) (UInt8.toNat_lt _)]
/-- One more byte of a rune. -/
theorem l22Rune_step (s : ByteArray) (hs : s.size ≤ 1000000000) (i sz j lo hi : Nat) (r : Int) (hj : j < sz) (h4 : sz ≤ 4) (hi0 : i < s.size)
    (hbad : ¬ (i + j < s.size ∧ lo ≤ (s.get! (i + j)).toNat ∧ (s.get! (i + j)).toNat ≤ hi) → r = 0)
    (hgo : (i + j < s.size ∧ lo ≤ (s.get! (i + j)).toNat ∧ (s.get! (i + j)).toNat ≤ hi) → Ev (fun k => spec_l22Rune.l0 k s i sz 128 191 ((j + 1 : Nat) : Int)) r) : Ev (fun k => spec_l22Rune.l0 k s i sz lo hi (j : Int)) r := by
  apply Ev.succ
  have hw : wrap64 ((i : Int) + (j : Int)) = ((i + j : Nat) : Int) := by rw [wrap64_id (by omega) (by omega)]; omega
  have hw1 : wrap64 ((j : Int) + 1) = ((j + 1 : Nat) : Int) := by rw [wrap64_id (by omega) (by omega)]; omega
  simp only [spec_l22Rune.l0, show ((j : Int) < (sz : Int)) by omega, if_true, hw, hw1]
  by_cases c1 : i + j < s.size
  · refine Ev.neg (by omega) (Ev.pos (by omega) (Ev.pos (by omega) ?_))
    rw [bt_get s (i + j) c1]
    have hb := UInt8.toNat_lt (s.get! (i + j))
    rw [wrap64_id (by omega) (by omega)]
    by_cases c2 : (s.get! (i + j)).toNat < lo
    · exact Ev.pos (by omega) (Ev.some (hbad (by omega)).symm)
    · refine Ev.neg (by omega) ?_
      by_cases c3 : hi < (s.get! (i + j)).toNat
      · exact Ev.pos (by omega) (Ev.some (hbad (by omega)).symm)
      · exact Ev.neg (by omega) (hgo (by omega))
  · exact Ev.pos (by omega) (Ev.some (hbad (by omega)).symm)
theorem l22Rune_end (s : ByteArray) (i sz lo hi : Nat) (j : Nat) (hj : j = sz) : Ev (fun k => spec_l22Rune.l0 k s i sz lo hi (j : Int)) (sz : Int) := by
  apply Ev.succ
  subst hj
  simp only [spec_l22Rune.l0, Int.lt_irrefl, if_false]
  exact Ev.some rfl
theorem l22Rune_l0 (s : ByteArray) (hs : s.size ≤ 1000000000) (i sz lo hi : Nat) (h2 : 2 ≤ sz) (h4 : sz ≤ 4) (hi0 : i < s.size) :
    Ev (fun k => spec_l22Rune.l0 k s i sz lo hi 1) ((if contOk (s.size - i) (s.get! (i + 1)).toNat (s.get! (i + 2)).toNat (s.get! (i + 3)).toNat sz lo hi then sz else 0 : Nat) : Int) := by
  generalize hr : (if contOk (s.size - i) (s.get! (i + 1)).toNat (s.get! (i + 2)).toNat (s.get! (i + 3)).toNat sz lo hi then sz else 0) = r
  unfold contOk at hr
  refine l22Rune_step s hs i sz 1 lo hi r (by omega) h4 hi0 (fun hb => ?_) (fun hg => ?_)
  · rw [← hr, if_neg (by omega)]; rfl
  by_cases e2 : sz = 2
  · subst e2
    have : r = 2 := by rw [← hr, if_pos (by omega)]
    subst this
    exact l22Rune_end s i 2 128 191 2 rfl
  refine l22Rune_step s hs i sz 2 128 191 r (by omega) h4 hi0 (fun hb => ?_) (fun hg2 => ?_)
  · rw [← hr, if_neg (by omega)]; rfl
  by_cases e3 : sz = 3
  · subst e3
    have : r = 3 := by rw [← hr, if_pos (by omega)]
    subst this
    exact l22Rune_end s i 3 128 191 3 rfl
  refine l22Rune_step s hs i sz 3 128 191 r (by omega) h4 hi0 (fun hb => ?_) (fun hg3 => ?_)
  · rw [← hr, if_neg (by omega)]; rfl
  have e4 : sz = 4 := by omega
  subst e4
  have : r = 4 := by rw [← hr, if_pos (by omega)]
  subst this
  exact l22Rune_end s i 4 128 191 4 rfl
theorem l22Rune_ev (s : ByteArray) (hs : s.size ≤ 1000000000) (i : Nat) (h : i < s.size) : Ev (fun k => spec_l22Rune.f k s i) ((rwAt s i : Nat) : Int) := by
  unfold spec_l22Rune.f
  refine Ev.pos (by omega) (Ev.pos (by omega) ?_)
  have hb := UInt8.toNat_lt (s.get! i)
  rw [bt_get s i h, wrap64_id (x := ((s.get! i).toNat : Int)) (by omega) (by omega)]
  unfold rwAt rw4
  generalize hb0 : (s.get! i).toNat = b at hb
  by_cases c1 : b < 128
  · rw [if_pos c1]
    exact Ev.pos (by omega) (Ev.some rfl)
  rw [if_neg c1]
  refine Ev.neg (by omega) ?_
  have key (sz lo hi : Nat) (h2 : 2 ≤ sz) (h4 : sz ≤ 4) : Ev (fun k => spec_l22Rune.j3 k s i sz lo hi) ((if contOk (s.size - i) (s.get! (i + 1)).toNat (s.get! (i + 2)).toNat (s.get! (i + 3)).toNat sz lo hi then sz else 0 : Nat) : Int) := by
    apply Ev.succ
    simp only [spec_l22Rune.j3]
    exact l22Rune_l0 s hs i sz lo hi h2 h4 h
  by_cases c2 : 194 ≤ b ∧ b ≤ 223
  · have es : szOf b = 2 := by unfold szOf; rw [if_pos (by omega)]
    have el : loOf b = 128 := by unfold loOf; rw [if_neg (by omega), if_neg (by omega)]
    have eh : hiOf b = 191 := by unfold hiOf; rw [if_neg (by omega), if_neg (by omega)]
    rw [es, el, eh, if_neg (by decide)]
    refine Ev.pos (by omega) ?_
    apply Ev.succ
    simp only [spec_l22Rune.j0]
    exact Ev.pos (by simp; omega) (key 2 128 191 (by decide) (by decide))
  · have hj0 : ∀ x : Bool, x = false → Ev (fun k => spec_l22Rune.j0 k s i (b : Int) 128 191 x) (((if szOf b = 0 then 0 else if contOk (s.size - i) (s.get! (i + 1)).toNat (s.get! (i + 2)).toNat (s.get! (i + 3)).toNat (szOf b) (loOf b) (hiOf b) then szOf b else 0) : Nat) : Int) := by
      intro x hx
      subst hx
      apply Ev.succ
      simp only [spec_l22Rune.j0, Bool.false_eq_true, if_false]
      by_cases c3 : 224 ≤ b ∧ b ≤ 239
      · refine Ev.pos (by omega) ?_
        apply Ev.succ
        simp only [spec_l22Rune.j1]
        refine Ev.pos (by simp; omega) ?_
        have es : szOf b = 3 := by unfold szOf; rw [if_neg (by omega), if_pos (by omega)]
        rw [es, if_neg (by decide)]
        by_cases c4 : b = 224
        · have el : loOf b = 160 := by unfold loOf; rw [if_pos c4]
          have eh : hiOf b = 191 := by unfold hiOf; rw [if_neg (by omega), if_neg (by omega)]
          rw [el, eh]
          exact Ev.pos (by omega) (Ev.neg (by omega) (key 3 160 191 (by decide) (by decide)))
        · have el : loOf b = 128 := by unfold loOf; rw [if_neg (by omega), if_neg (by omega)]
          rw [el]
          refine Ev.neg (by omega) ?_
          by_cases c5 : b = 237
          · have eh : hiOf b = 159 := by unfold hiOf; rw [if_pos c5]
            rw [eh]
            exact Ev.pos (by omega) (key 3 128 159 (by decide) (by decide))
          · have eh : hiOf b = 191 := by unfold hiOf; rw [if_neg (by omega), if_neg (by omega)]
            rw [eh]
            exact Ev.neg (by omega) (key 3 128 191 (by decide) (by decide))
      · have hj1 : ∀ y : Bool, y = false → Ev (fun k => spec_l22Rune.j1 k s i (b : Int) 128 191 y) (((if szOf b = 0 then 0 else if contOk (s.size - i) (s.get! (i + 1)).toNat (s.get! (i + 2)).toNat (s.get! (i + 3)).toNat (szOf b) (loOf b) (hiOf b) then szOf b else 0) : Nat) : Int) := by
          intro y hy
          subst hy
          apply Ev.succ
          simp only [spec_l22Rune.j1, Bool.false_eq_true, if_false]
          by_cases c6 : 240 ≤ b ∧ b ≤ 244
          · refine Ev.pos (by omega) ?_
            apply Ev.succ
            simp only [spec_l22Rune.j2]
            refine Ev.pos (by simp; omega) ?_
            have es : szOf b = 4 := by unfold szOf; rw [if_neg (by omega), if_neg (by omega), if_pos (by omega)]
            rw [es, if_neg (by decide)]
            by_cases c7 : b = 240
            · have el : loOf b = 144 := by unfold loOf; rw [if_neg (by omega), if_pos c7]
              have eh : hiOf b = 191 := by unfold hiOf; rw [if_neg (by omega), if_neg (by omega)]
              rw [el, eh]
              exact Ev.pos (by omega) (Ev.neg (by omega) (key 4 144 191 (by decide) (by decide)))
            · have el : loOf b = 128 := by unfold loOf; rw [if_neg (by omega), if_neg (by omega)]
              rw [el]
              refine Ev.neg (by omega) ?_
              by_cases c8 : b = 244
              · have eh : hiOf b = 143 := by unfold hiOf; rw [if_neg (by omega), if_pos c8]
                rw [eh]
                exact Ev.pos (by omega) (key 4 128 143 (by decide) (by decide))
              · have eh : hiOf b = 191 := by unfold hiOf; rw [if_neg (by omega), if_neg (by omega)]
                rw [eh]
                exact Ev.neg (by omega) (key 4 128 191 (by decide) (by decide))
          · have es : szOf b = 0 := by unfold szOf; rw [if_neg (by omega), if_neg (by omega), if_neg (by omega)]
            rw [es, if_pos rfl]
            have hj2 : ∀ z : Bool, z = false → Ev (fun k => spec_l22Rune.j2 k s i (b : Int) 128 191 z) ((0 : Nat) : Int) := by
              intro z hz
              subst hz
              apply Ev.succ
              simp only [spec_l22Rune.j2, Bool.false_eq_true, if_false]
              exact Ev.some rfl
            exact Ev.ite (fun _ => hj2 _ (decide_eq_false (by omega))) (fun _ => hj2 _ rfl)
        exact Ev.ite (fun _ => hj1 _ (decide_eq_false (by omega))) (fun _ => hj1 _ rfl)
    exact Ev.ite (fun _ => hj0 _ (decide_eq_false (by omega))) (fun _ => hj0 _ rfl)
theorem decode_small (s : ByteArray) (i : Nat) (h : (s.get! i).toNat < 128) : Utf8.decode s i = ((s.get! i).toNat, 1) := by
  rw [Lib.decode_at]
  unfold Lib.decodeN
  rw [if_pos h]
theorem decode_great (s : ByteArray) (i : Nat) (h : ¬ (s.get! i).toNat < 128) : 128 ≤ (Utf8.decode s i).1 ∧ ((Utf8.decode s i).2 = 1 → (Utf8.decode s i).1 = 65533) := by
  rw [Lib.decode_at]
  generalize (s.get! i).toNat = b0 at h
  generalize (s.get! (i + 1)).toNat = b1
  generalize (s.get! (i + 2)).toNat = b2
  generalize (s.get! (i + 3)).toNat = b3
  unfold Lib.decodeN
  rw [if_neg h]
  repeat' split
  all_goals (refine ⟨?_, fun h => ?_⟩ <;> simp only at * <;> omega)
theorem decode_w (s : ByteArray) (i : Nat) : 1 ≤ (Utf8.decode s i).2 ∧ (Utf8.decode s i).2 ≤ 4 := by
  rw [Lib.decode_at]
  generalize (s.get! i).toNat = b0
  generalize (s.get! (i + 1)).toNat = b1
  generalize (s.get! (i + 2)).toNat = b2
  generalize (s.get! (i + 3)).toNat = b3
  unfold Lib.decodeN
  repeat' split
  all_goals simp
theorem letter_eq (b : Int) : spec_l22Letter.f b = some (decide ((97 ≤ b ∧ b ≤ 122) ∨ (65 ≤ b ∧ b ≤ 90))) := by
  unfold spec_l22Letter.f
  by_cases h1 : b ≥ 97
  · rw [if_pos h1]
    by_cases h2 : b ≤ 122
    · rw [if_pos h2, decide_eq_true (Or.inl ⟨h1, h2⟩)]
    · rw [if_neg h2, if_pos (by omega)]
      congr 1
      rw [Bool.eq_iff_iff]
      simp only [decide_eq_true_eq]
      omega
  · rw [if_neg h1]
    by_cases h3 : b ≥ 65
    · rw [if_pos h3]
      congr 1
      rw [Bool.eq_iff_iff]
      simp only [decide_eq_true_eq]
      omega
    · rw [if_neg h3, decide_eq_false (by omega)]
/-- What the reference's reading of a token tells. -/
def oddR (o : Int) (n : Int) : Int × Int := if o < 0 then (-1, n) else (o, 0)
theorem l22Odd_l0 (s : ByteArray) (hs : s.size ≤ 1000000000) (f : Nat) : ∀ (i x : Nat), s.size - i ≤ f → i ≤ s.size + 4 → x ≤ i →
    Ev (fun k => spec_l22Odd.l0 k s (x : Int) (i : Int)) (oddR (oddFrom s f i) ((x + Lib.runeCountFrom s f i : Nat) : Int)) := by
  induction f with
  | zero =>
    intro i x hf hi hx
    apply Ev.succ
    simp only [spec_l22Odd.l0, show ¬ ((i : Int) < (s.size : Int)) by omega, if_false]
    exact Ev.some rfl
  | succ f ih =>
    intro i x hf hi hx
    apply Ev.succ
    simp only [spec_l22Odd.l0, oddFrom, Lib.runeCountFrom]
    by_cases h : i < s.size
    · rw [if_pos h, if_pos h]
      refine Ev.pos (by omega) (Ev.bnd (l22Rune_ev s hs i h) ?_)
      rw [rwAt_eq s i h]
      have hw := decode_w s i
      by_cases c : (s.get! i).toNat < 128
      · have hd := decode_small s i c
        rw [hd]
        have e1 : wid ((s.get! i).toNat, 1) = 1 := by unfold wid; exact if_neg (fun h => by have := h.1; simp only at this; omega)
        rw [e1]
        refine Ev.neg (by decide) (Ev.pos rfl (Ev.pos (by omega) ?_))
        rw [bt_get s i h]
        refine Ev.bnd0 (letter_eq _) ?_
        by_cases c2 : (97 ≤ (s.get! i).toNat ∧ (s.get! i).toNat ≤ 122) ∨ (65 ≤ (s.get! i).toNat ∧ (s.get! i).toNat ≤ 90)
        · have e2 : badRune ((s.get! i).toNat, 1) = false := decide_eq_false (fun h => by simp only at h; omega)
          rw [e2, if_neg (by decide)]
          refine Ev.pos (decide_eq_true (by omega)) ?_
          rw [show wrap64 ((x : Int) + 1) = ((x + 1 : Nat) : Int) by rw [wrap64_id (by omega) (by omega)]; omega, show wrap64 ((i : Int) + ((1 : Nat) : Int)) = ((i + 1 : Nat) : Int) by rw [wrap64_id (by omega) (by omega)]; omega]
          refine Ev.eq (ih (i + 1) (x + 1) (by omega) (by omega) (by omega)) ?_
          rw [Nat.add_assoc]
        · have e2 : badRune ((s.get! i).toNat, 1) = true := decide_eq_true (Or.inr ⟨c, c2⟩)
          rw [e2, if_pos rfl]
          refine Ev.neg (fun h => c2 (by have := of_decide_eq_true h; omega)) (Ev.some ?_)
          unfold oddR
          rw [if_neg (by omega)]
      · obtain ⟨g1, g2⟩ := decode_great s i c
        by_cases c2 : (Utf8.decode s i).1 = 65533 ∧ (Utf8.decode s i).2 = 1
        · have e1 : wid (Utf8.decode s i) = 0 := if_pos c2
          have e2 : badRune (Utf8.decode s i) = true := decide_eq_true (Or.inl c2)
          rw [e1, e2, if_pos rfl]
          refine Ev.pos rfl (Ev.some ?_)
          unfold oddR
          rw [if_neg (by omega)]
        · have e1 : wid (Utf8.decode s i) = (Utf8.decode s i).2 := if_neg c2
          have e2 : badRune (Utf8.decode s i) = false := decide_eq_false (fun h => h.elim c2 (fun h => by omega))
          have e3 : (Utf8.decode s i).2 ≠ 1 := fun h => c2 ⟨g2 h, h⟩
          rw [e1, e2, if_neg (by decide)]
          refine Ev.neg (by omega) (Ev.neg (by omega) ?_)
          rw [show wrap64 ((x : Int) + 1) = ((x + 1 : Nat) : Int) by rw [wrap64_id (by omega) (by omega)]; omega, show wrap64 ((i : Int) + (((Utf8.decode s i).2 : Nat) : Int)) = ((i + (Utf8.decode s i).2 : Nat) : Int) by rw [wrap64_id (by omega) (by omega)]; omega]
          refine Ev.eq (ih (i + (Utf8.decode s i).2) (x + 1) (by omega) (by omega) (by omega)) ?_
          rw [Nat.add_assoc]
    · rw [if_neg h, if_neg h]
      exact Ev.neg (by omega) (Ev.some (by simp [oddR]))
theorem l22Odd_ev (s : ByteArray) (hs : s.size ≤ 1000000000) : Ev (fun k => spec_l22Odd.f k s) (oddR (oddOf s) (Lib.runeCount s : Int)) := by
  unfold spec_l22Odd.f
  have := l22Odd_l0 s hs s.size 0 0 (by omega) (by omega) (by omega)
  simpa [oddOf, Lib.runeCount] using this
/-- A name. -/
def NameOk (s : ByteArray) : Prop := 1 ≤ Lib.runeCount s ∧ Lib.runeCount s ≤ 12 ∧ oddOf s < 0
instance (s : ByteArray) : Decidable (NameOk s) := by unfold NameOk; infer_instance
theorem goodName_eq (s : ByteArray) (hs : s.size ≤ 1000000000) : impl_goodName.f s = some (decide (NameOk s)) := by
  unfold impl_goodName.f
  rw [if_pos (by omega)]
  rfl
theorem l22Name_ev (s : ByteArray) (hs : s.size ≤ 1000000000) : Ev (fun k => spec_l22Name.f k s) (decide (NameOk s)) := by
  unfold spec_l22Name.f
  refine Ev.bnd (l22Odd_ev s hs) ?_
  unfold oddR
  by_cases h : oddOf s < 0
  · rw [if_pos h]
    refine Ev.pos (by show (-1 : Int) < 0; decide) ?_
    by_cases h1 : 1 ≤ Lib.runeCount s
    · refine Ev.pos (by simp only; omega) (Ev.some ?_)
      rw [Bool.eq_iff_iff]
      simp only [decide_eq_true_eq]
      unfold NameOk
      omega
    · refine Ev.neg (by simp only; omega) (Ev.some ?_)
      rw [decide_eq_false]
      exact fun h2 => h1 h2.1
  · rw [if_neg h]
    refine Ev.neg (by simp only; omega) (Ev.some ?_)
    rw [decide_eq_false]
    exact fun h2 => h h2.2.2
end Go.Proofs.YtdihodboopeakaaDoor.Pure
/-
Own text: what the laws' own helpers on []string and []bool come to: a copy, a comparison, a size.
-/
namespace Go.Proofs.YtdihodboopeakaaDoor.Pure
open Go.RowKit Go.Proofs.YtdihodboopeakaaDoorW.PrintWords Go.Proofs.YtdihodboopeakaaDoorW.PrintLast Go.Proofs.YtdihodboopeakaaDoor.Pr Go.Proofs.YtdihodboopeakaaDoor.EvKit

theorem toStringS_l0 (l : List ByteArray) (hl : l.length ≤ 1048576) (d : Nat) : ∀ i : Nat, i + d = l.length →
    Ev (fun k => laws_toStringS.l0 k l ((l.take i).map id ++ List.replicate (l.length - i) (⟨#[]⟩ : ByteArray)) i) (l.map id) := by
  induction d with
  | zero =>
    intro i hi
    apply Ev.succ
    simp only [laws_toStringS.l0, show ¬ ((i : Int) < (l.length : Int)) by omega, if_false]
    have : i = l.length := by omega
    subst this
    exact Ev.some (copy_done _ _ _)
  | succ d ih =>
    intro i hi
    apply Ev.succ
    have hlen : ((l.take i).map id ++ List.replicate (l.length - i) (⟨#[]⟩ : ByteArray)).length = l.length := by simp; omega
    simp only [laws_toStringS.l0, hlen, show ((i : Int) < (l.length : Int)) by omega, show (0 : Int) ≤ (i : Int) by omega, if_true, Int.toNat_natCast]
    rw [show wrap64 ((i : Int) + 1) = ((i + 1 : Nat) : Int) by rw [wrap64_id (by omega) (by omega)]; omega]
    have := copy_step id (⟨#[]⟩ : ByteArray) ByteArray.empty l i (by omega)
    have e : rdOf ByteArray.empty l (i : Int) = id (l.getD i ByteArray.empty) := rfl
    rw [e, this]
    exact ih (i + 1) (by omega)
theorem toStringS_ev (l : List ByteArray) (hl : l.length ≤ 1048576) : Ev (fun k => laws_toStringS.f k l) l := by
  simp only [laws_toStringS.f, Int.toNat_natCast, show (0 : Int) ≤ (l.length : Int) by omega, show l.length ≤ 17592186044416 by omega, if_true]
  have := toStringS_l0 l hl l.length 0 (by omega)
  simpa using this
theorem eqStringS_l0 (l : List ByteArray) (hl : l.length ≤ 1048576) (d : Nat) : ∀ i : Nat, i + d = l.length → Ev (fun k => laws_eqStringS.l0 k l l i) true := by
  induction d with
  | zero =>
    intro i hi
    apply Ev.succ
    simp only [laws_eqStringS.l0, show ¬ ((i : Int) < (l.length : Int)) by omega, if_false]
    exact Ev.some rfl
  | succ d ih =>
    intro i hi
    apply Ev.succ
    simp only [laws_eqStringS.l0, show ((i : Int) < (l.length : Int)) by omega, show (0 : Int) ≤ (i : Int) by omega, if_true]
    rw [show wrap64 ((i : Int) + 1) = ((i + 1 : Nat) : Int) by rw [wrap64_id (by omega) (by omega)]; omega]
    exact ih (i + 1) (by omega)
theorem eqStringS_ev (l : List ByteArray) (hl : l.length ≤ 1048576) : Ev (fun k => laws_eqStringS.f k l l) true := by
  simp only [laws_eqStringS.f, if_true]
  exact eqStringS_l0 l hl l.length 0 (by omega)
theorem szStringS_l0 (l : List ByteArray) (hl : l.length ≤ 1048576) (hr : ∀ x ∈ l, x.size ≤ 140737488351232) (d : Nat) : ∀ (i : Nat) (a : Int), i + d = l.length → 0 ≤ a → a ≤ 1048576 →
    ∃ r, Ev (fun k => laws_szStringS.l0 k l a i) r ∧ (¬ r < 0 → r ≤ a ∧ ∀ j, i ≤ j → j < l.length → ((l.getD j ByteArray.empty).size : Int) ≤ 1048576) := by
  induction d with
  | zero =>
    intro i a hi h0 h1
    refine ⟨a, ?_, fun _ => ⟨Int.le_refl _, fun j h2 h3 => by omega⟩⟩
    apply Ev.succ
    simp only [laws_szStringS.l0, show ¬ ((i : Int) < (l.length : Int)) by omega, if_false]
    exact Ev.some rfl
  | succ d ih =>
    intro i a hi h0 h1
    have hm := hr _ (getD_mem l i ByteArray.empty (by omega))
    have e : rdOf ByteArray.empty l (i : Int) = l.getD i ByteArray.empty := rfl
    have hw : wrap64 (a - ((rdOf ByteArray.empty l (i : Int)).size : Int)) = a - ((l.getD i ByteArray.empty).size : Int) := by rw [e, wrap64_id (by omega) (by omega)]
    by_cases c : a - ((l.getD i ByteArray.empty).size : Int) < 0
    · refine ⟨-1, ?_, fun h => absurd (by decide) h⟩
      apply Ev.succ
      simp only [laws_szStringS.l0, show ((i : Int) < (l.length : Int)) by omega, show (0 : Int) ≤ (i : Int) by omega, if_true, hw]
      exact Ev.pos c (Ev.some rfl)
    · obtain ⟨r, e1, e2⟩ := ih (i + 1) (a - ((l.getD i ByteArray.empty).size : Int)) (by omega) (by omega) (by omega)
      refine ⟨r, ?_, fun h => ?_⟩
      · apply Ev.succ
        simp only [laws_szStringS.l0, show ((i : Int) < (l.length : Int)) by omega, show (0 : Int) ≤ (i : Int) by omega, if_true, hw]
        refine Ev.neg c ?_
        rw [show wrap64 ((i : Int) + 1) = ((i + 1 : Nat) : Int) by rw [wrap64_id (by omega) (by omega)]; omega]
        exact e1
      · obtain ⟨h2, h3⟩ := e2 h
        refine ⟨by omega, fun j hj hjl => ?_⟩
        by_cases ej : j = i
        · subst ej; omega
        · exact h3 j (by omega) hjl
theorem szStringS_ev (l : List ByteArray) (a : Int) (h0 : 0 ≤ a) (h1 : a ≤ 1048576) (hl : l.length ≤ 9223372036854775807) (hr : ∀ x ∈ l, x.size ≤ 140737488351232) :
    ∃ r, Ev (fun k => laws_szStringS.f k l a) r ∧ (¬ r < 0 → r ≤ a ∧ l.length ≤ 1048576 ∧ ∀ x ∈ l, x.size ≤ 1048576) := by
  simp only [laws_szStringS.f]
  rw [wrap64_id (x := a - (l.length : Int)) (by omega) (by omega)]
  by_cases c : a - (l.length : Int) < 0
  · exact ⟨-1, Ev.pos c (Ev.some rfl), fun h => absurd (by decide) h⟩
  · obtain ⟨r, e1, e2⟩ := szStringS_l0 l (by omega) hr l.length 0 (a - (l.length : Int)) (by omega) (by omega) (by omega)
    refine ⟨r, Ev.neg c e1, fun h => ?_⟩
    obtain ⟨h2, h3⟩ := e2 h
    refine ⟨by omega, by omega, fun x hx => ?_⟩
    obtain ⟨j, hj, rfl⟩ := List.getElem_of_mem hx
    have := h3 j (by omega) hj
    rw [List.getD_eq_getElem?_getD, List.getElem?_eq_getElem hj] at this
    simp only [Option.getD_some] at this
    omega

theorem toBoolS_l0 (l : List Bool) (hl : l.length ≤ 1048576) (d : Nat) : ∀ i : Nat, i + d = l.length →
    Ev (fun k => laws_toBoolS.l0 k l ((l.take i).map id ++ List.replicate (l.length - i) false) i) (l.map id) := by
  induction d with
  | zero =>
    intro i hi
    apply Ev.succ
    simp only [laws_toBoolS.l0, show ¬ ((i : Int) < (l.length : Int)) by omega, if_false]
    have : i = l.length := by omega
    subst this
    exact Ev.some (copy_done _ _ _)
  | succ d ih =>
    intro i hi
    apply Ev.succ
    have hlen : ((l.take i).map id ++ List.replicate (l.length - i) false).length = l.length := by simp; omega
    simp only [laws_toBoolS.l0, hlen, show ((i : Int) < (l.length : Int)) by omega, show (0 : Int) ≤ (i : Int) by omega, if_true, Int.toNat_natCast]
    rw [show wrap64 ((i : Int) + 1) = ((i + 1 : Nat) : Int) by rw [wrap64_id (by omega) (by omega)]; omega]
    have := copy_step id false false l i (by omega)
    have e : rdOf false l (i : Int) = id (l.getD i false) := rfl
    rw [e, this]
    exact ih (i + 1) (by omega)
theorem toBoolS_ev (l : List Bool) (hl : l.length ≤ 1048576) : Ev (fun k => laws_toBoolS.f k l) l := by
  simp only [laws_toBoolS.f, Int.toNat_natCast, show (0 : Int) ≤ (l.length : Int) by omega, show l.length ≤ 281474976710656 by omega, if_true]
  have := toBoolS_l0 l hl l.length 0 (by omega)
  simpa using this
theorem eqBoolS_l0 (l : List Bool) (hl : l.length ≤ 1048576) (d : Nat) : ∀ i : Nat, i + d = l.length → Ev (fun k => laws_eqBoolS.l0 k l l i) true := by
  induction d with
  | zero =>
    intro i hi
    apply Ev.succ
    simp only [laws_eqBoolS.l0, show ¬ ((i : Int) < (l.length : Int)) by omega, if_false]
    exact Ev.some rfl
  | succ d ih =>
    intro i hi
    apply Ev.succ
    simp only [laws_eqBoolS.l0, show ((i : Int) < (l.length : Int)) by omega, show (0 : Int) ≤ (i : Int) by omega, if_true]
    refine Ev.neg (by simp) ?_
    rw [show wrap64 ((i : Int) + 1) = ((i + 1 : Nat) : Int) by rw [wrap64_id (by omega) (by omega)]; omega]
    exact ih (i + 1) (by omega)
theorem eqBoolS_ev (l : List Bool) (hl : l.length ≤ 1048576) : Ev (fun k => laws_eqBoolS.f k l l) true := by
  simp only [laws_eqBoolS.f, if_true]
  exact eqBoolS_l0 l hl l.length 0 (by omega)
theorem szBoolS_eq (l : List Bool) (a : Int) (hl : l.length ≤ 9223372036854775807) (h0 : 0 ≤ a) (h1 : a ≤ 1048576) :
    ∃ r, laws_szBoolS.f l a = some r ∧ (¬ r < 0 → (l.length : Int) ≤ a ∧ r ≤ a) := by
  simp only [laws_szBoolS.f]
  rw [wrap64_id (x := a - (l.length : Int)) (by omega) (by omega)]
  by_cases h : a - (l.length : Int) < 0
  · exact ⟨-1, by simp [h], by omega⟩
  · exact ⟨a - (l.length : Int), by simp only [h, if_false], by omega⟩
end Go.Proofs.YtdihodboopeakaaDoor.Pure
/-
Own text: what many of the pure proofs use: 'for all from i on', counters, 'between', the copy and the comparison of slices of bytes.
-/
namespace Go.Proofs.YtdihodboopeakaaDoor.Pure
open Go.RowKit Go.Proofs.YtdihodboopeakaaDoorW.PrintWords Go.Proofs.YtdihodboopeakaaDoor.EvKit

def From (n i : Nat) (C : Nat → Prop) : Prop := ∀ j, i ≤ j → j < n → C j
theorem From.end_ {n i : Nat} {C : Nat → Prop} (h : n ≤ i) : From n i C := fun j h1 h2 => by omega
theorem From.step {n i : Nat} {C : Nat → Prop} (h : i < n) : From n i C ↔ C i ∧ From n (i + 1) C := by
  constructor
  · exact fun a => ⟨a i (Nat.le_refl i) h, fun j h1 h2 => a j (by omega) h2⟩
  · rintro ⟨a, b⟩ j h1 h2
    by_cases e : j = i
    · exact e ▸ a
    · exact b j (by omega) h2
/-- One of those from i on, below n. -/
def Some_ (n i : Nat) (C : Nat → Prop) : Prop := ∃ j, i ≤ j ∧ j < n ∧ C j
theorem Some_.end_ {n i : Nat} {C : Nat → Prop} (h : n ≤ i) : ¬ Some_ n i C := by
  rintro ⟨j, h1, h2, _⟩
  omega
theorem Some_.step {n i : Nat} {C : Nat → Prop} (h : i < n) : Some_ n i C ↔ C i ∨ Some_ n (i + 1) C := by
  constructor
  · rintro ⟨j, h1, h2, h3⟩
    by_cases e : j = i
    · exact Or.inl (e ▸ h3)
    · exact Or.inr ⟨j, by omega, h2, h3⟩
  · rintro (a | ⟨j, h1, h2, h3⟩)
    · exact ⟨i, Nat.le_refl i, h, a⟩
    · exact ⟨j, by omega, h2, h3⟩
theorem succ_w {i : Nat} (h : i < 35184372088833) : wrap64 ((i : Int) + 1) = ((i + 1 : Nat) : Int) := by rw [wrap64_id (by omega) (by omega)]; omega
end Go.Proofs.YtdihodboopeakaaDoor.Pure
/-
Own text: what the laws' own helpers on [][]int come to: their size, a copy, a comparison.
-/
namespace Go.Proofs.YtdihodboopeakaaDoor.Pure
open Go.RowKit Go.Proofs.YtdihodboopeakaaDoorW.PrintWords Go.Proofs.YtdihodboopeakaaDoorW.PrintLast Go.Proofs.YtdihodboopeakaaDoor.Pr Go.Proofs.YtdihodboopeakaaDoor.EvKit

theorem toIntSS_l0 (l : List (List Int)) (hl : l.length ≤ 1048576) (hr : ∀ x ∈ l, x.length ≤ 1048576) (d : Nat) : ∀ i : Nat, i + d = l.length →
    Ev (fun k => laws_toIntSS.l0 k l ((l.take i).map id ++ List.replicate (l.length - i) []) i) (l.map id) := by
  induction d with
  | zero =>
    intro i hi
    apply Ev.succ
    simp only [laws_toIntSS.l0, show ¬ ((i : Int) < (l.length : Int)) by omega, if_false]
    have : i = l.length := by omega
    subst this
    exact Ev.some (copy_done _ _ _)
  | succ d ih =>
    intro i hi
    apply Ev.succ
    have hlen : ((l.take i).map id ++ List.replicate (l.length - i) ([] : List Int)).length = l.length := by simp; omega
    simp only [laws_toIntSS.l0, hlen, show ((i : Int) < (l.length : Int)) by omega, show (0 : Int) ≤ (i : Int) by omega, if_true, Int.toNat_natCast, succ_w (show i < 35184372088833 by omega)]
    have hm := getD_mem l i [] (by omega)
    have := copy_step id ([] : List Int) [] l i (by omega)
    refine Ev.bnd (toIntS_ev (rd_L3 l (i : Int)) (Nat.le_trans (hr _ hm) (by omega))) ?_
    have e : rd_L3 l (i : Int) = id (l.getD i []) := rfl
    simp only [e, this]
    exact ih (i + 1) (by omega)
theorem toIntSS_ev (l : List (List Int)) (hl : l.length ≤ 1048576) (hr : ∀ x ∈ l, x.length ≤ 1048576) : Ev (fun k => laws_toIntSS.f k l) l := by
  simp only [laws_toIntSS.f, Int.toNat_natCast, show (0 : Int) ≤ (l.length : Int) by omega, show l.length ≤ 11728124029610 by omega, if_true]
  have := toIntSS_l0 l hl hr l.length 0 (by omega)
  simpa using this

theorem eqIntSS_l0 (l : List (List Int)) (hl : l.length ≤ 1048576) (hr : ∀ x ∈ l, x.length ≤ 1048576) (d : Nat) : ∀ i : Nat, i + d = l.length → Ev (fun k => laws_eqIntSS.l0 k l l i) true := by
  induction d with
  | zero =>
    intro i hi
    apply Ev.succ
    simp only [laws_eqIntSS.l0, show ¬ ((i : Int) < (l.length : Int)) by omega, if_false]
    exact Ev.some rfl
  | succ d ih =>
    intro i hi
    apply Ev.succ
    simp only [laws_eqIntSS.l0, show ((i : Int) < (l.length : Int)) by omega, show (0 : Int) ≤ (i : Int) by omega, if_true, succ_w (show i < 35184372088833 by omega)]
    have hm := getD_mem l i [] (by omega)
    exact Ev.bnd (eqIntS_ev (rd_L3 l (i : Int)) (Nat.le_trans (hr _ hm) (by omega))) (Ev.pos rfl (ih (i + 1) (by omega)))
theorem eqIntSS_ev (l : List (List Int)) (hl : l.length ≤ 1048576) (hr : ∀ x ∈ l, x.length ≤ 1048576) : Ev (fun k => laws_eqIntSS.f k l l) true := by
  simp only [laws_eqIntSS.f, if_true]
  exact eqIntSS_l0 l hl hr l.length 0 (by omega)

theorem szIntS_eq (l : List Int) (a : Int) (hl : l.length ≤ 9223372036854775807) (h0 : 0 ≤ a) (h1 : a ≤ 1048576) :
    ∃ r, laws_szIntS.f l a = some r ∧ (¬ r < 0 → (l.length : Int) ≤ a ∧ r ≤ a) := by
  simp only [laws_szIntS.f]
  rw [wrap64_id (x := a - (l.length : Int)) (by omega) (by omega)]
  by_cases h : a - (l.length : Int) < 0
  · exact ⟨-1, by simp [h], by omega⟩
  · exact ⟨_, by rw [if_neg h], by omega⟩
theorem szIntSS_l0 (l : List (List Int)) (hl : l.length ≤ 1048576) (hr : ∀ x ∈ l, x.length ≤ 9223372036854775807) (d : Nat) : ∀ (i : Nat) (a : Int), i + d = l.length → 0 ≤ a → a ≤ 1048576 →
    ∃ r, Ev (fun k => laws_szIntSS.l0 k l a i) r ∧ (¬ r < 0 → r ≤ a ∧ ∀ j, i ≤ j → j < l.length → ((l.getD j []).length : Int) ≤ 1048576) := by
  induction d with
  | zero =>
    intro i a hi h0 h1
    refine ⟨a, Ev.succ ?_, fun _ => ⟨Int.le_refl a, fun j a b => by omega⟩⟩
    simp only [laws_szIntSS.l0, show ¬ ((i : Int) < (l.length : Int)) by omega, if_false]
    exact Ev.some rfl
  | succ d ih =>
    intro i a hi h0 h1
    have hm := getD_mem l i [] (by omega)
    obtain ⟨s, hs, hs2⟩ := szIntS_eq (l.getD i []) a (hr _ hm) h0 h1
    by_cases hneg : s < 0
    · refine ⟨-1, Ev.succ ?_, by omega⟩
      simp only [laws_szIntSS.l0, show ((i : Int) < (l.length : Int)) by omega, show (0 : Int) ≤ (i : Int) by omega, if_true]
      exact Ev.bnd0 hs (Ev.pos hneg (Ev.some rfl))
    · obtain ⟨h2, h3⟩ := hs2 hneg
      obtain ⟨r, hr1, hr2⟩ := ih (i + 1) s (by omega) (by omega) (by omega)
      refine ⟨r, Ev.succ ?_, fun h => ⟨by have := (hr2 h).1; omega, fun j a1 b1 => ?_⟩⟩
      · simp only [laws_szIntSS.l0, show ((i : Int) < (l.length : Int)) by omega, show (0 : Int) ≤ (i : Int) by omega, if_true, succ_w (show i < 35184372088833 by omega)]
        exact Ev.bnd0 hs (Ev.neg hneg hr1)
      · by_cases e : j = i
        · subst e; omega
        · exact (hr2 h).2 j (by omega) b1
theorem szIntSS_ev (l : List (List Int)) (a : Int) (h0 : 0 ≤ a) (h1 : a ≤ 1048576) (hl : l.length ≤ 9223372036854775807) (hr : ∀ x ∈ l, x.length ≤ 9223372036854775807) :
    ∃ r, Ev (fun k => laws_szIntSS.f k l a) r ∧ (¬ r < 0 → r ≤ a ∧ l.length ≤ 1048576 ∧ ∀ x ∈ l, x.length ≤ 1048576) := by
  simp only [laws_szIntSS.f]
  rw [wrap64_id (x := a - (l.length : Int)) (by omega) (by omega)]
  by_cases h : a - (l.length : Int) < 0
  · exact ⟨-1, Ev.pos h (Ev.some rfl), by omega⟩
  · obtain ⟨r, e1, e2⟩ := szIntSS_l0 l (by omega) hr l.length 0 (a - l.length) (by omega) (by omega) (by omega)
    refine ⟨r, Ev.neg h e1, fun hn => ⟨by have := (e2 hn).1; omega, by omega, fun x hx => ?_⟩⟩
    obtain ⟨j, hj⟩ := List.getElem?_of_mem hx
    have hj2 := (List.getElem?_eq_some_iff.1 hj).1
    have := (e2 hn).2 j (by omega) hj2
    rw [List.getD_eq_getElem?_getD, hj] at this
    simp at this
    omega
end Go.Proofs.YtdihodboopeakaaDoor.Pure
/-
Own text: what a good board is, to the program and to the reference.
-/
namespace Go.Proofs.YtdihodboopeakaaDoor.Pure
open Go.RowKit Go.Proofs.YtdihodboopeakaaDoorW.PrintWords Go.Proofs.YtdihodboopeakaaDoorW.PrintLast Go.Proofs.YtdihodboopeakaaDoor.Pr Go.Proofs.YtdihodboopeakaaDoor.EvKit
open Classical

/-- A row of next places from k on: rising, each a place. -/
def RowOk (n : Nat) (row : List Int) (k : Nat) : Prop := From row.length k fun j => (0 ≤ row.getD j 0 ∧ row.getD j 0 < n) ∧ (0 < j → row.getD (j - 1) 0 < row.getD j 0)
/-- The places from i on. -/
def BoardOk (names : List ByteArray) (next : List (List Int)) (i : Nat) : Prop := From names.length i fun j => ((names.getD j ByteArray.empty).toList = [] ∨ NameOk (names.getD j ByteArray.empty)) ∧ RowOk names.length (next.getD j []) 0
def Good (names : List ByteArray) (mine : List Bool) (next : List (List Int)) : Prop := (1 ≤ names.length ∧ names.length ≤ 14) ∧ (mine.length = names.length ∧ next.length = names.length) ∧ BoardOk names next 0
theorem RowOk.len {n : Nat} {row : List Int} (h : RowOk n row 0) : row.length ≤ n := by
  have key : ∀ j, j < row.length → (j : Int) ≤ row.getD j 0 := by
    intro j
    induction j with
    | zero => intro hj; exact (h 0 (Nat.le_refl _) hj).1.1
    | succ j ih =>
      intro hj
      have h1 := ih (by omega)
      have h2 := (h (j + 1) (by omega) hj).2 (by omega)
      simp only [Nat.add_sub_cancel] at h2
      omega
  rcases Nat.eq_zero_or_pos row.length with e | e
  · omega
  · have h1 := key (row.length - 1) (by omega)
    have h2 := (h (row.length - 1) (by omega) (by omega)).1.2
    omega
theorem rd_get (l : List Int) (j : Nat) : rd l (j : Int) = l.getD j 0 := rfl
section
variable (names : List ByteArray) (mine : List Bool) (next : List (List Int)) (hn : names.length ≤ 14) (hx : next.length = names.length) (hs : ∀ x ∈ names, x.size ≤ 1048576) (hr : ∀ x ∈ next, x.length ≤ 1048576)
include hn hx hr
theorem specRow (i : Nat) (hi : i < names.length) (r : Bool) (d : Nat) : ∀ k : Nat, k + d = (next.getD i []).length →
    (RowOk names.length (next.getD i []) k → Ev (fun q => spec_GoodBoard.l0 q names.length names names.length ((i + 1 : Nat) : Int) names mine next) r) → (¬ RowOk names.length (next.getD i []) k → r = false) →
    Ev (fun q => spec_GoodBoard.l1 q names.length i names names.length i (next.getD i []) (next.getD i []).length k names mine next) r := by
  have hlen : (next.getD i []).length ≤ 1048576 := hr _ (getD_mem next i [] (by omega))
  induction d with
  | zero =>
    intro k hk h1 h2
    apply Ev.succ
    simp only [spec_GoodBoard.l1, show ¬ ((k : Int) < ((next.getD i []).length : Int)) by omega, if_false]
    rw [show wrap64 ((i : Int) + 1) = ((i + 1 : Nat) : Int) by rw [wrap64_id (by omega) (by omega)]; omega]
    exact h1 (From.end_ (by omega))
  | succ d ih =>
    intro k hk h1 h2
    apply Ev.succ
    simp only [spec_GoodBoard.l1, show ((k : Int) < ((next.getD i []).length : Int)) by omega, show (0 : Int) ≤ (k : Int) by omega, if_true, rd_get]
    have hstep := From.step (C := fun j => (0 ≤ (next.getD i []).getD j 0 ∧ (next.getD i []).getD j 0 < names.length) ∧ (0 < j → (next.getD i []).getD (j - 1) 0 < (next.getD i []).getD j 0)) (n := (next.getD i []).length) (i := k) (by omega)
    have e3 : rd_L3 next (i : Int) = next.getD i [] := rfl
    by_cases c1 : (next.getD i []).getD k 0 < 0
    · exact Ev.pos c1 (Ev.some (h2 (fun h => by have := (hstep.1 h).1.1.1; omega)).symm)
    refine Ev.neg c1 ?_
    by_cases c2 : (next.getD i []).getD k 0 ≥ (names.length : Int)
    · exact Ev.pos c2 (Ev.some (h2 (fun h => by have := (hstep.1 h).1.1.2; omega)).symm)
    refine Ev.neg c2 ?_
    have hw : wrap64 ((k : Int) + 1) = ((k + 1 : Nat) : Int) := by rw [wrap64_id (by omega) (by omega)]; omega
    by_cases c3 : 0 < k
    · refine Ev.pos (by omega) (Ev.pos (by omega) (Ev.pos (by omega) ?_))
      have hw1 : wrap64 ((k : Int) - 1) = ((k - 1 : Nat) : Int) := by rw [wrap64_id (by omega) (by omega)]; omega
      rw [hw1, hw, e3]
      refine Ev.pos (by omega) (Ev.pos (by omega) ?_)
      rw [rd_get]
      by_cases c4 : (next.getD i []).getD (k - 1) 0 ≥ (next.getD i []).getD k 0
      · exact Ev.pos c4 (Ev.some (h2 (fun h => by have := (hstep.1 h).1.2 c3; omega)).symm)
      · refine Ev.neg c4 (ih (k + 1) (by omega) (fun h => h1 (hstep.2 ⟨⟨⟨by omega, by omega⟩, fun _ => by omega⟩, h⟩)) (fun h => h2 (fun h' => h (hstep.1 h').2)))
    · rw [hw]
      refine Ev.neg (by omega) (ih (k + 1) (by omega) (fun h => h1 (hstep.2 ⟨⟨⟨by omega, by omega⟩, fun h0 => absurd h0 c3⟩, h⟩)) (fun h => h2 (fun h' => h (hstep.1 h').2)))
theorem implRow (i : Nat) (hi : i < names.length) (r : Bool) (d : Nat) : ∀ k : Nat, k + d = (next.getD i []).length →
    (RowOk names.length (next.getD i []) k → Ev (fun q => impl_GoodBoard.l0 q names.length names names.length ((i + 1 : Nat) : Int) names mine next) r) → (¬ RowOk names.length (next.getD i []) k → r = false) →
    Ev (fun q => impl_GoodBoard.l1 q names.length i names names.length i (next.getD i []) (next.getD i []).length k names mine next) r := by
  have hlen : (next.getD i []).length ≤ 1048576 := hr _ (getD_mem next i [] (by omega))
  induction d with
  | zero =>
    intro k hk h1 h2
    apply Ev.succ
    simp only [impl_GoodBoard.l1, show ¬ ((k : Int) < ((next.getD i []).length : Int)) by omega, if_false]
    rw [show wrap64 ((i : Int) + 1) = ((i + 1 : Nat) : Int) by rw [wrap64_id (by omega) (by omega)]; omega]
    exact h1 (From.end_ (by omega))
  | succ d ih =>
    intro k hk h1 h2
    apply Ev.succ
    simp only [impl_GoodBoard.l1, show ((k : Int) < ((next.getD i []).length : Int)) by omega, show (0 : Int) ≤ (k : Int) by omega, if_true, rd_get]
    have hstep := From.step (C := fun j => (0 ≤ (next.getD i []).getD j 0 ∧ (next.getD i []).getD j 0 < names.length) ∧ (0 < j → (next.getD i []).getD (j - 1) 0 < (next.getD i []).getD j 0)) (n := (next.getD i []).length) (i := k) (by omega)
    have e3 : rd_L3 next (i : Int) = next.getD i [] := rfl
    by_cases c1 : (next.getD i []).getD k 0 < 0
    · exact Ev.pos c1 (Ev.some (h2 (fun h => by have := (hstep.1 h).1.1.1; omega)).symm)
    refine Ev.neg c1 ?_
    by_cases c2 : (next.getD i []).getD k 0 ≥ (names.length : Int)
    · exact Ev.pos c2 (Ev.some (h2 (fun h => by have := (hstep.1 h).1.1.2; omega)).symm)
    refine Ev.neg c2 ?_
    have hw : wrap64 ((k : Int) + 1) = ((k + 1 : Nat) : Int) := by rw [wrap64_id (by omega) (by omega)]; omega
    by_cases c3 : 0 < k
    · refine Ev.pos (by omega) (Ev.pos (by omega) (Ev.pos (by omega) ?_))
      have hw1 : wrap64 ((k : Int) - 1) = ((k - 1 : Nat) : Int) := by rw [wrap64_id (by omega) (by omega)]; omega
      rw [hw1, hw, e3]
      refine Ev.pos (by omega) (Ev.pos (by omega) ?_)
      rw [rd_get]
      by_cases c4 : (next.getD i []).getD k 0 ≤ (next.getD i []).getD (k - 1) 0
      · exact Ev.pos c4 (Ev.some (h2 (fun h => by have := (hstep.1 h).1.2 c3; omega)).symm)
      · refine Ev.neg c4 (ih (k + 1) (by omega) (fun h => h1 (hstep.2 ⟨⟨⟨by omega, by omega⟩, fun _ => by omega⟩, h⟩)) (fun h => h2 (fun h' => h (hstep.1 h').2)))
    · rw [hw]
      refine Ev.neg (by omega) (ih (k + 1) (by omega) (fun h => h1 (hstep.2 ⟨⟨⟨by omega, by omega⟩, fun h0 => absurd h0 c3⟩, h⟩)) (fun h => h2 (fun h' => h (hstep.1 h').2)))
include hs
theorem board_l0 (d : Nat) : ∀ i : Nat, i + d = names.length →
    Ev (fun q => spec_GoodBoard.l0 q names.length names names.length i names mine next) (decide (BoardOk names next i)) ∧ Ev (fun q => impl_GoodBoard.l0 q names.length names names.length i names mine next) (decide (BoardOk names next i)) := by
  induction d with
  | zero =>
    intro i hi
    have e : decide (BoardOk names next i) = true := decide_eq_true (From.end_ (by omega))
    rw [e]
    constructor <;> apply Ev.succ
    · simp only [spec_GoodBoard.l0, show ¬ ((i : Int) < (names.length : Int)) by omega, if_false]
      exact Ev.some rfl
    · simp only [impl_GoodBoard.l0, show ¬ ((i : Int) < (names.length : Int)) by omega, if_false]
      exact Ev.some rfl
  | succ d ih =>
    intro i hi
    obtain ⟨ih1, ih2⟩ := ih (i + 1) (by omega)
    have hsz : (names.getD i ByteArray.empty).size ≤ 1000000000 := Nat.le_trans (hs _ (getD_mem names i _ (by omega))) (by decide)
    have e0 : rdOf ByteArray.empty names (i : Int) = names.getD i ByteArray.empty := rfl
    have e3 : rd_L3 next (i : Int) = next.getD i [] := rfl
    have hstep := From.step (C := fun j => ((names.getD j ByteArray.empty).toList = [] ∨ NameOk (names.getD j ByteArray.empty)) ∧ RowOk names.length (next.getD j []) 0) (n := names.length) (i := i) (by omega)
    have hT : RowOk names.length (next.getD i []) 0 → ((names.getD i ByteArray.empty).toList = [] ∨ NameOk (names.getD i ByteArray.empty)) → decide (BoardOk names next (i + 1)) = decide (BoardOk names next i) := fun a b => decide_eq_decide.2 ⟨fun h => hstep.2 ⟨⟨b, a⟩, h⟩, fun h => (hstep.1 h).2⟩
    have hF : ¬ RowOk names.length (next.getD i []) 0 → decide (BoardOk names next i) = false := fun a => decide_eq_false (fun h => a (hstep.1 h).1.2)
    have hF2 : ¬ ((names.getD i ByteArray.empty).toList = [] ∨ NameOk (names.getD i ByteArray.empty)) → decide (BoardOk names next i) = false := fun a => decide_eq_false (fun h => a (hstep.1 h).1.1)
    have hs2 : ((names.getD i ByteArray.empty).toList = [] ∨ NameOk (names.getD i ByteArray.empty)) → Ev (fun q => spec_GoodBoard.j2 q names.length i names names.length i false names mine next) (decide (BoardOk names next i)) := fun b => by
      apply Ev.succ
      simp only [spec_GoodBoard.j2, Bool.false_eq_true, if_false]
      refine Ev.pos (by omega) (Ev.pos (by omega) ?_)
      rw [e3]
      exact specRow names mine next hn hx hr i (by omega) _ (next.getD i []).length 0 (by omega) (fun a => by rw [← hT a b]; exact ih1) hF
    have hi2 : ((names.getD i ByteArray.empty).toList = [] ∨ NameOk (names.getD i ByteArray.empty)) → Ev (fun q => impl_GoodBoard.j2 q names.length i names names.length i (decide (((next.getD i []).length : Int) > 14)) names mine next) (decide (BoardOk names next i)) := fun b => by
      apply Ev.succ
      simp only [impl_GoodBoard.j2]
      by_cases c : ((next.getD i []).length : Int) > 14
      · refine Ev.pos (decide_eq_true c) (Ev.some (hF (fun a => by have := a.len; omega)).symm)
      · refine Ev.neg (by simpa using c) (Ev.pos (by omega) (Ev.pos (by omega) ?_))
        rw [e3]
        exact implRow names mine next hn hx hr i (by omega) _ (next.getD i []).length 0 (by omega) (fun a => by rw [← hT a b]; exact ih2) hF
    constructor <;> apply Ev.succ
    · simp only [spec_GoodBoard.l0, show ((i : Int) < (names.length : Int)) by omega, show (0 : Int) ≤ (i : Int) by omega, if_true, e0]
      by_cases c : (names.getD i ByteArray.empty).toList = []
      · exact Ev.pos c (hs2 (Or.inl c))
      · refine Ev.neg c (Ev.bnd (l22Name_ev _ hsz) ?_)
        by_cases c2 : NameOk (names.getD i ByteArray.empty)
        · rw [decide_eq_true c2]
          exact hs2 (Or.inr c2)
        · rw [decide_eq_false c2]
          apply Ev.succ
          simp only [spec_GoodBoard.j2, Bool.not_false, if_true]
          exact Ev.some (hF2 (fun h => h.elim c c2)).symm
    · simp only [impl_GoodBoard.l0, show ((i : Int) < (names.length : Int)) by omega, show (0 : Int) ≤ (i : Int) by omega, if_true, e0, e3, show ((i : Int) < (next.length : Int)) by omega]
      by_cases c : (names.getD i ByteArray.empty).toList = []
      · exact Ev.pos c (hi2 (Or.inl c))
      · refine Ev.neg c (Ev.bnd0 (goodName_eq _ hsz) ?_)
        by_cases c2 : NameOk (names.getD i ByteArray.empty)
        · exact Ev.pos (decide_eq_true c2) (hi2 (Or.inr c2))
        · refine Ev.neg (by simpa using c2) ?_
          apply Ev.succ
          simp only [impl_GoodBoard.j2, if_true]
          exact Ev.some (hF2 (fun h => h.elim c c2)).symm
end
theorem goodBoard_both (names : List ByteArray) (mine : List Bool) (next : List (List Int)) (hs : ∀ x ∈ names, x.size ≤ 1048576) (hr : ∀ x ∈ next, x.length ≤ 1048576) :
    Ev (fun q => spec_GoodBoard.f q names mine next) (decide (Good names mine next)) ∧ Ev (fun q => impl_GoodBoard.f q names mine next) (decide (Good names mine next)) := by
  have js (x : Bool) (hx : x = true) (hg : ¬ Good names mine next) : Ev (fun q => spec_GoodBoard.j0 q names.length x names mine next) (decide (Good names mine next)) := by
    subst hx
    apply Ev.succ
    simp only [spec_GoodBoard.j0, if_true]
    exact Ev.some (decide_eq_false hg).symm
  have ji (x : Bool) (hx : x = true) (hg : ¬ Good names mine next) : Ev (fun q => impl_GoodBoard.j0 q names.length x names mine next) (decide (Good names mine next)) := by
    subst hx
    apply Ev.succ
    simp only [impl_GoodBoard.j0, if_true]
    exact Ev.some (decide_eq_false hg).symm
  unfold spec_GoodBoard.f impl_GoodBoard.f
  by_cases c1 : names.length < 1
  · have hg : ¬ Good names mine next := fun h => by have := h.1.1; omega
    exact ⟨Ev.pos (by omega) (js _ rfl hg), Ev.pos (by omega) (ji _ rfl hg)⟩
  by_cases c2 : names.length > 14
  · have hg : ¬ Good names mine next := fun h => by have := h.1.2; omega
    exact ⟨Ev.neg (by omega) (Ev.pos (by omega) (js _ rfl hg)), Ev.neg (by omega) (Ev.pos (by omega) (ji _ rfl hg))⟩
  by_cases c3 : mine.length = names.length
  · by_cases c4 : next.length = names.length
    · have e : ((next.length : Int) != (names.length : Int)) = false := by rw [bne_eq_false_iff_eq]; omega
      obtain ⟨a, b⟩ := board_l0 names mine next (by omega) c4 hs hr names.length 0 (by omega)
      have ed : decide (BoardOk names next 0) = decide (Good names mine next) := decide_eq_decide.2 ⟨fun h => ⟨⟨by omega, by omega⟩, ⟨c3, c4⟩, h⟩, fun h => h.2.2⟩
      rw [ed] at a b
      refine ⟨Ev.neg (by omega) (Ev.neg (by omega) (Ev.pos (by omega) ?_)), Ev.neg (by omega) (Ev.neg (by omega) (Ev.pos (by omega) ?_))⟩
      · rw [e]
        apply Ev.succ
        simp only [spec_GoodBoard.j0, Bool.false_eq_true, if_false]
        exact a
      · rw [e]
        apply Ev.succ
        simp only [impl_GoodBoard.j0, Bool.false_eq_true, if_false]
        exact b
    · have e : ((next.length : Int) != (names.length : Int)) = true := by rw [bne_iff_ne]; omega
      have hg : ¬ Good names mine next := fun h => c4 h.2.1.2
      exact ⟨Ev.neg (by omega) (Ev.neg (by omega) (Ev.pos (by omega) (js _ e hg))), Ev.neg (by omega) (Ev.neg (by omega) (Ev.pos (by omega) (ji _ e hg)))⟩
  · have hg : ¬ Good names mine next := fun h => c3 h.2.1.1
    exact ⟨Ev.neg (by omega) (Ev.neg (by omega) (Ev.neg (by omega) (js _ rfl hg))), Ev.neg (by omega) (Ev.neg (by omega) (Ev.neg (by omega) (ji _ rfl hg)))⟩

/-! The law's helpers on a board -/
/-- A board whose size is held. -/
structure Small (names : List ByteArray) (mine : List Bool) (next : List (List Int)) : Prop where
  n1 : names.length ≤ 1048576
  n2 : ∀ x ∈ names, x.size ≤ 1048576
  m1 : mine.length ≤ 1048576
  x1 : next.length ≤ 1048576
  x2 : ∀ x ∈ next, x.length ≤ 1048576
theorem szBoard_ev (names : List ByteArray) (mine : List Bool) (next : List (List Int)) (a : Int) (h0 : 0 ≤ a) (h1 : a ≤ 1048576) (b1 : names.length ≤ 9223372036854775807) (b2 : ∀ x ∈ names, x.size ≤ 140737488351232) (b3 : mine.length ≤ 9223372036854775807) (b4 : next.length ≤ 9223372036854775807) (b5 : ∀ x ∈ next, x.length ≤ 9223372036854775807) :
    ∃ r, Ev (fun k => laws_szBoard.f k names mine next a) r ∧ (¬ r < 0 → r ≤ a ∧ Small names mine next) := by
  unfold laws_szBoard.f
  obtain ⟨r1, e1, f1⟩ := szStringS_ev names a h0 h1 b1 b2
  by_cases c1 : r1 < 0
  · exact ⟨-1, Ev.bnd e1 (Ev.pos c1 (Ev.some rfl)), fun h => absurd (by decide) h⟩
  obtain ⟨g1, g2, g3⟩ := f1 c1
  obtain ⟨r2, e2, f2⟩ := szBoolS_eq mine r1 b3 (by omega) (by omega)
  by_cases c2 : r2 < 0
  · exact ⟨-1, Ev.bnd e1 (Ev.neg c1 (Ev.bnd0 e2 (Ev.pos c2 (Ev.some rfl)))), fun h => absurd (by decide) h⟩
  obtain ⟨g4, g5⟩ := f2 c2
  obtain ⟨r3, e3, f3⟩ := szIntSS_ev next r2 (by omega) (by omega) b4 b5
  by_cases c3 : r3 < 0
  · exact ⟨-1, Ev.bnd e1 (Ev.neg c1 (Ev.bnd0 e2 (Ev.neg c2 (Ev.bnd e3 (Ev.pos c3 (Ev.some rfl)))))), fun h => absurd (by decide) h⟩
  obtain ⟨g6, g7, g8⟩ := f3 c3
  exact ⟨r3, Ev.bnd e1 (Ev.neg c1 (Ev.bnd0 e2 (Ev.neg c2 (Ev.bnd e3 (Ev.neg c3 (Ev.some rfl)))))), fun _ => ⟨by omega, g2, g3, by omega, g7, g8⟩⟩
theorem toBoard_ev {names : List ByteArray} {mine : List Bool} {next : List (List Int)} (h : Small names mine next) : Ev (fun k => laws_toBoard.f k names mine next) (names, mine, next) := by
  unfold laws_toBoard.f
  exact Ev.bnd (toStringS_ev _ h.n1) (Ev.bnd (toBoolS_ev _ h.m1) (Ev.bnd (toIntSS_ev _ h.x1 h.x2) (Ev.some rfl)))
theorem eqBoard_ev {names : List ByteArray} {mine : List Bool} {next : List (List Int)} (h : Small names mine next) : Ev (fun k => laws_eqBoard.f k names mine next names mine next) true := by
  unfold laws_eqBoard.f
  exact Ev.bnd (eqStringS_ev _ h.n1) (Ev.pos rfl (Ev.bnd (eqBoolS_ev _ h.m1) (Ev.pos rfl (Ev.bnd (eqIntSS_ev _ h.x1 h.x2) (Ev.pos rfl (Ev.some rfl))))))
end Go.Proofs.YtdihodboopeakaaDoor.Pure
/-
Own text: what a good wish is, which places it aims at and which it shuns, to the program and to the reference.
-/
namespace Go.Proofs.YtdihodboopeakaaDoor.Pure
open Go.RowKit Go.Proofs.YtdihodboopeakaaDoorW.PrintWords Go.Proofs.YtdihodboopeakaaDoorW.PrintLast Go.Proofs.YtdihodboopeakaaDoor.Pr Go.Proofs.YtdihodboopeakaaDoor.EvKit
open Classical

theorem succ_w2 (i : Nat) (h : i ≤ 1048576) : wrap64 ((i : Int) + 1) = ((i + 1 : Nat) : Int) := by rw [wrap64_id (by omega) (by omega)]; omega
theorem drop_get {α : Type} (l : List α) (i : Nat) (d : α) (h : i < l.length) : l.drop i = l.getD i d :: l.drop (i + 1) := by
  rw [List.drop_eq_getElem_cons h]
  congr 1
  simp [List.getD_eq_getElem?_getD, List.getElem?_eq_getElem h]
theorem mem_drop_step {α : Type} (l : List α) (i : Nat) (d s : α) (h : i < l.length) : s ∈ l.drop i ↔ s = l.getD i d ∨ s ∈ l.drop (i + 1) := by rw [drop_get l i d h]; exact List.mem_cons
theorem containsI_l0 (l : List Int) (s : Int) (hl : l.length ≤ 1048576) (d : Nat) : ∀ i : Nat, i + d = l.length → ∃ r : Int, Ev (fun k => slices_Index_int_int.l0 k l s l.length i) r ∧ (r ≥ 0 ↔ s ∈ l.drop i) := by
  induction d with
  | zero =>
    intro i hi
    refine ⟨-1, ?_, ?_⟩
    · apply Ev.succ
      simp only [slices_Index_int_int.l0, show ¬ ((i : Int) < (l.length : Int)) by omega, if_false]
      exact Ev.some rfl
    · rw [List.drop_of_length_le (by omega)]
      simp
  | succ d ih =>
    intro i hi
    have hm := mem_drop_step l i 0 s (by omega)
    have e : rd l (i : Int) = l.getD i 0 := rfl
    by_cases c : s = l.getD i 0
    · refine ⟨i, ?_, ⟨fun _ => hm.2 (Or.inl c), fun _ => by omega⟩⟩
      apply Ev.succ
      simp only [slices_Index_int_int.l0, show ((i : Int) < (l.length : Int)) by omega, show (0 : Int) ≤ (i : Int) by omega, if_true, e]
      exact Ev.pos c (Ev.some rfl)
    · obtain ⟨r, h1, h2⟩ := ih (i + 1) (by omega)
      refine ⟨r, ?_, ⟨fun h => hm.2 (Or.inr (h2.1 h)), fun h => h2.2 ((hm.1 h).elim (fun h => absurd h c) id)⟩⟩
      apply Ev.succ
      simp only [slices_Index_int_int.l0, show ((i : Int) < (l.length : Int)) by omega, show (0 : Int) ≤ (i : Int) by omega, if_true, e, succ_w2 i (by omega)]
      exact Ev.neg c h1
theorem containsI_ev (l : List Int) (s : Int) (hl : l.length ≤ 1048576) : Ev (fun k => slices_Contains_int_int.f k l s) (decide (s ∈ l)) := by
  unfold slices_Contains_int_int.f slices_Index_int_int.f
  obtain ⟨r, h1, h2⟩ := containsI_l0 l s hl l.length 0 (by omega)
  exact Ev.bnd (by simpa using h1) (Ev.some (decide_eq_decide.2 (by simpa using h2)))

/-! A wish -/
section
variable (names : List ByteArray) (mine : List Bool) (next : List (List Int)) (reach avoid : List ByteArray)
/-- The name of a place. -/
def nm (at_ : Int) : ByteArray := names.getD at_.toNat ByteArray.empty
end

/-! The law's helpers on a wish -/
structure SmallW (reach avoid : List ByteArray) : Prop where
  r1 : reach.length ≤ 1048576
  r2 : ∀ x ∈ reach, x.size ≤ 1048576
  a1 : avoid.length ≤ 1048576
  a2 : ∀ x ∈ avoid, x.size ≤ 1048576
end Go.Proofs.YtdihodboopeakaaDoor.Pure
/-
Own text: what is marked in a board and in a wish: the counts alone.
-/
namespace Go.Proofs.YtdihodboopeakaaDoor.Pure
open Go.RowKit Go.Proofs.YtdihodboopeakaaDoorW.PrintWords Go.Proofs.YtdihodboopeakaaDoorW.PrintLast Go.Proofs.YtdihodboopeakaaDoor.Pr Go.Proofs.YtdihodboopeakaaDoor.EvKit
set_option linter.unusedVariables false
theorem one_size (c : Int) : (strOfNums [c]).size = 1 := rfl
theorem markText_l0 (n : Nat) : ∀ (x : Int) (s : ByteArray), 0 ≤ x → x ≤ 9223372036854775807 → x < 10 ^ n → s.size + n ≤ 1000 → ∃ r, Ev (fun k => laws_markText.l0 k x s) r := by
  induction n with
  | zero =>
    intro x s h0 hx h1 h2
    refine ⟨(⟨#[109]⟩ : ByteArray) ++ s, Ev.succ ?_⟩
    simp only [laws_markText.l0, show ¬ (x > 0) by simp at h1; omega, if_false, show 1 + s.size ≤ 9223372036854775807 by omega, if_true]
    exact Ev.some rfl
  | succ n ih =>
    intro x s h0 hx h1 h2
    by_cases c : x > 0
    · have hd : 0 ≤ Int.tdiv x 10 ∧ Int.tdiv x 10 < 10 ^ n ∧ Int.tdiv x 10 ≤ 9223372036854775807 := by
        rw [Int.tdiv_eq_ediv_of_nonneg h0]
        rw [Int.pow_succ] at h1
        refine ⟨by omega, by omega, by omega⟩
      obtain ⟨r, hr⟩ := ih (Int.tdiv x 10) (strOfNums [(wrap64 (48 + (Int.tmod x 10))) % 256] ++ s) hd.1 hd.2.2 hd.2.1 (by rw [ByteArray.size_append, one_size]; omega)
      refine ⟨r, Ev.succ ?_⟩
      simp only [laws_markText.l0, c, if_true, Option.bind_some, one_size, show 1 + s.size ≤ 9223372036854775807 by omega]
      rw [wrap64_id (by omega) (by omega)]
      exact hr
    · refine ⟨(⟨#[109]⟩ : ByteArray) ++ s, Ev.succ ?_⟩
      simp only [laws_markText.l0, c, if_false, show 1 + s.size ≤ 9223372036854775807 by omega, if_true]
      exact Ev.some rfl
theorem markText_ev (a : Int) (h1 : a ≤ 9223372036854775807) : ∃ r, Ev (fun k => laws_markText.f k a) r := by
  unfold laws_markText.f
  by_cases c : a ≤ 0
  · exact ⟨_, Ev.pos c (Ev.some rfl)⟩
  · obtain ⟨r, h⟩ := markText_l0 19 a ⟨#[]⟩ (by omega) (by omega) (by omega) (by show (0 : Nat) + 19 ≤ 1000; omega)
    exact ⟨r, Ev.neg c h⟩
theorem markStringS_l0 (n : Nat) (a : Int) (ha : 0 ≤ a) (han : a + n ≤ 9223372036854775806) (d : Nat) : ∀ (i : Nat) (l : List ByteArray), i + d = n → l.length = n → ∃ t : List ByteArray, t.length = n ∧ Ev (fun k => laws_markStringS.l0 k l (a + i) i) (a + n, t) := by
  induction d with
  | zero =>
    intro i l hi hl
    refine ⟨l, hl, Ev.succ ?_⟩
    simp only [laws_markStringS.l0, show ¬ ((i : Int) < (l.length : Int)) by omega, if_false]
    obtain rfl : i = n := by omega
    exact Ev.some rfl
  | succ d ih =>
    intro i l hi hl
    obtain ⟨r, hr⟩ := markText_ev (a + i) (by omega)
    obtain ⟨t, ht, he⟩ := ih (i + 1) (l.set i r) (by omega) (by simpa using hl)
    refine ⟨t, ht, Ev.succ ?_⟩
    simp only [laws_markStringS.l0, show ((i : Int) < (l.length : Int)) by omega, show (0 : Int) ≤ (i : Int) by omega, if_true, Int.toNat_natCast]
    rw [show wrap64 ((i : Int) + 1) = ((i + 1 : Nat) : Int) by rw [wrap64_id (by omega) (by omega)]; omega, show wrap64 (a + (i : Int) + 1) = a + ((i + 1 : Nat) : Int) by rw [wrap64_id (by omega) (by omega)]; omega]
    exact Ev.bnd hr he
theorem markStringS_ev (l : List ByteArray) (a : Int) (ha : 0 ≤ a) (han : a + l.length ≤ 9223372036854775806) : ∃ t, Ev (fun k => laws_markStringS.f k l a) (a + l.length, t) := by
  unfold laws_markStringS.f
  obtain ⟨t, _, h⟩ := markStringS_l0 l.length a ha han l.length 0 l (by omega) rfl
  exact ⟨t, by simpa using h⟩
theorem markBoolS_l0 (n : Nat) (a : Int) (ha : 0 ≤ a) (han : a + n ≤ 9223372036854775806) (d : Nat) : ∀ (i : Nat) (l : List Bool), i + d = n → l.length = n → ∃ t : List Bool, Ev (fun k => laws_markBoolS.l0 k l (a + i) i) (a + n, t) := by
  induction d with
  | zero =>
    intro i l hi hl
    refine ⟨l, Ev.succ ?_⟩
    simp only [laws_markBoolS.l0, show ¬ ((i : Int) < (l.length : Int)) by omega, if_false]
    obtain rfl : i = n := by omega
    exact Ev.some rfl
  | succ d ih =>
    intro i l hi hl
    obtain ⟨t, he⟩ := ih (i + 1) (l.set i ((Int.tmod (a + i) 3) == 0)) (by omega) (by simpa using hl)
    refine ⟨t, Ev.succ ?_⟩
    simp only [laws_markBoolS.l0, show ((i : Int) < (l.length : Int)) by omega, show (0 : Int) ≤ (i : Int) by omega, if_true, Int.toNat_natCast]
    rw [show wrap64 ((i : Int) + 1) = ((i + 1 : Nat) : Int) by rw [wrap64_id (by omega) (by omega)]; omega, show wrap64 (a + (i : Int) + 1) = a + ((i + 1 : Nat) : Int) by rw [wrap64_id (by omega) (by omega)]; omega]
    exact he
theorem markBoolS_ev (l : List Bool) (a : Int) (ha : 0 ≤ a) (han : a + l.length ≤ 9223372036854775806) : ∃ t, Ev (fun k => laws_markBoolS.f k l a) (a + l.length, t) := by
  unfold laws_markBoolS.f
  obtain ⟨t, h⟩ := markBoolS_l0 l.length a ha han l.length 0 l (by omega) rfl
  exact ⟨t, by simpa using h⟩
/-- The three rows of a board, marked one after the other. -/
theorem markBoard_parts {names : List ByteArray} {mine : List Bool} {next : List (List Int)} (h : Small names mine next) :
    ∃ (t0 : List ByteArray) (t1 : List Bool) (t2 : List (List Int)) (m0 m1 m2 : Int), Ev (fun k => laws_markStringS.f k names 1) (m0, t0) ∧ Ev (fun k => laws_markBoolS.f k mine m0) (m1, t1) ∧ Ev (fun k => laws_markIntSS.f k next m1) (m2, t2) ∧ 0 ≤ m2 ∧ m2 ≤ 1200000000000 := by
  have ht := tot_le next 1048576 h.x2
  have h1 := h.n1
  have h2 := h.m1
  have h3 := h.x1
  have h4 : tot next ≤ 1048576 * 1048576 := Nat.le_trans ht (Nat.mul_le_mul_right _ h3)
  obtain ⟨t0, e0⟩ := markStringS_ev names 1 (by omega) (by omega)
  obtain ⟨t1, e1⟩ := markBoolS_ev mine (1 + names.length) (by omega) (by omega)
  have e2 := markIntSS_ev next (1 + names.length + mine.length) (by omega) (by omega) h3
  exact ⟨t0, t1, _, _, _, _, e0, e1, e2, by omega, by omega⟩
end Go.Proofs.YtdihodboopeakaaDoor.Pure
/-
Own text: after how many choices the wish is met: the program's and the reference's ranks are the same.
-/
namespace Go.Proofs.YtdihodboopeakaaDoor.Pure
open Go.RowKit Go.Proofs.YtdihodboopeakaaDoorW.PrintWords Go.Proofs.YtdihodboopeakaaDoorW.PrintLast Go.Proofs.YtdihodboopeakaaDoor.Pr Go.Proofs.YtdihodboopeakaaDoor.EvKit
open Classical

def anyGe (r row : List Int) : Prop := ∃ p ∈ row, rd r p ≥ 0
def anyLt (r row : List Int) : Prop := ∃ p ∈ row, rd r p < 0
section
variable (names : List ByteArray) (mine : List Bool) (next : List (List Int)) (reach avoid : List ByteArray)
def mn_ (i : Nat) : Bool := mine.getD i false
def nx (i : Nat) : List Int := next.getD i []
/-- A place is lost at these ranks. -/
def lose (r : List Int) (i : Nat) : Prop := ¬ rd r i < 0 ∧ nx next i ≠ [] ∧ ((mn_ mine i = true ∧ ¬ anyGe r (nx next i)) ∨ (mn_ mine i = false ∧ anyLt r (nx next i)))
noncomputable def sw1 (r : List Int) (i : Nat) : List Int := if lose mine next r i then r.set i (-1) else r
noncomputable def sw (r : List Int) (i : Nat) : Nat → List Int
  | 0 => r
  | d + 1 => sw (sw1 mine next r i) (i + 1) d
noncomputable def iter (n : Nat) : Nat → List Int → List Int
  | 0, r => r
  | m + 1, r => iter n m (sw mine next r 0 n)
variable (hg : Good names mine next) (hb : Small names mine next) (hw : SmallW reach avoid)
include hg
theorem nx_mem (i : Nat) (hi : i < names.length) (p : Int) (hp : p ∈ nx next i) : 0 ≤ p ∧ p < names.length := by
  obtain ⟨j, hj, rfl⟩ := List.getElem_of_mem hp
  have := ((hg.2.2 i (Nat.zero_le i) hi).2 j (Nat.zero_le j) hj).1
  have e : (next.getD i []).getD j 0 = (nx next i)[j] := by unfold nx; rw [List.getD_eq_getElem?_getD (l := next.getD i []), List.getElem?_eq_getElem (by exact hj)]; rfl
  rw [e] at this
  exact this
theorem nx_len (i : Nat) (hi : i < names.length) : (nx next i).length ≤ 14 := by
  have := ((hg.2.2 i (Nat.zero_le i) hi).2).len
  have h2 := hg.1.2
  unfold nx
  omega

/-! Without Reach: the program -/
end
end Go.Proofs.YtdihodboopeakaaDoor.Pure
/-
Own text: is a wish met along a path: the program and the reference.
-/
namespace Go.Proofs.YtdihodboopeakaaDoor.Pure
open Go.RowKit Go.Proofs.YtdihodboopeakaaDoorW.PrintWords Go.Proofs.YtdihodboopeakaaDoorW.PrintLast Go.Proofs.YtdihodboopeakaaDoor.Pr Go.Proofs.YtdihodboopeakaaDoor.EvKit
open Classical

/-- What is told of the places of a path from here on. -/
noncomputable def met (names : List ByteArray) (reach avoid : List ByteArray) : List Int → Bool × Bool
  | [] => (decide (reach.length = 0), true)
  | p :: ps => if nm names p ∈ avoid then (false, true) else if nm names p ∈ reach then (true, true) else met names reach avoid ps
section
variable (names : List ByteArray) (mine : List Bool) (next : List (List Int)) (reach avoid : List ByteArray) (path : List Int)
variable (hw : SmallW reach avoid) (hp : path.length ≤ 60)
include hw hp
end
end Go.Proofs.YtdihodboopeakaaDoor.Pure
