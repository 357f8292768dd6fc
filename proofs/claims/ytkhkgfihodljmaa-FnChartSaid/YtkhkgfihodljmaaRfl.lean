/- impl.RunFlat by hand: its closure 'is', and the walk. -/
import Derived.Test.YtkhkgfihodljmaaPr24
import Derived.Test.YtkhkgfihodljmaaRfd
import Derived.Test.YtkhkgfihodljmaaIv
namespace Go.Proofs.Ytkhkgfihodljmaa.Pr
open Go.RowKit Go.Proofs.YtkhkgfihodljmaaW.PrintWords Go.Proofs.YtkhkgfihodljmaaW.PrintLast Go.Proofs.YtkhkgfihodljmaaW.PrintMore
set_option linter.unusedVariables false
set_option linter.unusedSimpArgs false
theorem btw' (a lo hi : Int) : impl_between.f a lo hi = some (decide (lo ≤ a ∧ a ≤ hi)) := by
  unfold impl_between.f
  by_cases h : a ≥ lo <;> simp [h] <;> omega
set_option maxHeartbeats 1000000 in
set_option maxRecDepth 100000 in
theorem isRun (gb : Nat) (A : Option Addr) (c : Nat) (l0 : List (List Int)) (s : Int) (w : World) (hb : w.heap[gb]? = some (.cells #[.slice A l0.length c] 37 (0, 0))) (hr0 : Kd.C (Kd.slice 3 (Kd.int .i64)) w A l0.length l0) (hn : l0.length ≤ 1000) :
    Calls Try.prog 63 #[.int .i64 s, .pointer (some ⟨gb, 0, none⟩)] w fun e w' => e = .returned (.bool (isB l0 s)) ∧ Drawn0 w w' := by
  have hcz0 : w.cell? ⟨gb, 0, none⟩ = some (.slice A l0.length c) := (blk_cell hb 0).trans rfl
  have hfz0 := blk_frozen hb 0
  have e1 : wrap64 ((l0.length : Int) - 1) = (l0.length : Int) - 1 := by unfold wrap64; omega
  have e3 : IntKind.i64.wrap ((l0.length : Int) - 1) = (l0.length : Int) - 1 := (i64_w _).trans e1
  by_cases h : 0 ≤ s ∧ s < l0.length
  · have HB : Aside0 (impl_between.f s 0 ((l0.length : Int) - 1) = some true) := ⟨by rw [btw']; congr 1; exact decide_eq_true (by omega)⟩
    obtain ⟨ad, A1, c1, e2, hx, hl, hi⟩ := at_L2 hr0 s h.1 h.2
    subst e2
    have HI : Aside0 (isB l0 s = decide (0 < (rd_L2 l0 s).length)) := ⟨by unfold isB; by_cases hp : 0 < (rd_L2 l0 s).length <;> simp [h.1, h.2, hp]⟩
    clear e1 hl hi hb hr0
    have p1 : decide (0 ≤ s) = true := decide_eq_true h.1
    have p2 : decide (s < (l0.length : Int)) = true := decide_eq_true h.2
    obtain ⟨h1, h2⟩ := h
    replace h1 := eq_true h1
    replace h2 := eq_true h2
    generalize (rd_L2 l0 s).length = n at *
    go_enter Try.func63, Try.ntmps63
    go_wp2_with fail
    go_at_call 49
    refine (impl_between.calls s 0 ((l0.length : Int) - 1) true _ HB.out).mono ?_
    rintro e w' ⟨rfl, nd, rfl⟩
    go_wp2_with fail
    go_ret
    exact ⟨by rw [HI.out]; rfl, nd, rfl⟩
  · have HB : Aside0 (impl_between.f s 0 ((l0.length : Int) - 1) = some false) := ⟨by rw [btw']; congr 1; exact decide_eq_false (by omega)⟩
    have HI : Aside0 (isB l0 s = false) := ⟨by unfold isB; exact decide_eq_false (fun hh => h ⟨hh.1, hh.2.1⟩)⟩
    clear e1 hb hr0 h
    go_enter Try.func63, Try.ntmps63
    go_wp2_with fail
    go_at_call 49
    refine (impl_between.calls s 0 ((l0.length : Int) - 1) false _ HB.out).mono ?_
    rintro e w' ⟨rfl, nd, rfl⟩
    go_wp2_with fail
    go_ret
    exact ⟨by rw [HI.out]; rfl, nd, rfl⟩
set_option maxHeartbeats 4000000 in
set_option maxRecDepth 100000 in
theorem impl_RunFlat.calls (k : Nat) (A0 : Option Addr) (c0 : Nat) (l0 : List (List Int)) (a1 : Int) (A2 : Option Addr) (c2 : Nat) (l2 : List Int) (r1 : List Int) (r2 : Bool) (w : World) (hr0 : Kd.C (Kd.slice 3 (Kd.int .i64)) w A0 l0.length l0) (hc0 : l0.length ≤ c0) (hr2 : Kd.C (Kd.int .i64) w A2 l2.length l2) (hc2 : l2.length ≤ c2) (h : impl_RunFlat.f k l0 a1 l2 = some (r1, r2)) :
   Calls Try.prog 25 #[.slice A0 l0.length c0, .int .i64 a1, .slice A2 l2.length c2] w fun e w' => ∃ v0_ : Value, e = .returned (.tuple #[v0_, .bool r2]) ∧ Kd.R (Kd.int .i64) 3 w' w.heap.size (fun _ => True) v0_ r1 ∧ Below w.heap.size w w' := by
  have HR0 := Aside0.mk hr0
  have HC0 := Aside0.mk hc0
  have HR2 := Aside0.mk hr2
  have HC2 := Aside0.mk hc2
  clear hr0 hc0 hr2 hc2
  have HB := Aside0.mk (Below.refl w.heap.size w)
  unfold impl_RunFlat.f at h
  by_cases c1 : (l0.length : Int) > 12
  · rw [if_pos c1] at h
    have c1b0 : decide (12 < (l0.length : Int)) = true := decide_eq_true c1
    have c1b1 : decide (12 < l0.length) = true := decide_eq_true (by omega)
    clear c1
    simp only [Option.some.injEq, Prod.mk.injEq] at h
    obtain ⟨rfl, rfl⟩ := h
    go_enter Try.func25, Try.ntmps25
    go_wp2_with (first | ((with_reducible refine gate_dst (N := 3) rfl ?_); refine box_event ?hg (N := 3) ?hd (cs := #[.slice A0 l0.length c0]) (t := 37) ?hr ?_; (case hd => rfl); (case hg => rfl); (case hr => first | (go_simp; done) | (go_simp; rfl)); intro gb hg w1 hbox hb; clear hg; have hcz0 : w1.cell? ⟨gb, 0, none⟩ = some (.slice A0 l0.length c0) := (blk_cell hbox 0).trans rfl; have hfz0 := blk_frozen hbox 0))
    have BK := Aside0.mk hbox
    have HB1 := Aside0.mk (below_step HB.out hb)
    clear HB hb hbox
    go_ret2
    exact ⟨_, er_, Kd.R_nil _ _ _ _ _, HB1.out⟩
  rw [if_neg c1] at h
  have HN : Aside0 (l0.length ≤ 12) := ⟨by omega⟩
  have c1b0 : decide (12 < (l0.length : Int)) = false := decide_eq_false c1
  have c1b1 : decide (12 < l0.length) = false := decide_eq_false (by omega)
  clear c1
  obtain ⟨t, A10, h⟩ := Option.bind_eq_some_iff.mp h
  have A1 := Aside0.mk A10
  clear A10
  cases t with
  | false =>
    simp only [Bool.false_eq_true, if_false, Option.some.injEq, Prod.mk.injEq] at h
    obtain ⟨rfl, rfl⟩ := h
    go_enter Try.func25, Try.ntmps25
    go_wp2_with (first | ((with_reducible refine gate_dst (N := 3) rfl ?_); refine box_event ?hg (N := 3) ?hd (cs := #[.slice A0 l0.length c0]) (t := 37) ?hr ?_; (case hd => rfl); (case hg => rfl); (case hr => first | (go_simp; done) | (go_simp; rfl)); intro gb hg w1 hbox hb; clear hg; have hcz0 : w1.cell? ⟨gb, 0, none⟩ = some (.slice A0 l0.length c0) := (blk_cell hbox 0).trans rfl; have hfz0 := blk_frozen hbox 0))
    have BK := Aside0.mk hbox
    have HB1 := Aside0.mk (below_step HB.out hb)
    clear HB hb hbox
    go_wp2_with fail
    go_at_call 62
    refine (impl_goodEvents.calls k _ _ l2 false _ (Kd.C_below HR2.out HB1.out) HC2.out A1.out).mono ?_
    rintro e w2 ⟨rfl, hd⟩
    have HB := Aside0.mk (below_step HB1.out (drawn_below hd))
    clear HB1 hd
    go_wp2_with fail
    go_ret2
    exact ⟨_, er_, Kd.R_nil _ _ _ _ _, HB.out⟩
  | true =>
    simp only [if_true] at h
    have H' := Aside0.mk h
    clear h
    go_enter Try.func25, Try.ntmps25
    go_wp2_with (first | ((with_reducible refine gate_dst (N := 3) rfl ?_); refine box_event ?hg (N := 3) ?hd (cs := #[.slice A0 l0.length c0]) (t := 37) ?hr ?_; (case hd => rfl); (case hg => rfl); (case hr => first | (go_simp; done) | (go_simp; rfl)); intro gb hg w1 hbox hb; clear hg; have hcz0 : w1.cell? ⟨gb, 0, none⟩ = some (.slice A0 l0.length c0) := (blk_cell hbox 0).trans rfl; have hfz0 := blk_frozen hbox 0))
    have BK := Aside0.mk hbox
    have HB1 := Aside0.mk (below_step HB.out hb)
    clear HB hb hbox
    go_wp2_with fail
    go_at_call 62
    refine (impl_goodEvents.calls k _ _ l2 true _ (Kd.C_below HR2.out HB1.out) HC2.out A1.out).mono ?_
    rintro e w2 ⟨rfl, hd⟩
    have HB := Aside0.mk (below_step HB1.out (drawn_below hd))
    have BK2 := Aside0.mk (blk_below BK.out (drawn_below hd))
    clear HB1 hd BK hcz0 hfz0 A1
    have hcz0 : w2.cell? ⟨gb, 0, none⟩ = some (.slice A0 l0.length c0) := (blk_cell BK2.out 0).trans rfl
    have hfz0 := blk_frozen BK2.out 0
    go_wp2_with fail
    go_loopg [24] k (fun kq v24 w' => ∃ (x24 : Int), v24 = .int .i64 x24 ∧ Aside0 (impl_RunFlat.l0 kq l0 a1 l2 x24 = some (r1, r2)) ∧ Aside0 (kq ≤ k) ∧ Aside0 (w'.heap[gb]? = some (.cells #[.slice A0 l0.length c0] 37 (0, 0))) ∧ Aside0 (Below w.heap.size w w'))
    case atStart => exact ⟨0, es_, H', ⟨Nat.le_refl _⟩, BK2, HB⟩
    case round =>
     clear H' HB BK2 hcz0 hfz0
     obtain ⟨x24, rfl, HA, HK1, BK, HB⟩ := hrel
     cases gk with
     | zero => exact absurd HA.out (by simp [impl_RunFlat.l0])
     | succ k1 =>
      have H := HA.out
      clear HA
      simp only [impl_RunFlat.l0] at H
      by_cases c3 : x24 < (l0.length : Int)
      ·rw [if_pos c3] at H
       by_cases c4 : 0 ≤ x24
       ·rw [if_pos c4] at H
        have c3b0 : decide (x24 < (l0.length : Int)) = true := decide_eq_true c3
        have c4b0 : decide (0 ≤ x24) = true := decide_eq_true c4
        obtain ⟨ad, A4, c4_, e4, hx4, hl4, hi4⟩ := at_L2 HR0.out x24 c4 c3
        cases e4
        replace hx4 := hc_ HB hx4
        clear hl4 hi4
        replace c3 := eq_true c3
        replace c4 := eq_true c4
        by_cases c5 : ((rd_L2 l0 x24).length : Int) = 0
        ·rw [if_pos c5] at H
         have H' := Aside0.mk H
         clear H
         have c5b0 : (((rd_L2 l0 x24).length : Int) == 0) = true := beq_iff_eq.mpr c5
         have c5b1 : (((rd_L2 l0 x24).length : Int) != 0) = false := bne_eq_false_iff_eq.mpr c5
         clear c5
         go_wp2
         go_roundg k1
         case measure => have := HK1.out; omega
         case rel => exact ⟨_, es_, H', ⟨by have := HK1.out; omega⟩, BK, HB⟩
        ·rw [if_neg c5] at H
         have c5b0 : (((rd_L2 l0 x24).length : Int) == 0) = false := beq_eq_false_iff_ne.mpr c5
         have c5b1 : (((rd_L2 l0 x24).length : Int) != 0) = true := bne_iff_ne.mpr c5
         clear c5
         by_cases c6 : ((rd_L2 l0 x24).length : Int) = 6
         ·rw [if_pos c6] at H
          have H' := Aside0.mk H
          clear H
          have c6b0 : (((rd_L2 l0 x24).length : Int) == 6) = true := beq_iff_eq.mpr c6
          have c6b1 : (((rd_L2 l0 x24).length : Int) != 6) = false := bne_eq_false_iff_eq.mpr c6
          clear c6
          go_wp2
          go_roundg k1
          case measure => have := HK1.out; omega
          case rel => exact ⟨_, es_, H', ⟨by have := HK1.out; omega⟩, BK, HB⟩
         ·rw [if_neg c6] at H
          have c6b0 : (((rd_L2 l0 x24).length : Int) == 6) = false := beq_eq_false_iff_ne.mpr c6
          have c6b1 : (((rd_L2 l0 x24).length : Int) != 6) = true := bne_iff_ne.mpr c6
          clear c6
          simp only [Option.some.injEq, Prod.mk.injEq] at H
          obtain ⟨rfl, rfl⟩ := H
          go_wp2
          go_ret2
          exact ⟨_, er_, Kd.R_nil _ _ _ _ _, HB.out⟩
       ·rw [if_neg c4] at H
        exact absurd H (by simp)
      ·rw [if_neg c3] at H
       have c3b0 : decide (x24 < (l0.length : Int)) = false := decide_eq_false c3
       clear c3
       go_wp2_with fail
       go_at_call 63
       refine (isRun gb A0 c0 l0 a1 _ BK.out (Kd.C_below HR0.out HB.out) (by have := HN.out; omega)).mono ?_
       rintro e w5 ⟨rfl, hd⟩
       have n0_ := Aside0.mk (below_step HB.out (drawn_below hd))
       have n1_ := Aside0.mk (blk_below BK.out (drawn_below hd))
       clear HB BK hd
       have HB := n0_
       have BK := n1_
       clear n0_ n1_
       by_cases c7 : isB l0 a1 = true
       case neg =>
        rw [if_neg c7] at H
        have c7b : isB l0 a1 = false := by simpa using c7
        clear c7
        simp only [Option.some.injEq, Prod.mk.injEq] at H
        obtain ⟨rfl, rfl⟩ := H
        go_wp2_with fail
        go_ret2
        exact ⟨_, er_, Kd.R_nil _ _ _ _ _, HB.out⟩
       case pos =>
        rw [if_pos c7] at H
        have H' := Aside0.mk H
        clear H
        go_wp2_with (first | ((with_reducible refine gate_dst (N := 43) rfl ?_); (try (refine gate_guard (by rfl) ?_; dsimp only)); refine Kd.R_lit (Kd.int .i64) _ 3 ?hg (N := 43) ?hd (xs := ([a1] : List Int)) (inner := [.int .i64 a1]) (ok := fun _ => True) (okp := fun _ => True) ?hr ?hp (fun _ hk => hk) trivial (Below.refl _ _) (Nat.le_refl _) (by simp) ?_; (case hd => rfl); (case hg => rfl); (case hr => first | (go_simp; done) | (go_simp; rfl)); (case hp => exact (Reps.one (show Kd.M (Kd.int .i64) _ _ _ a1 [.int .i64 a1] from rfl) (Reps.none _ _))); intro v8 w8 ho8 hb hg_ hnew_; clear hg_ hnew_; have n0_ := Aside0.mk (Kd.R_lower ho8 (below_size hb_)); have n1_ := Aside0.mk (below_step HB.out hb); have n2_ := Aside0.mk (blk_below BK.out hb); clear HB BK; have HO := n0_; have HB := n1_; have BK := n2_; clear n0_ n1_ n2_; clear hb ho8))
        go_loopg [1, 11, 46] k1 (fun kq v1 v11 v46 w' => ∃ (x1_3 : Int) (x11 : List Int) (x46 : Int), v1 = .int .i64 x1_3 ∧ v46 = .int .i64 x46 ∧ Aside0 (impl_RunFlat.l1 kq l0 x1_3 x11 l2 x46 = some (r1, r2)) ∧ Aside0 (kq ≤ k1) ∧ Aside0 (Kd.R (Kd.int .i64) 3 w' w.heap.size (fun _ => True) v11 x11) ∧ Aside0 (w'.heap[gb]? = some (.cells #[.slice A0 l0.length c0] 37 (0, 0))) ∧ Aside0 (Below w.heap.size w w'))
        case atStart => exact ⟨a1, [a1], 0, es_, es_, H', ⟨Nat.le_refl _⟩, HO, BK, HB⟩
        case round =>
         clear H' HB BK HO c7
         obtain ⟨x1_3, x11, x46, rfl, rfl, HA, HK2, HO, BK, HB⟩ := hrel
         cases gk with
         | zero => exact absurd HA.out (by simp [impl_RunFlat.l1])
         | succ k2 =>
          have H := HA.out
          clear HA
          simp only [impl_RunFlat.l1] at H
          by_cases c20 : x46 < (l2.length : Int)
          ·rw [if_pos c20] at H
           by_cases c21 : 0 ≤ x46
           ·rw [if_pos c21] at H
            by_cases c22 : 0 ≤ x1_3
            ·rw [if_pos c22] at H
             by_cases c23 : x1_3 < (l0.length : Int)
             ·rw [if_pos c23] at H
              by_cases c24 : 0 ≤ rd l2 x46
              ·rw [if_pos c24] at H
               by_cases c25 : rd l2 x46 < ((rd_L2 l0 x1_3).length : Int)
               ·rw [if_pos c25] at H
                obtain ⟨ad6, e6, hx6⟩ := Kd.at_int HR2.out x46 c21 c20
                cases e6
                replace hx6 := hc_ HB hx6
                obtain ⟨ad7, A7, c7_, e7, hx7, hl7, hi7⟩ := at_L2 HR0.out x1_3 c22 c23
                cases e7
                replace hx7 := hc_ HB hx7
                obtain ⟨ad8, e8, hx8⟩ := Kd.at_int hi7 (rd l2 x46) c24 c25
                cases e8
                replace hx8 := hc_ HB hx8
                clear hl7 hi7
                have c20b0 : decide (x46 < (l2.length : Int)) = true := decide_eq_true c20
                have c21b0 : decide (0 ≤ x46) = true := decide_eq_true c21
                have c22b0 : decide (0 ≤ x1_3) = true := decide_eq_true c22
                have c23b0 : decide (x1_3 < (l0.length : Int)) = true := decide_eq_true c23
                have c24b0 : decide (0 ≤ rd l2 x46) = true := decide_eq_true c24
                have c25b0 : decide (rd l2 x46 < ((rd_L2 l0 x1_3).length : Int)) = true := decide_eq_true c25
                replace c20 := eq_true c20
                replace c21 := eq_true c21
                replace c22 := eq_true c22
                replace c23 := eq_true c23
                replace c24 := eq_true c24
                replace c25 := eq_true c25
                have hcz0 : wr.cell? ⟨gb, 0, none⟩ = some (.slice (some ad7) l0.length c0) := (blk_cell BK.out 0).trans rfl
                have hfz0 := blk_frozen BK.out 0
                go_wp2_with fail
                go_at_call 63
                refine (isRun gb _ c0 l0 (rd (rd_L2 l0 x1_3) (rd l2 x46)) _ BK.out (Kd.C_below HR0.out HB.out) (by have := HN.out; omega)).mono ?_
                rintro e w9 ⟨rfl, hd⟩
                have n0_ := Aside0.mk (below_step HB.out (drawn_below hd))
                have n1_ := Aside0.mk (blk_below BK.out (drawn_below hd))
                have n2_ := Aside0.mk (Kd.R_below HO.out (drawn_below hd))
                clear HB BK hd HO hcz0 hfz0 hx6 hx7 hx8
                have HB := n0_
                have BK := n1_
                have HO := n2_
                clear n0_ n1_ n2_
                by_cases c26 : isB l0 (rd (rd_L2 l0 x1_3) (rd l2 x46)) = true
                case neg =>
                 rw [if_neg c26] at H
                 have c26b : isB l0 (rd (rd_L2 l0 x1_3) (rd l2 x46)) = false := by simpa using c26
                 clear c26
                 simp only [Option.some.injEq, Prod.mk.injEq] at H
                 obtain ⟨rfl, rfl⟩ := H
                 go_wp2_with fail
                 go_ret2
                 exact ⟨_, er_, Kd.R_nil _ _ _ _ _, HB.out⟩
                case pos =>
                 rw [if_pos c26] at H
                 by_cases c27 : x11.length < 17592186044416
                 ·rw [if_pos c27] at H
                  have LM := Aside0.mk c27
                  have H' := Aside0.mk H
                  clear H c27
                  go_wp2_with (first | ((with_reducible refine gate_builtin (b := .append) (xs := #[.tmp 61, .tmp 63]) rfl ?_); (try (refine gate_guard (by rfl) ?_; dsimp only)); at_builtin; refine Kd.R_append (Kd.int .i64) (w0 := w) w.heap.size rfl (.tmp 61) (.tmp 63) 30 3 (.int .i64 0) 8 rfl Try.underlying30 info3 rfl (by decide) (by omega) u11 x11 (rd (rd_L2 l0 x1_3) (rd l2 x46)) [.int .i64 (rd (rd_L2 l0 x1_3) (rd l2 x46))] (fun _ => True) (fun _ => False) rfl rfl ?aP (fun _ hk => hk.elim) ?aF ?aO ?aB ?aS ?aL ?_; (case aP => exact rfl); (case aB => exact hb_); (case aF => exact (fun _ _ => trivial)); (case aO => exact (ra_ HO.out)); (case aS => exact (below_size hb_)); (case aL => have := LM.out; omega); intro v10 w10 ho hb hg hat; have n0_ := Aside0.mk (hb); have n1_ := Aside0.mk (ho); have n2_ := Aside0.mk hg; have n3_ := Aside0.mk hat; clear ho hb hg hat))
                  go_roundg k2
                  case measure => have := HK2.out; omega
                  case rel => exact ⟨_, _, _, es_, es_, H', ⟨by have := HK2.out; omega⟩, n1_, ⟨(n2_.out.block gb (blk_lt BK.out) (Kd.R_ne HO.out BK.out (by decide))).trans BK.out⟩, n0_⟩
                 ·rw [if_neg c27] at H
                  exact absurd H (by simp)
               ·rw [if_neg c25] at H
                exact absurd H (by simp)
              ·rw [if_neg c24] at H
               exact absurd H (by simp)
             ·rw [if_neg c23] at H
              exact absurd H (by simp)
            ·rw [if_neg c22] at H
             exact absurd H (by simp)
           ·rw [if_neg c21] at H
            exact absurd H (by simp)
          ·rw [if_neg c20] at H
           have c20b0 : decide (x46 < (l2.length : Int)) = false := decide_eq_false c20
           clear c20
           simp only [Option.some.injEq, Prod.mk.injEq] at H
           obtain ⟨rfl, rfl⟩ := H
           go_wp2
           go_ret2
           exact ⟨_, er_, HO.out, HB.out⟩
end Go.Proofs.Ytkhkgfihodljmaa.Pr
