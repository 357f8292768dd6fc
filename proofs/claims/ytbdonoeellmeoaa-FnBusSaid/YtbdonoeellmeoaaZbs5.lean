-- Joined and pruned by wip/tools/prune.py out of this session's own texts (Pr3, Pr7, Pr8)
import Derived.Test.YtbdonoeellmeoaaZbs4
-- Written by this session's own print (wip/tools/mkmp.py) out of the translation. Lean checks it.
namespace Go.Proofs.Ytbdonoeellmeoaa.Pr
open Go.RowKit Go.Proofs.YtbdonoeellmeoaaW.PrintWords Go.Proofs.YtbdonoeellmeoaaW.PrintLast Go.Proofs.YtbdonoeellmeoaaW.PrintMore
attribute [local go_sem] max2_int min2_int max_two min_two max_three min_three max_four min_four   -- for this text's walks alone
set_option linter.unusedVariables false
set_option linter.unusedSimpArgs false

set_option maxHeartbeats 8000000 in
set_option maxRecDepth 100000 in
theorem impl_Arbitrate.calls (k : Nat) (A0 : Option Addr) (c0 : Nat) (l0 : List Int) (r1 : Int) (r2 : List Int) (r3 : Bool) (w : World) (hr0 : Kd.C (Kd.int .i64) w A0 l0.length l0) (hc0 : l0.length ≤ c0) (h : impl_Arbitrate.f k l0 = some (r1, r2, r3)) :
   Calls Try.prog 15 #[.slice A0 l0.length c0] w fun e w' => ∃ v1_ : Value, e = .returned (.tuple #[.int .i64 r1, v1_, .bool r3]) ∧ Kd.R (Kd.int .i64) 3 w' w.heap.size (fun _ => True) v1_ r2 ∧ Below w.heap.size w w' := by
  have HR0 := Aside0.mk hr0
  have HC0 := Aside0.mk hc0
  clear hr0 hc0
  have HB := Aside0.mk (Below.refl w.heap.size w)
  have H : (if (l0.length : Int) < 1 then (impl_Arbitrate.j0 k l0 true) else (impl_Arbitrate.j0 k l0 (decide ((l0.length : Int) > 6)))) = some (r1, r2, r3) := h
  clear h
  have HC2 := Aside0.mk H
  clear H
  go_enter Try.func15, Try.ntmps15
  go_upto_region 1 with (fail)
  go_cut [21] (fun v21 wc => ∃ (kq : Nat) (x21_1 : Bool), v21 = .bool x21_1 ∧ Aside0 (impl_Arbitrate.j0 kq l0 x21_1 = some (r1, r2, r3)) ∧ Aside0 (kq ≤ k) ∧ Aside0 (Below w.heap.size w wc))
  case first =>
   have H := HC2.out
   clear HC2
   by_cases c3 : (l0.length : Int) < 1
   ·rw [if_pos c3] at H
    have c3b0 : decide ((l0.length : Int) < 1) = true := decide_eq_true c3
    have c3b1 : decide (l0.length < 1) = true := decide_eq_true (by omega)
    clear c3
    (first | rw [c3b0] | (simp only [i64_w, i32_w]; rw [c3b0]) | skip)
    have H' := Aside0.mk H
    clear H
    go_wp2
    go_meet
    case rel => exact ⟨_, (true), es_, H', ⟨by first | omega | exact Nat.le_refl _⟩, ⟨hb_⟩⟩
   ·rw [if_neg c3] at H
    have c3b0 : decide ((l0.length : Int) < 1) = false := decide_eq_false c3
    have c3b1 : decide (l0.length < 1) = false := decide_eq_false (by omega)
    clear c3
    (first | rw [c3b0] | (simp only [i64_w, i32_w]; rw [c3b0]) | skip)
    have H' := Aside0.mk H
    clear H
    go_wp2
    go_meet
    case rel => exact ⟨_, (decide ((l0.length : Int) > 6)), es_, H', ⟨by first | omega | exact Nat.le_refl _⟩, ⟨hb_⟩⟩
  case rest =>
   clear HC2
   try clear c1
   try clear p2
   try clear c3
   try clear c3b0
   try clear c3b1
   obtain ⟨kq, x21_1, rfl, HA, HJ1, HB⟩ := hcut
   cases kq with
   | zero => exact absurd HA.out (by simp [impl_Arbitrate.j0])
   | succ kj1 =>
    have H := HA.out
    clear HA
    simp only [impl_Arbitrate.j0] at H
    by_cases c4 : x21_1 = true
    ·subst c4
     rw [if_pos rfl] at H
     simp only [Option.some.injEq, Prod.mk.injEq] at H
     obtain ⟨rfl, rfl, rfl⟩ := H
     go_wp2
     go_ret3
     exact ⟨_, er_, by first | exact Kd.R_nil _ _ _ _ _ | exact Kd.N_nil _ _ _ _ _ | exact Kd.V_nil _ _ _ _ _ | exact Kd.Q_nil _ _ _ _ _ | exact Kd.S_nil _ _ _ _ _, hb_⟩
    ·replace c4 := Bool.eq_false_iff.mpr c4
     subst c4
     rw [if_neg (show ¬ (false = true) by decide)] at H
     by_cases c5 : 0 ≤ (l0.length : Int)
     ·rw [if_pos c5] at H
      have c5b0 := eq_true c5
      have c5b1 : decide (0 ≤ (l0.length : Int)) = true := decide_eq_true c5
      clear c5
      by_cases c6 : ((l0.length : Int) : Int).toNat ≤ 35184372088832
      ·rw [if_pos c6] at H
       have c6b0 := eq_true c6
       have c6b1 : decide (((l0.length : Int) : Int).toNat ≤ 35184372088832) = true := decide_eq_true c6
       clear c6
       obtain ⟨y118, hy118⟩ : ∃ y_ : List Int, y_ = (List.replicate ((l0.length : Int) : Int).toNat 0) := ⟨_, rfl⟩
       replace H : (impl_Arbitrate.l0 kj1 l0 y118 l0 (l0.length : Int) 0) = some (r1, r2, r3) := by first | (rw [hy118]; with_reducible exact H) | (have H2_ := (Option.bind_some _ _).symm.trans H; rw [hy118]; with_reducible exact H2_) | (have H2_ := (Option.bind_some _ _).symm.trans H; with_reducible exact H2_) | with_reducible exact H | (rw [hy118]; exact H) | exact H
       have Ny118 := Aside0.mk hy118
       clear hy118
       have H' := Aside0.mk H
       clear H
       go_wp2_with (first | ((with_reducible refine gate_dst (N := 24) rfl ?_); (try (refine gate_guard (by rfl) ?_; dsimp only)); refine Kd.R_make (Kd.int .i64) _ 3 rfl (N := 24) rfl 31 _ _ rfl (l0.length : Int) rfl rfl Try.underlying31 (.int .i64 0) 8 info3 rfl (by decide) (by omega) 0 (ok := fun _ => True) (okp := fun _ => True) rfl (fun _ hk => hk) trivial (of_decide_eq_true as_) (Nat.le_trans (Nat.mul_le_mul_right _ (of_decide_eq_true as_ : (l0.length : Int).toNat ≤ 35184372088832)) (by omega)) (Below.refl _ _) (Nat.le_refl _) ?_; intro v119 w7 ho8 hb hg_ hnew_; clear hg_ hnew_; (first | rw [← Ny118.out] at ho8 | (simp only [Int.reduceToNat] at ho8; rw [← Ny118.out] at ho8)); have n0_ := Aside0.mk (Kd.R_lower ho8 (below_size hb_)); have n1_ := Aside0.mk (below_step hb_ hb); clear HB; have HO120 := n0_; have HB := n1_; clear n0_ n1_; clear hb ho8))
       go_loopg [27] kj1 (fun kq v27 w' => ∃ (x5_2 : List Int) (x27_2 : Int), v27 = .int .i64 x27_2 ∧ Aside0 (impl_Arbitrate.l0 kq l0 x5_2 l0 (l0.length : Int) x27_2 = some (r1, r2, r3)) ∧ Aside0 (kq ≤ kj1) ∧ Aside0 (Kd.R (Kd.int .i64) 3 w' w.heap.size (fun _ => True) v119 x5_2) ∧ Aside0 (Below w.heap.size w w'))
       case atStart => exact ⟨(y118), (0), es_, H', ⟨Nat.le_refl _⟩, ⟨ra_ HO120.out⟩, ⟨hb_⟩⟩
       case round =>
        clear H'
        try clear c1
        try clear p2
        try clear c3
        try clear c3b0
        try clear c3b1
        try clear c4
        try clear c5
        try clear c5b0
        try clear c5b1
        try clear c6
        try clear c6b0
        try clear c6b1
        try clear p2
        obtain ⟨x5_2, x27_2, rfl, HA, HK2, HO_5, HB⟩ := hrel
        cases gk with
        | zero => exact absurd HA.out (by simp [impl_Arbitrate.l0])
        | succ k2 =>
         have H := HA.out
         clear HA
         simp only [impl_Arbitrate.l0] at H
         by_cases c9 : x27_2 < (l0.length : Int)
         ·rw [if_pos c9] at H
          have c9b0 : decide (x27_2 < (l0.length : Int)) = true := decide_eq_true c9
          clear c9
          by_cases c10 : 0 ≤ x27_2
          ·rw [if_pos c10] at H
           have c10b0 : decide (0 ≤ x27_2) = true := decide_eq_true c10
           clear c10
           by_cases c11 : x27_2 < (l0.length : Int)
           ·rw [if_pos c11] at H
            have c11b0 : decide (x27_2 < (l0.length : Int)) = true := decide_eq_true c11
            clear c11
            replace H := Option.bind_eq_some_iff.mp H
            obtain ⟨t122, A120, H⟩ := H
            replace H : (if t122 = true then (if x27_2 < (x5_2.length : Int) then (impl_Arbitrate.l0 k2 l0 (x5_2.set (x27_2 : Int).toNat (-1)) l0 (l0.length : Int) (wrap64 (x27_2 + 1))) else (none)) else (some (0, ([] : List Int), false))) = some (r1, r2, r3) := H
            have A12 := Aside0.mk A120
            clear A120
            by_cases c13 : t122 = true
            ·subst c13
             rw [if_pos rfl] at H
             by_cases c14 : x27_2 < (x5_2.length : Int)
             ·rw [if_pos c14] at H
              have c14b0 : decide (x27_2 < (x5_2.length : Int)) = true := decide_eq_true c14
              clear c14
              obtain ⟨y123, hy123⟩ : ∃ y_ : List Int, y_ = (x5_2.set (x27_2 : Int).toNat (-1)) := ⟨_, rfl⟩
              replace H : (impl_Arbitrate.l0 k2 l0 y123 l0 (l0.length : Int) (wrap64 (x27_2 + 1))) = some (r1, r2, r3) := by first | (rw [hy123]; with_reducible exact H) | (have H2_ := (Option.bind_some _ _).symm.trans H; rw [hy123]; with_reducible exact H2_) | (have H2_ := (Option.bind_some _ _).symm.trans H; with_reducible exact H2_) | with_reducible exact H | (rw [hy123]; exact H) | exact H
              have Ny123 := Aside0.mk hy123
              clear hy123
              have H' := Aside0.mk H
              clear H
              have p121 : 0 ≤ (x27_2 : Int) := of_decide_eq_true as_
              have q121 : x27_2 < (l0.length : Int) := of_decide_eq_true as_
              obtain ⟨ad121, e121, hx121_0⟩ := Kd.at_int HR0.out x27_2 p121 q121
              cases e121
              replace hx121_0 := hc_ HB hx121_0
              replace p121 := eq_true p121
              replace q121 := eq_true q121
              go_wp2_with (first | ((with_reducible refine gate_callee (f := 29) rfl ?_); refine goesL_ (some 33) rfl rfl Try.func29 (by kernel_rfl) rfl #[.int .i64 (rd l0 x27_2), .int .i64 0, .int .i64 2047] rfl ls_ ?_; (with_reducible refine (impl_between.calls (rd l0 x27_2) 0 2047 true _ A12.out).mono ?_); rintro e w' ⟨rfl, ⟨nd, rfl⟩⟩; refine ⟨_, rfl, ?_⟩; (try (rw [drewN_self wr]; generalize hq_ : World.drewN wr _ = wr; have n0_ := Aside0.mk (Kd.R_at hq_ HO_5.out); have n1_ := Aside0.mk (below_at hq_ HB.out); clear hq_ HO_5 HB; have HO_5 := n0_; have HB := n1_; clear n0_ n1_)); have p15 : 0 ≤ (x27_2 : Int) := of_decide_eq_true as_; have q15 : (x27_2 : Int) < ((x5_2.length : Int) : Int) := of_decide_eq_true as_; obtain ⟨go15, co15, eo15, gb15, gl15, cl15, HG15⟩ := Kd.R_form HO_5.out (by omega); (first | cases eo15 | (injection eo15 with ea_ en_ ec_; (first | subst ea_ | (injection ea_ with ea_; subst ea_)); subst ec_; clear en_)); have GB15 := Aside0.mk gb15; have GG15 := Aside0.mk HG15; clear gb15 gl15 HG15; obtain ⟨hx15_0, hf15_0⟩ := Kd.R_celln 0 HO_5.out (x27_2 : Int) p15 q15; replace p15 := eq_true p15; replace q15 := eq_true q15; obtain ⟨hy16_, hz16_⟩ := Kd.R_celln 0 HO_5.out (x27_2 : Int) (of_decide_eq_true as_) (of_decide_eq_true as_); have HP16 := Kd.R_putg HO_5.out (x27_2 : Int) (-1)) | ((with_reducible refine gate_store (t := 3) (p := 37) rfl ?_); refine store_event (t := 3) (p := 37) (v := ?vo_w17) (w1 := (wr.setCell ⟨go15, (x27_2 : Int).toNat, none⟩ (.int .i64 (-1)))) ?hg ?ho ?hn ?hr ?_; (case ho => rfl); (case hg => rfl); (case hn => rfl); (case hr => first | (go_simp; done) | (go_simp; rfl)); intro w17 hw; have hg : wr.grownBy w17 (some go15) := (by rw [hw]; exact HP16.2); have hp_ : Kd.R (Kd.int .i64) 3 w17 w.heap.size (fun _ => True) (.slice (some ⟨go15, 0, none⟩) x5_2.length co15) y123 := (by rw [hw, Ny123.out]; exact HP16.1); clear HP16; have n0_ := Aside0.mk (hp_); have n1_ := Aside0.mk ((by rw [hw]; exact below_set (HB.out) GB15.out : Below w.heap.size w w17)); clear HO_5; clear HB; have HO_5 := n0_; have HB := n1_; clear n0_ n1_; clear hg hw hp_))
              go_roundg k2
              case measure => have := HJ1.out; have := HK2.out; omega
              case rel => exact ⟨(y123), (wrap64 (x27_2 + 1)), es_, H', ⟨by have := HJ1.out; have := HK2.out; omega⟩, ⟨ra_ HO_5.out⟩, ⟨hb_⟩⟩
             ·rw [if_neg c14] at H
              exact absurd H (by simp)
            ·replace c13 := Bool.eq_false_iff.mpr c13
             subst c13
             rw [if_neg (show ¬ (false = true) by decide)] at H
             simp only [Option.some.injEq, Prod.mk.injEq] at H
             obtain ⟨rfl, rfl, rfl⟩ := H
             have p121 : 0 ≤ (x27_2 : Int) := of_decide_eq_true as_
             have q121 : x27_2 < (l0.length : Int) := of_decide_eq_true as_
             obtain ⟨ad121, e121, hx121_0⟩ := Kd.at_int HR0.out x27_2 p121 q121
             cases e121
             replace hx121_0 := hc_ HB hx121_0
             replace p121 := eq_true p121
             replace q121 := eq_true q121
             go_wp2_with (first | ((with_reducible refine gate_callee (f := 29) rfl ?_); refine goesL_ (some 33) rfl rfl Try.func29 (by kernel_rfl) rfl #[.int .i64 (rd l0 x27_2), .int .i64 0, .int .i64 2047] rfl ls_ ?_; (with_reducible refine (impl_between.calls (rd l0 x27_2) 0 2047 false _ A12.out).mono ?_); rintro e w' ⟨rfl, ⟨nd, rfl⟩⟩; refine ⟨_, rfl, ?_⟩))
             go_ret3
             exact ⟨_, er_, by first | exact Kd.R_nil _ _ _ _ _ | exact Kd.N_nil _ _ _ _ _ | exact Kd.V_nil _ _ _ _ _ | exact Kd.Q_nil _ _ _ _ _ | exact Kd.S_nil _ _ _ _ _, hb_⟩
           ·rw [if_neg c11] at H
            exact absurd H (by simp)
          ·rw [if_neg c10] at H
           exact absurd H (by simp)
         ·rw [if_neg c9] at H
          have c9b0 : decide (x27_2 < (l0.length : Int)) = false := decide_eq_false c9
          clear c9
          have H' := Aside0.mk H
          clear H
          go_wp2
          go_loopg [39] k2 (fun kq v39 w' => ∃ (x5_3 : List Int) (x39_3 : Int), v39 = .int .i64 x39_3 ∧ Aside0 (impl_Arbitrate.l1 kq l0 x5_3 x39_3 = some (r1, r2, r3)) ∧ Aside0 (kq ≤ k2) ∧ Aside0 (Kd.R (Kd.int .i64) 3 w' w.heap.size (fun _ => True) v119 x5_3) ∧ Aside0 (Below w.heap.size w w'))
          case atStart => exact ⟨(x5_2), (0), es_, H', ⟨Nat.le_refl _⟩, ⟨ra_ HO_5.out⟩, ⟨hb_⟩⟩
          case round =>
           clear H'
           try clear c1
           try clear p1
           try clear q1
           try clear hx1
           try clear hf1
           try clear c2
           try clear p2
           try clear c3
           try clear c3b0
           try clear c3b1
           try clear c4
           try clear c5
           try clear c5b0
           try clear c5b1
           try clear c6
           try clear c6b0
           try clear c6b1
           try clear p6
           try clear c9
           try clear c9b0
           try clear c10
           try clear c10b0
           try clear c11
           try clear c11b0
           try clear p12
           try clear q12
           try clear hx12
           try clear c13
           try clear c14
           try clear c14b0
           try clear c15
           try clear p15
           try clear q15
           try clear hx15
           try clear hf15
           try clear hx121_0
           try clear hx15_0
           try clear p121
           try clear p15
           try clear p2
           try clear q121
           try clear q15
           obtain ⟨x5_3, x39_3, rfl, HA, HK3, HO_5, HB⟩ := hrel
           cases gk with
           | zero => exact absurd HA.out (by simp [impl_Arbitrate.l1])
           | succ k3 =>
            have H := HA.out
            clear HA
            simp only [impl_Arbitrate.l1] at H
            by_cases c18 : x39_3 < 11
            ·rw [if_pos c18] at H
             have c18b0 : decide (x39_3 < 11) = true := decide_eq_true c18
             clear c18
             have H' := Aside0.mk H
             clear H
             go_wp2
             go_loopg [9, 44] k3 (fun kq v9 v44 w' => ∃ (x9_4 : Int) (x44_4 : Int), v9 = .int .i64 x9_4 ∧ v44 = .int .i64 x44_4 ∧ Aside0 (impl_Arbitrate.l2 kq l0 x5_3 x39_3 x9_4 x39_3 l0 (l0.length : Int) x44_4 = some (r1, r2, r3)) ∧ Aside0 (kq ≤ k3) ∧ Aside0 (Kd.R (Kd.int .i64) 3 w' w.heap.size (fun _ => True) v119 x5_3) ∧ Aside0 (Below w.heap.size w w'))
             case atStart => exact ⟨(1), (0), es_, es_, H', ⟨Nat.le_refl _⟩, ⟨ra_ HO_5.out⟩, ⟨hb_⟩⟩
             case round =>
              clear H'
              try clear c1
              try clear p1
              try clear q1
              try clear hx1
              try clear hf1
              try clear c2
              try clear p2
              try clear c3
              try clear c3b0
              try clear c3b1
              try clear c4
              try clear c5
              try clear c5b0
              try clear c5b1
              try clear c6
              try clear c6b0
              try clear c6b1
              try clear p6
              try clear c9
              try clear c9b0
              try clear c10
              try clear c10b0
              try clear c11
              try clear c11b0
              try clear p12
              try clear q12
              try clear hx12
              try clear c13
              try clear c14
              try clear c14b0
              try clear c15
              try clear p15
              try clear q15
              try clear hx15
              try clear hf15
              try clear c18
              try clear c18b0
              try clear hx121_0
              try clear hx15_0
              try clear p1
              try clear p12
              try clear p121
              try clear p15
              try clear p2
              try clear p6
              try clear q1
              try clear q12
              try clear q121
              try clear q15
              obtain ⟨x9_4, x44_4, rfl, rfl, HA, HK4, HO_5, HB⟩ := hrel
              cases gk with
              | zero => exact absurd HA.out (by simp [impl_Arbitrate.l2])
              | succ k4 =>
               have H := HA.out
               clear HA
               simp only [impl_Arbitrate.l2] at H
               by_cases c19 : x44_4 < (l0.length : Int)
               ·rw [if_pos c19] at H
                have c19b0 : decide (x44_4 < (l0.length : Int)) = true := decide_eq_true c19
                clear c19
                by_cases c20 : 0 ≤ x44_4
                ·rw [if_pos c20] at H
                 have c20b0 : decide (0 ≤ x44_4) = true := decide_eq_true c20
                 clear c20
                 by_cases c21 : x44_4 < (l0.length : Int)
                 ·rw [if_pos c21] at H
                  have c21b0 : decide (x44_4 < (l0.length : Int)) = true := decide_eq_true c21
                  clear c21
                  by_cases c22 : x44_4 < (x5_3.length : Int)
                  ·rw [if_pos c22] at H
                   have c22b0 : decide (x44_4 < (x5_3.length : Int)) = true := decide_eq_true c22
                   clear c22
                   by_cases c23 : (rd x5_3 x44_4) < 0
                   ·rw [if_pos c23] at H
                    have c23b0 : decide ((rd x5_3 x44_4) < 0) = true := decide_eq_true c23
                    clear c23
                    obtain ⟨ji24, hji24⟩ : ∃ j_ : Int, (wrap64 (10 - x39_3)) = j_ := ⟨_, rfl⟩
                    replace H : (if 0 ≤ (ji24) then (impl_Arbitrate.l2 k4 l0 x5_3 x39_3 (Go.bits .and .i64 x9_4 (Go.bits .and .i64 (shr .i64 (rd l0 x44_4) (ji24)) 1)) x39_3 l0 (l0.length : Int) (wrap64 (x44_4 + 1))) else (none)) = some (r1, r2, r3) := by first | (rw [hji24] at H; exact H) | (simp only [hji24] at H ⊢; exact H)
                    have hji24w : (IntKind.i64.wrap (10 - x39_3)) = ji24 := (i64_w _).trans hji24
                    by_cases c25 : 0 ≤ (ji24)
                    ·rw [if_pos c25] at H
                     have c25b0 := eq_true c25
                     have c25b1 : decide (0 ≤ (ji24)) = true := decide_eq_true c25
                     clear c25
                     obtain ⟨ji26, hji26⟩ : ∃ j_ : Int, (shr .i64 (rd l0 x44_4) (ji24)) = j_ := ⟨_, rfl⟩
                     replace H : (impl_Arbitrate.l2 k4 l0 x5_3 x39_3 (Go.bits .and .i64 x9_4 (Go.bits .and .i64 (ji26) 1)) x39_3 l0 (l0.length : Int) (wrap64 (x44_4 + 1))) = some (r1, r2, r3) := by first | (rw [hji26] at H; exact H) | (simp only [hji26] at H ⊢; exact H)
                     have hji26_ : ((rd l0 x44_4) / 2 ^ min (ji24).toNat 64) = ji26 := hji26
                     have hji26z : (ji24) ≤ 64 → ((rd l0 x44_4) / 2 ^ (ji24).toNat) = ji26 := shr_small hji26
                     have H' := Aside0.mk H
                     clear H
                     have p125 : 0 ≤ (x44_4 : Int) := of_decide_eq_true as_
                     have q125 : x44_4 < (l0.length : Int) := of_decide_eq_true as_
                     obtain ⟨ad125, e125, hx125_0⟩ := Kd.at_int HR0.out x44_4 p125 q125
                     cases e125
                     replace hx125_0 := hc_ HB hx125_0
                     replace p125 := eq_true p125
                     replace q125 := eq_true q125
                     obtain ⟨Ao27, co27, eo27⟩ := Kd.R_slice HO_5.out
                     subst eo27
                     have p126 : 0 ≤ (x44_4 : Int) := of_decide_eq_true as_
                     have q126 : x44_4 < (x5_3.length : Int) := of_decide_eq_true as_
                     obtain ⟨ad126, e126, hx126_0⟩ := Kd.at_int (Kd.R_reads' HO_5.out).2.2 x44_4 p126 q126
                     cases e126
                     replace p126 := eq_true p126
                     replace q126 := eq_true q126
                     go_wp2
                     go_roundg k4
                     case measure => have := HJ1.out; have := HK2.out; have := HK3.out; have := HK4.out; omega
                     case rel => exact ⟨(Go.bits .and .i64 x9_4 (Go.bits .and .i64 (ji26) 1)), (wrap64 (x44_4 + 1)), (by first | rfl | (simp; done) | (simp only [← hji26] <;> (first | rfl | simp)) | (simp [*]; done)), es_, H', ⟨by have := HJ1.out; have := HK2.out; have := HK3.out; have := HK4.out; omega⟩, ⟨ra_ HO_5.out⟩, ⟨hb_⟩⟩
                    ·rw [if_neg c25] at H
                     exact absurd H (by simp)
                   ·rw [if_neg c23] at H
                    have c23b0 : decide ((rd x5_3 x44_4) < 0) = false := decide_eq_false c23
                    clear c23
                    have H' := Aside0.mk H
                    clear H
                    have p125 : 0 ≤ (x44_4 : Int) := of_decide_eq_true as_
                    have q125 : x44_4 < (l0.length : Int) := of_decide_eq_true as_
                    obtain ⟨ad125, e125, hx125_0⟩ := Kd.at_int HR0.out x44_4 p125 q125
                    cases e125
                    replace hx125_0 := hc_ HB hx125_0
                    replace p125 := eq_true p125
                    replace q125 := eq_true q125
                    obtain ⟨Ao28, co28, eo28⟩ := Kd.R_slice HO_5.out
                    subst eo28
                    have p126 : 0 ≤ (x44_4 : Int) := of_decide_eq_true as_
                    have q126 : x44_4 < (x5_3.length : Int) := of_decide_eq_true as_
                    obtain ⟨ad126, e126, hx126_0⟩ := Kd.at_int (Kd.R_reads' HO_5.out).2.2 x44_4 p126 q126
                    cases e126
                    replace p126 := eq_true p126
                    replace q126 := eq_true q126
                    go_wp2
                    go_roundg k4
                    case measure => have := HJ1.out; have := HK2.out; have := HK3.out; have := HK4.out; omega
                    case rel => exact ⟨(x9_4), (wrap64 (x44_4 + 1)), es_, es_, H', ⟨by have := HJ1.out; have := HK2.out; have := HK3.out; have := HK4.out; omega⟩, ⟨ra_ HO_5.out⟩, ⟨hb_⟩⟩
                  ·rw [if_neg c22] at H
                   exact absurd H (by simp)
                 ·rw [if_neg c21] at H
                  exact absurd H (by simp)
                ·rw [if_neg c20] at H
                 exact absurd H (by simp)
               ·rw [if_neg c19] at H
                have c19b0 : decide (x44_4 < (l0.length : Int)) = false := decide_eq_false c19
                clear c19
                have H' := Aside0.mk H
                clear H
                go_wp2
                go_loopg [64] k4 (fun kq v64 w' => ∃ (x5_5 : List Int) (x64_5 : Int), v64 = .int .i64 x64_5 ∧ Aside0 (impl_Arbitrate.l3 kq l0 x5_5 x39_3 x9_4 x39_3 l0 (l0.length : Int) x64_5 = some (r1, r2, r3)) ∧ Aside0 (kq ≤ k4) ∧ Aside0 (Kd.R (Kd.int .i64) 3 w' w.heap.size (fun _ => True) v119 x5_5) ∧ Aside0 (Below w.heap.size w w'))
                case atStart => exact ⟨(x5_3), (0), es_, H', ⟨Nat.le_refl _⟩, ⟨ra_ HO_5.out⟩, ⟨hb_⟩⟩
                case round =>
                 clear H'
                 try clear c1
                 try clear p1
                 try clear q1
                 try clear hx1
                 try clear hf1
                 try clear c2
                 try clear p2
                 try clear c3
                 try clear c3b0
                 try clear c3b1
                 try clear c4
                 try clear c5
                 try clear c5b0
                 try clear c5b1
                 try clear c6
                 try clear c6b0
                 try clear c6b1
                 try clear p6
                 try clear c9
                 try clear c9b0
                 try clear c10
                 try clear c10b0
                 try clear c11
                 try clear c11b0
                 try clear p12
                 try clear q12
                 try clear hx12
                 try clear c13
                 try clear c14
                 try clear c14b0
                 try clear c15
                 try clear p15
                 try clear q15
                 try clear hx15
                 try clear hf15
                 try clear c18
                 try clear c18b0
                 try clear c19
                 try clear c19b0
                 try clear c20
                 try clear c20b0
                 try clear c21
                 try clear c21b0
                 try clear c22
                 try clear c22b0
                 try clear c23
                 try clear c23b0
                 try clear c25
                 try clear c25b0
                 try clear c25b1
                 try clear hx121_0
                 try clear hx125_0
                 try clear hx126_0
                 try clear hx15_0
                 try clear p1
                 try clear p12
                 try clear p121
                 try clear p125
                 try clear p126
                 try clear p15
                 try clear p2
                 try clear p6
                 try clear q1
                 try clear q12
                 try clear q121
                 try clear q125
                 try clear q126
                 try clear q15
                 obtain ⟨x5_5, x64_5, rfl, HA, HK5, HO_5, HB⟩ := hrel
                 cases gk with
                 | zero => exact absurd HA.out (by simp [impl_Arbitrate.l3])
                 | succ k5 =>
                  have H := HA.out
                  clear HA
                  simp only [impl_Arbitrate.l3] at H
                  by_cases c29 : x64_5 < (l0.length : Int)
                  ·rw [if_pos c29] at H
                   have c29b0 : decide (x64_5 < (l0.length : Int)) = true := decide_eq_true c29
                   clear c29
                   by_cases c30 : 0 ≤ x64_5
                   ·rw [if_pos c30] at H
                    have c30b0 : decide (0 ≤ x64_5) = true := decide_eq_true c30
                    clear c30
                    by_cases c31 : x64_5 < (l0.length : Int)
                    ·rw [if_pos c31] at H
                     have c31b0 : decide (x64_5 < (l0.length : Int)) = true := decide_eq_true c31
                     clear c31
                     by_cases c32 : x64_5 < (x5_5.length : Int)
                     ·rw [if_pos c32] at H
                      have c32b0 : decide (x64_5 < (x5_5.length : Int)) = true := decide_eq_true c32
                      clear c32
                      by_cases c33 : (rd x5_5 x64_5) < 0
                      ·rw [if_pos c33] at H
                       have c33b0 : decide ((rd x5_5 x64_5) < 0) = true := decide_eq_true c33
                       clear c33
                       obtain ⟨ji34, hji34⟩ : ∃ j_ : Int, (wrap64 (10 - x39_3)) = j_ := ⟨_, rfl⟩
                       replace H : (if 0 ≤ (ji34) then (if (Go.bits .and .i64 (shr .i64 (rd l0 x64_5) (ji34)) 1) > x9_4 then (impl_Arbitrate.l3 k5 l0 (x5_5.set (x64_5 : Int).toNat x39_3) x39_3 x9_4 x39_3 l0 (l0.length : Int) (wrap64 (x64_5 + 1))) else (impl_Arbitrate.l3 k5 l0 x5_5 x39_3 x9_4 x39_3 l0 (l0.length : Int) (wrap64 (x64_5 + 1)))) else (none)) = some (r1, r2, r3) := by first | (rw [hji34] at H; exact H) | (simp only [hji34] at H ⊢; exact H)
                       have hji34w : (IntKind.i64.wrap (10 - x39_3)) = ji34 := (i64_w _).trans hji34
                       by_cases c35 : 0 ≤ (ji34)
                       ·rw [if_pos c35] at H
                        have c35b0 := eq_true c35
                        have c35b1 : decide (0 ≤ (ji34)) = true := decide_eq_true c35
                        clear c35
                        obtain ⟨ji36, hji36⟩ : ∃ j_ : Int, (shr .i64 (rd l0 x64_5) (ji34)) = j_ := ⟨_, rfl⟩
                        replace H : (if (Go.bits .and .i64 (ji36) 1) > x9_4 then (impl_Arbitrate.l3 k5 l0 (x5_5.set (x64_5 : Int).toNat x39_3) x39_3 x9_4 x39_3 l0 (l0.length : Int) (wrap64 (x64_5 + 1))) else (impl_Arbitrate.l3 k5 l0 x5_5 x39_3 x9_4 x39_3 l0 (l0.length : Int) (wrap64 (x64_5 + 1)))) = some (r1, r2, r3) := by first | (rw [hji36] at H; exact H) | (simp only [hji36] at H ⊢; exact H)
                        have hji36_ : ((rd l0 x64_5) / 2 ^ min (ji34).toNat 64) = ji36 := hji36
                        have hji36z : (ji34) ≤ 64 → ((rd l0 x64_5) / 2 ^ (ji34).toNat) = ji36 := shr_small hji36
                        by_cases c37 : (Go.bits .and .i64 (ji36) 1) > x9_4
                        ·rw [if_pos c37] at H
                         have c37b0 : decide (x9_4 < (Go.bits .and .i64 (ji36) 1)) = true := decide_eq_true c37
                         clear c37
                         obtain ⟨y129, hy129⟩ : ∃ y_ : List Int, y_ = (x5_5.set (x64_5 : Int).toNat x39_3) := ⟨_, rfl⟩
                         replace H : (impl_Arbitrate.l3 k5 l0 y129 x39_3 x9_4 x39_3 l0 (l0.length : Int) (wrap64 (x64_5 + 1))) = some (r1, r2, r3) := by first | (rw [hy129]; with_reducible exact H) | (have H2_ := (Option.bind_some _ _).symm.trans H; rw [hy129]; with_reducible exact H2_) | (have H2_ := (Option.bind_some _ _).symm.trans H; with_reducible exact H2_) | with_reducible exact H | (rw [hy129]; exact H) | exact H
                         have Ny129 := Aside0.mk hy129
                         clear hy129
                         have H' := Aside0.mk H
                         clear H
                         have p127 : 0 ≤ (x64_5 : Int) := of_decide_eq_true as_
                         have q127 : x64_5 < (l0.length : Int) := of_decide_eq_true as_
                         obtain ⟨ad127, e127, hx127_0⟩ := Kd.at_int HR0.out x64_5 p127 q127
                         cases e127
                         replace hx127_0 := hc_ HB hx127_0
                         replace p127 := eq_true p127
                         replace q127 := eq_true q127
                         obtain ⟨Ao39, co39, eo39⟩ := Kd.R_slice HO_5.out
                         subst eo39
                         have p128 : 0 ≤ (x64_5 : Int) := of_decide_eq_true as_
                         have q128 : x64_5 < (x5_5.length : Int) := of_decide_eq_true as_
                         obtain ⟨ad128, e128, hx128_0⟩ := Kd.at_int (Kd.R_reads' HO_5.out).2.2 x64_5 p128 q128
                         cases e128
                         replace p128 := eq_true p128
                         replace q128 := eq_true q128
                         have p38 : 0 ≤ (x64_5 : Int) := of_decide_eq_true as_
                         have q38 : (x64_5 : Int) < ((x5_5.length : Int) : Int) := of_decide_eq_true as_
                         obtain ⟨go38, co38, eo38, gb38, gl38, cl38, HG38⟩ := Kd.R_form HO_5.out (by omega)
                         (first | cases eo38 | (injection eo38 with ea_ en_ ec_; (first | subst ea_ | (injection ea_ with ea_; subst ea_)); subst ec_; clear en_))
                         have GB38 := Aside0.mk gb38
                         have GG38 := Aside0.mk HG38
                         clear gb38 gl38 HG38
                         (first | simp only [add_plain] at hx128_0 | skip)
                         obtain ⟨hx38_0, hf38_0⟩ := Kd.R_celln 0 HO_5.out (x64_5 : Int) p38 q38
                         replace p38 := eq_true p38
                         replace q38 := eq_true q38
                         have HP40 := Kd.R_putg HO_5.out (x64_5 : Int) x39_3
                         go_wp2_with (first | ((with_reducible refine gate_store (t := 3) (p := 86) rfl ?_); refine store_event (t := 3) (p := 86) (v := ?vo_w41) (w1 := (wr.setCell ⟨go38, (x64_5 : Int).toNat, none⟩ (.int .i64 x39_3))) ?hg ?ho ?hn ?hr ?_; (case ho => rfl); (case hg => rfl); (case hn => rfl); (case hr => first | (go_simp; done) | (go_simp; rfl)); intro w41 hw; have hg : wr.grownBy w41 (some go38) := (by rw [hw]; exact HP40.2); have hp_ : Kd.R (Kd.int .i64) 3 w41 w.heap.size (fun _ => True) (.slice (some ⟨go38, 0, none⟩) x5_5.length co39) y129 := (by rw [hw, Ny129.out]; exact HP40.1); clear HP40; have n0_ := Aside0.mk (hp_); have n1_ := Aside0.mk ((by rw [hw]; exact below_set (HB.out) GB38.out : Below w.heap.size w w41)); clear HO_5; clear HB; have HO_5 := n0_; have HB := n1_; clear n0_ n1_; clear hg hw hp_))
                         go_roundg k5
                         case measure => have := HJ1.out; have := HK2.out; have := HK3.out; have := HK4.out; have := HK5.out; omega
                         case rel => exact ⟨(y129), (wrap64 (x64_5 + 1)), es_, H', ⟨by have := HJ1.out; have := HK2.out; have := HK3.out; have := HK4.out; have := HK5.out; omega⟩, ⟨ra_ HO_5.out⟩, ⟨hb_⟩⟩
                        ·rw [if_neg c37] at H
                         have c37b0 : decide (x9_4 < (Go.bits .and .i64 (ji36) 1)) = false := decide_eq_false c37
                         clear c37
                         have H' := Aside0.mk H
                         clear H
                         have p127 : 0 ≤ (x64_5 : Int) := of_decide_eq_true as_
                         have q127 : x64_5 < (l0.length : Int) := of_decide_eq_true as_
                         obtain ⟨ad127, e127, hx127_0⟩ := Kd.at_int HR0.out x64_5 p127 q127
                         cases e127
                         replace hx127_0 := hc_ HB hx127_0
                         replace p127 := eq_true p127
                         replace q127 := eq_true q127
                         obtain ⟨Ao42, co42, eo42⟩ := Kd.R_slice HO_5.out
                         subst eo42
                         have p128 : 0 ≤ (x64_5 : Int) := of_decide_eq_true as_
                         have q128 : x64_5 < (x5_5.length : Int) := of_decide_eq_true as_
                         obtain ⟨ad128, e128, hx128_0⟩ := Kd.at_int (Kd.R_reads' HO_5.out).2.2 x64_5 p128 q128
                         cases e128
                         replace p128 := eq_true p128
                         replace q128 := eq_true q128
                         go_wp2
                         go_roundg k5
                         case measure => have := HJ1.out; have := HK2.out; have := HK3.out; have := HK4.out; have := HK5.out; omega
                         case rel => exact ⟨(x5_5), (wrap64 (x64_5 + 1)), es_, H', ⟨by have := HJ1.out; have := HK2.out; have := HK3.out; have := HK4.out; have := HK5.out; omega⟩, ⟨ra_ HO_5.out⟩, ⟨hb_⟩⟩
                       ·rw [if_neg c35] at H
                        exact absurd H (by simp)
                      ·rw [if_neg c33] at H
                       have c33b0 : decide ((rd x5_5 x64_5) < 0) = false := decide_eq_false c33
                       clear c33
                       have H' := Aside0.mk H
                       clear H
                       have p127 : 0 ≤ (x64_5 : Int) := of_decide_eq_true as_
                       have q127 : x64_5 < (l0.length : Int) := of_decide_eq_true as_
                       obtain ⟨ad127, e127, hx127_0⟩ := Kd.at_int HR0.out x64_5 p127 q127
                       cases e127
                       replace hx127_0 := hc_ HB hx127_0
                       replace p127 := eq_true p127
                       replace q127 := eq_true q127
                       obtain ⟨Ao43, co43, eo43⟩ := Kd.R_slice HO_5.out
                       subst eo43
                       have p128 : 0 ≤ (x64_5 : Int) := of_decide_eq_true as_
                       have q128 : x64_5 < (x5_5.length : Int) := of_decide_eq_true as_
                       obtain ⟨ad128, e128, hx128_0⟩ := Kd.at_int (Kd.R_reads' HO_5.out).2.2 x64_5 p128 q128
                       cases e128
                       replace p128 := eq_true p128
                       replace q128 := eq_true q128
                       go_wp2
                       go_roundg k5
                       case measure => have := HJ1.out; have := HK2.out; have := HK3.out; have := HK4.out; have := HK5.out; omega
                       case rel => exact ⟨(x5_5), (wrap64 (x64_5 + 1)), es_, H', ⟨by have := HJ1.out; have := HK2.out; have := HK3.out; have := HK4.out; have := HK5.out; omega⟩, ⟨ra_ HO_5.out⟩, ⟨hb_⟩⟩
                     ·rw [if_neg c32] at H
                      exact absurd H (by simp)
                    ·rw [if_neg c31] at H
                     exact absurd H (by simp)
                   ·rw [if_neg c30] at H
                    exact absurd H (by simp)
                  ·rw [if_neg c29] at H
                   have c29b0 : decide (x64_5 < (l0.length : Int)) = false := decide_eq_false c29
                   clear c29
                   have H' := Aside0.mk H
                   clear H
                   go_wp2
                   go_roundg k5
                   case measure => have := HJ1.out; have := HK2.out; have := HK3.out; have := HK4.out; have := HK5.out; omega
                   case rel => exact ⟨(x5_5), (wrap64 (x39_3 + 1)), es_, H', ⟨by have := HJ1.out; have := HK2.out; have := HK3.out; have := HK4.out; have := HK5.out; omega⟩, ⟨ra_ HO_5.out⟩, ⟨hb_⟩⟩
            ·rw [if_neg c18] at H
             have c18b0 : decide (x39_3 < 11) = false := decide_eq_false c18
             clear c18
             replace H := Option.bind_eq_some_iff.mp H
             obtain ⟨t124, A440, H⟩ := H
             replace H : (some (t124, x5_3, true)) = some (r1, r2, r3) := H
             have A44 := Aside0.mk A440
             clear A440
             simp only [Option.some.injEq, Prod.mk.injEq] at H
             obtain ⟨rfl, rfl, rfl⟩ := H
             obtain ⟨Ao45, co45, eo45⟩ := Kd.R_slice HO_5.out
             subst eo45
             go_wp2_with (first | ((with_reducible refine gate_callee (f := 31) rfl ?_); refine goesL_ (some 90) rfl rfl Try.func31 (by kernel_rfl) rfl #[.slice Ao45 x5_3.length co45, .int .i64 (-1)] rfl ls_ ?_; (with_reducible refine (slices_Index_int_int.calls k3 _ _ x5_3 (-1) t124 _ ?side1 ?side2 A44.out).mono ?_); (case side1 => exact ca_ (Kd.R_reads' HO_5.out).2.2); (case side2 => exact (Kd.R_reads' HO_5.out).2.1); rintro e w' ⟨rfl, ⟨nd, rfl⟩⟩; refine ⟨_, rfl, ?_⟩))
             go_ret3
             exact ⟨_, er_, by (with_reducible repeat (first | apply Kd.R_alloc | apply Kd.R_drewN | apply Kd.R_drew)); exact HO_5.out, hb_⟩
      ·rw [if_neg c6] at H
       exact absurd H (by simp)
     ·rw [if_neg c5] at H
      exact absurd H (by simp)

end Go.Proofs.Ytbdonoeellmeoaa.Pr
-- Written by this session's own print (wip/tools/mkmp.py) out of the translation. Lean checks it.
namespace Go.Proofs.Ytbdonoeellmeoaa.Pr
open Go.RowKit Go.Proofs.YtbdonoeellmeoaaW.PrintWords Go.Proofs.YtbdonoeellmeoaaW.PrintLast Go.Proofs.YtbdonoeellmeoaaW.PrintMore
attribute [local go_sem] max2_int min2_int max_two min_two max_three min_three max_four min_four   -- for this text's walks alone
set_option linter.unusedVariables false
set_option linter.unusedSimpArgs false

end Go.Proofs.Ytbdonoeellmeoaa.Pr
-- Written by this session's own print (wip/tools/mkmp.py) out of the translation. Lean checks it.
namespace Go.Proofs.Ytbdonoeellmeoaa.Pr
open Go.RowKit Go.Proofs.YtbdonoeellmeoaaW.PrintWords Go.Proofs.YtbdonoeellmeoaaW.PrintLast Go.Proofs.YtbdonoeellmeoaaW.PrintMore
attribute [local go_sem] max2_int min2_int max_two min_two max_three min_three max_four min_four   -- for this text's walks alone
set_option linter.unusedVariables false
set_option linter.unusedSimpArgs false

end Go.Proofs.Ytbdonoeellmeoaa.Pr
