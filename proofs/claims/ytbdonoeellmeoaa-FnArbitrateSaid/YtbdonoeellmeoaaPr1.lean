-- Written by this session's own print (wip/tools/mkmp.py) out of the translation. Lean checks it.
import Derived.Test.YtbdonoeellmeoaaPr0
import Derived.Test.YtbdonoeellmeoaaPrd1
namespace Go.Proofs.Ytbdonoeellmeoaa.Pr
open Go.RowKit Go.Proofs.YtbdonoeellmeoaaW.PrintWords Go.Proofs.YtbdonoeellmeoaaW.PrintLast Go.Proofs.YtbdonoeellmeoaaW.PrintMore
attribute [local go_sem] max2_int min2_int max_two min_two max_three min_three max_four min_four   -- for this text's walks alone
set_option linter.unusedVariables false
set_option linter.unusedSimpArgs false

set_option maxHeartbeats 8000000 in
set_option maxRecDepth 100000 in
theorem spec_Arbitrate.calls (k : Nat) (A0 : Option Addr) (c0 : Nat) (l0 : List Int) (r1 : Int) (r2 : List Int) (r3 : Bool) (w : World) (hr0 : Kd.C (Kd.int .i64) w A0 l0.length l0) (hc0 : l0.length ≤ c0) (h : spec_Arbitrate.f k l0 = some (r1, r2, r3)) :
   Calls Try.prog 13 #[.slice A0 l0.length c0] w fun e w' => ∃ v1_ : Value, e = .returned (.tuple #[.int .i64 r1, v1_, .bool r3]) ∧ Kd.R (Kd.int .i64) 3 w' w.heap.size (fun _ => True) v1_ r2 ∧ Below w.heap.size w w' := by
  have HR0 := Aside0.mk hr0
  have HC0 := Aside0.mk hc0
  clear hr0 hc0
  have HB := Aside0.mk (Below.refl w.heap.size w)
  have H : (if (l0.length : Int) < 1 then (spec_Arbitrate.j0 k l0 true) else (spec_Arbitrate.j0 k l0 (decide ((l0.length : Int) > 6)))) = some (r1, r2, r3) := h
  clear h
  have HC2 := Aside0.mk H
  clear H
  go_enter Try.func13, Try.ntmps13
  go_upto_region 1 with (fail)
  go_cut [23] (fun v23 wc => ∃ (kq : Nat) (x23_1 : Bool), v23 = .bool x23_1 ∧ Aside0 (spec_Arbitrate.j0 kq l0 x23_1 = some (r1, r2, r3)) ∧ Aside0 (kq ≤ k) ∧ Aside0 (Below w.heap.size w wc))
  case first =>
   have H := HC2.out
   clear HC2
   by_cases c3 : (l0.length : Int) < 1
   ·rw [if_pos c3] at H
    have c3b0 : decide ((l0.length : Int) < 1) = true := decide_eq_true c3
    have c3b1 : decide (l0.length < 1) = true := decide_eq_true (by omega)
    clear c3
    (first | rw [c3b0] | (simp only [i64_w, i32_w]; rw [c3b0]) | skip)
    have H' := Aside0.mk H
    clear H
    go_wp2
    go_meet
    case rel => exact ⟨_, (true), es_, H', ⟨by first | omega | exact Nat.le_refl _⟩, ⟨hb_⟩⟩
   ·rw [if_neg c3] at H
    have c3b0 : decide ((l0.length : Int) < 1) = false := decide_eq_false c3
    have c3b1 : decide (l0.length < 1) = false := decide_eq_false (by omega)
    clear c3
    (first | rw [c3b0] | (simp only [i64_w, i32_w]; rw [c3b0]) | skip)
    have H' := Aside0.mk H
    clear H
    go_wp2
    go_meet
    case rel => exact ⟨_, (decide ((l0.length : Int) > 6)), es_, H', ⟨by first | omega | exact Nat.le_refl _⟩, ⟨hb_⟩⟩
  case rest =>
   clear HC2
   try clear c1
   try clear p2
   try clear c3
   try clear c3b0
   try clear c3b1
   obtain ⟨kq, x23_1, rfl, HA, HJ1, HB⟩ := hcut
   cases kq with
   | zero => exact absurd HA.out (by simp [spec_Arbitrate.j0])
   | succ kj1 =>
    have H := HA.out
    clear HA
    simp only [spec_Arbitrate.j0] at H
    by_cases c4 : x23_1 = true
    ·subst c4
     rw [if_pos rfl] at H
     simp only [Option.some.injEq, Prod.mk.injEq] at H
     obtain ⟨rfl, rfl, rfl⟩ := H
     go_wp2
     go_ret3
     exact ⟨_, er_, by first | exact Kd.R_nil _ _ _ _ _ | exact Kd.N_nil _ _ _ _ _ | exact Kd.V_nil _ _ _ _ _ | exact Kd.Q_nil _ _ _ _ _ | exact Kd.S_nil _ _ _ _ _, hb_⟩
    ·replace c4 := Bool.eq_false_iff.mpr c4
     subst c4
     rw [if_neg (show ¬ (false = true) by decide)] at H
     have H' := Aside0.mk H
     clear H
     go_wp2
     go_loopg [26] kj1 (fun kq v26 w' => ∃ (x26_2 : Int), v26 = .int .i64 x26_2 ∧ Aside0 (spec_Arbitrate.l0 kq l0 l0 (l0.length : Int) x26_2 = some (r1, r2, r3)) ∧ Aside0 (kq ≤ kj1) ∧ Aside0 (Below w.heap.size w w'))
     case atStart => exact ⟨(0), es_, H', ⟨Nat.le_refl _⟩, ⟨hb_⟩⟩
     case round =>
      clear H'
      try clear c1
      try clear p2
      try clear c3
      try clear c3b0
      try clear c3b1
      try clear c4
      try clear p2
      obtain ⟨x26_2, rfl, HA, HK2, HB⟩ := hrel
      cases gk with
      | zero => exact absurd HA.out (by simp [spec_Arbitrate.l0])
      | succ k2 =>
       have H := HA.out
       clear HA
       simp only [spec_Arbitrate.l0] at H
       by_cases c5 : x26_2 < (l0.length : Int)
       ·rw [if_pos c5] at H
        have c5b0 : decide (x26_2 < (l0.length : Int)) = true := decide_eq_true c5
        clear c5
        by_cases c6 : 0 ≤ x26_2
        ·rw [if_pos c6] at H
         have c6b0 : decide (0 ≤ x26_2) = true := decide_eq_true c6
         clear c6
         by_cases c7 : x26_2 < (l0.length : Int)
         ·rw [if_pos c7] at H
          have c7b0 : decide (x26_2 < (l0.length : Int)) = true := decide_eq_true c7
          clear c7
          by_cases c8 : (rd l0 x26_2) < 0
          ·rw [if_pos c8] at H
           have c8b0 : decide ((rd l0 x26_2) < 0) = true := decide_eq_true c8
           clear c8
           simp only [Option.some.injEq, Prod.mk.injEq] at H
           obtain ⟨rfl, rfl, rfl⟩ := H
           have p101 : 0 ≤ (x26_2 : Int) := of_decide_eq_true as_
           have q101 : x26_2 < (l0.length : Int) := of_decide_eq_true as_
           obtain ⟨ad101, e101, hx101_0⟩ := Kd.at_int HR0.out x26_2 p101 q101
           cases e101
           replace hx101_0 := hc_ HB hx101_0
           replace p101 := eq_true p101
           replace q101 := eq_true q101
           go_wp2
           go_ret3
           exact ⟨_, er_, by first | exact Kd.R_nil _ _ _ _ _ | exact Kd.N_nil _ _ _ _ _ | exact Kd.V_nil _ _ _ _ _ | exact Kd.Q_nil _ _ _ _ _ | exact Kd.S_nil _ _ _ _ _, hb_⟩
          ·rw [if_neg c8] at H
           have c8b0 : decide ((rd l0 x26_2) < 0) = false := decide_eq_false c8
           clear c8
           by_cases c9 : (rd l0 x26_2) > 2047
           ·rw [if_pos c9] at H
            have c9b0 : decide (2047 < (rd l0 x26_2)) = true := decide_eq_true c9
            clear c9
            simp only [Option.some.injEq, Prod.mk.injEq] at H
            obtain ⟨rfl, rfl, rfl⟩ := H
            have p101 : 0 ≤ (x26_2 : Int) := of_decide_eq_true as_
            have q101 : x26_2 < (l0.length : Int) := of_decide_eq_true as_
            obtain ⟨ad101, e101, hx101_0⟩ := Kd.at_int HR0.out x26_2 p101 q101
            cases e101
            replace hx101_0 := hc_ HB hx101_0
            replace p101 := eq_true p101
            replace q101 := eq_true q101
            go_wp2
            go_ret3
            exact ⟨_, er_, by first | exact Kd.R_nil _ _ _ _ _ | exact Kd.N_nil _ _ _ _ _ | exact Kd.V_nil _ _ _ _ _ | exact Kd.Q_nil _ _ _ _ _ | exact Kd.S_nil _ _ _ _ _, hb_⟩
           ·rw [if_neg c9] at H
            have c9b0 : decide (2047 < (rd l0 x26_2)) = false := decide_eq_false c9
            clear c9
            have H' := Aside0.mk H
            clear H
            have p101 : 0 ≤ (x26_2 : Int) := of_decide_eq_true as_
            have q101 : x26_2 < (l0.length : Int) := of_decide_eq_true as_
            obtain ⟨ad101, e101, hx101_0⟩ := Kd.at_int HR0.out x26_2 p101 q101
            cases e101
            replace hx101_0 := hc_ HB hx101_0
            replace p101 := eq_true p101
            replace q101 := eq_true q101
            go_wp2
            go_roundg k2
            case measure => have := HJ1.out; have := HK2.out; omega
            case rel => exact ⟨(wrap64 (x26_2 + 1)), es_, H', ⟨by have := HJ1.out; have := HK2.out; omega⟩, ⟨hb_⟩⟩
         ·rw [if_neg c7] at H
          exact absurd H (by simp)
        ·rw [if_neg c6] at H
         exact absurd H (by simp)
       ·rw [if_neg c5] at H
        have c5b0 : decide (x26_2 < (l0.length : Int)) = false := decide_eq_false c5
        clear c5
        by_cases c10 : 0 ≤ (l0.length : Int)
        ·rw [if_pos c10] at H
         have c10b0 := eq_true c10
         have c10b1 : decide (0 ≤ (l0.length : Int)) = true := decide_eq_true c10
         clear c10
         by_cases c11 : ((l0.length : Int) : Int).toNat ≤ 35184372088832
         ·rw [if_pos c11] at H
          have c11b0 := eq_true c11
          have c11b1 : decide (((l0.length : Int) : Int).toNat ≤ 35184372088832) = true := decide_eq_true c11
          clear c11
          obtain ⟨y102, hy102⟩ : ∃ y_ : List Int, y_ = (List.replicate ((l0.length : Int) : Int).toNat 0) := ⟨_, rfl⟩
          replace H : (spec_Arbitrate.l1 k2 l0 y102 (y102.length : Int) 0) = some (r1, r2, r3) := by first | (rw [hy102]; with_reducible exact H) | (have H2_ := (Option.bind_some _ _).symm.trans H; rw [hy102]; with_reducible exact H2_) | (have H2_ := (Option.bind_some _ _).symm.trans H; with_reducible exact H2_) | with_reducible exact H | (rw [hy102]; exact H) | exact H
          have Ny102 := Aside0.mk hy102
          clear hy102
          have H' := Aside0.mk H
          clear H
          go_wp2_with (first | ((with_reducible refine gate_dst (N := 39) rfl ?_); (try (refine gate_guard (by rfl) ?_; dsimp only)); refine Kd.R_make (Kd.int .i64) _ 3 rfl (N := 39) rfl 31 _ _ rfl (l0.length : Int) rfl rfl Try.underlying31 (.int .i64 0) 8 info3 rfl (by decide) (by omega) 0 (ok := fun _ => True) (okp := fun _ => True) rfl (fun _ hk => hk) trivial (of_decide_eq_true as_) (Nat.le_trans (Nat.mul_le_mul_right _ (of_decide_eq_true as_ : (l0.length : Int).toNat ≤ 35184372088832)) (by omega)) (Below.refl _ _) (Nat.le_refl _) ?_; intro v103 w12 ho13 hb hg_ hnew_; clear hg_ hnew_; (first | rw [← Ny102.out] at ho13 | (simp only [Int.reduceToNat] at ho13; rw [← Ny102.out] at ho13)); have n0_ := Aside0.mk (Kd.R_lower ho13 (below_size hb_)); have n1_ := Aside0.mk (below_step hb_ hb); clear HB; have HO104 := n0_; have HB := n1_; clear n0_ n1_; clear hb ho13; obtain ⟨Ao14, co14, eo14⟩ := Kd.R_slice HO104.out; subst eo14))
          go_loopg [42] k2 (fun kq v42 w' => ∃ (x7_3 : List Int) (x42_3 : Int), v42 = .int .i64 x42_3 ∧ Aside0 (spec_Arbitrate.l1 kq l0 x7_3 (y102.length : Int) x42_3 = some (r1, r2, r3)) ∧ Aside0 (kq ≤ k2) ∧ Aside0 (Kd.R (Kd.int .i64) 3 w' w.heap.size (fun _ => True) (.slice Ao14 y102.length co14) x7_3) ∧ Aside0 (Below w.heap.size w w'))
          case atStart => exact ⟨(y102), (0), es_, H', ⟨Nat.le_refl _⟩, ⟨ra_ HO104.out⟩, ⟨hb_⟩⟩
          case round =>
           clear H'
           try clear c1
           try clear p1
           try clear q1
           try clear hx1
           try clear p2
           try clear c3
           try clear c3b0
           try clear c3b1
           try clear c4
           try clear c5
           try clear c5b0
           try clear c6
           try clear c6b0
           try clear p6
           try clear c7
           try clear c7b0
           try clear c8
           try clear c8b0
           try clear c9
           try clear c9b0
           try clear c10
           try clear c10b0
           try clear c10b1
           try clear p10
           try clear q10
           try clear hx10
           try clear c11
           try clear c11b0
           try clear c11b1
           try clear c13
           try clear hx101_0
           try clear p101
           try clear p2
           try clear q101
           obtain ⟨x7_3, x42_3, rfl, HA, HK3, HO_7, HB⟩ := hrel
           have hl7_3 := (Kd.R_reads' HO_7.out).1
           rw [hl7_3] at HO_7
           (try simp only [hl7_3])
           cases gk with
           | zero => exact absurd HA.out (by simp [spec_Arbitrate.l1])
           | succ k3 =>
            have H := HA.out
            clear HA
            simp only [spec_Arbitrate.l1] at H
            by_cases c15 : x42_3 < (y102.length : Int)
            ·rw [if_pos c15] at H
             have c15b0 : decide (x42_3 < (y102.length : Int)) = true := decide_eq_true c15
             (try simp only [hl7_3] at c15b0)
             clear c15
             by_cases c16 : 0 ≤ x42_3
             ·rw [if_pos c16] at H
              have c16b0 : decide (0 ≤ x42_3) = true := decide_eq_true c16
              clear c16
              by_cases c17 : x42_3 < (x7_3.length : Int)
              ·rw [if_pos c17] at H
               have c17b0 : decide (x42_3 < (x7_3.length : Int)) = true := decide_eq_true c17
               (try simp only [hl7_3] at c17b0)
               clear c17
               obtain ⟨y105, hy105⟩ : ∃ y_ : List Int, y_ = (x7_3.set (x42_3 : Int).toNat (-1)) := ⟨_, rfl⟩
               replace H : (spec_Arbitrate.l1 k3 l0 y105 (y102.length : Int) (wrap64 (x42_3 + 1))) = some (r1, r2, r3) := by first | (rw [hy105]; with_reducible exact H) | (have H2_ := (Option.bind_some _ _).symm.trans H; rw [hy105]; with_reducible exact H2_) | (have H2_ := (Option.bind_some _ _).symm.trans H; with_reducible exact H2_) | with_reducible exact H | (rw [hy105]; exact H) | exact H
               have Ny105 := Aside0.mk hy105
               clear hy105
               have H' := Aside0.mk H
               clear H
               have p18 : 0 ≤ (x42_3 : Int) := of_decide_eq_true as_
               have q18 : (x42_3 : Int) < ((x7_3.length : Int) : Int) := of_decide_eq_true as_
               obtain ⟨go18, co18, eo18, gb18, gl18, cl18, HG18⟩ := Kd.R_form HO_7.out (by omega)
               (first | cases eo18 | (injection eo18 with ea_ en_ ec_; (first | subst ea_ | (injection ea_ with ea_; subst ea_)); subst ec_; clear en_))
               have GB18 := Aside0.mk gb18
               have GG18 := Aside0.mk HG18
               clear gb18 gl18 HG18
               obtain ⟨hx18_0, hf18_0⟩ := Kd.R_celln 0 HO_7.out (x42_3 : Int) p18 q18
               replace p18 := eq_true p18
               replace q18 := eq_true q18
               have HP19 := Kd.R_putg HO_7.out (x42_3 : Int) (-1)
               go_wp2_with (first | ((with_reducible refine gate_store (t := 3) (p := 47) rfl ?_); refine store_event (t := 3) (p := 47) (v := ?vo_w20) (w1 := (wr.setCell ⟨go18, (x42_3 : Int).toNat, none⟩ (.int .i64 (-1)))) ?hg ?ho ?hn ?hr ?_; (case ho => rfl); (case hg => rfl); (case hn => rfl); (case hr => first | (go_simp; done) | (go_simp; rfl)); intro w20 hw; have hg : wr.grownBy w20 (some go18) := (by rw [hw]; exact HP19.2); have hp_ : Kd.R (Kd.int .i64) 3 w20 w.heap.size (fun _ => True) (.slice (some ⟨go18, 0, none⟩) x7_3.length co14) y105 := (by rw [hw, Ny105.out]; exact HP19.1); clear HP19; have n0_ := Aside0.mk (hp_); have n1_ := Aside0.mk ((by rw [hw]; exact below_set (HB.out) GB18.out : Below w.heap.size w w20)); clear HO_7; clear HB; have HO_7 := n0_; have HB := n1_; clear n0_ n1_; clear hg hw hp_))
               (try simp only [← hl7_3])
               go_roundg k3
               case measure => have := HJ1.out; have := HK2.out; have := HK3.out; omega
               case rel => exact ⟨(y105), (wrap64 (x42_3 + 1)), es_, H', ⟨by have := HJ1.out; have := HK2.out; have := HK3.out; omega⟩, ⟨by (try simp only [hl7_3]); (with_reducible repeat (first | apply Kd.R_alloc | apply Kd.R_drewN | apply Kd.R_drew)); exact HO_7.out⟩, ⟨hb_⟩⟩
              ·rw [if_neg c17] at H
               exact absurd H (by simp)
             ·rw [if_neg c16] at H
              exact absurd H (by simp)
            ·rw [if_neg c15] at H
             have c15b0 : decide (x42_3 < (y102.length : Int)) = false := decide_eq_false c15
             (try simp only [hl7_3] at c15b0)
             clear c15
             have H' := Aside0.mk H
             clear H
             go_wp2
             go_loopg [9] k3 (fun kq v9 w' => ∃ (x7_4 : List Int) (x9_4 : Int), v9 = .int .i64 x9_4 ∧ Aside0 (spec_Arbitrate.l2 kq l0 x7_4 x9_4 = some (r1, r2, r3)) ∧ Aside0 (kq ≤ k3) ∧ Aside0 (Kd.R (Kd.int .i64) 3 w' w.heap.size (fun _ => True) (.slice Ao14 x7_3.length co14) x7_4) ∧ Aside0 (Below w.heap.size w w'))
             case atStart => exact ⟨(x7_3), (0), es_, H', ⟨Nat.le_refl _⟩, ⟨by (try simp only [hl7_3]); (with_reducible repeat (first | apply Kd.R_alloc | apply Kd.R_drewN | apply Kd.R_drew)); exact HO_7.out⟩, ⟨hb_⟩⟩
             case round =>
              clear H'
              try clear c1
              try clear p1
              try clear q1
              try clear hx1
              try clear hf1
              try clear p2
              try clear c3
              try clear c3b0
              try clear c3b1
              try clear c4
              try clear c5
              try clear c5b0
              try clear c6
              try clear c6b0
              try clear p6
              try clear c7
              try clear c7b0
              try clear c8
              try clear c8b0
              try clear c9
              try clear c9b0
              try clear c10
              try clear c10b0
              try clear c10b1
              try clear p10
              try clear q10
              try clear hx10
              try clear c11
              try clear c11b0
              try clear c11b1
              try clear c13
              try clear c15
              try clear c15b0
              try clear c16
              try clear c16b0
              try clear c17
              try clear c17b0
              try clear p18
              try clear q18
              try clear hx18
              try clear hf18
              try clear hx101_0
              try clear hx18_0
              try clear p1
              try clear p10
              try clear p101
              try clear p18
              try clear p2
              try clear p6
              try clear q1
              try clear q10
              try clear q101
              try clear q18
              obtain ⟨x7_4, x9_4, rfl, HA, HK4, HO_7, HB⟩ := hrel
              have hl7_4 := (Kd.R_reads' HO_7.out).1
              rw [hl7_4] at HO_7
              (try simp only [hl7_4])
              cases gk with
              | zero => exact absurd HA.out (by simp [spec_Arbitrate.l2])
              | succ k4 =>
               have H := HA.out
               clear HA
               simp only [spec_Arbitrate.l2] at H
               by_cases c21 : x9_4 < 11
               ·rw [if_pos c21] at H
                have c21b0 : decide (x9_4 < 11) = true := decide_eq_true c21
                clear c21
                have H' := Aside0.mk H
                clear H
                go_wp2
                go_loopg [10, 55] k4 (fun kq v10 v55 w' => ∃ (x10_5 : Bool) (x55_5 : Int), v10 = .bool x10_5 ∧ v55 = .int .i64 x55_5 ∧ Aside0 (spec_Arbitrate.l3 kq l0 x7_4 x9_4 x10_5 l0 (l0.length : Int) x55_5 = some (r1, r2, r3)) ∧ Aside0 (kq ≤ k4) ∧ Aside0 (Kd.R (Kd.int .i64) 3 w' w.heap.size (fun _ => True) (.slice Ao14 x7_4.length co14) x7_4) ∧ Aside0 (Below w.heap.size w w'))
                case atStart => exact ⟨(false), (0), es_, es_, H', ⟨Nat.le_refl _⟩, ⟨by (try simp only [hl7_3]); (try simp only [hl7_4]); (with_reducible repeat (first | apply Kd.R_alloc | apply Kd.R_drewN | apply Kd.R_drew)); exact HO_7.out⟩, ⟨hb_⟩⟩
                case round =>
                 clear H'
                 try clear c1
                 try clear p1
                 try clear q1
                 try clear hx1
                 try clear hf1
                 try clear c2
                 try clear p2
                 try clear c3
                 try clear c3b0
                 try clear c3b1
                 try clear c4
                 try clear c5
                 try clear c5b0
                 try clear c6
                 try clear c6b0
                 try clear p6
                 try clear c7
                 try clear c7b0
                 try clear c8
                 try clear c8b0
                 try clear c9
                 try clear c9b0
                 try clear c10
                 try clear c10b0
                 try clear c10b1
                 try clear p10
                 try clear q10
                 try clear hx10
                 try clear c11
                 try clear c11b0
                 try clear c11b1
                 try clear c13
                 try clear c15
                 try clear c15b0
                 try clear c16
                 try clear c16b0
                 try clear c17
                 try clear c17b0
                 try clear p18
                 try clear q18
                 try clear hx18
                 try clear hf18
                 try clear c21
                 try clear c21b0
                 try clear hx101_0
                 try clear hx18_0
                 try clear p1
                 try clear p10
                 try clear p101
                 try clear p18
                 try clear p2
                 try clear p6
                 try clear q1
                 try clear q10
                 try clear q101
                 try clear q18
                 obtain ⟨x10_5, x55_5, rfl, rfl, HA, HK5, HO_7, HB⟩ := hrel
                 cases gk with
                 | zero => exact absurd HA.out (by simp [spec_Arbitrate.l3])
                 | succ k5 =>
                  have H := HA.out
                  clear HA
                  simp only [spec_Arbitrate.l3] at H
                  by_cases c22 : x55_5 < (l0.length : Int)
                  ·rw [if_pos c22] at H
                   have c22b0 : decide (x55_5 < (l0.length : Int)) = true := decide_eq_true c22
                   (try simp only [hl7_3] at c22b0)
                   (try simp only [hl7_4] at c22b0)
                   clear c22
                   by_cases c23 : 0 ≤ x55_5
                   ·rw [if_pos c23] at H
                    have c23b0 : decide (0 ≤ x55_5) = true := decide_eq_true c23
                    clear c23
                    by_cases c24 : x55_5 < (l0.length : Int)
                    ·rw [if_pos c24] at H
                     have c24b0 : decide (x55_5 < (l0.length : Int)) = true := decide_eq_true c24
                     (try simp only [hl7_3] at c24b0)
                     (try simp only [hl7_4] at c24b0)
                     clear c24
                     by_cases c25 : x10_5 = true
                     ·subst c25
                      rw [if_pos rfl] at H
                      have H' := Aside0.mk H
                      clear H
                      have p106 : 0 ≤ (x55_5 : Int) := of_decide_eq_true as_
                      have q106 : x55_5 < (l0.length : Int) := of_decide_eq_true as_
                      obtain ⟨ad106, e106, hx106_0⟩ := Kd.at_int HR0.out x55_5 p106 q106
                      cases e106
                      replace hx106_0 := hc_ HB hx106_0
                      replace p106 := eq_true p106
                      replace q106 := eq_true q106
                      go_wp2
                      go_roundg k5
                      case measure => have := HJ1.out; have := HK2.out; have := HK3.out; have := HK4.out; have := HK5.out; omega
                      case rel => exact ⟨(true), (wrap64 (x55_5 + 1)), es_, es_, H', ⟨by have := HJ1.out; have := HK2.out; have := HK3.out; have := HK4.out; have := HK5.out; omega⟩, ⟨by (try simp only [hl7_3]); (try simp only [hl7_4]); (with_reducible repeat (first | apply Kd.R_alloc | apply Kd.R_drewN | apply Kd.R_drew)); exact HO_7.out⟩, ⟨hb_⟩⟩
                     ·replace c25 := Bool.eq_false_iff.mpr c25
                      subst c25
                      rw [if_neg (show ¬ (false = true) by decide)] at H
                      by_cases c26 : x55_5 < (x7_4.length : Int)
                      ·rw [if_pos c26] at H
                       have c26b0 : decide (x55_5 < (x7_4.length : Int)) = true := decide_eq_true c26
                       (try simp only [hl7_3] at c26b0)
                       (try simp only [hl7_4] at c26b0)
                       clear c26
                       by_cases c27 : (rd x7_4 x55_5) < 0
                       ·rw [if_pos c27] at H
                        have c27b0 : decide ((rd x7_4 x55_5) < 0) = true := decide_eq_true c27
                        clear c27
                        obtain ⟨ji28, hji28⟩ : ∃ j_ : Int, (IntKind.u64.wrap (wrap64 (10 - x9_4))) = j_ := ⟨_, rfl⟩
                        replace H : (if 0 ≤ (ji28) then (spec_Arbitrate.l3 k5 l0 x7_4 x9_4 ((Go.bits .and .i64 (shr .i64 (rd l0 x55_5) (ji28)) 1) == 0) l0 (l0.length : Int) (wrap64 (x55_5 + 1))) else (none)) = some (r1, r2, r3) := by first | (rw [hji28] at H; exact H) | (simp only [hji28] at H ⊢; exact H)
                        by_cases c29 : 0 ≤ (ji28)
                        ·rw [if_pos c29] at H
                         have c29b0 := eq_true c29
                         have c29b1 : decide (0 ≤ (ji28)) = true := decide_eq_true c29
                         clear c29
                         obtain ⟨ji30, hji30⟩ : ∃ j_ : Int, (shr .i64 (rd l0 x55_5) (ji28)) = j_ := ⟨_, rfl⟩
                         replace H : (spec_Arbitrate.l3 k5 l0 x7_4 x9_4 ((Go.bits .and .i64 (ji30) 1) == 0) l0 (l0.length : Int) (wrap64 (x55_5 + 1))) = some (r1, r2, r3) := by first | (rw [hji30] at H; exact H) | (simp only [hji30] at H ⊢; exact H)
                         have hji30_ : ((rd l0 x55_5) / 2 ^ min (ji28).toNat 64) = ji30 := hji30
                         have hji30z : (ji28) ≤ 64 → ((rd l0 x55_5) / 2 ^ (ji28).toNat) = ji30 := shr_small hji30
                         have H' := Aside0.mk H
                         clear H
                         have p106 : 0 ≤ (x55_5 : Int) := of_decide_eq_true as_
                         have q106 : x55_5 < (l0.length : Int) := of_decide_eq_true as_
                         obtain ⟨ad106, e106, hx106_0⟩ := Kd.at_int HR0.out x55_5 p106 q106
                         cases e106
                         replace hx106_0 := hc_ HB hx106_0
                         replace p106 := eq_true p106
                         replace q106 := eq_true q106
                         have p107 : 0 ≤ (x55_5 : Int) := of_decide_eq_true as_
                         have q107 : x55_5 < (x7_4.length : Int) := of_decide_eq_true as_
                         obtain ⟨ad107, e107, hx107_0⟩ := Kd.at_int (Kd.R_reads' HO_7.out).2.2 x55_5 p107 q107
                         cases e107
                         replace p107 := eq_true p107
                         replace q107 := eq_true q107
                         go_wp2
                         go_roundg k5
                         case measure => have := HJ1.out; have := HK2.out; have := HK3.out; have := HK4.out; have := HK5.out; omega
                         case rel => exact ⟨(((Go.bits .and .i64 (ji30) 1) == 0)), (wrap64 (x55_5 + 1)), (by first | rfl | (simp; done) | (simp only [← hji30] <;> (first | rfl | simp)) | (simp [*]; done)), es_, H', ⟨by have := HJ1.out; have := HK2.out; have := HK3.out; have := HK4.out; have := HK5.out; omega⟩, ⟨by (try simp only [hl7_3]); (try simp only [hl7_4]); (with_reducible repeat (first | apply Kd.R_alloc | apply Kd.R_drewN | apply Kd.R_drew)); exact HO_7.out⟩, ⟨hb_⟩⟩
                        ·rw [if_neg c29] at H
                         exact absurd H (by simp)
                       ·rw [if_neg c27] at H
                        have c27b0 : decide ((rd x7_4 x55_5) < 0) = false := decide_eq_false c27
                        clear c27
                        have H' := Aside0.mk H
                        clear H
                        have p106 : 0 ≤ (x55_5 : Int) := of_decide_eq_true as_
                        have q106 : x55_5 < (l0.length : Int) := of_decide_eq_true as_
                        obtain ⟨ad106, e106, hx106_0⟩ := Kd.at_int HR0.out x55_5 p106 q106
                        cases e106
                        replace hx106_0 := hc_ HB hx106_0
                        replace p106 := eq_true p106
                        replace q106 := eq_true q106
                        have p107 : 0 ≤ (x55_5 : Int) := of_decide_eq_true as_
                        have q107 : x55_5 < (x7_4.length : Int) := of_decide_eq_true as_
                        obtain ⟨ad107, e107, hx107_0⟩ := Kd.at_int (Kd.R_reads' HO_7.out).2.2 x55_5 p107 q107
                        cases e107
                        replace p107 := eq_true p107
                        replace q107 := eq_true q107
                        go_wp2
                        go_roundg k5
                        case measure => have := HJ1.out; have := HK2.out; have := HK3.out; have := HK4.out; have := HK5.out; omega
                        case rel => exact ⟨(false), (wrap64 (x55_5 + 1)), es_, es_, H', ⟨by have := HJ1.out; have := HK2.out; have := HK3.out; have := HK4.out; have := HK5.out; omega⟩, ⟨by (try simp only [hl7_3]); (try simp only [hl7_4]); (with_reducible repeat (first | apply Kd.R_alloc | apply Kd.R_drewN | apply Kd.R_drew)); exact HO_7.out⟩, ⟨hb_⟩⟩
                      ·rw [if_neg c26] at H
                       exact absurd H (by simp)
                    ·rw [if_neg c24] at H
                     exact absurd H (by simp)
                   ·rw [if_neg c23] at H
                    exact absurd H (by simp)
                  ·rw [if_neg c22] at H
                   have c22b0 : decide (x55_5 < (l0.length : Int)) = false := decide_eq_false c22
                   (try simp only [hl7_3] at c22b0)
                   (try simp only [hl7_4] at c22b0)
                   clear c22
                   have H' := Aside0.mk H
                   clear H
                   go_wp2
                   go_loopg [80] k5 (fun kq v80 w' => ∃ (x7_6 : List Int) (x80_6 : Int), v80 = .int .i64 x80_6 ∧ Aside0 (spec_Arbitrate.l4 kq l0 x7_6 x9_4 x10_5 l0 (l0.length : Int) x80_6 = some (r1, r2, r3)) ∧ Aside0 (kq ≤ k5) ∧ Aside0 (Kd.R (Kd.int .i64) 3 w' w.heap.size (fun _ => True) (.slice Ao14 x7_4.length co14) x7_6) ∧ Aside0 (Below w.heap.size w w'))
                   case atStart => exact ⟨(x7_4), (0), es_, H', ⟨Nat.le_refl _⟩, ⟨by (try simp only [hl7_3]); (try simp only [hl7_4]); (with_reducible repeat (first | apply Kd.R_alloc | apply Kd.R_drewN | apply Kd.R_drew)); exact HO_7.out⟩, ⟨hb_⟩⟩
                   case round =>
                    clear H'
                    try clear c1
                    try clear p1
                    try clear q1
                    try clear hx1
                    try clear hf1
                    try clear c2
                    try clear p2
                    try clear c3
                    try clear c3b0
                    try clear c3b1
                    try clear c4
                    try clear c5
                    try clear c5b0
                    try clear c6
                    try clear c6b0
                    try clear p6
                    try clear c7
                    try clear c7b0
                    try clear c8
                    try clear c8b0
                    try clear c9
                    try clear c9b0
                    try clear c10
                    try clear c10b0
                    try clear c10b1
                    try clear p10
                    try clear q10
                    try clear hx10
                    try clear c11
                    try clear c11b0
                    try clear c11b1
                    try clear c13
                    try clear c15
                    try clear c15b0
                    try clear c16
                    try clear c16b0
                    try clear c17
                    try clear c17b0
                    try clear p18
                    try clear q18
                    try clear hx18
                    try clear hf18
                    try clear c21
                    try clear c21b0
                    try clear c22
                    try clear c22b0
                    try clear c23
                    try clear c23b0
                    try clear c24
                    try clear c24b0
                    try clear c25
                    try clear c26
                    try clear c26b0
                    try clear c27
                    try clear c27b0
                    try clear c29
                    try clear c29b0
                    try clear c29b1
                    try clear hx101_0
                    try clear hx106_0
                    try clear hx107_0
                    try clear hx18_0
                    try clear p1
                    try clear p10
                    try clear p101
                    try clear p106
                    try clear p107
                    try clear p18
                    try clear p2
                    try clear p6
                    try clear q1
                    try clear q10
                    try clear q101
                    try clear q106
                    try clear q107
                    try clear q18
                    obtain ⟨x7_6, x80_6, rfl, HA, HK6, HO_7, HB⟩ := hrel
                    have hl7_6 := (Kd.R_reads' HO_7.out).1
                    rw [hl7_6] at HO_7
                    (try simp only [hl7_6])
                    cases gk with
                    | zero => exact absurd HA.out (by simp [spec_Arbitrate.l4])
                    | succ k6 =>
                     have H := HA.out
                     clear HA
                     simp only [spec_Arbitrate.l4] at H
                     by_cases c31 : x80_6 < (l0.length : Int)
                     ·rw [if_pos c31] at H
                      have c31b0 : decide (x80_6 < (l0.length : Int)) = true := decide_eq_true c31
                      (try simp only [hl7_3] at c31b0)
                      (try simp only [hl7_4] at c31b0)
                      (try simp only [hl7_6] at c31b0)
                      clear c31
                      by_cases c32 : 0 ≤ x80_6
                      ·rw [if_pos c32] at H
                       have c32b0 : decide (0 ≤ x80_6) = true := decide_eq_true c32
                       clear c32
                       by_cases c33 : x80_6 < (l0.length : Int)
                       ·rw [if_pos c33] at H
                        have c33b0 : decide (x80_6 < (l0.length : Int)) = true := decide_eq_true c33
                        (try simp only [hl7_3] at c33b0)
                        (try simp only [hl7_4] at c33b0)
                        (try simp only [hl7_6] at c33b0)
                        clear c33
                        by_cases c34 : x10_5 = true
                        ·subst c34
                         rw [if_pos rfl] at H
                         by_cases c35 : x80_6 < (x7_6.length : Int)
                         ·rw [if_pos c35] at H
                          have c35b0 : decide (x80_6 < (x7_6.length : Int)) = true := decide_eq_true c35
                          (try simp only [hl7_3] at c35b0)
                          (try simp only [hl7_4] at c35b0)
                          (try simp only [hl7_6] at c35b0)
                          clear c35
                          by_cases c36 : (rd x7_6 x80_6) < 0
                          ·rw [if_pos c36] at H
                           have c36b0 : decide ((rd x7_6 x80_6) < 0) = true := decide_eq_true c36
                           clear c36
                           obtain ⟨ji37, hji37⟩ : ∃ j_ : Int, (IntKind.u64.wrap (wrap64 (10 - x9_4))) = j_ := ⟨_, rfl⟩
                           replace H : (if 0 ≤ (ji37) then (if (Go.bits .and .i64 (shr .i64 (rd l0 x80_6) (ji37)) 1) = 1 then (spec_Arbitrate.l4 k6 l0 (x7_6.set (x80_6 : Int).toNat x9_4) x9_4 true l0 (l0.length : Int) (wrap64 (x80_6 + 1))) else (spec_Arbitrate.l4 k6 l0 x7_6 x9_4 true l0 (l0.length : Int) (wrap64 (x80_6 + 1)))) else (none)) = some (r1, r2, r3) := by first | (rw [hji37] at H; exact H) | (simp only [hji37] at H ⊢; exact H)
                           by_cases c38 : 0 ≤ (ji37)
                           ·rw [if_pos c38] at H
                            have c38b0 := eq_true c38
                            have c38b1 : decide (0 ≤ (ji37)) = true := decide_eq_true c38
                            clear c38
                            obtain ⟨ji39, hji39⟩ : ∃ j_ : Int, (shr .i64 (rd l0 x80_6) (ji37)) = j_ := ⟨_, rfl⟩
                            replace H : (if (Go.bits .and .i64 (ji39) 1) = 1 then (spec_Arbitrate.l4 k6 l0 (x7_6.set (x80_6 : Int).toNat x9_4) x9_4 true l0 (l0.length : Int) (wrap64 (x80_6 + 1))) else (spec_Arbitrate.l4 k6 l0 x7_6 x9_4 true l0 (l0.length : Int) (wrap64 (x80_6 + 1)))) = some (r1, r2, r3) := by first | (rw [hji39] at H; exact H) | (simp only [hji39] at H ⊢; exact H)
                            have hji39_ : ((rd l0 x80_6) / 2 ^ min (ji37).toNat 64) = ji39 := hji39
                            have hji39z : (ji37) ≤ 64 → ((rd l0 x80_6) / 2 ^ (ji37).toNat) = ji39 := shr_small hji39
                            by_cases c40 : (Go.bits .and .i64 (ji39) 1) = 1
                            ·rw [if_pos c40] at H
                             have c40b0 : ((Go.bits .and .i64 (ji39) 1) == 1) = true := beq_iff_eq.mpr c40
                             have c40b1 : ((Go.bits .and .i64 (ji39) 1) != 1) = false := bne_eq_false_iff_eq.mpr c40
                             clear c40
                             obtain ⟨y110, hy110⟩ : ∃ y_ : List Int, y_ = (x7_6.set (x80_6 : Int).toNat x9_4) := ⟨_, rfl⟩
                             replace H : (spec_Arbitrate.l4 k6 l0 y110 x9_4 true l0 (l0.length : Int) (wrap64 (x80_6 + 1))) = some (r1, r2, r3) := by first | (rw [hy110]; with_reducible exact H) | (have H2_ := (Option.bind_some _ _).symm.trans H; rw [hy110]; with_reducible exact H2_) | (have H2_ := (Option.bind_some _ _).symm.trans H; with_reducible exact H2_) | with_reducible exact H | (rw [hy110]; exact H) | exact H
                             have Ny110 := Aside0.mk hy110
                             clear hy110
                             have H' := Aside0.mk H
                             clear H
                             have p108 : 0 ≤ (x80_6 : Int) := of_decide_eq_true as_
                             have q108 : x80_6 < (l0.length : Int) := of_decide_eq_true as_
                             obtain ⟨ad108, e108, hx108_0⟩ := Kd.at_int HR0.out x80_6 p108 q108
                             cases e108
                             replace hx108_0 := hc_ HB hx108_0
                             replace p108 := eq_true p108
                             replace q108 := eq_true q108
                             have p109 : 0 ≤ (x80_6 : Int) := of_decide_eq_true as_
                             have q109 : x80_6 < (x7_6.length : Int) := of_decide_eq_true as_
                             obtain ⟨ad109, e109, hx109_0⟩ := Kd.at_int (Kd.R_reads' HO_7.out).2.2 x80_6 p109 q109
                             cases e109
                             replace p109 := eq_true p109
                             replace q109 := eq_true q109
                             have p41 : 0 ≤ (x80_6 : Int) := of_decide_eq_true as_
                             have q41 : (x80_6 : Int) < ((x7_6.length : Int) : Int) := of_decide_eq_true as_
                             obtain ⟨go41, co41, eo41, gb41, gl41, cl41, HG41⟩ := Kd.R_form HO_7.out (by omega)
                             (first | cases eo41 | (injection eo41 with ea_ en_ ec_; (first | subst ea_ | (injection ea_ with ea_; subst ea_)); subst ec_; clear en_))
                             have GB41 := Aside0.mk gb41
                             have GG41 := Aside0.mk HG41
                             clear gb41 gl41 HG41
                             (first | simp only [add_plain] at hx109_0 | skip)
                             obtain ⟨hx41_0, hf41_0⟩ := Kd.R_celln 0 HO_7.out (x80_6 : Int) p41 q41
                             replace p41 := eq_true p41
                             replace q41 := eq_true q41
                             have HP42 := Kd.R_putg HO_7.out (x80_6 : Int) x9_4
                             go_wp2_with (first | ((with_reducible refine gate_store (t := 3) (p := 105) rfl ?_); refine store_event (t := 3) (p := 105) (v := ?vo_w43) (w1 := (wr.setCell ⟨go41, (x80_6 : Int).toNat, none⟩ (.int .i64 x9_4))) ?hg ?ho ?hn ?hr ?_; (case ho => rfl); (case hg => rfl); (case hn => rfl); (case hr => first | (go_simp; done) | (go_simp; rfl)); intro w43 hw; have hg : wr.grownBy w43 (some go41) := (by rw [hw]; exact HP42.2); have hp_ : Kd.R (Kd.int .i64) 3 w43 w.heap.size (fun _ => True) (.slice (some ⟨go41, 0, none⟩) x7_6.length co14) y110 := (by rw [hw, Ny110.out]; exact HP42.1); clear HP42; have n0_ := Aside0.mk (hp_); have n1_ := Aside0.mk ((by rw [hw]; exact below_set (HB.out) GB41.out : Below w.heap.size w w43)); clear HO_7; clear HB; have HO_7 := n0_; have HB := n1_; clear n0_ n1_; clear hg hw hp_))
                             (try simp only [← hl7_6])
                             go_roundg k6
                             case measure => have := HJ1.out; have := HK2.out; have := HK3.out; have := HK4.out; have := HK5.out; have := HK6.out; omega
                             case rel => exact ⟨(y110), (wrap64 (x80_6 + 1)), es_, H', ⟨by have := HJ1.out; have := HK2.out; have := HK3.out; have := HK4.out; have := HK5.out; have := HK6.out; omega⟩, ⟨by (try simp only [hl7_3]); (try simp only [hl7_4]); (try simp only [hl7_6]); (with_reducible repeat (first | apply Kd.R_alloc | apply Kd.R_drewN | apply Kd.R_drew)); exact HO_7.out⟩, ⟨hb_⟩⟩
                            ·rw [if_neg c40] at H
                             have c40b0 : ((Go.bits .and .i64 (ji39) 1) == 1) = false := beq_eq_false_iff_ne.mpr c40
                             have c40b1 : ((Go.bits .and .i64 (ji39) 1) != 1) = true := bne_iff_ne.mpr c40
                             have H' := Aside0.mk H
                             clear H
                             have p108 : 0 ≤ (x80_6 : Int) := of_decide_eq_true as_
                             have q108 : x80_6 < (l0.length : Int) := of_decide_eq_true as_
                             obtain ⟨ad108, e108, hx108_0⟩ := Kd.at_int HR0.out x80_6 p108 q108
                             cases e108
                             replace hx108_0 := hc_ HB hx108_0
                             replace p108 := eq_true p108
                             replace q108 := eq_true q108
                             have p109 : 0 ≤ (x80_6 : Int) := of_decide_eq_true as_
                             have q109 : x80_6 < (x7_6.length : Int) := of_decide_eq_true as_
                             obtain ⟨ad109, e109, hx109_0⟩ := Kd.at_int (Kd.R_reads' HO_7.out).2.2 x80_6 p109 q109
                             cases e109
                             replace p109 := eq_true p109
                             replace q109 := eq_true q109
                             go_wp2
                             (try simp only [← hl7_6])
                             go_roundg k6
                             case measure => have := HJ1.out; have := HK2.out; have := HK3.out; have := HK4.out; have := HK5.out; have := HK6.out; omega
                             case rel => exact ⟨(x7_6), (wrap64 (x80_6 + 1)), es_, H', ⟨by have := HJ1.out; have := HK2.out; have := HK3.out; have := HK4.out; have := HK5.out; have := HK6.out; omega⟩, ⟨by (try simp only [hl7_3]); (try simp only [hl7_4]); (try simp only [hl7_6]); (with_reducible repeat (first | apply Kd.R_alloc | apply Kd.R_drewN | apply Kd.R_drew)); exact HO_7.out⟩, ⟨hb_⟩⟩
                           ·rw [if_neg c38] at H
                            exact absurd H (by simp)
                          ·rw [if_neg c36] at H
                           have c36b0 : decide ((rd x7_6 x80_6) < 0) = false := decide_eq_false c36
                           clear c36
                           have H' := Aside0.mk H
                           clear H
                           have p108 : 0 ≤ (x80_6 : Int) := of_decide_eq_true as_
                           have q108 : x80_6 < (l0.length : Int) := of_decide_eq_true as_
                           obtain ⟨ad108, e108, hx108_0⟩ := Kd.at_int HR0.out x80_6 p108 q108
                           cases e108
                           replace hx108_0 := hc_ HB hx108_0
                           replace p108 := eq_true p108
                           replace q108 := eq_true q108
                           have p109 : 0 ≤ (x80_6 : Int) := of_decide_eq_true as_
                           have q109 : x80_6 < (x7_6.length : Int) := of_decide_eq_true as_
                           obtain ⟨ad109, e109, hx109_0⟩ := Kd.at_int (Kd.R_reads' HO_7.out).2.2 x80_6 p109 q109
                           cases e109
                           replace p109 := eq_true p109
                           replace q109 := eq_true q109
                           go_wp2
                           (try simp only [← hl7_6])
                           go_roundg k6
                           case measure => have := HJ1.out; have := HK2.out; have := HK3.out; have := HK4.out; have := HK5.out; have := HK6.out; omega
                           case rel => exact ⟨(x7_6), (wrap64 (x80_6 + 1)), es_, H', ⟨by have := HJ1.out; have := HK2.out; have := HK3.out; have := HK4.out; have := HK5.out; have := HK6.out; omega⟩, ⟨by (try simp only [hl7_3]); (try simp only [hl7_4]); (try simp only [hl7_6]); (with_reducible repeat (first | apply Kd.R_alloc | apply Kd.R_drewN | apply Kd.R_drew)); exact HO_7.out⟩, ⟨hb_⟩⟩
                         ·rw [if_neg c35] at H
                          exact absurd H (by simp)
                        ·replace c34 := Bool.eq_false_iff.mpr c34
                         subst c34
                         rw [if_neg (show ¬ (false = true) by decide)] at H
                         have H' := Aside0.mk H
                         clear H
                         have p108 : 0 ≤ (x80_6 : Int) := of_decide_eq_true as_
                         have q108 : x80_6 < (l0.length : Int) := of_decide_eq_true as_
                         obtain ⟨ad108, e108, hx108_0⟩ := Kd.at_int HR0.out x80_6 p108 q108
                         cases e108
                         replace hx108_0 := hc_ HB hx108_0
                         replace p108 := eq_true p108
                         replace q108 := eq_true q108
                         go_wp2
                         (try simp only [← hl7_6])
                         go_roundg k6
                         case measure => have := HJ1.out; have := HK2.out; have := HK3.out; have := HK4.out; have := HK5.out; have := HK6.out; omega
                         case rel => exact ⟨(x7_6), (wrap64 (x80_6 + 1)), es_, H', ⟨by have := HJ1.out; have := HK2.out; have := HK3.out; have := HK4.out; have := HK5.out; have := HK6.out; omega⟩, ⟨by (try simp only [hl7_3]); (try simp only [hl7_4]); (try simp only [hl7_6]); (with_reducible repeat (first | apply Kd.R_alloc | apply Kd.R_drewN | apply Kd.R_drew)); exact HO_7.out⟩, ⟨hb_⟩⟩
                       ·rw [if_neg c33] at H
                        exact absurd H (by simp)
                      ·rw [if_neg c32] at H
                       exact absurd H (by simp)
                     ·rw [if_neg c31] at H
                      have c31b0 : decide (x80_6 < (l0.length : Int)) = false := decide_eq_false c31
                      (try simp only [hl7_3] at c31b0)
                      (try simp only [hl7_4] at c31b0)
                      (try simp only [hl7_6] at c31b0)
                      clear c31
                      have H' := Aside0.mk H
                      clear H
                      go_wp2
                      (try simp only [← hl7_4, ← hl7_6])
                      go_roundg k6
                      case measure => have := HJ1.out; have := HK2.out; have := HK3.out; have := HK4.out; have := HK5.out; have := HK6.out; omega
                      case rel => exact ⟨(x7_6), (wrap64 (x9_4 + 1)), es_, H', ⟨by have := HJ1.out; have := HK2.out; have := HK3.out; have := HK4.out; have := HK5.out; have := HK6.out; omega⟩, ⟨by (try simp only [hl7_3]); (try simp only [hl7_4]); (try simp only [hl7_6]); (with_reducible repeat (first | apply Kd.R_alloc | apply Kd.R_drewN | apply Kd.R_drew)); exact HO_7.out⟩, ⟨hb_⟩⟩
               ·rw [if_neg c21] at H
                have c21b0 : decide (x9_4 < 11) = false := decide_eq_false c21
                clear c21
                have H' := Aside0.mk H
                clear H
                go_wp2
                go_loopg [15] k4 (fun kq v15 w' => ∃ (x15_5 : Int), v15 = .int .i64 x15_5 ∧ Aside0 (spec_Arbitrate.l5 kq x7_4 x15_5 = some (r1, r2, r3)) ∧ Aside0 (kq ≤ k4) ∧ Aside0 (Kd.R (Kd.int .i64) 3 w' w.heap.size (fun _ => True) (.slice Ao14 x7_4.length co14) x7_4) ∧ Aside0 (Below w.heap.size w w'))
                case atStart => exact ⟨(0), es_, H', ⟨Nat.le_refl _⟩, ⟨by (try simp only [hl7_3]); (try simp only [hl7_4]); (with_reducible repeat (first | apply Kd.R_alloc | apply Kd.R_drewN | apply Kd.R_drew)); exact HO_7.out⟩, ⟨hb_⟩⟩
                case round =>
                 clear H'
                 try clear c1
                 try clear p1
                 try clear q1
                 try clear hx1
                 try clear hf1
                 try clear c2
                 try clear p2
                 try clear c3
                 try clear c3b0
                 try clear c3b1
                 try clear c4
                 try clear p4
                 try clear q4
                 try clear hx4
                 try clear hf4
                 try clear c5
                 try clear c5b0
                 try clear c6
                 try clear c6b0
                 try clear p6
                 try clear c7
                 try clear c7b0
                 try clear c8
                 try clear c8b0
                 try clear c9
                 try clear c9b0
                 try clear c10
                 try clear c10b0
                 try clear c10b1
                 try clear p10
                 try clear q10
                 try clear hx10
                 try clear c11
                 try clear c11b0
                 try clear c11b1
                 try clear c13
                 try clear c15
                 try clear c15b0
                 try clear c16
                 try clear c16b0
                 try clear c17
                 try clear c17b0
                 try clear p18
                 try clear q18
                 try clear hx18
                 try clear hf18
                 try clear c21
                 try clear c21b0
                 try clear c22
                 try clear c22b0
                 try clear c23
                 try clear c23b0
                 try clear c24
                 try clear c24b0
                 try clear c25
                 try clear c26
                 try clear c26b0
                 try clear c27
                 try clear c27b0
                 try clear c29
                 try clear c29b0
                 try clear c29b1
                 try clear c31
                 try clear c31b0
                 try clear c32
                 try clear c32b0
                 try clear c33
                 try clear c33b0
                 try clear c34
                 try clear c35
                 try clear c35b0
                 try clear c36
                 try clear c36b0
                 try clear c38
                 try clear c38b0
                 try clear c38b1
                 try clear c40
                 try clear c40b0
                 try clear c40b1
                 try clear p41
                 try clear q41
                 try clear hx41
                 try clear hf41
                 try clear hx101_0
                 try clear hx106_0
                 try clear hx107_0
                 try clear hx108_0
                 try clear hx109_0
                 try clear hx18_0
                 try clear hx41_0
                 try clear p1
                 try clear p10
                 try clear p101
                 try clear p106
                 try clear p107
                 try clear p108
                 try clear p109
                 try clear p18
                 try clear p2
                 try clear p41
                 try clear p6
                 try clear q1
                 try clear q10
                 try clear q101
                 try clear q106
                 try clear q107
                 try clear q108
                 try clear q109
                 try clear q18
                 try clear q41
                 obtain ⟨x15_5, rfl, HA, HK5, HO_7, HB⟩ := hrel
                 cases gk with
                 | zero => exact absurd HA.out (by simp [spec_Arbitrate.l5])
                 | succ k5 =>
                  have H := HA.out
                  clear HA
                  simp only [spec_Arbitrate.l5] at H
                  by_cases c44 : 0 ≤ x15_5
                  ·rw [if_pos c44] at H
                   have c44b0 : decide (0 ≤ x15_5) = true := decide_eq_true c44
                   clear c44
                   by_cases c45 : x15_5 < (x7_4.length : Int)
                   ·rw [if_pos c45] at H
                    have c45b0 : decide (x15_5 < (x7_4.length : Int)) = true := decide_eq_true c45
                    (try simp only [hl7_3] at c45b0)
                    (try simp only [hl7_4] at c45b0)
                    clear c45
                    by_cases c46 : (rd x7_4 x15_5) ≥ 0
                    ·rw [if_pos c46] at H
                     have c46b0 : decide (0 ≤ (rd x7_4 x15_5)) = true := decide_eq_true c46
                     clear c46
                     have H' := Aside0.mk H
                     clear H
                     have p111 : 0 ≤ (x15_5 : Int) := of_decide_eq_true as_
                     have q111 : x15_5 < (x7_4.length : Int) := of_decide_eq_true as_
                     obtain ⟨ad111, e111, hx111_0⟩ := Kd.at_int (Kd.R_reads' HO_7.out).2.2 x15_5 p111 q111
                     cases e111
                     replace p111 := eq_true p111
                     replace q111 := eq_true q111
                     go_wp2
                     go_roundg k5
                     case measure => have := HJ1.out; have := HK2.out; have := HK3.out; have := HK4.out; have := HK5.out; omega
                     case rel => exact ⟨(wrap64 (x15_5 + 1)), es_, H', ⟨by have := HJ1.out; have := HK2.out; have := HK3.out; have := HK4.out; have := HK5.out; omega⟩, ⟨by (try simp only [hl7_3]); (try simp only [hl7_4]); (with_reducible repeat (first | apply Kd.R_alloc | apply Kd.R_drewN | apply Kd.R_drew)); exact HO_7.out⟩, ⟨hb_⟩⟩
                    ·rw [if_neg c46] at H
                     have c46b0 : decide (0 ≤ (rd x7_4 x15_5)) = false := decide_eq_false c46
                     clear c46
                     simp only [Option.some.injEq, Prod.mk.injEq] at H
                     obtain ⟨rfl, rfl, rfl⟩ := H
                     have p111 : 0 ≤ (x15_5 : Int) := of_decide_eq_true as_
                     have q111 : x15_5 < (x7_4.length : Int) := of_decide_eq_true as_
                     obtain ⟨ad111, e111, hx111_0⟩ := Kd.at_int (Kd.R_reads' HO_7.out).2.2 x15_5 p111 q111
                     cases e111
                     replace p111 := eq_true p111
                     replace q111 := eq_true q111
                     go_wp2
                     go_ret3
                     exact ⟨_, er_, by (with_reducible repeat (first | apply Kd.R_alloc | apply Kd.R_drewN | apply Kd.R_drew)); exact HO_7.out, hb_⟩
                   ·rw [if_neg c45] at H
                    exact absurd H (by simp)
                  ·rw [if_neg c44] at H
                   exact absurd H (by simp)
         ·rw [if_neg c11] at H
          exact absurd H (by simp)
        ·rw [if_neg c10] at H
         exact absurd H (by simp)

end Go.Proofs.Ytbdonoeellmeoaa.Pr
