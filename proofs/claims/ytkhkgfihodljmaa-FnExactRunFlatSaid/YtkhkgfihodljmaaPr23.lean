-- Written by this session's own print (wip/tools/mkmp.py) out of the translation. Lean checks it.
import Derived.Test.YtkhkgfihodljmaaPr0
import Derived.Test.YtkhkgfihodljmaaPr22
import Derived.Test.YtkhkgfihodljmaaPrd1
namespace Go.Proofs.Ytkhkgfihodljmaa.Pr
open Go.RowKit Go.Proofs.YtkhkgfihodljmaaW.PrintWords Go.Proofs.YtkhkgfihodljmaaW.PrintLast Go.Proofs.YtkhkgfihodljmaaW.PrintMore
attribute [local go_sem] max2_int min2_int max_two min_two max_three min_three max_four min_four   -- for this text's walks alone
set_option linter.unusedVariables false
set_option linter.unusedSimpArgs false

set_option maxHeartbeats 8000000 in
set_option maxRecDepth 100000 in
theorem spec_RunFlat.calls (k : Nat) (A0 : Option Addr) (c0 : Nat) (l0 : List (List Int)) (a1 : Int) (A2 : Option Addr) (c2 : Nat) (l2 : List Int) (r1 : List Int) (r2 : Bool) (w : World) (hr0 : Kd.C (Kd.slice 3 (Kd.int .i64)) w A0 l0.length l0) (hc0 : l0.length ≤ c0) (hr2 : Kd.C (Kd.int .i64) w A2 l2.length l2) (hc2 : l2.length ≤ c2) (h : spec_RunFlat.f k l0 a1 l2 = some (r1, r2)) :
   Calls Try.prog 22 #[.slice A0 l0.length c0, .int .i64 a1, .slice A2 l2.length c2] w fun e w' => ∃ v0_ : Value, e = .returned (.tuple #[v0_, .bool r2]) ∧ Kd.R (Kd.int .i64) 3 w' w.heap.size (fun _ => True) v0_ r1 ∧ Below w.heap.size w w' := by
  have HR0 := Aside0.mk hr0
  have HC0 := Aside0.mk hc0
  clear hr0 hc0
  have HR2 := Aside0.mk hr2
  have HC2 := Aside0.mk hc2
  clear hr2 hc2
  have HB := Aside0.mk (Below.refl w.heap.size w)
  have H : (if (l0.length : Int) > 12 then (spec_RunFlat.j0 k l0 a1 l2 true) else ((spec_l21Events.f k l2).bind fun t390 => (if t390 = true then (if a1 < 0 then (spec_RunFlat.j0 k l0 a1 l2 true) else (if a1 ≥ (l0.length : Int) then (spec_RunFlat.j0 k l0 a1 l2 true) else (if 0 ≤ a1 then (if a1 < (l0.length : Int) then (spec_RunFlat.j0 k l0 a1 l2 (((rd_L2 l0 a1).length : Int) == 0)) else (none)) else (none)))) else (spec_RunFlat.j0 k l0 a1 l2 true)))) = some (r1, r2) := h
  clear h
  have HC4 := Aside0.mk H
  clear H
  go_enter Try.func22, Try.ntmps22
  go_upto_region 1 with (fail)
  go_cut [38] (fun v38 wc => ∃ (kq : Nat) (x38_3 : Bool), v38 = .bool x38_3 ∧ Aside0 (spec_RunFlat.j0 kq l0 a1 l2 x38_3 = some (r1, r2)) ∧ Aside0 (kq ≤ k) ∧ Aside0 (Below w.heap.size w wc))
  case first =>
   have H := HC4.out
   clear HC4
   by_cases c5 : (l0.length : Int) > 12
   ·rw [if_pos c5] at H
    have c5b0 : decide (12 < (l0.length : Int)) = true := decide_eq_true c5
    have c5b1 : decide (12 < l0.length) = true := decide_eq_true (by omega)
    clear c5
    (first | rw [c5b0] | (simp only [i64_w, i32_w]; rw [c5b0]) | skip)
    have H' := Aside0.mk H
    clear H
    go_wp2
    go_meet
    case rel => exact ⟨_, (true), es_, H', ⟨by first | omega | exact Nat.le_refl _⟩, ⟨hb_⟩⟩
   ·rw [if_neg c5] at H
    have c5b0 : decide (12 < (l0.length : Int)) = false := decide_eq_false c5
    have c5b1 : decide (12 < l0.length) = false := decide_eq_false (by omega)
    clear c5
    (first | rw [c5b0] | (simp only [i64_w, i32_w]; rw [c5b0]) | skip)
    replace H := Option.bind_eq_some_iff.mp H
    obtain ⟨t390, A60, H⟩ := H
    replace H : (if t390 = true then (if a1 < 0 then (spec_RunFlat.j0 k l0 a1 l2 true) else (if a1 ≥ (l0.length : Int) then (spec_RunFlat.j0 k l0 a1 l2 true) else (if 0 ≤ a1 then (if a1 < (l0.length : Int) then (spec_RunFlat.j0 k l0 a1 l2 (((rd_L2 l0 a1).length : Int) == 0)) else (none)) else (none)))) else (spec_RunFlat.j0 k l0 a1 l2 true)) = some (r1, r2) := H
    have A6 := Aside0.mk A60
    clear A60
    by_cases c7 : t390 = true
    ·subst c7
     rw [if_pos rfl] at H
     by_cases c8 : a1 < 0
     ·rw [if_pos c8] at H
      have c8b0 : decide (a1 < 0) = true := decide_eq_true c8
      clear c8
      have H' := Aside0.mk H
      clear H
      go_wp2_with (first | (go_at_call 61; (with_reducible refine (spec_l21Events.calls k _ _ l2 true _ ?side1 ?side2 A6.out).mono ?_); (case side1 => exact cb_ HR2.out); (case side2 => exact HC2.out); rintro e w' ⟨rfl, ⟨nd, rfl⟩⟩))
      go_meet
      case rel => exact ⟨_, (true), es_, H', ⟨by first | omega | exact Nat.le_refl _⟩, ⟨hb_⟩⟩
     ·rw [if_neg c8] at H
      have c8b0 : decide (a1 < 0) = false := decide_eq_false c8
      clear c8
      by_cases c9 : a1 ≥ (l0.length : Int)
      ·rw [if_pos c9] at H
       have c9b0 : decide ((l0.length : Int) ≤ a1) = true := decide_eq_true c9
       clear c9
       have H' := Aside0.mk H
       clear H
       go_wp2_with (first | (go_at_call 61; (with_reducible refine (spec_l21Events.calls k _ _ l2 true _ ?side1 ?side2 A6.out).mono ?_); (case side1 => exact cb_ HR2.out); (case side2 => exact HC2.out); rintro e w' ⟨rfl, ⟨nd, rfl⟩⟩))
       go_meet
       case rel => exact ⟨_, (true), es_, H', ⟨by first | omega | exact Nat.le_refl _⟩, ⟨hb_⟩⟩
      ·rw [if_neg c9] at H
       have c9b0 : decide ((l0.length : Int) ≤ a1) = false := decide_eq_false c9
       clear c9
       by_cases c10 : 0 ≤ a1
       ·rw [if_pos c10] at H
        have c10b0 : decide (0 ≤ a1) = true := decide_eq_true c10
        clear c10
        by_cases c11 : a1 < (l0.length : Int)
        ·rw [if_pos c11] at H
         have c11b0 : decide (a1 < (l0.length : Int)) = true := decide_eq_true c11
         clear c11
         have H' := Aside0.mk H
         clear H
         go_wp2_with (first | (go_at_call 61; (with_reducible refine (spec_l21Events.calls k _ _ l2 true _ ?side1 ?side2 A6.out).mono ?_); (case side1 => exact cb_ HR2.out); (case side2 => exact HC2.out); rintro e w' ⟨rfl, ⟨nd, rfl⟩⟩; have p391 : 0 ≤ (a1 : Int) := of_decide_eq_true as_; have q391 : a1 < (l0.length : Int) := of_decide_eq_true as_; obtain ⟨ad391, A391_0, c391_0, e391, hx391_0, hl391_0, hi391_0⟩ := at_L2 HR0.out a1 p391 q391; cases e391; replace hx391_0 := hc_ HB hx391_0; have HR391_0 := Aside0.mk hi391_0; have HC391_0 := Aside0.mk hl391_0; clear hi391_0 hl391_0; replace p391 := eq_true p391; replace q391 := eq_true q391))
         go_meet
         case rel => exact ⟨_, ((((rd_L2 l0 a1).length : Int) == 0)), es_, H', ⟨by first | omega | exact Nat.le_refl _⟩, ⟨hb_⟩⟩
        ·rw [if_neg c11] at H
         exact absurd H (by simp)
       ·rw [if_neg c10] at H
        exact absurd H (by simp)
    ·replace c7 := Bool.eq_false_iff.mpr c7
     subst c7
     rw [if_neg (show ¬ (false = true) by decide)] at H
     have H' := Aside0.mk H
     clear H
     go_wp2_with (first | (go_at_call 61; (with_reducible refine (spec_l21Events.calls k _ _ l2 false _ ?side1 ?side2 A6.out).mono ?_); (case side1 => exact cb_ HR2.out); (case side2 => exact HC2.out); rintro e w' ⟨rfl, ⟨nd, rfl⟩⟩))
     go_meet
     case rel => exact ⟨_, (true), es_, H', ⟨by first | omega | exact Nat.le_refl _⟩, ⟨hb_⟩⟩
  case rest =>
   clear HC4
   try clear c1
   try clear c2
   try clear p2
   try clear c3
   try clear p3
   try clear q3
   try clear hx3
   try clear c5
   try clear c5b0
   try clear c5b1
   try clear c7
   try clear c8
   try clear c8b0
   try clear c9
   try clear c9b0
   try clear c10
   try clear c10b0
   try clear c11
   try clear c11b0
   try clear hx391_0
   try clear p391
   try clear q391
   obtain ⟨kq, x38_3, rfl, HA, HJ3, HB⟩ := hcut
   cases kq with
   | zero => exact absurd HA.out (by simp [spec_RunFlat.j0])
   | succ kj3 =>
    have H := HA.out
    clear HA
    simp only [spec_RunFlat.j0] at H
    by_cases c12 : x38_3 = true
    ·subst c12
     rw [if_pos rfl] at H
     simp only [Option.some.injEq, Prod.mk.injEq] at H
     obtain ⟨rfl, rfl⟩ := H
     go_wp2
     go_ret2
     exact ⟨_, er_, by first | exact Kd.R_nil _ _ _ _ _ | exact Kd.N_nil _ _ _ _ _ | exact Kd.V_nil _ _ _ _ _ | exact Kd.Q_nil _ _ _ _ _ | exact Kd.S_nil _ _ _ _ _, hb_⟩
    ·replace c12 := Bool.eq_false_iff.mpr c12
     subst c12
     rw [if_neg (show ¬ (false = true) by decide)] at H
     have H' := Aside0.mk H
     clear H
     go_wp2
     go_loopg [41] kj3 (fun kq v41 w' => ∃ (x41_2 : Int), v41 = .int .i64 x41_2 ∧ Aside0 (spec_RunFlat.l0 kq l0 a1 l2 l0 (l0.length : Int) x41_2 = some (r1, r2)) ∧ Aside0 (kq ≤ kj3) ∧ Aside0 (Below w.heap.size w w'))
     case atStart => exact ⟨(0), es_, H', ⟨Nat.le_refl _⟩, ⟨hb_⟩⟩
     case round =>
      clear H'
      try clear c1
      try clear c2
      try clear p2
      try clear c3
      try clear p3
      try clear q3
      try clear hx3
      try clear c5
      try clear c5b0
      try clear c5b1
      try clear c7
      try clear c8
      try clear c8b0
      try clear c9
      try clear c9b0
      try clear c10
      try clear c10b0
      try clear c11
      try clear c11b0
      try clear c12
      try clear hx391_0
      try clear p2
      try clear p3
      try clear p391
      try clear q3
      try clear q391
      obtain ⟨x41_2, rfl, HA, HK2, HB⟩ := hrel
      cases gk with
      | zero => exact absurd HA.out (by simp [spec_RunFlat.l0])
      | succ k2 =>
       have H := HA.out
       clear HA
       simp only [spec_RunFlat.l0] at H
       by_cases c13 : x41_2 < (l0.length : Int)
       ·rw [if_pos c13] at H
        have c13b0 : decide (x41_2 < (l0.length : Int)) = true := decide_eq_true c13
        clear c13
        by_cases c14 : 0 ≤ x41_2
        ·rw [if_pos c14] at H
         have c14b0 : decide (0 ≤ x41_2) = true := decide_eq_true c14
         clear c14
         by_cases c15 : x41_2 < (l0.length : Int)
         ·rw [if_pos c15] at H
          have c15b0 : decide (x41_2 < (l0.length : Int)) = true := decide_eq_true c15
          clear c15
          by_cases c16 : ((rd_L2 l0 x41_2).length : Int) = 0
          ·rw [if_pos c16] at H
           have c16b0 : (((rd_L2 l0 x41_2).length : Int) == 0) = true := beq_iff_eq.mpr c16
           have c16b1 : (((rd_L2 l0 x41_2).length : Int) != 0) = false := bne_eq_false_iff_eq.mpr c16
           clear c16
           have H' := Aside0.mk H
           clear H
           have p392 : 0 ≤ (x41_2 : Int) := of_decide_eq_true as_
           have q392 : x41_2 < (l0.length : Int) := of_decide_eq_true as_
           obtain ⟨ad392, A392_0, c392_0, e392, hx392_0, hl392_0, hi392_0⟩ := at_L2 HR0.out x41_2 p392 q392
           cases e392
           replace hx392_0 := hc_ HB hx392_0
           have HR392_0 := Aside0.mk hi392_0
           have HC392_0 := Aside0.mk hl392_0
           clear hi392_0 hl392_0
           replace p392 := eq_true p392
           replace q392 := eq_true q392
           go_wp2
           go_roundg k2
           case measure => have := HJ3.out; have := HK2.out; omega
           case rel => exact ⟨(wrap64 (x41_2 + 1)), es_, H', ⟨by have := HJ3.out; have := HK2.out; omega⟩, ⟨hb_⟩⟩
          ·rw [if_neg c16] at H
           have c16b0 : (((rd_L2 l0 x41_2).length : Int) == 0) = false := beq_eq_false_iff_ne.mpr c16
           have c16b1 : (((rd_L2 l0 x41_2).length : Int) != 0) = true := bne_iff_ne.mpr c16
           have c16b2 : ¬ ((rd_L2 l0 x41_2) = []) := fun h_ => c16 (by rw [h_]; rfl)
           by_cases c17 : ((rd_L2 l0 x41_2).length : Int) = 6
           ·rw [if_pos c17] at H
            have c17b0 : (((rd_L2 l0 x41_2).length : Int) == 6) = true := beq_iff_eq.mpr c17
            have c17b1 : (((rd_L2 l0 x41_2).length : Int) != 6) = false := bne_eq_false_iff_eq.mpr c17
            clear c17
            have H' := Aside0.mk H
            clear H
            have p392 : 0 ≤ (x41_2 : Int) := of_decide_eq_true as_
            have q392 : x41_2 < (l0.length : Int) := of_decide_eq_true as_
            obtain ⟨ad392, A392_0, c392_0, e392, hx392_0, hl392_0, hi392_0⟩ := at_L2 HR0.out x41_2 p392 q392
            cases e392
            replace hx392_0 := hc_ HB hx392_0
            have HR392_0 := Aside0.mk hi392_0
            have HC392_0 := Aside0.mk hl392_0
            clear hi392_0 hl392_0
            replace p392 := eq_true p392
            replace q392 := eq_true q392
            go_wp2
            go_roundg k2
            case measure => have := HJ3.out; have := HK2.out; omega
            case rel => exact ⟨(wrap64 (x41_2 + 1)), es_, H', ⟨by have := HJ3.out; have := HK2.out; omega⟩, ⟨hb_⟩⟩
           ·rw [if_neg c17] at H
            have c17b0 : (((rd_L2 l0 x41_2).length : Int) == 6) = false := beq_eq_false_iff_ne.mpr c17
            have c17b1 : (((rd_L2 l0 x41_2).length : Int) != 6) = true := bne_iff_ne.mpr c17
            simp only [Option.some.injEq, Prod.mk.injEq] at H
            obtain ⟨rfl, rfl⟩ := H
            have p392 : 0 ≤ (x41_2 : Int) := of_decide_eq_true as_
            have q392 : x41_2 < (l0.length : Int) := of_decide_eq_true as_
            obtain ⟨ad392, A392_0, c392_0, e392, hx392_0, hl392_0, hi392_0⟩ := at_L2 HR0.out x41_2 p392 q392
            cases e392
            replace hx392_0 := hc_ HB hx392_0
            have HR392_0 := Aside0.mk hi392_0
            have HC392_0 := Aside0.mk hl392_0
            clear hi392_0 hl392_0
            replace p392 := eq_true p392
            replace q392 := eq_true q392
            go_wp2
            go_ret2
            exact ⟨_, er_, by first | exact Kd.R_nil _ _ _ _ _ | exact Kd.N_nil _ _ _ _ _ | exact Kd.V_nil _ _ _ _ _ | exact Kd.Q_nil _ _ _ _ _ | exact Kd.S_nil _ _ _ _ _, hb_⟩
         ·rw [if_neg c15] at H
          exact absurd H (by simp)
        ·rw [if_neg c14] at H
         exact absurd H (by simp)
       ·rw [if_neg c13] at H
        have c13b0 : decide (x41_2 < (l0.length : Int)) = false := decide_eq_false c13
        clear c13
        obtain ⟨y393, hy393⟩ : ∃ y_ : List Int, y_ = (([a1] : List Int)) := ⟨_, rfl⟩
        replace H : (spec_RunFlat.l1 k2 l0 a1 y393 l2 (l2.length : Int) 0) = some (r1, r2) := by first | (rw [hy393]; with_reducible exact H) | (have H2_ := (Option.bind_some _ _).symm.trans H; rw [hy393]; with_reducible exact H2_) | (have H2_ := (Option.bind_some _ _).symm.trans H; with_reducible exact H2_) | with_reducible exact H | (rw [hy393]; exact H) | exact H
        have Ny393 := Aside0.mk hy393
        clear hy393
        have H' := Aside0.mk H
        clear H
        go_wp2_with (first | ((with_reducible refine gate_dst (N := 55) rfl ?_); (try (refine gate_guard (by rfl) ?_; dsimp only)); refine Kd.R_lit (Kd.int .i64) _ 3 ?hg (N := 55) ?hd (xs := ([a1] : List Int)) (inner := [.int .i64 a1]) (ok := fun _ => True) (okp := fun _ => True) ?hr ?hp (fun _ hk => hk) trivial (Below.refl _ _) (Nat.le_refl _) (by simp) ?_; (case hd => rfl); (case hg => rfl); (case hr => first | (go_simp; done) | (go_simp; rfl)); (case hp => exact (Reps.one (show Kd.M (Kd.int .i64) _ _ _ a1 [.int .i64 a1] from rfl) (Reps.none _ _))); intro v394 w18 ho19 hb hg_ hnew_; clear hg_ hnew_; (first | rw [← Ny393.out] at ho19 | (simp only [Int.reduceToNat] at ho19; rw [← Ny393.out] at ho19)); have n0_ := Aside0.mk (Kd.R_lower ho19 (below_size hb_)); have n1_ := Aside0.mk (below_step hb_ hb); clear HB; have HO395 := n0_; have HB := n1_; clear n0_ n1_; clear hb ho19))
        go_loopg [1, 10, 58] k2 (fun kq v1 v10 v58 w' => ∃ (x1_3 : Int) (x10_3 : List Int) (x58_3 : Int), v1 = .int .i64 x1_3 ∧ v58 = .int .i64 x58_3 ∧ Aside0 (spec_RunFlat.l1 kq l0 x1_3 x10_3 l2 (l2.length : Int) x58_3 = some (r1, r2)) ∧ Aside0 (kq ≤ k2) ∧ Aside0 (Kd.R (Kd.int .i64) 3 w' w.heap.size (fun _ => True) v10 x10_3) ∧ Aside0 (Below w.heap.size w w'))
        case atStart => exact ⟨(a1), (y393), (0), es_, es_, H', ⟨Nat.le_refl _⟩, ⟨ra_ HO395.out⟩, ⟨hb_⟩⟩
        case round =>
         clear H'
         try clear c1
         try clear c2
         try clear p2
         try clear c3
         try clear p3
         try clear q3
         try clear hx3
         try clear c5
         try clear c5b0
         try clear c5b1
         try clear p6
         try clear c7
         try clear c8
         try clear c8b0
         try clear c9
         try clear c9b0
         try clear c10
         try clear c10b0
         try clear c11
         try clear c11b0
         try clear c12
         try clear c13
         try clear c13b0
         try clear c14
         try clear c14b0
         try clear c15
         try clear c15b0
         try clear c16
         try clear c16b0
         try clear c16b1
         try clear c16b2
         try clear c17
         try clear c17b0
         try clear c17b1
         try clear hx391_0
         try clear hx392_0
         try clear p2
         try clear p3
         try clear p391
         try clear p392
         try clear q3
         try clear q391
         try clear q392
         obtain ⟨x1_3, x10_3, x58_3, rfl, rfl, HA, HK3, HO_10, HB⟩ := hrel
         cases gk with
         | zero => exact absurd HA.out (by simp [spec_RunFlat.l1])
         | succ k3 =>
          have H := HA.out
          clear HA
          simp only [spec_RunFlat.l1] at H
          by_cases c20 : x58_3 < (l2.length : Int)
          ·rw [if_pos c20] at H
           have c20b0 : decide (x58_3 < (l2.length : Int)) = true := decide_eq_true c20
           clear c20
           by_cases c21 : 0 ≤ x58_3
           ·rw [if_pos c21] at H
            have c21b0 : decide (0 ≤ x58_3) = true := decide_eq_true c21
            clear c21
            by_cases c22 : x58_3 < (l2.length : Int)
            ·rw [if_pos c22] at H
             have c22b0 : decide (x58_3 < (l2.length : Int)) = true := decide_eq_true c22
             clear c22
             by_cases c23 : 0 ≤ x1_3
             ·rw [if_pos c23] at H
              have c23b0 : decide (0 ≤ x1_3) = true := decide_eq_true c23
              clear c23
              by_cases c24 : x1_3 < (l0.length : Int)
              ·rw [if_pos c24] at H
               have c24b0 : decide (x1_3 < (l0.length : Int)) = true := decide_eq_true c24
               clear c24
               by_cases c25 : 0 ≤ (rd l2 x58_3)
               ·rw [if_pos c25] at H
                have c25b0 : decide (0 ≤ (rd l2 x58_3)) = true := decide_eq_true c25
                clear c25
                by_cases c26 : (rd l2 x58_3) < ((rd_L2 l0 x1_3).length : Int)
                ·rw [if_pos c26] at H
                 have c26b0 : decide ((rd l2 x58_3) < ((rd_L2 l0 x1_3).length : Int)) = true := decide_eq_true c26
                 clear c26
                 by_cases c27 : (rd (rd_L2 l0 x1_3) (rd l2 x58_3)) < 0
                 ·rw [if_pos c27] at H
                  have c27b0 : decide ((rd (rd_L2 l0 x1_3) (rd l2 x58_3)) < 0) = true := decide_eq_true c27
                  clear c27
                  simp only [Option.some.injEq, Prod.mk.injEq] at H
                  obtain ⟨rfl, rfl⟩ := H
                  have p396 : 0 ≤ (x58_3 : Int) := of_decide_eq_true as_
                  have q396 : x58_3 < (l2.length : Int) := of_decide_eq_true as_
                  obtain ⟨ad396, e396, hx396_0⟩ := Kd.at_int HR2.out x58_3 p396 q396
                  cases e396
                  replace hx396_0 := hc_ HB hx396_0
                  replace p396 := eq_true p396
                  replace q396 := eq_true q396
                  have p397 : 0 ≤ (x1_3 : Int) := of_decide_eq_true as_
                  have q397 : x1_3 < (l0.length : Int) := of_decide_eq_true as_
                  obtain ⟨ad397, A397_0, c397_0, e397, hx397_0, hl397_0, hi397_0⟩ := at_L2 HR0.out x1_3 p397 q397
                  cases e397
                  replace hx397_0 := hc_ HB hx397_0
                  have HR397_0 := Aside0.mk hi397_0
                  have HC397_0 := Aside0.mk hl397_0
                  clear hi397_0 hl397_0
                  replace p397 := eq_true p397
                  replace q397 := eq_true q397
                  have p398 : 0 ≤ ((rd l2 x58_3) : Int) := of_decide_eq_true as_
                  have q398 : (rd l2 x58_3) < ((rd_L2 l0 x1_3).length : Int) := of_decide_eq_true as_
                  obtain ⟨ad398, e398, hx398_0⟩ := Kd.at_int HR397_0.out (rd l2 x58_3) p398 q398
                  cases e398
                  replace hx398_0 := hc_ HB hx398_0
                  replace p398 := eq_true p398
                  replace q398 := eq_true q398
                  go_wp2
                  go_ret2
                  exact ⟨_, er_, by first | exact Kd.R_nil _ _ _ _ _ | exact Kd.N_nil _ _ _ _ _ | exact Kd.V_nil _ _ _ _ _ | exact Kd.Q_nil _ _ _ _ _ | exact Kd.S_nil _ _ _ _ _, hb_⟩
                 ·rw [if_neg c27] at H
                  have c27b0 : decide ((rd (rd_L2 l0 x1_3) (rd l2 x58_3)) < 0) = false := decide_eq_false c27
                  clear c27
                  by_cases c28 : (rd (rd_L2 l0 x1_3) (rd l2 x58_3)) ≥ (l0.length : Int)
                  ·rw [if_pos c28] at H
                   have c28b0 : decide ((l0.length : Int) ≤ (rd (rd_L2 l0 x1_3) (rd l2 x58_3))) = true := decide_eq_true c28
                   clear c28
                   simp only [Option.some.injEq, Prod.mk.injEq] at H
                   obtain ⟨rfl, rfl⟩ := H
                   have p396 : 0 ≤ (x58_3 : Int) := of_decide_eq_true as_
                   have q396 : x58_3 < (l2.length : Int) := of_decide_eq_true as_
                   obtain ⟨ad396, e396, hx396_0⟩ := Kd.at_int HR2.out x58_3 p396 q396
                   cases e396
                   replace hx396_0 := hc_ HB hx396_0
                   replace p396 := eq_true p396
                   replace q396 := eq_true q396
                   have p397 : 0 ≤ (x1_3 : Int) := of_decide_eq_true as_
                   have q397 : x1_3 < (l0.length : Int) := of_decide_eq_true as_
                   obtain ⟨ad397, A397_0, c397_0, e397, hx397_0, hl397_0, hi397_0⟩ := at_L2 HR0.out x1_3 p397 q397
                   cases e397
                   replace hx397_0 := hc_ HB hx397_0
                   have HR397_0 := Aside0.mk hi397_0
                   have HC397_0 := Aside0.mk hl397_0
                   clear hi397_0 hl397_0
                   replace p397 := eq_true p397
                   replace q397 := eq_true q397
                   have p398 : 0 ≤ ((rd l2 x58_3) : Int) := of_decide_eq_true as_
                   have q398 : (rd l2 x58_3) < ((rd_L2 l0 x1_3).length : Int) := of_decide_eq_true as_
                   obtain ⟨ad398, e398, hx398_0⟩ := Kd.at_int HR397_0.out (rd l2 x58_3) p398 q398
                   cases e398
                   replace hx398_0 := hc_ HB hx398_0
                   replace p398 := eq_true p398
                   replace q398 := eq_true q398
                   go_wp2
                   go_ret2
                   exact ⟨_, er_, by first | exact Kd.R_nil _ _ _ _ _ | exact Kd.N_nil _ _ _ _ _ | exact Kd.V_nil _ _ _ _ _ | exact Kd.Q_nil _ _ _ _ _ | exact Kd.S_nil _ _ _ _ _, hb_⟩
                  ·rw [if_neg c28] at H
                   have c28b0 : decide ((l0.length : Int) ≤ (rd (rd_L2 l0 x1_3) (rd l2 x58_3))) = false := decide_eq_false c28
                   clear c28
                   by_cases c29 : 0 ≤ (rd (rd_L2 l0 x1_3) (rd l2 x58_3))
                   ·rw [if_pos c29] at H
                    have c29b0 : decide (0 ≤ (rd (rd_L2 l0 x1_3) (rd l2 x58_3))) = true := decide_eq_true c29
                    clear c29
                    by_cases c30 : (rd (rd_L2 l0 x1_3) (rd l2 x58_3)) < (l0.length : Int)
                    ·rw [if_pos c30] at H
                     have c30b0 : decide ((rd (rd_L2 l0 x1_3) (rd l2 x58_3)) < (l0.length : Int)) = true := decide_eq_true c30
                     clear c30
                     by_cases c31 : ((rd_L2 l0 (rd (rd_L2 l0 x1_3) (rd l2 x58_3))).length : Int) = 0
                     ·rw [if_pos c31] at H
                      have c31b0 : (((rd_L2 l0 (rd (rd_L2 l0 x1_3) (rd l2 x58_3))).length : Int) == 0) = true := beq_iff_eq.mpr c31
                      have c31b1 : (((rd_L2 l0 (rd (rd_L2 l0 x1_3) (rd l2 x58_3))).length : Int) != 0) = false := bne_eq_false_iff_eq.mpr c31
                      clear c31
                      simp only [Option.some.injEq, Prod.mk.injEq] at H
                      obtain ⟨rfl, rfl⟩ := H
                      have p396 : 0 ≤ (x58_3 : Int) := of_decide_eq_true as_
                      have q396 : x58_3 < (l2.length : Int) := of_decide_eq_true as_
                      obtain ⟨ad396, e396, hx396_0⟩ := Kd.at_int HR2.out x58_3 p396 q396
                      cases e396
                      replace hx396_0 := hc_ HB hx396_0
                      replace p396 := eq_true p396
                      replace q396 := eq_true q396
                      have p397 : 0 ≤ (x1_3 : Int) := of_decide_eq_true as_
                      have q397 : x1_3 < (l0.length : Int) := of_decide_eq_true as_
                      obtain ⟨ad397, A397_0, c397_0, e397, hx397_0, hl397_0, hi397_0⟩ := at_L2 HR0.out x1_3 p397 q397
                      cases e397
                      replace hx397_0 := hc_ HB hx397_0
                      have HR397_0 := Aside0.mk hi397_0
                      have HC397_0 := Aside0.mk hl397_0
                      clear hi397_0 hl397_0
                      replace p397 := eq_true p397
                      replace q397 := eq_true q397
                      have p398 : 0 ≤ ((rd l2 x58_3) : Int) := of_decide_eq_true as_
                      have q398 : (rd l2 x58_3) < ((rd_L2 l0 x1_3).length : Int) := of_decide_eq_true as_
                      obtain ⟨ad398, e398, hx398_0⟩ := Kd.at_int HR397_0.out (rd l2 x58_3) p398 q398
                      cases e398
                      replace hx398_0 := hc_ HB hx398_0
                      replace p398 := eq_true p398
                      replace q398 := eq_true q398
                      have p399 : 0 ≤ ((rd (rd_L2 l0 x1_3) (rd l2 x58_3)) : Int) := of_decide_eq_true as_
                      have q399 : (rd (rd_L2 l0 x1_3) (rd l2 x58_3)) < (l0.length : Int) := of_decide_eq_true as_
                      obtain ⟨ad399, A399_0, c399_0, e399, hx399_0, hl399_0, hi399_0⟩ := at_L2 HR0.out (rd (rd_L2 l0 x1_3) (rd l2 x58_3)) p399 q399
                      obtain rfl : ad397 = ad399 := (by injection e399)
                      replace hx399_0 := hc_ HB hx399_0
                      have HR399_0 := Aside0.mk hi399_0
                      have HC399_0 := Aside0.mk hl399_0
                      clear hi399_0 hl399_0
                      replace p399 := eq_true p399
                      replace q399 := eq_true q399
                      go_wp2
                      go_ret2
                      exact ⟨_, er_, by first | exact Kd.R_nil _ _ _ _ _ | exact Kd.N_nil _ _ _ _ _ | exact Kd.V_nil _ _ _ _ _ | exact Kd.Q_nil _ _ _ _ _ | exact Kd.S_nil _ _ _ _ _, hb_⟩
                     ·rw [if_neg c31] at H
                      have c31b0 : (((rd_L2 l0 (rd (rd_L2 l0 x1_3) (rd l2 x58_3))).length : Int) == 0) = false := beq_eq_false_iff_ne.mpr c31
                      have c31b1 : (((rd_L2 l0 (rd (rd_L2 l0 x1_3) (rd l2 x58_3))).length : Int) != 0) = true := bne_iff_ne.mpr c31
                      have c31b2 : ¬ ((rd_L2 l0 (rd (rd_L2 l0 x1_3) (rd l2 x58_3))) = []) := fun h_ => c31 (by rw [h_]; rfl)
                      by_cases c32 : x10_3.length < 17592186044416
                      ·rw [if_pos c32] at H
                       have LMc32 := Aside0.mk c32
                       clear c32
                       obtain ⟨y400, hy400⟩ : ∃ y_ : List Int, y_ = (x10_3 ++ [rd (rd_L2 l0 x1_3) (rd l2 x58_3)]) := ⟨_, rfl⟩
                       replace H : (spec_RunFlat.l1 k3 l0 (rd (rd_L2 l0 x1_3) (rd l2 x58_3)) y400 l2 (l2.length : Int) (wrap64 (x58_3 + 1))) = some (r1, r2) := by first | (rw [hy400]; with_reducible exact H) | (have H2_ := (Option.bind_some _ _).symm.trans H; rw [hy400]; with_reducible exact H2_) | (have H2_ := (Option.bind_some _ _).symm.trans H; with_reducible exact H2_) | with_reducible exact H | (rw [hy400]; exact H) | exact H
                       have Ny400 := Aside0.mk hy400
                       clear hy400
                       have H' := Aside0.mk H
                       clear H
                       have p396 : 0 ≤ (x58_3 : Int) := of_decide_eq_true as_
                       have q396 : x58_3 < (l2.length : Int) := of_decide_eq_true as_
                       obtain ⟨ad396, e396, hx396_0⟩ := Kd.at_int HR2.out x58_3 p396 q396
                       cases e396
                       replace hx396_0 := hc_ HB hx396_0
                       replace p396 := eq_true p396
                       replace q396 := eq_true q396
                       have p397 : 0 ≤ (x1_3 : Int) := of_decide_eq_true as_
                       have q397 : x1_3 < (l0.length : Int) := of_decide_eq_true as_
                       obtain ⟨ad397, A397_0, c397_0, e397, hx397_0, hl397_0, hi397_0⟩ := at_L2 HR0.out x1_3 p397 q397
                       cases e397
                       replace hx397_0 := hc_ HB hx397_0
                       have HR397_0 := Aside0.mk hi397_0
                       have HC397_0 := Aside0.mk hl397_0
                       clear hi397_0 hl397_0
                       replace p397 := eq_true p397
                       replace q397 := eq_true q397
                       have p398 : 0 ≤ ((rd l2 x58_3) : Int) := of_decide_eq_true as_
                       have q398 : (rd l2 x58_3) < ((rd_L2 l0 x1_3).length : Int) := of_decide_eq_true as_
                       obtain ⟨ad398, e398, hx398_0⟩ := Kd.at_int HR397_0.out (rd l2 x58_3) p398 q398
                       cases e398
                       replace hx398_0 := hc_ HB hx398_0
                       replace p398 := eq_true p398
                       replace q398 := eq_true q398
                       have p399 : 0 ≤ ((rd (rd_L2 l0 x1_3) (rd l2 x58_3)) : Int) := of_decide_eq_true as_
                       have q399 : (rd (rd_L2 l0 x1_3) (rd l2 x58_3)) < (l0.length : Int) := of_decide_eq_true as_
                       obtain ⟨ad399, A399_0, c399_0, e399, hx399_0, hl399_0, hi399_0⟩ := at_L2 HR0.out (rd (rd_L2 l0 x1_3) (rd l2 x58_3)) p399 q399
                       obtain rfl : ad397 = ad399 := (by injection e399)
                       replace hx399_0 := hc_ HB hx399_0
                       have HR399_0 := Aside0.mk hi399_0
                       have HC399_0 := Aside0.mk hl399_0
                       clear hi399_0 hl399_0
                       replace p399 := eq_true p399
                       replace q399 := eq_true q399
                       go_wp2_with (first | ((with_reducible refine gate_builtin (b := .append) (xs := #[.tmp 85, .tmp 87]) rfl ?_); (try (refine gate_guard (by rfl) ?_; dsimp only)); at_builtin; refine Kd.R_append (Kd.int .i64) (w0 := w) w.heap.size rfl (.tmp 85) (.tmp 87) 30 3 (.int .i64 0) 8 rfl Try.underlying30 info3 rfl (by decide) (by omega) u10 x10_3 (rd (rd_L2 l0 x1_3) (rd l2 x58_3)) [.int .i64 (rd (rd_L2 l0 x1_3) (rd l2 x58_3))] (fun _ => True) (fun _ => False) rfl rfl ?aP (fun _ hk => hk.elim) ?aF ?aO ?aB ?aS ?aL ?_; (case aP => exact rfl); (case aB => exact hb_); (case aF => exact (fun _ _ => trivial)); (case aO => exact (ra_ HO_10.out)); (case aS => exact (below_size hb_)); (case aL => have := LMc32.out; omega); intro v401 w33 ho hb hg hat; rw [← Ny400.out] at ho; have n0_ := Aside0.mk (hb); have n1_ := Aside0.mk (ho); clear HB; clear HO_10; have HB := n0_; have HO402 := n1_; clear n0_ n1_; clear ho hb hg hat))
                       go_roundg k3
                       case measure => have := HJ3.out; have := HK2.out; have := HK3.out; omega
                       case rel => exact ⟨(rd (rd_L2 l0 x1_3) (rd l2 x58_3)), (y400), (wrap64 (x58_3 + 1)), es_, es_, H', ⟨by have := HJ3.out; have := HK2.out; have := HK3.out; omega⟩, ⟨ra_ HO402.out⟩, ⟨hb_⟩⟩
                      ·rw [if_neg c32] at H
                       exact absurd H (by simp)
                    ·rw [if_neg c30] at H
                     exact absurd H (by simp)
                   ·rw [if_neg c29] at H
                    exact absurd H (by simp)
                ·rw [if_neg c26] at H
                 exact absurd H (by simp)
               ·rw [if_neg c25] at H
                exact absurd H (by simp)
              ·rw [if_neg c24] at H
               exact absurd H (by simp)
             ·rw [if_neg c23] at H
              exact absurd H (by simp)
            ·rw [if_neg c22] at H
             exact absurd H (by simp)
           ·rw [if_neg c21] at H
            exact absurd H (by simp)
          ·rw [if_neg c20] at H
           have c20b0 : decide (x58_3 < (l2.length : Int)) = false := decide_eq_false c20
           clear c20
           simp only [Option.some.injEq, Prod.mk.injEq] at H
           obtain ⟨rfl, rfl⟩ := H
           go_wp2
           go_ret2
           exact ⟨_, er_, by (with_reducible repeat (first | apply Kd.R_alloc | apply Kd.R_drewN | apply Kd.R_drew)); exact HO_10.out, hb_⟩

end Go.Proofs.Ytkhkgfihodljmaa.Pr
