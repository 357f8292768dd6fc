-- Written by this session's own print (wip/tools/mkmp.py) out of the translation. Lean checks it.
import Derived.Test.YtkhkgfihodljmaaPr0
import Derived.Test.YtkhkgfihodljmaaPr1
import Derived.Test.YtkhkgfihodljmaaPr4
import Derived.Test.YtkhkgfihodljmaaPrd1
namespace Go.Proofs.Ytkhkgfihodljmaa.Pr
open Go.RowKit Go.Proofs.YtkhkgfihodljmaaW.PrintWords Go.Proofs.YtkhkgfihodljmaaW.PrintLast Go.Proofs.YtkhkgfihodljmaaW.PrintMore
attribute [local go_sem] max2_int min2_int max_two min_two max_three min_three max_four min_four   -- for this text's walks alone
set_option linter.unusedVariables false
set_option linter.unusedSimpArgs false

set_option maxHeartbeats 8000000 in
set_option maxRecDepth 100000 in
theorem spec_UnwrapCounts.calls (k : Nat) (A0 : Option Addr) (c0 : Nat) (l0 : List Int) (a1 : Int) (r1 : List Int) (r2 : Bool) (w : World) (hr0 : Kd.C (Kd.int .i64) w A0 l0.length l0) (hc0 : l0.length ≤ c0) (h : spec_UnwrapCounts.f k l0 a1 = some (r1, r2)) :
   Calls Try.prog 19 #[.slice A0 l0.length c0, .int .i64 a1] w fun e w' => ∃ v0_ : Value, e = .returned (.tuple #[v0_, .bool r2]) ∧ Kd.R (Kd.int .i64) 3 w' w.heap.size (fun _ => True) v0_ r1 ∧ Below w.heap.size w w' := by
  have HR0 := Aside0.mk hr0
  have HC0 := Aside0.mk hc0
  clear hr0 hc0
  have HB := Aside0.mk (Below.refl w.heap.size w)
  have H : ((spec_l8Size.f a1).bind fun t175 => (if t175 = true then (if (l0.length : Int) < 1 then (spec_UnwrapCounts.j0 k l0 a1 true) else (spec_UnwrapCounts.j0 k l0 a1 (decide ((l0.length : Int) > 60)))) else (spec_UnwrapCounts.j0 k l0 a1 true))) = some (r1, r2) := h
  clear h
  have HC3 := Aside0.mk H
  clear H
  go_enter Try.func19, Try.ntmps19
  go_upto_region 1 with (fail)
  go_cut [22] (fun v22 wc => ∃ (kq : Nat) (x22_2 : Bool), v22 = .bool x22_2 ∧ Aside0 (spec_UnwrapCounts.j0 kq l0 a1 x22_2 = some (r1, r2)) ∧ Aside0 (kq ≤ k) ∧ Aside0 (Below w.heap.size w wc))
  case first =>
   have H := HC3.out
   clear HC3
   replace H := Option.bind_eq_some_iff.mp H
   obtain ⟨t175, A40, H⟩ := H
   replace H : (if t175 = true then (if (l0.length : Int) < 1 then (spec_UnwrapCounts.j0 k l0 a1 true) else (spec_UnwrapCounts.j0 k l0 a1 (decide ((l0.length : Int) > 60)))) else (spec_UnwrapCounts.j0 k l0 a1 true)) = some (r1, r2) := H
   have A4 := Aside0.mk A40
   clear A40
   by_cases c5 : t175 = true
   ·subst c5
    rw [if_pos rfl] at H
    by_cases c6 : (l0.length : Int) < 1
    ·rw [if_pos c6] at H
     have c6b0 : decide ((l0.length : Int) < 1) = true := decide_eq_true c6
     have c6b1 : decide (l0.length < 1) = true := decide_eq_true (by omega)
     clear c6
     (first | rw [c6b0] | (simp only [i64_w, i32_w]; rw [c6b0]) | skip)
     have H' := Aside0.mk H
     clear H
     go_wp2_with (first | ((with_reducible refine gate_callee (f := 58) rfl ?_); refine goesL_ (some 11) rfl rfl Try.func58 (by kernel_rfl) rfl #[.int .i64 a1] rfl ls_ ?_; (with_reducible refine (spec_l8Size.calls a1 true _ A4.out).mono ?_); rintro e w' ⟨rfl, ⟨nd, rfl⟩⟩; refine ⟨_, rfl, ?_⟩))
     go_meet
     case rel => exact ⟨_, (true), es_, H', ⟨by first | omega | exact Nat.le_refl _⟩, ⟨hb_⟩⟩
    ·rw [if_neg c6] at H
     have c6b0 : decide ((l0.length : Int) < 1) = false := decide_eq_false c6
     have c6b1 : decide (l0.length < 1) = false := decide_eq_false (by omega)
     clear c6
     (first | rw [c6b0] | (simp only [i64_w, i32_w]; rw [c6b0]) | skip)
     have H' := Aside0.mk H
     clear H
     go_wp2_with (first | ((with_reducible refine gate_callee (f := 58) rfl ?_); refine goesL_ (some 11) rfl rfl Try.func58 (by kernel_rfl) rfl #[.int .i64 a1] rfl ls_ ?_; (with_reducible refine (spec_l8Size.calls a1 true _ A4.out).mono ?_); rintro e w' ⟨rfl, ⟨nd, rfl⟩⟩; refine ⟨_, rfl, ?_⟩))
     go_meet
     case rel => exact ⟨_, (decide ((l0.length : Int) > 60)), es_, H', ⟨by first | omega | exact Nat.le_refl _⟩, ⟨hb_⟩⟩
   ·replace c5 := Bool.eq_false_iff.mpr c5
    subst c5
    rw [if_neg (show ¬ (false = true) by decide)] at H
    have H' := Aside0.mk H
    clear H
    go_wp2_with (first | ((with_reducible refine gate_callee (f := 58) rfl ?_); refine goesL_ (some 11) rfl rfl Try.func58 (by kernel_rfl) rfl #[.int .i64 a1] rfl ls_ ?_; (with_reducible refine (spec_l8Size.calls a1 false _ A4.out).mono ?_); rintro e w' ⟨rfl, ⟨nd, rfl⟩⟩; refine ⟨_, rfl, ?_⟩))
    go_meet
    case rel => exact ⟨_, (true), es_, H', ⟨by first | omega | exact Nat.le_refl _⟩, ⟨hb_⟩⟩
  case rest =>
   clear HC3
   try clear c1
   try clear p2
   try clear c5
   try clear c6
   try clear c6b0
   try clear c6b1
   obtain ⟨kq, x22_2, rfl, HA, HJ2, HB⟩ := hcut
   cases kq with
   | zero => exact absurd HA.out (by simp [spec_UnwrapCounts.j0])
   | succ kj2 =>
    have H := HA.out
    clear HA
    simp only [spec_UnwrapCounts.j0] at H
    by_cases c7 : x22_2 = true
    ·subst c7
     rw [if_pos rfl] at H
     simp only [Option.some.injEq, Prod.mk.injEq] at H
     obtain ⟨rfl, rfl⟩ := H
     go_wp2
     go_ret2
     exact ⟨_, er_, by first | exact Kd.R_nil _ _ _ _ _ | exact Kd.N_nil _ _ _ _ _ | exact Kd.V_nil _ _ _ _ _ | exact Kd.Q_nil _ _ _ _ _ | exact Kd.S_nil _ _ _ _ _, hb_⟩
    ·replace c7 := Bool.eq_false_iff.mpr c7
     subst c7
     rw [if_neg (show ¬ (false = true) by decide)] at H
     have H' := Aside0.mk H
     clear H
     go_wp2
     go_loopg [6, 25] kj2 (fun kq v6 v25 w' => ∃ (x6_2 : List Int) (x25_2 : Int), v25 = .int .i64 x25_2 ∧ Aside0 (spec_UnwrapCounts.l0 kq l0 a1 x6_2 l0 (l0.length : Int) x25_2 = some (r1, r2)) ∧ Aside0 (kq ≤ kj2) ∧ Aside0 (Kd.R (Kd.int .i64) 3 w' w.heap.size (fun _ => True) v6 x6_2) ∧ Aside0 (Below w.heap.size w w'))
     case atStart => exact ⟨(([] : List Int)), (0), es_, H', ⟨Nat.le_refl _⟩, ⟨by first | exact Kd.R_nil _ _ _ _ _ | exact Kd.N_nil _ _ _ _ _ | exact Kd.V_nil _ _ _ _ _ | exact Kd.Q_nil _ _ _ _ _ | exact Kd.S_nil _ _ _ _ _⟩, ⟨hb_⟩⟩
     case round =>
      clear H'
      try clear c1
      try clear p2
      try clear c5
      try clear c6
      try clear c6b0
      try clear c6b1
      try clear c7
      try clear p2
      obtain ⟨x6_2, x25_2, rfl, HA, HK2, HO_6, HB⟩ := hrel
      cases gk with
      | zero => exact absurd HA.out (by simp [spec_UnwrapCounts.l0])
      | succ k2 =>
       have H := HA.out
       clear HA
       simp only [spec_UnwrapCounts.l0] at H
       by_cases c8 : x25_2 < (l0.length : Int)
       ·rw [if_pos c8] at H
        have c8b0 : decide (x25_2 < (l0.length : Int)) = true := decide_eq_true c8
        clear c8
        by_cases c9 : 0 ≤ x25_2
        ·rw [if_pos c9] at H
         have c9b0 : decide (0 ≤ x25_2) = true := decide_eq_true c9
         clear c9
         by_cases c10 : x25_2 < (l0.length : Int)
         ·rw [if_pos c10] at H
          have c10b0 : decide (x25_2 < (l0.length : Int)) = true := decide_eq_true c10
          clear c10
          have HC11 := Aside0.mk H
          clear H
          have p176 : 0 ≤ (x25_2 : Int) := of_decide_eq_true as_
          have q176 : x25_2 < (l0.length : Int) := of_decide_eq_true as_
          obtain ⟨ad176, e176, hx176_0⟩ := Kd.at_int HR0.out x25_2 p176 q176
          cases e176
          replace hx176_0 := hc_ HB hx176_0
          replace p176 := eq_true p176
          replace q176 := eq_true q176
          go_upto_region 7 with (fail)
          go_cut [36] (fun v36 wc => ∃ (kq : Nat) (x36_10 : Bool), v36 = .bool x36_10 ∧ Aside0 (spec_UnwrapCounts.j2 kq l0 a1 x6_2 x25_2 (rd l0 x25_2) l0 (l0.length : Int) x25_2 x36_10 = some (r1, r2)) ∧ Aside0 (kq ≤ k2) ∧ Aside0 (Kd.R (Kd.int .i64) 3 wc w.heap.size (fun _ => True) u6 x6_2) ∧ Aside0 (Below w.heap.size w wc))
          case first =>
           have H := HC11.out
           clear HC11
           by_cases c12 : (rd l0 x25_2) < 0
           ·rw [if_pos c12] at H
            have c12b0 : decide ((rd l0 x25_2) < 0) = true := decide_eq_true c12
            clear c12
            (first | rw [c12b0] | (simp only [i64_w, i32_w]; rw [c12b0]) | skip)
            have H' := Aside0.mk H
            clear H
            go_wp2
            go_meet
            case rel => exact ⟨_, (true), es_, H', ⟨by have := HJ2.out; have := HK2.out; first | omega | exact Nat.le_refl _⟩, ⟨ra_ HO_6.out⟩, ⟨hb_⟩⟩
           ·rw [if_neg c12] at H
            have c12b0 : decide ((rd l0 x25_2) < 0) = false := decide_eq_false c12
            clear c12
            (first | rw [c12b0] | (simp only [i64_w, i32_w]; rw [c12b0]) | skip)
            have H' := Aside0.mk H
            clear H
            go_wp2
            go_meet
            case rel => exact ⟨_, (decide ((rd l0 x25_2) ≥ a1)), es_, H', ⟨by have := HJ2.out; have := HK2.out; first | omega | exact Nat.le_refl _⟩, ⟨ra_ HO_6.out⟩, ⟨hb_⟩⟩
          case rest =>
           clear HC11
           try clear c1
           try clear p1
           try clear q1
           try clear hx1
           try clear p2
           try clear c5
           try clear c6
           try clear c6b0
           try clear c6b1
           try clear c7
           try clear c8
           try clear c8b0
           try clear c9
           try clear c9b0
           try clear c10
           try clear c10b0
           try clear c12
           try clear c12b0
           try clear hx176_0
           try clear p176
           try clear p2
           try clear q176
           obtain ⟨kq, x36_10, rfl, HA, HJ10, HO_6, HB⟩ := hcut
           cases kq with
           | zero => exact absurd HA.out (by simp [spec_UnwrapCounts.j2])
           | succ kj10 =>
            have H := HA.out
            clear HA
            simp only [spec_UnwrapCounts.j2] at H
            by_cases c13 : x36_10 = true
            ·subst c13
             rw [if_pos rfl] at H
             simp only [Option.some.injEq, Prod.mk.injEq] at H
             obtain ⟨rfl, rfl⟩ := H
             go_wp2
             go_ret2
             exact ⟨_, er_, by first | exact Kd.R_nil _ _ _ _ _ | exact Kd.N_nil _ _ _ _ _ | exact Kd.V_nil _ _ _ _ _ | exact Kd.Q_nil _ _ _ _ _ | exact Kd.S_nil _ _ _ _ _, hb_⟩
            ·replace c13 := Bool.eq_false_iff.mpr c13
             subst c13
             rw [if_neg (show ¬ (false = true) by decide)] at H
             by_cases c14 : x25_2 = 0
             ·rw [if_pos c14] at H
              have c14b0 : (x25_2 == 0) = true := beq_iff_eq.mpr c14
              have c14b1 : (x25_2 != 0) = false := bne_eq_false_iff_eq.mpr c14
              clear c14
              by_cases c15 : x6_2.length < 17592186044416
              ·rw [if_pos c15] at H
               have LMc15 := Aside0.mk c15
               clear c15
               obtain ⟨y177, hy177⟩ : ∃ y_ : List Int, y_ = (x6_2 ++ [(rd l0 x25_2)]) := ⟨_, rfl⟩
               replace H : (spec_UnwrapCounts.l0 kj10 l0 a1 y177 l0 (l0.length : Int) (wrap64 (x25_2 + 1))) = some (r1, r2) := by first | (rw [hy177]; with_reducible exact H) | (have H2_ := (Option.bind_some _ _).symm.trans H; rw [hy177]; with_reducible exact H2_) | (have H2_ := (Option.bind_some _ _).symm.trans H; with_reducible exact H2_) | with_reducible exact H | (rw [hy177]; exact H) | exact H
               have Ny177 := Aside0.mk hy177
               clear hy177
               have H' := Aside0.mk H
               clear H
               go_wp2_with (first | ((with_reducible refine gate_builtin (b := .append) (xs := #[.tmp 39, .tmp 41]) rfl ?_); (try (refine gate_guard (by rfl) ?_; dsimp only)); at_builtin; refine Kd.R_append (Kd.int .i64) (w0 := w) w.heap.size rfl (.tmp 39) (.tmp 41) 30 3 (.int .i64 0) 8 rfl Try.underlying30 info3 rfl (by decide) (by omega) u6 x6_2 (rd l0 x25_2) [.int .i64 (rd l0 x25_2)] (fun _ => True) (fun _ => False) rfl rfl ?aP (fun _ hk => hk.elim) ?aF ?aO ?aB ?aS ?aL ?_; (case aP => exact rfl); (case aB => exact hb_); (case aF => exact (fun _ _ => trivial)); (case aO => exact (ra_ HO_6.out)); (case aS => exact (below_size hb_)); (case aL => have := LMc15.out; omega); intro v178 w16 ho hb hg hat; rw [← Ny177.out] at ho; have n0_ := Aside0.mk (hb); have n1_ := Aside0.mk (ho); clear HB; clear HO_6; have HB := n0_; have HO179 := n1_; clear n0_ n1_; clear ho hb hg hat))
               go_roundg kj10
               case measure => have := HJ2.out; have := HK2.out; have := HJ10.out; omega
               case rel => exact ⟨(y177), (wrap64 (x25_2 + 1)), es_, H', ⟨by have := HJ2.out; have := HK2.out; have := HJ10.out; omega⟩, ⟨ra_ HO179.out⟩, ⟨hb_⟩⟩
              ·rw [if_neg c15] at H
               exact absurd H (by simp)
             ·rw [if_neg c14] at H
              have c14b0 : (x25_2 == 0) = false := beq_eq_false_iff_ne.mpr c14
              have c14b1 : (x25_2 != 0) = true := bne_iff_ne.mpr c14
              obtain ⟨ji17, hji17⟩ : ∃ j_ : Int, (wrap64 (x25_2 - 1)) = j_ := ⟨_, rfl⟩
              replace H : (if 0 ≤ (ji17) then (if (ji17) < (l0.length : Int) then ((spec_l8Mod.f (wrap64 ((rd l0 x25_2) - (rd l0 (ji17)))) a1).bind fun t181 => (if (wrap64 (2 * t181)) > a1 then (if (ji17) < (x6_2.length : Int) then (if x6_2.length < 17592186044416 then (spec_UnwrapCounts.l0 kj10 l0 a1 (x6_2 ++ [wrap64 ((rd x6_2 (ji17)) + (wrap64 (t181 - a1)))]) l0 (l0.length : Int) (wrap64 (x25_2 + 1))) else (none)) else (none)) else (if (ji17) < (x6_2.length : Int) then (if x6_2.length < 17592186044416 then (spec_UnwrapCounts.l0 kj10 l0 a1 (x6_2 ++ [wrap64 ((rd x6_2 (ji17)) + t181)]) l0 (l0.length : Int) (wrap64 (x25_2 + 1))) else (none)) else (none)))) else (none)) else (none)) = some (r1, r2) := by first | (rw [hji17] at H; exact H) | (simp only [hji17] at H ⊢; exact H)
              have hji17w : (IntKind.i64.wrap (x25_2 - 1)) = ji17 := (i64_w _).trans hji17
              by_cases c18 : 0 ≤ (ji17)
              ·rw [if_pos c18] at H
               have c18b0 : decide (0 ≤ (ji17)) = true := decide_eq_true c18
               clear c18
               by_cases c19 : (ji17) < (l0.length : Int)
               ·rw [if_pos c19] at H
                have c19b0 : decide ((ji17) < (l0.length : Int)) = true := decide_eq_true c19
                clear c19
                replace H := Option.bind_eq_some_iff.mp H
                obtain ⟨t181, A200, H⟩ := H
                replace H : (if (wrap64 (2 * t181)) > a1 then (if (ji17) < (x6_2.length : Int) then (if x6_2.length < 17592186044416 then (spec_UnwrapCounts.l0 kj10 l0 a1 (x6_2 ++ [wrap64 ((rd x6_2 (ji17)) + (wrap64 (t181 - a1)))]) l0 (l0.length : Int) (wrap64 (x25_2 + 1))) else (none)) else (none)) else (if (ji17) < (x6_2.length : Int) then (if x6_2.length < 17592186044416 then (spec_UnwrapCounts.l0 kj10 l0 a1 (x6_2 ++ [wrap64 ((rd x6_2 (ji17)) + t181)]) l0 (l0.length : Int) (wrap64 (x25_2 + 1))) else (none)) else (none))) = some (r1, r2) := H
                have A20 := Aside0.mk A200
                clear A200
                by_cases c21 : (wrap64 (2 * t181)) > a1
                ·rw [if_pos c21] at H
                 have c21b0 : decide (a1 < (wrap64 (2 * t181))) = true := decide_eq_true c21
                 clear c21
                 by_cases c22 : (ji17) < (x6_2.length : Int)
                 ·rw [if_pos c22] at H
                  have c22b0 : decide ((ji17) < (x6_2.length : Int)) = true := decide_eq_true c22
                  clear c22
                  by_cases c23 : x6_2.length < 17592186044416
                  ·rw [if_pos c23] at H
                   have LMc23 := Aside0.mk c23
                   clear c23
                   obtain ⟨y183, hy183⟩ : ∃ y_ : List Int, y_ = (x6_2 ++ [wrap64 ((rd x6_2 (ji17)) + (wrap64 (t181 - a1)))]) := ⟨_, rfl⟩
                   replace H : (spec_UnwrapCounts.l0 kj10 l0 a1 y183 l0 (l0.length : Int) (wrap64 (x25_2 + 1))) = some (r1, r2) := by first | (rw [hy183]; with_reducible exact H) | (have H2_ := (Option.bind_some _ _).symm.trans H; rw [hy183]; with_reducible exact H2_) | (have H2_ := (Option.bind_some _ _).symm.trans H; with_reducible exact H2_) | with_reducible exact H | (rw [hy183]; exact H) | exact H
                   have Ny183 := Aside0.mk hy183
                   clear hy183
                   have H' := Aside0.mk H
                   clear H
                   have p180 : 0 ≤ ((ji17) : Int) := of_decide_eq_true as_
                   have q180 : (ji17) < (l0.length : Int) := of_decide_eq_true as_
                   obtain ⟨ad180, e180, hx180_0⟩ := Kd.at_int HR0.out (ji17) p180 q180
                   obtain rfl : ad176 = ad180 := (by injection e180)
                   replace hx180_0 := hc_ HB hx180_0
                   replace p180 := eq_true p180
                   replace q180 := eq_true q180
                   go_wp2_with (first | ((with_reducible refine gate_callee (f := 54) rfl ?_); refine goesL_ (some 51) rfl rfl Try.func54 (by kernel_rfl) rfl #[.int .i64 (wrap64 ((rd l0 x25_2) - (rd l0 (ji17)))), .int .i64 a1] rfl (by (try simp only [List.map_toArray, List.map_cons, List.map_nil]); first | done | (simp only [hji17]; rfl) | rfl | (simp only [List.length_drop, List.length_take]; rfl)) ?_; (with_reducible refine (spec_l8Mod.calls (wrap64 ((rd l0 x25_2) - (rd l0 (ji17)))) a1 t181 _ A20.out).mono ?_); rintro e w' ⟨rfl, ⟨nd, rfl⟩⟩; refine ⟨_, rfl, ?_⟩; obtain ⟨Ao24, co24, eo24⟩ := Kd.R_slice HO_6.out; subst eo24; have p182 : 0 ≤ ((ji17) : Int) := of_decide_eq_true as_; have q182 : (ji17) < (x6_2.length : Int) := of_decide_eq_true as_; obtain ⟨ad182, e182, hx182_0⟩ := Kd.at_int (Kd.R_reads' HO_6.out).2.2 (ji17) p182 q182; cases e182; replace p182 := eq_true p182; replace q182 := eq_true q182) | ((with_reducible refine gate_builtin (b := .append) (xs := #[.tmp 59, .tmp 67]) rfl ?_); (try (refine gate_guard (by rfl) ?_; dsimp only)); at_builtin; refine Kd.R_append (Kd.int .i64) (w0 := w) w.heap.size rfl (.tmp 59) (.tmp 67) 30 3 (.int .i64 0) 8 rfl Try.underlying30 info3 rfl (by decide) (by omega) (.slice (some ad182) x6_2.length co24) x6_2 (wrap64 ((rd x6_2 (ji17)) + (wrap64 (t181 - a1)))) [.int .i64 (wrap64 ((rd x6_2 (ji17)) + (wrap64 (t181 - a1))))] (fun _ => True) (fun _ => False) rfl rfl ?aP (fun _ hk => hk.elim) ?aF ?aO ?aB ?aS ?aL ?_; (case aP => exact rfl); (case aB => exact hb_); (case aF => exact (fun _ _ => trivial)); (case aO => exact (ra_ HO_6.out)); (case aS => exact (below_size hb_)); (case aL => have := LMc23.out; omega); intro v184 w25 ho hb hg hat; rw [← Ny183.out] at ho; have n0_ := Aside0.mk (hb); have n1_ := Aside0.mk (ho); clear HB; clear HO_6; have HB := n0_; have HO185 := n1_; clear n0_ n1_; clear ho hb hg hat))
                   go_roundg kj10
                   case measure => have := HJ2.out; have := HK2.out; have := HJ10.out; omega
                   case rel => exact ⟨(y183), (wrap64 (x25_2 + 1)), es_, H', ⟨by have := HJ2.out; have := HK2.out; have := HJ10.out; omega⟩, ⟨ra_ HO185.out⟩, ⟨hb_⟩⟩
                  ·rw [if_neg c23] at H
                   exact absurd H (by simp)
                 ·rw [if_neg c22] at H
                  exact absurd H (by simp)
                ·rw [if_neg c21] at H
                 have c21b0 : decide (a1 < (wrap64 (2 * t181))) = false := decide_eq_false c21
                 clear c21
                 by_cases c26 : (ji17) < (x6_2.length : Int)
                 ·rw [if_pos c26] at H
                  have c26b0 : decide ((ji17) < (x6_2.length : Int)) = true := decide_eq_true c26
                  clear c26
                  by_cases c27 : x6_2.length < 17592186044416
                  ·rw [if_pos c27] at H
                   have LMc27 := Aside0.mk c27
                   clear c27
                   obtain ⟨y187, hy187⟩ : ∃ y_ : List Int, y_ = (x6_2 ++ [wrap64 ((rd x6_2 (ji17)) + t181)]) := ⟨_, rfl⟩
                   replace H : (spec_UnwrapCounts.l0 kj10 l0 a1 y187 l0 (l0.length : Int) (wrap64 (x25_2 + 1))) = some (r1, r2) := by first | (rw [hy187]; with_reducible exact H) | (have H2_ := (Option.bind_some _ _).symm.trans H; rw [hy187]; with_reducible exact H2_) | (have H2_ := (Option.bind_some _ _).symm.trans H; with_reducible exact H2_) | with_reducible exact H | (rw [hy187]; exact H) | exact H
                   have Ny187 := Aside0.mk hy187
                   clear hy187
                   have H' := Aside0.mk H
                   clear H
                   have p180 : 0 ≤ ((ji17) : Int) := of_decide_eq_true as_
                   have q180 : (ji17) < (l0.length : Int) := of_decide_eq_true as_
                   obtain ⟨ad180, e180, hx180_0⟩ := Kd.at_int HR0.out (ji17) p180 q180
                   obtain rfl : ad176 = ad180 := (by injection e180)
                   replace hx180_0 := hc_ HB hx180_0
                   replace p180 := eq_true p180
                   replace q180 := eq_true q180
                   go_wp2_with (first | ((with_reducible refine gate_callee (f := 54) rfl ?_); refine goesL_ (some 51) rfl rfl Try.func54 (by kernel_rfl) rfl #[.int .i64 (wrap64 ((rd l0 x25_2) - (rd l0 (ji17)))), .int .i64 a1] rfl (by (try simp only [List.map_toArray, List.map_cons, List.map_nil]); first | done | (simp only [hji17]; rfl) | rfl | (simp only [List.length_drop, List.length_take]; rfl)) ?_; (with_reducible refine (spec_l8Mod.calls (wrap64 ((rd l0 x25_2) - (rd l0 (ji17)))) a1 t181 _ A20.out).mono ?_); rintro e w' ⟨rfl, ⟨nd, rfl⟩⟩; refine ⟨_, rfl, ?_⟩; obtain ⟨Ao28, co28, eo28⟩ := Kd.R_slice HO_6.out; subst eo28; have p186 : 0 ≤ ((ji17) : Int) := of_decide_eq_true as_; have q186 : (ji17) < (x6_2.length : Int) := of_decide_eq_true as_; obtain ⟨ad186, e186, hx186_0⟩ := Kd.at_int (Kd.R_reads' HO_6.out).2.2 (ji17) p186 q186; cases e186; replace p186 := eq_true p186; replace q186 := eq_true q186) | ((with_reducible refine gate_builtin (b := .append) (xs := #[.tmp 59, .tmp 67]) rfl ?_); (try (refine gate_guard (by rfl) ?_; dsimp only)); at_builtin; refine Kd.R_append (Kd.int .i64) (w0 := w) w.heap.size rfl (.tmp 59) (.tmp 67) 30 3 (.int .i64 0) 8 rfl Try.underlying30 info3 rfl (by decide) (by omega) (.slice (some ad186) x6_2.length co28) x6_2 (wrap64 ((rd x6_2 (ji17)) + t181)) [.int .i64 (wrap64 ((rd x6_2 (ji17)) + t181))] (fun _ => True) (fun _ => False) rfl rfl ?aP (fun _ hk => hk.elim) ?aF ?aO ?aB ?aS ?aL ?_; (case aP => exact rfl); (case aB => exact hb_); (case aF => exact (fun _ _ => trivial)); (case aO => exact (ra_ HO_6.out)); (case aS => exact (below_size hb_)); (case aL => have := LMc27.out; omega); intro v188 w29 ho hb hg hat; rw [← Ny187.out] at ho; have n0_ := Aside0.mk (hb); have n1_ := Aside0.mk (ho); clear HB; clear HO_6; have HB := n0_; have HO189 := n1_; clear n0_ n1_; clear ho hb hg hat))
                   go_roundg kj10
                   case measure => have := HJ2.out; have := HK2.out; have := HJ10.out; omega
                   case rel => exact ⟨(y187), (wrap64 (x25_2 + 1)), es_, H', ⟨by have := HJ2.out; have := HK2.out; have := HJ10.out; omega⟩, ⟨ra_ HO189.out⟩, ⟨hb_⟩⟩
                  ·rw [if_neg c27] at H
                   exact absurd H (by simp)
                 ·rw [if_neg c26] at H
                  exact absurd H (by simp)
               ·rw [if_neg c19] at H
                exact absurd H (by simp)
              ·rw [if_neg c18] at H
               exact absurd H (by simp)
         ·rw [if_neg c10] at H
          exact absurd H (by simp)
        ·rw [if_neg c9] at H
         exact absurd H (by simp)
       ·rw [if_neg c8] at H
        have c8b0 : decide (x25_2 < (l0.length : Int)) = false := decide_eq_false c8
        clear c8
        simp only [Option.some.injEq, Prod.mk.injEq] at H
        obtain ⟨rfl, rfl⟩ := H
        go_wp2
        go_ret2
        exact ⟨_, er_, by (with_reducible repeat (first | apply Kd.R_alloc | apply Kd.R_drewN | apply Kd.R_drew)); exact HO_6.out, hb_⟩

end Go.Proofs.Ytkhkgfihodljmaa.Pr
