-- Written by this session's own print (wip/tools/mkmp.py) out of the translation. Lean checks it.
import Derived.Test.YtbdonoeellmeoaaPr0
import Derived.Test.YtbdonoeellmeoaaPr4
import Derived.Test.YtbdonoeellmeoaaPr5
import Derived.Test.YtbdonoeellmeoaaPr6
import Derived.Test.YtbdonoeellmeoaaPr7
import Derived.Test.YtbdonoeellmeoaaPrd1
namespace Go.Proofs.Ytbdonoeellmeoaa.Pr
open Go.RowKit Go.Proofs.YtbdonoeellmeoaaW.PrintWords Go.Proofs.YtbdonoeellmeoaaW.PrintLast Go.Proofs.YtbdonoeellmeoaaW.PrintMore
attribute [local go_sem] max2_int min2_int max_two min_two max_three min_three max_four min_four   -- for this text's walks alone
set_option linter.unusedVariables false
set_option linter.unusedSimpArgs false

set_option maxHeartbeats 8000000 in
set_option maxRecDepth 100000 in
theorem laws_FnExactArbitrate.calls (k : Nat) (A0 : Option Addr) (c0 : Nat) (l0 : List Int) (r : Bool) (w : World) (hr0 : Kd.C (Kd.int .i64) w A0 l0.length l0) (hc0 : l0.length ≤ c0) (h : laws_FnExactArbitrate.f k l0 = some r) :
   Calls Try.prog 4 #[.slice A0 l0.length c0] w fun e w' => e = .returned (.bool r) ∧ Below w.heap.size w w' := by
  have HR0 := Aside0.mk hr0
  have HC0 := Aside0.mk hc0
  clear hr0 hc0
  have HB := Aside0.mk (Below.refl w.heap.size w)
  have H : (if (l0.length : Int) > 1048576 then (some true) else ((laws_toIntS.f k l0).bind fun t173 => ((spec_Arbitrate.f k t173).bind fun bt176 => ((laws_toIntS.f k l0).bind fun t181 => ((impl_Arbitrate.f k t181).bind fun bt184 => (if bt184.1 = bt176.1 then ((laws_eqIntS.f k bt184.2.1 bt176.2.1).bind fun t189 => (if t189 = true then (laws_FnExactArbitrate.j0 k l0 bt176.1 bt176.2.1 bt176.2.2 t181 bt184.1 bt184.2.1 bt184.2.2 (bt184.2.2 != bt176.2.2)) else (laws_FnExactArbitrate.j0 k l0 bt176.1 bt176.2.1 bt176.2.2 t181 bt184.1 bt184.2.1 bt184.2.2 true))) else (laws_FnExactArbitrate.j0 k l0 bt176.1 bt176.2.1 bt176.2.2 t181 bt184.1 bt184.2.1 bt184.2.2 true))))))) = some r := h
  clear h
  by_cases c2 : (l0.length : Int) > 1048576
  ·rw [if_pos c2] at H
   have c2b0 : decide (1048576 < (l0.length : Int)) = true := decide_eq_true c2
   have c2b1 : decide (1048576 < l0.length) = true := decide_eq_true (by omega)
   clear c2
   obtain rfl := Option.some.inj H
   go_enter Try.func4, Try.ntmps4
   go_wp2
   go_ret
   exact ⟨er_, hb_⟩
  ·rw [if_neg c2] at H
   have c2b0 : decide (1048576 < (l0.length : Int)) = false := decide_eq_false c2
   have c2b1 : decide (1048576 < l0.length) = false := decide_eq_false (by omega)
   clear c2
   replace H := Option.bind_eq_some_iff.mp H
   obtain ⟨t173, A30, H⟩ := H
   replace H : ((spec_Arbitrate.f k t173).bind fun bt176 => ((laws_toIntS.f k l0).bind fun t181 => ((impl_Arbitrate.f k t181).bind fun bt184 => (if bt184.1 = bt176.1 then ((laws_eqIntS.f k bt184.2.1 bt176.2.1).bind fun t189 => (if t189 = true then (laws_FnExactArbitrate.j0 k l0 bt176.1 bt176.2.1 bt176.2.2 t181 bt184.1 bt184.2.1 bt184.2.2 (bt184.2.2 != bt176.2.2)) else (laws_FnExactArbitrate.j0 k l0 bt176.1 bt176.2.1 bt176.2.2 t181 bt184.1 bt184.2.1 bt184.2.2 true))) else (laws_FnExactArbitrate.j0 k l0 bt176.1 bt176.2.1 bt176.2.2 t181 bt184.1 bt184.2.1 bt184.2.2 true))))) = some r := H
   have A3 := Aside0.mk A30
   clear A30
   replace H := Option.bind_eq_some_iff.mp H
   obtain ⟨⟨t176, t177, t178⟩, A40, H⟩ := H
   replace H : ((laws_toIntS.f k l0).bind fun t181 => ((impl_Arbitrate.f k t181).bind fun bt184 => (if bt184.1 = t176 then ((laws_eqIntS.f k bt184.2.1 t177).bind fun t189 => (if t189 = true then (laws_FnExactArbitrate.j0 k l0 t176 t177 t178 t181 bt184.1 bt184.2.1 bt184.2.2 (bt184.2.2 != t178)) else (laws_FnExactArbitrate.j0 k l0 t176 t177 t178 t181 bt184.1 bt184.2.1 bt184.2.2 true))) else (laws_FnExactArbitrate.j0 k l0 t176 t177 t178 t181 bt184.1 bt184.2.1 bt184.2.2 true)))) = some r := H
   have A4 := Aside0.mk A40
   clear A40
   replace H := Option.bind_eq_some_iff.mp H
   obtain ⟨t181, A50, H⟩ := H
   replace H : ((impl_Arbitrate.f k t181).bind fun bt184 => (if bt184.1 = t176 then ((laws_eqIntS.f k bt184.2.1 t177).bind fun t189 => (if t189 = true then (laws_FnExactArbitrate.j0 k l0 t176 t177 t178 t181 bt184.1 bt184.2.1 bt184.2.2 (bt184.2.2 != t178)) else (laws_FnExactArbitrate.j0 k l0 t176 t177 t178 t181 bt184.1 bt184.2.1 bt184.2.2 true))) else (laws_FnExactArbitrate.j0 k l0 t176 t177 t178 t181 bt184.1 bt184.2.1 bt184.2.2 true))) = some r := H
   have A5 := Aside0.mk A50
   clear A50
   replace H := Option.bind_eq_some_iff.mp H
   obtain ⟨⟨t184, t185, t186⟩, A60, H⟩ := H
   replace H : (if t184 = t176 then ((laws_eqIntS.f k t185 t177).bind fun t189 => (if t189 = true then (laws_FnExactArbitrate.j0 k l0 t176 t177 t178 t181 t184 t185 t186 (t186 != t178)) else (laws_FnExactArbitrate.j0 k l0 t176 t177 t178 t181 t184 t185 t186 true))) else (laws_FnExactArbitrate.j0 k l0 t176 t177 t178 t181 t184 t185 t186 true)) = some r := H
   have A6 := Aside0.mk A60
   clear A60
   have HC7 := Aside0.mk H
   clear H
   go_enter Try.func4, Try.ntmps4
   go_upto_region 6 with (first | ((with_reducible refine gate_callee (f := 14) rfl ?_); refine goesL_ (some 21) rfl rfl Try.func14 (by kernel_rfl) rfl #[.slice A0 l0.length c0] rfl ls_ ?_; (with_reducible refine (laws_toIntS.calls k _ _ l0 t173 _ ?side1 ?side2 A3.out).mono ?_); (case side1 => repeat (first | exact HR0.out | (with_reducible refine Kd.C_alloc ?_ _) | (with_reducible refine Kd.C_drewN ?_ _) | (with_reducible refine Kd.C_drew ?_))); (case side2 => exact HC0.out); rintro e w8 ⟨v174, rfl, ho0, hb⟩; refine ⟨_, rfl, ?_⟩; have n0_ := Aside0.mk (Kd.R_lower ho0 (below_size hb_)); have n1_ := Aside0.mk (below_step hb_ hb); clear HB; have HO175 := n0_; have HB := n1_; clear n0_ n1_; (try clear hb); (try clear hb2); (try clear hk); (try clear hi); (try clear ho0); obtain ⟨Ao9, co9, eo9⟩ := Kd.R_slice HO175.out; subst eo9) | ((with_reducible refine gate_callee (f := 13) rfl ?_); refine goesL_ (some 22) rfl rfl Try.func13 (by kernel_rfl) rfl #[.slice Ao9 t173.length co9] rfl ls_ ?_; (with_reducible refine (spec_Arbitrate.calls k _ _ t173 t176 t177 t178 _ ?side1 ?side2 A4.out).mono ?_); (case side1 => exact ca_ (Kd.R_reads' HO175.out).2.2); (case side2 => exact (Kd.R_reads' HO175.out).2.1); rintro e w10 ⟨v179, rfl, ho0, hb⟩; refine ⟨_, rfl, ?_⟩; have n0_ := Aside0.mk (Kd.R_elder' (ra_ HO175.out) (Kd.R_base ho0) hb); have n1_ := Aside0.mk (Kd.R_lower (Kd.R_new' ho0 (Kd.R_lt (ra_ HO175.out))) (below_size hb_)); have n2_ := Aside0.mk (below_step hb_ hb); clear HO175; clear HB; have HO175 := n0_; have HO180 := n1_; have HB := n2_; clear n0_ n1_ n2_; (try clear hb); (try clear hb2); (try clear hk); (try clear hi); (try clear ho0)) | ((with_reducible refine gate_callee (f := 14) rfl ?_); refine goesL_ (some 27) rfl rfl Try.func14 (by kernel_rfl) rfl #[.slice A0 l0.length c0] rfl ls_ ?_; (with_reducible refine (laws_toIntS.calls k _ _ l0 t181 _ ?side1 ?side2 A5.out).mono ?_); (case side1 => exact cb_ HR0.out); (case side2 => exact HC0.out); rintro e w11 ⟨v182, rfl, ho0, hb⟩; refine ⟨_, rfl, ?_⟩; have n0_ := Aside0.mk (Kd.R_elder' (ra_ HO175.out) (Kd.R_base ho0) hb); have n1_ := Aside0.mk (Kd.R_elder' (ra_ HO180.out) (Kd.R_base ho0) hb); have n2_ := Aside0.mk (Kd.R_lower (Kd.R_new' (Kd.R_new' ho0 (Kd.R_lt (ra_ HO175.out))) (Kd.R_lt (ra_ HO180.out))) (below_size hb_)); have n3_ := Aside0.mk (below_step hb_ hb); clear HO175; clear HO180; clear HB; have HO175 := n0_; have HO180 := n1_; have HO183 := n2_; have HB := n3_; clear n0_ n1_ n2_ n3_; (try clear hb); (try clear hb2); (try clear hk); (try clear hi); (try clear ho0); obtain ⟨Ao12, co12, eo12⟩ := Kd.R_slice HO183.out; subst eo12) | ((with_reducible refine gate_callee (f := 15) rfl ?_); refine goesL_ (some 30) rfl rfl Try.func15 (by kernel_rfl) rfl #[.slice Ao12 t181.length co12] rfl ls_ ?_; (with_reducible refine (impl_Arbitrate.calls k _ _ t181 t184 t185 t186 _ ?side1 ?side2 A6.out).mono ?_); (case side1 => exact ca_ (Kd.R_reads' HO183.out).2.2); (case side2 => exact (Kd.R_reads' HO183.out).2.1); rintro e w13 ⟨v187, rfl, ho0, hb⟩; refine ⟨_, rfl, ?_⟩; have n0_ := Aside0.mk (Kd.R_elder' (ra_ HO175.out) (Kd.R_base ho0) hb); have n1_ := Aside0.mk (Kd.R_elder' (ra_ HO180.out) (Kd.R_base ho0) hb); have n2_ := Aside0.mk (Kd.R_elder' (ra_ HO183.out) (Kd.R_base ho0) hb); have n3_ := Aside0.mk (Kd.R_lower (Kd.R_new' (Kd.R_new' (Kd.R_new' ho0 (Kd.R_lt (ra_ HO175.out))) (Kd.R_lt (ra_ HO180.out))) (Kd.R_lt (ra_ HO183.out))) (below_size hb_)); have n4_ := Aside0.mk (below_step hb_ hb); clear HO175; clear HO180; clear HO183; clear HB; have HO175 := n0_; have HO180 := n1_; have HO183 := n2_; have HO188 := n3_; have HB := n4_; clear n0_ n1_ n2_ n3_ n4_; (try clear hb); (try clear hb2); (try clear hk); (try clear hi); (try clear ho0)))
   (try simp only [Act.put, List.setIfInBounds_toArray, List.set_cons_zero, List.set_cons_succ])
   go_cut [47] (fun v47 wc => ∃ (kq : Nat) (x47_6 : Bool), v47 = .bool x47_6 ∧ Aside0 (laws_FnExactArbitrate.j0 kq l0 t176 t177 t178 t181 t184 t185 t186 x47_6 = some r) ∧ Aside0 (kq ≤ k) ∧ Aside0 (Kd.R (Kd.int .i64) 3 wc w.heap.size (fun k_ => some k_ ≠ ((.slice Ao12 t181.length co12) : Value).ownBlock ∧ some k_ ≠ (v187 : Value).ownBlock) v179 t177) ∧ Aside0 (Kd.R (Kd.int .i64) 3 wc w.heap.size (fun k_ => some k_ ≠ (v179 : Value).ownBlock ∧ some k_ ≠ (v187 : Value).ownBlock) (.slice Ao12 t181.length co12) t181) ∧ Aside0 (Kd.R (Kd.int .i64) 3 wc w.heap.size (fun k_ => some k_ ≠ (v179 : Value).ownBlock ∧ some k_ ≠ ((.slice Ao12 t181.length co12) : Value).ownBlock) v187 t185) ∧ Aside0 (Below w.heap.size w wc))
   case first =>
    have H := HC7.out
    clear HC7
    by_cases c14 : t184 = t176
    ·rw [if_pos c14] at H
     have c14b0 : (t184 == t176) = true := beq_iff_eq.mpr c14
     have c14b1 : (t184 != t176) = false := bne_eq_false_iff_eq.mpr c14
     clear c14
     (first | rw [c14b0] | (simp only [i64_w, i32_w]; rw [c14b0]) | skip)
     replace H := Option.bind_eq_some_iff.mp H
     obtain ⟨t189, A150, H⟩ := H
     replace H : (if t189 = true then (laws_FnExactArbitrate.j0 k l0 t176 t177 t178 t181 t184 t185 t186 (t186 != t178)) else (laws_FnExactArbitrate.j0 k l0 t176 t177 t178 t181 t184 t185 t186 true)) = some r := H
     have A15 := Aside0.mk A150
     clear A150
     by_cases c16 : t189 = true
     ·subst c16
      rw [if_pos rfl] at H
      have H' := Aside0.mk H
      clear H
      obtain ⟨Ao17, co17, eo17⟩ := Kd.R_slice HO188.out
      subst eo17
      obtain ⟨Ao18, co18, eo18⟩ := Kd.R_slice HO180.out
      subst eo18
      go_wp2_with (first | (go_at_call 16; (with_reducible refine (laws_eqIntS.calls k _ _ t185 _ _ t177 true _ ?side1 ?side2 ?side3 ?side4 A15.out).mono ?_); (case side1 => exact ca_ (Kd.R_reads' HO188.out).2.2); (case side2 => exact (Kd.R_reads' HO188.out).2.1); (case side3 => exact ca_ (Kd.R_reads' HO180.out).2.2); (case side4 => exact (Kd.R_reads' HO180.out).2.1); rintro e w' ⟨rfl, ⟨nd, rfl⟩⟩))
      go_meet
      case rel => exact ⟨_, ((t186 != t178)), es_, H', ⟨by first | omega | exact Nat.le_refl _⟩, ⟨by (with_reducible repeat (first | apply Kd.R_alloc | apply Kd.R_drewN | apply Kd.R_drew)); exact Kd.R_mono HO180.out (fun _ hk => ⟨hk.1.2, hk.2⟩)⟩, ⟨by (with_reducible repeat (first | apply Kd.R_alloc | apply Kd.R_drewN | apply Kd.R_drew)); exact Kd.R_mono HO183.out (fun _ hk => ⟨hk.1.2, hk.2⟩)⟩, ⟨by (with_reducible repeat (first | apply Kd.R_alloc | apply Kd.R_drewN | apply Kd.R_drew)); exact Kd.R_mono HO188.out (fun _ hk => ⟨hk.1.2, hk.2⟩)⟩, ⟨hb_⟩⟩
     ·replace c16 := Bool.eq_false_iff.mpr c16
      subst c16
      rw [if_neg (show ¬ (false = true) by decide)] at H
      have H' := Aside0.mk H
      clear H
      obtain ⟨Ao19, co19, eo19⟩ := Kd.R_slice HO188.out
      subst eo19
      obtain ⟨Ao20, co20, eo20⟩ := Kd.R_slice HO180.out
      subst eo20
      go_wp2_with (first | (go_at_call 16; (with_reducible refine (laws_eqIntS.calls k _ _ t185 _ _ t177 false _ ?side1 ?side2 ?side3 ?side4 A15.out).mono ?_); (case side1 => exact ca_ (Kd.R_reads' HO188.out).2.2); (case side2 => exact (Kd.R_reads' HO188.out).2.1); (case side3 => exact ca_ (Kd.R_reads' HO180.out).2.2); (case side4 => exact (Kd.R_reads' HO180.out).2.1); rintro e w' ⟨rfl, ⟨nd, rfl⟩⟩))
      go_meet
      case rel => exact ⟨_, (true), es_, H', ⟨by first | omega | exact Nat.le_refl _⟩, ⟨by (with_reducible repeat (first | apply Kd.R_alloc | apply Kd.R_drewN | apply Kd.R_drew)); exact Kd.R_mono HO180.out (fun _ hk => ⟨hk.1.2, hk.2⟩)⟩, ⟨by (with_reducible repeat (first | apply Kd.R_alloc | apply Kd.R_drewN | apply Kd.R_drew)); exact Kd.R_mono HO183.out (fun _ hk => ⟨hk.1.2, hk.2⟩)⟩, ⟨by (with_reducible repeat (first | apply Kd.R_alloc | apply Kd.R_drewN | apply Kd.R_drew)); exact Kd.R_mono HO188.out (fun _ hk => ⟨hk.1.2, hk.2⟩)⟩, ⟨hb_⟩⟩
    ·rw [if_neg c14] at H
     have c14b0 : (t184 == t176) = false := beq_eq_false_iff_ne.mpr c14
     have c14b1 : (t184 != t176) = true := bne_iff_ne.mpr c14
     (first | rw [c14b0] | (simp only [i64_w, i32_w]; rw [c14b0]) | skip)
     have H' := Aside0.mk H
     clear H
     go_wp2
     go_meet
     case rel => exact ⟨_, (true), es_, H', ⟨by first | omega | exact Nat.le_refl _⟩, ⟨by (with_reducible repeat (first | apply Kd.R_alloc | apply Kd.R_drewN | apply Kd.R_drew)); exact Kd.R_mono HO180.out (fun _ hk => ⟨hk.1.2, hk.2⟩)⟩, ⟨by (with_reducible repeat (first | apply Kd.R_alloc | apply Kd.R_drewN | apply Kd.R_drew)); exact Kd.R_mono HO183.out (fun _ hk => ⟨hk.1.2, hk.2⟩)⟩, ⟨by (with_reducible repeat (first | apply Kd.R_alloc | apply Kd.R_drewN | apply Kd.R_drew)); exact Kd.R_mono HO188.out (fun _ hk => ⟨hk.1.2, hk.2⟩)⟩, ⟨hb_⟩⟩
   case rest =>
    clear HC7
    try clear c1
    try clear c2
    try clear c2b0
    try clear c2b1
    try clear p2
    try clear c4
    try clear c13
    try clear c14
    try clear c14b0
    try clear c14b1
    try clear c15
    try clear c16
    obtain ⟨kq, x47_6, rfl, HA, HJ6, HO_4, HO_6, HO_8, HB⟩ := hcut
    cases kq with
    | zero => exact absurd HA.out (by simp [laws_FnExactArbitrate.j0])
    | succ kj6 =>
     have H := HA.out
     clear HA
     simp only [laws_FnExactArbitrate.j0] at H
     by_cases c21 : x47_6 = true
     ·subst c21
      rw [if_pos rfl] at H
      obtain rfl := Option.some.inj H
      go_wp2
      go_ret
      exact ⟨er_, hb_⟩
     ·replace c21 := Bool.eq_false_iff.mpr c21
      subst c21
      rw [if_neg (show ¬ (false = true) by decide)] at H
      replace H := Option.bind_eq_some_iff.mp H
      obtain ⟨t190, A220, H⟩ := H
      replace H : ((laws_eqIntS.f kj6 t181 t190).bind fun t193 => (if t193 = true then ((laws_markIntS.f kj6 t181 1).bind fun bt194 => (if bt194.1 < 0 then (laws_FnExactArbitrate.j1 kj6 l0 t176 t177 t178 t185 true) else (if t184 = t176 then ((laws_eqIntS.f kj6 t185 t177).bind fun t196 => (if t196 = true then (laws_FnExactArbitrate.j1 kj6 l0 t176 t177 t178 t185 (t186 != t178)) else (laws_FnExactArbitrate.j1 kj6 l0 t176 t177 t178 t185 true))) else (laws_FnExactArbitrate.j1 kj6 l0 t176 t177 t178 t185 true)))) else (some false))) = some r := H
      have A22 := Aside0.mk A220
      clear A220
      replace H := Option.bind_eq_some_iff.mp H
      obtain ⟨t193, A230, H⟩ := H
      replace H : (if t193 = true then ((laws_markIntS.f kj6 t181 1).bind fun bt194 => (if bt194.1 < 0 then (laws_FnExactArbitrate.j1 kj6 l0 t176 t177 t178 t185 true) else (if t184 = t176 then ((laws_eqIntS.f kj6 t185 t177).bind fun t196 => (if t196 = true then (laws_FnExactArbitrate.j1 kj6 l0 t176 t177 t178 t185 (t186 != t178)) else (laws_FnExactArbitrate.j1 kj6 l0 t176 t177 t178 t185 true))) else (laws_FnExactArbitrate.j1 kj6 l0 t176 t177 t178 t185 true)))) else (some false)) = some r := H
      have A23 := Aside0.mk A230
      clear A230
      by_cases c24 : t193 = true
      ·subst c24
       rw [if_pos rfl] at H
       replace H := Option.bind_eq_some_iff.mp H
       obtain ⟨⟨t194, t195⟩, A250, H⟩ := H
       replace H : (if t194 < 0 then (laws_FnExactArbitrate.j1 kj6 l0 t176 t177 t178 t185 true) else (if t184 = t176 then ((laws_eqIntS.f kj6 t185 t177).bind fun t196 => (if t196 = true then (laws_FnExactArbitrate.j1 kj6 l0 t176 t177 t178 t185 (t186 != t178)) else (laws_FnExactArbitrate.j1 kj6 l0 t176 t177 t178 t185 true))) else (laws_FnExactArbitrate.j1 kj6 l0 t176 t177 t178 t185 true))) = some r := H
       have A25 := Aside0.mk A250
       clear A250
       have HC26 := Aside0.mk H
       clear H
       go_upto_region 12 with (first | ((with_reducible refine gate_callee (f := 14) rfl ?_); refine goesL_ (some 50) rfl rfl Try.func14 (by kernel_rfl) rfl #[.slice A0 l0.length c0] rfl ls_ ?_; (with_reducible refine (laws_toIntS.calls kj6 _ _ l0 t190 _ ?side1 ?side2 A22.out).mono ?_); (case side1 => exact cb_ HR0.out); (case side2 => exact HC0.out); rintro e w27 ⟨v191, rfl, ho0, hb⟩; refine ⟨_, rfl, ?_⟩; have n0_ := Aside0.mk (Kd.R_elder' (ra_ HO_4.out) (Kd.R_base ho0) hb); have n1_ := Aside0.mk (Kd.R_elder' (ra_ HO_6.out) (Kd.R_base ho0) hb); have n2_ := Aside0.mk (Kd.R_elder' (ra_ HO_8.out) (Kd.R_base ho0) hb); have n3_ := Aside0.mk (Kd.R_lower (Kd.R_new' (Kd.R_new' (Kd.R_new' ho0 (Kd.R_lt (ra_ HO_4.out))) (Kd.R_lt (ra_ HO_6.out))) (Kd.R_lt (ra_ HO_8.out))) (below_size hb_)); have n4_ := Aside0.mk (below_step hb_ hb); clear HO_4; clear HO_6; clear HO_8; clear HB; have HO_4 := n0_; have HO_6 := n1_; have HO_8 := n2_; have HO192 := n3_; have HB := n4_; clear n0_ n1_ n2_ n3_ n4_; (try clear hb); (try clear hb2); (try clear hk); (try clear hi); (try clear ho0); obtain ⟨Ao28, co28, eo28⟩ := Kd.R_slice HO192.out; subst eo28) | ((with_reducible refine gate_callee (f := 16) rfl ?_); refine goesL_ (some 51) rfl rfl Try.func16 (by kernel_rfl) rfl #[.slice Ao12 t181.length co12, .slice Ao28 t190.length co28] rfl ls_ ?_; (with_reducible refine (laws_eqIntS.calls kj6 _ _ t181 _ _ t190 true _ ?side1 ?side2 ?side3 ?side4 A23.out).mono ?_); (case side1 => exact ca_ (Kd.R_reads' HO_6.out).2.2); (case side2 => exact (Kd.R_reads' HO_6.out).2.1); (case side3 => exact ca_ (Kd.R_reads' HO192.out).2.2); (case side4 => exact (Kd.R_reads' HO192.out).2.1); rintro e w' ⟨rfl, ⟨nd, rfl⟩⟩; refine ⟨_, rfl, ?_⟩) | ((with_reducible refine gate_callee (f := 17) rfl ?_); refine goesL_ (some 55) rfl rfl Try.func17 (by kernel_rfl) rfl #[.slice Ao12 t181.length co12, .int .i64 1] rfl ls_ ?_; (with_reducible refine (laws_markIntS.calls kj6 (fun k_ => some k_ = (.slice Ao12 t181.length co12 : Value).ownBlock) (.slice Ao12 t181.length co12) t181 1 t194 t195 w _ ?side1 ?side2 A25.out).mono ?_); (case side1 => repeat (first | (with_reducible first | exact HB.out | apply below_alloc | apply pw_below_drewN | apply below_drew1) | exact HB.out)); (case side2 => exact Kd.R_tight rfl HO_6.out); rintro e w29 ⟨rfl, hy0, hb, hkp⟩; refine ⟨_, rfl, ?_⟩; have n0_ := Aside0.mk (Kd.R_mono (ok' := fun k_ => some k_ ≠ (.slice Ao12 t181.length co12 : Value).ownBlock ∧ some k_ ≠ (v187 : Value).ownBlock ∧ some k_ ≠ (.slice Ao28 t190.length co28 : Value).ownBlock) (Kd.R_keptB (HO_4.out) hkp (fun k_ hk_ hs_ => (hk_.1.1) hs_)) (fun k_ hk_ => ⟨hk_.1.1.1, hk_.1.1.2, hk_.1.2⟩)); have n1_ := Aside0.mk (Kd.R_reok rfl hy0 (fun k_ e_ => HO_6.out.1 k_ e_)); have n2_ := Aside0.mk (Kd.R_mono (ok' := fun k_ => some k_ ≠ (v179 : Value).ownBlock ∧ some k_ ≠ (.slice Ao12 t181.length co12 : Value).ownBlock ∧ some k_ ≠ (.slice Ao28 t190.length co28 : Value).ownBlock) (Kd.R_keptB (HO_8.out) hkp (fun k_ hk_ hs_ => (hk_.1.2) hs_)) (fun k_ hk_ => ⟨hk_.1.1.1, hk_.1.1.2, hk_.1.2⟩)); have n3_ := Aside0.mk (Kd.R_mono (ok' := fun k_ => some k_ ≠ (v179 : Value).ownBlock ∧ some k_ ≠ (.slice Ao12 t181.length co12 : Value).ownBlock ∧ some k_ ≠ (v187 : Value).ownBlock) (Kd.R_keptB (HO192.out) hkp (fun k_ hk_ hs_ => (hk_.1.2) hs_)) (fun k_ hk_ => ⟨hk_.1.1.1.2, hk_.1.1.2, hk_.1.2⟩)); have n4_ := Aside0.mk (hb); clear HO_4; clear HO_6; clear HO_8; clear HO192; clear HB; have HO_4 := n0_; have HO_6 := n1_; have HO_8 := n2_; have HO192 := n3_; have HB := n4_; clear n0_ n1_ n2_ n3_ n4_; (try clear hb); (try clear hkp); (try clear hy0)))
       (try simp only [Act.put, List.setIfInBounds_toArray, List.set_cons_zero, List.set_cons_succ])
       go_cut [73] (fun v73 wc => ∃ (kq : Nat) (x73_25 : Bool), v73 = .bool x73_25 ∧ Aside0 (laws_FnExactArbitrate.j1 kq l0 t176 t177 t178 t185 x73_25 = some r) ∧ Aside0 (kq ≤ kj6) ∧ Aside0 (Kd.R (Kd.int .i64) 3 wc w.heap.size (fun k_ => some k_ ≠ (v187 : Value).ownBlock) v179 t177) ∧ Aside0 (Kd.R (Kd.int .i64) 3 wc w.heap.size (fun k_ => some k_ ≠ (v179 : Value).ownBlock) v187 t185) ∧ Aside0 (Below w.heap.size w wc))
       case first =>
        have H := HC26.out
        clear HC26
        by_cases c30 : t194 < 0
        ·rw [if_pos c30] at H
         have c30b0 : decide (t194 < 0) = true := decide_eq_true c30
         clear c30
         (first | rw [c30b0] | (simp only [i64_w, i32_w]; rw [c30b0]) | skip)
         have H' := Aside0.mk H
         clear H
         go_wp2
         go_meet
         case rel => exact ⟨_, (true), es_, H', ⟨by have := HJ6.out; first | omega | exact Nat.le_refl _⟩, ⟨by (with_reducible repeat (first | apply Kd.R_alloc | apply Kd.R_drewN | apply Kd.R_drew)); exact Kd.R_mono HO_4.out (fun _ hk => hk.2.1)⟩, ⟨by (with_reducible repeat (first | apply Kd.R_alloc | apply Kd.R_drewN | apply Kd.R_drew)); exact Kd.R_mono HO_8.out (fun _ hk => hk.1)⟩, ⟨hb_⟩⟩
        ·rw [if_neg c30] at H
         have c30b0 : decide (t194 < 0) = false := decide_eq_false c30
         clear c30
         (first | rw [c30b0] | (simp only [i64_w, i32_w]; rw [c30b0]) | skip)
         by_cases c31 : t184 = t176
         ·rw [if_pos c31] at H
          have c31b0 : (t184 == t176) = true := beq_iff_eq.mpr c31
          have c31b1 : (t184 != t176) = false := bne_eq_false_iff_eq.mpr c31
          clear c31
          replace H := Option.bind_eq_some_iff.mp H
          obtain ⟨t196, A320, H⟩ := H
          replace H : (if t196 = true then (laws_FnExactArbitrate.j1 kj6 l0 t176 t177 t178 t185 (t186 != t178)) else (laws_FnExactArbitrate.j1 kj6 l0 t176 t177 t178 t185 true)) = some r := H
          have A32 := Aside0.mk A320
          clear A320
          by_cases c33 : t196 = true
          ·subst c33
           rw [if_pos rfl] at H
           have H' := Aside0.mk H
           clear H
           obtain ⟨Ao34, co34, eo34⟩ := Kd.R_slice HO_8.out
           subst eo34
           obtain ⟨Ao35, co35, eo35⟩ := Kd.R_slice HO_4.out
           subst eo35
           go_wp2_with (first | (go_at_call 16; (with_reducible refine (laws_eqIntS.calls kj6 _ _ t185 _ _ t177 true _ ?side1 ?side2 ?side3 ?side4 A32.out).mono ?_); (case side1 => exact ca_ (Kd.R_reads' HO_8.out).2.2); (case side2 => exact (Kd.R_reads' HO_8.out).2.1); (case side3 => exact ca_ (Kd.R_reads' HO_4.out).2.2); (case side4 => exact (Kd.R_reads' HO_4.out).2.1); rintro e w' ⟨rfl, ⟨nd, rfl⟩⟩))
           go_meet
           case rel => exact ⟨_, ((t186 != t178)), es_, H', ⟨by have := HJ6.out; first | omega | exact Nat.le_refl _⟩, ⟨by (with_reducible repeat (first | apply Kd.R_alloc | apply Kd.R_drewN | apply Kd.R_drew)); exact Kd.R_mono HO_4.out (fun _ hk => hk.2.1)⟩, ⟨by (with_reducible repeat (first | apply Kd.R_alloc | apply Kd.R_drewN | apply Kd.R_drew)); exact Kd.R_mono HO_8.out (fun _ hk => hk.1)⟩, ⟨hb_⟩⟩
          ·replace c33 := Bool.eq_false_iff.mpr c33
           subst c33
           rw [if_neg (show ¬ (false = true) by decide)] at H
           have H' := Aside0.mk H
           clear H
           obtain ⟨Ao36, co36, eo36⟩ := Kd.R_slice HO_8.out
           subst eo36
           obtain ⟨Ao37, co37, eo37⟩ := Kd.R_slice HO_4.out
           subst eo37
           go_wp2_with (first | (go_at_call 16; (with_reducible refine (laws_eqIntS.calls kj6 _ _ t185 _ _ t177 false _ ?side1 ?side2 ?side3 ?side4 A32.out).mono ?_); (case side1 => exact ca_ (Kd.R_reads' HO_8.out).2.2); (case side2 => exact (Kd.R_reads' HO_8.out).2.1); (case side3 => exact ca_ (Kd.R_reads' HO_4.out).2.2); (case side4 => exact (Kd.R_reads' HO_4.out).2.1); rintro e w' ⟨rfl, ⟨nd, rfl⟩⟩))
           go_meet
           case rel => exact ⟨_, (true), es_, H', ⟨by have := HJ6.out; first | omega | exact Nat.le_refl _⟩, ⟨by (with_reducible repeat (first | apply Kd.R_alloc | apply Kd.R_drewN | apply Kd.R_drew)); exact Kd.R_mono HO_4.out (fun _ hk => hk.2.1)⟩, ⟨by (with_reducible repeat (first | apply Kd.R_alloc | apply Kd.R_drewN | apply Kd.R_drew)); exact Kd.R_mono HO_8.out (fun _ hk => hk.1)⟩, ⟨hb_⟩⟩
         ·rw [if_neg c31] at H
          have c31b0 : (t184 == t176) = false := beq_eq_false_iff_ne.mpr c31
          have c31b1 : (t184 != t176) = true := bne_iff_ne.mpr c31
          have H' := Aside0.mk H
          clear H
          go_wp2
          go_meet
          case rel => exact ⟨_, (true), es_, H', ⟨by have := HJ6.out; first | omega | exact Nat.le_refl _⟩, ⟨by (with_reducible repeat (first | apply Kd.R_alloc | apply Kd.R_drewN | apply Kd.R_drew)); exact Kd.R_mono HO_4.out (fun _ hk => hk.2.1)⟩, ⟨by (with_reducible repeat (first | apply Kd.R_alloc | apply Kd.R_drewN | apply Kd.R_drew)); exact Kd.R_mono HO_8.out (fun _ hk => hk.1)⟩, ⟨hb_⟩⟩
       case rest =>
        clear HC26
        try clear c1
        try clear c2
        try clear c2b0
        try clear c2b1
        try clear p2
        try clear c3
        try clear c4
        try clear c13
        try clear c14
        try clear c14b0
        try clear c14b1
        try clear c15
        try clear c16
        try clear c17
        try clear c21
        try clear c24
        try clear c30
        try clear c30b0
        try clear c31
        try clear c31b0
        try clear c31b1
        try clear c33
        try clear p2
        obtain ⟨kq, x73_25, rfl, HA, HJ25, HO_4, HO_8, HB⟩ := hcut
        cases kq with
        | zero => exact absurd HA.out (by simp [laws_FnExactArbitrate.j1])
        | succ kj25 =>
         have H := HA.out
         clear HA
         simp only [laws_FnExactArbitrate.j1] at H
         by_cases c38 : x73_25 = true
         ·subst c38
          rw [if_pos rfl] at H
          obtain rfl := Option.some.inj H
          go_wp2
          go_ret
          exact ⟨er_, hb_⟩
         ·replace c38 := Bool.eq_false_iff.mpr c38
          subst c38
          rw [if_neg (show ¬ (false = true) by decide)] at H
          replace H := Option.bind_eq_some_iff.mp H
          obtain ⟨⟨t197, t198⟩, A390, H⟩ := H
          replace H : ((laws_heldIntS.f kj25 t198 1).bind fun t199 => (if t199 < 0 then (some false) else (if t199 = t197 then ((laws_toIntS.f kj25 l0).bind fun t200 => ((impl_Arbitrate.f kj25 t200).bind fun bt203 => (if bt203.1 = t176 then ((laws_eqIntS.f kj25 bt203.2.1 t177).bind fun t208 => (if t208 = true then (laws_FnExactArbitrate.j2 kj25 t198 t197 (bt203.2.2 != t178)) else (laws_FnExactArbitrate.j2 kj25 t198 t197 true))) else (laws_FnExactArbitrate.j2 kj25 t198 t197 true)))) else (some false)))) = some r := H
          have A39 := Aside0.mk A390
          clear A390
          replace H := Option.bind_eq_some_iff.mp H
          obtain ⟨t199, A400, H⟩ := H
          replace H : (if t199 < 0 then (some false) else (if t199 = t197 then ((laws_toIntS.f kj25 l0).bind fun t200 => ((impl_Arbitrate.f kj25 t200).bind fun bt203 => (if bt203.1 = t176 then ((laws_eqIntS.f kj25 bt203.2.1 t177).bind fun t208 => (if t208 = true then (laws_FnExactArbitrate.j2 kj25 t198 t197 (bt203.2.2 != t178)) else (laws_FnExactArbitrate.j2 kj25 t198 t197 true))) else (laws_FnExactArbitrate.j2 kj25 t198 t197 true)))) else (some false))) = some r := H
          have A40 := Aside0.mk A400
          clear A400
          by_cases c41 : t199 < 0
          ·rw [if_pos c41] at H
           have c41b0 : decide (t199 < 0) = true := decide_eq_true c41
           clear c41
           obtain rfl := Option.some.inj H
           obtain ⟨Ao42, co42, eo42⟩ := Kd.R_slice HO_8.out
           subst eo42
           go_wp2_with (first | ((with_reducible refine gate_callee (f := 17) rfl ?_); refine goesL_ (some 76) rfl rfl Try.func17 (by kernel_rfl) rfl #[.slice Ao42 t185.length co42, .int .i64 1] rfl ls_ ?_; (with_reducible refine (laws_markIntS.calls kj25 (fun k_ => some k_ = (.slice Ao42 t185.length co42 : Value).ownBlock) (.slice Ao42 t185.length co42) t185 1 t197 t198 w _ ?side1 ?side2 A39.out).mono ?_); (case side1 => repeat (first | (with_reducible first | exact HB.out | apply below_alloc | apply pw_below_drewN | apply below_drew1) | exact HB.out)); (case side2 => exact Kd.R_tight rfl HO_8.out); rintro e w43 ⟨rfl, hy0, hb, hkp⟩; refine ⟨_, rfl, ?_⟩; have n0_ := Aside0.mk (Kd.R_mono (ok' := fun k_ => some k_ ≠ (.slice Ao42 t185.length co42 : Value).ownBlock) (Kd.R_keptB (HO_4.out) hkp (fun k_ hk_ hs_ => (hk_) hs_)) (fun k_ hk_ => hk_.1)); have n1_ := Aside0.mk (Kd.R_reok rfl hy0 (fun k_ e_ => HO_8.out.1 k_ e_)); have n2_ := Aside0.mk (hb); clear HO_4; clear HO_8; clear HB; have HO_4 := n0_; have HO_8 := n1_; have HB := n2_; clear n0_ n1_ n2_; (try clear hb); (try clear hkp); (try clear hy0)) | ((with_reducible refine gate_callee (f := 18) rfl ?_); refine goesL_ (some 79) rfl rfl Try.func18 (by kernel_rfl) rfl #[.slice Ao42 t198.length co42, .int .i64 1] rfl (by (try simp only [List.map_toArray, List.map_cons, List.map_nil]); first | done | (rw [show t198.length = t185.length from (Kd.R_reads' HO_8.out).1.symm] <;> rfl) | rfl | (simp only [List.length_drop, List.length_take]; rfl)) ?_; (with_reducible refine (laws_heldIntS.calls kj25 _ _ t198 1 t199 _ ?side1 ?side2 A40.out).mono ?_); (case side1 => exact ca_ (Kd.R_reads' HO_8.out).2.2); (case side2 => rw [show t198.length = t185.length from (Kd.R_reads' HO_8.out).1.symm]; exact (Kd.R_reads' HO_8.out).2.1); rintro e w' ⟨rfl, ⟨nd, rfl⟩⟩; refine ⟨_, rfl, ?_⟩))
           go_ret
           exact ⟨er_, hb_⟩
          ·rw [if_neg c41] at H
           have c41b0 : decide (t199 < 0) = false := decide_eq_false c41
           clear c41
           by_cases c44 : t199 = t197
           ·rw [if_pos c44] at H
            have c44b0 : (t199 == t197) = true := beq_iff_eq.mpr c44
            have c44b1 : (t199 != t197) = false := bne_eq_false_iff_eq.mpr c44
            clear c44
            replace H := Option.bind_eq_some_iff.mp H
            obtain ⟨t200, A450, H⟩ := H
            replace H : ((impl_Arbitrate.f kj25 t200).bind fun bt203 => (if bt203.1 = t176 then ((laws_eqIntS.f kj25 bt203.2.1 t177).bind fun t208 => (if t208 = true then (laws_FnExactArbitrate.j2 kj25 t198 t197 (bt203.2.2 != t178)) else (laws_FnExactArbitrate.j2 kj25 t198 t197 true))) else (laws_FnExactArbitrate.j2 kj25 t198 t197 true))) = some r := H
            have A45 := Aside0.mk A450
            clear A450
            replace H := Option.bind_eq_some_iff.mp H
            obtain ⟨⟨t203, t204, t205⟩, A460, H⟩ := H
            replace H : (if t203 = t176 then ((laws_eqIntS.f kj25 t204 t177).bind fun t208 => (if t208 = true then (laws_FnExactArbitrate.j2 kj25 t198 t197 (t205 != t178)) else (laws_FnExactArbitrate.j2 kj25 t198 t197 true))) else (laws_FnExactArbitrate.j2 kj25 t198 t197 true)) = some r := H
            have A46 := Aside0.mk A460
            clear A460
            have HC47 := Aside0.mk H
            clear H
            obtain ⟨Ao48, co48, eo48⟩ := Kd.R_slice HO_8.out
            subst eo48
            go_upto_region 23 with (first | ((with_reducible refine gate_callee (f := 17) rfl ?_); refine goesL_ (some 76) rfl rfl Try.func17 (by kernel_rfl) rfl #[.slice Ao48 t185.length co48, .int .i64 1] rfl ls_ ?_; (with_reducible refine (laws_markIntS.calls kj25 (fun k_ => some k_ = (.slice Ao48 t185.length co48 : Value).ownBlock) (.slice Ao48 t185.length co48) t185 1 t197 t198 w _ ?side1 ?side2 A39.out).mono ?_); (case side1 => repeat (first | (with_reducible first | exact HB.out | apply below_alloc | apply pw_below_drewN | apply below_drew1) | exact HB.out)); (case side2 => exact Kd.R_tight rfl HO_8.out); rintro e w49 ⟨rfl, hy0, hb, hkp⟩; refine ⟨_, rfl, ?_⟩; have n0_ := Aside0.mk (Kd.R_mono (ok' := fun k_ => some k_ ≠ (.slice Ao48 t185.length co48 : Value).ownBlock) (Kd.R_keptB (HO_4.out) hkp (fun k_ hk_ hs_ => (hk_) hs_)) (fun k_ hk_ => hk_.1)); have n1_ := Aside0.mk (Kd.R_reok rfl hy0 (fun k_ e_ => HO_8.out.1 k_ e_)); have n2_ := Aside0.mk (hb); clear HO_4; clear HO_8; clear HB; have HO_4 := n0_; have HO_8 := n1_; have HB := n2_; clear n0_ n1_ n2_; (try clear hb); (try clear hkp); (try clear hy0)) | ((with_reducible refine gate_callee (f := 18) rfl ?_); refine goesL_ (some 79) rfl rfl Try.func18 (by kernel_rfl) rfl #[.slice Ao48 t198.length co48, .int .i64 1] rfl (by (try simp only [List.map_toArray, List.map_cons, List.map_nil]); first | done | (rw [show t198.length = t185.length from (Kd.R_reads' HO_8.out).1.symm] <;> rfl) | rfl | (simp only [List.length_drop, List.length_take]; rfl)) ?_; (with_reducible refine (laws_heldIntS.calls kj25 _ _ t198 1 t199 _ ?side1 ?side2 A40.out).mono ?_); (case side1 => exact ca_ (Kd.R_reads' HO_8.out).2.2); (case side2 => rw [show t198.length = t185.length from (Kd.R_reads' HO_8.out).1.symm]; exact (Kd.R_reads' HO_8.out).2.1); rintro e w' ⟨rfl, ⟨nd, rfl⟩⟩; refine ⟨_, rfl, ?_⟩) | ((with_reducible refine gate_callee (f := 14) rfl ?_); refine goesL_ (some 87) rfl rfl Try.func14 (by kernel_rfl) rfl #[.slice A0 l0.length c0] rfl ls_ ?_; (with_reducible refine (laws_toIntS.calls kj25 _ _ l0 t200 _ ?side1 ?side2 A45.out).mono ?_); (case side1 => repeat (first | exact (Kd.C_below HR0.out hb_) | (with_reducible refine Kd.C_alloc ?_ _) | (with_reducible refine Kd.C_drewN ?_ _) | (with_reducible refine Kd.C_drew ?_))); (case side2 => exact HC0.out); rintro e w50 ⟨v201, rfl, ho0, hb⟩; refine ⟨_, rfl, ?_⟩; have n0_ := Aside0.mk (Kd.R_elder' (ra_ HO_4.out) (Kd.R_base ho0) hb); have n1_ := Aside0.mk (Kd.R_elder' (ra_ HO_8.out) (Kd.R_base ho0) hb); have n2_ := Aside0.mk (Kd.R_lower (Kd.R_new' (Kd.R_new' ho0 (Kd.R_lt (ra_ HO_4.out))) (Kd.R_lt (ra_ HO_8.out))) (below_size hb_)); have n3_ := Aside0.mk (below_step hb_ hb); clear HO_4; clear HO_8; clear HB; have HO_4 := n0_; have HO_8 := n1_; have HO202 := n2_; have HB := n3_; clear n0_ n1_ n2_ n3_; (try clear hb); (try clear hb2); (try clear hk); (try clear hi); (try clear ho0); obtain ⟨Ao51, co51, eo51⟩ := Kd.R_slice HO202.out; subst eo51) | ((with_reducible refine gate_callee (f := 15) rfl ?_); refine goesL_ (some 88) rfl rfl Try.func15 (by kernel_rfl) rfl #[.slice Ao51 t200.length co51] rfl ls_ ?_; (with_reducible refine (impl_Arbitrate.calls kj25 _ _ t200 t203 t204 t205 _ ?side1 ?side2 A46.out).mono ?_); (case side1 => exact ca_ (Kd.R_reads' HO202.out).2.2); (case side2 => exact (Kd.R_reads' HO202.out).2.1); rintro e w52 ⟨v206, rfl, ho0, hb⟩; refine ⟨_, rfl, ?_⟩; have n0_ := Aside0.mk (Kd.R_elder' (ra_ HO_4.out) (Kd.R_base ho0) hb); have n1_ := Aside0.mk (Kd.R_elder' (ra_ HO_8.out) (Kd.R_base ho0) hb); have n2_ := Aside0.mk (Kd.R_elder' (ra_ HO202.out) (Kd.R_base ho0) hb); have n3_ := Aside0.mk (Kd.R_lower (Kd.R_new' (Kd.R_new' (Kd.R_new' ho0 (Kd.R_lt (ra_ HO_4.out))) (Kd.R_lt (ra_ HO_8.out))) (Kd.R_lt (ra_ HO202.out))) (below_size hb_)); have n4_ := Aside0.mk (below_step hb_ hb); clear HO_4; clear HO_8; clear HO202; clear HB; have HO_4 := n0_; have HO_8 := n1_; have HO202 := n2_; have HO207 := n3_; have HB := n4_; clear n0_ n1_ n2_ n3_ n4_; (try clear hb); (try clear hb2); (try clear hk); (try clear hi); (try clear ho0)))
            (try simp only [Act.put, List.setIfInBounds_toArray, List.set_cons_zero, List.set_cons_succ])
            go_cut [105] (fun v105 wc => ∃ (kq : Nat) (x105_46 : Bool), v105 = .bool x105_46 ∧ Aside0 (laws_FnExactArbitrate.j2 kq t198 t197 x105_46 = some r) ∧ Aside0 (kq ≤ kj25) ∧ Aside0 (Kd.R (Kd.int .i64) 3 wc w.heap.size (fun _ => True) (.slice Ao48 t185.length co48) t198) ∧ Aside0 (Below w.heap.size w wc))
            case first =>
             have H := HC47.out
             clear HC47
             by_cases c53 : t203 = t176
             ·rw [if_pos c53] at H
              have c53b0 : (t203 == t176) = true := beq_iff_eq.mpr c53
              have c53b1 : (t203 != t176) = false := bne_eq_false_iff_eq.mpr c53
              clear c53
              (first | rw [c53b0] | (simp only [i64_w, i32_w]; rw [c53b0]) | skip)
              replace H := Option.bind_eq_some_iff.mp H
              obtain ⟨t208, A540, H⟩ := H
              replace H : (if t208 = true then (laws_FnExactArbitrate.j2 kj25 t198 t197 (t205 != t178)) else (laws_FnExactArbitrate.j2 kj25 t198 t197 true)) = some r := H
              have A54 := Aside0.mk A540
              clear A540
              by_cases c55 : t208 = true
              ·subst c55
               rw [if_pos rfl] at H
               have H' := Aside0.mk H
               clear H
               obtain ⟨Ao56, co56, eo56⟩ := Kd.R_slice HO207.out
               subst eo56
               obtain ⟨Ao57, co57, eo57⟩ := Kd.R_slice HO_4.out
               subst eo57
               go_wp2_with (first | (go_at_call 16; (with_reducible refine (laws_eqIntS.calls kj25 _ _ t204 _ _ t177 true _ ?side1 ?side2 ?side3 ?side4 A54.out).mono ?_); (case side1 => exact ca_ (Kd.R_reads' HO207.out).2.2); (case side2 => exact (Kd.R_reads' HO207.out).2.1); (case side3 => exact ca_ (Kd.R_reads' HO_4.out).2.2); (case side4 => exact (Kd.R_reads' HO_4.out).2.1); rintro e w' ⟨rfl, ⟨nd, rfl⟩⟩))
               go_meet
               case rel => exact ⟨_, ((t205 != t178)), es_, H', ⟨by have := HJ6.out; have := HJ25.out; first | omega | exact Nat.le_refl _⟩, ⟨by (with_reducible repeat (first | apply Kd.R_alloc | apply Kd.R_drewN | apply Kd.R_drew)); exact Kd.R_mono HO_8.out (fun _ hk => trivial)⟩, ⟨hb_⟩⟩
              ·replace c55 := Bool.eq_false_iff.mpr c55
               subst c55
               rw [if_neg (show ¬ (false = true) by decide)] at H
               have H' := Aside0.mk H
               clear H
               obtain ⟨Ao58, co58, eo58⟩ := Kd.R_slice HO207.out
               subst eo58
               obtain ⟨Ao59, co59, eo59⟩ := Kd.R_slice HO_4.out
               subst eo59
               go_wp2_with (first | (go_at_call 16; (with_reducible refine (laws_eqIntS.calls kj25 _ _ t204 _ _ t177 false _ ?side1 ?side2 ?side3 ?side4 A54.out).mono ?_); (case side1 => exact ca_ (Kd.R_reads' HO207.out).2.2); (case side2 => exact (Kd.R_reads' HO207.out).2.1); (case side3 => exact ca_ (Kd.R_reads' HO_4.out).2.2); (case side4 => exact (Kd.R_reads' HO_4.out).2.1); rintro e w' ⟨rfl, ⟨nd, rfl⟩⟩))
               go_meet
               case rel => exact ⟨_, (true), es_, H', ⟨by have := HJ6.out; have := HJ25.out; first | omega | exact Nat.le_refl _⟩, ⟨by (with_reducible repeat (first | apply Kd.R_alloc | apply Kd.R_drewN | apply Kd.R_drew)); exact Kd.R_mono HO_8.out (fun _ hk => trivial)⟩, ⟨hb_⟩⟩
             ·rw [if_neg c53] at H
              have c53b0 : (t203 == t176) = false := beq_eq_false_iff_ne.mpr c53
              have c53b1 : (t203 != t176) = true := bne_iff_ne.mpr c53
              (first | rw [c53b0] | (simp only [i64_w, i32_w]; rw [c53b0]) | skip)
              have H' := Aside0.mk H
              clear H
              go_wp2
              go_meet
              case rel => exact ⟨_, (true), es_, H', ⟨by have := HJ6.out; have := HJ25.out; first | omega | exact Nat.le_refl _⟩, ⟨by (with_reducible repeat (first | apply Kd.R_alloc | apply Kd.R_drewN | apply Kd.R_drew)); exact Kd.R_mono HO_8.out (fun _ hk => trivial)⟩, ⟨hb_⟩⟩
            case rest =>
             clear HC47
             try clear c1
             try clear c2
             try clear c2b0
             try clear c2b1
             try clear p2
             try clear c3
             try clear c4
             try clear c5
             try clear c13
             try clear c14
             try clear c14b0
             try clear c14b1
             try clear c15
             try clear c16
             try clear c17
             try clear c18
             try clear c21
             try clear c24
             try clear c30
             try clear c30b0
             try clear c31
             try clear c31b0
             try clear c31b1
             try clear c33
             try clear c38
             try clear c41
             try clear c41b0
             try clear c44
             try clear c44b0
             try clear c44b1
             try clear c53
             try clear c53b0
             try clear c53b1
             try clear c55
             try clear p2
             obtain ⟨kq, x105_46, rfl, HA, HJ46, HO_8, HB⟩ := hcut
             have hl8_46 := (Kd.R_reads' HO_8.out).1
             rw [hl8_46] at HO_8
             (try simp only [hl8_46])
             cases kq with
             | zero => exact absurd HA.out (by simp [laws_FnExactArbitrate.j2])
             | succ kj46 =>
              have H := HA.out
              clear HA
              simp only [laws_FnExactArbitrate.j2] at H
              by_cases c60 : x105_46 = true
              ·subst c60
               rw [if_pos rfl] at H
               obtain rfl := Option.some.inj H
               go_wp2
               go_ret
               exact ⟨er_, hb_⟩
              ·replace c60 := Bool.eq_false_iff.mpr c60
               subst c60
               rw [if_neg (show ¬ (false = true) by decide)] at H
               replace H := Option.bind_eq_some_iff.mp H
               obtain ⟨t209, A610, H⟩ := H
               replace H : (if t209 < 0 then (some false) else (if t209 = t197 then (some true) else (some false))) = some r := H
               have A61 := Aside0.mk A610
               clear A610
               by_cases c62 : t209 < 0
               ·rw [if_pos c62] at H
                have c62b0 : decide (t209 < 0) = true := decide_eq_true c62
                clear c62
                obtain rfl := Option.some.inj H
                go_wp2_with (first | ((with_reducible refine gate_callee (f := 18) rfl ?_); refine goesL_ (some 108) rfl rfl Try.func18 (by kernel_rfl) rfl #[.slice Ao48 t198.length co48, .int .i64 1] rfl ls_ ?_; (with_reducible refine (laws_heldIntS.calls kj46 _ _ t198 1 t209 _ ?side1 ?side2 A61.out).mono ?_); (case side1 => exact ca_ (Kd.R_reads' HO_8.out).2.2); (case side2 => exact (Kd.R_reads' HO_8.out).2.1); rintro e w' ⟨rfl, ⟨nd, rfl⟩⟩; refine ⟨_, rfl, ?_⟩))
                go_ret
                exact ⟨er_, hb_⟩
               ·rw [if_neg c62] at H
                have c62b0 : decide (t209 < 0) = false := decide_eq_false c62
                clear c62
                by_cases c63 : t209 = t197
                ·rw [if_pos c63] at H
                 have c63b0 : (t209 == t197) = true := beq_iff_eq.mpr c63
                 have c63b1 : (t209 != t197) = false := bne_eq_false_iff_eq.mpr c63
                 clear c63
                 obtain rfl := Option.some.inj H
                 go_wp2_with (first | ((with_reducible refine gate_callee (f := 18) rfl ?_); refine goesL_ (some 108) rfl rfl Try.func18 (by kernel_rfl) rfl #[.slice Ao48 t198.length co48, .int .i64 1] rfl ls_ ?_; (with_reducible refine (laws_heldIntS.calls kj46 _ _ t198 1 t209 _ ?side1 ?side2 A61.out).mono ?_); (case side1 => exact ca_ (Kd.R_reads' HO_8.out).2.2); (case side2 => exact (Kd.R_reads' HO_8.out).2.1); rintro e w' ⟨rfl, ⟨nd, rfl⟩⟩; refine ⟨_, rfl, ?_⟩))
                 go_ret
                 exact ⟨er_, hb_⟩
                ·rw [if_neg c63] at H
                 have c63b0 : (t209 == t197) = false := beq_eq_false_iff_ne.mpr c63
                 have c63b1 : (t209 != t197) = true := bne_iff_ne.mpr c63
                 obtain rfl := Option.some.inj H
                 go_wp2_with (first | ((with_reducible refine gate_callee (f := 18) rfl ?_); refine goesL_ (some 108) rfl rfl Try.func18 (by kernel_rfl) rfl #[.slice Ao48 t198.length co48, .int .i64 1] rfl ls_ ?_; (with_reducible refine (laws_heldIntS.calls kj46 _ _ t198 1 t209 _ ?side1 ?side2 A61.out).mono ?_); (case side1 => exact ca_ (Kd.R_reads' HO_8.out).2.2); (case side2 => exact (Kd.R_reads' HO_8.out).2.1); rintro e w' ⟨rfl, ⟨nd, rfl⟩⟩; refine ⟨_, rfl, ?_⟩))
                 go_ret
                 exact ⟨er_, hb_⟩
           ·rw [if_neg c44] at H
            have c44b0 : (t199 == t197) = false := beq_eq_false_iff_ne.mpr c44
            have c44b1 : (t199 != t197) = true := bne_iff_ne.mpr c44
            obtain rfl := Option.some.inj H
            obtain ⟨Ao64, co64, eo64⟩ := Kd.R_slice HO_8.out
            subst eo64
            go_wp2_with (first | ((with_reducible refine gate_callee (f := 17) rfl ?_); refine goesL_ (some 76) rfl rfl Try.func17 (by kernel_rfl) rfl #[.slice Ao64 t185.length co64, .int .i64 1] rfl ls_ ?_; (with_reducible refine (laws_markIntS.calls kj25 (fun k_ => some k_ = (.slice Ao64 t185.length co64 : Value).ownBlock) (.slice Ao64 t185.length co64) t185 1 t197 t198 w _ ?side1 ?side2 A39.out).mono ?_); (case side1 => repeat (first | (with_reducible first | exact HB.out | apply below_alloc | apply pw_below_drewN | apply below_drew1) | exact HB.out)); (case side2 => exact Kd.R_tight rfl HO_8.out); rintro e w65 ⟨rfl, hy0, hb, hkp⟩; refine ⟨_, rfl, ?_⟩; have n0_ := Aside0.mk (Kd.R_mono (ok' := fun k_ => some k_ ≠ (.slice Ao64 t185.length co64 : Value).ownBlock) (Kd.R_keptB (HO_4.out) hkp (fun k_ hk_ hs_ => (hk_) hs_)) (fun k_ hk_ => hk_.1)); have n1_ := Aside0.mk (Kd.R_reok rfl hy0 (fun k_ e_ => HO_8.out.1 k_ e_)); have n2_ := Aside0.mk (hb); clear HO_4; clear HO_8; clear HB; have HO_4 := n0_; have HO_8 := n1_; have HB := n2_; clear n0_ n1_ n2_; (try clear hb); (try clear hkp); (try clear hy0)) | ((with_reducible refine gate_callee (f := 18) rfl ?_); refine goesL_ (some 79) rfl rfl Try.func18 (by kernel_rfl) rfl #[.slice Ao64 t198.length co64, .int .i64 1] rfl (by (try simp only [List.map_toArray, List.map_cons, List.map_nil]); first | done | (rw [show t198.length = t185.length from (Kd.R_reads' HO_8.out).1.symm] <;> rfl) | rfl | (simp only [List.length_drop, List.length_take]; rfl)) ?_; (with_reducible refine (laws_heldIntS.calls kj25 _ _ t198 1 t199 _ ?side1 ?side2 A40.out).mono ?_); (case side1 => exact ca_ (Kd.R_reads' HO_8.out).2.2); (case side2 => rw [show t198.length = t185.length from (Kd.R_reads' HO_8.out).1.symm]; exact (Kd.R_reads' HO_8.out).2.1); rintro e w' ⟨rfl, ⟨nd, rfl⟩⟩; refine ⟨_, rfl, ?_⟩))
            go_ret
            exact ⟨er_, hb_⟩
      ·replace c24 := Bool.eq_false_iff.mpr c24
       subst c24
       rw [if_neg (show ¬ (false = true) by decide)] at H
       obtain rfl := Option.some.inj H
       go_wp2_with (first | ((with_reducible refine gate_callee (f := 14) rfl ?_); refine goesL_ (some 50) rfl rfl Try.func14 (by kernel_rfl) rfl #[.slice A0 l0.length c0] rfl ls_ ?_; (with_reducible refine (laws_toIntS.calls kj6 _ _ l0 t190 _ ?side1 ?side2 A22.out).mono ?_); (case side1 => exact cb_ HR0.out); (case side2 => exact HC0.out); rintro e w66 ⟨v191, rfl, ho0, hb⟩; refine ⟨_, rfl, ?_⟩; have n0_ := Aside0.mk (Kd.R_elder' (ra_ HO_4.out) (Kd.R_base ho0) hb); have n1_ := Aside0.mk (Kd.R_elder' (ra_ HO_6.out) (Kd.R_base ho0) hb); have n2_ := Aside0.mk (Kd.R_elder' (ra_ HO_8.out) (Kd.R_base ho0) hb); have n3_ := Aside0.mk (Kd.R_lower (Kd.R_new' (Kd.R_new' (Kd.R_new' ho0 (Kd.R_lt (ra_ HO_4.out))) (Kd.R_lt (ra_ HO_6.out))) (Kd.R_lt (ra_ HO_8.out))) (below_size hb_)); have n4_ := Aside0.mk (below_step hb_ hb); clear HO_4; clear HO_6; clear HO_8; clear HB; have HO_4 := n0_; have HO_6 := n1_; have HO_8 := n2_; have HO192 := n3_; have HB := n4_; clear n0_ n1_ n2_ n3_ n4_; (try clear hb); (try clear hb2); (try clear hk); (try clear hi); (try clear ho0); obtain ⟨Ao67, co67, eo67⟩ := Kd.R_slice HO192.out; subst eo67) | ((with_reducible refine gate_callee (f := 16) rfl ?_); refine goesL_ (some 51) rfl rfl Try.func16 (by kernel_rfl) rfl #[.slice Ao12 t181.length co12, .slice Ao67 t190.length co67] rfl ls_ ?_; (with_reducible refine (laws_eqIntS.calls kj6 _ _ t181 _ _ t190 false _ ?side1 ?side2 ?side3 ?side4 A23.out).mono ?_); (case side1 => exact ca_ (Kd.R_reads' HO_6.out).2.2); (case side2 => exact (Kd.R_reads' HO_6.out).2.1); (case side3 => exact ca_ (Kd.R_reads' HO192.out).2.2); (case side4 => exact (Kd.R_reads' HO192.out).2.1); rintro e w' ⟨rfl, ⟨nd, rfl⟩⟩; refine ⟨_, rfl, ?_⟩))
       go_ret
       exact ⟨er_, hb_⟩

end Go.Proofs.Ytbdonoeellmeoaa.Pr
