-- Written by this session's own print (wip/tools/mkmp.py) out of the translation. Lean checks it.
import Derived.Test.YtkhkgfihodljmaaPr0
import Derived.Test.YtkhkgfihodljmaaBtw
import Derived.Test.YtkhkgfihodljmaaPrd1
namespace Go.Proofs.Ytkhkgfihodljmaa.Pr
open Go.RowKit Go.Proofs.YtkhkgfihodljmaaW.PrintWords Go.Proofs.YtkhkgfihodljmaaW.PrintLast Go.Proofs.YtkhkgfihodljmaaW.PrintMore
attribute [local go_sem] max2_int min2_int max_two min_two max_three min_three max_four min_four   -- for this text's walks alone
set_option linter.unusedVariables false
set_option linter.unusedSimpArgs false

set_option maxHeartbeats 8000000 in
set_option maxRecDepth 100000 in
theorem impl_GoodChart.calls (k : Nat) (A0_0 : Option Addr) (c0_0 : Nat) (l0_0 : List (S88)) (A0_1 : Option Addr) (c0_1 : Nat) (l0_1 : List (S90)) (r : Bool) (w : World) (hr0_0 : Kd.C k88 w A0_0 l0_0.length l0_0) (hc0_0 : l0_0.length ≤ c0_0) (hr0_1 : Kd.C k90 w A0_1 l0_1.length l0_1) (hc0_1 : l0_1.length ≤ c0_1) (h : impl_GoodChart.f k l0_0 l0_1 = some r) :
   Calls Try.prog 34 #[.agg #[.slice A0_0 l0_0.length c0_0, .slice A0_1 l0_1.length c0_1]] w fun e w' => e = .returned (.bool r) ∧ Below w.heap.size w w' := by
  have hu55 := Try.underlying55
  have hu88 := Try.underlying88
  have hu90 := Try.underlying90
  have HR0_0 := Aside0.mk hr0_0
  have HC0_0 := Aside0.mk hc0_0
  clear hr0_0 hc0_0
  have HR0_1 := Aside0.mk hr0_1
  have HC0_1 := Aside0.mk hc0_1
  clear hr0_1 hc0_1
  have HB := Aside0.mk (Below.refl w.heap.size w)
  have H : (if (l0_0.length : Int) < 1 then (impl_GoodChart.j0 k (l0_0.length : Int) true l0_0 l0_1) else (if (l0_0.length : Int) > 12 then (impl_GoodChart.j0 k (l0_0.length : Int) true l0_0 l0_1) else (if (l0_1.length : Int) > 24 then (impl_GoodChart.j0 k (l0_0.length : Int) true l0_0 l0_1) else (if 0 < (l0_0.length : Int) then (impl_GoodChart.j0 k (l0_0.length : Int) (((rd_T88 l0_0 0).f0) != (-1)) l0_0 l0_1) else (none))))) = some r := h
  clear h
  have HC2 := Aside0.mk H
  clear H
  go_enter Try.func34, Try.ntmps34
  go_upto_region 2 with (first | ((with_reducible refine gate_dst (N := 1) rfl ?_); (try (refine gate_guard (by rfl) ?_; dsimp only)); refine box_event ?hg (N := 1) ?hd (cs := #[.slice A0_0 l0_0.length c0_0, .slice A0_1 l0_1.length c0_1]) (t := 55) ?hr ?_; (case hd => rfl); (case hg => rfl); (case hr => first | (go_simp; done) | (go_simp; rfl)); intro gb266 hg w3 hbox hb; have n0_ := Aside0.mk (below_step hb_ hb); have n1_ := Aside0.mk (hbox); have n2_ : Aside0 (w.heap.size ≤ gb266) := gz_; have n3_ : Aside0 (w.heap.size ≤ gb266) := gz_; clear HB; have HB := n0_; have BK266 := n1_; have GW266 := n2_; have GE266 := n3_; clear n0_ n1_ n2_ n3_; clear hb hbox hg; have hcz4_0 : w3.cell? ⟨gb266, 0, none⟩ = some (.slice A0_0 l0_0.length c0_0) := (blk_cell BK266.out 0).trans rfl; have hcz4_1 : w3.cell? ⟨gb266, 1, none⟩ = some (.slice A0_1 l0_1.length c0_1) := (blk_cell BK266.out 1).trans rfl; have hfz4_0 := blk_frozen BK266.out 0; have hfz4_1 := blk_frozen BK266.out 1))
  (try simp only [Act.put, List.setIfInBounds_toArray, List.set_cons_zero, List.set_cons_succ])
  go_cut [33] (fun v33 wc => ∃ (kq : Nat) (x33_1 : Bool), v33 = .bool x33_1 ∧ Aside0 (impl_GoodChart.j0 kq (l0_0.length : Int) x33_1 l0_0 l0_1 = some r) ∧ Aside0 (kq ≤ k) ∧ Aside0 (wc.heap[gb266]? = some (.cells #[(.slice A0_0 l0_0.length c0_0), (.slice A0_1 l0_1.length c0_1)] 55 (0, 0))) ∧ Aside0 (Below w.heap.size w wc))
  case first =>
   have H := HC2.out
   clear HC2
   by_cases c5 : (l0_0.length : Int) < 1
   ·rw [if_pos c5] at H
    have c5b0 : decide ((l0_0.length : Int) < 1) = true := decide_eq_true c5
    have c5b1 : decide (l0_0.length < 1) = true := decide_eq_true (by omega)
    clear c5
    (first | rw [c5b0] | (simp only [i64_w, i32_w]; rw [c5b0]) | skip)
    have H' := Aside0.mk H
    clear H
    go_wp2
    go_meet
    case rel => exact ⟨_, (true), es_, H', ⟨by first | omega | exact Nat.le_refl _⟩, ⟨bk_ BK266.out⟩, ⟨hb_⟩⟩
   ·rw [if_neg c5] at H
    have c5b0 : decide ((l0_0.length : Int) < 1) = false := decide_eq_false c5
    have c5b1 : decide (l0_0.length < 1) = false := decide_eq_false (by omega)
    clear c5
    (first | rw [c5b0] | (simp only [i64_w, i32_w]; rw [c5b0]) | skip)
    by_cases c6 : (l0_0.length : Int) > 12
    ·rw [if_pos c6] at H
     have c6b0 : decide (12 < (l0_0.length : Int)) = true := decide_eq_true c6
     have c6b1 : decide (12 < l0_0.length) = true := decide_eq_true (by omega)
     clear c6
     have H' := Aside0.mk H
     clear H
     go_wp2
     go_meet
     case rel => exact ⟨_, (true), es_, H', ⟨by first | omega | exact Nat.le_refl _⟩, ⟨bk_ BK266.out⟩, ⟨hb_⟩⟩
    ·rw [if_neg c6] at H
     have c6b0 : decide (12 < (l0_0.length : Int)) = false := decide_eq_false c6
     have c6b1 : decide (12 < l0_0.length) = false := decide_eq_false (by omega)
     clear c6
     by_cases c7 : (l0_1.length : Int) > 24
     ·rw [if_pos c7] at H
      have c7b0 : decide (24 < (l0_1.length : Int)) = true := decide_eq_true c7
      have c7b1 : decide (24 < l0_1.length) = true := decide_eq_true (by omega)
      clear c7
      have H' := Aside0.mk H
      clear H
      have hcz8_0 : w3.cell? ⟨gb266, 0, none⟩ = some (.slice A0_0 l0_0.length c0_0) := (blk_cell BK266.out 0).trans rfl
      have hcz8_1 : w3.cell? ⟨gb266, 1, none⟩ = some (.slice A0_1 l0_1.length c0_1) := (blk_cell BK266.out 1).trans rfl
      have hfz8_0 := blk_frozen BK266.out 0
      have hfz8_1 := blk_frozen BK266.out 1
      go_wp2
      go_meet
      case rel => exact ⟨_, (true), es_, H', ⟨by first | omega | exact Nat.le_refl _⟩, ⟨bk_ BK266.out⟩, ⟨hb_⟩⟩
     ·rw [if_neg c7] at H
      have c7b0 : decide (24 < (l0_1.length : Int)) = false := decide_eq_false c7
      have c7b1 : decide (24 < l0_1.length) = false := decide_eq_false (by omega)
      clear c7
      by_cases c9 : 0 < (l0_0.length : Int)
      ·rw [if_pos c9] at H
       have c9b0 : decide (0 < (l0_0.length : Int)) = true := decide_eq_true c9
       have c9b1 : decide (0 < l0_0.length) = true := decide_eq_true (by omega)
       clear c9
       have H' := Aside0.mk H
       clear H
       have hcz10_0 : w3.cell? ⟨gb266, 0, none⟩ = some (.slice A0_0 l0_0.length c0_0) := (blk_cell BK266.out 0).trans rfl
       have hcz10_1 : w3.cell? ⟨gb266, 1, none⟩ = some (.slice A0_1 l0_1.length c0_1) := (blk_cell BK266.out 1).trans rfl
       have hfz10_0 := blk_frozen BK266.out 0
       have hfz10_1 := blk_frozen BK266.out 1
       have p267 : 0 ≤ (0 : Int) := (by omega)
       have q267 : 0 < (l0_0.length : Int) := of_decide_eq_true as_
       obtain ⟨ad267, e267, hx267_0, hx267_1⟩ := at_T88 HR0_0.out 0 p267 q267
       cases e267
       have qi267 : (0 < l0_0.length) = True := eq_true (by omega)
       (try rw [show ((0 : Int)).toNat = 0 from rfl] at hx267_0)
       (try rw [show 0 * 2 = 0 from rfl] at hx267_0)
       (try rw [Addr.add_zero'] at hx267_0)
       (try rw [show ((0 : Int)).toNat = 0 from rfl] at hx267_1)
       (try rw [show 0 * 2 = 0 from rfl] at hx267_1)
       (try rw [Addr.add_zero'] at hx267_1)
       replace hx267_0 := hc_ HB hx267_0
       replace hx267_1 := hc_ HB hx267_1
       replace p267 := eq_true p267
       replace q267 := eq_true q267
       go_wp2
       go_meet
       case rel => exact ⟨_, ((((rd_T88 l0_0 0).f0) != (-1))), es_, H', ⟨by first | omega | exact Nat.le_refl _⟩, ⟨bk_ BK266.out⟩, ⟨hb_⟩⟩
      ·rw [if_neg c9] at H
       exact absurd H (by simp)
  case rest =>
   clear HC2
   try clear p2
   try clear q2
   try clear hx2
   try clear qi2
   try clear c3
   try clear c5
   try clear c5b0
   try clear c5b1
   try clear c6
   try clear c6b0
   try clear c6b1
   try clear c7
   try clear c7b0
   try clear c7b1
   try clear c9
   try clear c9b0
   try clear c9b1
   try clear hcz10_0
   try clear hcz10_1
   try clear hcz4_0
   try clear hcz4_1
   try clear hcz8_0
   try clear hcz8_1
   try clear hfz10_0
   try clear hfz10_1
   try clear hfz4_0
   try clear hfz4_1
   try clear hfz8_0
   try clear hfz8_1
   try clear hx267_0
   try clear hx267_1
   try clear p267
   try clear q267
   obtain ⟨kq, x33_1, rfl, HA, HJ1, BK266, HB⟩ := hcut
   cases kq with
   | zero => exact absurd HA.out (by simp [impl_GoodChart.j0])
   | succ kj1 =>
    have H := HA.out
    clear HA
    simp only [impl_GoodChart.j0] at H
    by_cases c11 : x33_1 = true
    ·subst c11
     rw [if_pos rfl] at H
     obtain rfl := Option.some.inj H
     go_wp2
     go_ret
     exact ⟨er_, hb_⟩
    ·replace c11 := Bool.eq_false_iff.mpr c11
     subst c11
     rw [if_neg (show ¬ (false = true) by decide)] at H
     by_cases c12 : 0 ≤ (l0_0.length : Int)
     ·rw [if_pos c12] at H
      have c12b0 := eq_true c12
      have c12b1 : decide (0 ≤ (l0_0.length : Int)) = true := decide_eq_true c12
      clear c12
      by_cases c13 : ((l0_0.length : Int) : Int).toNat ≤ 281474976710656
      ·rw [if_pos c13] at H
       have c13b0 := eq_true c13
       have c13b1 : decide (((l0_0.length : Int) : Int).toNat ≤ 281474976710656) = true := decide_eq_true c13
       clear c13
       obtain ⟨y268, hy268⟩ : ∃ y_ : List Bool, y_ = (List.replicate ((l0_0.length : Int) : Int).toNat false) := ⟨_, rfl⟩
       replace H : (if 1 ≤ (l0_0.length : Int) then ((some (l0_0.drop 1 : List (S88))).bind fun y271 => (impl_GoodChart.l0 kj1 (l0_0.length : Int) y268 y271 (y271.length : Int) 0 l0_0 l0_1)) else (none)) = some r := by first | (rw [hy268]; with_reducible exact H) | (have H2_ := (Option.bind_some _ _).symm.trans H; rw [hy268]; with_reducible exact H2_) | (have H2_ := (Option.bind_some _ _).symm.trans H; with_reducible exact H2_) | with_reducible exact H | (rw [hy268]; exact H) | exact H
       have Ny268 := Aside0.mk hy268
       clear hy268
       by_cases c14 : 1 ≤ (l0_0.length : Int)
       ·rw [if_pos c14] at H
        have c14b0 := eq_true c14
        have c14b1 : decide (1 ≤ (l0_0.length : Int)) = true := decide_eq_true c14
        clear c14
        obtain ⟨y271, hy271⟩ : ∃ y_ : List (S88), y_ = (l0_0.drop 1) := ⟨_, rfl⟩
        replace H : (impl_GoodChart.l0 kj1 (l0_0.length : Int) y268 y271 (y271.length : Int) 0 l0_0 l0_1) = some r := by first | (rw [hy271]; with_reducible exact H) | (have H2_ := (Option.bind_some _ _).symm.trans H; rw [hy271]; with_reducible exact H2_) | (have H2_ := (Option.bind_some _ _).symm.trans H; with_reducible exact H2_) | with_reducible exact H | (rw [hy271]; exact H) | exact H
        have Ny271 := Aside0.mk hy271
        clear hy271
        have H' := Aside0.mk H
        clear H
        go_wp2_with (first | ((with_reducible refine gate_dst (N := 35) rfl ?_); (try (refine gate_guard (by rfl) ?_; dsimp only)); refine Kd.R_make Kd.bool _ 4 rfl (N := 35) rfl 93 _ _ rfl (l0_0.length : Int) rfl rfl Try.underlying93 (.bool false) 1 info4 rfl (by decide) (by omega) false (ok := fun _ => True) (okp := fun _ => True) rfl (fun _ hk => hk) trivial (of_decide_eq_true as_) (Nat.le_trans (Nat.mul_le_mul_right _ (of_decide_eq_true as_ : (l0_0.length : Int).toNat ≤ 281474976710656)) (by omega)) (Below.refl _ _) (Nat.le_refl _) ?_; intro v269 w15 ho16 hb hg_ hnew_; clear hg_ hnew_; (first | rw [← Ny268.out] at ho16 | (simp only [Int.reduceToNat] at ho16; rw [← Ny268.out] at ho16)); have n0_ := Aside0.mk (Kd.R_lower ho16 (below_size hb_)); have n1_ := bb_ BK266 hb; have n2_ := Aside0.mk (below_step hb_ hb); clear BK266; clear HB; have HO270 := n0_; have BK266 := n1_; have HB := n2_; clear n0_ n1_ n2_; clear hb ho16; have hcz17_0 : w15.cell? ⟨gb266, 0, none⟩ = some (.slice A0_0 l0_0.length c0_0) := (blk_cell BK266.out 0).trans rfl; have hcz17_1 : w15.cell? ⟨gb266, 1, none⟩ = some (.slice A0_1 l0_1.length c0_1) := (blk_cell BK266.out 1).trans rfl; have hfz17_0 := blk_frozen BK266.out 0; have hfz17_1 := blk_frozen BK266.out 1; have q18 : (1 : Int) ≤ ((l0_0.length : Int) : Int) := of_decide_eq_true as_; obtain ⟨i018, hi018, _, hsz18, _⟩ := info_parts info88; have hroom18 : l0_0.length ≤ c0_0 := HC0_0.out; have hC18 : Kd.C k88 _ A0_0 l0_0.length l0_0 := HR0_0.out; have hcut18 := cut_from (P := Try.prog) 52 88 .i64 Try.underlying52 hi018 2 hsz18 A0_0 l0_0.length c0_0 1 (by omega) q18; have hr18 := Kd.C_drop (m := (1 : Int).toNat) (c := c0_0) hC18 (by omega) hroom18; obtain ⟨A18, hA18⟩ : ∃ A1, A1 = (if c0_0 = (1 : Int).toNat then A0_0 else (A0_0 : Option Addr).map (·.add ((1 : Int).toNat * 2))) := ⟨_, rfl⟩; obtain ⟨c18, hc18⟩ : ∃ c1, c1 = c0_0 - (1 : Int).toNat := ⟨_, rfl⟩; have hy18 : y271.length = l0_0.length - (1 : Int).toNat := (by rw [Ny271.out, List.length_drop] <;> omega); rw [show (l0_0).drop (1 : Int).toNat = y271 from Ny271.out.symm] at hr18; replace hr18 : Kd.C k88 _ A18 y271.length y271 := (by rw [hA18]; exact hr18); rw [← hy18, ← hA18, ← hc18] at hcut18; have HR274 := Aside0.mk hr18; have HC274 := Aside0.mk (show y271.length ≤ c18 from by rw [hy18, hc18]; exact Nat.sub_le_sub_right hroom18 _); clear hr18 hC18 hroom18 hi018 hsz18 hc18; have KY18 := Aside0.mk hy18; have KA18 := Aside0.mk hA18; clear hy18 hA18; replace q18 := eq_true q18))
        go_loopg [40] kj1 (fun kq v40 w' => ∃ (x4_2 : List Bool) (x40_2 : Int), v40 = .int .i64 x40_2 ∧ Aside0 (impl_GoodChart.l0 kq (l0_0.length : Int) x4_2 y271 (y271.length : Int) x40_2 l0_0 l0_1 = some r) ∧ Aside0 (kq ≤ kj1) ∧ Aside0 (Kd.R Kd.bool 4 w' w.heap.size (fun _ => True) v269 x4_2) ∧ Aside0 (w'.heap[gb266]? = some (.cells #[(.slice A0_0 l0_0.length c0_0), (.slice A0_1 l0_1.length c0_1)] 55 (0, 0))) ∧ Aside0 (Below w.heap.size w w'))
        case atStart => exact ⟨(y268), (0), es_, H', ⟨Nat.le_refl _⟩, ⟨ra_ HO270.out⟩, ⟨bk_ BK266.out⟩, ⟨hb_⟩⟩
        case round =>
         clear H'
         try clear c1
         try clear q1
         try clear p2
         try clear q2
         try clear hx2
         try clear qi2
         try clear c3
         try clear c5
         try clear c5b0
         try clear c5b1
         try clear c6
         try clear c6b0
         try clear c6b1
         try clear c7
         try clear c7b0
         try clear c7b1
         try clear c9
         try clear c9b0
         try clear c9b1
         try clear c11
         try clear c12
         try clear c12b0
         try clear c12b1
         try clear c13
         try clear c13b0
         try clear c13b1
         try clear c14
         try clear c14b0
         try clear c14b1
         try clear c18
         try clear q18
         try clear hcz10_0
         try clear hcz10_1
         try clear hcz17_0
         try clear hcz17_1
         try clear hcz4_0
         try clear hcz4_1
         try clear hcz8_0
         try clear hcz8_1
         try clear hfz10_0
         try clear hfz10_1
         try clear hfz17_0
         try clear hfz17_1
         try clear hfz4_0
         try clear hfz4_1
         try clear hfz8_0
         try clear hfz8_1
         try clear hx267_0
         try clear hx267_1
         try clear p2
         try clear p267
         try clear q18
         try clear q2
         try clear q267
         obtain ⟨x4_2, x40_2, rfl, HA, HK2, HO_4, BK266, HB⟩ := hrel
         cases gk with
         | zero => exact absurd HA.out (by simp [impl_GoodChart.l0])
         | succ k2 =>
          have H := HA.out
          clear HA
          simp only [impl_GoodChart.l0] at H
          by_cases c19 : x40_2 < (y271.length : Int)
          ·rw [if_pos c19] at H
           have c19b0 : decide (x40_2 < (y271.length : Int)) = true := decide_eq_true c19
           clear c19
           by_cases c20 : 0 ≤ x40_2
           ·rw [if_pos c20] at H
            have c20b0 : decide (0 ≤ x40_2) = true := decide_eq_true c20
            clear c20
            by_cases c21 : x40_2 < (y271.length : Int)
            ·rw [if_pos c21] at H
             have c21b0 : decide (x40_2 < (y271.length : Int)) = true := decide_eq_true c21
             clear c21
             by_cases c22 : ((rd_T88 y271 x40_2).f0) < 0
             ·rw [if_pos c22] at H
              have c22b0 : decide (((rd_T88 y271 x40_2).f0) < 0) = true := decide_eq_true c22
              clear c22
              obtain rfl := Option.some.inj H
              have p275 : 0 ≤ (x40_2 : Int) := of_decide_eq_true as_
              have q275 : x40_2 < (y271.length : Int) := of_decide_eq_true as_
              obtain ⟨ad275, e275, hx275_0, hx275_1⟩ := at_T88 HR274.out x40_2 p275 q275
              cases e275
              replace hx275_0 := hc_ HB hx275_0
              replace hx275_1 := hc_ HB hx275_1
              replace p275 := eq_true p275
              replace q275 := eq_true q275
              go_wp2_with (first | ((with_reducible refine gate_dst (N := 6) rfl ?_); (try (refine gate_guard (by rfl) ?_; dsimp only)); refine box_event ?hg (N := 6) ?hd (cs := #[.int .i64 0, .int .i64 0]) (t := 88) ?hr ?_; (case hd => rfl); (case hg => rfl); (case hr => first | (go_simp; done) | (go_simp; rfl)); intro gb276 hg w23 hbox hb; have n0_ := Aside0.mk (Kd.R_below (ra_ HO_4.out) hb); have n1_ := bb_ BK266 hb; have n2_ := Aside0.mk (below_step hb_ hb); have n3_ := Aside0.mk (hbox); have n4_ : Aside0 (w.heap.size ≤ gb276) := gz_; have n5_ : Aside0 (w.heap.size ≤ gb276) := gz_; have n6_ := Aside0.mk ((by rw [hg]; exact Nat.ne_of_lt (blk_lt (g := gb266) (o := .cells #[.slice A0_0 l0_0.length c0_0, .slice A0_1 l0_1.length c0_1] 55 (0, 0)) (bk_ BK266.out)) : gb266 ≠ gb276)); have n7_ := Aside0.mk ((by rw [hg]; exact Nat.ne_of_gt (blk_lt (g := gb266) (o := .cells #[.slice A0_0 l0_0.length c0_0, .slice A0_1 l0_1.length c0_1] 55 (0, 0)) (bk_ BK266.out)) : gb276 ≠ gb266)); clear HO_4; clear BK266; clear HB; have HO_4 := n0_; have BK266 := n1_; have HB := n2_; have BK276 := n3_; have GW276 := n4_; have GE276 := n5_; have NB266_276 := n6_; have NB276_266 := n7_; clear n0_ n1_ n2_ n3_ n4_ n5_ n6_ n7_; clear hb hbox hg; have hnb24 := NB276_266.out; have hnc24 := NB266_276.out; have hcz25_0 : w23.cell? ⟨gb276, 0, none⟩ = some (.int .i64 0) := (blk_cell BK276.out 0).trans rfl; have hcz25_1 : w23.cell? ⟨gb276, 1, none⟩ = some (.int .i64 0) := (blk_cell BK276.out 1).trans rfl; have hfz25_0 := blk_frozen BK276.out 0; have hfz25_1 := blk_frozen BK276.out 1))
              go_ret
              exact ⟨er_, hb_⟩
             ·rw [if_neg c22] at H
              have c22b0 : decide (((rd_T88 y271 x40_2).f0) < 0) = false := decide_eq_false c22
              clear c22
              by_cases c26 : ((rd_T88 y271 x40_2).f0) > x40_2
              ·rw [if_pos c26] at H
               have c26b0 : decide (x40_2 < ((rd_T88 y271 x40_2).f0)) = true := decide_eq_true c26
               clear c26
               obtain rfl := Option.some.inj H
               have p275 : 0 ≤ (x40_2 : Int) := of_decide_eq_true as_
               have q275 : x40_2 < (y271.length : Int) := of_decide_eq_true as_
               obtain ⟨ad275, e275, hx275_0, hx275_1⟩ := at_T88 HR274.out x40_2 p275 q275
               cases e275
               replace hx275_0 := hc_ HB hx275_0
               replace hx275_1 := hc_ HB hx275_1
               replace p275 := eq_true p275
               replace q275 := eq_true q275
               go_wp2_with (first | ((with_reducible refine gate_dst (N := 6) rfl ?_); (try (refine gate_guard (by rfl) ?_; dsimp only)); refine box_event ?hg (N := 6) ?hd (cs := #[.int .i64 0, .int .i64 0]) (t := 88) ?hr ?_; (case hd => rfl); (case hg => rfl); (case hr => first | (go_simp; done) | (go_simp; rfl)); intro gb276 hg w27 hbox hb; have n0_ := Aside0.mk (Kd.R_below (ra_ HO_4.out) hb); have n1_ := bb_ BK266 hb; have n2_ := Aside0.mk (below_step hb_ hb); have n3_ := Aside0.mk (hbox); have n4_ : Aside0 (w.heap.size ≤ gb276) := gz_; have n5_ : Aside0 (w.heap.size ≤ gb276) := gz_; have n6_ := Aside0.mk ((by rw [hg]; exact Nat.ne_of_lt (blk_lt (g := gb266) (o := .cells #[.slice A0_0 l0_0.length c0_0, .slice A0_1 l0_1.length c0_1] 55 (0, 0)) (bk_ BK266.out)) : gb266 ≠ gb276)); have n7_ := Aside0.mk ((by rw [hg]; exact Nat.ne_of_gt (blk_lt (g := gb266) (o := .cells #[.slice A0_0 l0_0.length c0_0, .slice A0_1 l0_1.length c0_1] 55 (0, 0)) (bk_ BK266.out)) : gb276 ≠ gb266)); clear HO_4; clear BK266; clear HB; have HO_4 := n0_; have BK266 := n1_; have HB := n2_; have BK276 := n3_; have GW276 := n4_; have GE276 := n5_; have NB266_276 := n6_; have NB276_266 := n7_; clear n0_ n1_ n2_ n3_ n4_ n5_ n6_ n7_; clear hb hbox hg; have hnb28 := NB276_266.out; have hnc28 := NB266_276.out; have hcz29_0 : w27.cell? ⟨gb276, 0, none⟩ = some (.int .i64 0) := (blk_cell BK276.out 0).trans rfl; have hcz29_1 : w27.cell? ⟨gb276, 1, none⟩ = some (.int .i64 0) := (blk_cell BK276.out 1).trans rfl; have hfz29_0 := blk_frozen BK276.out 0; have hfz29_1 := blk_frozen BK276.out 1))
               go_ret
               exact ⟨er_, hb_⟩
              ·rw [if_neg c26] at H
               have c26b0 : decide (x40_2 < ((rd_T88 y271 x40_2).f0)) = false := decide_eq_false c26
               clear c26
               by_cases c30 : 0 ≤ ((rd_T88 y271 x40_2).f0)
               ·rw [if_pos c30] at H
                have c30b0 : decide (0 ≤ ((rd_T88 y271 x40_2).f0)) = true := decide_eq_true c30
                clear c30
                by_cases c31 : ((rd_T88 y271 x40_2).f0) < (x4_2.length : Int)
                ·rw [if_pos c31] at H
                 have c31b0 : decide (((rd_T88 y271 x40_2).f0) < (x4_2.length : Int)) = true := decide_eq_true c31
                 clear c31
                 obtain ⟨y277, hy277⟩ : ∃ y_ : List Bool, y_ = (x4_2.set (((rd_T88 y271 x40_2).f0) : Int).toNat true) := ⟨_, rfl⟩
                 replace H : (impl_GoodChart.l0 k2 (l0_0.length : Int) y277 y271 (y271.length : Int) (wrap64 (x40_2 + 1)) l0_0 l0_1) = some r := by first | (rw [hy277]; with_reducible exact H) | (have H2_ := (Option.bind_some _ _).symm.trans H; rw [hy277]; with_reducible exact H2_) | (have H2_ := (Option.bind_some _ _).symm.trans H; with_reducible exact H2_) | with_reducible exact H | (rw [hy277]; exact H) | exact H
                 have Ny277 := Aside0.mk hy277
                 clear hy277
                 have H' := Aside0.mk H
                 clear H
                 have p275 : 0 ≤ (x40_2 : Int) := of_decide_eq_true as_
                 have q275 : x40_2 < (y271.length : Int) := of_decide_eq_true as_
                 obtain ⟨ad275, e275, hx275_0, hx275_1⟩ := at_T88 HR274.out x40_2 p275 q275
                 cases e275
                 replace hx275_0 := hc_ HB hx275_0
                 replace hx275_1 := hc_ HB hx275_1
                 replace p275 := eq_true p275
                 replace q275 := eq_true q275
                 go_wp2_with (first | ((with_reducible refine gate_dst (N := 6) rfl ?_); (try (refine gate_guard (by rfl) ?_; dsimp only)); refine box_event ?hg (N := 6) ?hd (cs := #[.int .i64 0, .int .i64 0]) (t := 88) ?hr ?_; (case hd => rfl); (case hg => rfl); (case hr => first | (go_simp; done) | (go_simp; rfl)); intro gb276 hg w33 hbox hb; have n0_ := Aside0.mk (Kd.R_below (ra_ HO_4.out) hb); have n1_ := bb_ BK266 hb; have n2_ := Aside0.mk (below_step hb_ hb); have n3_ := Aside0.mk (hbox); have n4_ : Aside0 (w.heap.size ≤ gb276) := gz_; have n5_ : Aside0 (w.heap.size ≤ gb276) := gz_; have n6_ := Aside0.mk ((by rw [hg]; exact Nat.ne_of_lt (blk_lt (g := gb266) (o := .cells #[.slice A0_0 l0_0.length c0_0, .slice A0_1 l0_1.length c0_1] 55 (0, 0)) (bk_ BK266.out)) : gb266 ≠ gb276)); have n7_ := Aside0.mk ((by rw [hg]; exact Nat.ne_of_gt (blk_lt (g := gb266) (o := .cells #[.slice A0_0 l0_0.length c0_0, .slice A0_1 l0_1.length c0_1] 55 (0, 0)) (bk_ BK266.out)) : gb276 ≠ gb266)); clear HO_4; clear BK266; clear HB; have HO_4 := n0_; have BK266 := n1_; have HB := n2_; have BK276 := n3_; have GW276 := n4_; have GE276 := n5_; have NB266_276 := n6_; have NB276_266 := n7_; clear n0_ n1_ n2_ n3_ n4_ n5_ n6_ n7_; clear hb hbox hg; have hnb34 := NB276_266.out; have hnc34 := NB266_276.out; have hcz35_0 : w33.cell? ⟨gb276, 0, none⟩ = some (.int .i64 0) := (blk_cell BK276.out 0).trans rfl; have hcz35_1 : w33.cell? ⟨gb276, 1, none⟩ = some (.int .i64 0) := (blk_cell BK276.out 1).trans rfl; have hfz35_0 := blk_frozen BK276.out 0; have hfz35_1 := blk_frozen BK276.out 1) | ((with_reducible refine gate_store (t := 88) (p := 6) rfl ?_); refine store_event (t := 88) (p := 6) (v := ?vo_w36) (w1 := ((w33.setCell ⟨gb276, 0, none⟩ (.int .i64 ((rd_T88 y271 x40_2).f0))).setCell ⟨gb276, 1, none⟩ (.int .i64 ((rd_T88 y271 x40_2).f1)))) ?hg ?ho ?hn ?hr ?_; (case ho => rfl); (case hg => rfl); (case hn => rfl); (case hr => first | (go_simp; done) | (go_simp; rfl)); intro w36 hw; have n0_ : Aside0 (Kd.R Kd.bool 4 w36 w.heap.size (fun _ => True) v269 x4_2) := ⟨(by rw [hw]; exact (by (with_reducible repeat (first | apply Kd.R_alloc | apply Kd.R_drewN | apply Kd.R_drew)); exact Kd.R_mono (Kd.R_far (p := ⟨gb276, 1, none⟩) (Kd.R_far (p := ⟨gb276, 0, none⟩) (Kd.R_types HO_4.out BK276.out (by decide)) (fun _ hk => hk.2) (.int .i64 ((rd_T88 y271 x40_2).f0))) (fun _ hk => hk.2) (.int .i64 ((rd_T88 y271 x40_2).f1))) (fun _ hk => trivial)))⟩; have n1_ : Aside0 (w36.heap[gb266]? = some (.cells #[.slice A0_0 l0_0.length c0_0, .slice A0_1 l0_1.length c0_1] 55 (0, 0))) := ⟨(by rw [hw]; exact (by (with_reducible repeat (first | refine blk_drewN ?_ _ | refine blk_drew ?_ | refine blk_alloc ?_ _)); refine blk_far ?_ NB266_276.out _; (with_reducible repeat (first | refine blk_drewN ?_ _ | refine blk_drew ?_ | refine blk_alloc ?_ _)); refine blk_far ?_ NB266_276.out _; (with_reducible repeat (first | refine blk_drewN ?_ _ | refine blk_drew ?_ | refine blk_alloc ?_ _)); exact BK266.out))⟩; have n2_ : Aside0 (w36.heap[gb276]? = some (.cells #[.int .i64 ((rd_T88 y271 x40_2).f0), .int .i64 ((rd_T88 y271 x40_2).f1)] 88 (0, 0))) := ⟨(by rw [hw]; exact (by (with_reducible repeat (first | refine blk_drewN ?_ _ | refine blk_drew ?_ | refine blk_alloc ?_ _)); refine blk_put (cs := #[.int .i64 ((rd_T88 y271 x40_2).f0), .int .i64 0]) ?_ 1 _ rfl; (with_reducible repeat (first | refine blk_drewN ?_ _ | refine blk_drew ?_ | refine blk_alloc ?_ _)); refine blk_put (cs := #[.int .i64 0, .int .i64 0]) ?_ 0 _ rfl; (with_reducible repeat (first | refine blk_drewN ?_ _ | refine blk_drew ?_ | refine blk_alloc ?_ _)); exact BK276.out))⟩; have n3_ : Aside0 (Below w.heap.size w w36) := ⟨(by rw [hw]; exact hb_)⟩; clear hw; clear HO_4; clear BK266; clear BK276; clear HB; have HO_4 := n0_; have BK266 := n1_; have BK276 := n2_; have HB := n3_; clear n0_ n1_ n2_ n3_; have hcz37_0 : w36.cell? ⟨gb276, 0, none⟩ = some (.int .i64 ((rd_T88 y271 x40_2).f0)) := (blk_cell BK276.out 0).trans rfl; have hcz37_1 : w36.cell? ⟨gb276, 1, none⟩ = some (.int .i64 ((rd_T88 y271 x40_2).f1)) := (blk_cell BK276.out 1).trans rfl; have hfz37_0 := blk_frozen BK276.out 0; have hfz37_1 := blk_frozen BK276.out 1; have p32 : 0 ≤ (((rd_T88 y271 x40_2).f0) : Int) := of_decide_eq_true as_; have q32 : (((rd_T88 y271 x40_2).f0) : Int) < ((x4_2.length : Int) : Int) := of_decide_eq_true as_; obtain ⟨go32, co32, eo32, gb32, gl32, cl32, HG32⟩ := Kd.R_form HO_4.out (by omega); (first | cases eo32 | (injection eo32 with ea_ en_ ec_; (first | subst ea_ | (injection ea_ with ea_; subst ea_)); subst ec_; clear en_)); have GB32 := Aside0.mk gb32; have GG32 := Aside0.mk HG32; clear gb32 gl32 HG32; obtain ⟨hx32_0, hf32_0⟩ := Kd.R_celln false HO_4.out (((rd_T88 y271 x40_2).f0) : Int) p32 q32; replace p32 := eq_true p32; replace q32 := eq_true q32; obtain ⟨hy38_, hz38_⟩ := Kd.R_celln false HO_4.out (((rd_T88 y271 x40_2).f0) : Int) (of_decide_eq_true as_) (of_decide_eq_true as_); have HP38 := Kd.R_putg HO_4.out (((rd_T88 y271 x40_2).f0) : Int) true) | ((with_reducible refine gate_store (t := 4) (p := 57) rfl ?_); refine store_event (t := 4) (p := 57) (v := ?vo_w39) (w1 := (w36.setCell ⟨go32, (((rd_T88 y271 x40_2).f0) : Int).toNat, none⟩ (.bool true))) ?hg ?ho ?hn ?hr ?_; (case ho => rfl); (case hg => rfl); (case hn => rfl); (case hr => first | (go_simp; done) | (go_simp; rfl)); intro w39 hw; have hg : w36.grownBy w39 (some go32) := (by rw [hw]; exact HP38.2); have hp_ : Kd.R Kd.bool 4 w39 w.heap.size (fun _ => True) (.slice (some ⟨go32, 0, none⟩) x4_2.length co32) y277 := (by rw [hw, Ny277.out]; exact HP38.1); clear HP38; have n0_ := Aside0.mk (hp_); have n1_ := Aside0.mk (blk_grown (g := gb266) (o := .cells #[.slice A0_0 l0_0.length c0_0, .slice A0_1 l0_1.length c0_1] 55 (0, 0)) (bk_ BK266.out) hg (Kd.R_ne HO_4.out BK266.out (by decide))); have n2_ := Aside0.mk (blk_grown (g := gb276) (o := .cells #[.int .i64 ((rd_T88 y271 x40_2).f0), .int .i64 ((rd_T88 y271 x40_2).f1)] 88 (0, 0)) (bk_ BK276.out) hg (Kd.R_ne HO_4.out BK276.out (by decide))); have n3_ := Aside0.mk ((by rw [hw]; exact below_set (HB.out) GB32.out : Below w.heap.size w w39)); clear HO_4; clear BK266; clear BK276; clear HB; have HO_4 := n0_; have BK266 := n1_; have BK276 := n2_; have HB := n3_; clear n0_ n1_ n2_ n3_; clear hg hw hp_))
                 go_roundg k2
                 case measure => have := HJ1.out; have := HK2.out; omega
                 case rel => exact ⟨(y277), (wrap64 (x40_2 + 1)), es_, H', ⟨by have := HJ1.out; have := HK2.out; omega⟩, ⟨ra_ HO_4.out⟩, ⟨bk_ BK266.out⟩, ⟨hb_⟩⟩
                ·rw [if_neg c31] at H
                 exact absurd H (by simp)
               ·rw [if_neg c30] at H
                exact absurd H (by simp)
            ·rw [if_neg c21] at H
             exact absurd H (by simp)
           ·rw [if_neg c20] at H
            exact absurd H (by simp)
          ·rw [if_neg c19] at H
           have c19b0 : decide (x40_2 < (y271.length : Int)) = false := decide_eq_false c19
           clear c19
           have H' := Aside0.mk H
           clear H
           have hcz40_0 : wr.cell? ⟨gb266, 0, none⟩ = some (.slice A0_0 l0_0.length c0_0) := (blk_cell BK266.out 0).trans rfl
           have hcz40_1 : wr.cell? ⟨gb266, 1, none⟩ = some (.slice A0_1 l0_1.length c0_1) := (blk_cell BK266.out 1).trans rfl
           have hfz40_0 := blk_frozen BK266.out 0
           have hfz40_1 := blk_frozen BK266.out 1
           go_wp2
           go_loopg [62] k2 (fun kq v62 w' => ∃ (x62_3 : Int), v62 = .int .i64 x62_3 ∧ Aside0 (impl_GoodChart.l1 kq (l0_0.length : Int) x4_2 l0_0 (l0_0.length : Int) x62_3 l0_0 l0_1 = some r) ∧ Aside0 (kq ≤ k2) ∧ Aside0 (Kd.R Kd.bool 4 w' w.heap.size (fun _ => True) v269 x4_2) ∧ Aside0 (w'.heap[gb266]? = some (.cells #[(.slice A0_0 l0_0.length c0_0), (.slice A0_1 l0_1.length c0_1)] 55 (0, 0))) ∧ Aside0 (Below w.heap.size w w'))
           case atStart => exact ⟨(0), es_, H', ⟨Nat.le_refl _⟩, ⟨ra_ HO_4.out⟩, ⟨bk_ BK266.out⟩, ⟨hb_⟩⟩
           case round =>
            clear H'
            try clear c1
            try clear q1
            try clear c2
            try clear p2
            try clear q2
            try clear hx2
            try clear qi2
            try clear c3
            try clear p3
            try clear q3
            try clear hx3
            try clear hf3
            try clear c5
            try clear c5b0
            try clear c5b1
            try clear c6
            try clear c6b0
            try clear c6b1
            try clear p6
            try clear c7
            try clear c7b0
            try clear c7b1
            try clear c9
            try clear c9b0
            try clear c9b1
            try clear c11
            try clear c12
            try clear c12b0
            try clear c12b1
            try clear c13
            try clear c13b0
            try clear c13b1
            try clear c14
            try clear c14b0
            try clear c14b1
            try clear c18
            try clear q18
            try clear c19
            try clear c19b0
            try clear c20
            try clear c20b0
            try clear c21
            try clear c21b0
            try clear c22
            try clear c22b0
            try clear c24
            try clear c26
            try clear c26b0
            try clear p26
            try clear q26
            try clear hx26
            try clear qi26
            try clear p27
            try clear q27
            try clear hx27
            try clear c28
            try clear c30
            try clear c30b0
            try clear c31
            try clear c31b0
            try clear p32
            try clear q32
            try clear hx32
            try clear hf32
            try clear c34
            try clear hcz10_0
            try clear hcz10_1
            try clear hcz17_0
            try clear hcz17_1
            try clear hcz25_0
            try clear hcz25_1
            try clear hcz29_0
            try clear hcz29_1
            try clear hcz35_0
            try clear hcz35_1
            try clear hcz37_0
            try clear hcz37_1
            try clear hcz40_0
            try clear hcz40_1
            try clear hcz4_0
            try clear hcz4_1
            try clear hcz8_0
            try clear hcz8_1
            try clear hfz10_0
            try clear hfz10_1
            try clear hfz17_0
            try clear hfz17_1
            try clear hfz25_0
            try clear hfz25_1
            try clear hfz29_0
            try clear hfz29_1
            try clear hfz35_0
            try clear hfz35_1
            try clear hfz37_0
            try clear hfz37_1
            try clear hfz40_0
            try clear hfz40_1
            try clear hfz4_0
            try clear hfz4_1
            try clear hfz8_0
            try clear hfz8_1
            try clear hx267_0
            try clear hx267_1
            try clear hx275_0
            try clear hx275_1
            try clear hx32_0
            try clear p2
            try clear p267
            try clear p275
            try clear p32
            try clear q1
            try clear q18
            try clear q2
            try clear q267
            try clear q275
            try clear q32
            obtain ⟨x62_3, rfl, HA, HK3, HO_4, BK266, HB⟩ := hrel
            cases gk with
            | zero => exact absurd HA.out (by simp [impl_GoodChart.l1])
            | succ k3 =>
             have H := HA.out
             clear HA
             simp only [impl_GoodChart.l1] at H
             by_cases c41 : x62_3 < (l0_0.length : Int)
             ·rw [if_pos c41] at H
              have c41b0 : decide (x62_3 < (l0_0.length : Int)) = true := decide_eq_true c41
              clear c41
              by_cases c42 : 0 ≤ x62_3
              ·rw [if_pos c42] at H
               have c42b0 : decide (0 ≤ x62_3) = true := decide_eq_true c42
               clear c42
               by_cases c43 : x62_3 < (l0_0.length : Int)
               ·rw [if_pos c43] at H
                have c43b0 : decide (x62_3 < (l0_0.length : Int)) = true := decide_eq_true c43
                clear c43
                by_cases c44 : x62_3 < (x4_2.length : Int)
                ·rw [if_pos c44] at H
                 have c44b0 : decide (x62_3 < (x4_2.length : Int)) = true := decide_eq_true c44
                 clear c44
                 obtain ⟨bq45, hbq45⟩ : ∃ b_ : Bool, b_ = (rdOf false x4_2 x62_3) := ⟨_, rfl⟩
                 replace H : (if bq45 = true then (if ((rd_T88 l0_0 x62_3).f1) < 0 then (some false) else (if ((rd_T88 l0_0 x62_3).f1) ≥ (l0_0.length : Int) then (some false) else (if 0 ≤ ((rd_T88 l0_0 x62_3).f1) then (if ((rd_T88 l0_0 x62_3).f1) < (l0_0.length : Int) then (if ((rd_T88 l0_0 ((rd_T88 l0_0 x62_3).f1)).f0) = x62_3 then (impl_GoodChart.l1 k3 (l0_0.length : Int) x4_2 l0_0 (l0_0.length : Int) (wrap64 (x62_3 + 1)) l0_0 l0_1) else (some false)) else (none)) else (none)))) else (if ((rd_T88 l0_0 x62_3).f1) = (-1) then (impl_GoodChart.l1 k3 (l0_0.length : Int) x4_2 l0_0 (l0_0.length : Int) (wrap64 (x62_3 + 1)) l0_0 l0_1) else (some false))) = some r := by rw [← hbq45] at H; exact H
                 have Nbq45 := Aside0.mk hbq45
                 clear hbq45
                 by_cases c46 : bq45 = true
                 ·subst c46
                  rw [if_pos rfl] at H
                  by_cases c47 : ((rd_T88 l0_0 x62_3).f1) < 0
                  ·rw [if_pos c47] at H
                   have c47b0 : decide (((rd_T88 l0_0 x62_3).f1) < 0) = true := decide_eq_true c47
                   clear c47
                   obtain rfl := Option.some.inj H
                   have p278 : 0 ≤ (x62_3 : Int) := of_decide_eq_true as_
                   have q278 : x62_3 < (l0_0.length : Int) := of_decide_eq_true as_
                   obtain ⟨ad278, e278, hx278_0, hx278_1⟩ := at_T88 HR0_0.out x62_3 p278 q278
                   cases e278
                   replace hx278_0 := hc_ HB hx278_0
                   replace hx278_1 := hc_ HB hx278_1
                   replace p278 := eq_true p278
                   replace q278 := eq_true q278
                   go_wp2_with (first | ((with_reducible refine gate_dst (N := 8) rfl ?_); (try (refine gate_guard (by rfl) ?_; dsimp only)); refine box_event ?hg (N := 8) ?hd (cs := #[.int .i64 0, .int .i64 0]) (t := 88) ?hr ?_; (case hd => rfl); (case hg => rfl); (case hr => first | (go_simp; done) | (go_simp; rfl)); intro gb279 hg w48 hbox hb; have n0_ := Aside0.mk (Kd.R_below (ra_ HO_4.out) hb); have n1_ := bb_ BK266 hb; have n2_ := Aside0.mk (below_step hb_ hb); have n3_ := Aside0.mk (hbox); have n4_ : Aside0 (w.heap.size ≤ gb279) := gz_; have n5_ : Aside0 (w.heap.size ≤ gb279) := gz_; have n6_ := Aside0.mk ((by rw [hg]; exact Nat.ne_of_lt (blk_lt (g := gb266) (o := .cells #[.slice (some ad278) l0_0.length c0_0, .slice A0_1 l0_1.length c0_1] 55 (0, 0)) (bk_ BK266.out)) : gb266 ≠ gb279)); have n7_ := Aside0.mk ((by rw [hg]; exact Nat.ne_of_gt (blk_lt (g := gb266) (o := .cells #[.slice (some ad278) l0_0.length c0_0, .slice A0_1 l0_1.length c0_1] 55 (0, 0)) (bk_ BK266.out)) : gb279 ≠ gb266)); clear HO_4; clear BK266; clear HB; have HO_4 := n0_; have BK266 := n1_; have HB := n2_; have BK279 := n3_; have GW279 := n4_; have GE279 := n5_; have NB266_279 := n6_; have NB279_266 := n7_; clear n0_ n1_ n2_ n3_ n4_ n5_ n6_ n7_; clear hb hbox hg; have hnb49 := NB279_266.out; have hnc49 := NB266_279.out; have hcz50_0 : w48.cell? ⟨gb279, 0, none⟩ = some (.int .i64 0) := (blk_cell BK279.out 0).trans rfl; have hcz50_1 : w48.cell? ⟨gb279, 1, none⟩ = some (.int .i64 0) := (blk_cell BK279.out 1).trans rfl; have hfz50_0 := blk_frozen BK279.out 0; have hfz50_1 := blk_frozen BK279.out 1; obtain ⟨Ao51, co51, eo51⟩ := Kd.R_slice HO_4.out; subst eo51; have p280 : 0 ≤ (x62_3 : Int) := of_decide_eq_true as_; have q280 : x62_3 < (x4_2.length : Int) := of_decide_eq_true as_; obtain ⟨ad280, e280, hx280_0⟩ := Kd.at_bool (Kd.R_reads' HO_4.out).2.2 x62_3 p280 q280; (try rw [← Nbq45.out] at hx280_0); cases e280; have hn280_0 : ad280.block ≠ gb279 := Kd.own_blk (Kd.R_ne HO_4.out BK279.out (by decide)); have hn280_1 : ad280.block ≠ gb279 := Kd.own_blk (Kd.R_ne HO_4.out BK279.out (by decide)); replace hx280_0 := (cell_far (p := ⟨gb279, 0, none⟩) (by first | (rw [add_block]; exact hn280_0) | (show (Addr.add _ _).block ≠ _; rw [add_block]; exact hn280_0) | exact hn280_0) (.int .i64 ((rd_T88 l0_0 x62_3).f0))).trans hx280_0; replace hx280_0 := (cell_far (p := ⟨gb279, 1, none⟩) (by first | (rw [add_block]; exact hn280_1) | (show (Addr.add _ _).block ≠ _; rw [add_block]; exact hn280_1) | exact hn280_1) (.int .i64 ((rd_T88 l0_0 x62_3).f1))).trans hx280_0; clear hn280_0; clear hn280_1; replace p280 := eq_true p280; replace q280 := eq_true q280))
                   go_ret
                   exact ⟨er_, hb_⟩
                  ·rw [if_neg c47] at H
                   have c47b0 : decide (((rd_T88 l0_0 x62_3).f1) < 0) = false := decide_eq_false c47
                   clear c47
                   by_cases c52 : ((rd_T88 l0_0 x62_3).f1) ≥ (l0_0.length : Int)
                   ·rw [if_pos c52] at H
                    have c52b0 : decide ((l0_0.length : Int) ≤ ((rd_T88 l0_0 x62_3).f1)) = true := decide_eq_true c52
                    clear c52
                    obtain rfl := Option.some.inj H
                    have p278 : 0 ≤ (x62_3 : Int) := of_decide_eq_true as_
                    have q278 : x62_3 < (l0_0.length : Int) := of_decide_eq_true as_
                    obtain ⟨ad278, e278, hx278_0, hx278_1⟩ := at_T88 HR0_0.out x62_3 p278 q278
                    cases e278
                    replace hx278_0 := hc_ HB hx278_0
                    replace hx278_1 := hc_ HB hx278_1
                    replace p278 := eq_true p278
                    replace q278 := eq_true q278
                    go_wp2_with (first | ((with_reducible refine gate_dst (N := 8) rfl ?_); (try (refine gate_guard (by rfl) ?_; dsimp only)); refine box_event ?hg (N := 8) ?hd (cs := #[.int .i64 0, .int .i64 0]) (t := 88) ?hr ?_; (case hd => rfl); (case hg => rfl); (case hr => first | (go_simp; done) | (go_simp; rfl)); intro gb279 hg w53 hbox hb; have n0_ := Aside0.mk (Kd.R_below (ra_ HO_4.out) hb); have n1_ := bb_ BK266 hb; have n2_ := Aside0.mk (below_step hb_ hb); have n3_ := Aside0.mk (hbox); have n4_ : Aside0 (w.heap.size ≤ gb279) := gz_; have n5_ : Aside0 (w.heap.size ≤ gb279) := gz_; have n6_ := Aside0.mk ((by rw [hg]; exact Nat.ne_of_lt (blk_lt (g := gb266) (o := .cells #[.slice (some ad278) l0_0.length c0_0, .slice A0_1 l0_1.length c0_1] 55 (0, 0)) (bk_ BK266.out)) : gb266 ≠ gb279)); have n7_ := Aside0.mk ((by rw [hg]; exact Nat.ne_of_gt (blk_lt (g := gb266) (o := .cells #[.slice (some ad278) l0_0.length c0_0, .slice A0_1 l0_1.length c0_1] 55 (0, 0)) (bk_ BK266.out)) : gb279 ≠ gb266)); clear HO_4; clear BK266; clear HB; have HO_4 := n0_; have BK266 := n1_; have HB := n2_; have BK279 := n3_; have GW279 := n4_; have GE279 := n5_; have NB266_279 := n6_; have NB279_266 := n7_; clear n0_ n1_ n2_ n3_ n4_ n5_ n6_ n7_; clear hb hbox hg; have hnb54 := NB279_266.out; have hnc54 := NB266_279.out; have hcz55_0 : w53.cell? ⟨gb279, 0, none⟩ = some (.int .i64 0) := (blk_cell BK279.out 0).trans rfl; have hcz55_1 : w53.cell? ⟨gb279, 1, none⟩ = some (.int .i64 0) := (blk_cell BK279.out 1).trans rfl; have hfz55_0 := blk_frozen BK279.out 0; have hfz55_1 := blk_frozen BK279.out 1; obtain ⟨Ao56, co56, eo56⟩ := Kd.R_slice HO_4.out; subst eo56; have p280 : 0 ≤ (x62_3 : Int) := of_decide_eq_true as_; have q280 : x62_3 < (x4_2.length : Int) := of_decide_eq_true as_; obtain ⟨ad280, e280, hx280_0⟩ := Kd.at_bool (Kd.R_reads' HO_4.out).2.2 x62_3 p280 q280; (try rw [← Nbq45.out] at hx280_0); cases e280; have hn280_0 : ad280.block ≠ gb279 := Kd.own_blk (Kd.R_ne HO_4.out BK279.out (by decide)); have hn280_1 : ad280.block ≠ gb279 := Kd.own_blk (Kd.R_ne HO_4.out BK279.out (by decide)); replace hx280_0 := (cell_far (p := ⟨gb279, 0, none⟩) (by first | (rw [add_block]; exact hn280_0) | (show (Addr.add _ _).block ≠ _; rw [add_block]; exact hn280_0) | exact hn280_0) (.int .i64 ((rd_T88 l0_0 x62_3).f0))).trans hx280_0; replace hx280_0 := (cell_far (p := ⟨gb279, 1, none⟩) (by first | (rw [add_block]; exact hn280_1) | (show (Addr.add _ _).block ≠ _; rw [add_block]; exact hn280_1) | exact hn280_1) (.int .i64 ((rd_T88 l0_0 x62_3).f1))).trans hx280_0; clear hn280_0; clear hn280_1; replace p280 := eq_true p280; replace q280 := eq_true q280))
                    go_ret
                    exact ⟨er_, hb_⟩
                   ·rw [if_neg c52] at H
                    have c52b0 : decide ((l0_0.length : Int) ≤ ((rd_T88 l0_0 x62_3).f1)) = false := decide_eq_false c52
                    clear c52
                    by_cases c57 : 0 ≤ ((rd_T88 l0_0 x62_3).f1)
                    ·rw [if_pos c57] at H
                     have c57b0 : decide (0 ≤ ((rd_T88 l0_0 x62_3).f1)) = true := decide_eq_true c57
                     clear c57
                     by_cases c58 : ((rd_T88 l0_0 x62_3).f1) < (l0_0.length : Int)
                     ·rw [if_pos c58] at H
                      have c58b0 : decide (((rd_T88 l0_0 x62_3).f1) < (l0_0.length : Int)) = true := decide_eq_true c58
                      clear c58
                      by_cases c59 : ((rd_T88 l0_0 ((rd_T88 l0_0 x62_3).f1)).f0) = x62_3
                      ·rw [if_pos c59] at H
                       have c59b0 : (((rd_T88 l0_0 ((rd_T88 l0_0 x62_3).f1)).f0) == x62_3) = true := beq_iff_eq.mpr c59
                       have c59b1 : (((rd_T88 l0_0 ((rd_T88 l0_0 x62_3).f1)).f0) != x62_3) = false := bne_eq_false_iff_eq.mpr c59
                       clear c59
                       have H' := Aside0.mk H
                       clear H
                       have p278 : 0 ≤ (x62_3 : Int) := of_decide_eq_true as_
                       have q278 : x62_3 < (l0_0.length : Int) := of_decide_eq_true as_
                       obtain ⟨ad278, e278, hx278_0, hx278_1⟩ := at_T88 HR0_0.out x62_3 p278 q278
                       cases e278
                       replace hx278_0 := hc_ HB hx278_0
                       replace hx278_1 := hc_ HB hx278_1
                       replace p278 := eq_true p278
                       replace q278 := eq_true q278
                       go_wp2_with (first | ((with_reducible refine gate_dst (N := 8) rfl ?_); (try (refine gate_guard (by rfl) ?_; dsimp only)); refine box_event ?hg (N := 8) ?hd (cs := #[.int .i64 0, .int .i64 0]) (t := 88) ?hr ?_; (case hd => rfl); (case hg => rfl); (case hr => first | (go_simp; done) | (go_simp; rfl)); intro gb279 hg w60 hbox hb; have n0_ := Aside0.mk (Kd.R_below (ra_ HO_4.out) hb); have n1_ := bb_ BK266 hb; have n2_ := Aside0.mk (below_step hb_ hb); have n3_ := Aside0.mk (hbox); have n4_ : Aside0 (w.heap.size ≤ gb279) := gz_; have n5_ : Aside0 (w.heap.size ≤ gb279) := gz_; have n6_ := Aside0.mk ((by rw [hg]; exact Nat.ne_of_lt (blk_lt (g := gb266) (o := .cells #[.slice (some ad278) l0_0.length c0_0, .slice A0_1 l0_1.length c0_1] 55 (0, 0)) (bk_ BK266.out)) : gb266 ≠ gb279)); have n7_ := Aside0.mk ((by rw [hg]; exact Nat.ne_of_gt (blk_lt (g := gb266) (o := .cells #[.slice (some ad278) l0_0.length c0_0, .slice A0_1 l0_1.length c0_1] 55 (0, 0)) (bk_ BK266.out)) : gb279 ≠ gb266)); clear HO_4; clear BK266; clear HB; have HO_4 := n0_; have BK266 := n1_; have HB := n2_; have BK279 := n3_; have GW279 := n4_; have GE279 := n5_; have NB266_279 := n6_; have NB279_266 := n7_; clear n0_ n1_ n2_ n3_ n4_ n5_ n6_ n7_; clear hb hbox hg; have hnb61 := NB279_266.out; have hnc61 := NB266_279.out; have hcz62_0 : w60.cell? ⟨gb279, 0, none⟩ = some (.int .i64 0) := (blk_cell BK279.out 0).trans rfl; have hcz62_1 : w60.cell? ⟨gb279, 1, none⟩ = some (.int .i64 0) := (blk_cell BK279.out 1).trans rfl; have hfz62_0 := blk_frozen BK279.out 0; have hfz62_1 := blk_frozen BK279.out 1; obtain ⟨Ao63, co63, eo63⟩ := Kd.R_slice HO_4.out; subst eo63; have p280 : 0 ≤ (x62_3 : Int) := of_decide_eq_true as_; have q280 : x62_3 < (x4_2.length : Int) := of_decide_eq_true as_; obtain ⟨ad280, e280, hx280_0⟩ := Kd.at_bool (Kd.R_reads' HO_4.out).2.2 x62_3 p280 q280; (try rw [← Nbq45.out] at hx280_0); cases e280; have hn280_0 : ad280.block ≠ gb279 := Kd.own_blk (Kd.R_ne HO_4.out BK279.out (by decide)); have hn280_1 : ad280.block ≠ gb279 := Kd.own_blk (Kd.R_ne HO_4.out BK279.out (by decide)); replace hx280_0 := (cell_far (p := ⟨gb279, 0, none⟩) (by first | (rw [add_block]; exact hn280_0) | (show (Addr.add _ _).block ≠ _; rw [add_block]; exact hn280_0) | exact hn280_0) (.int .i64 ((rd_T88 l0_0 x62_3).f0))).trans hx280_0; replace hx280_0 := (cell_far (p := ⟨gb279, 1, none⟩) (by first | (rw [add_block]; exact hn280_1) | (show (Addr.add _ _).block ≠ _; rw [add_block]; exact hn280_1) | exact hn280_1) (.int .i64 ((rd_T88 l0_0 x62_3).f1))).trans hx280_0; clear hn280_0; clear hn280_1; replace p280 := eq_true p280; replace q280 := eq_true q280; have hcz64_0 : w60.cell? ⟨gb266, 0, none⟩ = some (.slice (some ad278) l0_0.length c0_0) := (blk_cell BK266.out 0).trans rfl; have hcz64_1 : w60.cell? ⟨gb266, 1, none⟩ = some (.slice A0_1 l0_1.length c0_1) := (blk_cell BK266.out 1).trans rfl; have hfz64_0 := blk_frozen BK266.out 0; have hfz64_1 := blk_frozen BK266.out 1; have p281 : 0 ≤ (((rd_T88 l0_0 x62_3).f1) : Int) := of_decide_eq_true as_; have q281 : ((rd_T88 l0_0 x62_3).f1) < (l0_0.length : Int) := of_decide_eq_true as_; obtain ⟨ad281, e281, hx281_0, hx281_1⟩ := at_T88 HR0_0.out ((rd_T88 l0_0 x62_3).f1) p281 q281; obtain rfl : ad278 = ad281 := (by injection e281); have hn281_0 : ad278.block ≠ gb279 := Nat.ne_of_lt (Nat.lt_of_lt_of_le (by have := World.block_lt_of_cell? _ _ hx281_0; first | rwa [add_block] at this | exact this) GW279.out); have hn281_1 : ad278.block ≠ gb279 := Nat.ne_of_lt (Nat.lt_of_lt_of_le (by have := World.block_lt_of_cell? _ _ hx281_0; first | rwa [add_block] at this | exact this) GW279.out); replace hx281_0 := hc_ HB hx281_0; replace hx281_1 := hc_ HB hx281_1; replace hx281_0 := (cell_far (p := ⟨gb279, 0, none⟩) (by first | (rw [add_block]; exact hn281_0) | (show (Addr.add _ _).block ≠ _; rw [add_block]; exact hn281_0) | exact hn281_0) (.int .i64 ((rd_T88 l0_0 x62_3).f0))).trans hx281_0; replace hx281_1 := (cell_far (p := ⟨gb279, 0, none⟩) (by first | (rw [add_block]; exact hn281_0) | (show (Addr.add _ _).block ≠ _; rw [add_block]; exact hn281_0) | exact hn281_0) (.int .i64 ((rd_T88 l0_0 x62_3).f0))).trans hx281_1; replace hx281_0 := (cell_far (p := ⟨gb279, 1, none⟩) (by first | (rw [add_block]; exact hn281_1) | (show (Addr.add _ _).block ≠ _; rw [add_block]; exact hn281_1) | exact hn281_1) (.int .i64 ((rd_T88 l0_0 x62_3).f1))).trans hx281_0; replace hx281_1 := (cell_far (p := ⟨gb279, 1, none⟩) (by first | (rw [add_block]; exact hn281_1) | (show (Addr.add _ _).block ≠ _; rw [add_block]; exact hn281_1) | exact hn281_1) (.int .i64 ((rd_T88 l0_0 x62_3).f1))).trans hx281_1; clear hn281_0; clear hn281_1; replace p281 := eq_true p281; replace q281 := eq_true q281))
                       go_roundg k3
                       case measure => have := HJ1.out; have := HK2.out; have := HK3.out; omega
                       case rel => exact ⟨(wrap64 (x62_3 + 1)), es_, H', ⟨by have := HJ1.out; have := HK2.out; have := HK3.out; omega⟩, ⟨by (with_reducible repeat (first | apply Kd.R_alloc | apply Kd.R_drewN | apply Kd.R_drew)); exact Kd.R_mono (Kd.R_far (p := ⟨gb279, 1, none⟩) (Kd.R_far (p := ⟨gb279, 0, none⟩) (Kd.R_types HO_4.out BK279.out (by decide)) (fun _ hk => hk.2) (.int .i64 ((rd_T88 l0_0 x62_3).f0))) (fun _ hk => hk.2) (.int .i64 ((rd_T88 l0_0 x62_3).f1))) (fun _ hk => trivial)⟩, ⟨by (with_reducible repeat (first | refine blk_drewN ?_ _ | refine blk_drew ?_ | refine blk_alloc ?_ _)); refine blk_far ?_ NB266_279.out _; (with_reducible repeat (first | refine blk_drewN ?_ _ | refine blk_drew ?_ | refine blk_alloc ?_ _)); refine blk_far ?_ NB266_279.out _; (with_reducible repeat (first | refine blk_drewN ?_ _ | refine blk_drew ?_ | refine blk_alloc ?_ _)); exact BK266.out⟩, ⟨hb_⟩⟩
                      ·rw [if_neg c59] at H
                       have c59b0 : (((rd_T88 l0_0 ((rd_T88 l0_0 x62_3).f1)).f0) == x62_3) = false := beq_eq_false_iff_ne.mpr c59
                       have c59b1 : (((rd_T88 l0_0 ((rd_T88 l0_0 x62_3).f1)).f0) != x62_3) = true := bne_iff_ne.mpr c59
                       obtain rfl := Option.some.inj H
                       have p278 : 0 ≤ (x62_3 : Int) := of_decide_eq_true as_
                       have q278 : x62_3 < (l0_0.length : Int) := of_decide_eq_true as_
                       obtain ⟨ad278, e278, hx278_0, hx278_1⟩ := at_T88 HR0_0.out x62_3 p278 q278
                       cases e278
                       replace hx278_0 := hc_ HB hx278_0
                       replace hx278_1 := hc_ HB hx278_1
                       replace p278 := eq_true p278
                       replace q278 := eq_true q278
                       go_wp2_with (first | ((with_reducible refine gate_dst (N := 8) rfl ?_); (try (refine gate_guard (by rfl) ?_; dsimp only)); refine box_event ?hg (N := 8) ?hd (cs := #[.int .i64 0, .int .i64 0]) (t := 88) ?hr ?_; (case hd => rfl); (case hg => rfl); (case hr => first | (go_simp; done) | (go_simp; rfl)); intro gb279 hg w65 hbox hb; have n0_ := Aside0.mk (Kd.R_below (ra_ HO_4.out) hb); have n1_ := bb_ BK266 hb; have n2_ := Aside0.mk (below_step hb_ hb); have n3_ := Aside0.mk (hbox); have n4_ : Aside0 (w.heap.size ≤ gb279) := gz_; have n5_ : Aside0 (w.heap.size ≤ gb279) := gz_; have n6_ := Aside0.mk ((by rw [hg]; exact Nat.ne_of_lt (blk_lt (g := gb266) (o := .cells #[.slice (some ad278) l0_0.length c0_0, .slice A0_1 l0_1.length c0_1] 55 (0, 0)) (bk_ BK266.out)) : gb266 ≠ gb279)); have n7_ := Aside0.mk ((by rw [hg]; exact Nat.ne_of_gt (blk_lt (g := gb266) (o := .cells #[.slice (some ad278) l0_0.length c0_0, .slice A0_1 l0_1.length c0_1] 55 (0, 0)) (bk_ BK266.out)) : gb279 ≠ gb266)); clear HO_4; clear BK266; clear HB; have HO_4 := n0_; have BK266 := n1_; have HB := n2_; have BK279 := n3_; have GW279 := n4_; have GE279 := n5_; have NB266_279 := n6_; have NB279_266 := n7_; clear n0_ n1_ n2_ n3_ n4_ n5_ n6_ n7_; clear hb hbox hg; have hnb66 := NB279_266.out; have hnc66 := NB266_279.out; have hcz67_0 : w65.cell? ⟨gb279, 0, none⟩ = some (.int .i64 0) := (blk_cell BK279.out 0).trans rfl; have hcz67_1 : w65.cell? ⟨gb279, 1, none⟩ = some (.int .i64 0) := (blk_cell BK279.out 1).trans rfl; have hfz67_0 := blk_frozen BK279.out 0; have hfz67_1 := blk_frozen BK279.out 1; obtain ⟨Ao68, co68, eo68⟩ := Kd.R_slice HO_4.out; subst eo68; have p280 : 0 ≤ (x62_3 : Int) := of_decide_eq_true as_; have q280 : x62_3 < (x4_2.length : Int) := of_decide_eq_true as_; obtain ⟨ad280, e280, hx280_0⟩ := Kd.at_bool (Kd.R_reads' HO_4.out).2.2 x62_3 p280 q280; (try rw [← Nbq45.out] at hx280_0); cases e280; have hn280_0 : ad280.block ≠ gb279 := Kd.own_blk (Kd.R_ne HO_4.out BK279.out (by decide)); have hn280_1 : ad280.block ≠ gb279 := Kd.own_blk (Kd.R_ne HO_4.out BK279.out (by decide)); replace hx280_0 := (cell_far (p := ⟨gb279, 0, none⟩) (by first | (rw [add_block]; exact hn280_0) | (show (Addr.add _ _).block ≠ _; rw [add_block]; exact hn280_0) | exact hn280_0) (.int .i64 ((rd_T88 l0_0 x62_3).f0))).trans hx280_0; replace hx280_0 := (cell_far (p := ⟨gb279, 1, none⟩) (by first | (rw [add_block]; exact hn280_1) | (show (Addr.add _ _).block ≠ _; rw [add_block]; exact hn280_1) | exact hn280_1) (.int .i64 ((rd_T88 l0_0 x62_3).f1))).trans hx280_0; clear hn280_0; clear hn280_1; replace p280 := eq_true p280; replace q280 := eq_true q280; have hcz69_0 : w65.cell? ⟨gb266, 0, none⟩ = some (.slice (some ad278) l0_0.length c0_0) := (blk_cell BK266.out 0).trans rfl; have hcz69_1 : w65.cell? ⟨gb266, 1, none⟩ = some (.slice A0_1 l0_1.length c0_1) := (blk_cell BK266.out 1).trans rfl; have hfz69_0 := blk_frozen BK266.out 0; have hfz69_1 := blk_frozen BK266.out 1; have p281 : 0 ≤ (((rd_T88 l0_0 x62_3).f1) : Int) := of_decide_eq_true as_; have q281 : ((rd_T88 l0_0 x62_3).f1) < (l0_0.length : Int) := of_decide_eq_true as_; obtain ⟨ad281, e281, hx281_0, hx281_1⟩ := at_T88 HR0_0.out ((rd_T88 l0_0 x62_3).f1) p281 q281; obtain rfl : ad278 = ad281 := (by injection e281); have hn281_0 : ad278.block ≠ gb279 := Nat.ne_of_lt (Nat.lt_of_lt_of_le (by have := World.block_lt_of_cell? _ _ hx281_0; first | rwa [add_block] at this | exact this) GW279.out); have hn281_1 : ad278.block ≠ gb279 := Nat.ne_of_lt (Nat.lt_of_lt_of_le (by have := World.block_lt_of_cell? _ _ hx281_0; first | rwa [add_block] at this | exact this) GW279.out); replace hx281_0 := hc_ HB hx281_0; replace hx281_1 := hc_ HB hx281_1; replace hx281_0 := (cell_far (p := ⟨gb279, 0, none⟩) (by first | (rw [add_block]; exact hn281_0) | (show (Addr.add _ _).block ≠ _; rw [add_block]; exact hn281_0) | exact hn281_0) (.int .i64 ((rd_T88 l0_0 x62_3).f0))).trans hx281_0; replace hx281_1 := (cell_far (p := ⟨gb279, 0, none⟩) (by first | (rw [add_block]; exact hn281_0) | (show (Addr.add _ _).block ≠ _; rw [add_block]; exact hn281_0) | exact hn281_0) (.int .i64 ((rd_T88 l0_0 x62_3).f0))).trans hx281_1; replace hx281_0 := (cell_far (p := ⟨gb279, 1, none⟩) (by first | (rw [add_block]; exact hn281_1) | (show (Addr.add _ _).block ≠ _; rw [add_block]; exact hn281_1) | exact hn281_1) (.int .i64 ((rd_T88 l0_0 x62_3).f1))).trans hx281_0; replace hx281_1 := (cell_far (p := ⟨gb279, 1, none⟩) (by first | (rw [add_block]; exact hn281_1) | (show (Addr.add _ _).block ≠ _; rw [add_block]; exact hn281_1) | exact hn281_1) (.int .i64 ((rd_T88 l0_0 x62_3).f1))).trans hx281_1; clear hn281_0; clear hn281_1; replace p281 := eq_true p281; replace q281 := eq_true q281))
                       go_ret
                       exact ⟨er_, hb_⟩
                     ·rw [if_neg c58] at H
                      exact absurd H (by simp)
                    ·rw [if_neg c57] at H
                     exact absurd H (by simp)
                 ·replace c46 := Bool.eq_false_iff.mpr c46
                  subst c46
                  rw [if_neg (show ¬ (false = true) by decide)] at H
                  by_cases c70 : ((rd_T88 l0_0 x62_3).f1) = (-1)
                  ·rw [if_pos c70] at H
                   have c70b0 : (((rd_T88 l0_0 x62_3).f1) == (-1)) = true := beq_iff_eq.mpr c70
                   have c70b1 : (((rd_T88 l0_0 x62_3).f1) != (-1)) = false := bne_eq_false_iff_eq.mpr c70
                   clear c70
                   have H' := Aside0.mk H
                   clear H
                   have p278 : 0 ≤ (x62_3 : Int) := of_decide_eq_true as_
                   have q278 : x62_3 < (l0_0.length : Int) := of_decide_eq_true as_
                   obtain ⟨ad278, e278, hx278_0, hx278_1⟩ := at_T88 HR0_0.out x62_3 p278 q278
                   cases e278
                   replace hx278_0 := hc_ HB hx278_0
                   replace hx278_1 := hc_ HB hx278_1
                   replace p278 := eq_true p278
                   replace q278 := eq_true q278
                   go_wp2_with (first | ((with_reducible refine gate_dst (N := 8) rfl ?_); (try (refine gate_guard (by rfl) ?_; dsimp only)); refine box_event ?hg (N := 8) ?hd (cs := #[.int .i64 0, .int .i64 0]) (t := 88) ?hr ?_; (case hd => rfl); (case hg => rfl); (case hr => first | (go_simp; done) | (go_simp; rfl)); intro gb279 hg w71 hbox hb; have n0_ := Aside0.mk (Kd.R_below (ra_ HO_4.out) hb); have n1_ := bb_ BK266 hb; have n2_ := Aside0.mk (below_step hb_ hb); have n3_ := Aside0.mk (hbox); have n4_ : Aside0 (w.heap.size ≤ gb279) := gz_; have n5_ : Aside0 (w.heap.size ≤ gb279) := gz_; have n6_ := Aside0.mk ((by rw [hg]; exact Nat.ne_of_lt (blk_lt (g := gb266) (o := .cells #[.slice (some ad278) l0_0.length c0_0, .slice A0_1 l0_1.length c0_1] 55 (0, 0)) (bk_ BK266.out)) : gb266 ≠ gb279)); have n7_ := Aside0.mk ((by rw [hg]; exact Nat.ne_of_gt (blk_lt (g := gb266) (o := .cells #[.slice (some ad278) l0_0.length c0_0, .slice A0_1 l0_1.length c0_1] 55 (0, 0)) (bk_ BK266.out)) : gb279 ≠ gb266)); clear HO_4; clear BK266; clear HB; have HO_4 := n0_; have BK266 := n1_; have HB := n2_; have BK279 := n3_; have GW279 := n4_; have GE279 := n5_; have NB266_279 := n6_; have NB279_266 := n7_; clear n0_ n1_ n2_ n3_ n4_ n5_ n6_ n7_; clear hb hbox hg; have hnb72 := NB279_266.out; have hnc72 := NB266_279.out; have hcz73_0 : w71.cell? ⟨gb279, 0, none⟩ = some (.int .i64 0) := (blk_cell BK279.out 0).trans rfl; have hcz73_1 : w71.cell? ⟨gb279, 1, none⟩ = some (.int .i64 0) := (blk_cell BK279.out 1).trans rfl; have hfz73_0 := blk_frozen BK279.out 0; have hfz73_1 := blk_frozen BK279.out 1; obtain ⟨Ao74, co74, eo74⟩ := Kd.R_slice HO_4.out; subst eo74; have p280 : 0 ≤ (x62_3 : Int) := of_decide_eq_true as_; have q280 : x62_3 < (x4_2.length : Int) := of_decide_eq_true as_; obtain ⟨ad280, e280, hx280_0⟩ := Kd.at_bool (Kd.R_reads' HO_4.out).2.2 x62_3 p280 q280; (try rw [← Nbq45.out] at hx280_0); cases e280; have hn280_0 : ad280.block ≠ gb279 := Kd.own_blk (Kd.R_ne HO_4.out BK279.out (by decide)); have hn280_1 : ad280.block ≠ gb279 := Kd.own_blk (Kd.R_ne HO_4.out BK279.out (by decide)); replace hx280_0 := (cell_far (p := ⟨gb279, 0, none⟩) (by first | (rw [add_block]; exact hn280_0) | (show (Addr.add _ _).block ≠ _; rw [add_block]; exact hn280_0) | exact hn280_0) (.int .i64 ((rd_T88 l0_0 x62_3).f0))).trans hx280_0; replace hx280_0 := (cell_far (p := ⟨gb279, 1, none⟩) (by first | (rw [add_block]; exact hn280_1) | (show (Addr.add _ _).block ≠ _; rw [add_block]; exact hn280_1) | exact hn280_1) (.int .i64 ((rd_T88 l0_0 x62_3).f1))).trans hx280_0; clear hn280_0; clear hn280_1; replace p280 := eq_true p280; replace q280 := eq_true q280))
                   go_roundg k3
                   case measure => have := HJ1.out; have := HK2.out; have := HK3.out; omega
                   case rel => exact ⟨(wrap64 (x62_3 + 1)), es_, H', ⟨by have := HJ1.out; have := HK2.out; have := HK3.out; omega⟩, ⟨by (with_reducible repeat (first | apply Kd.R_alloc | apply Kd.R_drewN | apply Kd.R_drew)); exact Kd.R_mono (Kd.R_far (p := ⟨gb279, 1, none⟩) (Kd.R_far (p := ⟨gb279, 0, none⟩) (Kd.R_types HO_4.out BK279.out (by decide)) (fun _ hk => hk.2) (.int .i64 ((rd_T88 l0_0 x62_3).f0))) (fun _ hk => hk.2) (.int .i64 ((rd_T88 l0_0 x62_3).f1))) (fun _ hk => trivial)⟩, ⟨by (with_reducible repeat (first | refine blk_drewN ?_ _ | refine blk_drew ?_ | refine blk_alloc ?_ _)); refine blk_far ?_ NB266_279.out _; (with_reducible repeat (first | refine blk_drewN ?_ _ | refine blk_drew ?_ | refine blk_alloc ?_ _)); refine blk_far ?_ NB266_279.out _; (with_reducible repeat (first | refine blk_drewN ?_ _ | refine blk_drew ?_ | refine blk_alloc ?_ _)); exact BK266.out⟩, ⟨hb_⟩⟩
                  ·rw [if_neg c70] at H
                   have c70b0 : (((rd_T88 l0_0 x62_3).f1) == (-1)) = false := beq_eq_false_iff_ne.mpr c70
                   have c70b1 : (((rd_T88 l0_0 x62_3).f1) != (-1)) = true := bne_iff_ne.mpr c70
                   obtain rfl := Option.some.inj H
                   have p278 : 0 ≤ (x62_3 : Int) := of_decide_eq_true as_
                   have q278 : x62_3 < (l0_0.length : Int) := of_decide_eq_true as_
                   obtain ⟨ad278, e278, hx278_0, hx278_1⟩ := at_T88 HR0_0.out x62_3 p278 q278
                   cases e278
                   replace hx278_0 := hc_ HB hx278_0
                   replace hx278_1 := hc_ HB hx278_1
                   replace p278 := eq_true p278
                   replace q278 := eq_true q278
                   go_wp2_with (first | ((with_reducible refine gate_dst (N := 8) rfl ?_); (try (refine gate_guard (by rfl) ?_; dsimp only)); refine box_event ?hg (N := 8) ?hd (cs := #[.int .i64 0, .int .i64 0]) (t := 88) ?hr ?_; (case hd => rfl); (case hg => rfl); (case hr => first | (go_simp; done) | (go_simp; rfl)); intro gb279 hg w75 hbox hb; have n0_ := Aside0.mk (Kd.R_below (ra_ HO_4.out) hb); have n1_ := bb_ BK266 hb; have n2_ := Aside0.mk (below_step hb_ hb); have n3_ := Aside0.mk (hbox); have n4_ : Aside0 (w.heap.size ≤ gb279) := gz_; have n5_ : Aside0 (w.heap.size ≤ gb279) := gz_; have n6_ := Aside0.mk ((by rw [hg]; exact Nat.ne_of_lt (blk_lt (g := gb266) (o := .cells #[.slice (some ad278) l0_0.length c0_0, .slice A0_1 l0_1.length c0_1] 55 (0, 0)) (bk_ BK266.out)) : gb266 ≠ gb279)); have n7_ := Aside0.mk ((by rw [hg]; exact Nat.ne_of_gt (blk_lt (g := gb266) (o := .cells #[.slice (some ad278) l0_0.length c0_0, .slice A0_1 l0_1.length c0_1] 55 (0, 0)) (bk_ BK266.out)) : gb279 ≠ gb266)); clear HO_4; clear BK266; clear HB; have HO_4 := n0_; have BK266 := n1_; have HB := n2_; have BK279 := n3_; have GW279 := n4_; have GE279 := n5_; have NB266_279 := n6_; have NB279_266 := n7_; clear n0_ n1_ n2_ n3_ n4_ n5_ n6_ n7_; clear hb hbox hg; have hnb76 := NB279_266.out; have hnc76 := NB266_279.out; have hcz77_0 : w75.cell? ⟨gb279, 0, none⟩ = some (.int .i64 0) := (blk_cell BK279.out 0).trans rfl; have hcz77_1 : w75.cell? ⟨gb279, 1, none⟩ = some (.int .i64 0) := (blk_cell BK279.out 1).trans rfl; have hfz77_0 := blk_frozen BK279.out 0; have hfz77_1 := blk_frozen BK279.out 1; obtain ⟨Ao78, co78, eo78⟩ := Kd.R_slice HO_4.out; subst eo78; have p280 : 0 ≤ (x62_3 : Int) := of_decide_eq_true as_; have q280 : x62_3 < (x4_2.length : Int) := of_decide_eq_true as_; obtain ⟨ad280, e280, hx280_0⟩ := Kd.at_bool (Kd.R_reads' HO_4.out).2.2 x62_3 p280 q280; (try rw [← Nbq45.out] at hx280_0); cases e280; have hn280_0 : ad280.block ≠ gb279 := Kd.own_blk (Kd.R_ne HO_4.out BK279.out (by decide)); have hn280_1 : ad280.block ≠ gb279 := Kd.own_blk (Kd.R_ne HO_4.out BK279.out (by decide)); replace hx280_0 := (cell_far (p := ⟨gb279, 0, none⟩) (by first | (rw [add_block]; exact hn280_0) | (show (Addr.add _ _).block ≠ _; rw [add_block]; exact hn280_0) | exact hn280_0) (.int .i64 ((rd_T88 l0_0 x62_3).f0))).trans hx280_0; replace hx280_0 := (cell_far (p := ⟨gb279, 1, none⟩) (by first | (rw [add_block]; exact hn280_1) | (show (Addr.add _ _).block ≠ _; rw [add_block]; exact hn280_1) | exact hn280_1) (.int .i64 ((rd_T88 l0_0 x62_3).f1))).trans hx280_0; clear hn280_0; clear hn280_1; replace p280 := eq_true p280; replace q280 := eq_true q280))
                   go_ret
                   exact ⟨er_, hb_⟩
                ·rw [if_neg c44] at H
                 exact absurd H (by simp)
               ·rw [if_neg c43] at H
                exact absurd H (by simp)
              ·rw [if_neg c42] at H
               exact absurd H (by simp)
             ·rw [if_neg c41] at H
              have c41b0 : decide (x62_3 < (l0_0.length : Int)) = false := decide_eq_false c41
              clear c41
              have H' := Aside0.mk H
              clear H
              have hcz79_0 : wr.cell? ⟨gb266, 0, none⟩ = some (.slice A0_0 l0_0.length c0_0) := (blk_cell BK266.out 0).trans rfl
              have hcz79_1 : wr.cell? ⟨gb266, 1, none⟩ = some (.slice A0_1 l0_1.length c0_1) := (blk_cell BK266.out 1).trans rfl
              have hfz79_0 := blk_frozen BK266.out 0
              have hfz79_1 := blk_frozen BK266.out 1
              go_wp2
              go_loopg [99] k3 (fun kq v99 w' => ∃ (x99_4 : Int), v99 = .int .i64 x99_4 ∧ Aside0 (impl_GoodChart.l2 kq (l0_0.length : Int) l0_1 (l0_1.length : Int) x99_4 = some r) ∧ Aside0 (kq ≤ k3) ∧ Aside0 (w'.heap[gb266]? = some (.cells #[(.slice A0_0 l0_0.length c0_0), (.slice A0_1 l0_1.length c0_1)] 55 (0, 0))) ∧ Aside0 (Below w.heap.size w w'))
              case atStart => exact ⟨(0), es_, H', ⟨Nat.le_refl _⟩, ⟨bk_ BK266.out⟩, ⟨hb_⟩⟩
              case round =>
               clear H'
               try clear c1
               try clear q1
               try clear c2
               try clear p2
               try clear q2
               try clear hx2
               try clear qi2
               try clear c3
               try clear p3
               try clear q3
               try clear hx3
               try clear hf3
               try clear c4
               try clear q4
               try clear c5
               try clear c5b0
               try clear c5b1
               try clear c6
               try clear c6b0
               try clear c6b1
               try clear p6
               try clear c7
               try clear c7b0
               try clear c7b1
               try clear c9
               try clear c9b0
               try clear c9b1
               try clear c11
               try clear c12
               try clear c12b0
               try clear c12b1
               try clear c13
               try clear c13b0
               try clear c13b1
               try clear c14
               try clear c14b0
               try clear c14b1
               try clear c18
               try clear q18
               try clear c19
               try clear c19b0
               try clear c20
               try clear c20b0
               try clear c21
               try clear c21b0
               try clear c22
               try clear c22b0
               try clear c24
               try clear c26
               try clear c26b0
               try clear p26
               try clear q26
               try clear hx26
               try clear qi26
               try clear p27
               try clear q27
               try clear hx27
               try clear c28
               try clear p28
               try clear q28
               try clear hx28
               try clear c30
               try clear c30b0
               try clear c31
               try clear c31b0
               try clear p32
               try clear q32
               try clear hx32
               try clear hf32
               try clear c34
               try clear c41
               try clear c41b0
               try clear c42
               try clear c42b0
               try clear c43
               try clear c43b0
               try clear c44
               try clear c44b0
               try clear q45
               try clear c46
               try clear c47
               try clear c47b0
               try clear c49
               try clear c52
               try clear c52b0
               try clear c54
               try clear c57
               try clear c57b0
               try clear c58
               try clear c58b0
               try clear c59
               try clear c59b0
               try clear c59b1
               try clear c61
               try clear p64
               try clear c66
               try clear c70
               try clear c70b0
               try clear c70b1
               try clear c72
               try clear c76
               try clear hcz10_0
               try clear hcz10_1
               try clear hcz17_0
               try clear hcz17_1
               try clear hcz25_0
               try clear hcz25_1
               try clear hcz29_0
               try clear hcz29_1
               try clear hcz35_0
               try clear hcz35_1
               try clear hcz37_0
               try clear hcz37_1
               try clear hcz40_0
               try clear hcz40_1
               try clear hcz4_0
               try clear hcz4_1
               try clear hcz50_0
               try clear hcz50_1
               try clear hcz55_0
               try clear hcz55_1
               try clear hcz62_0
               try clear hcz62_1
               try clear hcz64_0
               try clear hcz64_1
               try clear hcz67_0
               try clear hcz67_1
               try clear hcz69_0
               try clear hcz69_1
               try clear hcz73_0
               try clear hcz73_1
               try clear hcz77_0
               try clear hcz77_1
               try clear hcz79_0
               try clear hcz79_1
               try clear hcz8_0
               try clear hcz8_1
               try clear hfz10_0
               try clear hfz10_1
               try clear hfz17_0
               try clear hfz17_1
               try clear hfz25_0
               try clear hfz25_1
               try clear hfz29_0
               try clear hfz29_1
               try clear hfz35_0
               try clear hfz35_1
               try clear hfz37_0
               try clear hfz37_1
               try clear hfz40_0
               try clear hfz40_1
               try clear hfz4_0
               try clear hfz4_1
               try clear hfz50_0
               try clear hfz50_1
               try clear hfz55_0
               try clear hfz55_1
               try clear hfz62_0
               try clear hfz62_1
               try clear hfz64_0
               try clear hfz64_1
               try clear hfz67_0
               try clear hfz67_1
               try clear hfz69_0
               try clear hfz69_1
               try clear hfz73_0
               try clear hfz73_1
               try clear hfz77_0
               try clear hfz77_1
               try clear hfz79_0
               try clear hfz79_1
               try clear hfz8_0
               try clear hfz8_1
               try clear hx267_0
               try clear hx267_1
               try clear hx275_0
               try clear hx275_1
               try clear hx278_0
               try clear hx278_1
               try clear hx280_0
               try clear hx281_0
               try clear hx281_1
               try clear hx32_0
               try clear p2
               try clear p26
               try clear p267
               try clear p27
               try clear p275
               try clear p278
               try clear p280
               try clear p281
               try clear p3
               try clear p32
               try clear p6
               try clear q1
               try clear q18
               try clear q2
               try clear q26
               try clear q267
               try clear q27
               try clear q275
               try clear q278
               try clear q280
               try clear q281
               try clear q3
               try clear q32
               obtain ⟨x99_4, rfl, HA, HK4, BK266, HB⟩ := hrel
               cases gk with
               | zero => exact absurd HA.out (by simp [impl_GoodChart.l2])
               | succ k4 =>
                have H := HA.out
                clear HA
                simp only [impl_GoodChart.l2] at H
                by_cases c80 : x99_4 < (l0_1.length : Int)
                ·rw [if_pos c80] at H
                 have c80b0 : decide (x99_4 < (l0_1.length : Int)) = true := decide_eq_true c80
                 clear c80
                 by_cases c81 : 0 ≤ x99_4
                 ·rw [if_pos c81] at H
                  have c81b0 : decide (0 ≤ x99_4) = true := decide_eq_true c81
                  clear c81
                  by_cases c82 : x99_4 < (l0_1.length : Int)
                  ·rw [if_pos c82] at H
                   have c82b0 : decide (x99_4 < (l0_1.length : Int)) = true := decide_eq_true c82
                   clear c82
                   replace H := Option.bind_eq_some_iff.mp H
                   obtain ⟨t284, A830, H⟩ := H
                   replace H : (if t284 = true then ((impl_between.f ((rd_T90 l0_1 x99_4).f2) 0 (wrap64 ((l0_0.length : Int) - 1))).bind fun t285 => (if t285 = true then ((impl_between.f ((rd_T90 l0_1 x99_4).f1) 0 5).bind fun t286 => (if t286 = true then (impl_GoodChart.l2 k4 (l0_0.length : Int) l0_1 (l0_1.length : Int) (wrap64 (x99_4 + 1))) else (some false))) else (some false))) else (some false)) = some r := H
                   have A83 := Aside0.mk A830
                   clear A830
                   by_cases c84 : t284 = true
                   ·subst c84
                    rw [if_pos rfl] at H
                    replace H := Option.bind_eq_some_iff.mp H
                    obtain ⟨t285, A850, H⟩ := H
                    replace H : (if t285 = true then ((impl_between.f ((rd_T90 l0_1 x99_4).f1) 0 5).bind fun t286 => (if t286 = true then (impl_GoodChart.l2 k4 (l0_0.length : Int) l0_1 (l0_1.length : Int) (wrap64 (x99_4 + 1))) else (some false))) else (some false)) = some r := H
                    have A85 := Aside0.mk A850
                    clear A850
                    by_cases c86 : t285 = true
                    ·subst c86
                     rw [if_pos rfl] at H
                     replace H := Option.bind_eq_some_iff.mp H
                     obtain ⟨t286, A870, H⟩ := H
                     replace H : (if t286 = true then (impl_GoodChart.l2 k4 (l0_0.length : Int) l0_1 (l0_1.length : Int) (wrap64 (x99_4 + 1))) else (some false)) = some r := H
                     have A87 := Aside0.mk A870
                     clear A870
                     by_cases c88 : t286 = true
                     ·subst c88
                      rw [if_pos rfl] at H
                      have H' := Aside0.mk H
                      clear H
                      have p282 : 0 ≤ (x99_4 : Int) := of_decide_eq_true as_
                      have q282 : x99_4 < (l0_1.length : Int) := of_decide_eq_true as_
                      obtain ⟨ad282, e282, hx282_0, hx282_1, hx282_2⟩ := at_T90 HR0_1.out x99_4 p282 q282
                      cases e282
                      replace hx282_0 := hc_ HB hx282_0
                      replace hx282_1 := hc_ HB hx282_1
                      replace hx282_2 := hc_ HB hx282_2
                      replace p282 := eq_true p282
                      replace q282 := eq_true q282
                      go_wp2_with (first | ((with_reducible refine gate_dst (N := 10) rfl ?_); (try (refine gate_guard (by rfl) ?_; dsimp only)); refine box_event ?hg (N := 10) ?hd (cs := #[.int .i64 0, .int .i64 0, .int .i64 0]) (t := 90) ?hr ?_; (case hd => rfl); (case hg => rfl); (case hr => first | (go_simp; done) | (go_simp; rfl)); intro gb283 hg w89 hbox hb; have n0_ := bb_ BK266 hb; have n1_ := Aside0.mk (below_step hb_ hb); have n2_ := Aside0.mk (hbox); have n3_ : Aside0 (w.heap.size ≤ gb283) := gz_; have n4_ : Aside0 (w.heap.size ≤ gb283) := gz_; have n5_ := Aside0.mk ((by rw [hg]; exact Nat.ne_of_lt (blk_lt (g := gb266) (o := .cells #[.slice A0_0 l0_0.length c0_0, .slice (some ad282) l0_1.length c0_1] 55 (0, 0)) (bk_ BK266.out)) : gb266 ≠ gb283)); have n6_ := Aside0.mk ((by rw [hg]; exact Nat.ne_of_gt (blk_lt (g := gb266) (o := .cells #[.slice A0_0 l0_0.length c0_0, .slice (some ad282) l0_1.length c0_1] 55 (0, 0)) (bk_ BK266.out)) : gb283 ≠ gb266)); clear BK266; clear HB; have BK266 := n0_; have HB := n1_; have BK283 := n2_; have GW283 := n3_; have GE283 := n4_; have NB266_283 := n5_; have NB283_266 := n6_; clear n0_ n1_ n2_ n3_ n4_ n5_ n6_; clear hb hbox hg; have hnb90 := NB283_266.out; have hnc90 := NB266_283.out; have hcz91_0 : w89.cell? ⟨gb283, 0, none⟩ = some (.int .i64 0) := (blk_cell BK283.out 0).trans rfl; have hcz91_1 : w89.cell? ⟨gb283, 1, none⟩ = some (.int .i64 0) := (blk_cell BK283.out 1).trans rfl; have hcz91_2 : w89.cell? ⟨gb283, 2, none⟩ = some (.int .i64 0) := (blk_cell BK283.out 2).trans rfl; have hfz91_0 := blk_frozen BK283.out 0; have hfz91_1 := blk_frozen BK283.out 1; have hfz91_2 := blk_frozen BK283.out 2) | ((with_reducible refine gate_callee (f := 49) rfl ?_); refine goesL_ (some 107) rfl rfl Try.func49 (by kernel_rfl) rfl #[.int .i64 ((rd_T90 l0_1 x99_4).f0), .int .i64 0, .int .i64 (wrap64 ((l0_0.length : Int) - 1))] rfl ls_ ?_; (with_reducible refine (impl_between.calls ((rd_T90 l0_1 x99_4).f0) 0 (wrap64 ((l0_0.length : Int) - 1)) true _ A83.out).mono ?_); rintro e w' ⟨rfl, ⟨nd, rfl⟩⟩; refine ⟨_, rfl, ?_⟩) | (go_at_call 49; (with_reducible refine (impl_between.calls ((rd_T90 l0_1 x99_4).f2) 0 (wrap64 ((l0_0.length : Int) - 1)) true _ A85.out).mono ?_); rintro e w' ⟨rfl, ⟨nd, rfl⟩⟩) | (go_at_call 49; (with_reducible refine (impl_between.calls ((rd_T90 l0_1 x99_4).f1) 0 5 true _ A87.out).mono ?_); rintro e w' ⟨rfl, ⟨nd, rfl⟩⟩))
                      go_roundg k4
                      case measure => have := HJ1.out; have := HK2.out; have := HK3.out; have := HK4.out; omega
                      case rel => exact ⟨(wrap64 (x99_4 + 1)), es_, H', ⟨by have := HJ1.out; have := HK2.out; have := HK3.out; have := HK4.out; omega⟩, ⟨by (with_reducible repeat (first | refine blk_drewN ?_ _ | refine blk_drew ?_ | refine blk_alloc ?_ _)); refine blk_far ?_ NB266_283.out _; (with_reducible repeat (first | refine blk_drewN ?_ _ | refine blk_drew ?_ | refine blk_alloc ?_ _)); refine blk_far ?_ NB266_283.out _; (with_reducible repeat (first | refine blk_drewN ?_ _ | refine blk_drew ?_ | refine blk_alloc ?_ _)); refine blk_far ?_ NB266_283.out _; (with_reducible repeat (first | refine blk_drewN ?_ _ | refine blk_drew ?_ | refine blk_alloc ?_ _)); exact BK266.out⟩, ⟨hb_⟩⟩
                     ·replace c88 := Bool.eq_false_iff.mpr c88
                      subst c88
                      rw [if_neg (show ¬ (false = true) by decide)] at H
                      obtain rfl := Option.some.inj H
                      have p282 : 0 ≤ (x99_4 : Int) := of_decide_eq_true as_
                      have q282 : x99_4 < (l0_1.length : Int) := of_decide_eq_true as_
                      obtain ⟨ad282, e282, hx282_0, hx282_1, hx282_2⟩ := at_T90 HR0_1.out x99_4 p282 q282
                      cases e282
                      replace hx282_0 := hc_ HB hx282_0
                      replace hx282_1 := hc_ HB hx282_1
                      replace hx282_2 := hc_ HB hx282_2
                      replace p282 := eq_true p282
                      replace q282 := eq_true q282
                      go_wp2_with (first | ((with_reducible refine gate_dst (N := 10) rfl ?_); (try (refine gate_guard (by rfl) ?_; dsimp only)); refine box_event ?hg (N := 10) ?hd (cs := #[.int .i64 0, .int .i64 0, .int .i64 0]) (t := 90) ?hr ?_; (case hd => rfl); (case hg => rfl); (case hr => first | (go_simp; done) | (go_simp; rfl)); intro gb283 hg w92 hbox hb; have n0_ := bb_ BK266 hb; have n1_ := Aside0.mk (below_step hb_ hb); have n2_ := Aside0.mk (hbox); have n3_ : Aside0 (w.heap.size ≤ gb283) := gz_; have n4_ : Aside0 (w.heap.size ≤ gb283) := gz_; have n5_ := Aside0.mk ((by rw [hg]; exact Nat.ne_of_lt (blk_lt (g := gb266) (o := .cells #[.slice A0_0 l0_0.length c0_0, .slice (some ad282) l0_1.length c0_1] 55 (0, 0)) (bk_ BK266.out)) : gb266 ≠ gb283)); have n6_ := Aside0.mk ((by rw [hg]; exact Nat.ne_of_gt (blk_lt (g := gb266) (o := .cells #[.slice A0_0 l0_0.length c0_0, .slice (some ad282) l0_1.length c0_1] 55 (0, 0)) (bk_ BK266.out)) : gb283 ≠ gb266)); clear BK266; clear HB; have BK266 := n0_; have HB := n1_; have BK283 := n2_; have GW283 := n3_; have GE283 := n4_; have NB266_283 := n5_; have NB283_266 := n6_; clear n0_ n1_ n2_ n3_ n4_ n5_ n6_; clear hb hbox hg; have hnb93 := NB283_266.out; have hnc93 := NB266_283.out; have hcz94_0 : w92.cell? ⟨gb283, 0, none⟩ = some (.int .i64 0) := (blk_cell BK283.out 0).trans rfl; have hcz94_1 : w92.cell? ⟨gb283, 1, none⟩ = some (.int .i64 0) := (blk_cell BK283.out 1).trans rfl; have hcz94_2 : w92.cell? ⟨gb283, 2, none⟩ = some (.int .i64 0) := (blk_cell BK283.out 2).trans rfl; have hfz94_0 := blk_frozen BK283.out 0; have hfz94_1 := blk_frozen BK283.out 1; have hfz94_2 := blk_frozen BK283.out 2) | ((with_reducible refine gate_callee (f := 49) rfl ?_); refine goesL_ (some 107) rfl rfl Try.func49 (by kernel_rfl) rfl #[.int .i64 ((rd_T90 l0_1 x99_4).f0), .int .i64 0, .int .i64 (wrap64 ((l0_0.length : Int) - 1))] rfl ls_ ?_; (with_reducible refine (impl_between.calls ((rd_T90 l0_1 x99_4).f0) 0 (wrap64 ((l0_0.length : Int) - 1)) true _ A83.out).mono ?_); rintro e w' ⟨rfl, ⟨nd, rfl⟩⟩; refine ⟨_, rfl, ?_⟩) | (go_at_call 49; (with_reducible refine (impl_between.calls ((rd_T90 l0_1 x99_4).f2) 0 (wrap64 ((l0_0.length : Int) - 1)) true _ A85.out).mono ?_); rintro e w' ⟨rfl, ⟨nd, rfl⟩⟩) | (go_at_call 49; (with_reducible refine (impl_between.calls ((rd_T90 l0_1 x99_4).f1) 0 5 false _ A87.out).mono ?_); rintro e w' ⟨rfl, ⟨nd, rfl⟩⟩))
                      go_ret
                      exact ⟨er_, hb_⟩
                    ·replace c86 := Bool.eq_false_iff.mpr c86
                     subst c86
                     rw [if_neg (show ¬ (false = true) by decide)] at H
                     obtain rfl := Option.some.inj H
                     have p282 : 0 ≤ (x99_4 : Int) := of_decide_eq_true as_
                     have q282 : x99_4 < (l0_1.length : Int) := of_decide_eq_true as_
                     obtain ⟨ad282, e282, hx282_0, hx282_1, hx282_2⟩ := at_T90 HR0_1.out x99_4 p282 q282
                     cases e282
                     replace hx282_0 := hc_ HB hx282_0
                     replace hx282_1 := hc_ HB hx282_1
                     replace hx282_2 := hc_ HB hx282_2
                     replace p282 := eq_true p282
                     replace q282 := eq_true q282
                     go_wp2_with (first | ((with_reducible refine gate_dst (N := 10) rfl ?_); (try (refine gate_guard (by rfl) ?_; dsimp only)); refine box_event ?hg (N := 10) ?hd (cs := #[.int .i64 0, .int .i64 0, .int .i64 0]) (t := 90) ?hr ?_; (case hd => rfl); (case hg => rfl); (case hr => first | (go_simp; done) | (go_simp; rfl)); intro gb283 hg w95 hbox hb; have n0_ := bb_ BK266 hb; have n1_ := Aside0.mk (below_step hb_ hb); have n2_ := Aside0.mk (hbox); have n3_ : Aside0 (w.heap.size ≤ gb283) := gz_; have n4_ : Aside0 (w.heap.size ≤ gb283) := gz_; have n5_ := Aside0.mk ((by rw [hg]; exact Nat.ne_of_lt (blk_lt (g := gb266) (o := .cells #[.slice A0_0 l0_0.length c0_0, .slice (some ad282) l0_1.length c0_1] 55 (0, 0)) (bk_ BK266.out)) : gb266 ≠ gb283)); have n6_ := Aside0.mk ((by rw [hg]; exact Nat.ne_of_gt (blk_lt (g := gb266) (o := .cells #[.slice A0_0 l0_0.length c0_0, .slice (some ad282) l0_1.length c0_1] 55 (0, 0)) (bk_ BK266.out)) : gb283 ≠ gb266)); clear BK266; clear HB; have BK266 := n0_; have HB := n1_; have BK283 := n2_; have GW283 := n3_; have GE283 := n4_; have NB266_283 := n5_; have NB283_266 := n6_; clear n0_ n1_ n2_ n3_ n4_ n5_ n6_; clear hb hbox hg; have hnb96 := NB283_266.out; have hnc96 := NB266_283.out; have hcz97_0 : w95.cell? ⟨gb283, 0, none⟩ = some (.int .i64 0) := (blk_cell BK283.out 0).trans rfl; have hcz97_1 : w95.cell? ⟨gb283, 1, none⟩ = some (.int .i64 0) := (blk_cell BK283.out 1).trans rfl; have hcz97_2 : w95.cell? ⟨gb283, 2, none⟩ = some (.int .i64 0) := (blk_cell BK283.out 2).trans rfl; have hfz97_0 := blk_frozen BK283.out 0; have hfz97_1 := blk_frozen BK283.out 1; have hfz97_2 := blk_frozen BK283.out 2) | ((with_reducible refine gate_callee (f := 49) rfl ?_); refine goesL_ (some 107) rfl rfl Try.func49 (by kernel_rfl) rfl #[.int .i64 ((rd_T90 l0_1 x99_4).f0), .int .i64 0, .int .i64 (wrap64 ((l0_0.length : Int) - 1))] rfl ls_ ?_; (with_reducible refine (impl_between.calls ((rd_T90 l0_1 x99_4).f0) 0 (wrap64 ((l0_0.length : Int) - 1)) true _ A83.out).mono ?_); rintro e w' ⟨rfl, ⟨nd, rfl⟩⟩; refine ⟨_, rfl, ?_⟩) | (go_at_call 49; (with_reducible refine (impl_between.calls ((rd_T90 l0_1 x99_4).f2) 0 (wrap64 ((l0_0.length : Int) - 1)) false _ A85.out).mono ?_); rintro e w' ⟨rfl, ⟨nd, rfl⟩⟩))
                     go_ret
                     exact ⟨er_, hb_⟩
                   ·replace c84 := Bool.eq_false_iff.mpr c84
                    subst c84
                    rw [if_neg (show ¬ (false = true) by decide)] at H
                    obtain rfl := Option.some.inj H
                    have p282 : 0 ≤ (x99_4 : Int) := of_decide_eq_true as_
                    have q282 : x99_4 < (l0_1.length : Int) := of_decide_eq_true as_
                    obtain ⟨ad282, e282, hx282_0, hx282_1, hx282_2⟩ := at_T90 HR0_1.out x99_4 p282 q282
                    cases e282
                    replace hx282_0 := hc_ HB hx282_0
                    replace hx282_1 := hc_ HB hx282_1
                    replace hx282_2 := hc_ HB hx282_2
                    replace p282 := eq_true p282
                    replace q282 := eq_true q282
                    go_wp2_with (first | ((with_reducible refine gate_dst (N := 10) rfl ?_); (try (refine gate_guard (by rfl) ?_; dsimp only)); refine box_event ?hg (N := 10) ?hd (cs := #[.int .i64 0, .int .i64 0, .int .i64 0]) (t := 90) ?hr ?_; (case hd => rfl); (case hg => rfl); (case hr => first | (go_simp; done) | (go_simp; rfl)); intro gb283 hg w98 hbox hb; have n0_ := bb_ BK266 hb; have n1_ := Aside0.mk (below_step hb_ hb); have n2_ := Aside0.mk (hbox); have n3_ : Aside0 (w.heap.size ≤ gb283) := gz_; have n4_ : Aside0 (w.heap.size ≤ gb283) := gz_; have n5_ := Aside0.mk ((by rw [hg]; exact Nat.ne_of_lt (blk_lt (g := gb266) (o := .cells #[.slice A0_0 l0_0.length c0_0, .slice (some ad282) l0_1.length c0_1] 55 (0, 0)) (bk_ BK266.out)) : gb266 ≠ gb283)); have n6_ := Aside0.mk ((by rw [hg]; exact Nat.ne_of_gt (blk_lt (g := gb266) (o := .cells #[.slice A0_0 l0_0.length c0_0, .slice (some ad282) l0_1.length c0_1] 55 (0, 0)) (bk_ BK266.out)) : gb283 ≠ gb266)); clear BK266; clear HB; have BK266 := n0_; have HB := n1_; have BK283 := n2_; have GW283 := n3_; have GE283 := n4_; have NB266_283 := n5_; have NB283_266 := n6_; clear n0_ n1_ n2_ n3_ n4_ n5_ n6_; clear hb hbox hg; have hnb99 := NB283_266.out; have hnc99 := NB266_283.out; have hcz100_0 : w98.cell? ⟨gb283, 0, none⟩ = some (.int .i64 0) := (blk_cell BK283.out 0).trans rfl; have hcz100_1 : w98.cell? ⟨gb283, 1, none⟩ = some (.int .i64 0) := (blk_cell BK283.out 1).trans rfl; have hcz100_2 : w98.cell? ⟨gb283, 2, none⟩ = some (.int .i64 0) := (blk_cell BK283.out 2).trans rfl; have hfz100_0 := blk_frozen BK283.out 0; have hfz100_1 := blk_frozen BK283.out 1; have hfz100_2 := blk_frozen BK283.out 2) | ((with_reducible refine gate_callee (f := 49) rfl ?_); refine goesL_ (some 107) rfl rfl Try.func49 (by kernel_rfl) rfl #[.int .i64 ((rd_T90 l0_1 x99_4).f0), .int .i64 0, .int .i64 (wrap64 ((l0_0.length : Int) - 1))] rfl ls_ ?_; (with_reducible refine (impl_between.calls ((rd_T90 l0_1 x99_4).f0) 0 (wrap64 ((l0_0.length : Int) - 1)) false _ A83.out).mono ?_); rintro e w' ⟨rfl, ⟨nd, rfl⟩⟩; refine ⟨_, rfl, ?_⟩))
                    go_ret
                    exact ⟨er_, hb_⟩
                  ·rw [if_neg c82] at H
                   exact absurd H (by simp)
                 ·rw [if_neg c81] at H
                  exact absurd H (by simp)
                ·rw [if_neg c80] at H
                 have c80b0 : decide (x99_4 < (l0_1.length : Int)) = false := decide_eq_false c80
                 clear c80
                 obtain rfl := Option.some.inj H
                 go_wp2
                 go_ret
                 exact ⟨er_, hb_⟩
       ·rw [if_neg c14] at H
        exact absurd H (by simp)
      ·rw [if_neg c13] at H
       exact absurd H (by simp)
     ·rw [if_neg c12] at H
      exact absurd H (by simp)

end Go.Proofs.Ytkhkgfihodljmaa.Pr
