-- Joined and pruned by wip/tools/prune.py out of this session's own texts (Pr25)
import Derived.Test.YtcldlljnaijmhaaZpc9
-- Written by this session's own print (wip/tools/mkmp.py) out of the translation. Lean checks it.
namespace Go.Proofs.Ytcldlljnaijmhaa.Pr
open Go.RowKit Go.Proofs.YtcldlljnaijmhaaW.PrintWords Go.Proofs.YtcldlljnaijmhaaW.PrintLast Go.Proofs.YtcldlljnaijmhaaW.PrintMore
attribute [local go_sem] max2_int min2_int max_two min_two max_three min_three max_four min_four   -- for this text's walks alone
set_option linter.unusedVariables false
set_option linter.unusedSimpArgs false

def spec_l20Path.T14 : Bool × List (List Nat × List Nat) := (true, [([], []), ([], []), ([0, 1], [0, 1]), ([2], [2]), ([], []), ([4], [4]), ([3, 5, 0, 1, 2, 3, 4, 5], [3, 5]), ([6, 0, 1, 2, 3, 4, 5], [6])])
def spec_l20Path.B14 : List Nat := [0, 0, 3, 7, 0, 16, 63, 127]
theorem spec_l20Path.tab14 : rtab .any (opsOf Try.f60 14) = spec_l20Path.T14 := by kernel_rfl
theorem spec_l20Path.bits14 : waitsOk spec_l20Path.T14.2 spec_l20Path.B14 = true := by kernel_rfl
def spec_l20Path.T25 : Bool × List (List Nat × List Nat) := (true, [([], []), ([], []), ([0, 1], [0, 1]), ([2], [2]), ([], []), ([], []), ([], []), ([5, 6], [5, 6]), ([7], [7]), ([], []), ([8, 9], [8, 9]), ([10], [10]), ([11], [11]), ([12], [12]), ([12], [12]), ([14, 12], [12, 14]), ([13, 15, 12], [12, 13, 15]), ([16, 12], [12, 16]), ([12], [12]), ([17, 18, 12], [12, 17, 18]), ([19, 12], [12, 19]), ([20, 12, 12], [12, 20]), ([21], [21]), ([21], [21]), ([23, 21], [21, 23]), ([21], [21]), ([21], [21]), ([22, 24, 25, 26, 21, 21], [21, 22, 24, 25, 26]), ([21, 27, 12], [12, 21, 27]), ([12, 28], [12, 28]), ([3, 4, 0, 1, 2, 3, 4, 5, 6, 7, 8, 9, 10, 11, 12, 13, 14, 15, 16, 17, 18, 19, 20, 21, 22, 23, 24, 25, 26, 27, 28, 29], [3, 4]), ([30, 29, 27, 0, 1, 2, 3, 4, 5, 6, 7, 8, 9, 10, 11, 12, 13, 14, 15, 16, 17, 18, 19, 20, 21, 22, 23, 24, 25, 26, 27, 28, 29], [29, 30])])
def spec_l20Path.B25 : List Nat := [0, 0, 3, 7, 0, 0, 0, 96, 224, 0, 992, 2016, 4064, 8160, 8160, 24544, 65504, 131040, 8160, 524256, 1048544, 2097120, 4194272, 4194272, 12582880, 4194272, 4194272, 134217696, 268435424, 536870880, 1073741823, 2147483647]
theorem spec_l20Path.tab25 : rtab .any (opsOf Try.f60 25) = spec_l20Path.T25 := by kernel_rfl
theorem spec_l20Path.bits25 : waitsOk spec_l20Path.T25.2 spec_l20Path.B25 = true := by kernel_rfl
def spec_l20Path.T27 : Bool × List (List Nat × List Nat) := (true, [([], []), ([0], [0]), ([1], [1]), ([], []), ([3], [3]), ([2, 4], [2, 4]), ([5], [5]), ([6], [6]), ([7], [7]), ([8], [8]), ([8], [8]), ([10, 8], [8, 10]), ([8], [8]), ([12, 8], [8, 12]), ([9, 11, 13, 8, 8], [8, 9, 11, 13]), ([14, 8], [8, 14]), ([8, 15], [8, 15])])
def spec_l20Path.B27 : List Nat := [0, 1, 3, 0, 8, 31, 63, 127, 255, 511, 511, 1535, 511, 4607, 16383, 32767, 65535]
theorem spec_l20Path.tab27 : rtab .any (opsOf Try.f60 27) = spec_l20Path.T27 := by kernel_rfl
theorem spec_l20Path.bits27 : waitsOk spec_l20Path.T27.2 spec_l20Path.B27 = true := by kernel_rfl
set_option maxHeartbeats 8000000 in
set_option maxRecDepth 100000 in
theorem spec_l20Path.calls (k : Nat) (a0_0 : Int) (A0_1 : Option Addr) (c0_1 : Nat) (l0_1 : List Int) (a1_0 : Int) (a1_1 : Int) (A2 : Option Addr) (c2 : Nat) (l2 : List (List Int)) (a3 : Int) (r1 : List Int) (r2 : Bool) (w : World) (hr0_1 : Kd.C (Kd.int .i64) w A0_1 l0_1.length l0_1) (hc0_1 : l0_1.length ≤ c0_1) (hr2 : Kd.C (Kd.slice 3 (Kd.int .i64)) w A2 l2.length l2) (hc2 : l2.length ≤ c2) (h : spec_l20Path.f k a0_0 l0_1 a1_0 a1_1 l2 a3 = some (r1, r2)) :
   Calls Try.prog 60 #[.agg #[.int .i64 a0_0, .slice A0_1 l0_1.length c0_1], .agg #[.int .i64 a1_0, .int .i64 a1_1], .slice A2 l2.length c2, .int .i64 a3] w fun e w' => ∃ v0_ : Value, e = .returned (.tuple #[v0_, .bool r2]) ∧ Kd.R (Kd.int .i64) 3 w' w.heap.size (fun _ => True) v0_ r1 ∧ Below w.heap.size w w' := by
  have hu39 := Try.underlying39
  have hu49 := Try.underlying49
  have HR0_1 := Aside0.mk hr0_1
  have HC0_1 := Aside0.mk hc0_1
  clear hr0_1 hc0_1
  have HR2 := Aside0.mk hr2
  have HC2 := Aside0.mk hc2
  clear hr2 hc2
  have HB := Aside0.mk (Below.refl w.heap.size w)
  have H : (spec_l20Path.l0 k l2 a3 (l0_1.length : Int) (wrap64 (a3 + 1)) a0_0 l0_1 a1_0 a1_1) = some (r1, r2) := h
  clear h
  have HC5 := Aside0.mk H
  clear H
  go_enter Try.func60, Try.ntmps60
  go_upto_block 0 with (first | ((with_reducible refine gate_dst (N := 4) rfl ?_); refine box_event ?hg (N := 4) ?hd (cs := #[.int .i64 a0_0, .slice A0_1 l0_1.length c0_1]) (t := 39) ?hr ?_; (case hd => rfl); (case hg => rfl); (case hr => first | (go_simp; done) | (go_simp; rfl)); intro gb434 hg w6 hbox hb; have n0_ := Aside0.mk (below_step hb_ hb); have n1_ := Aside0.mk (hbox); have n2_ : Aside0 (w.heap.size ≤ gb434) := gz_; have n3_ : Aside0 (w.heap.size ≤ gb434) := gz_; clear HB; have HB := n0_; have BK434 := n1_; have GW434 := n2_; have GE434 := n3_; clear n0_ n1_ n2_ n3_; clear hb hbox hg) | ((with_reducible refine gate_dst (N := 5) rfl ?_); refine box_event ?hg (N := 5) ?hd (cs := #[.int .i64 a1_0, .int .i64 a1_1]) (t := 49) ?hr ?_; (case hd => rfl); (case hg => rfl); (case hr => first | (go_simp; done) | (go_simp; rfl)); intro gb435 hg w7 hbox hb; have n0_ := bb_ BK434 hb; have n1_ := Aside0.mk (below_step hb_ hb); have n2_ := Aside0.mk (hbox); have n3_ : Aside0 (w.heap.size ≤ gb435) := gz_; have n4_ : Aside0 (w.heap.size ≤ gb435) := gz_; have n5_ := Aside0.mk ((by rw [hg]; exact Nat.ne_of_lt (blk_lt (g := gb434) (o := .cells #[.int .i64 a0_0, .slice A0_1 l0_1.length c0_1] 39 (0, 0)) (bk_ BK434.out)) : gb434 ≠ gb435)); have n6_ := Aside0.mk ((by rw [hg]; exact Nat.ne_of_gt (blk_lt (g := gb434) (o := .cells #[.int .i64 a0_0, .slice A0_1 l0_1.length c0_1] 39 (0, 0)) (bk_ BK434.out)) : gb435 ≠ gb434)); clear BK434; clear HB; have BK434 := n0_; have HB := n1_; have BK435 := n2_; have GW435 := n3_; have GE435 := n4_; have NB434_435 := n5_; have NB435_434 := n6_; clear n0_ n1_ n2_ n3_ n4_ n5_ n6_; clear hb hbox hg; have hnb8 := NB434_435.out; have hnc8 := NB435_434.out; have hcz9_0 : w7.cell? ⟨gb434, 0, none⟩ = some (.int .i64 a0_0) := (blk_cell BK434.out 0).trans rfl; have hcz9_1 : w7.cell? ⟨gb434, 1, none⟩ = some (.slice A0_1 l0_1.length c0_1) := (blk_cell BK434.out 1).trans rfl; have hfz9_0 := blk_frozen BK434.out 0; have hfz9_1 := blk_frozen BK434.out 1))
  (try simp only [Act.put, List.setIfInBounds_toArray, List.set_cons_zero, List.set_cons_succ])
  go_cut [11] (fun v11 wc => ∃ (kq : Nat) (x11_4 : Int), v11 = .int .i64 x11_4 ∧ Aside0 (spec_l20Path.j1 kq l2 a3 (l0_1.length : Int) x11_4 a0_0 l0_1 a1_0 a1_1 = some (r1, r2)) ∧ Aside0 (kq ≤ k) ∧ Aside0 (wc.heap[gb434]? = some (.cells #[.int .i64 a0_0, (.slice A0_1 l0_1.length c0_1)] 39 (0, 0))) ∧ Aside0 (wc.heap[gb435]? = some (.cells #[.int .i64 a1_0, .int .i64 a1_1] 49 (0, 0))) ∧ Aside0 (Below w.heap.size w wc))
  case first =>
   have H := HC5.out
   clear HC5
   have H' := Aside0.mk H
   clear H
   go_wp2
   go_loopg [11] k (fun kq v11 w' => ∃ (x11_1 : Int), v11 = .int .i64 x11_1 ∧ Aside0 (spec_l20Path.l0 kq l2 a3 (l0_1.length : Int) x11_1 a0_0 l0_1 a1_0 a1_1 = some (r1, r2)) ∧ Aside0 (kq ≤ k) ∧ Aside0 (w'.heap[gb434]? = some (.cells #[.int .i64 a0_0, (.slice A0_1 l0_1.length c0_1)] 39 (0, 0))) ∧ Aside0 (w'.heap[gb435]? = some (.cells #[.int .i64 a1_0, .int .i64 a1_1] 49 (0, 0))) ∧ Aside0 (Below w.heap.size w w'))
   case atStart => exact ⟨(wrap64 (a3 + 1)), es_, H', ⟨Nat.le_refl _⟩, ⟨bk_ BK434.out⟩, ⟨bk_ BK435.out⟩, ⟨hb_⟩⟩
   case round =>
    clear H'
    try clear c2
    try clear p2
    try clear c6
    try clear p6
    try clear c8
    try clear hcz9_0
    try clear hcz9_1
    try clear hfz9_0
    try clear hfz9_1
    obtain ⟨x11_1, rfl, HA, HK1, BK434, BK435, HB⟩ := hrel
    cases gk with
    | zero => exact absurd HA.out (by simp [spec_l20Path.l0])
    | succ k1 =>
     have H := HA.out
     clear HA
     simp only [spec_l20Path.l0] at H
     by_cases c10 : x11_1 > 0
     ·rw [if_pos c10] at H
      have c10b0 : decide (0 < x11_1) = true := decide_eq_true c10
      clear c10
      (first | rw [c10b0] | (simp only [i64_w, i32_w]; rw [c10b0]) | skip)
      replace H := Option.bind_eq_some_iff.mp H
      obtain ⟨t436, A110, H⟩ := H
      replace H : (if t436 = true then (spec_l20Path.l0 k1 l2 a3 (l0_1.length : Int) (wrap64 (x11_1 - 1)) a0_0 l0_1 a1_0 a1_1) else (spec_l20Path.j1 k1 l2 a3 (l0_1.length : Int) x11_1 a0_0 l0_1 a1_0 a1_1)) = some (r1, r2) := H
      have A11 := Aside0.mk A110
      clear A110
      by_cases c12 : t436 = true
      ·subst c12
       rw [if_pos rfl] at H
       have H' := Aside0.mk H
       clear H
       have hnb13 := NB435_434.out
       have hnc13 := NB434_435.out
       have hcz14_0 : wr.cell? ⟨gb435, 0, none⟩ = some (.int .i64 a1_0) := (blk_cell BK435.out 0).trans rfl
       have hcz14_1 : wr.cell? ⟨gb435, 1, none⟩ = some (.int .i64 a1_1) := (blk_cell BK435.out 1).trans rfl
       have hfz14_0 := blk_frozen BK435.out 0
       have hfz14_1 := blk_frozen BK435.out 1
       go_wp2_with (first | (go_at_call 71; (with_reducible refine (spec_l20Free.calls k1 _ _ l2 (wrap64 (x11_1 - 1)) a1_1 a1_1 true _ ?side1 ?side2 A11.out).mono ?_); (case side1 => exact cb_ HR2.out); (case side2 => exact HC2.out); rintro e w' ⟨rfl, ⟨nd, rfl⟩⟩))
       go_roundg k1
       case measure => have := HK1.out; omega
       case rel => exact ⟨(wrap64 (x11_1 - 1)), es_, H', ⟨by have := HK1.out; omega⟩, ⟨bk_ BK434.out⟩, ⟨bk_ BK435.out⟩, ⟨hb_⟩⟩
      ·replace c12 := Bool.eq_false_iff.mpr c12
       subst c12
       rw [if_neg (show ¬ (false = true) by decide)] at H
       have H' := Aside0.mk H
       clear H
       have hnb15 := NB435_434.out
       have hnc15 := NB434_435.out
       have hcz16_0 : wr.cell? ⟨gb435, 0, none⟩ = some (.int .i64 a1_0) := (blk_cell BK435.out 0).trans rfl
       have hcz16_1 : wr.cell? ⟨gb435, 1, none⟩ = some (.int .i64 a1_1) := (blk_cell BK435.out 1).trans rfl
       have hfz16_0 := blk_frozen BK435.out 0
       have hfz16_1 := blk_frozen BK435.out 1
       go_wp2_with (first | (go_at_call 71; (with_reducible refine (spec_l20Free.calls k1 _ _ l2 (wrap64 (x11_1 - 1)) a1_1 a1_1 false _ ?side1 ?side2 A11.out).mono ?_); (case side1 => exact cb_ HR2.out); (case side2 => exact HC2.out); rintro e w' ⟨rfl, ⟨nd, rfl⟩⟩))
       go_meet
       case rel => exact ⟨_, (x11_1), es_, H', ⟨by have := HK1.out; first | omega | exact Nat.le_refl _⟩, ⟨bk_ BK434.out⟩, ⟨bk_ BK435.out⟩, ⟨hb_⟩⟩
     ·rw [if_neg c10] at H
      have c10b0 : decide (0 < x11_1) = false := decide_eq_false c10
      clear c10
      (first | rw [c10b0] | (simp only [i64_w, i32_w]; rw [c10b0]) | skip)
      have H' := Aside0.mk H
      clear H
      go_wp2
      go_meet
      case rel => exact ⟨_, (x11_1), es_, H', ⟨by have := HK1.out; first | omega | exact Nat.le_refl _⟩, ⟨bk_ BK434.out⟩, ⟨bk_ BK435.out⟩, ⟨hb_⟩⟩
  case rest =>
   clear HC5
   try clear c1
   try clear c2
   try clear p2
   try clear c6
   try clear p6
   try clear c8
   try clear c10
   try clear c10b0
   try clear c12
   try clear c13
   try clear c15
   try clear hcz14_0
   try clear hcz14_1
   try clear hcz16_0
   try clear hcz16_1
   try clear hcz9_0
   try clear hcz9_1
   try clear hfz14_0
   try clear hfz14_1
   try clear hfz16_0
   try clear hfz16_1
   try clear hfz9_0
   try clear hfz9_1
   try clear p2
   try clear p6
   obtain ⟨kq, x11_4, rfl, HA, HJ4, BK434, BK435, HB⟩ := hcut
   cases kq with
   | zero => exact absurd HA.out (by simp [spec_l20Path.j1])
   | succ kj4 =>
    have H := HA.out
    clear HA
    simp only [spec_l20Path.j1] at H
    have H' := Aside0.mk H
    clear H
    go_wp2
    go_loopg [12] kj4 (fun kq v12 w' => ∃ (x12_2 : Int), v12 = .int .i64 x12_2 ∧ Aside0 (spec_l20Path.l1 kq l2 a3 (l0_1.length : Int) x12_2 a0_0 l0_1 a1_0 a1_1 = some (r1, r2)) ∧ Aside0 (kq ≤ kj4) ∧ Aside0 (w'.heap[gb434]? = some (.cells #[.int .i64 a0_0, (.slice A0_1 l0_1.length c0_1)] 39 (0, 0))) ∧ Aside0 (w'.heap[gb435]? = some (.cells #[.int .i64 a1_0, .int .i64 a1_1] 49 (0, 0))) ∧ Aside0 (Below w.heap.size w w'))
    case atStart => exact ⟨(x11_4), es_, H', ⟨Nat.le_refl _⟩, ⟨bk_ BK434.out⟩, ⟨bk_ BK435.out⟩, ⟨hb_⟩⟩
    case round =>
     clear H'
     try clear c1
     try clear c2
     try clear p2
     try clear c6
     try clear p6
     try clear c8
     try clear c10
     try clear c10b0
     try clear c12
     try clear c13
     try clear c15
     try clear hcz14_0
     try clear hcz14_1
     try clear hcz16_0
     try clear hcz16_1
     try clear hcz9_0
     try clear hcz9_1
     try clear hfz14_0
     try clear hfz14_1
     try clear hfz16_0
     try clear hfz16_1
     try clear hfz9_0
     try clear hfz9_1
     try clear p2
     try clear p6
     obtain ⟨x12_2, rfl, HA, HK2, BK434, BK435, HB⟩ := hrel
     cases gk with
     | zero => exact absurd HA.out (by simp [spec_l20Path.l1])
     | succ k2 =>
      have H := HA.out
      clear HA
      simp only [spec_l20Path.l1] at H
      by_cases c17 : x12_2 ≤ a3
      ·rw [if_pos c17] at H
       have c17b0 : decide (x12_2 ≤ a3) = true := decide_eq_true c17
       clear c17
       obtain ⟨ji18, hji18⟩ : ∃ j_ : Int, (wrap64 (x12_2 + 1)) = j_ := ⟨_, rfl⟩
       replace H : (if 0 ≤ (ji18) then (if (ji18 : Int).toNat ≤ 11728124029610 then ((some (List.replicate (ji18 : Int).toNat [] : List (List Bool))).bind fun y437 => (spec_l20Path.l2 k2 l2 a3 (l0_1.length : Int) x12_2 y437 (y437.length : Int) 0 a0_0 l0_1 a1_0 a1_1)) else (none)) else (none)) = some (r1, r2) := by first | (rw [hji18] at H; exact H) | (simp only [hji18] at H ⊢; exact H)
       have hji18w : (IntKind.i64.wrap (x12_2 + 1)) = ji18 := (i64_w _).trans hji18
       by_cases c19 : 0 ≤ (ji18)
       ·rw [if_pos c19] at H
        have c19b0 := eq_true c19
        have c19b1 : decide (0 ≤ (ji18)) = true := decide_eq_true c19
        clear c19
        by_cases c20 : (ji18 : Int).toNat ≤ 11728124029610
        ·rw [if_pos c20] at H
         have c20b0 := eq_true c20
         have c20b1 : decide ((ji18 : Int).toNat ≤ 11728124029610) = true := decide_eq_true c20
         clear c20
         obtain ⟨y437, hy437⟩ : ∃ y_ : List (List Bool), y_ = (List.replicate (ji18 : Int).toNat []) := ⟨_, rfl⟩
         replace H : (spec_l20Path.l2 k2 l2 a3 (l0_1.length : Int) x12_2 y437 (y437.length : Int) 0 a0_0 l0_1 a1_0 a1_1) = some (r1, r2) := by first | (rw [hy437]; with_reducible exact H) | (have H2_ := (Option.bind_some _ _).symm.trans H; rw [hy437]; with_reducible exact H2_) | (have H2_ := (Option.bind_some _ _).symm.trans H; with_reducible exact H2_) | with_reducible exact H | (rw [hy437]; exact H) | exact H
         have Ny437 := Aside0.mk hy437
         clear hy437
         have H' := Aside0.mk H
         clear H
         go_wp2_with (first | ((with_reducible refine gate_dst (N := 51) rfl ?_); refine Kd.S_make (Kd.slice 4 Kd.bool) _ 98 rfl (N := 51) rfl 97 _ _ rfl ji18 rfl rfl Try.underlying97 (.slice none 0 0) 24 info98 rfl (by decide) (by omega) [] (ok := fun _ => True) (okp := fun _ => True) ⟨_, rfl, Kd.R_nil _ _ _ _ _⟩ (fun _ hk => hk) trivial (of_decide_eq_true as_) (Nat.le_trans (Nat.mul_le_mul_right _ (of_decide_eq_true as_ : ji18.toNat ≤ 11728124029610)) (by omega)) (Below.refl _ _) (Nat.le_refl _) ?_; intro v438 w21 ho22 hb hg_ hnew_; clear hg_ hnew_; (first | rw [← Ny437.out] at ho22 | (simp only [Int.reduceToNat] at ho22; rw [← Ny437.out] at ho22)); have n0_ := Aside0.mk (Kd.S_lower ho22 (below_size hb_)); have n1_ := bb_ BK434 hb; have n2_ := bb_ BK435 hb; have n3_ := Aside0.mk (below_step hb_ hb); clear BK434; clear BK435; clear HB; have HO439 := n0_; have BK434 := n1_; have BK435 := n2_; have HB := n3_; clear n0_ n1_ n2_ n3_; clear hb ho22; obtain ⟨Ao23, co23, eo23⟩ := Kd.S_slice HO439.out; subst eo23))
         go_loopg [54] k2 (fun kq v54 w' => ∃ (x13_3 : List (List Bool)) (x54_3 : Int), v54 = .int .i64 x54_3 ∧ Aside0 (spec_l20Path.l2 kq l2 a3 (l0_1.length : Int) x12_2 x13_3 (y437.length : Int) x54_3 a0_0 l0_1 a1_0 a1_1 = some (r1, r2)) ∧ Aside0 (kq ≤ k2) ∧ Aside0 (Kd.S (Kd.slice 4 Kd.bool) 98 w' w.heap.size (fun _ => True) (.slice Ao23 y437.length co23) x13_3) ∧ Aside0 (w'.heap[gb434]? = some (.cells #[.int .i64 a0_0, (.slice A0_1 l0_1.length c0_1)] 39 (0, 0))) ∧ Aside0 (w'.heap[gb435]? = some (.cells #[.int .i64 a1_0, .int .i64 a1_1] 49 (0, 0))) ∧ Aside0 (Below w.heap.size w w'))
         case atStart => exact ⟨(y437), (0), es_, H', ⟨Nat.le_refl _⟩, ⟨sa_ HO439.out⟩, ⟨bk_ BK434.out⟩, ⟨bk_ BK435.out⟩, ⟨hb_⟩⟩
         case round =>
          clear H'
          try clear c1
          try clear c2
          try clear p2
          try clear c6
          try clear p6
          try clear c8
          try clear c10
          try clear c10b0
          try clear c12
          try clear c13
          try clear c15
          try clear c17
          try clear c17b0
          try clear c19
          try clear c19b0
          try clear c19b1
          try clear c20
          try clear c20b0
          try clear c20b1
          try clear hcz14_0
          try clear hcz14_1
          try clear hcz16_0
          try clear hcz16_1
          try clear hcz9_0
          try clear hcz9_1
          try clear hfz14_0
          try clear hfz14_1
          try clear hfz16_0
          try clear hfz16_1
          try clear hfz9_0
          try clear hfz9_1
          try clear p2
          try clear p6
          obtain ⟨x13_3, x54_3, rfl, HA, HK3, HO_13, BK434, BK435, HB⟩ := hrel
          have hl13_3 := (Kd.S_reads' HO_13.out).1
          rw [hl13_3] at HO_13
          (try simp only [hl13_3])
          (try simp only [hl13_3] at BK434)
          (try simp only [hl13_3] at BK435)
          cases gk with
          | zero => exact absurd HA.out (by simp [spec_l20Path.l2])
          | succ k3 =>
           have H := HA.out
           clear HA
           simp only [spec_l20Path.l2] at H
           by_cases c24 : x54_3 < (y437.length : Int)
           ·rw [if_pos c24] at H
            have c24b0 : decide (x54_3 < (y437.length : Int)) = true := decide_eq_true c24
            (try simp only [hl13_3] at c24b0)
            clear c24
            by_cases c25 : 0 ≤ (l0_1.length : Int)
            ·rw [if_pos c25] at H
             have c25b0 := eq_true c25
             have c25b1 : decide (0 ≤ (l0_1.length : Int)) = true := decide_eq_true c25
             clear c25
             by_cases c26 : ((l0_1.length : Int) : Int).toNat ≤ 281474976710656
             ·rw [if_pos c26] at H
              have c26b0 := eq_true c26
              have c26b1 : decide (((l0_1.length : Int) : Int).toNat ≤ 281474976710656) = true := decide_eq_true c26
              clear c26
              obtain ⟨y440, hy440⟩ : ∃ y_ : List Bool, y_ = (List.replicate ((l0_1.length : Int) : Int).toNat false) := ⟨_, rfl⟩
              replace H : (if 0 ≤ x54_3 then (if x54_3 < (x13_3.length : Int) then (spec_l20Path.l2 k3 l2 a3 (l0_1.length : Int) x12_2 (x13_3.set (x54_3 : Int).toNat y440) (y437.length : Int) (wrap64 (x54_3 + 1)) a0_0 l0_1 a1_0 a1_1) else (none)) else (none)) = some (r1, r2) := by first | (rw [hy440]; with_reducible exact H) | (have H2_ := (Option.bind_some _ _).symm.trans H; rw [hy440]; with_reducible exact H2_) | (have H2_ := (Option.bind_some _ _).symm.trans H; with_reducible exact H2_) | with_reducible exact H | (rw [hy440]; exact H) | exact H
              have Ny440 := Aside0.mk hy440
              clear hy440
              by_cases c27 : 0 ≤ x54_3
              ·rw [if_pos c27] at H
               have c27b0 : decide (0 ≤ x54_3) = true := decide_eq_true c27
               clear c27
               by_cases c28 : x54_3 < (x13_3.length : Int)
               ·rw [if_pos c28] at H
                have c28b0 : decide (x54_3 < (x13_3.length : Int)) = true := decide_eq_true c28
                (try simp only [hl13_3] at c28b0)
                clear c28
                obtain ⟨y443, hy443⟩ : ∃ y_ : List (List Bool), y_ = (x13_3.set (x54_3 : Int).toNat y440) := ⟨_, rfl⟩
                replace H : (spec_l20Path.l2 k3 l2 a3 (l0_1.length : Int) x12_2 y443 (y437.length : Int) (wrap64 (x54_3 + 1)) a0_0 l0_1 a1_0 a1_1) = some (r1, r2) := by first | (rw [hy443]; with_reducible exact H) | (have H2_ := (Option.bind_some _ _).symm.trans H; rw [hy443]; with_reducible exact H2_) | (have H2_ := (Option.bind_some _ _).symm.trans H; with_reducible exact H2_) | with_reducible exact H | (rw [hy443]; exact H) | exact H
                have Ny443 := Aside0.mk hy443
                clear hy443
                have H' := Aside0.mk H
                clear H
                go_wp2_with (first | ((with_reducible refine gate_dst (N := 60) rfl ?_); refine Kd.R_make Kd.bool _ 4 rfl (N := 60) rfl 98 _ _ rfl (l0_1.length : Int) rfl rfl Try.underlying98 (.bool false) 1 info4 rfl (by decide) (by omega) false (ok := fun _ => True) (okp := fun _ => True) rfl (fun _ hk => hk) trivial (of_decide_eq_true as_) (Nat.le_trans (Nat.mul_le_mul_right _ (of_decide_eq_true as_ : (l0_1.length : Int).toNat ≤ 281474976710656)) (by omega)) (Below.refl _ _) (Nat.le_refl _) ?_; intro v441 w30 ho31 hb hg_ hnew_; clear hg_ hnew_; (first | rw [← Ny440.out] at ho31 | (simp only [Int.reduceToNat] at ho31; rw [← Ny440.out] at ho31)); have n0_ := Aside0.mk (Kd.S_elder' (sa_ HO_13.out) (Kd.R_base ho31) hb); have n1_ := Aside0.mk (Kd.R_lower ho31 (below_size hb_)); have n2_ := bb_ BK434 hb; have n3_ := bb_ BK435 hb; have n4_ := Aside0.mk (below_step hb_ hb); clear HO_13; clear BK434; clear BK435; clear HB; have HO_13 := n0_; have HO442 := n1_; have BK434 := n2_; have BK435 := n3_; have HB := n4_; clear n0_ n1_ n2_ n3_ n4_; clear hb ho31; have p29 : 0 ≤ (x54_3 : Int) := of_decide_eq_true as_; have q29 : (x54_3 : Int) < ((x13_3.length : Int) : Int) := of_decide_eq_true as_; obtain ⟨go29, co29, eo29, gb29, gl29, cl29, HG29⟩ := Kd.S_form HO_13.out (by omega); (first | cases eo29 | (injection eo29 with ea_ en_ ec_; (first | subst ea_ | (injection ea_ with ea_; subst ea_)); subst ec_; clear en_)); have GB29 := Aside0.mk gb29; have GG29 := Aside0.mk HG29; clear gb29 gl29 HG29; obtain ⟨_, ce29, hcl29, hM29, hcc29, hfr29, _, _⟩ := Kd.S_elem HO_13.out [] (x54_3 : Int) p29 q29; obtain ⟨ve29_0, rfl, ge29_0⟩ := hM29; have hx29_0 := hcc29 0 _ rfl; have hf29_0 := hfr29 0; (try simp only [show ((Kd.slice 4 Kd.bool)).sz = 1 from rfl, Nat.mul_one, Nat.add_zero] at hx29_0); (try simp only [show ((Kd.slice 4 Kd.bool)).sz = 1 from rfl, Nat.mul_one, Nat.add_zero] at hf29_0); clear hcl29 hcc29 hfr29; (try clear hM29); replace p29 := eq_true p29; replace q29 := eq_true q29; have n_ := Aside0.mk (Kd.S_mono (ok' := (fun k_ => some k_ ≠ (v441 : Value).ownBlock)) HO_13.out (fun k_ hk => hk.2)); clear HO_13; have HO_13 := n_; clear n_; have HX32 := Aside0.mk (show Kd.S (Kd.slice 4 Kd.bool) 98 w30 w.heap.size (fun k_ => ((fun _ => True)) k_ ∧ ¬ ((fun k_ => some k_ = (v441 : Value).ownBlock)) k_) (.slice (some ⟨go29, 0, none⟩) x13_3.length co23) x13_3 from (by (with_reducible repeat (first | apply Kd.S_alloc | apply Kd.S_drewN | apply Kd.S_drew)); exact Kd.S_mono HO_13.out (fun k_ hk => ⟨trivial, fun e_ => hk e_⟩))); obtain ⟨oki32, ce32, hcl32, hM32, hcc32, hfr32, hoki32, hH32⟩ := Kd.S_elem HX32.out [] (x54_3 : Int) (of_decide_eq_true as_) (by have h_ : (x54_3 : Int) < ((x13_3.length : Int) : Int) := of_decide_eq_true as_; first | exact h_ | (have e_ := (Kd.S_reads' HO_13.out).1; omega) | simpa using h_); obtain ⟨ve32_0, rfl, ge32_0⟩ := hM32; have HP32 := Kd.S_seg hH32 (of_decide_eq_true as_) (by have h_ : (x54_3 : Int) < ((x13_3.length : Int) : Int) := of_decide_eq_true as_; first | exact h_ | (have e_ := (Kd.S_reads' HO_13.out).1; omega) | simpa using h_) (seg := [v441]) (j := 0) (show 1 ≤ 1 from by decide) (x' := y440) (Kd.M_row (Kd.R_mono (Kd.R_tight rfl (Kd.R_mono (ok' := fun k_ => ((fun _ => True)) k_ ∧ k_ ≠ go29) (Kd.R_apart' (HO442.out) (Kd.S_typed HO_13.out) (by decide)) (fun k_ hk => ⟨trivial, fun e_ => (hk.2) (by rw [e_]; rfl)⟩))) (fun _ h_ => Or.inr (h_)))) (fun _ hk => hk) (fun k_ hk_ => ((Kd.R_mono (ok' := fun k_ => ((fun _ => True)) k_ ∧ k_ ≠ go29) (Kd.R_apart' (HO442.out) (Kd.S_typed HO_13.out) (by decide)) (fun k_ hk => ⟨trivial, fun e_ => (hk.2) (by rw [e_]; rfl)⟩))).1 k_ hk_.symm); have hx32_0 := hcc32 0 _ rfl; (try simp only [show ((Kd.slice 4 Kd.bool)).sz = 1 from rfl, Nat.mul_one, Nat.add_zero] at hx32_0); have hf32_0 := hfr32 0; (try simp only [show ((Kd.slice 4 Kd.bool)).sz = 1 from rfl, Nat.mul_one, Nat.add_zero] at hf32_0); clear hcl32 hcc32 hfr32; (try clear hM32); clear hoki32 hH32; (try simp only [show ((Kd.slice 4 Kd.bool)).sz = 1 from rfl, Nat.mul_one, Nat.add_zero] at HP32)) | ((with_reducible refine gate_store (t := 98) (p := 61) rfl ?_); refine store_event (t := 98) (p := 61) (v := ?vo_w33) (w1 := (w30.setCell ⟨go29, (x54_3 : Int).toNat, none⟩ (v441))) ?hg ?ho ?hn ?hr ?_; (case ho => rfl); (case hg => rfl); (case hn => rfl); (case hr => first | (go_simp; done) | (go_simp; rfl) | (obtain ⟨Av_, cv_, ev_⟩ := vs_ (v := v441) (by assumption); rw [ev_]; first | (go_simp; done) | (go_simp; rfl))); intro w33 hw; have hg : w30.grownBy w33 (some go29) := (by rw [hw]; exact HP32.2); have hp_ : Kd.S (Kd.slice 4 Kd.bool) 98 w33 w.heap.size (fun _ => True) (.slice (some ⟨go29, 0, none⟩) x13_3.length co23) y443 := (by rw [hw, Ny443.out]; exact HP32.1); clear HP32; have n0_ := Aside0.mk (hp_); have n1_ := Aside0.mk (blk_grown (g := gb434) (o := .cells #[.int .i64 a0_0, .slice A0_1 l0_1.length c0_1] 39 (0, 0)) (bk_ BK434.out) hg (Kd.S_ne HO_13.out BK434.out (by decide))); have n2_ := Aside0.mk (blk_grown (g := gb435) (o := .cells #[.int .i64 a1_0, .int .i64 a1_1] 49 (0, 0)) (bk_ BK435.out) hg (Kd.S_ne HO_13.out BK435.out (by decide))); have n3_ := Aside0.mk ((by rw [hw]; exact below_set (HB.out) GB29.out : Below w.heap.size w w33)); clear HO_13; clear BK434; clear BK435; clear HB; clear HO442; have HO_13 := n0_; have BK434 := n1_; have BK435 := n2_; have HB := n3_; clear n0_ n1_ n2_ n3_; clear hg hw hp_))
                (try simp only [← hl13_3])
                go_roundg k3
                case measure => have := HJ4.out; have := HK2.out; have := HK3.out; omega
                case rel => exact ⟨(y443), (wrap64 (x54_3 + 1)), es_, H', ⟨by have := HJ4.out; have := HK2.out; have := HK3.out; omega⟩, ⟨by (try simp only [hl13_3]); (with_reducible repeat (first | apply Kd.S_alloc | apply Kd.S_drewN | apply Kd.S_drew)); exact HO_13.out⟩, ⟨by (try simp only [hl13_3]); (with_reducible repeat (first | refine blk_drewN ?_ _ | refine blk_drew ?_ | refine blk_alloc ?_ _)); exact BK434.out⟩, ⟨by (try simp only [hl13_3]); (with_reducible repeat (first | refine blk_drewN ?_ _ | refine blk_drew ?_ | refine blk_alloc ?_ _)); exact BK435.out⟩, ⟨hb_⟩⟩
               ·rw [if_neg c28] at H
                exact absurd H (by simp)
              ·rw [if_neg c27] at H
               exact absurd H (by simp)
             ·rw [if_neg c26] at H
              exact absurd H (by simp)
            ·rw [if_neg c25] at H
             exact absurd H (by simp)
           ·rw [if_neg c24] at H
            have c24b0 : decide (x54_3 < (y437.length : Int)) = false := decide_eq_false c24
            (try simp only [hl13_3] at c24b0)
            clear c24
            by_cases c34 : 0 ≤ x12_2
            ·rw [if_pos c34] at H
             have c34b0 : decide (0 ≤ x12_2) = true := decide_eq_true c34
             clear c34
             by_cases c35 : x12_2 < (x13_3.length : Int)
             ·rw [if_pos c35] at H
              have c35b0 : decide (x12_2 < (x13_3.length : Int)) = true := decide_eq_true c35
              (try simp only [hl13_3] at c35b0)
              clear c35
              by_cases c36 : 0 ≤ a1_1
              ·rw [if_pos c36] at H
               have c36b0 : decide (0 ≤ a1_1) = true := decide_eq_true c36
               clear c36
               by_cases c37 : a1_1 < ((rd_L5 x13_3 x12_2).length : Int)
               ·rw [if_pos c37] at H
                have c37b0 : decide (a1_1 < ((rd_L5 x13_3 x12_2).length : Int)) = true := decide_eq_true c37
                (try simp only [hl13_3] at c37b0)
                clear c37
                obtain ⟨y445, hy445⟩ : ∃ y_ : List Bool, y_ = ((rd_L5 x13_3 x12_2).set (a1_1 : Int).toNat true) := ⟨_, rfl⟩
                replace H : (spec_l20Path.l3 k3 l2 a3 (l0_1.length : Int) x12_2 (x13_3.set (x12_2 : Int).toNat y445) (wrap64 (x12_2 - 1)) a0_0 l0_1 a1_0 a1_1) = some (r1, r2) := by first | (rw [hy445]; with_reducible exact H) | (have H2_ := (Option.bind_some _ _).symm.trans H; rw [hy445]; with_reducible exact H2_) | (have H2_ := (Option.bind_some _ _).symm.trans H; with_reducible exact H2_) | with_reducible exact H | (rw [hy445]; exact H) | exact H
                have Ny445 := Aside0.mk hy445
                clear hy445
                obtain ⟨y447, hy447⟩ : ∃ y_ : List (List Bool), y_ = (x13_3.set (x12_2 : Int).toNat y445) := ⟨_, rfl⟩
                replace H : (spec_l20Path.l3 k3 l2 a3 (l0_1.length : Int) x12_2 y447 (wrap64 (x12_2 - 1)) a0_0 l0_1 a1_0 a1_1) = some (r1, r2) := by first | (rw [hy447]; with_reducible exact H) | (have H2_ := (Option.bind_some _ _).symm.trans H; rw [hy447]; with_reducible exact H2_) | (have H2_ := (Option.bind_some _ _).symm.trans H; with_reducible exact H2_) | with_reducible exact H | (rw [hy447]; exact H) | exact H
                have Ny447 := Aside0.mk hy447
                clear hy447
                have H' := Aside0.mk H
                clear H
                try go_wp2
                have n0_ := Aside0.mk (Kd.S_drew HO_13.out)
                have n1_ := Aside0.mk (blk_drew BK434.out)
                have n2_ := Aside0.mk (blk_drew BK435.out)
                have n3_ := Aside0.mk (below_drew1 HB.out)
                clear HO_13
                clear BK434
                clear BK435
                clear HB
                have HO_13 := n0_
                have BK434 := n1_
                have BK435 := n2_
                have HB := n3_
                clear n0_ n1_ n2_ n3_
                have p444 : 0 ≤ (x12_2 : Int) := of_decide_eq_true as_
                have q444 : x12_2 < (x13_3.length : Int) := of_decide_eq_true as_
                obtain ⟨ad444, A444_0, c444_0, e444, hx444_0, hl444_0, hi444_0⟩ := at_L5 (Kd.S_reads' HO_13.out).2.2 x12_2 p444 q444
                cases e444
                obtain ⟨ce444, hce444, hMe444, hcc444⟩ := Kd.S_get HO_13.out [] x12_2 p444 (by first | exact q444 | exact of_decide_eq_true as_ | (have e_ := (Kd.S_reads' HO_13.out).1; omega))
                obtain ⟨ve444_0, rfl, ge444_0⟩ := hMe444
                have hv444_0 := hcc444 0 _ rfl
                rw [Nat.add_zero, show ((Kd.slice 4 Kd.bool)).sz = 1 from rfl, Nat.mul_one] at hv444_0
                replace hv444_0 := Option.some.inj (hv444_0.symm.trans hx444_0)
                rw [hv444_0] at ge444_0
                have HL444_0 := Aside0.mk (show Kd.R Kd.bool 4 _ _ _ _ (rd_L5 x13_3 x12_2) from ge444_0)
                clear hv444_0 ge444_0
                have HX444_0 := Aside0.mk hx444_0
                clear hcc444 hce444
                have HR444_0 := Aside0.mk hi444_0
                have HC444_0 := Aside0.mk hl444_0
                clear hi444_0 hl444_0
                replace p444 := eq_true p444
                replace q444 := eq_true q444
                have p38 : 0 ≤ (a1_1 : Int) := of_decide_eq_true as_
                have q38 : (a1_1 : Int) < (((rd_L5 x13_3 x12_2).length : Int) : Int) := of_decide_eq_true as_
                obtain ⟨go38, co38, eo38, gb38, gl38, cl38, HG38⟩ := Kd.R_form HL444_0.out (by omega)
                (first | cases eo38 | (injection eo38 with ea_ en_ ec_; (first | subst ea_ | (injection ea_ with ea_; subst ea_)); subst ec_; clear en_))
                have GB38 := Aside0.mk gb38
                have GG38 := Aside0.mk HG38
                clear gb38 gl38 HG38
                obtain ⟨hx38_0, hf38_0⟩ := Kd.R_celln false HL444_0.out (a1_1 : Int) p38 q38
                replace p38 := eq_true p38
                replace q38 := eq_true q38
                have hq40 : (x12_2 : Int) < (x13_3.length : Int) := (by have h_ : (x12_2 : Int) < ((x13_3.length : Int) : Int) := of_decide_eq_true as_; first | exact h_ | (have e_ := (Kd.S_reads' HO_13.out).1; omega) | simpa only [List.length_set, List.length_set] using h_)
                obtain ⟨oki40, ce40, hcl40, hM40, hcc40, hok40, hbk40⟩ := Kd.S_borrow HO_13.out [] (x12_2 : Int) (of_decide_eq_true as_) hq40
                obtain ⟨ve40_0, rfl, ge40_0⟩ := hM40
                have hv40 := hcc40 0 _ rfl
                rw [Nat.add_zero, show ((Kd.slice 4 Kd.bool)).sz = 1 from rfl, Nat.mul_one] at hv40
                replace hv40 := Option.some.inj (hv40.symm.trans HX444_0.out)
                subst hv40
                clear hcc40 hcl40
                replace ge40_0 := (show Kd.R Kd.bool 4 _ _ _ _ (rd_L5 x13_3 x12_2) from ge40_0)
                have HP40 := Kd.R_putg ge40_0 (a1_1 : Int) true
                rw [← Ny445.out] at HP40
                have HS40 := hbk40 HP40.2 (fun k_ e_ => by injection e_ with e_; subst e_; exact ge40_0.1 _ rfl) (x' := y445) (Kd.M_row HP40.1)
                rw [← Ny447.out] at HS40
                have HQ40 := Aside0.mk HS40
                clear HP40 HS40 hbk40 hok40
                refine start_ (n := 8) (S := fun w' => w'.cell? ⟨gb435, 0, none⟩ = some (.int .i64 a1_0) ∧ w'.cell? ⟨gb435, 1, none⟩ = some (.int .i64 a1_1) ∧ w'.cell? (ad444.add (x12_2).toNat) = some (.slice (some ⟨go38, 0, none⟩) (rd_L5 x13_3 x12_2).length c444_0)) (ds := [7]) #[false, false, false, false, false, false, false, false] (by kernel_rfl) rfl rfl ⟨(blk_cell BK435.out 0).trans rfl, (blk_cell BK435.out 1).trans rfl, hx444_0⟩ (fun hHeld => ?_); refine with_tabW spec_l20Path.tab14 spec_l20Path.bits14 (fun HT_ HW_ => ?_)
                generalize wr.drew = w39 at HO_13 BK434 BK435 HB GG38 HL444_0 HQ40 HR444_0 HX444_0 hf38_0 hx38_0 hx444_0 hHeld ⊢
                refine pure_ (i := 0) (N := some 63) (v := ?_) (a' := ?_) #[true, false, false, false, false, false, false, false] rfl rfl (any_of HT_.out (by kernel_rfl)) (fun _ _ _ h => h) (Or.inl ⟨by rfl, ?_⟩) ?_ ?_
                rotate_left
                ·intro w'
                 go_simp
                 with_reducible rfl
                rotate_left
                ·simp only [Act.put, List.setIfInBounds_toArray, List.set_cons_zero, List.set_cons_succ, i64_w, i32_w]
                 rfl
                refine pure_ (i := 1) (N := some 64) (v := ?_) (a' := ?_) #[true, true, false, false, false, false, false, false] rfl rfl (any_of HT_.out (by kernel_rfl)) (fun _ _ _ h => h) (Or.inl ⟨by rfl, ?_⟩) ?_ ?_
                rotate_left
                ·intro w'
                 go_simp
                 with_reducible rfl
                rotate_left
                ·simp only [Act.put, List.setIfInBounds_toArray, List.set_cons_zero, List.set_cons_succ, i64_w, i32_w]
                 rfl
                refine pure_ (i := 2) (N := some 65) (v := ?_) (a' := ?_) #[true, true, true, false, false, false, false, false] rfl rfl (any_of HT_.out (by kernel_rfl)) (fun _ _ _ h => h) (Or.inl ⟨by rfl, ?_⟩) ?_ ?_
                rotate_left
                ·intro w'
                 go_simp
                 with_reducible rfl
                rotate_left
                ·simp only [Act.put, List.setIfInBounds_toArray, List.set_cons_zero, List.set_cons_succ, i64_w, i32_w]
                 rfl
                refine pure_ (i := 4) (N := some 67) (v := ?_) (a' := ?_) #[true, true, true, false, true, false, false, false] rfl rfl (any_of HT_.out (by kernel_rfl)) (fun _ _ _ h => h) (Or.inl ⟨by rfl, ?_⟩) ?_ ?_
                rotate_left
                ·intro w'
                 go_simp
                 with_reducible rfl
                rotate_left
                ·simp only [Act.put, List.setIfInBounds_toArray, List.set_cons_zero, List.set_cons_succ, i64_w, i32_w]
                 rfl
                refine take_ (i := 3) (N := some 66) (v := ?_) (a' := ?_) #[true, true, true, true, true, false, false, false] rfl rfl (take_ofW HT_.out HW_.out (by kernel_rfl)) (fun _ _ _ h => h) (Or.inl ⟨by rfl, ?_⟩) hHeld ?_ ?_
                rotate_left
                ·rintro w' ⟨s0, s1, s2⟩
                 go_simp
                 with_reducible rfl
                rotate_left
                ·simp only [Act.put, List.setIfInBounds_toArray, List.set_cons_zero, List.set_cons_succ, i64_w, i32_w]
                 rfl
                refine take_ (i := 5) (N := some 68) (v := ?_) (a' := ?_) #[true, true, true, true, true, true, false, false] rfl rfl (take_ofW HT_.out HW_.out (by kernel_rfl)) (fun _ _ _ h => h) (Or.inl ⟨by rfl, ?_⟩) hHeld ?_ ?_
                rotate_left
                ·rintro w' ⟨s0, s1, s2⟩
                 go_simp
                 with_reducible rfl
                rotate_left
                ·simp only [Act.put, List.setIfInBounds_toArray, List.set_cons_zero, List.set_cons_succ, i64_w, i32_w]
                 rfl
                refine pure_ (i := 6) (N := some 69) (v := ?_) (a' := ?_) #[true, true, true, true, true, true, true, false] rfl rfl (any_of HT_.out (by kernel_rfl)) (fun _ _ _ h => h) (Or.inl ⟨by rfl, ?_⟩) ?_ ?_
                rotate_left
                ·intro w'
                 go_simp
                 with_reducible rfl
                rotate_left
                ·simp only [Act.put, List.setIfInBounds_toArray, List.set_cons_zero, List.set_cons_succ, i64_w, i32_w]
                 rfl
                refine last_ (i := 7) (N := none) #[true, true, true, true, true, true, true, true] rfl rfl (one_of HT_.out (by kernel_rfl)) (by decide) (fun K hK => ?_)
                refine skip_ (w1 := ?_) (by rfl) rfl ?_ ?_
                rotate_left
                ·go_simp
                 rfl
                refine hK.out _ _ ?_
                clear hK K
                refine done_ (done_of HT_.out (by kernel_rfl)) ?_
                try go_wp2
                go_loopg [15] k3 (fun kq v15 w' => ∃ (x13_4 : List (List Bool)) (x15_4 : Int), v15 = .int .i64 x15_4 ∧ Aside0 (spec_l20Path.l3 kq l2 a3 (l0_1.length : Int) x12_2 x13_4 x15_4 a0_0 l0_1 a1_0 a1_1 = some (r1, r2)) ∧ Aside0 (kq ≤ k3) ∧ Aside0 (Kd.S (Kd.slice 4 Kd.bool) 98 w' w.heap.size (fun _ => True) (.slice (some ad444) x13_3.length co23) x13_4) ∧ Aside0 (w'.heap[gb434]? = some (.cells #[.int .i64 a0_0, (.slice A0_1 l0_1.length c0_1)] 39 (0, 0))) ∧ Aside0 (w'.heap[gb435]? = some (.cells #[.int .i64 a1_0, .int .i64 a1_1] 49 (0, 0))) ∧ Aside0 (Below w.heap.size w w'))
                case atStart => exact ⟨(y447), (wrap64 (x12_2 - 1)), es_, H', ⟨Nat.le_refl _⟩, ⟨by (try simp only [hl13_3]); (with_reducible repeat (first | apply Kd.S_alloc | apply Kd.S_drewN | apply Kd.S_drew)); exact HQ40.out⟩, ⟨by (try simp only [hl13_3]); (with_reducible repeat (first | refine blk_drewN ?_ _ | refine blk_drew ?_ | refine blk_alloc ?_ _)); refine blk_far ?_ (by have h_ := Kd.R_ne HL444_0.out BK434.out (by decide); intro e_; exact h_ (by rw [e_]; rfl)) _; (with_reducible repeat (first | refine blk_drewN ?_ _ | refine blk_drew ?_ | refine blk_alloc ?_ _)); exact BK434.out⟩, ⟨by (try simp only [hl13_3]); (with_reducible repeat (first | refine blk_drewN ?_ _ | refine blk_drew ?_ | refine blk_alloc ?_ _)); refine blk_far ?_ (by have h_ := Kd.R_ne HL444_0.out BK435.out (by decide); intro e_; exact h_ (by rw [e_]; rfl)) _; (with_reducible repeat (first | refine blk_drewN ?_ _ | refine blk_drew ?_ | refine blk_alloc ?_ _)); exact BK435.out⟩, ⟨by repeat (first | (with_reducible first | exact HB.out | apply below_alloc | apply pw_below_drewN | apply below_drew1 | refine below_set ?_ GB38.out | refine below_set ?_ GE434.out | refine below_set ?_ GE435.out) | exact HB.out)⟩⟩
                case round =>
                 clear H'
                 try clear c1
                 try clear c2
                 try clear p2
                 try clear q2
                 try clear hx2
                 try clear c3
                 try clear p3
                 try clear q3
                 try clear hx3
                 try clear c4
                 try clear p4
                 try clear q4
                 try clear hx4
                 try clear c6
                 try clear p6
                 try clear c8
                 try clear c10
                 try clear c10b0
                 try clear c12
                 try clear c13
                 try clear c15
                 try clear c17
                 try clear c17b0
                 try clear c19
                 try clear c19b0
                 try clear c19b1
                 try clear c20
                 try clear c20b0
                 try clear c20b1
                 try clear c24
                 try clear c24b0
                 try clear c25
                 try clear c25b0
                 try clear c25b1
                 try clear c26
                 try clear c26b0
                 try clear c26b1
                 try clear c27
                 try clear c27b0
                 try clear c28
                 try clear c28b0
                 try clear c29
                 try clear p29
                 try clear q29
                 try clear hx29
                 try clear hf29
                 try clear c32
                 try clear hx32
                 try clear hf32
                 try clear c34
                 try clear c34b0
                 try clear c35
                 try clear c35b0
                 try clear c36
                 try clear c36b0
                 try clear c37
                 try clear c37b0
                 try clear p38
                 try clear q38
                 try clear hx38
                 try clear hf38
                 try clear c40
                 try clear q40
                 try clear hcz14_0
                 try clear hcz14_1
                 try clear hcz16_0
                 try clear hcz16_1
                 try clear hcz9_0
                 try clear hcz9_1
                 try clear hfz14_0
                 try clear hfz14_1
                 try clear hfz16_0
                 try clear hfz16_1
                 try clear hfz9_0
                 try clear hfz9_1
                 try clear hx29_0
                 try clear hx32_0
                 try clear hx38_0
                 try clear hx444_0
                 try clear p2
                 try clear p29
                 try clear p38
                 try clear p444
                 try clear p6
                 try clear q29
                 try clear q38
                 try clear q444
                 obtain ⟨x13_4, x15_4, rfl, HA, HK4, HO_13, BK434, BK435, HB⟩ := hrel
                 have hl13_4 := (Kd.S_reads' HO_13.out).1
                 rw [hl13_4] at HO_13
                 (try simp only [hl13_4])
                 (try simp only [hl13_4] at BK434)
                 (try simp only [hl13_4] at BK435)
                 cases gk with
                 | zero => exact absurd HA.out (by simp [spec_l20Path.l3])
                 | succ k4 =>
                  have H := HA.out
                  clear HA
                  simp only [spec_l20Path.l3] at H
                  by_cases c42 : x15_4 ≥ 0
                  ·rw [if_pos c42] at H
                   have c42b0 : decide (0 ≤ x15_4) = true := decide_eq_true c42
                   clear c42
                   have H' := Aside0.mk H
                   clear H
                   go_wp2
                   go_loopg [16] k4 (fun kq v16 w' => ∃ (x13_5 : List (List Bool)) (x16_5 : Int), v16 = .int .i64 x16_5 ∧ Aside0 (spec_l20Path.l4 kq l2 a3 (l0_1.length : Int) x12_2 x13_5 x15_4 x16_5 a0_0 l0_1 a1_0 a1_1 = some (r1, r2)) ∧ Aside0 (kq ≤ k4) ∧ Aside0 (Kd.S (Kd.slice 4 Kd.bool) 98 w' w.heap.size (fun _ => True) (.slice (some ad444) x13_4.length co23) x13_5) ∧ Aside0 (w'.heap[gb434]? = some (.cells #[.int .i64 a0_0, (.slice A0_1 l0_1.length c0_1)] 39 (0, 0))) ∧ Aside0 (w'.heap[gb435]? = some (.cells #[.int .i64 a1_0, .int .i64 a1_1] 49 (0, 0))) ∧ Aside0 (Below w.heap.size w w'))
                   case atStart => exact ⟨(x13_4), (0), es_, H', ⟨Nat.le_refl _⟩, ⟨by (try simp only [hl13_3]); (try simp only [hl13_4]); (with_reducible repeat (first | apply Kd.S_alloc | apply Kd.S_drewN | apply Kd.S_drew)); exact HO_13.out⟩, ⟨by (try simp only [hl13_3]); (try simp only [hl13_4]); (with_reducible repeat (first | refine blk_drewN ?_ _ | refine blk_drew ?_ | refine blk_alloc ?_ _)); exact BK434.out⟩, ⟨by (try simp only [hl13_3]); (try simp only [hl13_4]); (with_reducible repeat (first | refine blk_drewN ?_ _ | refine blk_drew ?_ | refine blk_alloc ?_ _)); exact BK435.out⟩, ⟨hb_⟩⟩
                   case round =>
                    clear H'
                    try clear c1
                    try clear c2
                    try clear p2
                    try clear q2
                    try clear hx2
                    try clear c3
                    try clear p3
                    try clear q3
                    try clear hx3
                    try clear c4
                    try clear p4
                    try clear q4
                    try clear hx4
                    try clear c6
                    try clear p6
                    try clear c8
                    try clear c10
                    try clear c10b0
                    try clear c12
                    try clear c13
                    try clear c15
                    try clear c17
                    try clear c17b0
                    try clear c19
                    try clear c19b0
                    try clear c19b1
                    try clear c20
                    try clear c20b0
                    try clear c20b1
                    try clear c24
                    try clear c24b0
                    try clear c25
                    try clear c25b0
                    try clear c25b1
                    try clear c26
                    try clear c26b0
                    try clear c26b1
                    try clear c27
                    try clear c27b0
                    try clear c28
                    try clear c28b0
                    try clear c29
                    try clear p29
                    try clear q29
                    try clear hx29
                    try clear hf29
                    try clear c32
                    try clear hx32
                    try clear hf32
                    try clear c34
                    try clear c34b0
                    try clear c35
                    try clear c35b0
                    try clear c36
                    try clear c36b0
                    try clear c37
                    try clear c37b0
                    try clear p38
                    try clear q38
                    try clear hx38
                    try clear hf38
                    try clear c40
                    try clear q40
                    try clear c42
                    try clear c42b0
                    try clear hcz14_0
                    try clear hcz14_1
                    try clear hcz16_0
                    try clear hcz16_1
                    try clear hcz9_0
                    try clear hcz9_1
                    try clear hfz14_0
                    try clear hfz14_1
                    try clear hfz16_0
                    try clear hfz16_1
                    try clear hfz9_0
                    try clear hfz9_1
                    try clear hx29_0
                    try clear hx32_0
                    try clear hx38_0
                    try clear hx444_0
                    try clear p2
                    try clear p29
                    try clear p3
                    try clear p38
                    try clear p4
                    try clear p444
                    try clear p6
                    try clear q2
                    try clear q29
                    try clear q3
                    try clear q38
                    try clear q4
                    try clear q40
                    try clear q444
                    obtain ⟨x13_5, x16_5, rfl, HA, HK5, HO_13, BK434, BK435, HB⟩ := hrel
                    have hl13_5 := (Kd.S_reads' HO_13.out).1
                    rw [hl13_5] at HO_13
                    (try simp only [hl13_5])
                    (try simp only [hl13_5] at BK434)
                    (try simp only [hl13_5] at BK435)
                    cases gk with
                    | zero => exact absurd HA.out (by simp [spec_l20Path.l4])
                    | succ k5 =>
                     have H := HA.out
                     clear HA
                     simp only [spec_l20Path.l4] at H
                     by_cases c43 : x16_5 < (l0_1.length : Int)
                     ·rw [if_pos c43] at H
                      have c43b0 : decide (x16_5 < (l0_1.length : Int)) = true := decide_eq_true c43
                      (try simp only [hl13_3] at c43b0)
                      (try simp only [hl13_4] at c43b0)
                      (try simp only [hl13_5] at c43b0)
                      clear c43
                      replace H := Option.bind_eq_some_iff.mp H
                      obtain ⟨t448, A440, H⟩ := H
                      replace H : (if t448 = true then ((spec_l20Next.f k5 a0_0 l0_1 x16_5).bind fun t449 => (spec_l20Path.l5 k5 l2 a3 (l0_1.length : Int) x12_2 x13_5 x15_4 x16_5 t449 (t449.length : Int) 0 a0_0 l0_1 a1_0 a1_1)) else (spec_l20Path.l4 k5 l2 a3 (l0_1.length : Int) x12_2 x13_5 x15_4 (wrap64 (x16_5 + 1)) a0_0 l0_1 a1_0 a1_1)) = some (r1, r2) := H
                      have A44 := Aside0.mk A440
                      clear A440
                      by_cases c45 : t448 = true
                      ·subst c45
                       rw [if_pos rfl] at H
                       replace H := Option.bind_eq_some_iff.mp H
                       obtain ⟨t449, A460, H⟩ := H
                       replace H : (spec_l20Path.l5 k5 l2 a3 (l0_1.length : Int) x12_2 x13_5 x15_4 x16_5 t449 (t449.length : Int) 0 a0_0 l0_1 a1_0 a1_1) = some (r1, r2) := H
                       have A46 := Aside0.mk A460
                       clear A460
                       have H' := Aside0.mk H
                       clear H
                       have hnb47 := NB434_435.out
                       have hnc47 := NB435_434.out
                       have hcz48_0 : wr.cell? ⟨gb434, 0, none⟩ = some (.int .i64 a0_0) := (blk_cell BK434.out 0).trans rfl
                       have hcz48_1 : wr.cell? ⟨gb434, 1, none⟩ = some (.slice A0_1 l0_1.length c0_1) := (blk_cell BK434.out 1).trans rfl
                       have hfz48_0 := blk_frozen BK434.out 0
                       have hfz48_1 := blk_frozen BK434.out 1
                       go_wp2_with (first | ((with_reducible refine gate_callee (f := 53) rfl ?_); refine goesL_ (some 83) rfl rfl Try.func53 (by kernel_rfl) rfl #[.agg #[.int .i64 a0_0, .slice A0_1 l0_1.length c0_1], .int .i64 x16_5] rfl ls_ ?_; (with_reducible refine (spec_l12Free.calls a0_0 _ _ l0_1 x16_5 true _ ?side1 ?side2 A44.out).mono ?_); (case side1 => exact cb_ HR0_1.out); (case side2 => exact HC0_1.out); rintro e w49 ⟨rfl, hb⟩; refine ⟨_, rfl, ?_⟩; have n0_ := Aside0.mk (Kd.S_below (sa_ HO_13.out) hb); have n1_ := bb_ BK434 hb; have n2_ := bb_ BK435 hb; have n3_ := Aside0.mk (below_step hb_ hb); clear HO_13; clear BK434; clear BK435; clear HB; have HO_13 := n0_; have BK434 := n1_; have BK435 := n2_; have HB := n3_; clear n0_ n1_ n2_ n3_; (try clear hb); (try clear hb2); (try clear hk); (try clear hi); have hcz50_0 : w49.cell? ⟨gb434, 0, none⟩ = some (.int .i64 a0_0) := (blk_cell BK434.out 0).trans rfl; have hcz50_1 : w49.cell? ⟨gb434, 1, none⟩ = some (.slice A0_1 l0_1.length c0_1) := (blk_cell BK434.out 1).trans rfl; have hfz50_0 := blk_frozen BK434.out 0; have hfz50_1 := blk_frozen BK434.out 1) | ((with_reducible refine gate_callee (f := 57) rfl ?_); refine goesL_ (some 87) rfl rfl Try.func57 (by kernel_rfl) rfl #[.agg #[.int .i64 a0_0, .slice A0_1 l0_1.length c0_1], .int .i64 x16_5] rfl ls_ ?_; (with_reducible refine (spec_l20Next.calls k5 a0_0 _ _ l0_1 x16_5 t449 _ ?side1 ?side2 A46.out).mono ?_); (case side1 => exact cb_ HR0_1.out); (case side2 => exact HC0_1.out); rintro e w51 ⟨v450, rfl, ho0, hb⟩; refine ⟨_, rfl, ?_⟩; have n0_ := Aside0.mk (Kd.S_below (sa_ HO_13.out) hb); have n1_ := Aside0.mk (Kd.R_lower ho0 (below_size hb_)); have n2_ := bb_ BK434 hb; have n3_ := bb_ BK435 hb; have n4_ := Aside0.mk (below_step hb_ hb); clear HO_13; clear BK434; clear BK435; clear HB; have HO_13 := n0_; have HO451 := n1_; have BK434 := n2_; have BK435 := n3_; have HB := n4_; clear n0_ n1_ n2_ n3_ n4_; (try clear hb); (try clear hb2); (try clear hk); (try clear hi); (try clear ho0); obtain ⟨Ao52, co52, eo52⟩ := Kd.R_slice HO451.out; subst eo52))
                       go_loopg [89] k5 (fun kq v89 w' => ∃ (x13_6 : List (List Bool)) (x89_6 : Int), v89 = .int .i64 x89_6 ∧ Aside0 (spec_l20Path.l5 kq l2 a3 (l0_1.length : Int) x12_2 x13_6 x15_4 x16_5 t449 (t449.length : Int) x89_6 a0_0 l0_1 a1_0 a1_1 = some (r1, r2)) ∧ Aside0 (kq ≤ k5) ∧ Aside0 (Kd.S (Kd.slice 4 Kd.bool) 98 w' w.heap.size (fun _ => True) (.slice (some ad444) x13_5.length co23) x13_6) ∧ Aside0 (Kd.R (Kd.int .i64) 3 w' w.heap.size (fun _ => True) (.slice Ao52 t449.length co52) t449) ∧ Aside0 (w'.heap[gb434]? = some (.cells #[.int .i64 a0_0, (.slice A0_1 l0_1.length c0_1)] 39 (0, 0))) ∧ Aside0 (w'.heap[gb435]? = some (.cells #[.int .i64 a1_0, .int .i64 a1_1] 49 (0, 0))) ∧ Aside0 (Below w.heap.size w w'))
                       case atStart => exact ⟨(x13_5), (0), es_, H', ⟨Nat.le_refl _⟩, ⟨by (try simp only [hl13_3]); (try simp only [hl13_4]); (try simp only [hl13_5]); (with_reducible repeat (first | apply Kd.S_alloc | apply Kd.S_drewN | apply Kd.S_drew)); exact HO_13.out⟩, ⟨by (try simp only [hl13_3]); (try simp only [hl13_4]); (try simp only [hl13_5]); (with_reducible repeat (first | apply Kd.R_alloc | apply Kd.R_drewN | apply Kd.R_drew)); exact HO451.out⟩, ⟨by (try simp only [hl13_3]); (try simp only [hl13_4]); (try simp only [hl13_5]); (with_reducible repeat (first | refine blk_drewN ?_ _ | refine blk_drew ?_ | refine blk_alloc ?_ _)); exact BK434.out⟩, ⟨by (try simp only [hl13_3]); (try simp only [hl13_4]); (try simp only [hl13_5]); (with_reducible repeat (first | refine blk_drewN ?_ _ | refine blk_drew ?_ | refine blk_alloc ?_ _)); exact BK435.out⟩, ⟨hb_⟩⟩
                       case round =>
                        clear H'
                        try clear c1
                        try clear c2
                        try clear p2
                        try clear q2
                        try clear hx2
                        try clear c3
                        try clear p3
                        try clear q3
                        try clear hx3
                        try clear c4
                        try clear p4
                        try clear q4
                        try clear hx4
                        try clear c5
                        try clear c6
                        try clear p6
                        try clear c8
                        try clear c10
                        try clear c10b0
                        try clear c12
                        try clear c13
                        try clear c15
                        try clear c17
                        try clear c17b0
                        try clear c19
                        try clear c19b0
                        try clear c19b1
                        try clear c20
                        try clear c20b0
                        try clear c20b1
                        try clear c24
                        try clear c24b0
                        try clear c25
                        try clear c25b0
                        try clear c25b1
                        try clear c26
                        try clear c26b0
                        try clear c26b1
                        try clear c27
                        try clear c27b0
                        try clear c28
                        try clear c28b0
                        try clear c29
                        try clear p29
                        try clear q29
                        try clear hx29
                        try clear hf29
                        try clear c32
                        try clear hx32
                        try clear hf32
                        try clear c34
                        try clear c34b0
                        try clear c35
                        try clear c35b0
                        try clear c36
                        try clear c36b0
                        try clear c37
                        try clear c37b0
                        try clear p38
                        try clear q38
                        try clear hx38
                        try clear hf38
                        try clear c40
                        try clear q40
                        try clear c42
                        try clear c42b0
                        try clear c43
                        try clear c43b0
                        try clear c44
                        try clear p44
                        try clear q44
                        try clear hx44
                        try clear c45
                        try clear c47
                        try clear hcz14_0
                        try clear hcz14_1
                        try clear hcz16_0
                        try clear hcz16_1
                        try clear hcz48_0
                        try clear hcz48_1
                        try clear hcz50_0
                        try clear hcz50_1
                        try clear hcz9_0
                        try clear hcz9_1
                        try clear hfz14_0
                        try clear hfz14_1
                        try clear hfz16_0
                        try clear hfz16_1
                        try clear hfz48_0
                        try clear hfz48_1
                        try clear hfz50_0
                        try clear hfz50_1
                        try clear hfz9_0
                        try clear hfz9_1
                        try clear hx29_0
                        try clear hx32_0
                        try clear hx38_0
                        try clear hx444_0
                        try clear p2
                        try clear p29
                        try clear p3
                        try clear p38
                        try clear p4
                        try clear p444
                        try clear p6
                        try clear q2
                        try clear q29
                        try clear q3
                        try clear q38
                        try clear q4
                        try clear q40
                        try clear q444
                        obtain ⟨x13_6, x89_6, rfl, HA, HK6, HO_13, HO_87, BK434, BK435, HB⟩ := hrel
                        have hl13_6 := (Kd.S_reads' HO_13.out).1
                        rw [hl13_6] at HO_13
                        (try simp only [hl13_6])
                        (try simp only [hl13_6] at BK434)
                        (try simp only [hl13_6] at BK435)
                        (try simp only [hl13_6] at HO_87)
                        cases gk with
                        | zero => exact absurd HA.out (by simp [spec_l20Path.l5])
                        | succ k6 =>
                         have H := HA.out
                         clear HA
                         simp only [spec_l20Path.l5] at H
                         by_cases c53 : x89_6 < (t449.length : Int)
                         ·rw [if_pos c53] at H
                          have c53b0 : decide (x89_6 < (t449.length : Int)) = true := decide_eq_true c53
                          (try simp only [hl13_3] at c53b0)
                          (try simp only [hl13_4] at c53b0)
                          (try simp only [hl13_5] at c53b0)
                          (try simp only [hl13_6] at c53b0)
                          clear c53
                          by_cases c54 : 0 ≤ x89_6
                          ·rw [if_pos c54] at H
                           have c54b0 : decide (0 ≤ x89_6) = true := decide_eq_true c54
                           clear c54
                           by_cases c55 : x89_6 < (t449.length : Int)
                           ·rw [if_pos c55] at H
                            have c55b0 : decide (x89_6 < (t449.length : Int)) = true := decide_eq_true c55
                            (try simp only [hl13_3] at c55b0)
                            (try simp only [hl13_4] at c55b0)
                            (try simp only [hl13_5] at c55b0)
                            (try simp only [hl13_6] at c55b0)
                            clear c55
                            by_cases c56 : 0 ≤ x15_4
                            ·rw [if_pos c56] at H
                             have c56b0 : decide (0 ≤ x15_4) = true := decide_eq_true c56
                             clear c56
                             by_cases c57 : x15_4 < (x13_6.length : Int)
                             ·rw [if_pos c57] at H
                              have c57b0 : decide (x15_4 < (x13_6.length : Int)) = true := decide_eq_true c57
                              (try simp only [hl13_3] at c57b0)
                              (try simp only [hl13_4] at c57b0)
                              (try simp only [hl13_5] at c57b0)
                              (try simp only [hl13_6] at c57b0)
                              clear c57
                              by_cases c58 : 0 ≤ x16_5
                              ·rw [if_pos c58] at H
                               have c58b0 : decide (0 ≤ x16_5) = true := decide_eq_true c58
                               clear c58
                               by_cases c59 : x16_5 < ((rd_L5 x13_6 x15_4).length : Int)
                               ·rw [if_pos c59] at H
                                have c59b0 : decide (x16_5 < ((rd_L5 x13_6 x15_4).length : Int)) = true := decide_eq_true c59
                                (try simp only [hl13_3] at c59b0)
                                (try simp only [hl13_4] at c59b0)
                                (try simp only [hl13_5] at c59b0)
                                (try simp only [hl13_6] at c59b0)
                                clear c59
                                obtain ⟨bq60, hbq60⟩ : ∃ b_ : Bool, b_ = (rdOf false (rd_L5 x13_6 x15_4) x16_5) := ⟨_, rfl⟩
                                replace H : (if bq60 = true then (spec_l20Path.l5 k6 l2 a3 (l0_1.length : Int) x12_2 (x13_6.set (x15_4 : Int).toNat ((rd_L5 x13_6 x15_4).set (x16_5 : Int).toNat true)) x15_4 x16_5 t449 (t449.length : Int) (wrap64 (x89_6 + 1)) a0_0 l0_1 a1_0 a1_1) else (if 0 ≤ (wrap64 (x15_4 + 1)) then (if (wrap64 (x15_4 + 1)) < (x13_6.length : Int) then (if 0 ≤ (rd t449 x89_6) then (if (rd t449 x89_6) < ((rd_L5 x13_6 (wrap64 (x15_4 + 1))).length : Int) then (if rdOf false (rd_L5 x13_6 (wrap64 (x15_4 + 1))) (rd t449 x89_6) = true then ((spec_l20Free.f k6 l2 (wrap64 (x15_4 + 1)) x16_5 (rd t449 x89_6)).bind fun t461 => (spec_l20Path.l5 k6 l2 a3 (l0_1.length : Int) x12_2 (x13_6.set (x15_4 : Int).toNat ((rd_L5 x13_6 x15_4).set (x16_5 : Int).toNat t461)) x15_4 x16_5 t449 (t449.length : Int) (wrap64 (x89_6 + 1)) a0_0 l0_1 a1_0 a1_1)) else (spec_l20Path.l5 k6 l2 a3 (l0_1.length : Int) x12_2 (x13_6.set (x15_4 : Int).toNat ((rd_L5 x13_6 x15_4).set (x16_5 : Int).toNat false)) x15_4 x16_5 t449 (t449.length : Int) (wrap64 (x89_6 + 1)) a0_0 l0_1 a1_0 a1_1)) else (none)) else (none)) else (none)) else (none))) = some (r1, r2) := by rw [← hbq60] at H; exact H
                                have Nbq60 := Aside0.mk hbq60
                                clear hbq60
                                by_cases c61 : bq60 = true
                                ·subst c61
                                 rw [if_pos rfl] at H
                                 obtain ⟨y456, hy456⟩ : ∃ y_ : List Bool, y_ = ((rd_L5 x13_6 x15_4).set (x16_5 : Int).toNat true) := ⟨_, rfl⟩
                                 replace H : (spec_l20Path.l5 k6 l2 a3 (l0_1.length : Int) x12_2 (x13_6.set (x15_4 : Int).toNat y456) x15_4 x16_5 t449 (t449.length : Int) (wrap64 (x89_6 + 1)) a0_0 l0_1 a1_0 a1_1) = some (r1, r2) := by first | (rw [hy456]; with_reducible exact H) | (have H2_ := (Option.bind_some _ _).symm.trans H; rw [hy456]; with_reducible exact H2_) | (have H2_ := (Option.bind_some _ _).symm.trans H; with_reducible exact H2_) | with_reducible exact H | (rw [hy456]; exact H) | exact H
                                 have Ny456 := Aside0.mk hy456
                                 clear hy456
                                 obtain ⟨y458, hy458⟩ : ∃ y_ : List (List Bool), y_ = (x13_6.set (x15_4 : Int).toNat y456) := ⟨_, rfl⟩
                                 replace H : (spec_l20Path.l5 k6 l2 a3 (l0_1.length : Int) x12_2 y458 x15_4 x16_5 t449 (t449.length : Int) (wrap64 (x89_6 + 1)) a0_0 l0_1 a1_0 a1_1) = some (r1, r2) := by first | (rw [hy458]; with_reducible exact H) | (have H2_ := (Option.bind_some _ _).symm.trans H; rw [hy458]; with_reducible exact H2_) | (have H2_ := (Option.bind_some _ _).symm.trans H; with_reducible exact H2_) | with_reducible exact H | (rw [hy458]; exact H) | exact H
                                 have Ny458 := Aside0.mk hy458
                                 clear hy458
                                 have H' := Aside0.mk H
                                 clear H
                                 have p452 : 0 ≤ (x89_6 : Int) := of_decide_eq_true as_
                                 have q452 : x89_6 < (t449.length : Int) := of_decide_eq_true as_
                                 obtain ⟨ad452, e452, hx452_0⟩ := Kd.at_int (Kd.R_reads' HO_87.out).2.2 x89_6 p452 q452
                                 cases e452
                                 replace p452 := eq_true p452
                                 replace q452 := eq_true q452
                                 try go_wp2
                                 have n0_ := Aside0.mk (Kd.S_drew HO_13.out)
                                 have n1_ := Aside0.mk (Kd.R_drew HO_87.out)
                                 have n2_ := Aside0.mk (blk_drew BK434.out)
                                 have n3_ := Aside0.mk (blk_drew BK435.out)
                                 have n4_ := Aside0.mk (below_drew1 HB.out)
                                 clear HO_13
                                 clear HO_87
                                 clear BK434
                                 clear BK435
                                 clear HB
                                 have HO_13 := n0_
                                 have HO_87 := n1_
                                 have BK434 := n2_
                                 have BK435 := n3_
                                 have HB := n4_
                                 clear n0_ n1_ n2_ n3_ n4_
                                 have p453 : 0 ≤ (x15_4 : Int) := of_decide_eq_true as_
                                 have q453 : x15_4 < (x13_6.length : Int) := of_decide_eq_true as_
                                 obtain ⟨ad453, A453_0, c453_0, e453, hx453_0, hl453_0, hi453_0⟩ := at_L5 (Kd.S_reads' HO_13.out).2.2 x15_4 p453 q453
                                 obtain rfl : ad444 = ad453 := (by injection e453)
                                 obtain ⟨ce453, hce453, hMe453, hcc453⟩ := Kd.S_get HO_13.out [] x15_4 p453 (by first | exact q453 | exact of_decide_eq_true as_ | (have e_ := (Kd.S_reads' HO_13.out).1; omega))
                                 obtain ⟨ve453_0, rfl, ge453_0⟩ := hMe453
                                 have hv453_0 := hcc453 0 _ rfl
                                 rw [Nat.add_zero, show ((Kd.slice 4 Kd.bool)).sz = 1 from rfl, Nat.mul_one] at hv453_0
                                 replace hv453_0 := Option.some.inj (hv453_0.symm.trans hx453_0)
                                 rw [hv453_0] at ge453_0
                                 have HL453_0 := Aside0.mk (show Kd.R Kd.bool 4 _ _ _ _ (rd_L5 x13_6 x15_4) from ge453_0)
                                 clear hv453_0 ge453_0
                                 have HX453_0 := Aside0.mk hx453_0
                                 clear hcc453 hce453
                                 have HR453_0 := Aside0.mk hi453_0
                                 have HC453_0 := Aside0.mk hl453_0
                                 clear hi453_0 hl453_0
                                 replace p453 := eq_true p453
                                 replace q453 := eq_true q453
                                 have p454 : 0 ≤ (x15_4 : Int) := of_decide_eq_true as_
                                 have q454 : x15_4 < (x13_6.length : Int) := of_decide_eq_true as_
                                 obtain ⟨ad454, A454_0, c454_0, e454, hx454_0, hl454_0, hi454_0⟩ := at_L5 (Kd.S_reads' HO_13.out).2.2 x15_4 p454 q454
                                 obtain rfl : ad444 = ad454 := (by injection e454)
                                 obtain ⟨ce454, hce454, hMe454, hcc454⟩ := Kd.S_get HO_13.out [] x15_4 p454 (by first | exact q454 | exact of_decide_eq_true as_ | (have e_ := (Kd.S_reads' HO_13.out).1; omega))
                                 obtain ⟨ve454_0, rfl, ge454_0⟩ := hMe454
                                 have hv454_0 := hcc454 0 _ rfl
                                 rw [Nat.add_zero, show ((Kd.slice 4 Kd.bool)).sz = 1 from rfl, Nat.mul_one] at hv454_0
                                 replace hv454_0 := Option.some.inj (hv454_0.symm.trans hx454_0)
                                 rw [hv454_0] at ge454_0
                                 have HL454_0 := Aside0.mk (show Kd.R Kd.bool 4 _ _ _ _ (rd_L5 x13_6 x15_4) from ge454_0)
                                 clear hv454_0 ge454_0
                                 have HX454_0 := Aside0.mk hx454_0
                                 clear hcc454 hce454
                                 have HR454_0 := Aside0.mk hi454_0
                                 have HC454_0 := Aside0.mk hl454_0
                                 clear hi454_0 hl454_0
                                 replace p454 := eq_true p454
                                 replace q454 := eq_true q454
                                 have ea_ := Option.some.inj (hx453_0.symm.trans hx454_0)
                                 injection ea_ with ea_ en_ ec_
                                 subst ea_
                                 subst ec_
                                 clear en_
                                 have p455 : 0 ≤ (x16_5 : Int) := of_decide_eq_true as_
                                 have q455 : x16_5 < ((rd_L5 x13_6 x15_4).length : Int) := of_decide_eq_true as_
                                 obtain ⟨ad455, e455, hx455_0⟩ := Kd.at_bool (by repeat (first | (with_reducible exact HR454_0.out) | (with_reducible refine Kd.C_alloc ?_ _) | (with_reducible refine Kd.C_drewN ?_ _) | (with_reducible refine Kd.C_drew ?_) | exact HR454_0.out)) x16_5 p455 q455
                                 (try rw [← Nbq60.out] at hx455_0)
                                 cases e455
                                 replace p455 := eq_true p455
                                 replace q455 := eq_true q455
                                 have p62 : 0 ≤ (x16_5 : Int) := of_decide_eq_true as_
                                 have q62 : (x16_5 : Int) < (((rd_L5 x13_6 x15_4).length : Int) : Int) := of_decide_eq_true as_
                                 obtain ⟨go62, co62, eo62, gb62, gl62, cl62, HG62⟩ := Kd.R_form HL453_0.out (by omega)
                                 (first | cases eo62 | (injection eo62 with ea_ en_ ec_; (first | subst ea_ | (injection ea_ with ea_; subst ea_)); subst ec_; clear en_))
                                 have GB62 := Aside0.mk gb62
                                 have GG62 := Aside0.mk HG62
                                 clear gb62 gl62 HG62
                                 (first | simp only [add_plain] at hx455_0 | skip)
                                 obtain ⟨hx62_0, hf62_0⟩ := Kd.R_celln false HL453_0.out (x16_5 : Int) p62 q62
                                 replace p62 := eq_true p62
                                 replace q62 := eq_true q62
                                 have hq64 : (x15_4 : Int) < (x13_6.length : Int) := (by have h_ : (x15_4 : Int) < ((x13_6.length : Int) : Int) := of_decide_eq_true as_; first | exact h_ | (have e_ := (Kd.S_reads' HO_13.out).1; omega) | simpa only [List.length_set, List.length_set] using h_)
                                 obtain ⟨oki64, ce64, hcl64, hM64, hcc64, hok64, hbk64⟩ := Kd.S_borrow HO_13.out [] (x15_4 : Int) (of_decide_eq_true as_) hq64
                                 obtain ⟨ve64_0, rfl, ge64_0⟩ := hM64
                                 have hv64 := hcc64 0 _ rfl
                                 rw [Nat.add_zero, show ((Kd.slice 4 Kd.bool)).sz = 1 from rfl, Nat.mul_one] at hv64
                                 replace hv64 := Option.some.inj (hv64.symm.trans HX453_0.out)
                                 subst hv64
                                 clear hcc64 hcl64
                                 replace ge64_0 := (show Kd.R Kd.bool 4 _ _ _ _ (rd_L5 x13_6 x15_4) from ge64_0)
                                 have HP64 := Kd.R_putg ge64_0 (x16_5 : Int) true
                                 rw [← Ny456.out] at HP64
                                 have HS64 := hbk64 HP64.2 (fun k_ e_ => by injection e_ with e_; subst e_; exact ge64_0.1 _ rfl) (x' := y456) (Kd.M_row HP64.1)
                                 rw [← Ny458.out] at HS64
                                 have HQ64 := Aside0.mk HS64
                                 clear HP64 HS64 hbk64 hok64
                                 refine start_ (n := 32) (S := fun w' => w'.cell? (ad444.add (x15_4).toNat) = some (.slice (some ⟨go62, 0, none⟩) (rd_L5 x13_6 x15_4).length c453_0) ∧ w'.cell? (ad444.add (x15_4).toNat) = some (.slice (some ⟨go62, 0, none⟩) (rd_L5 x13_6 x15_4).length c453_0) ∧ w'.cell? ⟨go62, (x16_5).toNat, none⟩ = some (.bool true)) (ds := [31]) #[false, false, false, false, false, false, false, false, false, false, false, false, false, false, false, false, false, false, false, false, false, false, false, false, false, false, false, false, false, false, false, false] (by kernel_rfl) rfl rfl ⟨hx453_0, hx454_0, hx455_0⟩ (fun hHeld => ?_); refine with_tabW spec_l20Path.tab25 spec_l20Path.bits25 (fun HT_ HW_ => ?_)
                                 generalize wr.drew = w63 at HO_13 HO_87 BK434 BK435 HB GG62 HL453_0 HL454_0 HQ64 HR453_0 HR454_0 HX453_0 HX454_0 hf62_0 hx453_0 hx454_0 hx455_0 hx62_0 hHeld ⊢
                                 refine pure_ (i := 0) (N := some 93) (v := ?_) (a' := ?_) #[true, false, false, false, false, false, false, false, false, false, false, false, false, false, false, false, false, false, false, false, false, false, false, false, false, false, false, false, false, false, false, false] rfl rfl (any_of HT_.out (by kernel_rfl)) (fun _ _ _ h => h) (Or.inl ⟨by rfl, ?_⟩) ?_ ?_
                                 rotate_left
                                 ·intro w'
                                  go_simp
                                  with_reducible rfl
                                 rotate_left
                                 ·simp only [Act.put, List.setIfInBounds_toArray, List.set_cons_zero, List.set_cons_succ, i64_w, i32_w]
                                  rfl
                                 refine pure_ (i := 1) (N := some 94) (v := ?_) (a' := ?_) #[true, true, false, false, false, false, false, false, false, false, false, false, false, false, false, false, false, false, false, false, false, false, false, false, false, false, false, false, false, false, false, false] rfl rfl (any_of HT_.out (by kernel_rfl)) (fun _ _ _ h => h) (Or.inl ⟨by rfl, ?_⟩) ?_ ?_
                                 rotate_left
                                 ·intro w'
                                  go_simp
                                  with_reducible rfl
                                 rotate_left
                                 ·simp only [Act.put, List.setIfInBounds_toArray, List.set_cons_zero, List.set_cons_succ, i64_w, i32_w]
                                  rfl
                                 refine pure_ (i := 2) (N := some 95) (v := ?_) (a' := ?_) #[true, true, true, false, false, false, false, false, false, false, false, false, false, false, false, false, false, false, false, false, false, false, false, false, false, false, false, false, false, false, false, false] rfl rfl (any_of HT_.out (by kernel_rfl)) (fun _ _ _ h => h) (Or.inl ⟨by rfl, ?_⟩) ?_ ?_
                                 rotate_left
                                 ·intro w'
                                  go_simp
                                  with_reducible rfl
                                 rotate_left
                                 ·simp only [Act.put, List.setIfInBounds_toArray, List.set_cons_zero, List.set_cons_succ, i64_w, i32_w]
                                  rfl
                                 refine pure_ (i := 4) (N := some 97) (v := ?_) (a' := ?_) #[true, true, true, false, true, false, false, false, false, false, false, false, false, false, false, false, false, false, false, false, false, false, false, false, false, false, false, false, false, false, false, false] rfl rfl (any_of HT_.out (by kernel_rfl)) (fun _ _ _ h => h) (Or.inl ⟨by rfl, ?_⟩) ?_ ?_
                                 rotate_left
                                 ·intro w'
                                  go_simp
                                  with_reducible rfl
                                 rotate_left
                                 ·simp only [Act.put, List.setIfInBounds_toArray, List.set_cons_zero, List.set_cons_succ, i64_w, i32_w]
                                  rfl
                                 refine pure_ (i := 5) (N := some 98) (v := ?_) (a' := ?_) #[true, true, true, false, true, true, false, false, false, false, false, false, false, false, false, false, false, false, false, false, false, false, false, false, false, false, false, false, false, false, false, false] rfl rfl (any_of HT_.out (by kernel_rfl)) (fun _ _ _ h => h) (Or.inl ⟨by rfl, ?_⟩) ?_ ?_
                                 rotate_left
                                 ·intro w'
                                  go_simp
                                  with_reducible rfl
                                 rotate_left
                                 ·simp only [Act.put, List.setIfInBounds_toArray, List.set_cons_zero, List.set_cons_succ, i64_w, i32_w]
                                  rfl
                                 refine pure_ (i := 6) (N := some 99) (v := ?_) (a' := ?_) #[true, true, true, false, true, true, true, false, false, false, false, false, false, false, false, false, false, false, false, false, false, false, false, false, false, false, false, false, false, false, false, false] rfl rfl (any_of HT_.out (by kernel_rfl)) (fun _ _ _ h => h) (Or.inl ⟨by rfl, ?_⟩) ?_ ?_
                                 rotate_left
                                 ·intro w'
                                  go_simp
                                  with_reducible rfl
                                 rotate_left
                                 ·simp only [Act.put, List.setIfInBounds_toArray, List.set_cons_zero, List.set_cons_succ, i64_w, i32_w]
                                  rfl
                                 refine pure_ (i := 7) (N := some 100) (v := ?_) (a' := ?_) #[true, true, true, false, true, true, true, true, false, false, false, false, false, false, false, false, false, false, false, false, false, false, false, false, false, false, false, false, false, false, false, false] rfl rfl (any_of HT_.out (by kernel_rfl)) (fun _ _ _ h => h) (Or.inl ⟨by rfl, ?_⟩) ?_ ?_
                                 rotate_left
                                 ·intro w'
                                  go_simp
                                  with_reducible rfl
                                 rotate_left
                                 ·simp only [Act.put, List.setIfInBounds_toArray, List.set_cons_zero, List.set_cons_succ, i64_w, i32_w]
                                  rfl
                                 refine pure_ (i := 9) (N := some 102) (v := ?_) (a' := ?_) #[true, true, true, false, true, true, true, true, false, true, false, false, false, false, false, false, false, false, false, false, false, false, false, false, false, false, false, false, false, false, false, false] rfl rfl (any_of HT_.out (by kernel_rfl)) (fun _ _ _ h => h) (Or.inl ⟨by rfl, ?_⟩) ?_ ?_
                                 rotate_left
                                 ·intro w'
                                  go_simp
                                  with_reducible rfl
                                 rotate_left
                                 ·simp only [Act.put, List.setIfInBounds_toArray, List.set_cons_zero, List.set_cons_succ, i64_w, i32_w]
                                  rfl
                                 refine take_ (i := 3) (N := some 96) (v := ?_) (a' := ?_) #[true, true, true, true, true, true, true, true, false, true, false, false, false, false, false, false, false, false, false, false, false, false, false, false, false, false, false, false, false, false, false, false] rfl rfl (take_ofW HT_.out HW_.out (by kernel_rfl)) (fun _ _ _ h => h) (Or.inl ⟨by rfl, ?_⟩) hHeld ?_ ?_
                                 rotate_left
                                 ·rintro w' ⟨s0, s1, s2⟩
                                  go_simp
                                  with_reducible rfl
                                 rotate_left
                                 ·simp only [Act.put, List.setIfInBounds_toArray, List.set_cons_zero, List.set_cons_succ, i64_w, i32_w]
                                  rfl
                                 refine take_ (i := 8) (N := some 101) (v := ?_) (a' := ?_) #[true, true, true, true, true, true, true, true, true, true, false, false, false, false, false, false, false, false, false, false, false, false, false, false, false, false, false, false, false, false, false, false] rfl rfl (take_ofW HT_.out HW_.out (by kernel_rfl)) (fun _ _ _ h => h) (Or.inl ⟨by rfl, ?_⟩) hHeld ?_ ?_
                                 rotate_left
                                 ·rintro w' ⟨s0, s1, s2⟩
                                  go_simp
                                  with_reducible rfl
                                 rotate_left
                                 ·simp only [Act.put, List.setIfInBounds_toArray, List.set_cons_zero, List.set_cons_succ, i64_w, i32_w]
                                  rfl
                                 refine pure_ (i := 10) (N := some 103) (v := ?_) (a' := ?_) #[true, true, true, true, true, true, true, true, true, true, true, false, false, false, false, false, false, false, false, false, false, false, false, false, false, false, false, false, false, false, false, false] rfl rfl (any_of HT_.out (by kernel_rfl)) (fun _ _ _ h => h) (Or.inl ⟨by rfl, ?_⟩) ?_ ?_
                                 rotate_left
                                 ·intro w'
                                  go_simp
                                  with_reducible rfl
                                 rotate_left
                                 ·simp only [Act.put, List.setIfInBounds_toArray, List.set_cons_zero, List.set_cons_succ, i64_w, i32_w]
                                  rfl
                                 refine take_ (i := 11) (N := some 104) (v := ?_) (a' := ?_) #[true, true, true, true, true, true, true, true, true, true, true, true, false, false, false, false, false, false, false, false, false, false, false, false, false, false, false, false, false, false, false, false] rfl rfl (take_ofW HT_.out HW_.out (by kernel_rfl)) (fun _ _ _ h => h) (Or.inl ⟨by rfl, ?_⟩) hHeld ?_ ?_
                                 rotate_left
                                 ·rintro w' ⟨s0, s1, s2⟩
                                  go_simp
                                  with_reducible rfl
                                 rotate_left
                                 ·simp only [Act.put, List.setIfInBounds_toArray, List.set_cons_zero, List.set_cons_succ, i64_w, i32_w]
                                  rfl
                                 refine pure_ (i := 12) (N := some 105) (v := ?_) (a' := ?_) #[true, true, true, true, true, true, true, true, true, true, true, true, true, false, false, false, false, false, false, false, false, false, false, false, false, false, false, false, false, false, false, false] rfl rfl (any_of HT_.out (by kernel_rfl)) (fun _ _ _ h => h) (Or.inl ⟨by rfl, ?_⟩) ?_ ?_
                                 rotate_left
                                 ·intro w'
                                  go_simp
                                  with_reducible rfl
                                 rotate_left
                                 ·simp only [Act.put, List.setIfInBounds_toArray, List.set_cons_zero, List.set_cons_succ, i64_w, i32_w]
                                  rfl
                                 refine pure_ (i := 13) (N := some 106) (v := undef) (a' := ?_) #[true, true, true, true, true, true, true, true, true, true, true, true, true, true, false, false, false, false, false, false, false, false, false, false, false, false, false, false, false, false, false, false] rfl rfl (any_of HT_.out (by kernel_rfl)) (fun _ _ _ h => h) (Or.inr ⟨by rfl, rfl⟩) ?_ ?_
                                 rotate_left
                                 ·simp only [Act.put, List.setIfInBounds_toArray, List.set_cons_zero, List.set_cons_succ, i64_w, i32_w]
                                  rfl
                                 refine pure_ (i := 14) (N := some 107) (v := undef) (a' := ?_) #[true, true, true, true, true, true, true, true, true, true, true, true, true, true, true, false, false, false, false, false, false, false, false, false, false, false, false, false, false, false, false, false] rfl rfl (any_of HT_.out (by kernel_rfl)) (fun _ _ _ h => h) (Or.inr ⟨by rfl, rfl⟩) ?_ ?_
                                 rotate_left
                                 ·simp only [Act.put, List.setIfInBounds_toArray, List.set_cons_zero, List.set_cons_succ, i64_w, i32_w]
                                  rfl
                                 refine pure_ (i := 15) (N := some 108) (v := undef) (a' := ?_) #[true, true, true, true, true, true, true, true, true, true, true, true, true, true, true, true, false, false, false, false, false, false, false, false, false, false, false, false, false, false, false, false] rfl rfl (any_of HT_.out (by kernel_rfl)) (fun _ _ _ h => h) (Or.inr ⟨by rfl, rfl⟩) ?_ ?_
                                 rotate_left
                                 ·simp only [Act.put, List.setIfInBounds_toArray, List.set_cons_zero, List.set_cons_succ, i64_w, i32_w]
                                  rfl
                                 refine pure_ (i := 16) (N := some 109) (v := undef) (a' := ?_) #[true, true, true, true, true, true, true, true, true, true, true, true, true, true, true, true, true, false, false, false, false, false, false, false, false, false, false, false, false, false, false, false] rfl rfl (any_of HT_.out (by kernel_rfl)) (fun _ _ _ h => h) (Or.inr ⟨by rfl, rfl⟩) ?_ ?_
                                 rotate_left
                                 ·simp only [Act.put, List.setIfInBounds_toArray, List.set_cons_zero, List.set_cons_succ, i64_w, i32_w]
                                  rfl
                                 refine pure_ (i := 17) (N := some 110) (v := undef) (a' := ?_) #[true, true, true, true, true, true, true, true, true, true, true, true, true, true, true, true, true, true, false, false, false, false, false, false, false, false, false, false, false, false, false, false] rfl rfl (any_of HT_.out (by kernel_rfl)) (fun _ _ _ h => h) (Or.inr ⟨by rfl, rfl⟩) ?_ ?_
                                 rotate_left
                                 ·simp only [Act.put, List.setIfInBounds_toArray, List.set_cons_zero, List.set_cons_succ, i64_w, i32_w]
                                  rfl
                                 refine pure_ (i := 18) (N := some 111) (v := undef) (a' := ?_) #[true, true, true, true, true, true, true, true, true, true, true, true, true, true, true, true, true, true, true, false, false, false, false, false, false, false, false, false, false, false, false, false] rfl rfl (any_of HT_.out (by kernel_rfl)) (fun _ _ _ h => h) (Or.inr ⟨by rfl, rfl⟩) ?_ ?_
                                 rotate_left
                                 ·simp only [Act.put, List.setIfInBounds_toArray, List.set_cons_zero, List.set_cons_succ, i64_w, i32_w]
                                  rfl
                                 refine pure_ (i := 19) (N := some 112) (v := undef) (a' := ?_) #[true, true, true, true, true, true, true, true, true, true, true, true, true, true, true, true, true, true, true, true, false, false, false, false, false, false, false, false, false, false, false, false] rfl rfl (any_of HT_.out (by kernel_rfl)) (fun _ _ _ h => h) (Or.inr ⟨by rfl, rfl⟩) ?_ ?_
                                 rotate_left
                                 ·simp only [Act.put, List.setIfInBounds_toArray, List.set_cons_zero, List.set_cons_succ, i64_w, i32_w]
                                  rfl
                                 refine pure_ (i := 20) (N := some 113) (v := undef) (a' := ?_) #[true, true, true, true, true, true, true, true, true, true, true, true, true, true, true, true, true, true, true, true, true, false, false, false, false, false, false, false, false, false, false, false] rfl rfl (any_of HT_.out (by kernel_rfl)) (fun _ _ _ h => h) (Or.inr ⟨by rfl, rfl⟩) ?_ ?_
                                 rotate_left
                                 ·simp only [Act.put, List.setIfInBounds_toArray, List.set_cons_zero, List.set_cons_succ, i64_w, i32_w]
                                  rfl
                                 refine pure_ (i := 21) (N := some 114) (v := undef) (a' := ?_) #[true, true, true, true, true, true, true, true, true, true, true, true, true, true, true, true, true, true, true, true, true, true, false, false, false, false, false, false, false, false, false, false] rfl rfl (any_of HT_.out (by kernel_rfl)) (fun _ _ _ h => h) (Or.inr ⟨by rfl, rfl⟩) ?_ ?_
                                 rotate_left
                                 ·simp only [Act.put, List.setIfInBounds_toArray, List.set_cons_zero, List.set_cons_succ, i64_w, i32_w]
                                  rfl
                                 refine pure_ (i := 22) (N := some 115) (v := undef) (a' := ?_) #[true, true, true, true, true, true, true, true, true, true, true, true, true, true, true, true, true, true, true, true, true, true, true, false, false, false, false, false, false, false, false, false] rfl rfl (any_of HT_.out (by kernel_rfl)) (fun _ _ _ h => h) (Or.inr ⟨by rfl, rfl⟩) ?_ ?_
                                 rotate_left
                                 ·simp only [Act.put, List.setIfInBounds_toArray, List.set_cons_zero, List.set_cons_succ, i64_w, i32_w]
                                  rfl
                                 refine pure_ (i := 23) (N := some 116) (v := undef) (a' := ?_) #[true, true, true, true, true, true, true, true, true, true, true, true, true, true, true, true, true, true, true, true, true, true, true, true, false, false, false, false, false, false, false, false] rfl rfl (any_of HT_.out (by kernel_rfl)) (fun _ _ _ h => h) (Or.inr ⟨by rfl, rfl⟩) ?_ ?_
                                 rotate_left
                                 ·simp only [Act.put, List.setIfInBounds_toArray, List.set_cons_zero, List.set_cons_succ, i64_w, i32_w]
                                  rfl
                                 refine pure_ (i := 24) (N := some 117) (v := undef) (a' := ?_) #[true, true, true, true, true, true, true, true, true, true, true, true, true, true, true, true, true, true, true, true, true, true, true, true, true, false, false, false, false, false, false, false] rfl rfl (any_of HT_.out (by kernel_rfl)) (fun _ _ _ h => h) (Or.inr ⟨by rfl, rfl⟩) ?_ ?_
                                 rotate_left
                                 ·simp only [Act.put, List.setIfInBounds_toArray, List.set_cons_zero, List.set_cons_succ, i64_w, i32_w]
                                  rfl
                                 refine pure_ (i := 25) (N := some 118) (v := undef) (a' := ?_) #[true, true, true, true, true, true, true, true, true, true, true, true, true, true, true, true, true, true, true, true, true, true, true, true, true, true, false, false, false, false, false, false] rfl rfl (any_of HT_.out (by kernel_rfl)) (fun _ _ _ h => h) (Or.inr ⟨by rfl, rfl⟩) ?_ ?_
                                 rotate_left
                                 ·simp only [Act.put, List.setIfInBounds_toArray, List.set_cons_zero, List.set_cons_succ, i64_w, i32_w]
                                  rfl
                                 refine pure_ (i := 26) (N := some 119) (v := undef) (a' := ?_) #[true, true, true, true, true, true, true, true, true, true, true, true, true, true, true, true, true, true, true, true, true, true, true, true, true, true, true, false, false, false, false, false] rfl rfl (any_of HT_.out (by kernel_rfl)) (fun _ _ _ h => h) (Or.inr ⟨by rfl, rfl⟩) ?_ ?_
                                 rotate_left
                                 ·simp only [Act.put, List.setIfInBounds_toArray, List.set_cons_zero, List.set_cons_succ, i64_w, i32_w]
                                  rfl
                                 refine pure_ (i := 27) (N := some 120) (v := undef) (a' := ?_) #[true, true, true, true, true, true, true, true, true, true, true, true, true, true, true, true, true, true, true, true, true, true, true, true, true, true, true, true, false, false, false, false] rfl rfl (any_of HT_.out (by kernel_rfl)) (fun _ _ _ h => h) (Or.inr ⟨by rfl, rfl⟩) ?_ ?_
                                 rotate_left
                                 ·simp only [Act.put, List.setIfInBounds_toArray, List.set_cons_zero, List.set_cons_succ, i64_w, i32_w]
                                  rfl
                                 refine pure_ (i := 28) (N := some 121) (v := undef) (a' := ?_) #[true, true, true, true, true, true, true, true, true, true, true, true, true, true, true, true, true, true, true, true, true, true, true, true, true, true, true, true, true, false, false, false] rfl rfl (any_of HT_.out (by kernel_rfl)) (fun _ _ _ h => h) (Or.inr ⟨by rfl, rfl⟩) ?_ ?_
                                 rotate_left
                                 ·simp only [Act.put, List.setIfInBounds_toArray, List.set_cons_zero, List.set_cons_succ, i64_w, i32_w]
                                  rfl
                                 refine pure_ (i := 29) (N := some 122) (v := ?_) (a' := ?_) #[true, true, true, true, true, true, true, true, true, true, true, true, true, true, true, true, true, true, true, true, true, true, true, true, true, true, true, true, true, true, false, false] rfl rfl (any_of HT_.out (by kernel_rfl)) (fun _ _ _ h => h) (Or.inl ⟨by rfl, ?_⟩) ?_ ?_
                                 rotate_left
                                 ·intro w'
                                  go_simp
                                  with_reducible rfl
                                 rotate_left
                                 ·simp only [Act.put, List.setIfInBounds_toArray, List.set_cons_zero, List.set_cons_succ, i64_w, i32_w]
                                  rfl
                                 refine pure_ (i := 30) (N := some 123) (v := ?_) (a' := ?_) #[true, true, true, true, true, true, true, true, true, true, true, true, true, true, true, true, true, true, true, true, true, true, true, true, true, true, true, true, true, true, true, false] rfl rfl (any_of HT_.out (by kernel_rfl)) (fun _ _ _ h => h) (Or.inl ⟨by rfl, ?_⟩) ?_ ?_
                                 rotate_left
                                 ·intro w'
                                  go_simp
                                  with_reducible rfl
                                 rotate_left
                                 ·simp only [Act.put, List.setIfInBounds_toArray, List.set_cons_zero, List.set_cons_succ, i64_w, i32_w]
                                  rfl
                                 refine last_ (i := 31) (N := none) #[true, true, true, true, true, true, true, true, true, true, true, true, true, true, true, true, true, true, true, true, true, true, true, true, true, true, true, true, true, true, true, true] rfl rfl (one_of HT_.out (by kernel_rfl)) (by decide) (fun K hK => ?_)
                                 refine skip_ (w1 := ?_) (by rfl) rfl ?_ ?_
                                 rotate_left
                                 ·go_simp
                                  rfl
                                 refine hK.out _ _ ?_
                                 clear hK K
                                 refine done_ (done_of HT_.out (by kernel_rfl)) ?_
                                 try go_wp2
                                 (try simp only [← hl13_6])
                                 go_roundg k6
                                 case measure => have := HJ4.out; have := HK2.out; have := HK3.out; have := HK4.out; have := HK5.out; have := HK6.out; omega
                                 case rel => exact ⟨(y458), (wrap64 (x89_6 + 1)), es_, H', ⟨by have := HJ4.out; have := HK2.out; have := HK3.out; have := HK4.out; have := HK5.out; have := HK6.out; omega⟩, ⟨by (try simp only [hl13_3]); (try simp only [hl13_4]); (try simp only [hl13_5]); (try simp only [hl13_6]); (with_reducible repeat (first | apply Kd.S_alloc | apply Kd.S_drewN | apply Kd.S_drew)); exact HQ64.out⟩, ⟨by (try simp only [hl13_3]); (try simp only [hl13_4]); (try simp only [hl13_5]); (try simp only [hl13_6]); (with_reducible repeat (first | apply Kd.R_alloc | apply Kd.R_drewN | apply Kd.R_drew)); exact Kd.R_mono (Kd.R_far (p := ⟨go62, (x16_5 : Int).toNat, none⟩) (Kd.R_types HO_87.out GG62.out (by decide)) (fun _ hk => hk.2) (.bool true)) (fun _ hk => trivial)⟩, ⟨by (try simp only [hl13_3]); (try simp only [hl13_4]); (try simp only [hl13_5]); (try simp only [hl13_6]); (with_reducible repeat (first | refine blk_drewN ?_ _ | refine blk_drew ?_ | refine blk_alloc ?_ _)); refine blk_far ?_ (by have h_ := Kd.R_ne HL453_0.out BK434.out (by decide); intro e_; exact h_ (by rw [e_]; rfl)) _; (with_reducible repeat (first | refine blk_drewN ?_ _ | refine blk_drew ?_ | refine blk_alloc ?_ _)); exact BK434.out⟩, ⟨by (try simp only [hl13_3]); (try simp only [hl13_4]); (try simp only [hl13_5]); (try simp only [hl13_6]); (with_reducible repeat (first | refine blk_drewN ?_ _ | refine blk_drew ?_ | refine blk_alloc ?_ _)); refine blk_far ?_ (by have h_ := Kd.R_ne HL453_0.out BK435.out (by decide); intro e_; exact h_ (by rw [e_]; rfl)) _; (with_reducible repeat (first | refine blk_drewN ?_ _ | refine blk_drew ?_ | refine blk_alloc ?_ _)); exact BK435.out⟩, ⟨by repeat (first | (with_reducible first | exact HB.out | apply below_alloc | apply pw_below_drewN | apply below_drew1 | refine below_set ?_ GB62.out | refine below_set ?_ GE434.out | refine below_set ?_ GE435.out) | exact HB.out)⟩⟩
                                ·replace c61 := Bool.eq_false_iff.mpr c61
                                 subst c61
                                 rw [if_neg (show ¬ (false = true) by decide)] at H
                                 obtain ⟨ji66, hji66⟩ : ∃ j_ : Int, (wrap64 (x15_4 + 1)) = j_ := ⟨_, rfl⟩
                                 replace H : (if 0 ≤ (ji66) then (if (ji66) < (x13_6.length : Int) then (if 0 ≤ (rd t449 x89_6) then (if (rd t449 x89_6) < ((rd_L5 x13_6 (ji66)).length : Int) then (if rdOf false (rd_L5 x13_6 (ji66)) (rd t449 x89_6) = true then ((spec_l20Free.f k6 l2 (ji66) x16_5 (rd t449 x89_6)).bind fun t461 => (spec_l20Path.l5 k6 l2 a3 (l0_1.length : Int) x12_2 (x13_6.set (x15_4 : Int).toNat ((rd_L5 x13_6 x15_4).set (x16_5 : Int).toNat t461)) x15_4 x16_5 t449 (t449.length : Int) (wrap64 (x89_6 + 1)) a0_0 l0_1 a1_0 a1_1)) else (spec_l20Path.l5 k6 l2 a3 (l0_1.length : Int) x12_2 (x13_6.set (x15_4 : Int).toNat ((rd_L5 x13_6 x15_4).set (x16_5 : Int).toNat false)) x15_4 x16_5 t449 (t449.length : Int) (wrap64 (x89_6 + 1)) a0_0 l0_1 a1_0 a1_1)) else (none)) else (none)) else (none)) else (none)) = some (r1, r2) := by first | (rw [hji66] at H; exact H) | (simp only [hji66] at H ⊢; exact H)
                                 have hji66w : (IntKind.i64.wrap (x15_4 + 1)) = ji66 := (i64_w _).trans hji66
                                 by_cases c67 : 0 ≤ (ji66)
                                 ·rw [if_pos c67] at H
                                  have c67b0 : decide (0 ≤ (ji66)) = true := decide_eq_true c67
                                  clear c67
                                  by_cases c68 : (ji66) < (x13_6.length : Int)
                                  ·rw [if_pos c68] at H
                                   have c68b0 : decide ((ji66) < (x13_6.length : Int)) = true := decide_eq_true c68
                                   (try simp only [hl13_3] at c68b0)
                                   (try simp only [hl13_4] at c68b0)
                                   (try simp only [hl13_5] at c68b0)
                                   (try simp only [hl13_6] at c68b0)
                                   clear c68
                                   by_cases c69 : 0 ≤ (rd t449 x89_6)
                                   ·rw [if_pos c69] at H
                                    have c69b0 : decide (0 ≤ (rd t449 x89_6)) = true := decide_eq_true c69
                                    clear c69
                                    by_cases c70 : (rd t449 x89_6) < ((rd_L5 x13_6 (ji66)).length : Int)
                                    ·rw [if_pos c70] at H
                                     have c70b0 : decide ((rd t449 x89_6) < ((rd_L5 x13_6 (ji66)).length : Int)) = true := decide_eq_true c70
                                     (try simp only [hl13_3] at c70b0)
                                     (try simp only [hl13_4] at c70b0)
                                     (try simp only [hl13_5] at c70b0)
                                     (try simp only [hl13_6] at c70b0)
                                     clear c70
                                     obtain ⟨bq71, hbq71⟩ : ∃ b_ : Bool, b_ = (rdOf false (rd_L5 x13_6 (ji66)) (rd t449 x89_6)) := ⟨_, rfl⟩
                                     replace H : (if bq71 = true then ((spec_l20Free.f k6 l2 (ji66) x16_5 (rd t449 x89_6)).bind fun t461 => (spec_l20Path.l5 k6 l2 a3 (l0_1.length : Int) x12_2 (x13_6.set (x15_4 : Int).toNat ((rd_L5 x13_6 x15_4).set (x16_5 : Int).toNat t461)) x15_4 x16_5 t449 (t449.length : Int) (wrap64 (x89_6 + 1)) a0_0 l0_1 a1_0 a1_1)) else (spec_l20Path.l5 k6 l2 a3 (l0_1.length : Int) x12_2 (x13_6.set (x15_4 : Int).toNat ((rd_L5 x13_6 x15_4).set (x16_5 : Int).toNat false)) x15_4 x16_5 t449 (t449.length : Int) (wrap64 (x89_6 + 1)) a0_0 l0_1 a1_0 a1_1)) = some (r1, r2) := by rw [← hbq71] at H; exact H
                                     have Nbq71 := Aside0.mk hbq71
                                     clear hbq71
                                     by_cases c72 : bq71 = true
                                     ·subst c72
                                      rw [if_pos rfl] at H
                                      replace H := Option.bind_eq_some_iff.mp H
                                      obtain ⟨t461, A730, H⟩ := H
                                      replace H : (spec_l20Path.l5 k6 l2 a3 (l0_1.length : Int) x12_2 (x13_6.set (x15_4 : Int).toNat ((rd_L5 x13_6 x15_4).set (x16_5 : Int).toNat t461)) x15_4 x16_5 t449 (t449.length : Int) (wrap64 (x89_6 + 1)) a0_0 l0_1 a1_0 a1_1) = some (r1, r2) := H
                                      have A73 := Aside0.mk A730
                                      clear A730
                                      obtain ⟨y462, hy462⟩ : ∃ y_ : List Bool, y_ = ((rd_L5 x13_6 x15_4).set (x16_5 : Int).toNat t461) := ⟨_, rfl⟩
                                      replace H : (spec_l20Path.l5 k6 l2 a3 (l0_1.length : Int) x12_2 (x13_6.set (x15_4 : Int).toNat y462) x15_4 x16_5 t449 (t449.length : Int) (wrap64 (x89_6 + 1)) a0_0 l0_1 a1_0 a1_1) = some (r1, r2) := by first | (rw [hy462]; with_reducible exact H) | (have H2_ := (Option.bind_some _ _).symm.trans H; rw [hy462]; with_reducible exact H2_) | (have H2_ := (Option.bind_some _ _).symm.trans H; with_reducible exact H2_) | with_reducible exact H | (rw [hy462]; exact H) | exact H
                                      have Ny462 := Aside0.mk hy462
                                      clear hy462
                                      obtain ⟨y464, hy464⟩ : ∃ y_ : List (List Bool), y_ = (x13_6.set (x15_4 : Int).toNat y462) := ⟨_, rfl⟩
                                      replace H : (spec_l20Path.l5 k6 l2 a3 (l0_1.length : Int) x12_2 y464 x15_4 x16_5 t449 (t449.length : Int) (wrap64 (x89_6 + 1)) a0_0 l0_1 a1_0 a1_1) = some (r1, r2) := by first | (rw [hy464]; with_reducible exact H) | (have H2_ := (Option.bind_some _ _).symm.trans H; rw [hy464]; with_reducible exact H2_) | (have H2_ := (Option.bind_some _ _).symm.trans H; with_reducible exact H2_) | with_reducible exact H | (rw [hy464]; exact H) | exact H
                                      have Ny464 := Aside0.mk hy464
                                      clear hy464
                                      have H' := Aside0.mk H
                                      clear H
                                      have p452 : 0 ≤ (x89_6 : Int) := of_decide_eq_true as_
                                      have q452 : x89_6 < (t449.length : Int) := of_decide_eq_true as_
                                      obtain ⟨ad452, e452, hx452_0⟩ := Kd.at_int (Kd.R_reads' HO_87.out).2.2 x89_6 p452 q452
                                      cases e452
                                      replace p452 := eq_true p452
                                      replace q452 := eq_true q452
                                      try go_wp2
                                      have n0_ := Aside0.mk (Kd.S_drew HO_13.out)
                                      have n1_ := Aside0.mk (Kd.R_drew HO_87.out)
                                      have n2_ := Aside0.mk (blk_drew BK434.out)
                                      have n3_ := Aside0.mk (blk_drew BK435.out)
                                      have n4_ := Aside0.mk (below_drew1 HB.out)
                                      clear HO_13
                                      clear HO_87
                                      clear BK434
                                      clear BK435
                                      clear HB
                                      have HO_13 := n0_
                                      have HO_87 := n1_
                                      have BK434 := n2_
                                      have BK435 := n3_
                                      have HB := n4_
                                      clear n0_ n1_ n2_ n3_ n4_
                                      have p453 : 0 ≤ (x15_4 : Int) := of_decide_eq_true as_
                                      have q453 : x15_4 < (x13_6.length : Int) := of_decide_eq_true as_
                                      obtain ⟨ad453, A453_0, c453_0, e453, hx453_0, hl453_0, hi453_0⟩ := at_L5 (Kd.S_reads' HO_13.out).2.2 x15_4 p453 q453
                                      obtain rfl : ad444 = ad453 := (by injection e453)
                                      obtain ⟨ce453, hce453, hMe453, hcc453⟩ := Kd.S_get HO_13.out [] x15_4 p453 (by first | exact q453 | exact of_decide_eq_true as_ | (have e_ := (Kd.S_reads' HO_13.out).1; omega))
                                      obtain ⟨ve453_0, rfl, ge453_0⟩ := hMe453
                                      have hv453_0 := hcc453 0 _ rfl
                                      rw [Nat.add_zero, show ((Kd.slice 4 Kd.bool)).sz = 1 from rfl, Nat.mul_one] at hv453_0
                                      replace hv453_0 := Option.some.inj (hv453_0.symm.trans hx453_0)
                                      rw [hv453_0] at ge453_0
                                      have HL453_0 := Aside0.mk (show Kd.R Kd.bool 4 _ _ _ _ (rd_L5 x13_6 x15_4) from ge453_0)
                                      clear hv453_0 ge453_0
                                      have HX453_0 := Aside0.mk hx453_0
                                      clear hcc453 hce453
                                      have HR453_0 := Aside0.mk hi453_0
                                      have HC453_0 := Aside0.mk hl453_0
                                      clear hi453_0 hl453_0
                                      replace p453 := eq_true p453
                                      replace q453 := eq_true q453
                                      have p454 : 0 ≤ (x15_4 : Int) := of_decide_eq_true as_
                                      have q454 : x15_4 < (x13_6.length : Int) := of_decide_eq_true as_
                                      obtain ⟨ad454, A454_0, c454_0, e454, hx454_0, hl454_0, hi454_0⟩ := at_L5 (Kd.S_reads' HO_13.out).2.2 x15_4 p454 q454
                                      obtain rfl : ad444 = ad454 := (by injection e454)
                                      obtain ⟨ce454, hce454, hMe454, hcc454⟩ := Kd.S_get HO_13.out [] x15_4 p454 (by first | exact q454 | exact of_decide_eq_true as_ | (have e_ := (Kd.S_reads' HO_13.out).1; omega))
                                      obtain ⟨ve454_0, rfl, ge454_0⟩ := hMe454
                                      have hv454_0 := hcc454 0 _ rfl
                                      rw [Nat.add_zero, show ((Kd.slice 4 Kd.bool)).sz = 1 from rfl, Nat.mul_one] at hv454_0
                                      replace hv454_0 := Option.some.inj (hv454_0.symm.trans hx454_0)
                                      rw [hv454_0] at ge454_0
                                      have HL454_0 := Aside0.mk (show Kd.R Kd.bool 4 _ _ _ _ (rd_L5 x13_6 x15_4) from ge454_0)
                                      clear hv454_0 ge454_0
                                      have HX454_0 := Aside0.mk hx454_0
                                      clear hcc454 hce454
                                      have HR454_0 := Aside0.mk hi454_0
                                      have HC454_0 := Aside0.mk hl454_0
                                      clear hi454_0 hl454_0
                                      replace p454 := eq_true p454
                                      replace q454 := eq_true q454
                                      have ea_ := Option.some.inj (hx453_0.symm.trans hx454_0)
                                      injection ea_ with ea_ en_ ec_
                                      subst ea_
                                      subst ec_
                                      clear en_
                                      have p455 : 0 ≤ (x16_5 : Int) := of_decide_eq_true as_
                                      have q455 : x16_5 < ((rd_L5 x13_6 x15_4).length : Int) := of_decide_eq_true as_
                                      obtain ⟨ad455, e455, hx455_0⟩ := Kd.at_bool (by repeat (first | (with_reducible exact HR454_0.out) | (with_reducible refine Kd.C_alloc ?_ _) | (with_reducible refine Kd.C_drewN ?_ _) | (with_reducible refine Kd.C_drew ?_) | exact HR454_0.out)) x16_5 p455 q455
                                      (try rw [← Nbq60.out] at hx455_0)
                                      (try rw [← Nbq71.out] at hx455_0)
                                      cases e455
                                      replace p455 := eq_true p455
                                      replace q455 := eq_true q455
                                      have p459 : 0 ≤ ((ji66) : Int) := of_decide_eq_true as_
                                      have q459 : (ji66) < (x13_6.length : Int) := of_decide_eq_true as_
                                      obtain ⟨ad459, A459_0, c459_0, e459, hx459_0, hl459_0, hi459_0⟩ := at_L5 (Kd.S_reads' HO_13.out).2.2 (ji66) p459 q459
                                      obtain rfl : ad444 = ad459 := (by injection e459)
                                      obtain ⟨ce459, hce459, hMe459, hcc459⟩ := Kd.S_get HO_13.out [] (ji66) p459 (by first | exact q459 | exact of_decide_eq_true as_ | (have e_ := (Kd.S_reads' HO_13.out).1; omega))
                                      obtain ⟨ve459_0, rfl, ge459_0⟩ := hMe459
                                      have hv459_0 := hcc459 0 _ rfl
                                      rw [Nat.add_zero, show ((Kd.slice 4 Kd.bool)).sz = 1 from rfl, Nat.mul_one] at hv459_0
                                      replace hv459_0 := Option.some.inj (hv459_0.symm.trans hx459_0)
                                      rw [hv459_0] at ge459_0
                                      have HL459_0 := Aside0.mk (show Kd.R Kd.bool 4 _ _ _ _ (rd_L5 x13_6 (ji66)) from ge459_0)
                                      clear hv459_0 ge459_0
                                      have HX459_0 := Aside0.mk hx459_0
                                      clear hcc459 hce459
                                      have HR459_0 := Aside0.mk hi459_0
                                      have HC459_0 := Aside0.mk hl459_0
                                      clear hi459_0 hl459_0
                                      replace p459 := eq_true p459
                                      replace q459 := eq_true q459
                                      have p460 : 0 ≤ ((rd t449 x89_6) : Int) := of_decide_eq_true as_
                                      have q460 : (rd t449 x89_6) < ((rd_L5 x13_6 (ji66)).length : Int) := of_decide_eq_true as_
                                      obtain ⟨ad460, e460, hx460_0⟩ := Kd.at_bool (by repeat (first | (with_reducible exact HR459_0.out) | (with_reducible refine Kd.C_alloc ?_ _) | (with_reducible refine Kd.C_drewN ?_ _) | (with_reducible refine Kd.C_drew ?_) | exact HR459_0.out)) (rd t449 x89_6) p460 q460
                                      (try rw [← Nbq60.out] at hx460_0)
                                      (try rw [← Nbq71.out] at hx460_0)
                                      cases e460
                                      replace p460 := eq_true p460
                                      replace q460 := eq_true q460
                                      refine start_ (n := 32) (S := fun w' => w'.cell? (ad444.add (x15_4).toNat) = some (.slice (some ad455) (rd_L5 x13_6 x15_4).length c453_0) ∧ w'.cell? (ad444.add (x15_4).toNat) = some (.slice (some ad455) (rd_L5 x13_6 x15_4).length c453_0) ∧ w'.cell? (ad455.add (x16_5).toNat) = some (.bool false) ∧ w'.cell? (ad444.add ((ji66)).toNat) = some (.slice (some ad460) (rd_L5 x13_6 (ji66)).length c459_0) ∧ w'.cell? (ad460.add ((rd t449 x89_6)).toNat) = some (.bool true)) (ds := [31]) #[false, false, false, false, false, false, false, false, false, false, false, false, false, false, false, false, false, false, false, false, false, false, false, false, false, false, false, false, false, false, false, false] (by kernel_rfl) rfl rfl ⟨hx453_0, hx454_0, hx455_0, hx459_0, hx460_0⟩ (fun hHeld => ?_); refine with_tabW spec_l20Path.tab25 spec_l20Path.bits25 (fun HT_ HW_ => ?_)
                                      generalize wr.drew = w75 at HO_13 HO_87 BK434 BK435 HB HL453_0 HL454_0 HL459_0 HR453_0 HR454_0 HR459_0 HX453_0 HX454_0 HX459_0 hx453_0 hx454_0 hx455_0 hx459_0 hx460_0 hHeld ⊢
                                      refine pure_ (i := 0) (N := some 93) (v := ?_) (a' := ?_) #[true, false, false, false, false, false, false, false, false, false, false, false, false, false, false, false, false, false, false, false, false, false, false, false, false, false, false, false, false, false, false, false] rfl rfl (any_of HT_.out (by kernel_rfl)) (fun _ _ _ h => h) (Or.inl ⟨by rfl, ?_⟩) ?_ ?_
                                      rotate_left
                                      ·intro w'
                                       go_simp
                                       with_reducible rfl
                                      rotate_left
                                      ·simp only [Act.put, List.setIfInBounds_toArray, List.set_cons_zero, List.set_cons_succ, i64_w, i32_w]
                                       rfl
                                      refine pure_ (i := 1) (N := some 94) (v := ?_) (a' := ?_) #[true, true, false, false, false, false, false, false, false, false, false, false, false, false, false, false, false, false, false, false, false, false, false, false, false, false, false, false, false, false, false, false] rfl rfl (any_of HT_.out (by kernel_rfl)) (fun _ _ _ h => h) (Or.inl ⟨by rfl, ?_⟩) ?_ ?_
                                      rotate_left
                                      ·intro w'
                                       go_simp
                                       with_reducible rfl
                                      rotate_left
                                      ·simp only [Act.put, List.setIfInBounds_toArray, List.set_cons_zero, List.set_cons_succ, i64_w, i32_w]
                                       rfl
                                      refine pure_ (i := 2) (N := some 95) (v := ?_) (a' := ?_) #[true, true, true, false, false, false, false, false, false, false, false, false, false, false, false, false, false, false, false, false, false, false, false, false, false, false, false, false, false, false, false, false] rfl rfl (any_of HT_.out (by kernel_rfl)) (fun _ _ _ h => h) (Or.inl ⟨by rfl, ?_⟩) ?_ ?_
                                      rotate_left
                                      ·intro w'
                                       go_simp
                                       with_reducible rfl
                                      rotate_left
                                      ·simp only [Act.put, List.setIfInBounds_toArray, List.set_cons_zero, List.set_cons_succ, i64_w, i32_w]
                                       rfl
                                      refine pure_ (i := 4) (N := some 97) (v := ?_) (a' := ?_) #[true, true, true, false, true, false, false, false, false, false, false, false, false, false, false, false, false, false, false, false, false, false, false, false, false, false, false, false, false, false, false, false] rfl rfl (any_of HT_.out (by kernel_rfl)) (fun _ _ _ h => h) (Or.inl ⟨by rfl, ?_⟩) ?_ ?_
                                      rotate_left
                                      ·intro w'
                                       go_simp
                                       with_reducible rfl
                                      rotate_left
                                      ·simp only [Act.put, List.setIfInBounds_toArray, List.set_cons_zero, List.set_cons_succ, i64_w, i32_w]
                                       rfl
                                      refine pure_ (i := 5) (N := some 98) (v := ?_) (a' := ?_) #[true, true, true, false, true, true, false, false, false, false, false, false, false, false, false, false, false, false, false, false, false, false, false, false, false, false, false, false, false, false, false, false] rfl rfl (any_of HT_.out (by kernel_rfl)) (fun _ _ _ h => h) (Or.inl ⟨by rfl, ?_⟩) ?_ ?_
                                      rotate_left
                                      ·intro w'
                                       go_simp
                                       with_reducible rfl
                                      rotate_left
                                      ·simp only [Act.put, List.setIfInBounds_toArray, List.set_cons_zero, List.set_cons_succ, i64_w, i32_w]
                                       rfl
                                      refine pure_ (i := 6) (N := some 99) (v := ?_) (a' := ?_) #[true, true, true, false, true, true, true, false, false, false, false, false, false, false, false, false, false, false, false, false, false, false, false, false, false, false, false, false, false, false, false, false] rfl rfl (any_of HT_.out (by kernel_rfl)) (fun _ _ _ h => h) (Or.inl ⟨by rfl, ?_⟩) ?_ ?_
                                      rotate_left
                                      ·intro w'
                                       go_simp
                                       with_reducible rfl
                                      rotate_left
                                      ·simp only [Act.put, List.setIfInBounds_toArray, List.set_cons_zero, List.set_cons_succ, i64_w, i32_w]
                                       rfl
                                      refine pure_ (i := 7) (N := some 100) (v := ?_) (a' := ?_) #[true, true, true, false, true, true, true, true, false, false, false, false, false, false, false, false, false, false, false, false, false, false, false, false, false, false, false, false, false, false, false, false] rfl rfl (any_of HT_.out (by kernel_rfl)) (fun _ _ _ h => h) (Or.inl ⟨by rfl, ?_⟩) ?_ ?_
                                      rotate_left
                                      ·intro w'
                                       go_simp
                                       with_reducible rfl
                                      rotate_left
                                      ·simp only [Act.put, List.setIfInBounds_toArray, List.set_cons_zero, List.set_cons_succ, i64_w, i32_w]
                                       rfl
                                      refine pure_ (i := 9) (N := some 102) (v := ?_) (a' := ?_) #[true, true, true, false, true, true, true, true, false, true, false, false, false, false, false, false, false, false, false, false, false, false, false, false, false, false, false, false, false, false, false, false] rfl rfl (any_of HT_.out (by kernel_rfl)) (fun _ _ _ h => h) (Or.inl ⟨by rfl, ?_⟩) ?_ ?_
                                      rotate_left
                                      ·intro w'
                                       go_simp
                                       with_reducible rfl
                                      rotate_left
                                      ·simp only [Act.put, List.setIfInBounds_toArray, List.set_cons_zero, List.set_cons_succ, i64_w, i32_w]
                                       rfl
                                      refine take_ (i := 3) (N := some 96) (v := ?_) (a' := ?_) #[true, true, true, true, true, true, true, true, false, true, false, false, false, false, false, false, false, false, false, false, false, false, false, false, false, false, false, false, false, false, false, false] rfl rfl (take_ofW HT_.out HW_.out (by kernel_rfl)) (fun _ _ _ h => h) (Or.inl ⟨by rfl, ?_⟩) hHeld ?_ ?_
                                      rotate_left
                                      ·rintro w' ⟨s0, s1, s2, s3, s4⟩
                                       go_simp
                                       with_reducible rfl
                                      rotate_left
                                      ·simp only [Act.put, List.setIfInBounds_toArray, List.set_cons_zero, List.set_cons_succ, i64_w, i32_w]
                                       rfl
                                      refine take_ (i := 8) (N := some 101) (v := ?_) (a' := ?_) #[true, true, true, true, true, true, true, true, true, true, false, false, false, false, false, false, false, false, false, false, false, false, false, false, false, false, false, false, false, false, false, false] rfl rfl (take_ofW HT_.out HW_.out (by kernel_rfl)) (fun _ _ _ h => h) (Or.inl ⟨by rfl, ?_⟩) hHeld ?_ ?_
                                      rotate_left
                                      ·rintro w' ⟨s0, s1, s2, s3, s4⟩
                                       go_simp
                                       with_reducible rfl
                                      rotate_left
                                      ·simp only [Act.put, List.setIfInBounds_toArray, List.set_cons_zero, List.set_cons_succ, i64_w, i32_w]
                                       rfl
                                      refine pure_ (i := 10) (N := some 103) (v := ?_) (a' := ?_) #[true, true, true, true, true, true, true, true, true, true, true, false, false, false, false, false, false, false, false, false, false, false, false, false, false, false, false, false, false, false, false, false] rfl rfl (any_of HT_.out (by kernel_rfl)) (fun _ _ _ h => h) (Or.inl ⟨by rfl, ?_⟩) ?_ ?_
                                      rotate_left
                                      ·intro w'
                                       go_simp
                                       with_reducible rfl
                                      rotate_left
                                      ·simp only [Act.put, List.setIfInBounds_toArray, List.set_cons_zero, List.set_cons_succ, i64_w, i32_w]
                                       rfl
                                      refine take_ (i := 11) (N := some 104) (v := ?_) (a' := ?_) #[true, true, true, true, true, true, true, true, true, true, true, true, false, false, false, false, false, false, false, false, false, false, false, false, false, false, false, false, false, false, false, false] rfl rfl (take_ofW HT_.out HW_.out (by kernel_rfl)) (fun _ _ _ h => h) (Or.inl ⟨by rfl, ?_⟩) hHeld ?_ ?_
                                      rotate_left
                                      ·rintro w' ⟨s0, s1, s2, s3, s4⟩
                                       go_simp
                                       with_reducible rfl
                                      rotate_left
                                      ·simp only [Act.put, List.setIfInBounds_toArray, List.set_cons_zero, List.set_cons_succ, i64_w, i32_w]
                                       rfl
                                      refine pure_ (i := 12) (N := some 105) (v := ?_) (a' := ?_) #[true, true, true, true, true, true, true, true, true, true, true, true, true, false, false, false, false, false, false, false, false, false, false, false, false, false, false, false, false, false, false, false] rfl rfl (any_of HT_.out (by kernel_rfl)) (fun _ _ _ h => h) (Or.inl ⟨by rfl, ?_⟩) ?_ ?_
                                      rotate_left
                                      ·intro w'
                                       go_simp
                                       with_reducible rfl
                                      rotate_left
                                      ·simp only [Act.put, List.setIfInBounds_toArray, List.set_cons_zero, List.set_cons_succ, i64_w, i32_w]
                                       rfl
                                      refine pure_ (i := 13) (N := some 106) (v := ?_) (a' := ?_) #[true, true, true, true, true, true, true, true, true, true, true, true, true, true, false, false, false, false, false, false, false, false, false, false, false, false, false, false, false, false, false, false] rfl rfl (any_of HT_.out (by kernel_rfl)) (fun _ _ _ h => h) (Or.inl ⟨by rfl, ?_⟩) ?_ ?_
                                      rotate_left
                                      ·intro w'
                                       go_simp
                                       with_reducible rfl
                                      rotate_left
                                      ·simp only [Act.put, List.setIfInBounds_toArray, List.set_cons_zero, List.set_cons_succ, i64_w, i32_w]
                                       rfl
                                      refine pure_ (i := 14) (N := some 107) (v := ?_) (a' := ?_) #[true, true, true, true, true, true, true, true, true, true, true, true, true, true, true, false, false, false, false, false, false, false, false, false, false, false, false, false, false, false, false, false] rfl rfl (any_of HT_.out (by kernel_rfl)) (fun _ _ _ h => h) (Or.inl ⟨by rfl, ?_⟩) ?_ ?_
                                      rotate_left
                                      ·intro w'
                                       go_simp
                                       with_reducible rfl
                                      rotate_left
                                      ·simp only [Act.put, List.setIfInBounds_toArray, List.set_cons_zero, List.set_cons_succ, i64_w, i32_w]
                                       rfl
                                      refine pure_ (i := 15) (N := some 108) (v := ?_) (a' := ?_) #[true, true, true, true, true, true, true, true, true, true, true, true, true, true, true, true, false, false, false, false, false, false, false, false, false, false, false, false, false, false, false, false] rfl rfl (any_of HT_.out (by kernel_rfl)) (fun _ _ _ h => h) (Or.inl ⟨by rfl, ?_⟩) ?_ ?_
                                      rotate_left
                                      ·intro w'
                                       go_simp
                                       with_reducible rfl
                                      rotate_left
                                      ·simp only [Act.put, List.setIfInBounds_toArray, List.set_cons_zero, List.set_cons_succ, i64_w, i32_w]
                                       rfl
                                      refine pure_ (i := 16) (N := some 109) (v := ?_) (a' := ?_) #[true, true, true, true, true, true, true, true, true, true, true, true, true, true, true, true, true, false, false, false, false, false, false, false, false, false, false, false, false, false, false, false] rfl rfl (any_of HT_.out (by kernel_rfl)) (fun _ _ _ h => h) (Or.inl ⟨by rfl, ?_⟩) ?_ ?_
                                      rotate_left
                                      ·intro w'
                                       go_simp
                                       with_reducible rfl
                                      rotate_left
                                      ·simp only [Act.put, List.setIfInBounds_toArray, List.set_cons_zero, List.set_cons_succ, i64_w, i32_w]
                                       rfl
                                      refine pure_ (i := 18) (N := some 111) (v := ?_) (a' := ?_) #[true, true, true, true, true, true, true, true, true, true, true, true, true, true, true, true, true, false, true, false, false, false, false, false, false, false, false, false, false, false, false, false] rfl rfl (any_of HT_.out (by kernel_rfl)) (fun _ _ _ h => h) (Or.inl ⟨by rfl, ?_⟩) ?_ ?_
                                      rotate_left
                                      ·intro w'
                                       go_simp
                                       with_reducible rfl
                                      rotate_left
                                      ·simp only [Act.put, List.setIfInBounds_toArray, List.set_cons_zero, List.set_cons_succ, i64_w, i32_w]
                                       rfl
                                      refine take_ (i := 17) (N := some 110) (v := ?_) (a' := ?_) #[true, true, true, true, true, true, true, true, true, true, true, true, true, true, true, true, true, true, true, false, false, false, false, false, false, false, false, false, false, false, false, false] rfl rfl (take_ofW HT_.out HW_.out (by kernel_rfl)) (fun _ _ _ h => h) (Or.inl ⟨by rfl, ?_⟩) hHeld ?_ ?_
                                      rotate_left
                                      ·rintro w' ⟨s0, s1, s2, s3, s4⟩
                                       go_simp
                                       with_reducible rfl
                                      rotate_left
                                      ·simp only [Act.put, List.setIfInBounds_toArray, List.set_cons_zero, List.set_cons_succ, i64_w, i32_w]
                                       rfl
                                      refine pure_ (i := 19) (N := some 112) (v := ?_) (a' := ?_) #[true, true, true, true, true, true, true, true, true, true, true, true, true, true, true, true, true, true, true, true, false, false, false, false, false, false, false, false, false, false, false, false] rfl rfl (any_of HT_.out (by kernel_rfl)) (fun _ _ _ h => h) (Or.inl ⟨by rfl, ?_⟩) ?_ ?_
                                      rotate_left
                                      ·intro w'
                                       go_simp
                                       with_reducible rfl
                                      rotate_left
                                      ·simp only [Act.put, List.setIfInBounds_toArray, List.set_cons_zero, List.set_cons_succ, i64_w, i32_w]
                                       rfl
                                      refine take_ (i := 20) (N := some 113) (v := ?_) (a' := ?_) #[true, true, true, true, true, true, true, true, true, true, true, true, true, true, true, true, true, true, true, true, true, false, false, false, false, false, false, false, false, false, false, false] rfl rfl (take_ofW HT_.out HW_.out (by kernel_rfl)) (fun _ _ _ h => h) (Or.inl ⟨by rfl, ?_⟩) hHeld ?_ ?_
                                      rotate_left
                                      ·rintro w' ⟨s0, s1, s2, s3, s4⟩
                                       go_simp
                                       with_reducible rfl
                                      rotate_left
                                      ·simp only [Act.put, List.setIfInBounds_toArray, List.set_cons_zero, List.set_cons_succ, i64_w, i32_w]
                                       rfl
                                      refine pure_ (i := 21) (N := some 114) (v := ?_) (a' := ?_) #[true, true, true, true, true, true, true, true, true, true, true, true, true, true, true, true, true, true, true, true, true, true, false, false, false, false, false, false, false, false, false, false] rfl rfl (any_of HT_.out (by kernel_rfl)) (fun _ _ _ h => h) (Or.inl ⟨by rfl, ?_⟩) ?_ ?_
                                      rotate_left
                                      ·intro w'
                                       go_simp
                                       with_reducible rfl
                                      rotate_left
                                      ·simp only [Act.put, List.setIfInBounds_toArray, List.set_cons_zero, List.set_cons_succ, i64_w, i32_w]
                                       rfl
                                      refine pure_ (i := 22) (N := some 115) (v := ?_) (a' := ?_) #[true, true, true, true, true, true, true, true, true, true, true, true, true, true, true, true, true, true, true, true, true, true, true, false, false, false, false, false, false, false, false, false] rfl rfl (any_of HT_.out (by kernel_rfl)) (fun _ _ _ h => h) (Or.inl ⟨by rfl, ?_⟩) ?_ ?_
                                      rotate_left
                                      ·intro w'
                                       go_simp
                                       with_reducible rfl
                                      rotate_left
                                      ·simp only [Act.put, List.setIfInBounds_toArray, List.set_cons_zero, List.set_cons_succ, i64_w, i32_w]
                                       rfl
                                      refine pure_ (i := 23) (N := some 116) (v := ?_) (a' := ?_) #[true, true, true, true, true, true, true, true, true, true, true, true, true, true, true, true, true, true, true, true, true, true, true, true, false, false, false, false, false, false, false, false] rfl rfl (any_of HT_.out (by kernel_rfl)) (fun _ _ _ h => h) (Or.inl ⟨by rfl, ?_⟩) ?_ ?_
                                      rotate_left
                                      ·intro w'
                                       go_simp
                                       with_reducible rfl
                                      rotate_left
                                      ·simp only [Act.put, List.setIfInBounds_toArray, List.set_cons_zero, List.set_cons_succ, i64_w, i32_w]
                                       rfl
                                      refine pure_ (i := 24) (N := some 117) (v := ?_) (a' := ?_) #[true, true, true, true, true, true, true, true, true, true, true, true, true, true, true, true, true, true, true, true, true, true, true, true, true, false, false, false, false, false, false, false] rfl rfl (any_of HT_.out (by kernel_rfl)) (fun _ _ _ h => h) (Or.inl ⟨by rfl, ?_⟩) ?_ ?_
                                      rotate_left
                                      ·intro w'
                                       go_simp
                                       with_reducible rfl
                                      rotate_left
                                      ·simp only [Act.put, List.setIfInBounds_toArray, List.set_cons_zero, List.set_cons_succ, i64_w, i32_w]
                                       rfl
                                      refine pure_ (i := 25) (N := some 118) (v := ?_) (a' := ?_) #[true, true, true, true, true, true, true, true, true, true, true, true, true, true, true, true, true, true, true, true, true, true, true, true, true, true, false, false, false, false, false, false] rfl rfl (any_of HT_.out (by kernel_rfl)) (fun _ _ _ h => h) (Or.inl ⟨by rfl, ?_⟩) ?_ ?_
                                      rotate_left
                                      ·intro w'
                                       go_simp
                                       with_reducible rfl
                                      rotate_left
                                      ·simp only [Act.put, List.setIfInBounds_toArray, List.set_cons_zero, List.set_cons_succ, i64_w, i32_w]
                                       rfl
                                      refine pure_ (i := 26) (N := some 119) (v := ?_) (a' := ?_) #[true, true, true, true, true, true, true, true, true, true, true, true, true, true, true, true, true, true, true, true, true, true, true, true, true, true, true, false, false, false, false, false] rfl rfl (any_of HT_.out (by kernel_rfl)) (fun _ _ _ h => h) (Or.inl ⟨by rfl, ?_⟩) ?_ ?_
                                      rotate_left
                                      ·intro w'
                                       go_simp
                                       with_reducible rfl
                                      rotate_left
                                      ·simp only [Act.put, List.setIfInBounds_toArray, List.set_cons_zero, List.set_cons_succ, i64_w, i32_w]
                                       rfl
                                      refine one_ (i := 27) (N := some 120) #[true, true, true, true, true, true, true, true, true, true, true, true, true, true, true, true, true, true, true, true, true, true, true, true, true, true, true, true, false, false, false, false] rfl rfl (one_of HT_.out (by kernel_rfl)) (by decide) (fun K hK => ?_)
                                      refine goes_ Try.func71 (by kernel_rfl) rfl #[.slice A2 l2.length c2, .int .i64 ji66, .int .i64 x16_5, .int .i64 (rd t449 x89_6)] (by rfl) rfl rfl (by (try simp only [List.map_toArray, List.map_cons, List.map_nil]); first | done | (simp only [hji66]; rfl) | rfl | (simp only [List.length_drop, List.length_take]; rfl)) ?_
                                      with_reducible refine (spec_l20Free.calls k6 _ _ l2 ji66 x16_5 (rd t449 x89_6) t461 _ ?side1 ?side2 A73.out).mono ?_
                                      (case side1 => exact cb_ HR2.out)
                                      (case side2 => exact HC2.out)
                                      rintro e w' ⟨rfl, ⟨nd, rfl⟩⟩
                                      refine ⟨_, rfl, ?_⟩
                                      have p74 : 0 ≤ (x16_5 : Int) := of_decide_eq_true as_
                                      have q74 : (x16_5 : Int) < (((rd_L5 x13_6 x15_4).length : Int) : Int) := of_decide_eq_true as_
                                      obtain ⟨go74, co74, eo74, gb74, gl74, cl74, HG74⟩ := Kd.R_form HL453_0.out (by omega)
                                      (first | cases eo74 | (injection eo74 with ea_ en_ ec_; (first | subst ea_ | (injection ea_ with ea_; subst ea_)); subst ec_; clear en_))
                                      have GB74 := Aside0.mk gb74
                                      have GG74 := Aside0.mk HG74
                                      clear gb74 gl74 HG74
                                      (first | simp only [add_plain] at hx455_0 | skip)
                                      obtain ⟨hx74_0, hf74_0⟩ := Kd.R_celln false HL453_0.out (x16_5 : Int) p74 q74
                                      replace p74 := eq_true p74
                                      replace q74 := eq_true q74
                                      have hq76 : (x15_4 : Int) < (x13_6.length : Int) := (by have h_ : (x15_4 : Int) < ((x13_6.length : Int) : Int) := of_decide_eq_true as_; first | exact h_ | (have e_ := (Kd.S_reads' HO_13.out).1; omega) | simpa only [List.length_set, List.length_set] using h_)
                                      obtain ⟨oki76, ce76, hcl76, hM76, hcc76, hok76, hbk76⟩ := Kd.S_borrow HO_13.out [] (x15_4 : Int) (of_decide_eq_true as_) hq76
                                      obtain ⟨ve76_0, rfl, ge76_0⟩ := hM76
                                      have hv76 := hcc76 0 _ rfl
                                      rw [Nat.add_zero, show ((Kd.slice 4 Kd.bool)).sz = 1 from rfl, Nat.mul_one] at hv76
                                      replace hv76 := Option.some.inj (hv76.symm.trans HX453_0.out)
                                      subst hv76
                                      clear hcc76 hcl76
                                      replace ge76_0 := (show Kd.R Kd.bool 4 _ _ _ _ (rd_L5 x13_6 x15_4) from ge76_0)
                                      have HP76 := Kd.R_putg ge76_0 (x16_5 : Int) t461
                                      rw [← Ny462.out] at HP76
                                      have HS76 := hbk76 HP76.2 (fun k_ e_ => by injection e_ with e_; subst e_; exact ge76_0.1 _ rfl) (x' := y462) (Kd.M_row HP76.1)
                                      rw [← Ny464.out] at HS76
                                      have HQ76 := Aside0.mk HS76
                                      clear HP76 HS76 hbk76 hok76
                                      refine hK.out _ _ ⟨hHeld.1, hHeld.2.1, hHeld.2.2.1, hHeld.2.2.2.1, hHeld.2.2.2.2⟩ (fun hHeld => ?_)
                                      clear hK K
                                      refine norm_ (a' := ?_) ?_ ?_
                                      rotate_left
                                      ·show Act.put _ (some 120) _ = _
                                       simp only [Act.put, List.setIfInBounds_toArray, List.set_cons_zero, List.set_cons_succ, i64_w, i32_w]
                                       rfl
                                      refine pure_ (i := 28) (N := some 121) (v := ?_) (a' := ?_) #[true, true, true, true, true, true, true, true, true, true, true, true, true, true, true, true, true, true, true, true, true, true, true, true, true, true, true, true, true, false, false, false] rfl rfl (any_of HT_.out (by kernel_rfl)) (fun _ _ _ h => h) (Or.inl ⟨by rfl, ?_⟩) ?_ ?_
                                      rotate_left
                                      ·intro w'
                                       go_simp
                                       with_reducible rfl
                                      rotate_left
                                      ·simp only [Act.put, List.setIfInBounds_toArray, List.set_cons_zero, List.set_cons_succ, i64_w, i32_w]
                                       rfl
                                      refine pure_ (i := 29) (N := some 122) (v := ?_) (a' := ?_) #[true, true, true, true, true, true, true, true, true, true, true, true, true, true, true, true, true, true, true, true, true, true, true, true, true, true, true, true, true, true, false, false] rfl rfl (any_of HT_.out (by kernel_rfl)) (fun _ _ _ h => h) (Or.inl ⟨by rfl, ?_⟩) ?_ ?_
                                      rotate_left
                                      ·intro w'
                                       go_simp
                                       with_reducible rfl
                                      rotate_left
                                      ·simp only [Act.put, List.setIfInBounds_toArray, List.set_cons_zero, List.set_cons_succ, i64_w, i32_w]
                                       rfl
                                      refine pure_ (i := 30) (N := some 123) (v := ?_) (a' := ?_) #[true, true, true, true, true, true, true, true, true, true, true, true, true, true, true, true, true, true, true, true, true, true, true, true, true, true, true, true, true, true, true, false] rfl rfl (any_of HT_.out (by kernel_rfl)) (fun _ _ _ h => h) (Or.inl ⟨by rfl, ?_⟩) ?_ ?_
                                      rotate_left
                                      ·intro w'
                                       go_simp
                                       with_reducible rfl
                                      rotate_left
                                      ·simp only [Act.put, List.setIfInBounds_toArray, List.set_cons_zero, List.set_cons_succ, i64_w, i32_w]
                                       rfl
                                      refine last_ (i := 31) (N := none) #[true, true, true, true, true, true, true, true, true, true, true, true, true, true, true, true, true, true, true, true, true, true, true, true, true, true, true, true, true, true, true, true] rfl rfl (one_of HT_.out (by kernel_rfl)) (by decide) (fun K hK => ?_)
                                      refine skip_ (w1 := ?_) (by rfl) rfl ?_ ?_
                                      rotate_left
                                      ·go_simp
                                       rfl
                                      refine hK.out _ _ ?_
                                      clear hK K
                                      refine done_ (done_of HT_.out (by kernel_rfl)) ?_
                                      try go_wp2
                                      (try simp only [← hl13_6])
                                      go_roundg k6
                                      case measure => have := HJ4.out; have := HK2.out; have := HK3.out; have := HK4.out; have := HK5.out; have := HK6.out; omega
                                      case rel => exact ⟨(y464), (wrap64 (x89_6 + 1)), es_, H', ⟨by have := HJ4.out; have := HK2.out; have := HK3.out; have := HK4.out; have := HK5.out; have := HK6.out; omega⟩, ⟨by (try simp only [hl13_3]); (try simp only [hl13_4]); (try simp only [hl13_5]); (try simp only [hl13_6]); (with_reducible repeat (first | apply Kd.S_alloc | apply Kd.S_drewN | apply Kd.S_drew)); exact HQ76.out⟩, ⟨by (try simp only [hl13_3]); (try simp only [hl13_4]); (try simp only [hl13_5]); (try simp only [hl13_6]); (with_reducible repeat (first | apply Kd.R_alloc | apply Kd.R_drewN | apply Kd.R_drew)); exact Kd.R_mono (Kd.R_far (p := ⟨go74, (x16_5 : Int).toNat, none⟩) (Kd.R_types HO_87.out GG74.out (by decide)) (fun _ hk => hk.2) (.bool t461)) (fun _ hk => trivial)⟩, ⟨by (try simp only [hl13_3]); (try simp only [hl13_4]); (try simp only [hl13_5]); (try simp only [hl13_6]); (with_reducible repeat (first | refine blk_drewN ?_ _ | refine blk_drew ?_ | refine blk_alloc ?_ _)); refine blk_far ?_ (by have h_ := Kd.R_ne HL453_0.out BK434.out (by decide); intro e_; exact h_ (by rw [e_]; rfl)) _; (with_reducible repeat (first | refine blk_drewN ?_ _ | refine blk_drew ?_ | refine blk_alloc ?_ _)); exact BK434.out⟩, ⟨by (try simp only [hl13_3]); (try simp only [hl13_4]); (try simp only [hl13_5]); (try simp only [hl13_6]); (with_reducible repeat (first | refine blk_drewN ?_ _ | refine blk_drew ?_ | refine blk_alloc ?_ _)); refine blk_far ?_ (by have h_ := Kd.R_ne HL453_0.out BK435.out (by decide); intro e_; exact h_ (by rw [e_]; rfl)) _; (with_reducible repeat (first | refine blk_drewN ?_ _ | refine blk_drew ?_ | refine blk_alloc ?_ _)); exact BK435.out⟩, ⟨by repeat (first | (with_reducible first | exact HB.out | apply below_alloc | apply pw_below_drewN | apply below_drew1 | refine below_set ?_ GB74.out | refine below_set ?_ GE434.out | refine below_set ?_ GE435.out) | exact HB.out)⟩⟩
                                     ·replace c72 := Bool.eq_false_iff.mpr c72
                                      subst c72
                                      rw [if_neg (show ¬ (false = true) by decide)] at H
                                      obtain ⟨y465, hy465⟩ : ∃ y_ : List Bool, y_ = ((rd_L5 x13_6 x15_4).set (x16_5 : Int).toNat false) := ⟨_, rfl⟩
                                      replace H : (spec_l20Path.l5 k6 l2 a3 (l0_1.length : Int) x12_2 (x13_6.set (x15_4 : Int).toNat y465) x15_4 x16_5 t449 (t449.length : Int) (wrap64 (x89_6 + 1)) a0_0 l0_1 a1_0 a1_1) = some (r1, r2) := by first | (rw [hy465]; with_reducible exact H) | (have H2_ := (Option.bind_some _ _).symm.trans H; rw [hy465]; with_reducible exact H2_) | (have H2_ := (Option.bind_some _ _).symm.trans H; with_reducible exact H2_) | with_reducible exact H | (rw [hy465]; exact H) | exact H
                                      have Ny465 := Aside0.mk hy465
                                      clear hy465
                                      obtain ⟨y467, hy467⟩ : ∃ y_ : List (List Bool), y_ = (x13_6.set (x15_4 : Int).toNat y465) := ⟨_, rfl⟩
                                      replace H : (spec_l20Path.l5 k6 l2 a3 (l0_1.length : Int) x12_2 y467 x15_4 x16_5 t449 (t449.length : Int) (wrap64 (x89_6 + 1)) a0_0 l0_1 a1_0 a1_1) = some (r1, r2) := by first | (rw [hy467]; with_reducible exact H) | (have H2_ := (Option.bind_some _ _).symm.trans H; rw [hy467]; with_reducible exact H2_) | (have H2_ := (Option.bind_some _ _).symm.trans H; with_reducible exact H2_) | with_reducible exact H | (rw [hy467]; exact H) | exact H
                                      have Ny467 := Aside0.mk hy467
                                      clear hy467
                                      have H' := Aside0.mk H
                                      clear H
                                      have p452 : 0 ≤ (x89_6 : Int) := of_decide_eq_true as_
                                      have q452 : x89_6 < (t449.length : Int) := of_decide_eq_true as_
                                      obtain ⟨ad452, e452, hx452_0⟩ := Kd.at_int (Kd.R_reads' HO_87.out).2.2 x89_6 p452 q452
                                      cases e452
                                      replace p452 := eq_true p452
                                      replace q452 := eq_true q452
                                      try go_wp2
                                      have n0_ := Aside0.mk (Kd.S_drew HO_13.out)
                                      have n1_ := Aside0.mk (Kd.R_drew HO_87.out)
                                      have n2_ := Aside0.mk (blk_drew BK434.out)
                                      have n3_ := Aside0.mk (blk_drew BK435.out)
                                      have n4_ := Aside0.mk (below_drew1 HB.out)
                                      clear HO_13
                                      clear HO_87
                                      clear BK434
                                      clear BK435
                                      clear HB
                                      have HO_13 := n0_
                                      have HO_87 := n1_
                                      have BK434 := n2_
                                      have BK435 := n3_
                                      have HB := n4_
                                      clear n0_ n1_ n2_ n3_ n4_
                                      have p453 : 0 ≤ (x15_4 : Int) := of_decide_eq_true as_
                                      have q453 : x15_4 < (x13_6.length : Int) := of_decide_eq_true as_
                                      obtain ⟨ad453, A453_0, c453_0, e453, hx453_0, hl453_0, hi453_0⟩ := at_L5 (Kd.S_reads' HO_13.out).2.2 x15_4 p453 q453
                                      obtain rfl : ad444 = ad453 := (by injection e453)
                                      obtain ⟨ce453, hce453, hMe453, hcc453⟩ := Kd.S_get HO_13.out [] x15_4 p453 (by first | exact q453 | exact of_decide_eq_true as_ | (have e_ := (Kd.S_reads' HO_13.out).1; omega))
                                      obtain ⟨ve453_0, rfl, ge453_0⟩ := hMe453
                                      have hv453_0 := hcc453 0 _ rfl
                                      rw [Nat.add_zero, show ((Kd.slice 4 Kd.bool)).sz = 1 from rfl, Nat.mul_one] at hv453_0
                                      replace hv453_0 := Option.some.inj (hv453_0.symm.trans hx453_0)
                                      rw [hv453_0] at ge453_0
                                      have HL453_0 := Aside0.mk (show Kd.R Kd.bool 4 _ _ _ _ (rd_L5 x13_6 x15_4) from ge453_0)
                                      clear hv453_0 ge453_0
                                      have HX453_0 := Aside0.mk hx453_0
                                      clear hcc453 hce453
                                      have HR453_0 := Aside0.mk hi453_0
                                      have HC453_0 := Aside0.mk hl453_0
                                      clear hi453_0 hl453_0
                                      replace p453 := eq_true p453
                                      replace q453 := eq_true q453
                                      have p454 : 0 ≤ (x15_4 : Int) := of_decide_eq_true as_
                                      have q454 : x15_4 < (x13_6.length : Int) := of_decide_eq_true as_
                                      obtain ⟨ad454, A454_0, c454_0, e454, hx454_0, hl454_0, hi454_0⟩ := at_L5 (Kd.S_reads' HO_13.out).2.2 x15_4 p454 q454
                                      obtain rfl : ad444 = ad454 := (by injection e454)
                                      obtain ⟨ce454, hce454, hMe454, hcc454⟩ := Kd.S_get HO_13.out [] x15_4 p454 (by first | exact q454 | exact of_decide_eq_true as_ | (have e_ := (Kd.S_reads' HO_13.out).1; omega))
                                      obtain ⟨ve454_0, rfl, ge454_0⟩ := hMe454
                                      have hv454_0 := hcc454 0 _ rfl
                                      rw [Nat.add_zero, show ((Kd.slice 4 Kd.bool)).sz = 1 from rfl, Nat.mul_one] at hv454_0
                                      replace hv454_0 := Option.some.inj (hv454_0.symm.trans hx454_0)
                                      rw [hv454_0] at ge454_0
                                      have HL454_0 := Aside0.mk (show Kd.R Kd.bool 4 _ _ _ _ (rd_L5 x13_6 x15_4) from ge454_0)
                                      clear hv454_0 ge454_0
                                      have HX454_0 := Aside0.mk hx454_0
                                      clear hcc454 hce454
                                      have HR454_0 := Aside0.mk hi454_0
                                      have HC454_0 := Aside0.mk hl454_0
                                      clear hi454_0 hl454_0
                                      replace p454 := eq_true p454
                                      replace q454 := eq_true q454
                                      have ea_ := Option.some.inj (hx453_0.symm.trans hx454_0)
                                      injection ea_ with ea_ en_ ec_
                                      subst ea_
                                      subst ec_
                                      clear en_
                                      have p455 : 0 ≤ (x16_5 : Int) := of_decide_eq_true as_
                                      have q455 : x16_5 < ((rd_L5 x13_6 x15_4).length : Int) := of_decide_eq_true as_
                                      obtain ⟨ad455, e455, hx455_0⟩ := Kd.at_bool (by repeat (first | (with_reducible exact HR454_0.out) | (with_reducible refine Kd.C_alloc ?_ _) | (with_reducible refine Kd.C_drewN ?_ _) | (with_reducible refine Kd.C_drew ?_) | exact HR454_0.out)) x16_5 p455 q455
                                      (try rw [← Nbq60.out] at hx455_0)
                                      (try rw [← Nbq71.out] at hx455_0)
                                      cases e455
                                      replace p455 := eq_true p455
                                      replace q455 := eq_true q455
                                      have p459 : 0 ≤ ((ji66) : Int) := of_decide_eq_true as_
                                      have q459 : (ji66) < (x13_6.length : Int) := of_decide_eq_true as_
                                      obtain ⟨ad459, A459_0, c459_0, e459, hx459_0, hl459_0, hi459_0⟩ := at_L5 (Kd.S_reads' HO_13.out).2.2 (ji66) p459 q459
                                      obtain rfl : ad444 = ad459 := (by injection e459)
                                      obtain ⟨ce459, hce459, hMe459, hcc459⟩ := Kd.S_get HO_13.out [] (ji66) p459 (by first | exact q459 | exact of_decide_eq_true as_ | (have e_ := (Kd.S_reads' HO_13.out).1; omega))
                                      obtain ⟨ve459_0, rfl, ge459_0⟩ := hMe459
                                      have hv459_0 := hcc459 0 _ rfl
                                      rw [Nat.add_zero, show ((Kd.slice 4 Kd.bool)).sz = 1 from rfl, Nat.mul_one] at hv459_0
                                      replace hv459_0 := Option.some.inj (hv459_0.symm.trans hx459_0)
                                      rw [hv459_0] at ge459_0
                                      have HL459_0 := Aside0.mk (show Kd.R Kd.bool 4 _ _ _ _ (rd_L5 x13_6 (ji66)) from ge459_0)
                                      clear hv459_0 ge459_0
                                      have HX459_0 := Aside0.mk hx459_0
                                      clear hcc459 hce459
                                      have HR459_0 := Aside0.mk hi459_0
                                      have HC459_0 := Aside0.mk hl459_0
                                      clear hi459_0 hl459_0
                                      replace p459 := eq_true p459
                                      replace q459 := eq_true q459
                                      have p460 : 0 ≤ ((rd t449 x89_6) : Int) := of_decide_eq_true as_
                                      have q460 : (rd t449 x89_6) < ((rd_L5 x13_6 (ji66)).length : Int) := of_decide_eq_true as_
                                      obtain ⟨ad460, e460, hx460_0⟩ := Kd.at_bool (by repeat (first | (with_reducible exact HR459_0.out) | (with_reducible refine Kd.C_alloc ?_ _) | (with_reducible refine Kd.C_drewN ?_ _) | (with_reducible refine Kd.C_drew ?_) | exact HR459_0.out)) (rd t449 x89_6) p460 q460
                                      (try rw [← Nbq60.out] at hx460_0)
                                      (try rw [← Nbq71.out] at hx460_0)
                                      cases e460
                                      replace p460 := eq_true p460
                                      replace q460 := eq_true q460
                                      have p78 : 0 ≤ (x16_5 : Int) := of_decide_eq_true as_
                                      have q78 : (x16_5 : Int) < (((rd_L5 x13_6 x15_4).length : Int) : Int) := of_decide_eq_true as_
                                      obtain ⟨go78, co78, eo78, gb78, gl78, cl78, HG78⟩ := Kd.R_form HL453_0.out (by omega)
                                      (first | cases eo78 | (injection eo78 with ea_ en_ ec_; (first | subst ea_ | (injection ea_ with ea_; subst ea_)); subst ec_; clear en_))
                                      have GB78 := Aside0.mk gb78
                                      have GG78 := Aside0.mk HG78
                                      clear gb78 gl78 HG78
                                      (first | simp only [add_plain] at hx455_0 | skip)
                                      obtain ⟨hx78_0, hf78_0⟩ := Kd.R_celln false HL453_0.out (x16_5 : Int) p78 q78
                                      replace p78 := eq_true p78
                                      replace q78 := eq_true q78
                                      have hq80 : (x15_4 : Int) < (x13_6.length : Int) := (by have h_ : (x15_4 : Int) < ((x13_6.length : Int) : Int) := of_decide_eq_true as_; first | exact h_ | (have e_ := (Kd.S_reads' HO_13.out).1; omega) | simpa only [List.length_set, List.length_set] using h_)
                                      obtain ⟨oki80, ce80, hcl80, hM80, hcc80, hok80, hbk80⟩ := Kd.S_borrow HO_13.out [] (x15_4 : Int) (of_decide_eq_true as_) hq80
                                      obtain ⟨ve80_0, rfl, ge80_0⟩ := hM80
                                      have hv80 := hcc80 0 _ rfl
                                      rw [Nat.add_zero, show ((Kd.slice 4 Kd.bool)).sz = 1 from rfl, Nat.mul_one] at hv80
                                      replace hv80 := Option.some.inj (hv80.symm.trans HX453_0.out)
                                      subst hv80
                                      clear hcc80 hcl80
                                      replace ge80_0 := (show Kd.R Kd.bool 4 _ _ _ _ (rd_L5 x13_6 x15_4) from ge80_0)
                                      have HP80 := Kd.R_putg ge80_0 (x16_5 : Int) false
                                      rw [← Ny465.out] at HP80
                                      have HS80 := hbk80 HP80.2 (fun k_ e_ => by injection e_ with e_; subst e_; exact ge80_0.1 _ rfl) (x' := y465) (Kd.M_row HP80.1)
                                      rw [← Ny467.out] at HS80
                                      have HQ80 := Aside0.mk HS80
                                      clear HP80 HS80 hbk80 hok80
                                      refine start_ (n := 32) (S := fun w' => w'.cell? (ad444.add (x15_4).toNat) = some (.slice (some ⟨go78, 0, none⟩) (rd_L5 x13_6 x15_4).length c453_0) ∧ w'.cell? (ad444.add (x15_4).toNat) = some (.slice (some ⟨go78, 0, none⟩) (rd_L5 x13_6 x15_4).length c453_0) ∧ w'.cell? ⟨go78, (x16_5).toNat, none⟩ = some (.bool false) ∧ w'.cell? (ad444.add ((ji66)).toNat) = some (.slice (some ad460) (rd_L5 x13_6 (ji66)).length c459_0) ∧ w'.cell? (ad460.add ((rd t449 x89_6)).toNat) = some (.bool false)) (ds := [31]) #[false, false, false, false, false, false, false, false, false, false, false, false, false, false, false, false, false, false, false, false, false, false, false, false, false, false, false, false, false, false, false, false] (by kernel_rfl) rfl rfl ⟨hx453_0, hx454_0, hx455_0, hx459_0, hx460_0⟩ (fun hHeld => ?_); refine with_tabW spec_l20Path.tab25 spec_l20Path.bits25 (fun HT_ HW_ => ?_)
                                      generalize wr.drew = w79 at HO_13 HO_87 BK434 BK435 HB GG78 HL453_0 HL454_0 HL459_0 HQ80 HR453_0 HR454_0 HR459_0 HX453_0 HX454_0 HX459_0 hf78_0 hx453_0 hx454_0 hx455_0 hx459_0 hx460_0 hx78_0 hHeld ⊢
                                      refine pure_ (i := 0) (N := some 93) (v := ?_) (a' := ?_) #[true, false, false, false, false, false, false, false, false, false, false, false, false, false, false, false, false, false, false, false, false, false, false, false, false, false, false, false, false, false, false, false] rfl rfl (any_of HT_.out (by kernel_rfl)) (fun _ _ _ h => h) (Or.inl ⟨by rfl, ?_⟩) ?_ ?_
                                      rotate_left
                                      ·intro w'
                                       go_simp
                                       with_reducible rfl
                                      rotate_left
                                      ·simp only [Act.put, List.setIfInBounds_toArray, List.set_cons_zero, List.set_cons_succ, i64_w, i32_w]
                                       rfl
                                      refine pure_ (i := 1) (N := some 94) (v := ?_) (a' := ?_) #[true, true, false, false, false, false, false, false, false, false, false, false, false, false, false, false, false, false, false, false, false, false, false, false, false, false, false, false, false, false, false, false] rfl rfl (any_of HT_.out (by kernel_rfl)) (fun _ _ _ h => h) (Or.inl ⟨by rfl, ?_⟩) ?_ ?_
                                      rotate_left
                                      ·intro w'
                                       go_simp
                                       with_reducible rfl
                                      rotate_left
                                      ·simp only [Act.put, List.setIfInBounds_toArray, List.set_cons_zero, List.set_cons_succ, i64_w, i32_w]
                                       rfl
                                      refine pure_ (i := 2) (N := some 95) (v := ?_) (a' := ?_) #[true, true, true, false, false, false, false, false, false, false, false, false, false, false, false, false, false, false, false, false, false, false, false, false, false, false, false, false, false, false, false, false] rfl rfl (any_of HT_.out (by kernel_rfl)) (fun _ _ _ h => h) (Or.inl ⟨by rfl, ?_⟩) ?_ ?_
                                      rotate_left
                                      ·intro w'
                                       go_simp
                                       with_reducible rfl
                                      rotate_left
                                      ·simp only [Act.put, List.setIfInBounds_toArray, List.set_cons_zero, List.set_cons_succ, i64_w, i32_w]
                                       rfl
                                      refine pure_ (i := 4) (N := some 97) (v := ?_) (a' := ?_) #[true, true, true, false, true, false, false, false, false, false, false, false, false, false, false, false, false, false, false, false, false, false, false, false, false, false, false, false, false, false, false, false] rfl rfl (any_of HT_.out (by kernel_rfl)) (fun _ _ _ h => h) (Or.inl ⟨by rfl, ?_⟩) ?_ ?_
                                      rotate_left
                                      ·intro w'
                                       go_simp
                                       with_reducible rfl
                                      rotate_left
                                      ·simp only [Act.put, List.setIfInBounds_toArray, List.set_cons_zero, List.set_cons_succ, i64_w, i32_w]
                                       rfl
                                      refine pure_ (i := 5) (N := some 98) (v := ?_) (a' := ?_) #[true, true, true, false, true, true, false, false, false, false, false, false, false, false, false, false, false, false, false, false, false, false, false, false, false, false, false, false, false, false, false, false] rfl rfl (any_of HT_.out (by kernel_rfl)) (fun _ _ _ h => h) (Or.inl ⟨by rfl, ?_⟩) ?_ ?_
                                      rotate_left
                                      ·intro w'
                                       go_simp
                                       with_reducible rfl
                                      rotate_left
                                      ·simp only [Act.put, List.setIfInBounds_toArray, List.set_cons_zero, List.set_cons_succ, i64_w, i32_w]
                                       rfl
                                      refine pure_ (i := 6) (N := some 99) (v := ?_) (a' := ?_) #[true, true, true, false, true, true, true, false, false, false, false, false, false, false, false, false, false, false, false, false, false, false, false, false, false, false, false, false, false, false, false, false] rfl rfl (any_of HT_.out (by kernel_rfl)) (fun _ _ _ h => h) (Or.inl ⟨by rfl, ?_⟩) ?_ ?_
                                      rotate_left
                                      ·intro w'
                                       go_simp
                                       with_reducible rfl
                                      rotate_left
                                      ·simp only [Act.put, List.setIfInBounds_toArray, List.set_cons_zero, List.set_cons_succ, i64_w, i32_w]
                                       rfl
                                      refine pure_ (i := 7) (N := some 100) (v := ?_) (a' := ?_) #[true, true, true, false, true, true, true, true, false, false, false, false, false, false, false, false, false, false, false, false, false, false, false, false, false, false, false, false, false, false, false, false] rfl rfl (any_of HT_.out (by kernel_rfl)) (fun _ _ _ h => h) (Or.inl ⟨by rfl, ?_⟩) ?_ ?_
                                      rotate_left
                                      ·intro w'
                                       go_simp
                                       with_reducible rfl
                                      rotate_left
                                      ·simp only [Act.put, List.setIfInBounds_toArray, List.set_cons_zero, List.set_cons_succ, i64_w, i32_w]
                                       rfl
                                      refine pure_ (i := 9) (N := some 102) (v := ?_) (a' := ?_) #[true, true, true, false, true, true, true, true, false, true, false, false, false, false, false, false, false, false, false, false, false, false, false, false, false, false, false, false, false, false, false, false] rfl rfl (any_of HT_.out (by kernel_rfl)) (fun _ _ _ h => h) (Or.inl ⟨by rfl, ?_⟩) ?_ ?_
                                      rotate_left
                                      ·intro w'
                                       go_simp
                                       with_reducible rfl
                                      rotate_left
                                      ·simp only [Act.put, List.setIfInBounds_toArray, List.set_cons_zero, List.set_cons_succ, i64_w, i32_w]
                                       rfl
                                      refine take_ (i := 3) (N := some 96) (v := ?_) (a' := ?_) #[true, true, true, true, true, true, true, true, false, true, false, false, false, false, false, false, false, false, false, false, false, false, false, false, false, false, false, false, false, false, false, false] rfl rfl (take_ofW HT_.out HW_.out (by kernel_rfl)) (fun _ _ _ h => h) (Or.inl ⟨by rfl, ?_⟩) hHeld ?_ ?_
                                      rotate_left
                                      ·rintro w' ⟨s0, s1, s2, s3, s4⟩
                                       go_simp
                                       with_reducible rfl
                                      rotate_left
                                      ·simp only [Act.put, List.setIfInBounds_toArray, List.set_cons_zero, List.set_cons_succ, i64_w, i32_w]
                                       rfl
                                      refine take_ (i := 8) (N := some 101) (v := ?_) (a' := ?_) #[true, true, true, true, true, true, true, true, true, true, false, false, false, false, false, false, false, false, false, false, false, false, false, false, false, false, false, false, false, false, false, false] rfl rfl (take_ofW HT_.out HW_.out (by kernel_rfl)) (fun _ _ _ h => h) (Or.inl ⟨by rfl, ?_⟩) hHeld ?_ ?_
                                      rotate_left
                                      ·rintro w' ⟨s0, s1, s2, s3, s4⟩
                                       go_simp
                                       with_reducible rfl
                                      rotate_left
                                      ·simp only [Act.put, List.setIfInBounds_toArray, List.set_cons_zero, List.set_cons_succ, i64_w, i32_w]
                                       rfl
                                      refine pure_ (i := 10) (N := some 103) (v := ?_) (a' := ?_) #[true, true, true, true, true, true, true, true, true, true, true, false, false, false, false, false, false, false, false, false, false, false, false, false, false, false, false, false, false, false, false, false] rfl rfl (any_of HT_.out (by kernel_rfl)) (fun _ _ _ h => h) (Or.inl ⟨by rfl, ?_⟩) ?_ ?_
                                      rotate_left
                                      ·intro w'
                                       go_simp
                                       with_reducible rfl
                                      rotate_left
                                      ·simp only [Act.put, List.setIfInBounds_toArray, List.set_cons_zero, List.set_cons_succ, i64_w, i32_w]
                                       rfl
                                      refine take_ (i := 11) (N := some 104) (v := ?_) (a' := ?_) #[true, true, true, true, true, true, true, true, true, true, true, true, false, false, false, false, false, false, false, false, false, false, false, false, false, false, false, false, false, false, false, false] rfl rfl (take_ofW HT_.out HW_.out (by kernel_rfl)) (fun _ _ _ h => h) (Or.inl ⟨by rfl, ?_⟩) hHeld ?_ ?_
                                      rotate_left
                                      ·rintro w' ⟨s0, s1, s2, s3, s4⟩
                                       go_simp
                                       with_reducible rfl
                                      rotate_left
                                      ·simp only [Act.put, List.setIfInBounds_toArray, List.set_cons_zero, List.set_cons_succ, i64_w, i32_w]
                                       rfl
                                      refine pure_ (i := 12) (N := some 105) (v := ?_) (a' := ?_) #[true, true, true, true, true, true, true, true, true, true, true, true, true, false, false, false, false, false, false, false, false, false, false, false, false, false, false, false, false, false, false, false] rfl rfl (any_of HT_.out (by kernel_rfl)) (fun _ _ _ h => h) (Or.inl ⟨by rfl, ?_⟩) ?_ ?_
                                      rotate_left
                                      ·intro w'
                                       go_simp
                                       with_reducible rfl
                                      rotate_left
                                      ·simp only [Act.put, List.setIfInBounds_toArray, List.set_cons_zero, List.set_cons_succ, i64_w, i32_w]
                                       rfl
                                      refine pure_ (i := 13) (N := some 106) (v := ?_) (a' := ?_) #[true, true, true, true, true, true, true, true, true, true, true, true, true, true, false, false, false, false, false, false, false, false, false, false, false, false, false, false, false, false, false, false] rfl rfl (any_of HT_.out (by kernel_rfl)) (fun _ _ _ h => h) (Or.inl ⟨by rfl, ?_⟩) ?_ ?_
                                      rotate_left
                                      ·intro w'
                                       go_simp
                                       with_reducible rfl
                                      rotate_left
                                      ·simp only [Act.put, List.setIfInBounds_toArray, List.set_cons_zero, List.set_cons_succ, i64_w, i32_w]
                                       rfl
                                      refine pure_ (i := 14) (N := some 107) (v := ?_) (a' := ?_) #[true, true, true, true, true, true, true, true, true, true, true, true, true, true, true, false, false, false, false, false, false, false, false, false, false, false, false, false, false, false, false, false] rfl rfl (any_of HT_.out (by kernel_rfl)) (fun _ _ _ h => h) (Or.inl ⟨by rfl, ?_⟩) ?_ ?_
                                      rotate_left
                                      ·intro w'
                                       go_simp
                                       with_reducible rfl
                                      rotate_left
                                      ·simp only [Act.put, List.setIfInBounds_toArray, List.set_cons_zero, List.set_cons_succ, i64_w, i32_w]
                                       rfl
                                      refine pure_ (i := 15) (N := some 108) (v := ?_) (a' := ?_) #[true, true, true, true, true, true, true, true, true, true, true, true, true, true, true, true, false, false, false, false, false, false, false, false, false, false, false, false, false, false, false, false] rfl rfl (any_of HT_.out (by kernel_rfl)) (fun _ _ _ h => h) (Or.inl ⟨by rfl, ?_⟩) ?_ ?_
                                      rotate_left
                                      ·intro w'
                                       go_simp
                                       with_reducible rfl
                                      rotate_left
                                      ·simp only [Act.put, List.setIfInBounds_toArray, List.set_cons_zero, List.set_cons_succ, i64_w, i32_w]
                                       rfl
                                      refine pure_ (i := 16) (N := some 109) (v := ?_) (a' := ?_) #[true, true, true, true, true, true, true, true, true, true, true, true, true, true, true, true, true, false, false, false, false, false, false, false, false, false, false, false, false, false, false, false] rfl rfl (any_of HT_.out (by kernel_rfl)) (fun _ _ _ h => h) (Or.inl ⟨by rfl, ?_⟩) ?_ ?_
                                      rotate_left
                                      ·intro w'
                                       go_simp
                                       with_reducible rfl
                                      rotate_left
                                      ·simp only [Act.put, List.setIfInBounds_toArray, List.set_cons_zero, List.set_cons_succ, i64_w, i32_w]
                                       rfl
                                      refine pure_ (i := 18) (N := some 111) (v := ?_) (a' := ?_) #[true, true, true, true, true, true, true, true, true, true, true, true, true, true, true, true, true, false, true, false, false, false, false, false, false, false, false, false, false, false, false, false] rfl rfl (any_of HT_.out (by kernel_rfl)) (fun _ _ _ h => h) (Or.inl ⟨by rfl, ?_⟩) ?_ ?_
                                      rotate_left
                                      ·intro w'
                                       go_simp
                                       with_reducible rfl
                                      rotate_left
                                      ·simp only [Act.put, List.setIfInBounds_toArray, List.set_cons_zero, List.set_cons_succ, i64_w, i32_w]
                                       rfl
                                      refine take_ (i := 17) (N := some 110) (v := ?_) (a' := ?_) #[true, true, true, true, true, true, true, true, true, true, true, true, true, true, true, true, true, true, true, false, false, false, false, false, false, false, false, false, false, false, false, false] rfl rfl (take_ofW HT_.out HW_.out (by kernel_rfl)) (fun _ _ _ h => h) (Or.inl ⟨by rfl, ?_⟩) hHeld ?_ ?_
                                      rotate_left
                                      ·rintro w' ⟨s0, s1, s2, s3, s4⟩
                                       go_simp
                                       with_reducible rfl
                                      rotate_left
                                      ·simp only [Act.put, List.setIfInBounds_toArray, List.set_cons_zero, List.set_cons_succ, i64_w, i32_w]
                                       rfl
                                      refine pure_ (i := 19) (N := some 112) (v := ?_) (a' := ?_) #[true, true, true, true, true, true, true, true, true, true, true, true, true, true, true, true, true, true, true, true, false, false, false, false, false, false, false, false, false, false, false, false] rfl rfl (any_of HT_.out (by kernel_rfl)) (fun _ _ _ h => h) (Or.inl ⟨by rfl, ?_⟩) ?_ ?_
                                      rotate_left
                                      ·intro w'
                                       go_simp
                                       with_reducible rfl
                                      rotate_left
                                      ·simp only [Act.put, List.setIfInBounds_toArray, List.set_cons_zero, List.set_cons_succ, i64_w, i32_w]
                                       rfl
                                      refine take_ (i := 20) (N := some 113) (v := ?_) (a' := ?_) #[true, true, true, true, true, true, true, true, true, true, true, true, true, true, true, true, true, true, true, true, true, false, false, false, false, false, false, false, false, false, false, false] rfl rfl (take_ofW HT_.out HW_.out (by kernel_rfl)) (fun _ _ _ h => h) (Or.inl ⟨by rfl, ?_⟩) hHeld ?_ ?_
                                      rotate_left
                                      ·rintro w' ⟨s0, s1, s2, s3, s4⟩
                                       go_simp
                                       with_reducible rfl
                                      rotate_left
                                      ·simp only [Act.put, List.setIfInBounds_toArray, List.set_cons_zero, List.set_cons_succ, i64_w, i32_w]
                                       rfl
                                      refine pure_ (i := 21) (N := some 114) (v := ?_) (a' := ?_) #[true, true, true, true, true, true, true, true, true, true, true, true, true, true, true, true, true, true, true, true, true, true, false, false, false, false, false, false, false, false, false, false] rfl rfl (any_of HT_.out (by kernel_rfl)) (fun _ _ _ h => h) (Or.inl ⟨by rfl, ?_⟩) ?_ ?_
                                      rotate_left
                                      ·intro w'
                                       go_simp
                                       with_reducible rfl
                                      rotate_left
                                      ·simp only [Act.put, List.setIfInBounds_toArray, List.set_cons_zero, List.set_cons_succ, i64_w, i32_w]
                                       rfl
                                      refine pure_ (i := 22) (N := some 115) (v := undef) (a' := ?_) #[true, true, true, true, true, true, true, true, true, true, true, true, true, true, true, true, true, true, true, true, true, true, true, false, false, false, false, false, false, false, false, false] rfl rfl (any_of HT_.out (by kernel_rfl)) (fun _ _ _ h => h) (Or.inr ⟨by rfl, rfl⟩) ?_ ?_
                                      rotate_left
                                      ·simp only [Act.put, List.setIfInBounds_toArray, List.set_cons_zero, List.set_cons_succ, i64_w, i32_w]
                                       rfl
                                      refine pure_ (i := 23) (N := some 116) (v := undef) (a' := ?_) #[true, true, true, true, true, true, true, true, true, true, true, true, true, true, true, true, true, true, true, true, true, true, true, true, false, false, false, false, false, false, false, false] rfl rfl (any_of HT_.out (by kernel_rfl)) (fun _ _ _ h => h) (Or.inr ⟨by rfl, rfl⟩) ?_ ?_
                                      rotate_left
                                      ·simp only [Act.put, List.setIfInBounds_toArray, List.set_cons_zero, List.set_cons_succ, i64_w, i32_w]
                                       rfl
                                      refine pure_ (i := 24) (N := some 117) (v := undef) (a' := ?_) #[true, true, true, true, true, true, true, true, true, true, true, true, true, true, true, true, true, true, true, true, true, true, true, true, true, false, false, false, false, false, false, false] rfl rfl (any_of HT_.out (by kernel_rfl)) (fun _ _ _ h => h) (Or.inr ⟨by rfl, rfl⟩) ?_ ?_
                                      rotate_left
                                      ·simp only [Act.put, List.setIfInBounds_toArray, List.set_cons_zero, List.set_cons_succ, i64_w, i32_w]
                                       rfl
                                      refine pure_ (i := 25) (N := some 118) (v := undef) (a' := ?_) #[true, true, true, true, true, true, true, true, true, true, true, true, true, true, true, true, true, true, true, true, true, true, true, true, true, true, false, false, false, false, false, false] rfl rfl (any_of HT_.out (by kernel_rfl)) (fun _ _ _ h => h) (Or.inr ⟨by rfl, rfl⟩) ?_ ?_
                                      rotate_left
                                      ·simp only [Act.put, List.setIfInBounds_toArray, List.set_cons_zero, List.set_cons_succ, i64_w, i32_w]
                                       rfl
                                      refine pure_ (i := 26) (N := some 119) (v := undef) (a' := ?_) #[true, true, true, true, true, true, true, true, true, true, true, true, true, true, true, true, true, true, true, true, true, true, true, true, true, true, true, false, false, false, false, false] rfl rfl (any_of HT_.out (by kernel_rfl)) (fun _ _ _ h => h) (Or.inr ⟨by rfl, rfl⟩) ?_ ?_
                                      rotate_left
                                      ·simp only [Act.put, List.setIfInBounds_toArray, List.set_cons_zero, List.set_cons_succ, i64_w, i32_w]
                                       rfl
                                      refine pure_ (i := 27) (N := some 120) (v := undef) (a' := ?_) #[true, true, true, true, true, true, true, true, true, true, true, true, true, true, true, true, true, true, true, true, true, true, true, true, true, true, true, true, false, false, false, false] rfl rfl (any_of HT_.out (by kernel_rfl)) (fun _ _ _ h => h) (Or.inr ⟨by rfl, rfl⟩) ?_ ?_
                                      rotate_left
                                      ·simp only [Act.put, List.setIfInBounds_toArray, List.set_cons_zero, List.set_cons_succ, i64_w, i32_w]
                                       rfl
                                      refine pure_ (i := 28) (N := some 121) (v := ?_) (a' := ?_) #[true, true, true, true, true, true, true, true, true, true, true, true, true, true, true, true, true, true, true, true, true, true, true, true, true, true, true, true, true, false, false, false] rfl rfl (any_of HT_.out (by kernel_rfl)) (fun _ _ _ h => h) (Or.inl ⟨by rfl, ?_⟩) ?_ ?_
                                      rotate_left
                                      ·intro w'
                                       go_simp
                                       with_reducible rfl
                                      rotate_left
                                      ·simp only [Act.put, List.setIfInBounds_toArray, List.set_cons_zero, List.set_cons_succ, i64_w, i32_w]
                                       rfl
                                      refine pure_ (i := 29) (N := some 122) (v := ?_) (a' := ?_) #[true, true, true, true, true, true, true, true, true, true, true, true, true, true, true, true, true, true, true, true, true, true, true, true, true, true, true, true, true, true, false, false] rfl rfl (any_of HT_.out (by kernel_rfl)) (fun _ _ _ h => h) (Or.inl ⟨by rfl, ?_⟩) ?_ ?_
                                      rotate_left
                                      ·intro w'
                                       go_simp
                                       with_reducible rfl
                                      rotate_left
                                      ·simp only [Act.put, List.setIfInBounds_toArray, List.set_cons_zero, List.set_cons_succ, i64_w, i32_w]
                                       rfl
                                      refine pure_ (i := 30) (N := some 123) (v := ?_) (a' := ?_) #[true, true, true, true, true, true, true, true, true, true, true, true, true, true, true, true, true, true, true, true, true, true, true, true, true, true, true, true, true, true, true, false] rfl rfl (any_of HT_.out (by kernel_rfl)) (fun _ _ _ h => h) (Or.inl ⟨by rfl, ?_⟩) ?_ ?_
                                      rotate_left
                                      ·intro w'
                                       go_simp
                                       with_reducible rfl
                                      rotate_left
                                      ·simp only [Act.put, List.setIfInBounds_toArray, List.set_cons_zero, List.set_cons_succ, i64_w, i32_w]
                                       rfl
                                      refine last_ (i := 31) (N := none) #[true, true, true, true, true, true, true, true, true, true, true, true, true, true, true, true, true, true, true, true, true, true, true, true, true, true, true, true, true, true, true, true] rfl rfl (one_of HT_.out (by kernel_rfl)) (by decide) (fun K hK => ?_)
                                      refine skip_ (w1 := ?_) (by rfl) rfl ?_ ?_
                                      rotate_left
                                      ·go_simp
                                       rfl
                                      refine hK.out _ _ ?_
                                      clear hK K
                                      refine done_ (done_of HT_.out (by kernel_rfl)) ?_
                                      try go_wp2
                                      (try simp only [← hl13_6])
                                      go_roundg k6
                                      case measure => have := HJ4.out; have := HK2.out; have := HK3.out; have := HK4.out; have := HK5.out; have := HK6.out; omega
                                      case rel => exact ⟨(y467), (wrap64 (x89_6 + 1)), es_, H', ⟨by have := HJ4.out; have := HK2.out; have := HK3.out; have := HK4.out; have := HK5.out; have := HK6.out; omega⟩, ⟨by (try simp only [hl13_3]); (try simp only [hl13_4]); (try simp only [hl13_5]); (try simp only [hl13_6]); (with_reducible repeat (first | apply Kd.S_alloc | apply Kd.S_drewN | apply Kd.S_drew)); exact HQ80.out⟩, ⟨by (try simp only [hl13_3]); (try simp only [hl13_4]); (try simp only [hl13_5]); (try simp only [hl13_6]); (with_reducible repeat (first | apply Kd.R_alloc | apply Kd.R_drewN | apply Kd.R_drew)); exact Kd.R_mono (Kd.R_far (p := ⟨go78, (x16_5 : Int).toNat, none⟩) (Kd.R_types HO_87.out GG78.out (by decide)) (fun _ hk => hk.2) (.bool false)) (fun _ hk => trivial)⟩, ⟨by (try simp only [hl13_3]); (try simp only [hl13_4]); (try simp only [hl13_5]); (try simp only [hl13_6]); (with_reducible repeat (first | refine blk_drewN ?_ _ | refine blk_drew ?_ | refine blk_alloc ?_ _)); refine blk_far ?_ (by have h_ := Kd.R_ne HL453_0.out BK434.out (by decide); intro e_; exact h_ (by rw [e_]; rfl)) _; (with_reducible repeat (first | refine blk_drewN ?_ _ | refine blk_drew ?_ | refine blk_alloc ?_ _)); exact BK434.out⟩, ⟨by (try simp only [hl13_3]); (try simp only [hl13_4]); (try simp only [hl13_5]); (try simp only [hl13_6]); (with_reducible repeat (first | refine blk_drewN ?_ _ | refine blk_drew ?_ | refine blk_alloc ?_ _)); refine blk_far ?_ (by have h_ := Kd.R_ne HL453_0.out BK435.out (by decide); intro e_; exact h_ (by rw [e_]; rfl)) _; (with_reducible repeat (first | refine blk_drewN ?_ _ | refine blk_drew ?_ | refine blk_alloc ?_ _)); exact BK435.out⟩, ⟨by repeat (first | (with_reducible first | exact HB.out | apply below_alloc | apply pw_below_drewN | apply below_drew1 | refine below_set ?_ GB78.out | refine below_set ?_ GE434.out | refine below_set ?_ GE435.out) | exact HB.out)⟩⟩
                                    ·rw [if_neg c70] at H
                                     exact absurd H (by simp)
                                   ·rw [if_neg c69] at H
                                    exact absurd H (by simp)
                                  ·rw [if_neg c68] at H
                                   exact absurd H (by simp)
                                 ·rw [if_neg c67] at H
                                  exact absurd H (by simp)
                               ·rw [if_neg c59] at H
                                exact absurd H (by simp)
                              ·rw [if_neg c58] at H
                               exact absurd H (by simp)
                             ·rw [if_neg c57] at H
                              exact absurd H (by simp)
                            ·rw [if_neg c56] at H
                             exact absurd H (by simp)
                           ·rw [if_neg c55] at H
                            exact absurd H (by simp)
                          ·rw [if_neg c54] at H
                           exact absurd H (by simp)
                         ·rw [if_neg c53] at H
                          have c53b0 : decide (x89_6 < (t449.length : Int)) = false := decide_eq_false c53
                          (try simp only [hl13_3] at c53b0)
                          (try simp only [hl13_4] at c53b0)
                          (try simp only [hl13_5] at c53b0)
                          (try simp only [hl13_6] at c53b0)
                          clear c53
                          have H' := Aside0.mk H
                          clear H
                          go_wp2
                          (try simp only [← hl13_5, ← hl13_6])
                          go_roundg k6
                          case measure => have := HJ4.out; have := HK2.out; have := HK3.out; have := HK4.out; have := HK5.out; have := HK6.out; omega
                          case rel => exact ⟨(x13_6), (wrap64 (x16_5 + 1)), es_, H', ⟨by have := HJ4.out; have := HK2.out; have := HK3.out; have := HK4.out; have := HK5.out; have := HK6.out; omega⟩, ⟨by (try simp only [hl13_3]); (try simp only [hl13_4]); (try simp only [hl13_5]); (try simp only [hl13_6]); (with_reducible repeat (first | apply Kd.S_alloc | apply Kd.S_drewN | apply Kd.S_drew)); exact HO_13.out⟩, ⟨by (try simp only [hl13_3]); (try simp only [hl13_4]); (try simp only [hl13_5]); (try simp only [hl13_6]); (with_reducible repeat (first | refine blk_drewN ?_ _ | refine blk_drew ?_ | refine blk_alloc ?_ _)); exact BK434.out⟩, ⟨by (try simp only [hl13_3]); (try simp only [hl13_4]); (try simp only [hl13_5]); (try simp only [hl13_6]); (with_reducible repeat (first | refine blk_drewN ?_ _ | refine blk_drew ?_ | refine blk_alloc ?_ _)); exact BK435.out⟩, ⟨hb_⟩⟩
                      ·replace c45 := Bool.eq_false_iff.mpr c45
                       subst c45
                       rw [if_neg (show ¬ (false = true) by decide)] at H
                       have H' := Aside0.mk H
                       clear H
                       have hnb82 := NB434_435.out
                       have hnc82 := NB435_434.out
                       have hcz83_0 : wr.cell? ⟨gb434, 0, none⟩ = some (.int .i64 a0_0) := (blk_cell BK434.out 0).trans rfl
                       have hcz83_1 : wr.cell? ⟨gb434, 1, none⟩ = some (.slice A0_1 l0_1.length c0_1) := (blk_cell BK434.out 1).trans rfl
                       have hfz83_0 := blk_frozen BK434.out 0
                       have hfz83_1 := blk_frozen BK434.out 1
                       go_wp2_with (first | ((with_reducible refine gate_callee (f := 53) rfl ?_); refine goesL_ (some 83) rfl rfl Try.func53 (by kernel_rfl) rfl #[.agg #[.int .i64 a0_0, .slice A0_1 l0_1.length c0_1], .int .i64 x16_5] rfl ls_ ?_; (with_reducible refine (spec_l12Free.calls a0_0 _ _ l0_1 x16_5 false _ ?side1 ?side2 A44.out).mono ?_); (case side1 => exact cb_ HR0_1.out); (case side2 => exact HC0_1.out); rintro e w84 ⟨rfl, hb⟩; refine ⟨_, rfl, ?_⟩; have n0_ := Aside0.mk (Kd.S_below (sa_ HO_13.out) hb); have n1_ := bb_ BK434 hb; have n2_ := bb_ BK435 hb; have n3_ := Aside0.mk (below_step hb_ hb); clear HO_13; clear BK434; clear BK435; clear HB; have HO_13 := n0_; have BK434 := n1_; have BK435 := n2_; have HB := n3_; clear n0_ n1_ n2_ n3_; (try clear hb); (try clear hb2); (try clear hk); (try clear hi)))
                       (try simp only [← hl13_5])
                       go_roundg k5
                       case measure => have := HJ4.out; have := HK2.out; have := HK3.out; have := HK4.out; have := HK5.out; omega
                       case rel => exact ⟨(x13_5), (wrap64 (x16_5 + 1)), es_, H', ⟨by have := HJ4.out; have := HK2.out; have := HK3.out; have := HK4.out; have := HK5.out; omega⟩, ⟨by (try simp only [hl13_3]); (try simp only [hl13_4]); (try simp only [hl13_5]); (with_reducible repeat (first | apply Kd.S_alloc | apply Kd.S_drewN | apply Kd.S_drew)); exact HO_13.out⟩, ⟨by (try simp only [hl13_3]); (try simp only [hl13_4]); (try simp only [hl13_5]); (with_reducible repeat (first | refine blk_drewN ?_ _ | refine blk_drew ?_ | refine blk_alloc ?_ _)); exact BK434.out⟩, ⟨by (try simp only [hl13_3]); (try simp only [hl13_4]); (try simp only [hl13_5]); (with_reducible repeat (first | refine blk_drewN ?_ _ | refine blk_drew ?_ | refine blk_alloc ?_ _)); exact BK435.out⟩, ⟨hb_⟩⟩
                     ·rw [if_neg c43] at H
                      have c43b0 : decide (x16_5 < (l0_1.length : Int)) = false := decide_eq_false c43
                      (try simp only [hl13_3] at c43b0)
                      (try simp only [hl13_4] at c43b0)
                      (try simp only [hl13_5] at c43b0)
                      clear c43
                      have H' := Aside0.mk H
                      clear H
                      go_wp2
                      (try simp only [← hl13_4, ← hl13_5])
                      go_roundg k5
                      case measure => have := HJ4.out; have := HK2.out; have := HK3.out; have := HK4.out; have := HK5.out; omega
                      case rel => exact ⟨(x13_5), (wrap64 (x15_4 - 1)), es_, H', ⟨by have := HJ4.out; have := HK2.out; have := HK3.out; have := HK4.out; have := HK5.out; omega⟩, ⟨by (try simp only [hl13_3]); (try simp only [hl13_4]); (try simp only [hl13_5]); (with_reducible repeat (first | apply Kd.S_alloc | apply Kd.S_drewN | apply Kd.S_drew)); exact HO_13.out⟩, ⟨by (try simp only [hl13_3]); (try simp only [hl13_4]); (try simp only [hl13_5]); (with_reducible repeat (first | refine blk_drewN ?_ _ | refine blk_drew ?_ | refine blk_alloc ?_ _)); exact BK434.out⟩, ⟨by (try simp only [hl13_3]); (try simp only [hl13_4]); (try simp only [hl13_5]); (with_reducible repeat (first | refine blk_drewN ?_ _ | refine blk_drew ?_ | refine blk_alloc ?_ _)); exact BK435.out⟩, ⟨hb_⟩⟩
                  ·rw [if_neg c42] at H
                   have c42b0 : decide (0 ≤ x15_4) = false := decide_eq_false c42
                   clear c42
                   have HC85 := Aside0.mk H
                   clear H
                   go_upto_region 27 with (fail)
                   go_cut [141] (fun v141 wc => ∃ (kq : Nat) (x141_84 : Bool), v141 = .bool x141_84 ∧ Aside0 (spec_l20Path.j7 kq l2 a3 (l0_1.length : Int) x12_2 x13_4 x141_84 a0_0 l0_1 a1_0 a1_1 = some (r1, r2)) ∧ Aside0 (kq ≤ k4) ∧ Aside0 (Kd.S (Kd.slice 4 Kd.bool) 98 wc w.heap.size (fun _ => True) (.slice (some ad444) x13_4.length co23) x13_4) ∧ Aside0 (wc.heap[gb434]? = some (.cells #[.int .i64 a0_0, (.slice A0_1 l0_1.length c0_1)] 39 (0, 0))) ∧ Aside0 (wc.heap[gb435]? = some (.cells #[.int .i64 a1_0, .int .i64 a1_1] 49 (0, 0))) ∧ Aside0 (Below w.heap.size w wc))
                   case first =>
                    have H := HC85.out
                    clear HC85
                    by_cases c86 : 0 < (x13_4.length : Int)
                    ·rw [if_pos c86] at H
                     have c86b0 : decide (0 < (x13_4.length : Int)) = true := decide_eq_true c86
                     (try simp only [hl13_3] at c86b0)
                     (try simp only [hl13_4] at c86b0)
                     have c86b1 : decide (0 < x13_4.length) = true := decide_eq_true (by omega)
                     (try simp only [hl13_3] at c86b1)
                     (try simp only [hl13_4] at c86b1)
                     clear c86
                     (first | rw [c86b0] | (simp only [i64_w, i32_w]; rw [c86b0]) | skip)
                     by_cases c87 : 0 ≤ a1_0
                     ·rw [if_pos c87] at H
                      have c87b0 : decide (0 ≤ a1_0) = true := decide_eq_true c87
                      clear c87
                      by_cases c88 : a1_0 < ((rd_L5 x13_4 0).length : Int)
                      ·rw [if_pos c88] at H
                       have c88b0 : decide (a1_0 < ((rd_L5 x13_4 0).length : Int)) = true := decide_eq_true c88
                       (try simp only [hl13_3] at c88b0)
                       (try simp only [hl13_4] at c88b0)
                       clear c88
                       obtain ⟨bq89, hbq89⟩ : ∃ b_ : Bool, b_ = (rdOf false (rd_L5 x13_4 0) a1_0) := ⟨_, rfl⟩
                       replace H : (if (bq89 = true) then ((spec_l20Free.f k4 l2 0 a1_0 a1_0).bind fun t470 => (spec_l20Path.j7 k4 l2 a3 (l0_1.length : Int) x12_2 x13_4 (!t470) a0_0 l0_1 a1_0 a1_1)) else (spec_l20Path.j7 k4 l2 a3 (l0_1.length : Int) x12_2 x13_4 true a0_0 l0_1 a1_0 a1_1)) = some (r1, r2) := by rw [← hbq89] at H; exact H
                       have Nbq89 := Aside0.mk hbq89
                       clear hbq89
                       by_cases c90 : (bq89 = true)
                       ·subst c90
                        rw [if_pos rfl] at H
                        replace H := Option.bind_eq_some_iff.mp H
                        obtain ⟨t470, A910, H⟩ := H
                        replace H : (spec_l20Path.j7 k4 l2 a3 (l0_1.length : Int) x12_2 x13_4 (!t470) a0_0 l0_1 a1_0 a1_1) = some (r1, r2) := H
                        have A91 := Aside0.mk A910
                        clear A910
                        have H' := Aside0.mk H
                        clear H
                        try go_wp2
                        have n0_ := Aside0.mk (Kd.S_drew HO_13.out)
                        have n1_ := Aside0.mk (blk_drew BK434.out)
                        have n2_ := Aside0.mk (blk_drew BK435.out)
                        have n3_ := Aside0.mk (below_drew1 HB.out)
                        clear HO_13
                        clear BK434
                        clear BK435
                        clear HB
                        have HO_13 := n0_
                        have BK434 := n1_
                        have BK435 := n2_
                        have HB := n3_
                        clear n0_ n1_ n2_ n3_
                        have p468 : 0 ≤ (0 : Int) := (by omega)
                        have q468 : 0 < (x13_4.length : Int) := of_decide_eq_true as_
                        obtain ⟨ad468, A468_0, c468_0, e468, hx468_0, hl468_0, hi468_0⟩ := at_L5 (Kd.S_reads' HO_13.out).2.2 0 p468 q468
                        obtain rfl : ad444 = ad468 := (by injection e468)
                        obtain ⟨ce468, hce468, hMe468, hcc468⟩ := Kd.S_get HO_13.out [] 0 p468 (by first | exact q468 | exact of_decide_eq_true as_ | (have e_ := (Kd.S_reads' HO_13.out).1; omega))
                        obtain ⟨ve468_0, rfl, ge468_0⟩ := hMe468
                        have hv468_0 := hcc468 0 _ rfl
                        rw [Nat.add_zero, show ((Kd.slice 4 Kd.bool)).sz = 1 from rfl, Nat.mul_one] at hv468_0
                        replace hv468_0 := Option.some.inj (hv468_0.symm.trans hx468_0)
                        rw [hv468_0] at ge468_0
                        have HL468_0 := Aside0.mk (show Kd.R Kd.bool 4 _ _ _ _ (rd_L5 x13_4 0) from ge468_0)
                        clear hv468_0 ge468_0
                        have HX468_0 := Aside0.mk hx468_0
                        clear hcc468 hce468
                        have qi468 : (0 < x13_4.length) = True := eq_true (by omega)
                        (try rw [show ((0 : Int)).toNat = 0 from rfl] at hx468_0)
                        (try rw [Addr.add_zero'] at hx468_0)
                        have HR468_0 := Aside0.mk hi468_0
                        have HC468_0 := Aside0.mk hl468_0
                        clear hi468_0 hl468_0
                        replace p468 := eq_true p468
                        replace q468 := eq_true q468
                        have p469 : 0 ≤ (a1_0 : Int) := of_decide_eq_true as_
                        have q469 : a1_0 < ((rd_L5 x13_4 0).length : Int) := of_decide_eq_true as_
                        obtain ⟨ad469, e469, hx469_0⟩ := Kd.at_bool (by repeat (first | (with_reducible exact HR468_0.out) | (with_reducible refine Kd.C_alloc ?_ _) | (with_reducible refine Kd.C_drewN ?_ _) | (with_reducible refine Kd.C_drew ?_) | exact HR468_0.out)) a1_0 p469 q469
                        (try rw [← Nbq89.out] at hx469_0)
                        cases e469
                        replace p469 := eq_true p469
                        replace q469 := eq_true q469
                        refine start_ (n := 17) (S := fun w' => w'.cell? ⟨gb435, 0, none⟩ = some (.int .i64 a1_0) ∧ w'.cell? ⟨gb435, 1, none⟩ = some (.int .i64 a1_1) ∧ w'.cell? ad444 = some (.slice (some ad469) (rd_L5 x13_4 0).length c468_0) ∧ w'.cell? (ad469.add (a1_0).toNat) = some (.bool true)) (ds := []) #[false, false, false, false, false, false, false, false, false, false, false, false, false, false, false, false, false] (by kernel_rfl) rfl rfl ⟨(blk_cell BK435.out 0).trans rfl, (blk_cell BK435.out 1).trans rfl, hx468_0, hx469_0⟩ (fun hHeld => ?_); refine with_tabW spec_l20Path.tab27 spec_l20Path.bits27 (fun HT_ HW_ => ?_)
                        generalize wr.drew = w92 at HO_13 BK434 BK435 HB HL468_0 HR468_0 HX468_0 hx468_0 hx469_0 hHeld ⊢
                        refine pure_ (i := 0) (N := some 125) (v := ?_) (a' := ?_) #[true, false, false, false, false, false, false, false, false, false, false, false, false, false, false, false, false] rfl rfl (any_of HT_.out (by kernel_rfl)) (fun _ _ _ h => h) (Or.inl ⟨by rfl, ?_⟩) ?_ ?_
                        rotate_left
                        ·intro w'
                         go_simp
                         with_reducible rfl
                        rotate_left
                        ·simp only [Act.put, List.setIfInBounds_toArray, List.set_cons_zero, List.set_cons_succ, i64_w, i32_w]
                         rfl
                        refine pure_ (i := 1) (N := some 126) (v := ?_) (a' := ?_) #[true, true, false, false, false, false, false, false, false, false, false, false, false, false, false, false, false] rfl rfl (any_of HT_.out (by kernel_rfl)) (fun _ _ _ h => h) (Or.inl ⟨by rfl, ?_⟩) ?_ ?_
                        rotate_left
                        ·intro w'
                         go_simp
                         with_reducible rfl
                        rotate_left
                        ·simp only [Act.put, List.setIfInBounds_toArray, List.set_cons_zero, List.set_cons_succ, i64_w, i32_w]
                         rfl
                        refine pure_ (i := 3) (N := some 128) (v := ?_) (a' := ?_) #[true, true, false, true, false, false, false, false, false, false, false, false, false, false, false, false, false] rfl rfl (any_of HT_.out (by kernel_rfl)) (fun _ _ _ h => h) (Or.inl ⟨by rfl, ?_⟩) ?_ ?_
                        rotate_left
                        ·intro w'
                         go_simp
                         with_reducible rfl
                        rotate_left
                        ·simp only [Act.put, List.setIfInBounds_toArray, List.set_cons_zero, List.set_cons_succ, i64_w, i32_w]
                         rfl
                        refine take_ (i := 2) (N := some 127) (v := ?_) (a' := ?_) #[true, true, true, true, false, false, false, false, false, false, false, false, false, false, false, false, false] rfl rfl (take_ofW HT_.out HW_.out (by kernel_rfl)) (fun _ _ _ h => h) (Or.inl ⟨by rfl, ?_⟩) hHeld ?_ ?_
                        rotate_left
                        ·rintro w' ⟨s0, s1, s2, s3⟩
                         go_simp
                         with_reducible rfl
                        rotate_left
                        ·simp only [Act.put, List.setIfInBounds_toArray, List.set_cons_zero, List.set_cons_succ, i64_w, i32_w]
                         rfl
                        refine take_ (i := 4) (N := some 129) (v := ?_) (a' := ?_) #[true, true, true, true, true, false, false, false, false, false, false, false, false, false, false, false, false] rfl rfl (take_ofW HT_.out HW_.out (by kernel_rfl)) (fun _ _ _ h => h) (Or.inl ⟨by rfl, ?_⟩) hHeld ?_ ?_
                        rotate_left
                        ·rintro w' ⟨s0, s1, s2, s3⟩
                         go_simp
                         with_reducible rfl
                        rotate_left
                        ·simp only [Act.put, List.setIfInBounds_toArray, List.set_cons_zero, List.set_cons_succ, i64_w, i32_w]
                         rfl
                        refine pure_ (i := 5) (N := some 130) (v := ?_) (a' := ?_) #[true, true, true, true, true, true, false, false, false, false, false, false, false, false, false, false, false] rfl rfl (any_of HT_.out (by kernel_rfl)) (fun _ _ _ h => h) (Or.inl ⟨by rfl, ?_⟩) ?_ ?_
                        rotate_left
                        ·intro w'
                         go_simp
                         with_reducible rfl
                        rotate_left
                        ·simp only [Act.put, List.setIfInBounds_toArray, List.set_cons_zero, List.set_cons_succ, i64_w, i32_w]
                         rfl
                        refine take_ (i := 6) (N := some 131) (v := ?_) (a' := ?_) #[true, true, true, true, true, true, true, false, false, false, false, false, false, false, false, false, false] rfl rfl (take_ofW HT_.out HW_.out (by kernel_rfl)) (fun _ _ _ h => h) (Or.inl ⟨by rfl, ?_⟩) hHeld ?_ ?_
                        rotate_left
                        ·rintro w' ⟨s0, s1, s2, s3⟩
                         go_simp
                         with_reducible rfl
                        rotate_left
                        ·simp only [Act.put, List.setIfInBounds_toArray, List.set_cons_zero, List.set_cons_succ, i64_w, i32_w]
                         rfl
                        refine pure_ (i := 7) (N := some 132) (v := ?_) (a' := ?_) #[true, true, true, true, true, true, true, true, false, false, false, false, false, false, false, false, false] rfl rfl (any_of HT_.out (by kernel_rfl)) (fun _ _ _ h => h) (Or.inl ⟨by rfl, ?_⟩) ?_ ?_
                        rotate_left
                        ·intro w'
                         go_simp
                         with_reducible rfl
                        rotate_left
                        ·simp only [Act.put, List.setIfInBounds_toArray, List.set_cons_zero, List.set_cons_succ, i64_w, i32_w]
                         rfl
                        refine pure_ (i := 8) (N := some 133) (v := ?_) (a' := ?_) #[true, true, true, true, true, true, true, true, true, false, false, false, false, false, false, false, false] rfl rfl (any_of HT_.out (by kernel_rfl)) (fun _ _ _ h => h) (Or.inl ⟨by rfl, ?_⟩) ?_ ?_
                        rotate_left
                        ·intro w'
                         go_simp
                         with_reducible rfl
                        rotate_left
                        ·simp only [Act.put, List.setIfInBounds_toArray, List.set_cons_zero, List.set_cons_succ, i64_w, i32_w]
                         rfl
                        refine pure_ (i := 9) (N := some 134) (v := ?_) (a' := ?_) #[true, true, true, true, true, true, true, true, true, true, false, false, false, false, false, false, false] rfl rfl (any_of HT_.out (by kernel_rfl)) (fun _ _ _ h => h) (Or.inl ⟨by rfl, ?_⟩) ?_ ?_
                        rotate_left
                        ·intro w'
                         go_simp
                         with_reducible rfl
                        rotate_left
                        ·simp only [Act.put, List.setIfInBounds_toArray, List.set_cons_zero, List.set_cons_succ, i64_w, i32_w]
                         rfl
                        refine pure_ (i := 10) (N := some 135) (v := ?_) (a' := ?_) #[true, true, true, true, true, true, true, true, true, true, true, false, false, false, false, false, false] rfl rfl (any_of HT_.out (by kernel_rfl)) (fun _ _ _ h => h) (Or.inl ⟨by rfl, ?_⟩) ?_ ?_
                        rotate_left
                        ·intro w'
                         go_simp
                         with_reducible rfl
                        rotate_left
                        ·simp only [Act.put, List.setIfInBounds_toArray, List.set_cons_zero, List.set_cons_succ, i64_w, i32_w]
                         rfl
                        refine pure_ (i := 12) (N := some 137) (v := ?_) (a' := ?_) #[true, true, true, true, true, true, true, true, true, true, true, false, true, false, false, false, false] rfl rfl (any_of HT_.out (by kernel_rfl)) (fun _ _ _ h => h) (Or.inl ⟨by rfl, ?_⟩) ?_ ?_
                        rotate_left
                        ·intro w'
                         go_simp
                         with_reducible rfl
                        rotate_left
                        ·simp only [Act.put, List.setIfInBounds_toArray, List.set_cons_zero, List.set_cons_succ, i64_w, i32_w]
                         rfl
                        refine take_ (i := 11) (N := some 136) (v := ?_) (a' := ?_) #[true, true, true, true, true, true, true, true, true, true, true, true, true, false, false, false, false] rfl rfl (take_ofW HT_.out HW_.out (by kernel_rfl)) (fun _ _ _ h => h) (Or.inl ⟨by rfl, ?_⟩) hHeld ?_ ?_
                        rotate_left
                        ·rintro w' ⟨s0, s1, s2, s3⟩
                         go_simp
                         with_reducible rfl
                        rotate_left
                        ·simp only [Act.put, List.setIfInBounds_toArray, List.set_cons_zero, List.set_cons_succ, i64_w, i32_w]
                         rfl
                        refine take_ (i := 13) (N := some 138) (v := ?_) (a' := ?_) #[true, true, true, true, true, true, true, true, true, true, true, true, true, true, false, false, false] rfl rfl (take_ofW HT_.out HW_.out (by kernel_rfl)) (fun _ _ _ h => h) (Or.inl ⟨by rfl, ?_⟩) hHeld ?_ ?_
                        rotate_left
                        ·rintro w' ⟨s0, s1, s2, s3⟩
                         go_simp
                         with_reducible rfl
                        rotate_left
                        ·simp only [Act.put, List.setIfInBounds_toArray, List.set_cons_zero, List.set_cons_succ, i64_w, i32_w]
                         rfl
                        refine one_ (i := 14) (N := some 139) #[true, true, true, true, true, true, true, true, true, true, true, true, true, true, true, false, false] rfl rfl (one_of HT_.out (by kernel_rfl)) (by decide) (fun K hK => ?_)
                        refine goes_ Try.func71 (by kernel_rfl) rfl #[.slice A2 l2.length c2, .int .i64 0, .int .i64 a1_0, .int .i64 a1_0] (by rfl) rfl rfl ls_ ?_
                        with_reducible refine (spec_l20Free.calls k4 _ _ l2 0 a1_0 a1_0 t470 _ ?side1 ?side2 A91.out).mono ?_
                        (case side1 => exact cb_ HR2.out)
                        (case side2 => exact HC2.out)
                        rintro e w' ⟨rfl, ⟨nd, rfl⟩⟩
                        refine ⟨_, rfl, ?_⟩
                        refine hK.out _ _ ⟨(blk_cell BK435.out 0).trans rfl, (blk_cell BK435.out 1).trans rfl, hHeld.2.2.1, hHeld.2.2.2⟩ (fun hHeld => ?_)
                        clear hK K
                        refine norm_ (a' := ?_) ?_ ?_
                        rotate_left
                        ·show Act.put _ (some 139) _ = _
                         simp only [Act.put, List.setIfInBounds_toArray, List.set_cons_zero, List.set_cons_succ, i64_w, i32_w]
                         rfl
                        refine pure_ (i := 15) (N := some 140) (v := ?_) (a' := ?_) #[true, true, true, true, true, true, true, true, true, true, true, true, true, true, true, true, false] rfl rfl (any_of HT_.out (by kernel_rfl)) (fun _ _ _ h => h) (Or.inl ⟨by rfl, ?_⟩) ?_ ?_
                        rotate_left
                        ·intro w'
                         go_simp
                         with_reducible rfl
                        rotate_left
                        ·simp only [Act.put, List.setIfInBounds_toArray, List.set_cons_zero, List.set_cons_succ, i64_w, i32_w]
                         rfl
                        refine pure_ (i := 16) (N := some 141) (v := ?_) (a' := ?_) #[true, true, true, true, true, true, true, true, true, true, true, true, true, true, true, true, true] rfl rfl (any_of HT_.out (by kernel_rfl)) (fun _ _ _ h => h) (Or.inl ⟨by rfl, ?_⟩) ?_ ?_
                        rotate_left
                        ·intro w'
                         go_simp
                         with_reducible rfl
                        rotate_left
                        ·simp only [Act.put, List.setIfInBounds_toArray, List.set_cons_zero, List.set_cons_succ, i64_w, i32_w]
                         rfl
                        refine done_ (done_of HT_.out (by kernel_rfl)) ?_
                        try go_wp2
                        go_meet
                        case rel => exact ⟨_, (!t470), es_, H', ⟨by have := HJ4.out; have := HK2.out; have := HK3.out; have := HK4.out; first | omega | exact Nat.le_refl _⟩, ⟨by (try simp only [hl13_3]); (try simp only [hl13_4]); (with_reducible repeat (first | apply Kd.S_alloc | apply Kd.S_drewN | apply Kd.S_drew)); exact HO_13.out⟩, ⟨by (try simp only [hl13_3]); (try simp only [hl13_4]); (with_reducible repeat (first | refine blk_drewN ?_ _ | refine blk_drew ?_ | refine blk_alloc ?_ _)); exact BK434.out⟩, ⟨by (try simp only [hl13_3]); (try simp only [hl13_4]); (with_reducible repeat (first | refine blk_drewN ?_ _ | refine blk_drew ?_ | refine blk_alloc ?_ _)); exact BK435.out⟩, ⟨hb_⟩⟩
                       ·replace c90 := Bool.eq_false_iff.mpr c90
                        subst c90
                        rw [if_neg (show ¬ (false = true) by decide)] at H
                        have H' := Aside0.mk H
                        clear H
                        try go_wp2
                        have n0_ := Aside0.mk (Kd.S_drew HO_13.out)
                        have n1_ := Aside0.mk (blk_drew BK434.out)
                        have n2_ := Aside0.mk (blk_drew BK435.out)
                        have n3_ := Aside0.mk (below_drew1 HB.out)
                        clear HO_13
                        clear BK434
                        clear BK435
                        clear HB
                        have HO_13 := n0_
                        have BK434 := n1_
                        have BK435 := n2_
                        have HB := n3_
                        clear n0_ n1_ n2_ n3_
                        have p468 : 0 ≤ (0 : Int) := (by omega)
                        have q468 : 0 < (x13_4.length : Int) := of_decide_eq_true as_
                        obtain ⟨ad468, A468_0, c468_0, e468, hx468_0, hl468_0, hi468_0⟩ := at_L5 (Kd.S_reads' HO_13.out).2.2 0 p468 q468
                        obtain rfl : ad444 = ad468 := (by injection e468)
                        obtain ⟨ce468, hce468, hMe468, hcc468⟩ := Kd.S_get HO_13.out [] 0 p468 (by first | exact q468 | exact of_decide_eq_true as_ | (have e_ := (Kd.S_reads' HO_13.out).1; omega))
                        obtain ⟨ve468_0, rfl, ge468_0⟩ := hMe468
                        have hv468_0 := hcc468 0 _ rfl
                        rw [Nat.add_zero, show ((Kd.slice 4 Kd.bool)).sz = 1 from rfl, Nat.mul_one] at hv468_0
                        replace hv468_0 := Option.some.inj (hv468_0.symm.trans hx468_0)
                        rw [hv468_0] at ge468_0
                        have HL468_0 := Aside0.mk (show Kd.R Kd.bool 4 _ _ _ _ (rd_L5 x13_4 0) from ge468_0)
                        clear hv468_0 ge468_0
                        have HX468_0 := Aside0.mk hx468_0
                        clear hcc468 hce468
                        have qi468 : (0 < x13_4.length) = True := eq_true (by omega)
                        (try rw [show ((0 : Int)).toNat = 0 from rfl] at hx468_0)
                        (try rw [Addr.add_zero'] at hx468_0)
                        have HR468_0 := Aside0.mk hi468_0
                        have HC468_0 := Aside0.mk hl468_0
                        clear hi468_0 hl468_0
                        replace p468 := eq_true p468
                        replace q468 := eq_true q468
                        have p469 : 0 ≤ (a1_0 : Int) := of_decide_eq_true as_
                        have q469 : a1_0 < ((rd_L5 x13_4 0).length : Int) := of_decide_eq_true as_
                        obtain ⟨ad469, e469, hx469_0⟩ := Kd.at_bool (by repeat (first | (with_reducible exact HR468_0.out) | (with_reducible refine Kd.C_alloc ?_ _) | (with_reducible refine Kd.C_drewN ?_ _) | (with_reducible refine Kd.C_drew ?_) | exact HR468_0.out)) a1_0 p469 q469
                        (try rw [← Nbq89.out] at hx469_0)
                        cases e469
                        replace p469 := eq_true p469
                        replace q469 := eq_true q469
                        refine start_ (n := 17) (S := fun w' => w'.cell? ⟨gb435, 0, none⟩ = some (.int .i64 a1_0) ∧ w'.cell? ⟨gb435, 1, none⟩ = some (.int .i64 a1_1) ∧ w'.cell? ad444 = some (.slice (some ad469) (rd_L5 x13_4 0).length c468_0) ∧ w'.cell? (ad469.add (a1_0).toNat) = some (.bool false)) (ds := []) #[false, false, false, false, false, false, false, false, false, false, false, false, false, false, false, false, false] (by kernel_rfl) rfl rfl ⟨(blk_cell BK435.out 0).trans rfl, (blk_cell BK435.out 1).trans rfl, hx468_0, hx469_0⟩ (fun hHeld => ?_); refine with_tabW spec_l20Path.tab27 spec_l20Path.bits27 (fun HT_ HW_ => ?_)
                        generalize wr.drew = w93 at HO_13 BK434 BK435 HB HL468_0 HR468_0 HX468_0 hx468_0 hx469_0 hHeld ⊢
                        refine pure_ (i := 0) (N := some 125) (v := ?_) (a' := ?_) #[true, false, false, false, false, false, false, false, false, false, false, false, false, false, false, false, false] rfl rfl (any_of HT_.out (by kernel_rfl)) (fun _ _ _ h => h) (Or.inl ⟨by rfl, ?_⟩) ?_ ?_
                        rotate_left
                        ·intro w'
                         go_simp
                         with_reducible rfl
                        rotate_left
                        ·simp only [Act.put, List.setIfInBounds_toArray, List.set_cons_zero, List.set_cons_succ, i64_w, i32_w]
                         rfl
                        refine pure_ (i := 1) (N := some 126) (v := ?_) (a' := ?_) #[true, true, false, false, false, false, false, false, false, false, false, false, false, false, false, false, false] rfl rfl (any_of HT_.out (by kernel_rfl)) (fun _ _ _ h => h) (Or.inl ⟨by rfl, ?_⟩) ?_ ?_
                        rotate_left
                        ·intro w'
                         go_simp
                         with_reducible rfl
                        rotate_left
                        ·simp only [Act.put, List.setIfInBounds_toArray, List.set_cons_zero, List.set_cons_succ, i64_w, i32_w]
                         rfl
                        refine pure_ (i := 3) (N := some 128) (v := ?_) (a' := ?_) #[true, true, false, true, false, false, false, false, false, false, false, false, false, false, false, false, false] rfl rfl (any_of HT_.out (by kernel_rfl)) (fun _ _ _ h => h) (Or.inl ⟨by rfl, ?_⟩) ?_ ?_
                        rotate_left
                        ·intro w'
                         go_simp
                         with_reducible rfl
                        rotate_left
                        ·simp only [Act.put, List.setIfInBounds_toArray, List.set_cons_zero, List.set_cons_succ, i64_w, i32_w]
                         rfl
                        refine take_ (i := 2) (N := some 127) (v := ?_) (a' := ?_) #[true, true, true, true, false, false, false, false, false, false, false, false, false, false, false, false, false] rfl rfl (take_ofW HT_.out HW_.out (by kernel_rfl)) (fun _ _ _ h => h) (Or.inl ⟨by rfl, ?_⟩) hHeld ?_ ?_
                        rotate_left
                        ·rintro w' ⟨s0, s1, s2, s3⟩
                         go_simp
                         with_reducible rfl
                        rotate_left
                        ·simp only [Act.put, List.setIfInBounds_toArray, List.set_cons_zero, List.set_cons_succ, i64_w, i32_w]
                         rfl
                        refine take_ (i := 4) (N := some 129) (v := ?_) (a' := ?_) #[true, true, true, true, true, false, false, false, false, false, false, false, false, false, false, false, false] rfl rfl (take_ofW HT_.out HW_.out (by kernel_rfl)) (fun _ _ _ h => h) (Or.inl ⟨by rfl, ?_⟩) hHeld ?_ ?_
                        rotate_left
                        ·rintro w' ⟨s0, s1, s2, s3⟩
                         go_simp
                         with_reducible rfl
                        rotate_left
                        ·simp only [Act.put, List.setIfInBounds_toArray, List.set_cons_zero, List.set_cons_succ, i64_w, i32_w]
                         rfl
                        refine pure_ (i := 5) (N := some 130) (v := ?_) (a' := ?_) #[true, true, true, true, true, true, false, false, false, false, false, false, false, false, false, false, false] rfl rfl (any_of HT_.out (by kernel_rfl)) (fun _ _ _ h => h) (Or.inl ⟨by rfl, ?_⟩) ?_ ?_
                        rotate_left
                        ·intro w'
                         go_simp
                         with_reducible rfl
                        rotate_left
                        ·simp only [Act.put, List.setIfInBounds_toArray, List.set_cons_zero, List.set_cons_succ, i64_w, i32_w]
                         rfl
                        refine take_ (i := 6) (N := some 131) (v := ?_) (a' := ?_) #[true, true, true, true, true, true, true, false, false, false, false, false, false, false, false, false, false] rfl rfl (take_ofW HT_.out HW_.out (by kernel_rfl)) (fun _ _ _ h => h) (Or.inl ⟨by rfl, ?_⟩) hHeld ?_ ?_
                        rotate_left
                        ·rintro w' ⟨s0, s1, s2, s3⟩
                         go_simp
                         with_reducible rfl
                        rotate_left
                        ·simp only [Act.put, List.setIfInBounds_toArray, List.set_cons_zero, List.set_cons_succ, i64_w, i32_w]
                         rfl
                        refine pure_ (i := 7) (N := some 132) (v := ?_) (a' := ?_) #[true, true, true, true, true, true, true, true, false, false, false, false, false, false, false, false, false] rfl rfl (any_of HT_.out (by kernel_rfl)) (fun _ _ _ h => h) (Or.inl ⟨by rfl, ?_⟩) ?_ ?_
                        rotate_left
                        ·intro w'
                         go_simp
                         with_reducible rfl
                        rotate_left
                        ·simp only [Act.put, List.setIfInBounds_toArray, List.set_cons_zero, List.set_cons_succ, i64_w, i32_w]
                         rfl
                        refine pure_ (i := 8) (N := some 133) (v := ?_) (a' := ?_) #[true, true, true, true, true, true, true, true, true, false, false, false, false, false, false, false, false] rfl rfl (any_of HT_.out (by kernel_rfl)) (fun _ _ _ h => h) (Or.inl ⟨by rfl, ?_⟩) ?_ ?_
                        rotate_left
                        ·intro w'
                         go_simp
                         with_reducible rfl
                        rotate_left
                        ·simp only [Act.put, List.setIfInBounds_toArray, List.set_cons_zero, List.set_cons_succ, i64_w, i32_w]
                         rfl
                        refine pure_ (i := 9) (N := some 134) (v := undef) (a' := ?_) #[true, true, true, true, true, true, true, true, true, true, false, false, false, false, false, false, false] rfl rfl (any_of HT_.out (by kernel_rfl)) (fun _ _ _ h => h) (Or.inr ⟨by rfl, rfl⟩) ?_ ?_
                        rotate_left
                        ·simp only [Act.put, List.setIfInBounds_toArray, List.set_cons_zero, List.set_cons_succ, i64_w, i32_w]
                         rfl
                        refine pure_ (i := 10) (N := some 135) (v := undef) (a' := ?_) #[true, true, true, true, true, true, true, true, true, true, true, false, false, false, false, false, false] rfl rfl (any_of HT_.out (by kernel_rfl)) (fun _ _ _ h => h) (Or.inr ⟨by rfl, rfl⟩) ?_ ?_
                        rotate_left
                        ·simp only [Act.put, List.setIfInBounds_toArray, List.set_cons_zero, List.set_cons_succ, i64_w, i32_w]
                         rfl
                        refine pure_ (i := 11) (N := some 136) (v := undef) (a' := ?_) #[true, true, true, true, true, true, true, true, true, true, true, true, false, false, false, false, false] rfl rfl (any_of HT_.out (by kernel_rfl)) (fun _ _ _ h => h) (Or.inr ⟨by rfl, rfl⟩) ?_ ?_
                        rotate_left
                        ·simp only [Act.put, List.setIfInBounds_toArray, List.set_cons_zero, List.set_cons_succ, i64_w, i32_w]
                         rfl
                        refine pure_ (i := 12) (N := some 137) (v := undef) (a' := ?_) #[true, true, true, true, true, true, true, true, true, true, true, true, true, false, false, false, false] rfl rfl (any_of HT_.out (by kernel_rfl)) (fun _ _ _ h => h) (Or.inr ⟨by rfl, rfl⟩) ?_ ?_
                        rotate_left
                        ·simp only [Act.put, List.setIfInBounds_toArray, List.set_cons_zero, List.set_cons_succ, i64_w, i32_w]
                         rfl
                        refine pure_ (i := 13) (N := some 138) (v := undef) (a' := ?_) #[true, true, true, true, true, true, true, true, true, true, true, true, true, true, false, false, false] rfl rfl (any_of HT_.out (by kernel_rfl)) (fun _ _ _ h => h) (Or.inr ⟨by rfl, rfl⟩) ?_ ?_
                        rotate_left
                        ·simp only [Act.put, List.setIfInBounds_toArray, List.set_cons_zero, List.set_cons_succ, i64_w, i32_w]
                         rfl
                        refine pure_ (i := 14) (N := some 139) (v := undef) (a' := ?_) #[true, true, true, true, true, true, true, true, true, true, true, true, true, true, true, false, false] rfl rfl (any_of HT_.out (by kernel_rfl)) (fun _ _ _ h => h) (Or.inr ⟨by rfl, rfl⟩) ?_ ?_
                        rotate_left
                        ·simp only [Act.put, List.setIfInBounds_toArray, List.set_cons_zero, List.set_cons_succ, i64_w, i32_w]
                         rfl
                        refine pure_ (i := 15) (N := some 140) (v := undef) (a' := ?_) #[true, true, true, true, true, true, true, true, true, true, true, true, true, true, true, true, false] rfl rfl (any_of HT_.out (by kernel_rfl)) (fun _ _ _ h => h) (Or.inr ⟨by rfl, rfl⟩) ?_ ?_
                        rotate_left
                        ·simp only [Act.put, List.setIfInBounds_toArray, List.set_cons_zero, List.set_cons_succ, i64_w, i32_w]
                         rfl
                        refine pure_ (i := 16) (N := some 141) (v := ?_) (a' := ?_) #[true, true, true, true, true, true, true, true, true, true, true, true, true, true, true, true, true] rfl rfl (any_of HT_.out (by kernel_rfl)) (fun _ _ _ h => h) (Or.inl ⟨by rfl, ?_⟩) ?_ ?_
                        rotate_left
                        ·intro w'
                         go_simp
                         with_reducible rfl
                        rotate_left
                        ·simp only [Act.put, List.setIfInBounds_toArray, List.set_cons_zero, List.set_cons_succ, i64_w, i32_w]
                         rfl
                        refine done_ (done_of HT_.out (by kernel_rfl)) ?_
                        try go_wp2
                        go_meet
                        case rel => exact ⟨_, (true), es_, H', ⟨by have := HJ4.out; have := HK2.out; have := HK3.out; have := HK4.out; first | omega | exact Nat.le_refl _⟩, ⟨by (try simp only [hl13_3]); (try simp only [hl13_4]); (with_reducible repeat (first | apply Kd.S_alloc | apply Kd.S_drewN | apply Kd.S_drew)); exact HO_13.out⟩, ⟨by (try simp only [hl13_3]); (try simp only [hl13_4]); (with_reducible repeat (first | refine blk_drewN ?_ _ | refine blk_drew ?_ | refine blk_alloc ?_ _)); exact BK434.out⟩, ⟨by (try simp only [hl13_3]); (try simp only [hl13_4]); (with_reducible repeat (first | refine blk_drewN ?_ _ | refine blk_drew ?_ | refine blk_alloc ?_ _)); exact BK435.out⟩, ⟨hb_⟩⟩
                      ·rw [if_neg c88] at H
                       exact absurd H (by simp)
                     ·rw [if_neg c87] at H
                      exact absurd H (by simp)
                    ·rw [if_neg c86] at H
                     exact absurd H (by simp)
                   case rest =>
                    clear HC85
                    try clear c2
                    try clear p2
                    try clear c4
                    try clear p4
                    try clear q4
                    try clear hx4
                    try clear qi4
                    try clear c5
                    try clear c6
                    try clear p6
                    try clear c7
                    try clear c8
                    try clear q8
                    try clear c9
                    try clear c42
                    try clear c42b0
                    try clear c43
                    try clear c43b0
                    try clear c45
                    try clear c46
                    try clear p46
                    try clear q46
                    try clear hx46
                    try clear qi46
                    try clear c53
                    try clear c53b0
                    try clear c54
                    try clear c55
                    try clear c56
                    try clear c57
                    try clear c58
                    try clear c59
                    try clear p64
                    try clear c67
                    try clear c68
                    try clear c69
                    try clear c70
                    try clear c71
                    try clear c82
                    try clear c86
                    try clear c86b0
                    try clear c86b1
                    try clear c87
                    try clear c87b0
                    try clear c88
                    try clear c88b0
                    try clear q89
                    try clear c90
                    try clear hcz83_0
                    try clear hcz83_1
                    try clear hfz83_0
                    try clear hfz83_1
                    try clear hx468_0
                    try clear hx469_0
                    try clear p468
                    try clear p469
                    try clear q468
                    try clear q469
                    obtain ⟨kq, x141_84, rfl, HA, HJ84, HO_13, BK434, BK435, HB⟩ := hcut
                    cases kq with
                    | zero => exact absurd HA.out (by simp [spec_l20Path.j7])
                    | succ kj84 =>
                     have H := HA.out
                     clear HA
                     simp only [spec_l20Path.j7] at H
                     by_cases c94 : x141_84 = true
                     ·subst c94
                      rw [if_pos rfl] at H
                      have H' := Aside0.mk H
                      clear H
                      go_wp2
                      (try simp only [← hl13_3, ← hl13_4])
                      go_roundg kj84
                      case measure => have := HJ4.out; have := HK2.out; have := HK3.out; have := HK4.out; have := HJ84.out; omega
                      case rel => exact ⟨(wrap64 (x12_2 + 1)), es_, H', ⟨by have := HJ4.out; have := HK2.out; have := HK3.out; have := HK4.out; have := HJ84.out; omega⟩, ⟨by (try simp only [hl13_3]); (try simp only [hl13_4]); (with_reducible repeat (first | refine blk_drewN ?_ _ | refine blk_drew ?_ | refine blk_alloc ?_ _)); exact BK434.out⟩, ⟨by (try simp only [hl13_3]); (try simp only [hl13_4]); (with_reducible repeat (first | refine blk_drewN ?_ _ | refine blk_drew ?_ | refine blk_alloc ?_ _)); exact BK435.out⟩, ⟨hb_⟩⟩
                     ·replace c94 := Bool.eq_false_iff.mpr c94
                      subst c94
                      rw [if_neg (show ¬ (false = true) by decide)] at H
                      obtain ⟨y471, hy471⟩ : ∃ y_ : List Int, y_ = (([a1_0] : List Int)) := ⟨_, rfl⟩
                      replace H : (spec_l20Path.l6 kj84 l2 a3 x12_2 x13_4 y471 1 a0_0 l0_1 a1_0 a1_1) = some (r1, r2) := by first | (rw [hy471]; with_reducible exact H) | (have H2_ := (Option.bind_some _ _).symm.trans H; rw [hy471]; with_reducible exact H2_) | (have H2_ := (Option.bind_some _ _).symm.trans H; with_reducible exact H2_) | with_reducible exact H | (rw [hy471]; exact H) | exact H
                      have Ny471 := Aside0.mk hy471
                      clear hy471
                      have H' := Aside0.mk H
                      clear H
                      have hnb95 := NB435_434.out
                      have hnc95 := NB434_435.out
                      have hcz96_0 : wc.cell? ⟨gb435, 0, none⟩ = some (.int .i64 a1_0) := (blk_cell BK435.out 0).trans rfl
                      have hcz96_1 : wc.cell? ⟨gb435, 1, none⟩ = some (.int .i64 a1_1) := (blk_cell BK435.out 1).trans rfl
                      have hfz96_0 := blk_frozen BK435.out 0
                      have hfz96_1 := blk_frozen BK435.out 1
                      go_wp2_with (first | ((with_reducible refine gate_dst (N := 144) rfl ?_); refine Kd.R_lit (Kd.int .i64) _ 3 ?hg (N := 144) ?hd (xs := ([a1_0] : List Int)) (inner := [.int .i64 a1_0]) (ok := fun _ => True) (okp := fun _ => True) ?hr ?hp (fun _ hk => hk) trivial (Below.refl _ _) (Nat.le_refl _) (by simp) ?_; (case hd => rfl); (case hg => rfl); (case hr => first | (go_simp; done) | (go_simp; rfl)); (case hp => exact (Reps.one (show Kd.M (Kd.int .i64) _ _ _ a1_0 [.int .i64 a1_0] from rfl) (Reps.none _ _))); intro v472 w97 ho98 hb hg_ hnew_; clear hg_ hnew_; (first | rw [← Ny471.out] at ho98 | (simp only [Int.reduceToNat] at ho98; rw [← Ny471.out] at ho98)); have n0_ := Aside0.mk (Kd.S_below (sa_ HO_13.out) hb); have n1_ := Aside0.mk (Kd.R_lower ho98 (below_size hb_)); have n2_ := bb_ BK434 hb; have n3_ := bb_ BK435 hb; have n4_ := Aside0.mk (below_step hb_ hb); clear HO_13; clear BK434; clear BK435; clear HB; have HO_13 := n0_; have HO473 := n1_; have BK434 := n2_; have BK435 := n3_; have HB := n4_; clear n0_ n1_ n2_ n3_ n4_; clear hb ho98))
                      go_loopg [19, 20] kj84 (fun kq v19 v20 w' => ∃ (x19_6 : List Int) (x20_6 : Int), v20 = .int .i64 x20_6 ∧ Aside0 (spec_l20Path.l6 kq l2 a3 x12_2 x13_4 x19_6 x20_6 a0_0 l0_1 a1_0 a1_1 = some (r1, r2)) ∧ Aside0 (kq ≤ kj84) ∧ Aside0 (Kd.S (Kd.slice 4 Kd.bool) 98 w' w.heap.size (fun _ => True) (.slice (some ad444) x13_4.length co23) x13_4) ∧ Aside0 (Kd.R (Kd.int .i64) 3 w' w.heap.size (fun _ => True) v19 x19_6) ∧ Aside0 (w'.heap[gb434]? = some (.cells #[.int .i64 a0_0, (.slice A0_1 l0_1.length c0_1)] 39 (0, 0))) ∧ Aside0 (w'.heap[gb435]? = some (.cells #[.int .i64 a1_0, .int .i64 a1_1] 49 (0, 0))) ∧ Aside0 (Below w.heap.size w w'))
                      case atStart => exact ⟨(y471), (1), es_, H', ⟨Nat.le_refl _⟩, ⟨by (try simp only [hl13_3]); (try simp only [hl13_4]); (with_reducible repeat (first | apply Kd.S_alloc | apply Kd.S_drewN | apply Kd.S_drew)); exact HO_13.out⟩, ⟨by (try simp only [hl13_3]); (try simp only [hl13_4]); (with_reducible repeat (first | apply Kd.R_alloc | apply Kd.R_drewN | apply Kd.R_drew)); exact HO473.out⟩, ⟨by (try simp only [hl13_3]); (try simp only [hl13_4]); (with_reducible repeat (first | refine blk_drewN ?_ _ | refine blk_drew ?_ | refine blk_alloc ?_ _)); exact BK434.out⟩, ⟨by (try simp only [hl13_3]); (try simp only [hl13_4]); (with_reducible repeat (first | refine blk_drewN ?_ _ | refine blk_drew ?_ | refine blk_alloc ?_ _)); exact BK435.out⟩, ⟨hb_⟩⟩
                      case round =>
                       clear H'
                       try clear c2
                       try clear p2
                       try clear c4
                       try clear p4
                       try clear q4
                       try clear hx4
                       try clear qi4
                       try clear c5
                       try clear c6
                       try clear p6
                       try clear c7
                       try clear c8
                       try clear q8
                       try clear c9
                       try clear c42
                       try clear c42b0
                       try clear c43
                       try clear c43b0
                       try clear c45
                       try clear c46
                       try clear p46
                       try clear q46
                       try clear hx46
                       try clear qi46
                       try clear c53
                       try clear c53b0
                       try clear c54
                       try clear c55
                       try clear c56
                       try clear c57
                       try clear c58
                       try clear c59
                       try clear p64
                       try clear c67
                       try clear c68
                       try clear c69
                       try clear c70
                       try clear c71
                       try clear c82
                       try clear c86
                       try clear c86b0
                       try clear c86b1
                       try clear c87
                       try clear c87b0
                       try clear c88
                       try clear c88b0
                       try clear q89
                       try clear c90
                       try clear c94
                       try clear c95
                       try clear hcz83_0
                       try clear hcz83_1
                       try clear hcz96_0
                       try clear hcz96_1
                       try clear hfz83_0
                       try clear hfz83_1
                       try clear hfz96_0
                       try clear hfz96_1
                       try clear hx468_0
                       try clear hx469_0
                       try clear p2
                       try clear p4
                       try clear p46
                       try clear p468
                       try clear p469
                       try clear p6
                       try clear p64
                       try clear q4
                       try clear q46
                       try clear q468
                       try clear q469
                       try clear q8
                       try clear q89
                       obtain ⟨x19_6, x20_6, rfl, HA, HK6, HO_13, HO_19, BK434, BK435, HB⟩ := hrel
                       cases gk with
                       | zero => exact absurd HA.out (by simp [spec_l20Path.l6])
                       | succ k6 =>
                        have H := HA.out
                        clear HA
                        simp only [spec_l20Path.l6] at H
                        by_cases c99 : x20_6 ≤ x12_2
                        ·rw [if_pos c99] at H
                         have c99b0 : decide (x20_6 ≤ x12_2) = true := decide_eq_true c99
                         clear c99
                         obtain ⟨ji100, hji100⟩ : ∃ j_ : Int, (wrap64 (x20_6 - 1)) = j_ := ⟨_, rfl⟩
                         replace H : (if 0 ≤ (ji100) then (if (ji100) < (x19_6.length : Int) then ((spec_l20Next.f k6 a0_0 l0_1 (rd x19_6 (ji100))).bind fun t475 => (spec_l20Path.l7 k6 l2 a3 x12_2 x13_4 x19_6 x20_6 (rd x19_6 (ji100)) t475 (t475.length : Int) 0 a0_0 l0_1 a1_0 a1_1)) else (none)) else (none)) = some (r1, r2) := by first | (rw [hji100] at H; exact H) | (simp only [hji100] at H ⊢; exact H)
                         have hji100w : (IntKind.i64.wrap (x20_6 - 1)) = ji100 := (i64_w _).trans hji100
                         by_cases c101 : 0 ≤ (ji100)
                         ·rw [if_pos c101] at H
                          have c101b0 : decide (0 ≤ (ji100)) = true := decide_eq_true c101
                          clear c101
                          by_cases c102 : (ji100) < (x19_6.length : Int)
                          ·rw [if_pos c102] at H
                           have c102b0 : decide ((ji100) < (x19_6.length : Int)) = true := decide_eq_true c102
                           (try simp only [hl13_3] at c102b0)
                           (try simp only [hl13_4] at c102b0)
                           clear c102
                           replace H := Option.bind_eq_some_iff.mp H
                           obtain ⟨t475, A1030, H⟩ := H
                           replace H : (spec_l20Path.l7 k6 l2 a3 x12_2 x13_4 x19_6 x20_6 (rd x19_6 (ji100)) t475 (t475.length : Int) 0 a0_0 l0_1 a1_0 a1_1) = some (r1, r2) := H
                           have A103 := Aside0.mk A1030
                           clear A1030
                           have H' := Aside0.mk H
                           clear H
                           obtain ⟨Ao104, co104, eo104⟩ := Kd.R_slice HO_19.out
                           subst eo104
                           have p474 : 0 ≤ ((ji100) : Int) := of_decide_eq_true as_
                           have q474 : (ji100) < (x19_6.length : Int) := of_decide_eq_true as_
                           obtain ⟨ad474, e474, hx474_0⟩ := Kd.at_int (Kd.R_reads' HO_19.out).2.2 (ji100) p474 q474
                           cases e474
                           replace p474 := eq_true p474
                           replace q474 := eq_true q474
                           have hnb105 := NB434_435.out
                           have hnc105 := NB435_434.out
                           have hcz106_0 : wr.cell? ⟨gb434, 0, none⟩ = some (.int .i64 a0_0) := (blk_cell BK434.out 0).trans rfl
                           have hcz106_1 : wr.cell? ⟨gb434, 1, none⟩ = some (.slice A0_1 l0_1.length c0_1) := (blk_cell BK434.out 1).trans rfl
                           have hfz106_0 := blk_frozen BK434.out 0
                           have hfz106_1 := blk_frozen BK434.out 1
                           go_wp2_with (first | ((with_reducible refine gate_callee (f := 57) rfl ?_); refine goesL_ (some 157) rfl rfl Try.func57 (by kernel_rfl) rfl #[.agg #[.int .i64 a0_0, .slice A0_1 l0_1.length c0_1], .int .i64 (rd x19_6 (ji100))] rfl (by (try simp only [List.map_toArray, List.map_cons, List.map_nil]); first | done | (simp only [hji100]; rfl) | rfl | (simp only [List.length_drop, List.length_take]; rfl)) ?_; (with_reducible refine (spec_l20Next.calls k6 a0_0 _ _ l0_1 (rd x19_6 (ji100)) t475 _ ?side1 ?side2 A103.out).mono ?_); (case side1 => exact cb_ HR0_1.out); (case side2 => exact HC0_1.out); rintro e w107 ⟨v476, rfl, ho0, hb⟩; refine ⟨_, rfl, ?_⟩; have n0_ := Aside0.mk (Kd.S_below (sa_ HO_13.out) hb); have n1_ := Aside0.mk (Kd.R_elder' (ra_ HO_19.out) (Kd.R_base ho0) hb); have n2_ := Aside0.mk (Kd.R_lower (Kd.R_new' ho0 (Kd.R_lt (ra_ HO_19.out))) (below_size hb_)); have n3_ := bb_ BK434 hb; have n4_ := bb_ BK435 hb; have n5_ := Aside0.mk (below_step hb_ hb); clear HO_13; clear HO_19; clear BK434; clear BK435; clear HB; have HO_13 := n0_; have HO_19 := n1_; have HO477 := n2_; have BK434 := n3_; have BK435 := n4_; have HB := n5_; clear n0_ n1_ n2_ n3_ n4_ n5_; (try clear hb); (try clear hb2); (try clear hk); (try clear hi); (try clear ho0); obtain ⟨Ao108, co108, eo108⟩ := Kd.R_slice HO477.out; subst eo108))
                           go_loopg [19, 159] k6 (fun kq v19 v159 w' => ∃ (x19_7 : List Int) (x159_7 : Int), v159 = .int .i64 x159_7 ∧ Aside0 (spec_l20Path.l7 kq l2 a3 x12_2 x13_4 x19_7 x20_6 (rd x19_6 (ji100)) t475 (t475.length : Int) x159_7 a0_0 l0_1 a1_0 a1_1 = some (r1, r2)) ∧ Aside0 (kq ≤ k6) ∧ Aside0 (Kd.S (Kd.slice 4 Kd.bool) 98 w' w.heap.size (fun _ => True) (.slice (some ad444) x13_4.length co23) x13_4) ∧ Aside0 (Kd.R (Kd.int .i64) 3 w' w.heap.size (fun k_ => some k_ ≠ ((.slice Ao108 t475.length co108) : Value).ownBlock) v19 x19_7) ∧ Aside0 (Kd.R (Kd.int .i64) 3 w' w.heap.size (fun k_ => some k_ ≠ (v19 : Value).ownBlock) (.slice Ao108 t475.length co108) t475) ∧ Aside0 (w'.heap[gb434]? = some (.cells #[.int .i64 a0_0, (.slice A0_1 l0_1.length c0_1)] 39 (0, 0))) ∧ Aside0 (w'.heap[gb435]? = some (.cells #[.int .i64 a1_0, .int .i64 a1_1] 49 (0, 0))) ∧ Aside0 (Below w.heap.size w w'))
                           case atStart => exact ⟨(x19_6), (0), es_, H', ⟨Nat.le_refl _⟩, ⟨by (try simp only [hl13_3]); (try simp only [hl13_4]); (with_reducible repeat (first | apply Kd.S_alloc | apply Kd.S_drewN | apply Kd.S_drew)); exact HO_13.out⟩, ⟨by (try simp only [hl13_3]); (try simp only [hl13_4]); (with_reducible repeat (first | apply Kd.R_alloc | apply Kd.R_drewN | apply Kd.R_drew)); exact Kd.R_mono HO_19.out (fun _ hk => hk.2)⟩, ⟨by (try simp only [hl13_3]); (try simp only [hl13_4]); (with_reducible repeat (first | apply Kd.R_alloc | apply Kd.R_drewN | apply Kd.R_drew)); exact Kd.R_mono HO477.out (fun _ hk => hk.2)⟩, ⟨by (try simp only [hl13_3]); (try simp only [hl13_4]); (with_reducible repeat (first | refine blk_drewN ?_ _ | refine blk_drew ?_ | refine blk_alloc ?_ _)); exact BK434.out⟩, ⟨by (try simp only [hl13_3]); (try simp only [hl13_4]); (with_reducible repeat (first | refine blk_drewN ?_ _ | refine blk_drew ?_ | refine blk_alloc ?_ _)); exact BK435.out⟩, ⟨hb_⟩⟩
                           case round =>
                            clear H'
                            try clear c1
                            try clear c2
                            try clear p2
                            try clear c4
                            try clear p4
                            try clear q4
                            try clear hx4
                            try clear qi4
                            try clear c5
                            try clear c6
                            try clear p6
                            try clear c7
                            try clear c8
                            try clear q8
                            try clear c9
                            try clear c10
                            try clear c42
                            try clear c42b0
                            try clear c43
                            try clear c43b0
                            try clear c45
                            try clear c46
                            try clear p46
                            try clear q46
                            try clear hx46
                            try clear qi46
                            try clear p47
                            try clear q47
                            try clear hx47
                            try clear c53
                            try clear c53b0
                            try clear c54
                            try clear c55
                            try clear c56
                            try clear c57
                            try clear c58
                            try clear c59
                            try clear p64
                            try clear c67
                            try clear c68
                            try clear c69
                            try clear c70
                            try clear c71
                            try clear c82
                            try clear c86
                            try clear c86b0
                            try clear c86b1
                            try clear c87
                            try clear c87b0
                            try clear c88
                            try clear c88b0
                            try clear q89
                            try clear c90
                            try clear c94
                            try clear c95
                            try clear c99
                            try clear c99b0
                            try clear c101
                            try clear c101b0
                            try clear c102
                            try clear c102b0
                            try clear c105
                            try clear hcz106_0
                            try clear hcz106_1
                            try clear hcz83_0
                            try clear hcz83_1
                            try clear hcz96_0
                            try clear hcz96_1
                            try clear hfz106_0
                            try clear hfz106_1
                            try clear hfz83_0
                            try clear hfz83_1
                            try clear hfz96_0
                            try clear hfz96_1
                            try clear hx468_0
                            try clear hx469_0
                            try clear hx474_0
                            try clear p2
                            try clear p4
                            try clear p46
                            try clear p468
                            try clear p469
                            try clear p474
                            try clear p6
                            try clear p64
                            try clear q4
                            try clear q46
                            try clear q468
                            try clear q469
                            try clear q474
                            try clear q8
                            try clear q89
                            obtain ⟨x19_7, x159_7, rfl, HA, HK7, HO_13, HO_19, HO_157, BK434, BK435, HB⟩ := hrel
                            cases gk with
                            | zero => exact absurd HA.out (by simp [spec_l20Path.l7])
                            | succ k7 =>
                             have H := HA.out
                             clear HA
                             simp only [spec_l20Path.l7] at H
                             by_cases c109 : x159_7 < (t475.length : Int)
                             ·rw [if_pos c109] at H
                              have c109b0 : decide (x159_7 < (t475.length : Int)) = true := decide_eq_true c109
                              (try simp only [hl13_3] at c109b0)
                              (try simp only [hl13_4] at c109b0)
                              clear c109
                              by_cases c110 : 0 ≤ x159_7
                              ·rw [if_pos c110] at H
                               have c110b0 : decide (0 ≤ x159_7) = true := decide_eq_true c110
                               clear c110
                               by_cases c111 : x159_7 < (t475.length : Int)
                               ·rw [if_pos c111] at H
                                have c111b0 : decide (x159_7 < (t475.length : Int)) = true := decide_eq_true c111
                                (try simp only [hl13_3] at c111b0)
                                (try simp only [hl13_4] at c111b0)
                                clear c111
                                by_cases c112 : 0 ≤ x20_6
                                ·rw [if_pos c112] at H
                                 have c112b0 : decide (0 ≤ x20_6) = true := decide_eq_true c112
                                 clear c112
                                 by_cases c113 : x20_6 < (x13_4.length : Int)
                                 ·rw [if_pos c113] at H
                                  have c113b0 : decide (x20_6 < (x13_4.length : Int)) = true := decide_eq_true c113
                                  (try simp only [hl13_3] at c113b0)
                                  (try simp only [hl13_4] at c113b0)
                                  clear c113
                                  by_cases c114 : 0 ≤ (rd t475 x159_7)
                                  ·rw [if_pos c114] at H
                                   have c114b0 : decide (0 ≤ (rd t475 x159_7)) = true := decide_eq_true c114
                                   clear c114
                                   by_cases c115 : (rd t475 x159_7) < ((rd_L5 x13_4 x20_6).length : Int)
                                   ·rw [if_pos c115] at H
                                    have c115b0 : decide ((rd t475 x159_7) < ((rd_L5 x13_4 x20_6).length : Int)) = true := decide_eq_true c115
                                    (try simp only [hl13_3] at c115b0)
                                    (try simp only [hl13_4] at c115b0)
                                    clear c115
                                    obtain ⟨bq116, hbq116⟩ : ∃ b_ : Bool, b_ = (rdOf false (rd_L5 x13_4 x20_6) (rd t475 x159_7)) := ⟨_, rfl⟩
                                    replace H : (if bq116 = true then ((spec_l20Free.f k7 l2 x20_6 (rd x19_6 (ji100)) (rd t475 x159_7)).bind fun t481 => (if t481 = true then (if x19_7.length < 17592186044416 then (spec_l20Path.l6 k7 l2 a3 x12_2 x13_4 (x19_7 ++ [rd t475 x159_7]) (wrap64 (x20_6 + 1)) a0_0 l0_1 a1_0 a1_1) else (none)) else (spec_l20Path.l7 k7 l2 a3 x12_2 x13_4 x19_7 x20_6 (rd x19_6 (ji100)) t475 (t475.length : Int) (wrap64 (x159_7 + 1)) a0_0 l0_1 a1_0 a1_1))) else (spec_l20Path.l7 k7 l2 a3 x12_2 x13_4 x19_7 x20_6 (rd x19_6 (ji100)) t475 (t475.length : Int) (wrap64 (x159_7 + 1)) a0_0 l0_1 a1_0 a1_1)) = some (r1, r2) := by rw [← hbq116] at H; exact H
                                    have Nbq116 := Aside0.mk hbq116
                                    clear hbq116
                                    by_cases c117 : bq116 = true
                                    ·subst c117
                                     rw [if_pos rfl] at H
                                     replace H := Option.bind_eq_some_iff.mp H
                                     obtain ⟨t481, A1180, H⟩ := H
                                     replace H : (if t481 = true then (if x19_7.length < 17592186044416 then (spec_l20Path.l6 k7 l2 a3 x12_2 x13_4 (x19_7 ++ [rd t475 x159_7]) (wrap64 (x20_6 + 1)) a0_0 l0_1 a1_0 a1_1) else (none)) else (spec_l20Path.l7 k7 l2 a3 x12_2 x13_4 x19_7 x20_6 (rd x19_6 (ji100)) t475 (t475.length : Int) (wrap64 (x159_7 + 1)) a0_0 l0_1 a1_0 a1_1)) = some (r1, r2) := H
                                     have A118 := Aside0.mk A1180
                                     clear A1180
                                     by_cases c119 : t481 = true
                                     ·subst c119
                                      rw [if_pos rfl] at H
                                      by_cases c120 : x19_7.length < 17592186044416
                                      ·rw [if_pos c120] at H
                                       have LMc120 := Aside0.mk c120
                                       clear c120
                                       obtain ⟨y482, hy482⟩ : ∃ y_ : List Int, y_ = (x19_7 ++ [rd t475 x159_7]) := ⟨_, rfl⟩
                                       replace H : (spec_l20Path.l6 k7 l2 a3 x12_2 x13_4 y482 (wrap64 (x20_6 + 1)) a0_0 l0_1 a1_0 a1_1) = some (r1, r2) := by first | (rw [hy482]; with_reducible exact H) | (have H2_ := (Option.bind_some _ _).symm.trans H; rw [hy482]; with_reducible exact H2_) | (have H2_ := (Option.bind_some _ _).symm.trans H; with_reducible exact H2_) | with_reducible exact H | (rw [hy482]; exact H) | exact H
                                       have Ny482 := Aside0.mk hy482
                                       clear hy482
                                       have H' := Aside0.mk H
                                       clear H
                                       have p478 : 0 ≤ (x159_7 : Int) := of_decide_eq_true as_
                                       have q478 : x159_7 < (t475.length : Int) := of_decide_eq_true as_
                                       obtain ⟨ad478, e478, hx478_0⟩ := Kd.at_int (Kd.R_reads' HO_157.out).2.2 x159_7 p478 q478
                                       cases e478
                                       replace p478 := eq_true p478
                                       replace q478 := eq_true q478
                                       have p479 : 0 ≤ (x20_6 : Int) := of_decide_eq_true as_
                                       have q479 : x20_6 < (x13_4.length : Int) := of_decide_eq_true as_
                                       obtain ⟨ad479, A479_0, c479_0, e479, hx479_0, hl479_0, hi479_0⟩ := at_L5 (Kd.S_reads' HO_13.out).2.2 x20_6 p479 q479
                                       obtain rfl : ad444 = ad479 := (by injection e479)
                                       obtain ⟨ce479, hce479, hMe479, hcc479⟩ := Kd.S_get HO_13.out [] x20_6 p479 (by first | exact q479 | exact of_decide_eq_true as_ | (have e_ := (Kd.S_reads' HO_13.out).1; omega))
                                       obtain ⟨ve479_0, rfl, ge479_0⟩ := hMe479
                                       have hv479_0 := hcc479 0 _ rfl
                                       rw [Nat.add_zero, show ((Kd.slice 4 Kd.bool)).sz = 1 from rfl, Nat.mul_one] at hv479_0
                                       replace hv479_0 := Option.some.inj (hv479_0.symm.trans hx479_0)
                                       rw [hv479_0] at ge479_0
                                       have HL479_0 := Aside0.mk (show Kd.R Kd.bool 4 _ _ _ _ (rd_L5 x13_4 x20_6) from ge479_0)
                                       clear hv479_0 ge479_0
                                       have HX479_0 := Aside0.mk hx479_0
                                       clear hcc479 hce479
                                       have HR479_0 := Aside0.mk hi479_0
                                       have HC479_0 := Aside0.mk hl479_0
                                       clear hi479_0 hl479_0
                                       replace p479 := eq_true p479
                                       replace q479 := eq_true q479
                                       have p480 : 0 ≤ ((rd t475 x159_7) : Int) := of_decide_eq_true as_
                                       have q480 : (rd t475 x159_7) < ((rd_L5 x13_4 x20_6).length : Int) := of_decide_eq_true as_
                                       obtain ⟨ad480, e480, hx480_0⟩ := Kd.at_bool (by repeat (first | (with_reducible exact HR479_0.out) | (with_reducible refine Kd.C_alloc ?_ _) | (with_reducible refine Kd.C_drewN ?_ _) | (with_reducible refine Kd.C_drew ?_) | exact HR479_0.out)) (rd t475 x159_7) p480 q480
                                       (try rw [← Nbq116.out] at hx480_0)
                                       cases e480
                                       replace p480 := eq_true p480
                                       replace q480 := eq_true q480
                                       go_wp2_with (first | (go_at_call 71; (with_reducible refine (spec_l20Free.calls k7 _ _ l2 x20_6 (rd x19_6 (ji100)) (rd t475 x159_7) true _ ?side1 ?side2 A118.out).mono ?_); (case side1 => exact cb_ HR2.out); (case side2 => exact HC2.out); rintro e w' ⟨rfl, ⟨nd, rfl⟩⟩) | ((with_reducible refine gate_builtin (b := .append) (xs := #[.tmp 177, .tmp 179]) rfl ?_); at_builtin; refine Kd.R_append (Kd.int .i64) (w0 := w) w.heap.size rfl (.tmp 177) (.tmp 179) 22 3 (.int .i64 0) 8 rfl Try.underlying22 info3 rfl (by decide) (by omega) u19 x19_7 (rd t475 x159_7) [.int .i64 (rd t475 x159_7)] (fun k_ => some k_ ≠ (.slice (some ad478) t475.length co108 : Value).ownBlock) (fun _ => False) rfl rfl ?aP (fun _ hk => hk.elim) ?aF ?aO ?aB ?aS ?aL ?_; (case aP => exact rfl); (case aB => exact hb_); (case aF => exact (fun k_ hk => Kd.fresh' (Kd.R_lt (ra_ HO_157.out)) k_ hk)); (case aO => exact (ra_ HO_19.out)); (case aS => exact (below_size hb_)); (case aL => have := LMc120.out; omega); intro v483 w121 ho hb hg hat; rw [← Ny482.out] at ho; have n0_ := Aside0.mk (Kd.S_over' (sa_ HO_13.out) (Kd.R_typed (ra_ HO_19.out)) (by decide) hg); have n1_ := Aside0.mk (Kd.R_after (ok := (fun _ => True)) (by (with_reducible repeat (first | apply Kd.R_alloc | apply Kd.R_drewN | apply Kd.R_drew)); exact Kd.R_mono HO_157.out (fun _ hk => ⟨trivial, hk⟩)) hg hat); have n2_ := Aside0.mk (blk_grown (g := gb434) (o := .cells #[.int .i64 a0_0, .slice A0_1 l0_1.length c0_1] 39 (0, 0)) (bk_ BK434.out) hg (Kd.R_ne HO_19.out BK434.out (by decide))); have n3_ := Aside0.mk (blk_grown (g := gb435) (o := .cells #[.int .i64 a1_0, .int .i64 a1_1] 49 (0, 0)) (bk_ BK435.out) hg (Kd.R_ne HO_19.out BK435.out (by decide))); have n4_ := Aside0.mk (Kd.R_over' (ra_ HL479_0.out) (Kd.R_typed (ra_ HO_19.out)) (by decide) hg); have n5_ := Aside0.mk (hb); have n6_ := Aside0.mk (ho); clear HO_13; clear HO_157; clear BK434; clear BK435; clear HL479_0; clear HB; clear HO_19; have HO_13 := n0_; have HO_157 := n1_; have BK434 := n2_; have BK435 := n3_; have HL479_0 := n4_; have HB := n5_; have HO484 := n6_; clear n0_ n1_ n2_ n3_ n4_ n5_ n6_; clear ho hb hg hat))
                                       go_roundg k7
                                       case measure => have := HJ4.out; have := HK2.out; have := HK3.out; have := HK4.out; have := HJ84.out; have := HK6.out; have := HK7.out; omega
                                       case rel => exact ⟨(y482), (wrap64 (x20_6 + 1)), es_, H', ⟨by have := HJ4.out; have := HK2.out; have := HK3.out; have := HK4.out; have := HJ84.out; have := HK6.out; have := HK7.out; omega⟩, ⟨by (try simp only [hl13_3]); (try simp only [hl13_4]); (with_reducible repeat (first | apply Kd.S_alloc | apply Kd.S_drewN | apply Kd.S_drew)); exact HO_13.out⟩, ⟨by (try simp only [hl13_3]); (try simp only [hl13_4]); (with_reducible repeat (first | apply Kd.R_alloc | apply Kd.R_drewN | apply Kd.R_drew)); exact Kd.R_mono HO484.out (fun _ hk => trivial)⟩, ⟨by (try simp only [hl13_3]); (try simp only [hl13_4]); (with_reducible repeat (first | refine blk_drewN ?_ _ | refine blk_drew ?_ | refine blk_alloc ?_ _)); exact BK434.out⟩, ⟨by (try simp only [hl13_3]); (try simp only [hl13_4]); (with_reducible repeat (first | refine blk_drewN ?_ _ | refine blk_drew ?_ | refine blk_alloc ?_ _)); exact BK435.out⟩, ⟨hb_⟩⟩
                                      ·rw [if_neg c120] at H
                                       exact absurd H (by simp)
                                     ·replace c119 := Bool.eq_false_iff.mpr c119
                                      subst c119
                                      rw [if_neg (show ¬ (false = true) by decide)] at H
                                      have H' := Aside0.mk H
                                      clear H
                                      have p478 : 0 ≤ (x159_7 : Int) := of_decide_eq_true as_
                                      have q478 : x159_7 < (t475.length : Int) := of_decide_eq_true as_
                                      obtain ⟨ad478, e478, hx478_0⟩ := Kd.at_int (Kd.R_reads' HO_157.out).2.2 x159_7 p478 q478
                                      cases e478
                                      replace p478 := eq_true p478
                                      replace q478 := eq_true q478
                                      have p479 : 0 ≤ (x20_6 : Int) := of_decide_eq_true as_
                                      have q479 : x20_6 < (x13_4.length : Int) := of_decide_eq_true as_
                                      obtain ⟨ad479, A479_0, c479_0, e479, hx479_0, hl479_0, hi479_0⟩ := at_L5 (Kd.S_reads' HO_13.out).2.2 x20_6 p479 q479
                                      obtain rfl : ad444 = ad479 := (by injection e479)
                                      obtain ⟨ce479, hce479, hMe479, hcc479⟩ := Kd.S_get HO_13.out [] x20_6 p479 (by first | exact q479 | exact of_decide_eq_true as_ | (have e_ := (Kd.S_reads' HO_13.out).1; omega))
                                      obtain ⟨ve479_0, rfl, ge479_0⟩ := hMe479
                                      have hv479_0 := hcc479 0 _ rfl
                                      rw [Nat.add_zero, show ((Kd.slice 4 Kd.bool)).sz = 1 from rfl, Nat.mul_one] at hv479_0
                                      replace hv479_0 := Option.some.inj (hv479_0.symm.trans hx479_0)
                                      rw [hv479_0] at ge479_0
                                      have HL479_0 := Aside0.mk (show Kd.R Kd.bool 4 _ _ _ _ (rd_L5 x13_4 x20_6) from ge479_0)
                                      clear hv479_0 ge479_0
                                      have HX479_0 := Aside0.mk hx479_0
                                      clear hcc479 hce479
                                      have HR479_0 := Aside0.mk hi479_0
                                      have HC479_0 := Aside0.mk hl479_0
                                      clear hi479_0 hl479_0
                                      replace p479 := eq_true p479
                                      replace q479 := eq_true q479
                                      have p480 : 0 ≤ ((rd t475 x159_7) : Int) := of_decide_eq_true as_
                                      have q480 : (rd t475 x159_7) < ((rd_L5 x13_4 x20_6).length : Int) := of_decide_eq_true as_
                                      obtain ⟨ad480, e480, hx480_0⟩ := Kd.at_bool (by repeat (first | (with_reducible exact HR479_0.out) | (with_reducible refine Kd.C_alloc ?_ _) | (with_reducible refine Kd.C_drewN ?_ _) | (with_reducible refine Kd.C_drew ?_) | exact HR479_0.out)) (rd t475 x159_7) p480 q480
                                      (try rw [← Nbq116.out] at hx480_0)
                                      cases e480
                                      replace p480 := eq_true p480
                                      replace q480 := eq_true q480
                                      go_wp2_with (first | (go_at_call 71; (with_reducible refine (spec_l20Free.calls k7 _ _ l2 x20_6 (rd x19_6 (ji100)) (rd t475 x159_7) false _ ?side1 ?side2 A118.out).mono ?_); (case side1 => exact cb_ HR2.out); (case side2 => exact HC2.out); rintro e w' ⟨rfl, ⟨nd, rfl⟩⟩))
                                      go_roundg k7
                                      case measure => have := HJ4.out; have := HK2.out; have := HK3.out; have := HK4.out; have := HJ84.out; have := HK6.out; have := HK7.out; omega
                                      case rel => exact ⟨(x19_7), (wrap64 (x159_7 + 1)), es_, H', ⟨by have := HJ4.out; have := HK2.out; have := HK3.out; have := HK4.out; have := HJ84.out; have := HK6.out; have := HK7.out; omega⟩, ⟨by (try simp only [hl13_3]); (try simp only [hl13_4]); (with_reducible repeat (first | apply Kd.S_alloc | apply Kd.S_drewN | apply Kd.S_drew)); exact HO_13.out⟩, ⟨by (try simp only [hl13_3]); (try simp only [hl13_4]); (with_reducible repeat (first | apply Kd.R_alloc | apply Kd.R_drewN | apply Kd.R_drew)); exact HO_19.out⟩, ⟨by (try simp only [hl13_3]); (try simp only [hl13_4]); (with_reducible repeat (first | apply Kd.R_alloc | apply Kd.R_drewN | apply Kd.R_drew)); exact HO_157.out⟩, ⟨by (try simp only [hl13_3]); (try simp only [hl13_4]); (with_reducible repeat (first | refine blk_drewN ?_ _ | refine blk_drew ?_ | refine blk_alloc ?_ _)); exact BK434.out⟩, ⟨by (try simp only [hl13_3]); (try simp only [hl13_4]); (with_reducible repeat (first | refine blk_drewN ?_ _ | refine blk_drew ?_ | refine blk_alloc ?_ _)); exact BK435.out⟩, ⟨hb_⟩⟩
                                    ·replace c117 := Bool.eq_false_iff.mpr c117
                                     subst c117
                                     rw [if_neg (show ¬ (false = true) by decide)] at H
                                     have H' := Aside0.mk H
                                     clear H
                                     have p478 : 0 ≤ (x159_7 : Int) := of_decide_eq_true as_
                                     have q478 : x159_7 < (t475.length : Int) := of_decide_eq_true as_
                                     obtain ⟨ad478, e478, hx478_0⟩ := Kd.at_int (Kd.R_reads' HO_157.out).2.2 x159_7 p478 q478
                                     cases e478
                                     replace p478 := eq_true p478
                                     replace q478 := eq_true q478
                                     have p479 : 0 ≤ (x20_6 : Int) := of_decide_eq_true as_
                                     have q479 : x20_6 < (x13_4.length : Int) := of_decide_eq_true as_
                                     obtain ⟨ad479, A479_0, c479_0, e479, hx479_0, hl479_0, hi479_0⟩ := at_L5 (Kd.S_reads' HO_13.out).2.2 x20_6 p479 q479
                                     obtain rfl : ad444 = ad479 := (by injection e479)
                                     obtain ⟨ce479, hce479, hMe479, hcc479⟩ := Kd.S_get HO_13.out [] x20_6 p479 (by first | exact q479 | exact of_decide_eq_true as_ | (have e_ := (Kd.S_reads' HO_13.out).1; omega))
                                     obtain ⟨ve479_0, rfl, ge479_0⟩ := hMe479
                                     have hv479_0 := hcc479 0 _ rfl
                                     rw [Nat.add_zero, show ((Kd.slice 4 Kd.bool)).sz = 1 from rfl, Nat.mul_one] at hv479_0
                                     replace hv479_0 := Option.some.inj (hv479_0.symm.trans hx479_0)
                                     rw [hv479_0] at ge479_0
                                     have HL479_0 := Aside0.mk (show Kd.R Kd.bool 4 _ _ _ _ (rd_L5 x13_4 x20_6) from ge479_0)
                                     clear hv479_0 ge479_0
                                     have HX479_0 := Aside0.mk hx479_0
                                     clear hcc479 hce479
                                     have HR479_0 := Aside0.mk hi479_0
                                     have HC479_0 := Aside0.mk hl479_0
                                     clear hi479_0 hl479_0
                                     replace p479 := eq_true p479
                                     replace q479 := eq_true q479
                                     have p480 : 0 ≤ ((rd t475 x159_7) : Int) := of_decide_eq_true as_
                                     have q480 : (rd t475 x159_7) < ((rd_L5 x13_4 x20_6).length : Int) := of_decide_eq_true as_
                                     obtain ⟨ad480, e480, hx480_0⟩ := Kd.at_bool (by repeat (first | (with_reducible exact HR479_0.out) | (with_reducible refine Kd.C_alloc ?_ _) | (with_reducible refine Kd.C_drewN ?_ _) | (with_reducible refine Kd.C_drew ?_) | exact HR479_0.out)) (rd t475 x159_7) p480 q480
                                     (try rw [← Nbq116.out] at hx480_0)
                                     cases e480
                                     replace p480 := eq_true p480
                                     replace q480 := eq_true q480
                                     go_wp2
                                     go_roundg k7
                                     case measure => have := HJ4.out; have := HK2.out; have := HK3.out; have := HK4.out; have := HJ84.out; have := HK6.out; have := HK7.out; omega
                                     case rel => exact ⟨(x19_7), (wrap64 (x159_7 + 1)), es_, H', ⟨by have := HJ4.out; have := HK2.out; have := HK3.out; have := HK4.out; have := HJ84.out; have := HK6.out; have := HK7.out; omega⟩, ⟨by (try simp only [hl13_3]); (try simp only [hl13_4]); (with_reducible repeat (first | apply Kd.S_alloc | apply Kd.S_drewN | apply Kd.S_drew)); exact HO_13.out⟩, ⟨by (try simp only [hl13_3]); (try simp only [hl13_4]); (with_reducible repeat (first | apply Kd.R_alloc | apply Kd.R_drewN | apply Kd.R_drew)); exact HO_19.out⟩, ⟨by (try simp only [hl13_3]); (try simp only [hl13_4]); (with_reducible repeat (first | apply Kd.R_alloc | apply Kd.R_drewN | apply Kd.R_drew)); exact HO_157.out⟩, ⟨by (try simp only [hl13_3]); (try simp only [hl13_4]); (with_reducible repeat (first | refine blk_drewN ?_ _ | refine blk_drew ?_ | refine blk_alloc ?_ _)); exact BK434.out⟩, ⟨by (try simp only [hl13_3]); (try simp only [hl13_4]); (with_reducible repeat (first | refine blk_drewN ?_ _ | refine blk_drew ?_ | refine blk_alloc ?_ _)); exact BK435.out⟩, ⟨hb_⟩⟩
                                   ·rw [if_neg c115] at H
                                    exact absurd H (by simp)
                                  ·rw [if_neg c114] at H
                                   exact absurd H (by simp)
                                 ·rw [if_neg c113] at H
                                  exact absurd H (by simp)
                                ·rw [if_neg c112] at H
                                 exact absurd H (by simp)
                               ·rw [if_neg c111] at H
                                exact absurd H (by simp)
                              ·rw [if_neg c110] at H
                               exact absurd H (by simp)
                             ·rw [if_neg c109] at H
                              have c109b0 : decide (x159_7 < (t475.length : Int)) = false := decide_eq_false c109
                              (try simp only [hl13_3] at c109b0)
                              (try simp only [hl13_4] at c109b0)
                              clear c109
                              have H' := Aside0.mk H
                              clear H
                              go_wp2
                              go_roundg k7
                              case measure => have := HJ4.out; have := HK2.out; have := HK3.out; have := HK4.out; have := HJ84.out; have := HK6.out; have := HK7.out; omega
                              case rel => exact ⟨(x19_7), (wrap64 (x20_6 + 1)), es_, H', ⟨by have := HJ4.out; have := HK2.out; have := HK3.out; have := HK4.out; have := HJ84.out; have := HK6.out; have := HK7.out; omega⟩, ⟨by (try simp only [hl13_3]); (try simp only [hl13_4]); (with_reducible repeat (first | apply Kd.S_alloc | apply Kd.S_drewN | apply Kd.S_drew)); exact HO_13.out⟩, ⟨by (try simp only [hl13_3]); (try simp only [hl13_4]); (with_reducible repeat (first | apply Kd.R_alloc | apply Kd.R_drewN | apply Kd.R_drew)); exact Kd.R_mono HO_19.out (fun _ hk => trivial)⟩, ⟨by (try simp only [hl13_3]); (try simp only [hl13_4]); (with_reducible repeat (first | refine blk_drewN ?_ _ | refine blk_drew ?_ | refine blk_alloc ?_ _)); exact BK434.out⟩, ⟨by (try simp only [hl13_3]); (try simp only [hl13_4]); (with_reducible repeat (first | refine blk_drewN ?_ _ | refine blk_drew ?_ | refine blk_alloc ?_ _)); exact BK435.out⟩, ⟨hb_⟩⟩
                          ·rw [if_neg c102] at H
                           exact absurd H (by simp)
                         ·rw [if_neg c101] at H
                          exact absurd H (by simp)
                        ·rw [if_neg c99] at H
                         have c99b0 : decide (x20_6 ≤ x12_2) = false := decide_eq_false c99
                         clear c99
                         have H' := Aside0.mk H
                         clear H
                         go_wp2
                         go_loopg [19] k6 (fun kq v19 w' => ∃ (x19_7 : List Int), Aside0 (spec_l20Path.l8 kq a3 x19_7 a1_0 a1_1 = some (r1, r2)) ∧ Aside0 (kq ≤ k6) ∧ Aside0 (Kd.R (Kd.int .i64) 3 w' w.heap.size (fun _ => True) v19 x19_7) ∧ Aside0 (w'.heap[gb434]? = some (.cells #[.int .i64 a0_0, (.slice A0_1 l0_1.length c0_1)] 39 (0, 0))) ∧ Aside0 (w'.heap[gb435]? = some (.cells #[.int .i64 a1_0, .int .i64 a1_1] 49 (0, 0))) ∧ Aside0 (Below w.heap.size w w'))
                         case atStart => exact ⟨(x19_6), H', ⟨Nat.le_refl _⟩, ⟨by (try simp only [hl13_3]); (try simp only [hl13_4]); (with_reducible repeat (first | apply Kd.R_alloc | apply Kd.R_drewN | apply Kd.R_drew)); exact HO_19.out⟩, ⟨by (try simp only [hl13_3]); (try simp only [hl13_4]); (with_reducible repeat (first | refine blk_drewN ?_ _ | refine blk_drew ?_ | refine blk_alloc ?_ _)); exact BK434.out⟩, ⟨by (try simp only [hl13_3]); (try simp only [hl13_4]); (with_reducible repeat (first | refine blk_drewN ?_ _ | refine blk_drew ?_ | refine blk_alloc ?_ _)); exact BK435.out⟩, ⟨hb_⟩⟩
                         case round =>
                          clear H'
                          try clear c1
                          try clear q1
                          try clear c2
                          try clear p2
                          try clear c4
                          try clear p4
                          try clear q4
                          try clear hx4
                          try clear qi4
                          try clear c5
                          try clear c6
                          try clear p6
                          try clear c7
                          try clear c8
                          try clear q8
                          try clear c9
                          try clear c10
                          try clear c11
                          try clear q11
                          try clear c12
                          try clear c42
                          try clear c42b0
                          try clear c43
                          try clear c43b0
                          try clear c45
                          try clear c46
                          try clear p46
                          try clear q46
                          try clear hx46
                          try clear qi46
                          try clear c47
                          try clear p47
                          try clear q47
                          try clear hx47
                          try clear p48
                          try clear q48
                          try clear hx48
                          try clear c53
                          try clear c53b0
                          try clear c54
                          try clear c55
                          try clear c56
                          try clear c57
                          try clear c58
                          try clear c59
                          try clear p64
                          try clear c67
                          try clear c68
                          try clear c69
                          try clear c70
                          try clear c71
                          try clear c82
                          try clear c86
                          try clear c86b0
                          try clear c86b1
                          try clear c87
                          try clear c87b0
                          try clear c88
                          try clear c88b0
                          try clear q89
                          try clear c90
                          try clear c94
                          try clear c95
                          try clear c99
                          try clear c99b0
                          try clear c101
                          try clear c101b0
                          try clear c102
                          try clear c102b0
                          try clear c105
                          try clear c109
                          try clear c109b0
                          try clear c110
                          try clear c110b0
                          try clear c111
                          try clear c111b0
                          try clear c112
                          try clear c112b0
                          try clear c113
                          try clear c113b0
                          try clear c114
                          try clear c114b0
                          try clear c115
                          try clear c115b0
                          try clear q116
                          try clear c117
                          try clear c119
                          try clear c120
                          try clear hcz106_0
                          try clear hcz106_1
                          try clear hcz83_0
                          try clear hcz83_1
                          try clear hcz96_0
                          try clear hcz96_1
                          try clear hfz106_0
                          try clear hfz106_1
                          try clear hfz83_0
                          try clear hfz83_1
                          try clear hfz96_0
                          try clear hfz96_1
                          try clear hx468_0
                          try clear hx469_0
                          try clear hx474_0
                          try clear hx478_0
                          try clear hx479_0
                          try clear hx480_0
                          try clear p2
                          try clear p4
                          try clear p46
                          try clear p468
                          try clear p469
                          try clear p47
                          try clear p474
                          try clear p478
                          try clear p479
                          try clear p480
                          try clear p6
                          try clear p64
                          try clear q4
                          try clear q46
                          try clear q468
                          try clear q469
                          try clear q47
                          try clear q474
                          try clear q478
                          try clear q479
                          try clear q480
                          try clear q8
                          try clear q89
                          obtain ⟨x19_7, HA, HK7, HO_19, BK434, BK435, HB⟩ := hrel
                          cases gk with
                          | zero => exact absurd HA.out (by simp [spec_l20Path.l8])
                          | succ k7 =>
                           have H := HA.out
                           clear HA
                           simp only [spec_l20Path.l8] at H
                           by_cases c122 : (x19_7.length : Int) ≤ a3
                           ·rw [if_pos c122] at H
                            have c122b0 : decide ((x19_7.length : Int) ≤ a3) = true := decide_eq_true c122
                            (try simp only [hl13_3] at c122b0)
                            (try simp only [hl13_4] at c122b0)
                            clear c122
                            by_cases c123 : x19_7.length < 17592186044416
                            ·rw [if_pos c123] at H
                             have LMc123 := Aside0.mk c123
                             clear c123
                             obtain ⟨y485, hy485⟩ : ∃ y_ : List Int, y_ = (x19_7 ++ [a1_1]) := ⟨_, rfl⟩
                             replace H : (spec_l20Path.l8 k7 a3 y485 a1_0 a1_1) = some (r1, r2) := by first | (rw [hy485]; with_reducible exact H) | (have H2_ := (Option.bind_some _ _).symm.trans H; rw [hy485]; with_reducible exact H2_) | (have H2_ := (Option.bind_some _ _).symm.trans H; with_reducible exact H2_) | with_reducible exact H | (rw [hy485]; exact H) | exact H
                             have Ny485 := Aside0.mk hy485
                             clear hy485
                             have H' := Aside0.mk H
                             clear H
                             obtain ⟨Ao124, co124, eo124⟩ := Kd.R_slice HO_19.out
                             subst eo124
                             have hnb125 := NB435_434.out
                             have hnc125 := NB434_435.out
                             have hcz126_0 : wr.cell? ⟨gb435, 0, none⟩ = some (.int .i64 a1_0) := (blk_cell BK435.out 0).trans rfl
                             have hcz126_1 : wr.cell? ⟨gb435, 1, none⟩ = some (.int .i64 a1_1) := (blk_cell BK435.out 1).trans rfl
                             have hfz126_0 := blk_frozen BK435.out 0
                             have hfz126_1 := blk_frozen BK435.out 1
                             go_wp2_with (first | ((with_reducible refine gate_builtin (b := .append) (xs := #[.tmp 186, .tmp 189]) rfl ?_); at_builtin; refine Kd.R_append (Kd.int .i64) (w0 := w) w.heap.size rfl (.tmp 186) (.tmp 189) 22 3 (.int .i64 0) 8 rfl Try.underlying22 info3 rfl (by decide) (by omega) (.slice Ao124 x19_7.length co124) x19_7 a1_1 [.int .i64 a1_1] (fun _ => True) (fun _ => False) rfl rfl ?aP (fun _ hk => hk.elim) ?aF ?aO ?aB ?aS ?aL ?_; (case aP => exact rfl); (case aB => exact hb_); (case aF => exact (fun _ _ => trivial)); (case aO => exact (ra_ HO_19.out)); (case aS => exact (below_size hb_)); (case aL => have := LMc123.out; omega); intro v486 w127 ho hb hg hat; rw [← Ny485.out] at ho; have n0_ := Aside0.mk (blk_grown (g := gb434) (o := .cells #[.int .i64 a0_0, .slice A0_1 l0_1.length c0_1] 39 (0, 0)) (bk_ BK434.out) hg (Kd.R_ne HO_19.out BK434.out (by decide))); have n1_ := Aside0.mk (blk_grown (g := gb435) (o := .cells #[.int .i64 a1_0, .int .i64 a1_1] 49 (0, 0)) (bk_ BK435.out) hg (Kd.R_ne HO_19.out BK435.out (by decide))); have n2_ := Aside0.mk (hb); have n3_ := Aside0.mk (ho); clear BK434; clear BK435; clear HB; clear HO_19; have BK434 := n0_; have BK435 := n1_; have HB := n2_; have HO487 := n3_; clear n0_ n1_ n2_ n3_; clear ho hb hg hat))
                             go_roundg k7
                             case measure => have := HJ4.out; have := HK2.out; have := HK3.out; have := HK4.out; have := HJ84.out; have := HK6.out; have := HK7.out; omega
                             case rel => exact ⟨(y485), H', ⟨by have := HJ4.out; have := HK2.out; have := HK3.out; have := HK4.out; have := HJ84.out; have := HK6.out; have := HK7.out; omega⟩, ⟨by (try simp only [hl13_3]); (try simp only [hl13_4]); (with_reducible repeat (first | apply Kd.R_alloc | apply Kd.R_drewN | apply Kd.R_drew)); exact HO487.out⟩, ⟨by (try simp only [hl13_3]); (try simp only [hl13_4]); (with_reducible repeat (first | refine blk_drewN ?_ _ | refine blk_drew ?_ | refine blk_alloc ?_ _)); exact BK434.out⟩, ⟨by (try simp only [hl13_3]); (try simp only [hl13_4]); (with_reducible repeat (first | refine blk_drewN ?_ _ | refine blk_drew ?_ | refine blk_alloc ?_ _)); exact BK435.out⟩, ⟨hb_⟩⟩
                            ·rw [if_neg c123] at H
                             exact absurd H (by simp)
                           ·rw [if_neg c122] at H
                            have c122b0 : decide ((x19_7.length : Int) ≤ a3) = false := decide_eq_false c122
                            (try simp only [hl13_3] at c122b0)
                            (try simp only [hl13_4] at c122b0)
                            clear c122
                            simp only [Option.some.injEq, Prod.mk.injEq] at H
                            obtain ⟨rfl, rfl⟩ := H
                            obtain ⟨Ao128, co128, eo128⟩ := Kd.R_slice HO_19.out
                            subst eo128
                            go_wp2
                            go_ret2
                            exact ⟨_, by first | rfl | (simp [errW_none, errW_some] <;> rfl) | (simp only [← hji18]; first | rfl | (simp [errW_none, errW_some] <;> rfl)) | (simp [*, errW_none, errW_some] <;> rfl), by (with_reducible repeat (first | apply Kd.R_alloc | apply Kd.R_drewN | apply Kd.R_drew)); exact HO_19.out, hb_⟩
               ·rw [if_neg c37] at H
                exact absurd H (by simp)
              ·rw [if_neg c36] at H
               exact absurd H (by simp)
             ·rw [if_neg c35] at H
              exact absurd H (by simp)
            ·rw [if_neg c34] at H
             exact absurd H (by simp)
        ·rw [if_neg c20] at H
         exact absurd H (by simp)
       ·rw [if_neg c19] at H
        exact absurd H (by simp)
      ·rw [if_neg c17] at H
       have c17b0 : decide (x12_2 ≤ a3) = false := decide_eq_false c17
       clear c17
       simp only [Option.some.injEq, Prod.mk.injEq] at H
       obtain ⟨rfl, rfl⟩ := H
       go_wp2
       go_ret2
       exact ⟨_, er_, by first | exact Kd.R_nil _ _ _ _ _ | exact Kd.N_nil _ _ _ _ _ | exact Kd.V_nil _ _ _ _ _ | exact Kd.Q_nil _ _ _ _ _ | exact Kd.S_nil _ _ _ _ _, hb_⟩

end Go.Proofs.Ytcldlljnaijmhaa.Pr
