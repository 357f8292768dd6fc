-- Joined and pruned by wip/tools/prune.py out of this session's own texts (Pr22, HJoint)
import Derived.Test.YtcldlljnaijmhaaZjt8
import Derived.Outline
-- Written by this session's own print (wip/tools/mkmp.py) out of the translation. Lean checks it.
namespace Go.Proofs.Ytcldlljnaijmhaa.Pr
open Go.RowKit Go.Proofs.YtcldlljnaijmhaaW.PrintWords Go.Proofs.YtcldlljnaijmhaaW.PrintLast Go.Proofs.YtcldlljnaijmhaaW.PrintMore
attribute [local go_sem] max2_int min2_int max_two min_two max_three min_three max_four min_four   -- for this text's walks alone
set_option linter.unusedVariables false
set_option linter.unusedSimpArgs false

set_option maxHeartbeats 8000000 in
set_option maxRecDepth 100000 in
theorem impl_meets.calls (a0 : Int) (a1 : Int) (a2 : Int) (a3 : Int) (r : Bool) (w : World) (h : impl_meets.f a0 a1 a2 a3 = some r) :
   Calls Try.prog 59 #[.int .i64 a0, .int .i64 a1, .int .i64 a2, .int .i64 a3] w fun e w' => e = .returned (.bool r) ∧ Drawn0 w w' := by
  have H : (if a1 = a3 then (some true) else (if a0 = a3 then (some (a1 == a2)) else (some false))) = some r := h
  clear h
  by_cases c5 : a1 = a3
  ·rw [if_pos c5] at H
   have c5b0 : (a1 == a3) = true := beq_iff_eq.mpr c5
   have c5b1 : (a1 != a3) = false := bne_eq_false_iff_eq.mpr c5
   clear c5
   obtain rfl := Option.some.inj H
   go_enter Try.func59, Try.ntmps59
   go_wp2
   go_ret
   exact ⟨es_, by repeat (first | exact Drawn0.refl _ | apply Drawn0.step)⟩
  ·rw [if_neg c5] at H
   have c5b0 : (a1 == a3) = false := beq_eq_false_iff_ne.mpr c5
   have c5b1 : (a1 != a3) = true := bne_iff_ne.mpr c5
   by_cases c6 : a0 = a3
   ·rw [if_pos c6] at H
    have c6b0 : (a0 == a3) = true := beq_iff_eq.mpr c6
    have c6b1 : (a0 != a3) = false := bne_eq_false_iff_eq.mpr c6
    clear c6
    obtain rfl := Option.some.inj H
    go_enter Try.func59, Try.ntmps59
    go_wp2
    go_ret
    exact ⟨es_, by repeat (first | exact Drawn0.refl _ | apply Drawn0.step)⟩
   ·rw [if_neg c6] at H
    have c6b0 : (a0 == a3) = false := beq_eq_false_iff_ne.mpr c6
    have c6b1 : (a0 != a3) = true := bne_iff_ne.mpr c6
    obtain rfl := Option.some.inj H
    go_enter Try.func59, Try.ntmps59
    go_wp2
    go_ret
    exact ⟨es_, by repeat (first | exact Drawn0.refl _ | apply Drawn0.step)⟩

end Go.Proofs.Ytcldlljnaijmhaa.Pr
/-
Own text, by hand: the walk of JointTicks (gen-joint.py).
-/
namespace Go.Proofs.Ytcldlljnaijmhaa.Pr
open Go.RowKit Go.Proofs.YtcldlljnaijmhaaW.PrintWords Go.Proofs.YtcldlljnaijmhaaW.PrintLast Go.Proofs.YtcldlljnaijmhaaW.PrintMore Go.Proofs.Ytcldlljnaijmhaa.Mp
open Bfs (Run relax open_)
set_option linter.unusedVariables false
set_option linter.unusedSimpArgs false

theorem keyP : Key Try.prog 79 ekp := Key.pair Try.underlying79 (by kernel_rfl) (by decide) (by decide) Try.underlying3 Try.underlying3 rfl rfl
/-- Two numbers, as a struct's cells. -/
def kp : Kd (Int × Int) := Kd.pair (Kd.int .i64) (Kd.int .i64)
theorem kp_openM {w : World} {base : Nat} {ok : Nat → Prop} {x : Int × Int} {cs : List Value} (h : kp.M w base ok x cs) : cs = [.int .i64 x.1, .int .i64 x.2] := by
  obtain ⟨c1, c2, rfl, h1, h2⟩ := h
  rw [show c1 = [.int .i64 x.1] from h1, show c2 = [.int .i64 x.2] from h2]
  rfl
theorem kp_mkM (w : World) (base : Nat) (ok : Nat → Prop) (x : Int × Int) : kp.M w base ok x [.int .i64 x.1, .int .i64 x.2] := ⟨[.int .i64 x.1], [.int .i64 x.2], rfl, rfl, rfl⟩
theorem info79 : (Try.prog.info? 79).map (fun i => (i.zero, i.size, i.bytes)) = some (some (.agg #[(.int .i64 0), (.int .i64 0)]), 2, 16) := by kernel_rfl
/-- One round of the search. -/
theorem run_cons2 {nx : Int × Int → List (Int × Int)} {g : Nat} {D D' : List ((Int × Int) × Int)} {Q : List (Int × Int)} (h : Run nx g D Q D') (hq : 0 < Q.length) : ∃ g' d, g = g' + 1 ∧ lk D (Q.getD 0 (0, 0)) = some d ∧ Run nx g' (relax d D (Q.drop 1) (nx (Q.getD 0 (0, 0)))).1 (relax d D (Q.drop 1) (nx (Q.getD 0 (0, 0)))).2 D' := by
  cases h with
  | done => simp at hq
  | step hd hr => exact ⟨_, _, rfl, hd, hr⟩
theorem run_nil2 {nx : Int × Int → List (Int × Int)} {g : Nat} {D D' : List ((Int × Int) × Int)} {Q : List (Int × Int)} (h : Run nx g D Q D') (hq : ¬ 0 < Q.length) : D = D' := by
  cases h with
  | done => rfl
  | step hd hr => simp at hq
theorem run_kept_of {nx : Int × Int → List (Int × Int)} {g : Nat} {D D' : List ((Int × Int) × Int)} {Q : List (Int × Int)} (h : Run nx g D Q D') {x : Int × Int} {e : Int} (hx : lk D x = some e) : lk D' x = some e := Bfs.run_kept h hx
theorem head_or {Q : List (Int × Int)} (hq : 0 < Q.length) {t : Int × Int} (h : t ∈ Q) : Q.getD 0 (0, 0) = t ∨ t ∈ Q.drop 1 := by
  cases Q with
  | nil => simp at hq
  | cons a l =>
    rcases List.mem_cons.1 h with e | h
    · exact .inl e.symm
    · exact .inr h
set_option maxHeartbeats 4000000 in
set_option maxRecDepth 100000 in
theorem joint_bad (a0_0 : Int) (A0_1 : Option Addr) (c0_1 : Nat) (l0_1 : List Int) (a1_0 : Int) (a1_1 : Int) (a2_0 : Int) (a2_1 : Int) (k : Nat) (w : World) (hr0_1 : Kd.C (Kd.int .i64) w A0_1 l0_1.length l0_1) (hc0_1 : l0_1.length ≤ c0_1)
    (hg : impl_GoodTrips.f k a0_0 l0_1 [⟨a1_0, a1_1⟩, ⟨a2_0, a2_1⟩] = some false) :
    Calls Try.prog 35 #[.agg #[.int .i64 a0_0, .slice A0_1 l0_1.length c0_1], .agg #[.int .i64 a1_0, .int .i64 a1_1], .agg #[.int .i64 a2_0, .int .i64 a2_1]] w fun e w' => e = .returned (.int .i64 (-1)) ∧ Below w.heap.size w w' := by
  have hu39 := Try.underlying39
  have hu49 := Try.underlying49
  have hu79 := Try.underlying79
  have hu80 := Try.underlying80
  have HR := Aside0.mk hr0_1
  have HC := Aside0.mk hc0_1
  have HG := Aside0.mk hg
  clear hr0_1 hc0_1 hg
  have HB := Aside0.mk (Below.refl w.heap.size w)
  obtain ⟨y0, hy0⟩ : ∃ y, y = ([⟨a1_0, a1_1⟩, ⟨a2_0, a2_1⟩] : List S49) := ⟨_, rfl⟩
  rw [← hy0] at HG
  have Ny := Aside0.mk hy0
  clear hy0
  go_enter Try.func35, Try.ntmps35
  go_wp2_with (first
    | ((with_reducible refine gate_dst (N := 3) rfl ?_); refine box_event ?hg (N := 3) ?hd (cs := #[.int .i64 a0_0, .slice A0_1 l0_1.length c0_1]) (t := 39) ?hr ?_; (case hd => rfl); (case hg => rfl); (case hr => first | (go_simp; done) | (go_simp; rfl)); intro g0 hg w1 hbox hb; have n0_ := Aside0.mk (below_step HB.out hb); have n1_ := Aside0.mk (hbox); have n2_ := Aside0.mk (show w.heap.size ≤ g0 by rw [hg]; exact HB.out.size); clear HB; have HB := n0_; have B0 := n1_; have G0 := n2_; clear n0_ n1_ n2_; clear hb hbox hg)
    | ((with_reducible refine gate_dst (N := 4) rfl ?_); refine box_event ?hg (N := 4) ?hd (cs := #[.int .i64 a1_0, .int .i64 a1_1]) (t := 49) ?hr ?_; (case hd => rfl); (case hg => rfl); (case hr => first | (go_simp; done) | (go_simp; rfl)); intro g1 hg w2 hbox hb; have n0_ := Aside0.mk (below_step HB.out hb); have n1_ := Aside0.mk (blk_below B0.out hb); have n2_ := Aside0.mk (hbox); have n3_ := Aside0.mk (show w.heap.size ≤ g1 by rw [hg]; exact HB.out.size); clear HB B0; have HB := n0_; have B0 := n1_; have B1 := n2_; have G1 := n3_; clear n0_ n1_ n2_ n3_; clear hb hbox hg)
    | ((with_reducible refine gate_dst (N := 5) rfl ?_); refine box_event ?hg (N := 5) ?hd (cs := #[.int .i64 a2_0, .int .i64 a2_1]) (t := 49) ?hr ?_; (case hd => rfl); (case hg => rfl); (case hr => first | (go_simp; done) | (go_simp; rfl)); intro g2 hg w3 hbox hb; have n0_ := Aside0.mk (below_step HB.out hb); have n1_ := Aside0.mk (blk_below B0.out hb); have n2_ := Aside0.mk (blk_below B1.out hb); have n3_ := Aside0.mk (hbox); have n4_ := Aside0.mk (show w.heap.size ≤ g2 by rw [hg]; exact HB.out.size); clear HB B0 B1; have HB := n0_; have B0 := n1_; have B1 := n2_; have B2 := n3_; have G2 := n4_; clear n0_ n1_ n2_ n3_ n4_; clear hb hbox hg; have zg0_0 : w3.cell? ⟨g0, 0, none⟩ = some (.int .i64 a0_0) := (blk_cell B0.out 0).trans rfl; have fzg0_0 := blk_frozen B0.out 0; have zg0_1 : w3.cell? ⟨g0, 1, none⟩ = some (.slice A0_1 l0_1.length c0_1) := (blk_cell B0.out 1).trans rfl; have fzg0_1 := blk_frozen B0.out 1; have zg1_0 : w3.cell? ⟨g1, 0, none⟩ = some (.int .i64 a1_0) := (blk_cell B1.out 0).trans rfl; have fzg1_0 := blk_frozen B1.out 0; have zg1_1 : w3.cell? ⟨g1, 1, none⟩ = some (.int .i64 a1_1) := (blk_cell B1.out 1).trans rfl; have fzg1_1 := blk_frozen B1.out 1; have zg2_0 : w3.cell? ⟨g2, 0, none⟩ = some (.int .i64 a2_0) := (blk_cell B2.out 0).trans rfl; have fzg2_0 := blk_frozen B2.out 0; have zg2_1 : w3.cell? ⟨g2, 1, none⟩ = some (.int .i64 a2_1) := (blk_cell B2.out 1).trans rfl; have fzg2_1 := blk_frozen B2.out 1)
    | ((with_reducible refine gate_dst (N := 20) rfl ?_); refine Kd.R_lit k49 _ 49 ?hg (N := 20) ?hd (xs := ([⟨a1_0, a1_1⟩, ⟨a2_0, a2_1⟩] : List S49)) (inner := [.int .i64 a1_0, .int .i64 a1_1, .int .i64 a2_0, .int .i64 a2_1]) (ok := fun _ => True) (okp := fun _ => True) ?hr ?hp (fun _ hk => hk) trivial (Below.refl _ _) (Nat.le_refl _) (by simp) ?_; (case hd => rfl); (case hg => rfl); (case hr => first | (go_simp; done) | (go_simp; rfl)); (case hp => exact (Reps.c2 (show Kd.M k49 _ _ _ (⟨a1_0, a1_1⟩ : S49) [.int .i64 a1_0, .int .i64 a1_1] from (k49_mkM _ _ _ (⟨a1_0, a1_1⟩ : S49))) (Reps.c2 (show Kd.M k49 _ _ _ (⟨a2_0, a2_1⟩ : S49) [.int .i64 a2_0, .int .i64 a2_1] from (k49_mkM _ _ _ (⟨a2_0, a2_1⟩ : S49))) (Reps.none _ _)))); intro v4 w4 ho hb hg_ hnew_; clear hg_ hnew_; rw [← Ny.out] at ho; clear zg0_0 fzg0_0 zg0_1 fzg0_1; clear zg1_0 fzg1_0 zg1_1 fzg1_1; clear zg2_0 fzg2_0 zg2_1 fzg2_1; have n0_ := Aside0.mk (below_step HB.out hb); have n1_ := Aside0.mk (blk_below B0.out hb); have n2_ := Aside0.mk (blk_below B1.out hb); have n3_ := Aside0.mk (blk_below B2.out hb); clear HB B0 B1 B2; have HB := n0_; have B0 := n1_; have B1 := n2_; have B2 := n3_; clear n0_ n1_ n2_ n3_; clear hb; obtain ⟨A4, c4, e4⟩ := Kd.R_slice ho; subst e4; have HO4 := Aside0.mk ho; clear ho)
    | (go_at_call 28; (with_reducible refine (impl_GoodTrips.calls k a0_0 A0_1 c0_1 l0_1 A4 c4 y0 false _ ?s1 HC.out ?s2 ?s3 HG.out).mono ?_); (case s1 => exact Kd.C_below HR.out HB.out); (case s2 => exact (Kd.R_reads' HO4.out).2.2); (case s3 => exact (Kd.R_reads' HO4.out).2.1); rintro e w5 ⟨rfl, hb⟩; have n0_ := Aside0.mk (below_step HB.out hb); have n1_ := Aside0.mk (blk_below B0.out hb); have n2_ := Aside0.mk (blk_below B1.out hb); have n3_ := Aside0.mk (blk_below B2.out hb); clear HB B0 B1 B2 HO4; have HB := n0_; have B0 := n1_; have B1 := n2_; have B2 := n3_; clear n0_ n1_ n2_ n3_; clear hb; have zg0_0 : w5.cell? ⟨g0, 0, none⟩ = some (.int .i64 a0_0) := (blk_cell B0.out 0).trans rfl; have fzg0_0 := blk_frozen B0.out 0; have zg0_1 : w5.cell? ⟨g0, 1, none⟩ = some (.slice A0_1 l0_1.length c0_1) := (blk_cell B0.out 1).trans rfl; have fzg0_1 := blk_frozen B0.out 1; have zg1_0 : w5.cell? ⟨g1, 0, none⟩ = some (.int .i64 a1_0) := (blk_cell B1.out 0).trans rfl; have fzg1_0 := blk_frozen B1.out 0; have zg1_1 : w5.cell? ⟨g1, 1, none⟩ = some (.int .i64 a1_1) := (blk_cell B1.out 1).trans rfl; have fzg1_1 := blk_frozen B1.out 1; have zg2_0 : w5.cell? ⟨g2, 0, none⟩ = some (.int .i64 a2_0) := (blk_cell B2.out 0).trans rfl; have fzg2_0 := blk_frozen B2.out 0; have zg2_1 : w5.cell? ⟨g2, 1, none⟩ = some (.int .i64 a2_1) := (blk_cell B2.out 1).trans rfl; have fzg2_1 := blk_frozen B2.out 1)
    | fail)
  go_ret
  exact ⟨rfl, HB.out⟩
set_option maxHeartbeats 4000000 in
set_option maxRecDepth 100000 in
theorem joint_many (a0_0 : Int) (A0_1 : Option Addr) (c0_1 : Nat) (l0_1 : List Int) (a1_0 : Int) (a1_1 : Int) (a2_0 : Int) (a2_1 : Int) (k : Nat) (w : World) (hr0_1 : Kd.C (Kd.int .i64) w A0_1 l0_1.length l0_1) (hc0_1 : l0_1.length ≤ c0_1)
    (hg : impl_GoodTrips.f k a0_0 l0_1 [⟨a1_0, a1_1⟩, ⟨a2_0, a2_1⟩] = some true) (hn : ¬ l0_1.length ≤ 36) :
    Calls Try.prog 35 #[.agg #[.int .i64 a0_0, .slice A0_1 l0_1.length c0_1], .agg #[.int .i64 a1_0, .int .i64 a1_1], .agg #[.int .i64 a2_0, .int .i64 a2_1]] w fun e w' => e = .returned (.int .i64 (-1)) ∧ Below w.heap.size w w' := by
  have hu39 := Try.underlying39
  have hu49 := Try.underlying49
  have hu79 := Try.underlying79
  have hu80 := Try.underlying80
  have HR := Aside0.mk hr0_1
  have HC := Aside0.mk hc0_1
  have HG := Aside0.mk hg
  clear hr0_1 hc0_1 hg
  have c36 : decide ((36 : Int) < (l0_1.length : Int)) = true := decide_eq_true (by omega)
  have c36b : decide (36 < l0_1.length) = true := decide_eq_true (by omega)
  clear hn
  have HB := Aside0.mk (Below.refl w.heap.size w)
  obtain ⟨y0, hy0⟩ : ∃ y, y = ([⟨a1_0, a1_1⟩, ⟨a2_0, a2_1⟩] : List S49) := ⟨_, rfl⟩
  rw [← hy0] at HG
  have Ny := Aside0.mk hy0
  clear hy0
  go_enter Try.func35, Try.ntmps35
  go_wp2_with (first
    | ((with_reducible refine gate_dst (N := 3) rfl ?_); refine box_event ?hg (N := 3) ?hd (cs := #[.int .i64 a0_0, .slice A0_1 l0_1.length c0_1]) (t := 39) ?hr ?_; (case hd => rfl); (case hg => rfl); (case hr => first | (go_simp; done) | (go_simp; rfl)); intro g0 hg w1 hbox hb; have n0_ := Aside0.mk (below_step HB.out hb); have n1_ := Aside0.mk (hbox); have n2_ := Aside0.mk (show w.heap.size ≤ g0 by rw [hg]; exact HB.out.size); clear HB; have HB := n0_; have B0 := n1_; have G0 := n2_; clear n0_ n1_ n2_; clear hb hbox hg)
    | ((with_reducible refine gate_dst (N := 4) rfl ?_); refine box_event ?hg (N := 4) ?hd (cs := #[.int .i64 a1_0, .int .i64 a1_1]) (t := 49) ?hr ?_; (case hd => rfl); (case hg => rfl); (case hr => first | (go_simp; done) | (go_simp; rfl)); intro g1 hg w2 hbox hb; have n0_ := Aside0.mk (below_step HB.out hb); have n1_ := Aside0.mk (blk_below B0.out hb); have n2_ := Aside0.mk (hbox); have n3_ := Aside0.mk (show w.heap.size ≤ g1 by rw [hg]; exact HB.out.size); clear HB B0; have HB := n0_; have B0 := n1_; have B1 := n2_; have G1 := n3_; clear n0_ n1_ n2_ n3_; clear hb hbox hg)
    | ((with_reducible refine gate_dst (N := 5) rfl ?_); refine box_event ?hg (N := 5) ?hd (cs := #[.int .i64 a2_0, .int .i64 a2_1]) (t := 49) ?hr ?_; (case hd => rfl); (case hg => rfl); (case hr => first | (go_simp; done) | (go_simp; rfl)); intro g2 hg w3 hbox hb; have n0_ := Aside0.mk (below_step HB.out hb); have n1_ := Aside0.mk (blk_below B0.out hb); have n2_ := Aside0.mk (blk_below B1.out hb); have n3_ := Aside0.mk (hbox); have n4_ := Aside0.mk (show w.heap.size ≤ g2 by rw [hg]; exact HB.out.size); clear HB B0 B1; have HB := n0_; have B0 := n1_; have B1 := n2_; have B2 := n3_; have G2 := n4_; clear n0_ n1_ n2_ n3_ n4_; clear hb hbox hg; have zg0_0 : w3.cell? ⟨g0, 0, none⟩ = some (.int .i64 a0_0) := (blk_cell B0.out 0).trans rfl; have fzg0_0 := blk_frozen B0.out 0; have zg0_1 : w3.cell? ⟨g0, 1, none⟩ = some (.slice A0_1 l0_1.length c0_1) := (blk_cell B0.out 1).trans rfl; have fzg0_1 := blk_frozen B0.out 1; have zg1_0 : w3.cell? ⟨g1, 0, none⟩ = some (.int .i64 a1_0) := (blk_cell B1.out 0).trans rfl; have fzg1_0 := blk_frozen B1.out 0; have zg1_1 : w3.cell? ⟨g1, 1, none⟩ = some (.int .i64 a1_1) := (blk_cell B1.out 1).trans rfl; have fzg1_1 := blk_frozen B1.out 1; have zg2_0 : w3.cell? ⟨g2, 0, none⟩ = some (.int .i64 a2_0) := (blk_cell B2.out 0).trans rfl; have fzg2_0 := blk_frozen B2.out 0; have zg2_1 : w3.cell? ⟨g2, 1, none⟩ = some (.int .i64 a2_1) := (blk_cell B2.out 1).trans rfl; have fzg2_1 := blk_frozen B2.out 1)
    | ((with_reducible refine gate_dst (N := 20) rfl ?_); refine Kd.R_lit k49 _ 49 ?hg (N := 20) ?hd (xs := ([⟨a1_0, a1_1⟩, ⟨a2_0, a2_1⟩] : List S49)) (inner := [.int .i64 a1_0, .int .i64 a1_1, .int .i64 a2_0, .int .i64 a2_1]) (ok := fun _ => True) (okp := fun _ => True) ?hr ?hp (fun _ hk => hk) trivial (Below.refl _ _) (Nat.le_refl _) (by simp) ?_; (case hd => rfl); (case hg => rfl); (case hr => first | (go_simp; done) | (go_simp; rfl)); (case hp => exact (Reps.c2 (show Kd.M k49 _ _ _ (⟨a1_0, a1_1⟩ : S49) [.int .i64 a1_0, .int .i64 a1_1] from (k49_mkM _ _ _ (⟨a1_0, a1_1⟩ : S49))) (Reps.c2 (show Kd.M k49 _ _ _ (⟨a2_0, a2_1⟩ : S49) [.int .i64 a2_0, .int .i64 a2_1] from (k49_mkM _ _ _ (⟨a2_0, a2_1⟩ : S49))) (Reps.none _ _)))); intro v4 w4 ho hb hg_ hnew_; clear hg_ hnew_; rw [← Ny.out] at ho; clear zg0_0 fzg0_0 zg0_1 fzg0_1; clear zg1_0 fzg1_0 zg1_1 fzg1_1; clear zg2_0 fzg2_0 zg2_1 fzg2_1; have n0_ := Aside0.mk (below_step HB.out hb); have n1_ := Aside0.mk (blk_below B0.out hb); have n2_ := Aside0.mk (blk_below B1.out hb); have n3_ := Aside0.mk (blk_below B2.out hb); clear HB B0 B1 B2; have HB := n0_; have B0 := n1_; have B1 := n2_; have B2 := n3_; clear n0_ n1_ n2_ n3_; clear hb; obtain ⟨A4, c4, e4⟩ := Kd.R_slice ho; subst e4; have HO4 := Aside0.mk ho; clear ho)
    | (go_at_call 28; (with_reducible refine (impl_GoodTrips.calls k a0_0 A0_1 c0_1 l0_1 A4 c4 y0 true _ ?s1 HC.out ?s2 ?s3 HG.out).mono ?_); (case s1 => exact Kd.C_below HR.out HB.out); (case s2 => exact (Kd.R_reads' HO4.out).2.2); (case s3 => exact (Kd.R_reads' HO4.out).2.1); rintro e w5 ⟨rfl, hb⟩; have n0_ := Aside0.mk (below_step HB.out hb); have n1_ := Aside0.mk (blk_below B0.out hb); have n2_ := Aside0.mk (blk_below B1.out hb); have n3_ := Aside0.mk (blk_below B2.out hb); clear HB B0 B1 B2 HO4; have HB := n0_; have B0 := n1_; have B1 := n2_; have B2 := n3_; clear n0_ n1_ n2_ n3_; clear hb; have zg0_0 : w5.cell? ⟨g0, 0, none⟩ = some (.int .i64 a0_0) := (blk_cell B0.out 0).trans rfl; have fzg0_0 := blk_frozen B0.out 0; have zg0_1 : w5.cell? ⟨g0, 1, none⟩ = some (.slice A0_1 l0_1.length c0_1) := (blk_cell B0.out 1).trans rfl; have fzg0_1 := blk_frozen B0.out 1; have zg1_0 : w5.cell? ⟨g1, 0, none⟩ = some (.int .i64 a1_0) := (blk_cell B1.out 0).trans rfl; have fzg1_0 := blk_frozen B1.out 0; have zg1_1 : w5.cell? ⟨g1, 1, none⟩ = some (.int .i64 a1_1) := (blk_cell B1.out 1).trans rfl; have fzg1_1 := blk_frozen B1.out 1; have zg2_0 : w5.cell? ⟨g2, 0, none⟩ = some (.int .i64 a2_0) := (blk_cell B2.out 0).trans rfl; have fzg2_0 := blk_frozen B2.out 0; have zg2_1 : w5.cell? ⟨g2, 1, none⟩ = some (.int .i64 a2_1) := (blk_cell B2.out 1).trans rfl; have fzg2_1 := blk_frozen B2.out 1)
    | fail)
  go_ret
  exact ⟨rfl, HB.out⟩
set_option maxHeartbeats 8000000 in
set_option maxRecDepth 100000 in
theorem joint_good (a0_0 : Int) (A0_1 : Option Addr) (c0_1 : Nat) (l0_1 : List Int) (a1_0 : Int) (a1_1 : Int) (a2_0 : Int) (a2_1 : Int) (r : Int) (k : Nat) (w : World) (hr0_1 : Kd.C (Kd.int .i64) w A0_1 l0_1.length l0_1) (hc0_1 : l0_1.length ≤ c0_1)
    (hg : impl_GoodTrips.f k a0_0 l0_1 [⟨a1_0, a1_1⟩, ⟨a2_0, a2_1⟩] = some true) (hG : Pure.Gt a0_0 l0_1 [⟨a1_0, a1_1⟩, ⟨a2_0, a2_1⟩]) (hn : l0_1.length ≤ 36) (hr : (lk (Bfs.fin (Pure.Jos a0_0 l0_1) (a1_0, a2_0)) (a1_1, a2_1)).getD (-1) = r) :
    Calls Try.prog 35 #[.agg #[.int .i64 a0_0, .slice A0_1 l0_1.length c0_1], .agg #[.int .i64 a1_0, .int .i64 a1_1], .agg #[.int .i64 a2_0, .int .i64 a2_1]] w fun e w' => e = .returned (.int .i64 r) ∧ Below w.heap.size w w' := by
  have hu39 := Try.underlying39
  have hu49 := Try.underlying49
  have hu79 := Try.underlying79
  have hu80 := Try.underlying80
  have HR := Aside0.mk hr0_1
  have HC := Aside0.mk hc0_1
  have HG := Aside0.mk hg
  have HRes := Aside0.mk hr
  have hCl : Aside0 (Pure.Cl a0_0 l0_1) := ⟨hG.1⟩
  obtain ⟨hFs, hFt⟩ : Aside0 (Pure.Fr2 l0_1 (a1_0, a2_0)) ∧ Aside0 (Pure.Fr2 l0_1 (a1_1, a2_1)) := ⟨⟨(Pure.gt_two hG).1⟩, ⟨(Pure.gt_two hG).2⟩⟩
  obtain ⟨n0, hrun⟩ := Bfs.fin_run (nx := Pure.Jos a0_0 l0_1) (s := (a1_0, a2_0)) (Pure.Us2 l0_1.length) (Pure.Fr2_in hFs.out) Pure.Jos_in
  have HRun := Aside0.mk hrun
  generalize Bfs.fin (Pure.Jos a0_0 l0_1) (a1_0, a2_0) = DF at HRun HRes
  have c36 : decide ((36 : Int) < (l0_1.length : Int)) = false := decide_eq_false (by omega)
  have c36b : decide (36 < l0_1.length) = false := decide_eq_false (by omega)
  have hop0 : open_ [((a1_0, a2_0), (0 : Int))] (Pure.Us2 l0_1.length) ≤ 1296 := by
    have h1 := Pure.open_le [((a1_0, a2_0), (0 : Int))] (Pure.Us2 l0_1.length)
    rw [Pure.Us2_length] at h1
    have h2 : l0_1.length * l0_1.length ≤ 36 * 36 := Nat.mul_le_mul hn hn
    omega
  have HOp := Aside0.mk hop0
  clear hr0_1 hc0_1 hg hG hr hrun hn hop0
  have HB := Aside0.mk (Below.refl w.heap.size w)
  obtain ⟨y0, hy0⟩ : ∃ y, y = ([⟨a1_0, a1_1⟩, ⟨a2_0, a2_1⟩] : List S49) := ⟨_, rfl⟩
  rw [← hy0] at HG
  have Ny := Aside0.mk hy0
  clear hy0
  go_enter Try.func35, Try.ntmps35
  go_wp2_with (first
    | ((with_reducible refine gate_dst (N := 3) rfl ?_); refine box_event ?hg (N := 3) ?hd (cs := #[.int .i64 a0_0, .slice A0_1 l0_1.length c0_1]) (t := 39) ?hr ?_; (case hd => rfl); (case hg => rfl); (case hr => first | (go_simp; done) | (go_simp; rfl)); intro g0 hg w1 hbox hb; have n0_ := Aside0.mk (below_step HB.out hb); have n1_ := Aside0.mk (hbox); have n2_ := Aside0.mk (show w.heap.size ≤ g0 by rw [hg]; exact HB.out.size); clear HB; have HB := n0_; have B0 := n1_; have G0 := n2_; clear n0_ n1_ n2_; clear hb hbox hg)
    | ((with_reducible refine gate_dst (N := 4) rfl ?_); refine box_event ?hg (N := 4) ?hd (cs := #[.int .i64 a1_0, .int .i64 a1_1]) (t := 49) ?hr ?_; (case hd => rfl); (case hg => rfl); (case hr => first | (go_simp; done) | (go_simp; rfl)); intro g1 hg w2 hbox hb; have n0_ := Aside0.mk (below_step HB.out hb); have n1_ := Aside0.mk (blk_below B0.out hb); have n2_ := Aside0.mk (hbox); have n3_ := Aside0.mk (show w.heap.size ≤ g1 by rw [hg]; exact HB.out.size); clear HB B0; have HB := n0_; have B0 := n1_; have B1 := n2_; have G1 := n3_; clear n0_ n1_ n2_ n3_; clear hb hbox hg)
    | ((with_reducible refine gate_dst (N := 5) rfl ?_); refine box_event ?hg (N := 5) ?hd (cs := #[.int .i64 a2_0, .int .i64 a2_1]) (t := 49) ?hr ?_; (case hd => rfl); (case hg => rfl); (case hr => first | (go_simp; done) | (go_simp; rfl)); intro g2 hg w3 hbox hb; have n0_ := Aside0.mk (below_step HB.out hb); have n1_ := Aside0.mk (blk_below B0.out hb); have n2_ := Aside0.mk (blk_below B1.out hb); have n3_ := Aside0.mk (hbox); have n4_ := Aside0.mk (show w.heap.size ≤ g2 by rw [hg]; exact HB.out.size); clear HB B0 B1; have HB := n0_; have B0 := n1_; have B1 := n2_; have B2 := n3_; have G2 := n4_; clear n0_ n1_ n2_ n3_ n4_; clear hb hbox hg; have zg0_0 : w3.cell? ⟨g0, 0, none⟩ = some (.int .i64 a0_0) := (blk_cell B0.out 0).trans rfl; have fzg0_0 := blk_frozen B0.out 0; have zg0_1 : w3.cell? ⟨g0, 1, none⟩ = some (.slice A0_1 l0_1.length c0_1) := (blk_cell B0.out 1).trans rfl; have fzg0_1 := blk_frozen B0.out 1; have zg1_0 : w3.cell? ⟨g1, 0, none⟩ = some (.int .i64 a1_0) := (blk_cell B1.out 0).trans rfl; have fzg1_0 := blk_frozen B1.out 0; have zg1_1 : w3.cell? ⟨g1, 1, none⟩ = some (.int .i64 a1_1) := (blk_cell B1.out 1).trans rfl; have fzg1_1 := blk_frozen B1.out 1; have zg2_0 : w3.cell? ⟨g2, 0, none⟩ = some (.int .i64 a2_0) := (blk_cell B2.out 0).trans rfl; have fzg2_0 := blk_frozen B2.out 0; have zg2_1 : w3.cell? ⟨g2, 1, none⟩ = some (.int .i64 a2_1) := (blk_cell B2.out 1).trans rfl; have fzg2_1 := blk_frozen B2.out 1)
    | ((with_reducible refine gate_dst (N := 20) rfl ?_); refine Kd.R_lit k49 _ 49 ?hg (N := 20) ?hd (xs := ([⟨a1_0, a1_1⟩, ⟨a2_0, a2_1⟩] : List S49)) (inner := [.int .i64 a1_0, .int .i64 a1_1, .int .i64 a2_0, .int .i64 a2_1]) (ok := fun _ => True) (okp := fun _ => True) ?hr ?hp (fun _ hk => hk) trivial (Below.refl _ _) (Nat.le_refl _) (by simp) ?_; (case hd => rfl); (case hg => rfl); (case hr => first | (go_simp; done) | (go_simp; rfl)); (case hp => exact (Reps.c2 (show Kd.M k49 _ _ _ (⟨a1_0, a1_1⟩ : S49) [.int .i64 a1_0, .int .i64 a1_1] from (k49_mkM _ _ _ (⟨a1_0, a1_1⟩ : S49))) (Reps.c2 (show Kd.M k49 _ _ _ (⟨a2_0, a2_1⟩ : S49) [.int .i64 a2_0, .int .i64 a2_1] from (k49_mkM _ _ _ (⟨a2_0, a2_1⟩ : S49))) (Reps.none _ _)))); intro v4 w4 ho hb hg_ hnew_; clear hg_ hnew_; rw [← Ny.out] at ho; clear zg0_0 fzg0_0 zg0_1 fzg0_1; clear zg1_0 fzg1_0 zg1_1 fzg1_1; clear zg2_0 fzg2_0 zg2_1 fzg2_1; have n0_ := Aside0.mk (below_step HB.out hb); have n1_ := Aside0.mk (blk_below B0.out hb); have n2_ := Aside0.mk (blk_below B1.out hb); have n3_ := Aside0.mk (blk_below B2.out hb); clear HB B0 B1 B2; have HB := n0_; have B0 := n1_; have B1 := n2_; have B2 := n3_; clear n0_ n1_ n2_ n3_; clear hb; obtain ⟨A4, c4, e4⟩ := Kd.R_slice ho; subst e4; have HO4 := Aside0.mk ho; clear ho)
    | (go_at_call 28; (with_reducible refine (impl_GoodTrips.calls k a0_0 A0_1 c0_1 l0_1 A4 c4 y0 true _ ?s1 HC.out ?s2 ?s3 HG.out).mono ?_); (case s1 => exact Kd.C_below HR.out HB.out); (case s2 => exact (Kd.R_reads' HO4.out).2.2); (case s3 => exact (Kd.R_reads' HO4.out).2.1); rintro e w5 ⟨rfl, hb⟩; have n0_ := Aside0.mk (below_step HB.out hb); have n1_ := Aside0.mk (blk_below B0.out hb); have n2_ := Aside0.mk (blk_below B1.out hb); have n3_ := Aside0.mk (blk_below B2.out hb); clear HB B0 B1 B2 HO4; have HB := n0_; have B0 := n1_; have B1 := n2_; have B2 := n3_; clear n0_ n1_ n2_ n3_; clear hb; have zg0_0 : w5.cell? ⟨g0, 0, none⟩ = some (.int .i64 a0_0) := (blk_cell B0.out 0).trans rfl; have fzg0_0 := blk_frozen B0.out 0; have zg0_1 : w5.cell? ⟨g0, 1, none⟩ = some (.slice A0_1 l0_1.length c0_1) := (blk_cell B0.out 1).trans rfl; have fzg0_1 := blk_frozen B0.out 1; have zg1_0 : w5.cell? ⟨g1, 0, none⟩ = some (.int .i64 a1_0) := (blk_cell B1.out 0).trans rfl; have fzg1_0 := blk_frozen B1.out 0; have zg1_1 : w5.cell? ⟨g1, 1, none⟩ = some (.int .i64 a1_1) := (blk_cell B1.out 1).trans rfl; have fzg1_1 := blk_frozen B1.out 1; have zg2_0 : w5.cell? ⟨g2, 0, none⟩ = some (.int .i64 a2_0) := (blk_cell B2.out 0).trans rfl; have fzg2_0 := blk_frozen B2.out 0; have zg2_1 : w5.cell? ⟨g2, 1, none⟩ = some (.int .i64 a2_1) := (blk_cell B2.out 1).trans rfl; have fzg2_1 := blk_frozen B2.out 1)
    | ((with_reducible refine gate_dst (N := 29) rfl ?_); refine make_event (t := 80) ?hg (N := 29) ?hd ?ho ekp (Value.int .i64) ?_; (case hd => rfl); (case hg => rfl); (case ho => rfl); intro gm hg w6 hbox hb; clear zg0_0 fzg0_0 zg0_1 fzg0_1; clear zg1_0 fzg1_0 zg1_1 fzg1_1; clear zg2_0 fzg2_0 zg2_1 fzg2_1; have n0_ := Aside0.mk (below_step HB.out hb); have n1_ := Aside0.mk (blk_below B0.out hb); have n2_ := Aside0.mk (blk_below B1.out hb); have n3_ := Aside0.mk (blk_below B2.out hb); have n4_ := Aside0.mk (hbox); have n5_ := Aside0.mk (show w.heap.size ≤ gm by rw [hg]; exact HB.out.size); clear HB B0 B1 B2; have HB := n0_; have B0 := n1_; have B1 := n2_; have B2 := n3_; have M := n4_; have GM := n5_; clear n0_ n1_ n2_ n3_ n4_ n5_; clear hb hbox hg; have zg1_0 : w6.cell? ⟨g1, 0, none⟩ = some (.int .i64 a1_0) := (blk_cell B1.out 0).trans rfl; have fzg1_0 := blk_frozen B1.out 0; have zg1_1 : w6.cell? ⟨g1, 1, none⟩ = some (.int .i64 a1_1) := (blk_cell B1.out 1).trans rfl; have fzg1_1 := blk_frozen B1.out 1; have zg2_0 : w6.cell? ⟨g2, 0, none⟩ = some (.int .i64 a2_0) := (blk_cell B2.out 0).trans rfl; have fzg2_0 := blk_frozen B2.out 0; have zg2_1 : w6.cell? ⟨g2, 1, none⟩ = some (.int .i64 a2_1) := (blk_cell B2.out 1).trans rfl; have fzg2_1 := blk_frozen B2.out 1)
    | ((with_reducible refine gate_insert (t := 80) (m := .tmp 29) (x := .tmp 34) rfl ?_); refine put_event (P := Try.prog) ?hg ?hN (.inr rfl) keyP Try.underlying80 M.out (a1_0, a2_0) 0 ?hm ?hx ?hv HB.out GM.out ?_; (case hg => rfl); (case hN => rfl); (case hm => rfl); (case hx => rfl); (case hv => rfl); intro w7 hM hk hb; clear zg1_0 fzg1_0 zg1_1 fzg1_1; clear zg2_0 fzg2_0 zg2_1 fzg2_1; have n0_ := Aside0.mk (hb); have n1_ := Aside0.mk (blk_kept B0.out hk (cells_map B0.out M.out)); have n2_ := Aside0.mk (blk_kept B1.out hk (cells_map B1.out M.out)); have n3_ := Aside0.mk (blk_kept B2.out hk (cells_map B2.out M.out)); have n4_ := Aside0.mk (hM); clear HB B0 B1 B2 M; have HB := n0_; have B0 := n1_; have B1 := n2_; have B2 := n3_; have M := n4_; clear n0_ n1_ n2_ n3_ n4_; clear hM hk hb; have zg1_0 : w7.cell? ⟨g1, 0, none⟩ = some (.int .i64 a1_0) := (blk_cell B1.out 0).trans rfl; have fzg1_0 := blk_frozen B1.out 0; have zg1_1 : w7.cell? ⟨g1, 1, none⟩ = some (.int .i64 a1_1) := (blk_cell B1.out 1).trans rfl; have fzg1_1 := blk_frozen B1.out 1; have zg2_0 : w7.cell? ⟨g2, 0, none⟩ = some (.int .i64 a2_0) := (blk_cell B2.out 0).trans rfl; have fzg2_0 := blk_frozen B2.out 0; have zg2_1 : w7.cell? ⟨g2, 1, none⟩ = some (.int .i64 a2_1) := (blk_cell B2.out 1).trans rfl; have fzg2_1 := blk_frozen B2.out 1)
    | ((with_reducible refine gate_dst (N := 41) rfl ?_); refine Kd.R_lit kp w.heap.size 79 ?hg (N := 41) ?hd (xs := [(a1_0, a2_0)]) (inner := [.int .i64 a1_0, .int .i64 a2_0]) (ok := fun k => ¬ k = gm) (okp := fun _ => False) ?hr ?hp (fun _ hk => hk.elim) (fun e => Nat.ne_of_gt (blk_lt M.out) e) HB.out HB.out.size (by simp) ?_; (case hd => rfl); (case hg => rfl); (case hr => first | (go_simp; done) | (go_simp; rfl)); (case hp => exact (Reps.c2 (kp_mkM _ _ _ (a1_0, a2_0)) (Reps.none _ _))); intro v8 w8 ho hb hg_ hnew_; clear hnew_; clear zg1_0 fzg1_0 zg1_1 fzg1_1; clear zg2_0 fzg2_0 zg2_1 fzg2_1; have n0_ := Aside0.mk (hb); have n1_ := Aside0.mk (blk_grown B0.out hg_ (by simp)); have n2_ := Aside0.mk (blk_grown B1.out hg_ (by simp)); have n3_ := Aside0.mk (blk_grown B2.out hg_ (by simp)); have n4_ := Aside0.mk (blk_grown M.out hg_ (by simp)); have n5_ := Aside0.mk (Kd.Q_of_R ho); clear HB B0 B1 B2 M; have HB := n0_; have B0 := n1_; have B1 := n2_; have B2 := n3_; have M := n4_; have HQ := n5_; clear n0_ n1_ n2_ n3_ n4_ n5_; clear hb ho hg_)
    | fail)
  have HLen : Aside0 ([(a1_0, a2_0)].length + open_ [((a1_0, a2_0), (0 : Int))] (Pure.Us2 l0_1.length) ≤ 2000) := ⟨by have := HOp.out; simp only [List.length_singleton]; omega⟩
  have HLow : Aside0 (Pure.Low [((a1_0, a2_0), (0 : Int))] (Pure.Us2 l0_1.length) 2000) := ⟨by
    intro x e hx
    have := HOp.out
    simp only [lk] at hx
    split at hx
    · cases hx; omega
    · cases hx⟩
  have HFr : Aside0 (∀ q ∈ [(a1_0, a2_0)], Pure.Fr2 l0_1 q) := ⟨fun q hq => by rw [List.mem_singleton.1 hq]; exact hFs.out⟩
  have HT : Aside0 (lk [((a1_0, a2_0), (0 : Int))] (a1_1, a2_1) ≠ none → (a1_1, a2_1) ∈ [(a1_0, a2_0)]) := ⟨fun h => by
    simp only [lk] at h
    split at h
    · rename_i e; rw [e]; simp
    · exact absurd rfl h⟩
  go_loopg [8] n0 (fun g v8 w' => ∃ (D : List ((Int × Int) × Int)) (Q : List (Int × Int)), Aside0 (Run (Pure.Jos a0_0 l0_1) g D Q DF) ∧ Aside0 (Kd.Q kp 79 w' w.heap.size (fun k => ¬ k = gm) v8 Q) ∧ Aside0 (Q.length + open_ D (Pure.Us2 l0_1.length) ≤ 2000) ∧ Aside0 (Pure.Low D (Pure.Us2 l0_1.length) 2000) ∧ Aside0 (∀ q ∈ Q, Pure.Fr2 l0_1 q) ∧ Aside0 (lk D (a1_1, a2_1) ≠ none → (a1_1, a2_1) ∈ Q) ∧ Aside0 (w'.heap[g0]? = some (.cells #[.int .i64 a0_0, .slice A0_1 l0_1.length c0_1] 39 (0, 0))) ∧ Aside0 (w'.heap[g1]? = some (.cells #[.int .i64 a1_0, .int .i64 a1_1] 49 (0, 0))) ∧ Aside0 (w'.heap[g2]? = some (.cells #[.int .i64 a2_0, .int .i64 a2_1] 49 (0, 0))) ∧ Aside0 (w'.heap[gm]? = some (mobj ekp (Value.int .i64) D)) ∧ Aside0 (Below w.heap.size w w'))
  case atStart => exact ⟨[((a1_0, a2_0), 0)], [(a1_0, a2_0)], HRun, HQ, HLen, HLow, HFr, HT, B0, B1, B2, M, HB⟩
  case round =>
   clear HRun HQ HLen HLow HFr HT B0 B1 B2 M HB Ny HG
   obtain ⟨D, Q, HRun, HQ, HLen, HLow, HFr, HT, B0, B1, B2, M, HB⟩ := hrel
   obtain ⟨wo, rfl⟩ : ∃ wo : World, wo = wr := ⟨_, rfl⟩
   obtain ⟨A6, c6, e6, hc6⟩ := Kd.Q_slice HQ.out
   subst e6
   by_cases cq : 0 < Q.length
   ·obtain ⟨g', d, hgk, hd, hrun⟩ := run_cons2 HRun.out cq
    have hfc : Pure.Fr2 l0_1 (Q.getD 0 (0, 0)) := HFr.out _ (EvKit.getD_mem Q 0 (0, 0) cq)
    obtain ⟨gq, oq, cap, e6, _, _, _⟩ := Kd.Q_form HQ.out cq
    injection e6 with e6 _ e7
    subst e6 e7
    obtain ⟨cs_, _, hM_, hcs_, _⟩ := Kd.Q_elem HQ.out (0, 0) 0 (by omega) (by omega)
    have ecs_ := kp_openM hM_
    subst ecs_
    have hc0 := hcs_ 0 _ rfl
    have hc1 := hcs_ 1 _ rfl
    simp only [Int.toNat_zero, Nat.zero_mul, Nat.add_zero] at hc0 hc1
    clear hcs_ hM_
    obtain ⟨v', hcut, hQ'⟩ := Q_pop (P := Try.prog) 81 79 Try.underlying81 info79 HQ.out cq
    have HQ' := Aside0.mk hQ'
    have hho := fun h => head_or cq (HT.out h)
    generalize Q.getD 0 (0, 0) = p at hfc hc0 hc1 hd hrun hho
    obtain ⟨x, y⟩ := p
    simp only at hc0 hc1
    have HD := Aside0.mk hd
    have HHo := Aside0.mk hho
    have HD2 := HLow.out (x, y) d hd
    have hd0 : 0 ≤ d := HD2.1
    have hd1 : d ≤ 2000 := by omega
    have HWd : Aside0 (wrap64 (d + 1) = d + 1) := ⟨EvKit.wrap64_id (by omega) (by omega)⟩
    have cqb : decide (0 < Q.length) = true := decide_eq_true cq
    have cqc : decide ((0 : Int) < (Q.length : Int)) = true := decide_eq_true (by omega)
    have cqt := eq_true cq
    have hFx : Aside0 (Pure.Fr l0_1 x) := ⟨hfc.1⟩
    have hFy : Aside0 (Pure.Fr l0_1 y) := ⟨hfc.2⟩
    have HRun' := Aside0.mk hrun
    have HGk := Aside0.mk hgk
    have HNf := Aside0.mk (run_kept_of HRun.out hd)
    obtain ⟨Q0, hQ0⟩ : ∃ Q0, Q0 = Q.drop 1 := ⟨_, rfl⟩
    rw [← hQ0] at HRun' HQ' HHo
    have HLen' : Aside0 (Q0.length + 1 + open_ D (Pure.Us2 l0_1.length) ≤ 2000) := ⟨by rw [hQ0, List.length_drop]; have := HLen.out; omega⟩
    have HFr' : Aside0 (∀ q ∈ Q0, Pure.Fr2 l0_1 q) := ⟨fun q hq => HFr.out q (by rw [hQ0] at hq; exact List.mem_of_mem_drop hq)⟩
    clear hQ' hd hrun hgk hho hfc HD2 hQ0 HLen HFr HRun HQ HT cq
    go_upto_region 7 with (fail)
    have hbox := blk_new wo (.cells #[.int .i64 x, .int .i64 y] 79)
    have hb := below_alloc (Below.refl wo.heap.size wo) (.cells #[.int .i64 x, .int .i64 y] 79)
    obtain ⟨gc, hgc⟩ : ∃ g, wo.heap.size = g := ⟨_, rfl⟩
    have HGc := Aside0.mk hgc
    have HGm := Aside0.mk (show gm < gc by rw [← hgc]; exact blk_lt M.out)
    have HBs := Aside0.mk (show w.heap.size ≤ gc by rw [← hgc]; exact HB.out.size)
    have n9_ := Aside0.mk (Kd.Q_mono (Kd.Q_below (Kd.Q_bound HQ'.out) hb) (fun k hk => (⟨hk.1, by have := hk.2.2.1; omega⟩ : ¬ k = gm ∧ k < gc)))
    have n0_ := Aside0.mk (below_step HB.out hb)
    have n1_ := Aside0.mk (blk_below B0.out hb)
    have n2_ := Aside0.mk (blk_below B1.out hb)
    have n3_ := Aside0.mk (blk_below B2.out hb)
    have n4_ := Aside0.mk (blk_below M.out hb)
    clear HB B0 B1 B2 M HQ'
    have HB := n0_
    have B0 := n1_
    have B1 := n2_
    have B2 := n3_
    have M := n4_
    clear n0_ n1_ n2_ n3_ n4_
    have HQ' := n9_
    clear n9_
    rw [hgc] at hbox hb ⊢
    have hgz := hb.size
    generalize wo.alloc (.cells #[.int .i64 x, .int .i64 y] 79) = w9 at *
    have BC := Aside0.mk hbox
    clear hbox hb hgc hc0 hc1 hgz
    have zgc_0 : w9.cell? ⟨gc, 0, none⟩ = some (.int .i64 x) := (blk_cell BC.out 0).trans rfl
    have fzgc_0 := blk_frozen BC.out 0
    have zgc_1 : w9.cell? ⟨gc, 1, none⟩ = some (.int .i64 y) := (blk_cell BC.out 1).trans rfl
    have fzgc_1 := blk_frozen BC.out 1
    have zg1_0 : w9.cell? ⟨g1, 0, none⟩ = some (.int .i64 a1_0) := (blk_cell B1.out 0).trans rfl
    have fzg1_0 := blk_frozen B1.out 0
    have zg1_1 : w9.cell? ⟨g1, 1, none⟩ = some (.int .i64 a1_1) := (blk_cell B1.out 1).trans rfl
    have fzg1_1 := blk_frozen B1.out 1
    have zg2_0 : w9.cell? ⟨g2, 0, none⟩ = some (.int .i64 a2_0) := (blk_cell B2.out 0).trans rfl
    have fzg2_0 := blk_frozen B2.out 0
    have zg2_1 : w9.cell? ⟨g2, 1, none⟩ = some (.int .i64 a2_1) := (blk_cell B2.out 1).trans rfl
    have fzg2_1 := blk_frozen B2.out 1

    by_cases hA : x = a1_1 ∧ y = a2_1
    ·have e1 : (x == a1_1) = true := beq_iff_eq.2 hA.1
     have e2 : (y == a2_1) = true := beq_iff_eq.2 hA.2
     have hl := run_lk keyP Try.underlying80 (zeroI w9) M.out (x, y)
     rw [HD.out] at hl
     simp only [Option.map_some, Option.getD_some, ekp] at hl
     have hres : d = r := by rw [← HRes.out, ← hA.1, ← hA.2, HNf.out]; rfl
     have HR2 := Aside0.mk hres
     clear hA hres
     go_wp2_with fail
     go_ret
     exact ⟨by rw [← HR2.out]; rfl, HB.out⟩
    have HT' : Aside0 (lk D (a1_1, a2_1) ≠ none → (a1_1, a2_1) ∈ Q0) := ⟨fun h => (HHo.out h).resolve_left (fun e => hA ⟨congrArg Prod.fst e, congrArg Prod.snd e⟩)⟩
    have hcs : ((x == a1_1) = false) ∨ ((x == a1_1) = true ∧ (y == a2_1) = false) := by
     by_cases h1 : x = a1_1
     · exact .inr ⟨beq_iff_eq.2 h1, beq_eq_false_iff_ne.2 (fun h2 => hA ⟨h1, h2⟩)⟩
     · exact .inl (beq_eq_false_iff_ne.2 h1)
    obtain ⟨k2, hk2⟩ := Ev.rounds (Pure.goes_ev hCl.out hFx.out).1
    obtain ⟨l1, hl1⟩ : ∃ l, l = Pure.Gos a0_0 l0_1 x := ⟨_, rfl⟩
    obtain ⟨ly, hly⟩ : ∃ l, l = Pure.Gos a0_0 l0_1 y := ⟨_, rfl⟩
    rw [← hl1] at hk2
    have hrun := HRun'.out
    unfold Pure.Jos at hrun
    simp only at hrun
    rw [← hl1, ← hly] at hrun
    have HL1 := Aside0.mk (show ∀ n ∈ l1, Pure.Fr l0_1 n by rw [hl1]; exact fun n hn => Pure.Gos_free hn)
    have HL1n := Aside0.mk (show l1.length ≤ 100 by rw [hl1]; exact Pure.Gos_len _ _ _)
    have HLy := Aside0.mk (show ∀ n ∈ ly, Pure.Fr l0_1 n by rw [hly]; exact fun n hn => Pure.Gos_free hn)
    have HLyn := Aside0.mk (show ly.length ≤ 100 by rw [hly]; exact Pure.Gos_len _ _ _)
    obtain ⟨k3, hk3⟩ := Ev.rounds (Pure.goes_ev hCl.out hFy.out).1
    rw [← hly] at hk3
    have HK2 := Aside0.mk hk2
    have HK3 := Aside0.mk hk3
    obtain ⟨FD, FQ, hfin⟩ : ∃ FD FQ, relax d D Q0 (l1.flatMap fun u => Pure.Row (x, y) u ly) = (FD, FQ) := ⟨_, _, rfl⟩
    rw [hfin] at hrun
    have HFin := Aside0.mk hfin
    clear HRun'
    have HRun' := Aside0.mk hrun
    clear hA hk2 hk3 hl1 hly hrun hfin HHo HNf
    rcases hcs with e1 | ⟨e1, e2⟩
    all_goals
     have zg0_0 : w9.cell? ⟨g0, 0, none⟩ = some (.int .i64 a0_0) := (blk_cell B0.out 0).trans rfl
     have fzg0_0 := blk_frozen B0.out 0
     have zg0_1 : w9.cell? ⟨g0, 1, none⟩ = some (.slice A0_1 l0_1.length c0_1) := (blk_cell B0.out 1).trans rfl
     have fzg0_1 := blk_frozen B0.out 1
     go_wp2_with (first
       | (go_at_call 58; (with_reducible refine (impl_Cells_goes.calls k2 a0_0 A0_1 c0_1 l0_1 x l1 _ ?s1 HC.out HK2.out).mono ?_); (case s1 => exact Kd.C_below HR.out HB.out); rintro e w10 ⟨v10, rfl, ho, hb⟩; clear zgc_0 fzgc_0 zgc_1 fzgc_1; clear zg1_0 fzg1_0 zg1_1 fzg1_1; clear zg2_0 fzg2_0 zg2_1 fzg2_1; clear zg0_0 fzg0_0 zg0_1 fzg0_1; have hgc9 := blk_lt BC.out; have n9_ := Aside0.mk (Kd.R_mono (Kd.R_bound ho) (fun k hk => (⟨Nat.le_trans (Nat.le_of_lt hgc9) hk.2.1, hk.2.2.1⟩ : Iv gc w10.heap.size k))); have n8_ := Aside0.mk (Kd.Q_mono (Kd.Q_below HQ'.out hb) (fun k hk => (⟨hk.1, fun h2 => by have := h2.1; have := hk.2; omega⟩ : ¬ k = gm ∧ ¬ Iv gc w10.heap.size k))); clear HQ'; have HIc := Aside0.mk (show gc < w10.heap.size from Nat.lt_of_lt_of_le hgc9 hb.size); have n0_ := Aside0.mk (below_step HB.out hb); have n1_ := Aside0.mk (blk_below B0.out hb); have n2_ := Aside0.mk (blk_below B1.out hb); have n3_ := Aside0.mk (blk_below B2.out hb); have n4_ := Aside0.mk (blk_below M.out hb); have n5_ := Aside0.mk (blk_below BC.out hb); clear HB B0 B1 B2 M BC; have HB := n0_; have B0 := n1_; have B1 := n2_; have B2 := n3_; have M := n4_; have BC := n5_; clear n0_ n1_ n2_ n3_ n4_ n5_; have HQ' := n8_; have HN := Aside0.mk (Kd.R_lower n9_.out (Nat.le_trans HBs.out (Nat.le_of_lt hgc9))); clear n9_ n8_ hb ho hgc9; obtain ⟨A10, c10, e10⟩ := Kd.R_slice HN.out; subst e10)
       | fail)

     go_loopg [8, 70] l1.length (fun g v8 v70 w' => ∃ (j : Nat) (D1 : List ((Int × Int) × Int)) (Q1 : List (Int × Int)), v70 = .int .i64 j ∧ Aside0 (j + g = l1.length) ∧ Aside0 (relax d D1 Q1 ((l1.drop j).flatMap (fun u => Pure.Row (x, y) u ly)) = (FD, FQ)) ∧ Aside0 (lk D1 (x, y) = some d) ∧ Aside0 (Kd.Q kp 79 w' w.heap.size (fun k => ¬ k = gm ∧ ¬ Iv gc w10.heap.size k) v8 Q1) ∧ Aside0 (Kd.R (Kd.int .i64) 3 w' w.heap.size (Iv gc w10.heap.size) (.slice A10 l1.length c10) l1) ∧ Aside0 (Q1.length + 1 + open_ D1 (Pure.Us2 l0_1.length) ≤ 2000) ∧ Aside0 (Pure.Low D1 (Pure.Us2 l0_1.length) 2000) ∧ Aside0 (∀ q ∈ Q1, Pure.Fr2 l0_1 q) ∧ Aside0 (lk D1 (a1_1, a2_1) ≠ none → (a1_1, a2_1) ∈ Q1) ∧ Aside0 (w10.heap.size ≤ w'.heap.size) ∧ Aside0 (w'.heap[g0]? = some (.cells #[.int .i64 a0_0, .slice A0_1 l0_1.length c0_1] 39 (0, 0))) ∧ Aside0 (w'.heap[g1]? = some (.cells #[.int .i64 a1_0, .int .i64 a1_1] 49 (0, 0))) ∧ Aside0 (w'.heap[g2]? = some (.cells #[.int .i64 a2_0, .int .i64 a2_1] 49 (0, 0))) ∧ Aside0 (w'.heap[gc]? = some (.cells #[.int .i64 x, .int .i64 y] 79 (0, 0))) ∧ Aside0 (w'.heap[gm]? = some (mobj ekp (Value.int .i64) D1)) ∧ Aside0 (Below w.heap.size w w'))
     case atStart => exact ⟨0, D, Q0, rfl, ⟨Nat.zero_add _⟩, ⟨HFin.out⟩, HD, HQ', HN, HLen', HLow, HFr', HT', ⟨Nat.le_refl _⟩, B0, B1, B2, BC, M, HB⟩
     case round =>
      clear HFin HD HQ' HN HLen' HLow HFr' HT' B0 B1 B2 BC M HB
      obtain ⟨j, D1, Q1, rfl, HJ, HFin, HD, HQ, HN, HLen, HLow, HFr, HT, HSz, B0, B1, B2, BC, M, HB⟩ := hrel
      obtain ⟨wi, rfl⟩ : ∃ wi : World, wi = wr := ⟨_, rfl⟩
      have HGx := Aside0.mk (Nat.le_refl gk)
      obtain ⟨gx, hgx⟩ : ∃ gx, gx = gk := ⟨_, rfl⟩
      have HGxe := Aside0.mk hgx
      clear hgx HGx
      by_cases cj : j < l1.length
      ·
       have cjb : decide ((j : Int) < (l1.length : Int)) = true := decide_eq_true (by omega)
       have cjc : decide (j < l1.length) = true := decide_eq_true cj
       have Cj := Aside0.mk cj
       have hR_ := (Kd.R_reads' HN.out).2.2
       obtain ⟨ad_l1, e1_, hx_⟩ := Kd.at_int hR_ (j : Int) (by omega) (by omega)
       subst e1_
       rw [Int.toNat_natCast] at hx_
       have hdr : l1.drop j = rd l1 (j : Int) :: l1.drop (j + 1) := by
         rw [List.drop_eq_getElem_cons cj]
         congr 1
         unfold rd
         simp [List.getD_eq_getElem?_getD, List.getElem?_eq_getElem cj]
       have hfn : Pure.Fr l0_1 (rd l1 (j : Int)) := HL1.out _ (by unfold rd; exact EvKit.getD_mem l1 j 0 cj)
       have hfin := HFin.out
       rw [hdr] at hfin
       generalize rd l1 (j : Int) = u at hx_ hfin hfn
       have HFu := Aside0.mk hfn
       have cjtj := eq_true cj
       have hw_ : wrap64 ((j : Int) + 1) = ((j + 1 : Nat) : Int) := Pure.succ_w (by have := HL1n.out; omega)
       have HWj := Aside0.mk hw_
       clear hw_ cj hdr hR_ hfn HFin
       rw [List.flatMap_cons, Pure.relax_append] at hfin
       obtain ⟨FD1, FQ1, hfin1⟩ : ∃ FD1 FQ1, relax d D1 Q1 (Pure.Row (x, y) u ly) = (FD1, FQ1) := ⟨_, _, rfl⟩
       rw [hfin1] at hfin
       have HFinX := Aside0.mk hfin
       have HFin := Aside0.mk hfin1
       clear hfin hfin1
       have zg0_0 : wi.cell? ⟨g0, 0, none⟩ = some (.int .i64 a0_0) := (blk_cell B0.out 0).trans rfl
       have fzg0_0 := blk_frozen B0.out 0
       have zg0_1 : wi.cell? ⟨g0, 1, none⟩ = some (.slice A0_1 l0_1.length c0_1) := (blk_cell B0.out 1).trans rfl
       have fzg0_1 := blk_frozen B0.out 1
       have zgc_0 : wi.cell? ⟨gc, 0, none⟩ = some (.int .i64 x) := (blk_cell BC.out 0).trans rfl
       have fzgc_0 := blk_frozen BC.out 0
       have zgc_1 : wi.cell? ⟨gc, 1, none⟩ = some (.int .i64 y) := (blk_cell BC.out 1).trans rfl
       have fzgc_1 := blk_frozen BC.out 1
       go_wp2_with (first
         | (go_at_call 58; (with_reducible refine (impl_Cells_goes.calls k3 a0_0 A0_1 c0_1 l0_1 y ly _ ?s1 HC.out HK3.out).mono ?_); (case s1 => exact Kd.C_below HR.out HB.out); rintro e w12 ⟨v12, rfl, ho, hb⟩; clear zgc_0 fzgc_0 zgc_1 fzgc_1; clear zg0_0 fzg0_0 zg0_1 fzg0_1; clear hx_; have n9_ := Aside0.mk (Kd.R_mono (Kd.R_bound ho) (fun k hk => (⟨hk.2.1, hk.2.2.1⟩ : Iv wi.heap.size w12.heap.size k))); have n8_ := Aside0.mk (Kd.Q_mono (Kd.Q_below (Kd.Q_bound HQ.out) hb) (fun k hk => (⟨hk.1.1, hk.1.2, fun h2 => by have := h2.1; have := hk.2.2.1; omega⟩ : ¬ k = gm ∧ ¬ Iv gc w10.heap.size k ∧ ¬ Iv wi.heap.size w12.heap.size k))); have HI2 := Aside0.mk hb.size; have HBi := Aside0.mk HB.out.size; clear HQ; have n0_ := Aside0.mk (below_step HB.out hb); have n1_ := Aside0.mk (blk_below B0.out hb); have n2_ := Aside0.mk (blk_below B1.out hb); have n3_ := Aside0.mk (blk_below B2.out hb); have n4_ := Aside0.mk (blk_below M.out hb); have n5_ := Aside0.mk (blk_below BC.out hb); have n6_ := Aside0.mk (Kd.R_below HN.out hb); clear HB B0 B1 B2 M BC HN; have HB := n0_; have B0 := n1_; have B1 := n2_; have B2 := n3_; have M := n4_; have BC := n5_; have HN := n6_; clear n0_ n1_ n2_ n3_ n4_ n5_ n6_; have HQ := n8_; have HN2 := Aside0.mk (Kd.R_lower n9_.out HBi.out); clear n9_ n8_ hb ho; obtain ⟨A12, c12, e12⟩ := Kd.R_slice HN2.out; subst e12)
         | fail)
       go_loopg [8, 79] ly.length (fun g v8 v79 w' => ∃ (i : Nat) (D2 : List ((Int × Int) × Int)) (Q2 : List (Int × Int)), v79 = .int .i64 i ∧ Aside0 (i + g = ly.length) ∧ Aside0 (relax d D2 Q2 (Pure.Row (x, y) u (ly.drop i)) = (FD1, FQ1)) ∧ Aside0 (lk D2 (x, y) = some d) ∧ Aside0 (Kd.Q kp 79 w' w.heap.size (fun k => ¬ k = gm ∧ ¬ Iv gc w10.heap.size k ∧ ¬ Iv wi.heap.size w12.heap.size k) v8 Q2) ∧ Aside0 (Kd.R (Kd.int .i64) 3 w' w.heap.size (Iv gc w10.heap.size) (.slice (some ad_l1) l1.length c10) l1) ∧ Aside0 (Kd.R (Kd.int .i64) 3 w' w.heap.size (Iv wi.heap.size w12.heap.size) (.slice A12 ly.length c12) ly) ∧ Aside0 (Q2.length + 1 + open_ D2 (Pure.Us2 l0_1.length) ≤ 2000) ∧ Aside0 (Pure.Low D2 (Pure.Us2 l0_1.length) 2000) ∧ Aside0 (∀ q ∈ Q2, Pure.Fr2 l0_1 q) ∧ Aside0 (lk D2 (a1_1, a2_1) ≠ none → (a1_1, a2_1) ∈ Q2) ∧ Aside0 (w12.heap.size ≤ w'.heap.size) ∧ Aside0 (w'.heap[g0]? = some (.cells #[.int .i64 a0_0, .slice A0_1 l0_1.length c0_1] 39 (0, 0))) ∧ Aside0 (w'.heap[g1]? = some (.cells #[.int .i64 a1_0, .int .i64 a1_1] 49 (0, 0))) ∧ Aside0 (w'.heap[g2]? = some (.cells #[.int .i64 a2_0, .int .i64 a2_1] 49 (0, 0))) ∧ Aside0 (w'.heap[gc]? = some (.cells #[.int .i64 x, .int .i64 y] 79 (0, 0))) ∧ Aside0 (w'.heap[gm]? = some (mobj ekp (Value.int .i64) D2)) ∧ Aside0 (Below w.heap.size w w'))
       case atStart => exact ⟨0, D1, Q1, rfl, ⟨Nat.zero_add _⟩, ⟨HFin.out⟩, HD, HQ, HN, HN2, HLen, HLow, HFr, HT, ⟨Nat.le_refl _⟩, B0, B1, B2, BC, M, HB⟩
       case round =>
        clear HFin HD HQ HN HN2 HLen HLow HFr HT B0 B1 B2 BC M HB
        have HSzi := HSz
        clear HSz
        obtain ⟨i, D2, Q2, rfl, HI, HFin, HD, HQ, HN, HN2, HLen, HLow, HFr, HT, HSz, B0, B1, B2, BC, M, HB⟩ := hrel
        by_cases cj : i < ly.length
        ·
         have cjb : decide ((i : Int) < (ly.length : Int)) = true := decide_eq_true (by omega)
         have cjc : decide (i < ly.length) = true := decide_eq_true cj
         have Ci := Aside0.mk cj
         have hR_ := (Kd.R_reads' HN2.out).2.2
         obtain ⟨ad_ly, e1_, hx_⟩ := Kd.at_int hR_ (i : Int) (by omega) (by omega)
         subst e1_
         rw [Int.toNat_natCast] at hx_
         have hdr : ly.drop i = rd ly (i : Int) :: ly.drop (i + 1) := by
           rw [List.drop_eq_getElem_cons cj]
           congr 1
           unfold rd
           simp [List.getD_eq_getElem?_getD, List.getElem?_eq_getElem cj]
         have hfn : Pure.Fr l0_1 (rd ly (i : Int)) := HLy.out _ (by unfold rd; exact EvKit.getD_mem ly i 0 cj)
         have hfin := HFin.out
         rw [hdr] at hfin
         generalize rd ly (i : Int) = v at hx_ hfin hfn
         have HFv := Aside0.mk hfn
         have cjti := eq_true cj
         have hw_ : wrap64 ((i : Int) + 1) = ((i + 1 : Nat) : Int) := Pure.succ_w (by have := HLyn.out; omega)
         have HWi := Aside0.mk hw_
         clear hw_ cj hdr hR_ hfn HFin
         rw [Pure.Row_cons] at hfin
         have HFin := Aside0.mk hfin
         clear hfin
         go_upto_region 17 with (fail)
         have hbox := blk_new wr (.cells #[.int .i64 u, .int .i64 v] 79)
         have hb := below_alloc (Below.refl wr.heap.size wr) (.cells #[.int .i64 u, .int .i64 v] 79)
         obtain ⟨gn, hgn⟩ : ∃ g, wr.heap.size = g := ⟨_, rfl⟩
         rw [hgn] at hbox ⊢
         have n0_ := Aside0.mk (below_step HB.out hb)
         have n1_ := Aside0.mk (blk_below B0.out hb)
         have n2_ := Aside0.mk (blk_below B1.out hb)
         have n3_ := Aside0.mk (blk_below B2.out hb)
         have n4_ := Aside0.mk (blk_below M.out hb)
         have n5_ := Aside0.mk (blk_below BC.out hb)
         have n6_ := Aside0.mk (Kd.R_below HN.out hb)
         have n7_ := Aside0.mk (Kd.R_below HN2.out hb)
         have n8_ := Aside0.mk (Kd.Q_below HQ.out hb)
         have n9_ := Aside0.mk (Nat.le_trans HSz.out hb.size)
         clear HB B0 B1 B2 M BC HN HN2 HQ HSz
         have HB := n0_
         have B0 := n1_
         have B1 := n2_
         have B2 := n3_
         have M := n4_
         have BC := n5_
         have HN := n6_
         have HN2 := n7_
         have HQ := n8_
         have HSz := n9_
         clear n0_ n1_ n2_ n3_ n4_ n5_ n6_ n7_ n8_ n9_
         generalize wr.alloc (.cells #[.int .i64 u, .int .i64 v] 79) = w13 at *
         have BN := Aside0.mk hbox
         clear hbox hb hgn hx_
         have zgn_0 : w13.cell? ⟨gn, 0, none⟩ = some (.int .i64 u) := (blk_cell BN.out 0).trans rfl
         have fzgn_0 := blk_frozen BN.out 0
         have zgn_1 : w13.cell? ⟨gn, 1, none⟩ = some (.int .i64 v) := (blk_cell BN.out 1).trans rfl
         have fzgn_1 := blk_frozen BN.out 1
         have zgc_0 : w13.cell? ⟨gc, 0, none⟩ = some (.int .i64 x) := (blk_cell BC.out 0).trans rfl
         have fzgc_0 := blk_frozen BC.out 0
         have zgc_1 : w13.cell? ⟨gc, 1, none⟩ = some (.int .i64 y) := (blk_cell BC.out 1).trans rfl
         have fzgc_1 := blk_frozen BC.out 1
         cases hk : lk D2 (u, v) with
         | some e =>
          have hl0 := run_lk_ok keyP Try.underlying80 (zeroI w13) M.out (u, v)
          rw [hk] at hl0
          simp only [Option.map_some, Option.getD_some, Option.isSome_some, ekp] at hl0
          have hfin := HFin.out
          have hfin2 : relax d D2 Q2 (Pure.Row (x, y) u (ly.drop (i + 1))) = (FD1, FQ1) := by
           rw [← hfin]
           split
           · simp only [relax, hk, reduceCtorEq, if_false]
           · rfl
          clear HFin
          have HFin := Aside0.mk hfin2
          clear hk hfin hfin2
          go_wp2_with fail
          rw [HWi.out]
          go_roundg (gk - 1)
          case measure => have := HI.out; have := Ci.out; omega
          case rel => exact ⟨i + 1, _, _, rfl, ⟨by have := HI.out; have := Ci.out; omega⟩, HFin, HD, HQ, HN, HN2, HLen, HLow, HFr, HT, HSz, B0, B1, B2, BC, M, HB⟩
         | none =>
          have hl0 := run_lk_ok keyP Try.underlying80 (zeroI w13) M.out (u, v)
          rw [hk] at hl0
          simp only [Option.map_none, Option.getD_none, Option.isSome_none, ekp] at hl0
          have HK := Aside0.mk hk
          clear hk
          by_cases hp : Pure.Pass (x, y) u v
          case neg =>
           have hm : impl_meets.f x u y v = some true := by
            unfold Pure.Pass at hp
            unfold impl_meets.f
            by_cases h1 : u = v
            · rw [if_pos h1]
            · have h2 : u = y ∧ v = x := Classical.byContradiction fun h => hp (fun h' => h'.elim h1 h)
              rw [if_neg h1, if_pos h2.2.symm, h2.1]
              simp
           have HM := Aside0.mk hm
           have hfin := HFin.out
           rw [if_neg hp] at hfin
           clear HFin
           have HFin := Aside0.mk hfin
           clear hm hp hfin
           go_wp2_with (first
             | (go_at_call 59; (with_reducible refine (impl_meets.calls x u y v _ _ HM.out).mono ?_); rintro e w14 ⟨rfl, hd_⟩; have hb := hd_.below; clear zgn_0 fzgn_0 zgn_1 fzgn_1; clear zgc_0 fzgc_0 zgc_1 fzgc_1; clear hl0; have n0_ := Aside0.mk (below_step HB.out hb); have n1_ := Aside0.mk (blk_below B0.out hb); have n2_ := Aside0.mk (blk_below B1.out hb); have n3_ := Aside0.mk (blk_below B2.out hb); have n4_ := Aside0.mk (blk_below M.out hb); have n5_ := Aside0.mk (blk_below BC.out hb); have n6_ := Aside0.mk (Kd.R_below HN.out hb); have n7_ := Aside0.mk (Kd.R_below HN2.out hb); have n8_ := Aside0.mk (Kd.Q_below HQ.out hb); have n9_ := Aside0.mk (Nat.le_trans HSz.out hb.size); have n10_ := Aside0.mk (blk_below BN.out hb); clear HB B0 B1 B2 M BC HN HN2 HQ HSz BN; have HB := n0_; have B0 := n1_; have B1 := n2_; have B2 := n3_; have M := n4_; have BC := n5_; have HN := n6_; have HN2 := n7_; have HQ := n8_; have HSz := n9_; have BN := n10_; clear n0_ n1_ n2_ n3_ n4_ n5_ n6_ n7_ n8_ n9_ n10_; clear hb hd_)
             | fail)
           rw [HWi.out]
           go_roundg (gk - 1)
           case measure => have := HI.out; have := Ci.out; omega
           case rel => exact ⟨i + 1, _, _, rfl, ⟨by have := HI.out; have := Ci.out; omega⟩, HFin, HD, HQ, HN, HN2, HLen, HLow, HFr, HT, HSz, B0, B1, B2, BC, M, HB⟩
          case pos =>
           have hm : impl_meets.f x u y v = some false := by
            unfold Pure.Pass at hp
            unfold impl_meets.f
            have h1 : ¬ u = v := fun h => hp (.inl h)
            rw [if_neg h1]
            by_cases h3 : x = v
            · have h4 : ¬ u = y := fun h => hp (.inr ⟨h, h3.symm⟩)
              rw [if_pos h3]
              simp [h4]
            · rw [if_neg h3]
           have HM := Aside0.mk hm
           have hfin := HFin.out
           rw [if_pos hp] at hfin
           simp only [relax, HK.out, if_true] at hfin
           clear HFin
           have HFin := Aside0.mk hfin
           clear hm hp hfin
           go_wp2_with (first
             | (go_at_call 59; (with_reducible refine (impl_meets.calls x u y v _ _ HM.out).mono ?_); rintro e w14 ⟨rfl, hd_⟩; have hb := hd_.below; clear zgn_0 fzgn_0 zgn_1 fzgn_1; clear zgc_0 fzgc_0 zgc_1 fzgc_1; clear hl0; have n0_ := Aside0.mk (below_step HB.out hb); have n1_ := Aside0.mk (blk_below B0.out hb); have n2_ := Aside0.mk (blk_below B1.out hb); have n3_ := Aside0.mk (blk_below B2.out hb); have n4_ := Aside0.mk (blk_below M.out hb); have n5_ := Aside0.mk (blk_below BC.out hb); have n6_ := Aside0.mk (Kd.R_below HN.out hb); have n7_ := Aside0.mk (Kd.R_below HN2.out hb); have n8_ := Aside0.mk (Kd.Q_below HQ.out hb); have n9_ := Aside0.mk (Nat.le_trans HSz.out hb.size); have n10_ := Aside0.mk (blk_below BN.out hb); clear HB B0 B1 B2 M BC HN HN2 HQ HSz BN; have HB := n0_; have B0 := n1_; have B1 := n2_; have B2 := n3_; have M := n4_; have BC := n5_; have HN := n6_; have HN2 := n7_; have HQ := n8_; have HSz := n9_; have BN := n10_; clear n0_ n1_ n2_ n3_ n4_ n5_ n6_ n7_ n8_ n9_ n10_; clear hb hd_)
             | fail)
           have hb : Below w14.heap.size w14 w14.drew := below_drew (Below.refl _ _)
           have n0_ := Aside0.mk (below_step HB.out hb)
           have n1_ := Aside0.mk (blk_below B0.out hb)
           have n2_ := Aside0.mk (blk_below B1.out hb)
           have n3_ := Aside0.mk (blk_below B2.out hb)
           have n4_ := Aside0.mk (blk_below M.out hb)
           have n5_ := Aside0.mk (blk_below BC.out hb)
           have n6_ := Aside0.mk (Kd.R_below HN.out hb)
           have n7_ := Aside0.mk (Kd.R_below HN2.out hb)
           have n8_ := Aside0.mk (Kd.Q_below HQ.out hb)
           have n9_ := Aside0.mk (Nat.le_trans HSz.out hb.size)
           have n10_ := Aside0.mk (blk_below BN.out hb)
           clear HB B0 B1 B2 M BC HN HN2 HQ HSz BN
           have HB := n0_
           have B0 := n1_
           have B1 := n2_
           have B2 := n3_
           have M := n4_
           have BC := n5_
           have HN := n6_
           have HN2 := n7_
           have HQ := n8_
           have HSz := n9_
           have BN := n10_
           clear n0_ n1_ n2_ n3_ n4_ n5_ n6_ n7_ n8_ n9_ n10_
           clear hb
           refine start_ (n := 7) (S := (fun w' => w'.cell? ⟨gn, 0, none⟩ = some (.int .i64 u) ∧ w'.cell? ⟨gn, 1, none⟩ = some (.int .i64 v) ∧ w'.cell? ⟨gc, 0, none⟩ = some (.int .i64 x) ∧ w'.cell? ⟨gc, 1, none⟩ = some (.int .i64 y) ∧ w'.heap[gm]? = some (mobj ekp (Value.int .i64) D2))) (ds := [6]) #[false, false, false, false, false, false, false] (by kernel_rfl) rfl rfl ⟨(blk_cell BN.out 0).trans rfl, (blk_cell BN.out 1).trans rfl, (blk_cell BC.out 0).trans rfl, (blk_cell BC.out 1).trans rfl, M.out⟩ (fun hHeld => ?_)
           generalize w14.drew = w15 at HB B0 B1 B2 M BC HN HN2 HQ HSz BN hHeld ⊢
           refine pure_ (i := 0) (N := some 102) (v := ?_) (a' := ?_) #[true, false, false, false, false, false, false] rfl rfl (by kernel_rfl) (fun _ _ _ h => h) (Or.inl ⟨by rfl, ?_⟩) ?_ ?_
           rotate_left
           · intro w'
             go_simp
             with_reducible rfl
           rotate_left
           · simp only [Act.put, List.setIfInBounds_toArray, List.set_cons_zero, List.set_cons_succ]
             rfl
           refine take_ (i := 1) (N := some 103) (v := ?_) (a' := ?_) #[true, true, false, false, false, false, false] rfl rfl (by kernel_rfl) (fun _ _ _ h => h) (Or.inl ⟨by rfl, ?_⟩) hHeld ?_ ?_
           rotate_left
           · rintro w' ⟨s0, s1, s2, s3, s4⟩
             go_simp
             with_reducible rfl
           rotate_left
           · simp only [Act.put, List.setIfInBounds_toArray, List.set_cons_zero, List.set_cons_succ]
             rfl
           refine pure_ (i := 2) (N := some 104) (v := ?_) (a' := ?_) #[true, true, true, false, false, false, false] rfl rfl (by kernel_rfl) (fun _ _ _ h => h) (Or.inl ⟨by rfl, ?_⟩) ?_ ?_
           rotate_left
           · intro w'
             go_simp
             with_reducible rfl
           rotate_left
           · simp only [Act.put, List.setIfInBounds_toArray, List.set_cons_zero, List.set_cons_succ]
             rfl
           refine take_ (i := 3) (N := some 105) (v := ?_) (a' := ?_) #[true, true, true, true, false, false, false] rfl rfl (by kernel_rfl) (fun _ _ _ h => h) (Or.inl ⟨by rfl, ?_⟩) hHeld ?_ ?_
           rotate_left
           · rintro w' ⟨s0, s1, s2, s3, s4⟩
             go_simp
             with_reducible rfl
           rotate_left
           · simp only [Act.put, List.setIfInBounds_toArray, List.set_cons_zero, List.set_cons_succ]
             rfl
           refine take_ (i := 4) (N := some 106) (v := ?_) (a' := ?_) #[true, true, true, true, true, false, false] rfl rfl (by kernel_rfl) (fun _ _ _ h => h) (Or.inl ⟨by rfl, ?_⟩) hHeld ?_ ?_
           rotate_left
           · rintro w' ⟨s0, s1, s2, s3, s4⟩
             have hl1 := run_lk keyP Try.underlying80 (zeroI w') s4 (x, y)
             rw [HD.out] at hl1
             simp only [Option.map_some, Option.getD_some, ekp] at hl1
             go_simp
             with_reducible rfl
           rotate_left
           · simp only [Act.put, List.setIfInBounds_toArray, List.set_cons_zero, List.set_cons_succ]
             rfl
           refine pure_ (i := 5) (N := some 107) (v := ?_) (a' := ?_) #[true, true, true, true, true, true, false] rfl rfl (by kernel_rfl) (fun _ _ _ h => h) (Or.inl ⟨by rfl, ?_⟩) ?_ ?_
           rotate_left
           · intro w'
             go_simp
             with_reducible rfl
           rotate_left
           · simp only [Act.put, List.setIfInBounds_toArray, List.set_cons_zero, List.set_cons_succ]
             rfl
           refine last_ (i := 6) (N := none) #[true, true, true, true, true, true, true] rfl rfl (by kernel_rfl) (by decide) (fun K hK => ?_)
           refine put_step (P := Try.prog) (by rfl) rfl rfl keyP Try.underlying80 M.out (u, v) (d + 1) rfl rfl (by first | rfl | (show Value.int .i64 (wrap64 (d + 1)) = Value.int .i64 (d + 1); rw [HWd.out]) | (show Value.int .i64 (IntKind.i64.wrap (d + 1)) = Value.int .i64 (d + 1); rw [IntWalk.i64_in (d + 1) (by omega)])) ?_
           refine hK.out _ _ ?_
           clear hK K hHeld
           refine done_ (by kernel_rfl) ?_
           have hM := setBlock_at M.out (mobj ekp (Value.int .i64) (put D2 (u, v) (d + 1)))
           have hk := kept_block (w := w15) (b := gm) (o' := mobj ekp (Value.int .i64) (put D2 (u, v) (d + 1)))
           have hb := below_block (o' := mobj ekp (Value.int .i64) (put D2 (u, v) (d + 1))) HB.out GM.out
           generalize Go.ChangeMaps.setBlock w15 gm (mobj ekp (Value.int .i64) (put D2 (u, v) (d + 1))) = w16 at hM hk hb ⊢
           have hsz := hk.1
           have n0_ := Aside0.mk (hb)
           have n1_ := Aside0.mk (blk_kept B0.out hk (cells_map B0.out M.out))
           have n2_ := Aside0.mk (blk_kept B1.out hk (cells_map B1.out M.out))
           have n3_ := Aside0.mk (blk_kept B2.out hk (cells_map B2.out M.out))
           have n4_ := Aside0.mk (blk_kept BC.out hk (cells_map BC.out M.out))
           have n5_ := Aside0.mk (blk_kept BN.out hk (cells_map BN.out M.out))
           have n6_ := Aside0.mk (hM)
           have n7_ := Aside0.mk (Kd.Q_kept HQ.out hk (fun k h1 h2 => h1.1 h2))
           have n8_ := Aside0.mk (Kd.R_kept HN.out hk (fun k h1 h2 => by have := h1.1; have := HGm.out; omega))
           have n9_ := Aside0.mk (Kd.R_kept HN2.out hk (fun k h1 h2 => by have := h1.1; have := HGm.out; have := HIc.out; have := HSzi.out; omega))
           have n10_ := Aside0.mk (Nat.le_trans HSz.out hsz)
           clear HB B0 B1 B2 BC BN M HQ HN HN2 HSz
           have HB := n0_
           have B0 := n1_
           have B1 := n2_
           have B2 := n3_
           have BC := n4_
           have BN := n5_
           have M := n6_
           have HQ := n7_
           have HN := n8_
           have HN2 := n9_
           have HSz := n10_
           clear n0_ n1_ n2_ n3_ n4_ n5_ n6_ n7_ n8_ n9_ n10_
           clear hM hk hb hsz
           have zgn_0 : w16.cell? ⟨gn, 0, none⟩ = some (.int .i64 u) := (blk_cell BN.out 0).trans rfl
           have fzgn_0 := blk_frozen BN.out 0
           have zgn_1 : w16.cell? ⟨gn, 1, none⟩ = some (.int .i64 v) := (blk_cell BN.out 1).trans rfl
           have fzgn_1 := blk_frozen BN.out 1
           go_wp2_with (first
             | ((with_reducible refine gate_builtin (b := .append) (xs := #[.tmp 108, .tmp 110]) rfl ?_); at_builtin; refine Kd.Q_append kp (w0 := w) w.heap.size rfl (.tmp 108) (.tmp 110) 81 79 (.agg #[(.int .i64 0), (.int .i64 0)]) 16 rfl Try.underlying81 info79 rfl (by decide) (by omega) _ Q2 (u, v) [.int .i64 u, .int .i64 v] (fun k => ¬ k = gm ∧ ¬ Iv gc w10.heap.size k ∧ ¬ Iv wi.heap.size w12.heap.size k) (fun _ => False) rfl rfl ?aP (fun _ hk => hk.elim) ?aF HQ.out HB.out ?aS ?aL ?_; (case aP => exact kp_mkM _ _ _ (u, v)); (case aF => exact (fun k hk => ⟨fun e => by have := blk_lt M.out; omega, fun h => by have := h.2; have := HSz.out; have := HSzi.out; have := HI2.out; omega, fun h => by have := h.2; have := HSz.out; omega⟩)); (case aS => exact HB.out.size); (case aL => have := HLen.out; omega); intro v9 w17 hq hb hg hat; clear zgn_0 fzgn_0 zgn_1 fzgn_1; have n0_ := Aside0.mk (blk_grown B0.out hg (Kd.Q_ne HQ.out B0.out (by decide))); have n1_ := Aside0.mk (blk_grown B1.out hg (Kd.Q_ne HQ.out B1.out (by decide))); have n2_ := Aside0.mk (blk_grown B2.out hg (Kd.Q_ne HQ.out B2.out (by decide))); have n3_ := Aside0.mk (blk_grown BC.out hg (fun e => (HQ.out.1 gc e.symm).2.1 ⟨Nat.le_refl _, HIc.out⟩)); have n4_ := Aside0.mk (blk_grown M.out hg (fun e => (HQ.out.1 gm e.symm).1 rfl)); have n5_ := Aside0.mk (Kd.R_grown HN.out hg (fun k h1 e => (HQ.out.1 k e.symm).2.1 h1)); have n6_ := Aside0.mk (Kd.R_grown HN2.out hg (fun k h1 e => (HQ.out.1 k e.symm).2.2 h1)); have n7_ := Aside0.mk (Nat.le_trans HSz.out hg.size); have n8_ := Aside0.mk (hb); clear B0 B1 B2 BC M HN HN2 HSz HB HQ BN; have B0 := n0_; have B1 := n1_; have B2 := n2_; have BC := n3_; have M := n4_; have HN := n5_; have HN2 := n6_; have HSz := n7_; have HB := n8_; clear n0_ n1_ n2_ n3_ n4_ n5_ n6_ n7_ n8_; have HQ := Aside0.mk hq; clear hq hb hg hat)
             | fail)
           have hin := Pure.Fr2_in (c := l0_1) (p := (u, v)) ⟨HFu.out, HFv.out⟩
           rw [HWi.out]
           go_roundg (gk - 1)
           case measure => have := HI.out; have := Ci.out; omega
           case rel => exact ⟨i + 1, _, _, rfl, ⟨by have := HI.out; have := Ci.out; omega⟩, HFin, ⟨by rw [lk_put, if_neg (fun e => by have h1 := HD.out; rw [e, HK.out] at h1; cases h1)]; exact HD.out⟩, HQ, HN, HN2, ⟨by have := (Bfs.open_put (D := D2) (n := (u, v)) (d + 1) (Pure.Us2 l0_1.length)).2 hin HK.out; have := HLen.out; simp only [List.length_append, List.length_singleton]; omega⟩, ⟨HLow.out.put HD.out hin HK.out⟩, ⟨fun q hq => (List.mem_append.1 hq).elim (HFr.out q) (fun h => by rw [List.mem_singleton.1 h]; exact ⟨HFu.out, HFv.out⟩)⟩, ⟨fun h => by
                        rw [lk_put] at h
                        split at h
                        · rename_i e; rw [e]; simp
                        · exact List.mem_append_left _ (HT.out h)⟩, HSz, B0, B1, B2, BC, M, HB⟩
        ·have cjb : decide ((i : Int) < (ly.length : Int)) = false := decide_eq_false (by omega)
         have cjc : decide (i < ly.length) = false := decide_eq_false cj
         have hfin := HFin.out
         rw [List.drop_eq_nil_of_le (by omega)] at hfin
         simp only [Pure.Row, List.filter_nil, List.map_nil, relax, Prod.mk.injEq] at hfin
         obtain ⟨rfl, rfl⟩ := hfin
         have HQ2 := Aside0.mk (Kd.Q_mono HQ.out (fun k hk => (⟨hk.1, hk.2.1⟩ : ¬ k = gm ∧ ¬ Iv gc w10.heap.size k)))
         clear cj HFin HQ HN2
         go_wp2_with fail
         rw [HWj.out]
         go_roundg (gx - 1)
         case measure => have := HJ.out; have := Cj.out; have := HGxe.out; omega
         case rel => exact ⟨j + 1, D2, Q2, rfl, ⟨by have := HJ.out; have := Cj.out; have := HGxe.out; omega⟩, HFinX, HD, HQ2, HN, HLen, HLow, HFr, HT, ⟨by have := HSz.out; have := HSzi.out; have := HI2.out; omega⟩, B0, B1, B2, BC, M, HB⟩
      ·have cjb : decide ((j : Int) < (l1.length : Int)) = false := decide_eq_false (by omega)
       have cjc : decide (j < l1.length) = false := decide_eq_false cj
       have hfin := HFin.out
       rw [List.drop_eq_nil_of_le (by omega)] at hfin
       simp only [List.flatMap_nil, relax, Prod.mk.injEq] at hfin
       obtain ⟨rfl, rfl⟩ := hfin
       have HQ2 := Aside0.mk (Kd.Q_mono HQ.out (fun k hk => hk.1))
       clear cj HFin HQ HN
       go_wp2_with fail
       go_roundg g'
       case measure => have := HGk.out; omega
       case rel => exact ⟨D1, Q1, HRun', HQ2, ⟨by have := HLen.out; omega⟩, HLow, HFr, HT, B0, B1, B2, M, HB⟩
   ·have hDF := run_nil2 HRun.out cq
    subst hDF
    have cqb : decide (0 < Q.length) = false := decide_eq_false cq
    have cqc : decide ((0 : Int) < (Q.length : Int)) = false := decide_eq_false (by omega)
    have hnone : lk D (a1_1, a2_1) = none := by
     cases h : lk D (a1_1, a2_1) with
     | none => rfl
     | some e =>
      have := HT.out (by rw [h]; simp)
      have h0 : Q = [] := List.eq_nil_of_length_eq_zero (by omega)
      rw [h0] at this
      cases this
    have hres : -1 = r := by rw [← HRes.out, hnone]; rfl
    have HR2 := Aside0.mk hres
    clear cq HRun HQ hnone hres
    go_wp2_with fail
    go_ret
    exact ⟨by rw [← HR2.out]; rfl, HB.out⟩
open Classical in
theorem impl_JointTicks.calls (a0_0 : Int) (A0_1 : Option Addr) (c0_1 : Nat) (l0_1 : List Int) (a1_0 : Int) (a1_1 : Int) (a2_0 : Int) (a2_1 : Int) (r : Int) (w : World) (hr0_1 : Kd.C (Kd.int .i64) w A0_1 l0_1.length l0_1) (hc0_1 : l0_1.length ≤ c0_1) (h : impl_JointTicks.f a0_0 l0_1 a1_0 a1_1 a2_0 a2_1 = some r) :
    Calls Try.prog 35 #[.agg #[.int .i64 a0_0, .slice A0_1 l0_1.length c0_1], .agg #[.int .i64 a1_0, .int .i64 a1_1], .agg #[.int .i64 a2_0, .int .i64 a2_1]] w fun e w' => e = .returned (.int .i64 r) ∧ Below w.heap.size w w' := by
  unfold impl_JointTicks.f at h
  by_cases hn : l0_1.length ≤ 35184372088832
  case neg => rw [if_neg hn] at h; cases h
  rw [if_pos hn] at h
  injection h with h
  unfold Pure.jointV at h
  obtain ⟨k, hk⟩ := Ev.rounds (Pure.goodTrips_both a0_0 l0_1 [⟨a1_0, a1_1⟩, ⟨a2_0, a2_1⟩] hn).1
  by_cases hG : Pure.Gt a0_0 l0_1 [⟨a1_0, a1_1⟩, ⟨a2_0, a2_1⟩]
  · rw [decide_eq_true hG] at hk
    by_cases h36 : l0_1.length ≤ 36
    · rw [if_pos ⟨hG, h36⟩] at h
      exact joint_good a0_0 A0_1 c0_1 l0_1 a1_0 a1_1 a2_0 a2_1 r k w hr0_1 hc0_1 hk hG h36 h
    · rw [if_neg (fun x => h36 x.2)] at h
      subst h
      exact joint_many a0_0 A0_1 c0_1 l0_1 a1_0 a1_1 a2_0 a2_1 k w hr0_1 hc0_1 hk h36
  · rw [if_neg (fun x => hG x.1)] at h
    rw [decide_eq_false hG] at hk
    subst h
    exact joint_bad a0_0 A0_1 c0_1 l0_1 a1_0 a1_1 a2_0 a2_1 k w hr0_1 hc0_1 hk
end Go.Proofs.Ytcldlljnaijmhaa.Pr
