/-
Own text: DotReals, in the program and in the reference; its law.
-/
import Derived.Test.YtdcnlghcdmiciaaFs8
namespace Go.Proofs.Ytdcnlghcdmiciaa.Fl
open Go Ieee Go.RowKit Go.Proofs.YtdcnlghcdmiciaaW.PrintWords Go.Proofs.YtdcnlghcdmiciaaW.PrintLast Go.Proofs.Ytdcnlghcdmiciaa.Opn
set_option linter.unusedVariables false
set_option linter.unusedSimpArgs false
def dotOk (a b : List Nat) : Bool := goodsB a && goodsB b && decide ((a.length : Int) = (b.length : Int))
def dotR (a b : List Nat) : Nat := if dotOk a b then told (dotS a b) else 0
def dotB (a b : List Nat) : Bool := dotOk a b && finB (dotS a b)
theorem dot_no {a b : List Nat} (h : dotOk a b = false) : dotR a b = 0 ∧ dotB a b = false := by unfold dotR dotB; rw [h]; exact ⟨rfl, rfl⟩
theorem dot_yes {a b : List Nat} (h : dotOk a b = true) : dotR a b = told (dotS a b) ∧ dotB a b = finB (dotS a b) := by unfold dotR dotB; rw [h]; exact ⟨rfl, rfl⟩
theorem dotR_lt (a b : List Nat) : dotR a b < 18446744073709551616 := by
  unfold dotR
  split
  · exact told_lt (dotS_lt _ _)
  · decide
set_option maxHeartbeats 2000000 in
set_option maxRecDepth 100000 in
theorem spec_DotReals (A : Option Addr) (ca : Nat) (a : List Nat) (B : Option Addr) (cb : Nat) (b : List Nat) (w : World) (hA : flt.C w A a.length a) (hca : a.length ≤ ca) (hna : a.length * 8 ≤ 140737488351232) (hba : Bits a) (hB : flt.C w B b.length b) (hcb : b.length ≤ cb) (hnb : b.length * 8 ≤ 140737488351232) (hbb : Bits b) :
    Calls Try.prog 25 #[.slice A a.length ca, .slice B b.length cb] w fun e w' => e = .returned (.tuple #[.float .f64 (dotR a b), .bool (dotB a b)]) ∧ Below w.heap.size w w' := by
  have HA1 := Aside0.mk (fun n => l2Goods A ca a (w.drewN n) (Kd.C_drewN hA n) hca hna hba)
  have HA0 := Aside0.mk (l2Goods A ca a w hA hca hna hba)
  have HB1 := Aside0.mk (fun n => l2Goods B cb b (w.drewN n) (Kd.C_drewN hB n) hcb hnb hbb)
  have H2 := Aside0.mk (fun (n : Nat) (hl : a.length = b.length) => l2Dot A B ca cb a b (w.drewN n) (Kd.C_drewN hA n) (Kd.C_drewN hB n) hca hcb hl hna)
  have HN := Aside0.mk (dot_no (a := a) (b := b))
  have HY := Aside0.mk (dot_yes (a := a) (b := b))
  have HO : Aside0 (dotOk a b = (goodsB a && goodsB b && decide ((a.length : Int) = (b.length : Int)))) := ⟨rfl⟩
  have HLL : Aside0 (a.length ≤ 17592186044416 ∧ b.length ≤ 17592186044416) := ⟨by omega⟩
  have hla : (a.length : Int) ≤ 17592186044416 := by omega
  have hlb : (b.length : Int) ≤ 17592186044416 := by omega
  clear hA hB hca hcb hna hnb hba hbb HA1
  generalize dotOk a b = ok at *
  generalize goodsB a = x1 at *
  generalize goodsB b = x2 at *
  cases x1
  case false =>
    have HN2 := Aside0.mk (HN.out HO.out)
    clear HN HY H2
    go_enter Try.func25, Try.ntmps25
    go_wp2_with (first | (go_at_call 47; (with_reducible refine (HA0.out).mono ?_); rintro e w' ⟨rfl, n, rfl⟩))
    go_ret2
    exact ⟨by rw [HN2.out.1, HN2.out.2]; rfl, pw_below_drewN (Below.refl _ _) _⟩
  cases x2
  case false =>
    have HN2 := Aside0.mk (HN.out HO.out)
    clear HN HY H2
    go_enter Try.func25, Try.ntmps25
    go_wp2_with fail
    go_at_call 47
    refine (HA0.out).mono ?_
    rintro e w' ⟨rfl, n, rfl⟩
    go_wp2_with fail
    go_at_call 47
    refine (HB1.out n).mono ?_
    rintro e w' ⟨rfl, n2, rfl⟩
    go_wp2_with fail
    go_ret2
    exact ⟨by rw [HN2.out.1, HN2.out.2]; rfl, pw_below_drewN (Below.refl _ _) _⟩
  by_cases hl : (a.length : Int) = (b.length : Int)
  case neg =>
    have HN2 := Aside0.mk (HN.out (HO.out.trans (by rw [decide_eq_false hl]; rfl)))
    have hl1 : ((a.length : Int) != (b.length : Int)) = true := bne_iff_ne.2 hl
    have hl2 : ((a.length : Int) == (b.length : Int)) = false := beq_eq_false_iff_ne.2 hl
    clear HN HY H2 hl
    go_enter Try.func25, Try.ntmps25
    go_wp2_with fail
    go_at_call 47
    refine (HA0.out).mono ?_
    rintro e w' ⟨rfl, n, rfl⟩
    go_wp2_with fail
    go_at_call 47
    refine (HB1.out n).mono ?_
    rintro e w' ⟨rfl, n2, rfl⟩
    go_wp2_with fail
    all_goals
      go_ret2
      exact ⟨by rw [HN2.out.1, HN2.out.2]; rfl, pw_below_drewN (Below.refl _ _) _⟩
  have HY2 := Aside0.mk (HY.out (HO.out.trans (by rw [decide_eq_true hl]; rfl)))
  have hl1 : ((a.length : Int) != (b.length : Int)) = false := bne_eq_false_iff_eq.2 hl
  have hl2 : ((a.length : Int) == (b.length : Int)) = true := beq_iff_eq.2 hl
  have HE : Aside0 (a.length = b.length) := ⟨by omega⟩
  clear HN HY hl
  have H3 := Aside0.mk (fun n => H2.out n HE.out)
  clear H2 HE
  go_enter Try.func25, Try.ntmps25
  go_wp2_with fail
  go_at_call 47
  refine (HA0.out).mono ?_
  rintro e w' ⟨rfl, n, rfl⟩
  go_wp2_with fail
  go_at_call 47
  refine (HB1.out n).mono ?_
  rintro e w' ⟨rfl, n2, rfl⟩
  go_wp2_with (first | (go_at_call 51; refine (H3.out _).mono ?_; rintro e w1 ⟨r, rfl, hr, hb⟩; have HR := Aside0.mk hr; have K1 := Aside0.mk (below_step (pw_below_drewN (Below.refl w.heap.size w) _) hb); clear hr hb) | (go_at_call 37; refine (l2Told _ HR.out.1 _).mono ?_; rintro e w' ⟨rfl, rfl⟩))
  go_ret2
  refine ⟨?_, K1.out⟩
  rw [HY2.out.1, HY2.out.2, ← told_ab HR.out.2, ← fin_eq_ab HR.out.2]
  rfl
set_option maxHeartbeats 2000000 in
set_option maxRecDepth 100000 in
theorem impl_DotReals (A : Option Addr) (ca : Nat) (a : List Nat) (B : Option Addr) (cb : Nat) (b : List Nat) (w : World) (hA : flt.C w A a.length a) (hca : a.length ≤ ca) (hna : a.length * 8 ≤ 140737488351232) (hba : Bits a) (hB : flt.C w B b.length b) (hcb : b.length ≤ cb) (hnb : b.length * 8 ≤ 140737488351232) (hbb : Bits b) :
    Calls Try.prog 26 #[.slice A a.length ca, .slice B b.length cb] w fun e w' => e = .returned (.tuple #[.float .f64 (dotR a b), .bool (dotB a b)]) ∧ Below w.heap.size w w' := by
  have HA1 := Aside0.mk (fun n => impl_goodReals A ca a (w.drewN n) (Kd.C_drewN hA n) hca hna hba)
  have HA0 := Aside0.mk (impl_goodReals A ca a w hA hca hna hba)
  have HB1 := Aside0.mk (fun n => impl_goodReals B cb b (w.drewN n) (Kd.C_drewN hB n) hcb hnb hbb)
  have H2 := Aside0.mk (fun (n : Nat) (h1 : goodsB a = true) (h2 : goodsB b = true) (hl : a.length = b.length) => dotL A B ca cb a b w.heap.size ((w.drewN n).alloc (.cells #[.bool false] 49 (0, 0))) (blk_new _ _) (Kd.C_foot_came heap_flt hA (below_alloc (pw_below_drewN (Below.refl _ _) _) _) (Nat.le_refl _)) (Kd.C_foot_came heap_flt hB (below_alloc (pw_below_drewN (Below.refl _ _) _) _) (Nat.le_refl _)) hca hcb hl hna (likes_good hba h1) (likes_good hbb h2))
  have HN := Aside0.mk (dot_no (a := a) (b := b))
  have HY := Aside0.mk (dot_yes (a := a) (b := b))
  have HO : Aside0 (dotOk a b = (goodsB a && goodsB b && decide ((a.length : Int) = (b.length : Int)))) := ⟨rfl⟩
  have HLL : Aside0 (a.length ≤ 17592186044416 ∧ b.length ≤ 17592186044416) := ⟨by omega⟩
  have hla : (a.length : Int) ≤ 17592186044416 := by omega
  have hlb : (b.length : Int) ≤ 17592186044416 := by omega
  clear hA hB hca hcb hna hnb hba hbb HA1
  generalize dotOk a b = ok at *
  generalize goodsB a = x1 at *
  generalize goodsB b = x2 at *
  cases x1
  case false =>
    have HN2 := Aside0.mk (HN.out HO.out)
    clear HN HY H2
    go_enter Try.func26, Try.ntmps26
    go_wp2_with (first | (go_at_call 48; (with_reducible refine (HA0.out).mono ?_); rintro e w' ⟨rfl, n, rfl⟩))
    go_ret2
    exact ⟨by rw [HN2.out.1, HN2.out.2]; rfl, pw_below_drewN (Below.refl _ _) _⟩
  cases x2
  case false =>
    have HN2 := Aside0.mk (HN.out HO.out)
    clear HN HY H2
    go_enter Try.func26, Try.ntmps26
    go_wp2_with fail
    go_at_call 48
    refine (HA0.out).mono ?_
    rintro e w' ⟨rfl, n, rfl⟩
    go_wp2_with fail
    go_at_call 48
    refine (HB1.out n).mono ?_
    rintro e w' ⟨rfl, n2, rfl⟩
    go_wp2_with fail
    go_ret2
    exact ⟨by rw [HN2.out.1, HN2.out.2]; rfl, pw_below_drewN (Below.refl _ _) _⟩
  by_cases hl : (a.length : Int) = (b.length : Int)
  case neg =>
    have HN2 := Aside0.mk (HN.out (HO.out.trans (by rw [decide_eq_false hl]; rfl)))
    have hl1 : ((a.length : Int) != (b.length : Int)) = true := bne_iff_ne.2 hl
    have hl2 : ((a.length : Int) == (b.length : Int)) = false := beq_eq_false_iff_ne.2 hl
    clear HN HY H2 hl
    go_enter Try.func26, Try.ntmps26
    go_wp2_with fail
    go_at_call 48
    refine (HA0.out).mono ?_
    rintro e w' ⟨rfl, n, rfl⟩
    go_wp2_with fail
    go_at_call 48
    refine (HB1.out n).mono ?_
    rintro e w' ⟨rfl, n2, rfl⟩
    go_wp2_with fail
    all_goals
      go_ret2
      exact ⟨by rw [HN2.out.1, HN2.out.2]; rfl, pw_below_drewN (Below.refl _ _) _⟩
  have HY2 := Aside0.mk (HY.out (HO.out.trans (by rw [decide_eq_true hl]; rfl)))
  have hl1 : ((a.length : Int) != (b.length : Int)) = false := bne_eq_false_iff_eq.2 hl
  have hl2 : ((a.length : Int) == (b.length : Int)) = true := beq_iff_eq.2 hl
  have HE : Aside0 (a.length = b.length) := ⟨by omega⟩
  clear HN HY hl
  have H3 := Aside0.mk (fun n => H2.out n rfl rfl HE.out)
  clear H2 HE
  go_enter Try.func26, Try.ntmps26
  go_wp2_with fail
  go_at_call 48
  refine (HA0.out).mono ?_
  rintro e w' ⟨rfl, n, rfl⟩
  go_wp2_with fail
  go_at_call 48
  refine (HB1.out n).mono ?_
  rintro e w' ⟨rfl, n2, rfl⟩
  go_wp2_with (first | (go_at_call 52; refine (H3.out _).mono ?_; rintro e w1 ⟨r, rfl, l1, s1, k1⟩; have L1 := Aside0.mk l1; have S1 := Aside0.mk s1; have K1 := Aside0.mk (Kp.fresh (below_alloc (pw_below_drewN (Below.refl w.heap.size w) _) _) (Nat.le_refl _) k1); clear l1 s1 k1))
  obtain ⟨f, S7, HF⟩ : ∃ f, Aside0 (St w1 w.heap.size f) ∧ Aside0 ((if f then 0 else r) = dotR a b ∧ (!f) = dotB a b) := ⟨_, S1, ⟨by
    rw [HY2.out.1, HY2.out.2]
    exact told_end L1.out⟩⟩
  clear S1
  cases f <;> (
    go_wp2_with (go_at_call 42; refine (end_ _ _ _ _ (by exact S7.out)).mono ?_; rintro e w' ⟨rfl, rfl⟩)
    go_ret2
    exact ⟨by rw [← HF.out.1, ← HF.out.2]; rfl, K1.out⟩)
set_option maxHeartbeats 2000000 in
set_option maxRecDepth 100000 in
theorem law_DotReals (Aa : Option Addr) (ca : Nat) (a : List Nat) (Ab : Option Addr) (cb : Nat) (b : List Nat) (w : World) (hra : flt.C w Aa a.length a) (hca : a.length ≤ ca) (hna : a.length * 8 ≤ 140737488351232) (hba : Bits a) (hrb : flt.C w Ab b.length b) (hcb : b.length ≤ cb) (hnb : b.length * 8 ≤ 140737488351232) (hbb : Bits b) :
    Calls Try.prog 8 #[.slice Aa a.length ca, .slice Ab b.length cb] w fun e w' => e = .returned (.bool true) ∧ Below w.heap.size w w' := by
  have HRa := Aside0.mk hra
  have HCa := Aside0.mk hca
  have HNa := Aside0.mk hna
  have HBBa := Aside0.mk hba
  clear hra hca hna hba
  have HRb := Aside0.mk hrb
  have HCb := Aside0.mk hcb
  have HNb := Aside0.mk hnb
  have HBBb := Aside0.mk hbb
  clear hrb hcb hnb hbb
  have HB := Aside0.mk (Below.refl w.heap.size w)
  have HSM := Aside0.mk (sameFloat (dotR a b) (dotR_lt a b))
  by_cases biga : (a.length : Int) > 1048576
  · go_enter Try.func8, Try.ntmps8
    go_wp2_with fail
    go_ret
    exact ⟨rfl, HB.out⟩
  by_cases bigb : (b.length : Int) > 1048576
  · go_enter Try.func8, Try.ntmps8
    go_wp2_with fail
    go_ret
    exact ⟨rfl, HB.out⟩
  go_enter Try.func8, Try.ntmps8
  go_wp2_with fail
  go_at_call 20
  refine (toFloat64S Aa ca a _ (Kd.C_below HRa.out HB.out) HCa.out HNa.out).mono ?_
  rintro e w1 ⟨v1, rfl, ro, hb⟩
  obtain ⟨A1_, c1_, rfl⟩ := Kd.R_slice ro
  have R1n := Aside0.mk (flt_own ro)
  clear ro
  have HB_ := Aside0.mk (below_step HB.out hb)
  clear HB
  have HB := HB_
  clear HB_
  clear hb
  have R1 := R1n
  clear R1n
  go_wp2_with fail
  go_at_call 20
  refine (toFloat64S Ab cb b _ (Kd.C_below HRb.out HB.out) HCb.out HNb.out).mono ?_
  rintro e w2 ⟨v2, rfl, ro, hb⟩
  obtain ⟨A2_, c2_, rfl⟩ := Kd.R_slice ro
  have R2n := Aside0.mk (flt_own ro)
  clear ro
  have R1_ := Aside0.mk (Kd.R_below R1.out hb)
  clear R1
  have R1 := R1_
  clear R1_
  have HB_ := Aside0.mk (below_step HB.out hb)
  clear HB
  have HB := HB_
  clear HB_
  clear hb
  have R2 := R2n
  clear R2n
  go_wp2_with fail
  go_at_call 25
  refine (spec_DotReals _ _ a _ _ b _ (Kd.R_reads' R1.out).2.2 (Kd.R_reads' R1.out).2.1 HNa.out HBBa.out (Kd.R_reads' R2.out).2.2 (Kd.R_reads' R2.out).2.1 HNb.out HBBb.out).mono ?_
  rintro e w' ⟨rfl, hb⟩
  have R1_ := Aside0.mk (Kd.R_below R1.out hb)
  clear R1
  have R1 := R1_
  clear R1_
  have R2_ := Aside0.mk (Kd.R_below R2.out hb)
  clear R2
  have R2 := R2_
  clear R2_
  have HB_ := Aside0.mk (below_step HB.out hb)
  clear HB
  have HB := HB_
  clear HB_
  clear hb
  clear R1
  clear R2
  go_wp2_with fail
  go_at_call 20
  refine (toFloat64S Aa ca a _ (Kd.C_below HRa.out HB.out) HCa.out HNa.out).mono ?_
  rintro e w3 ⟨v3, rfl, ro, hb⟩
  obtain ⟨A3_, c3_, rfl⟩ := Kd.R_slice ro
  have R3n := Aside0.mk (flt_own ro)
  clear ro
  have HB_ := Aside0.mk (below_step HB.out hb)
  clear HB
  have HB := HB_
  clear HB_
  clear hb
  have R3 := R3n
  clear R3n
  go_wp2_with fail
  go_at_call 20
  refine (toFloat64S Ab cb b _ (Kd.C_below HRb.out HB.out) HCb.out HNb.out).mono ?_
  rintro e w4 ⟨v4, rfl, ro, hb⟩
  obtain ⟨A4_, c4_, rfl⟩ := Kd.R_slice ro
  have R4n := Aside0.mk (flt_own ro)
  clear ro
  have R3_ := Aside0.mk (Kd.R_below R3.out hb)
  clear R3
  have R3 := R3_
  clear R3_
  have HB_ := Aside0.mk (below_step HB.out hb)
  clear HB
  have HB := HB_
  clear HB_
  clear hb
  have R4 := R4n
  clear R4n
  go_wp2_with fail
  go_at_call 26
  refine (impl_DotReals _ _ a _ _ b _ (Kd.R_reads' R3.out).2.2 (Kd.R_reads' R3.out).2.1 HNa.out HBBa.out (Kd.R_reads' R4.out).2.2 (Kd.R_reads' R4.out).2.1 HNb.out HBBb.out).mono ?_
  rintro e w' ⟨rfl, hb⟩
  have R3_ := Aside0.mk (Kd.R_below R3.out hb)
  clear R3
  have R3 := R3_
  clear R3_
  have R4_ := Aside0.mk (Kd.R_below R4.out hb)
  clear R4
  have R4 := R4_
  clear R4_
  have HB_ := Aside0.mk (below_step HB.out hb)
  clear HB
  have HB := HB_
  clear HB_
  clear hb
  go_wp2_with fail
  go_at_call 14
  refine (HSM.out _).mono ?_
  rintro e w' ⟨rfl, nd, rfl⟩
  have R3_ := Aside0.mk (Kd.R_drewN R3.out nd)
  clear R3
  have R3 := R3_
  clear R3_
  have R4_ := Aside0.mk (Kd.R_drewN R4.out nd)
  clear R4
  have R4 := R4_
  clear R4_
  have HB_ := Aside0.mk (pw_below_drewN HB.out nd)
  clear HB
  have HB := HB_
  clear HB_
  obtain ⟨B, hB⟩ : ∃ B, B = (dotB a b) := ⟨_, rfl⟩
  rw [← hB]
  clear hB HSM
  go_wp2_with fail
  go_at_call 20
  refine (toFloat64S Aa ca a _ (Kd.C_below HRa.out HB.out) HCa.out HNa.out).mono ?_
  rintro e w5 ⟨v5, rfl, ro, hb⟩
  obtain ⟨A5_, c5_, rfl⟩ := Kd.R_slice ro
  have R5n := Aside0.mk (flt_own ro)
  clear ro
  have R3_ := Aside0.mk (Kd.R_below R3.out hb)
  clear R3
  have R3 := R3_
  clear R3_
  have R4_ := Aside0.mk (Kd.R_below R4.out hb)
  clear R4
  have R4 := R4_
  clear R4_
  have HB_ := Aside0.mk (below_step HB.out hb)
  clear HB
  have HB := HB_
  clear HB_
  clear hb
  have R5 := R5n
  clear R5n
  go_wp2_with fail
  go_at_call 22
  refine (eqFloat64S _ _ _ _ a _ (Kd.R_reads' R3.out).2.2 (Kd.R_reads' R3.out).2.1 (Kd.R_reads' R5.out).2.2 (Kd.R_reads' R5.out).2.1 HNa.out HBBa.out).mono ?_
  rintro e w' ⟨rfl, nd, rfl⟩
  have R3_ := Aside0.mk (Kd.R_drewN R3.out nd)
  clear R3
  have R3 := R3_
  clear R3_
  have R4_ := Aside0.mk (Kd.R_drewN R4.out nd)
  clear R4
  have R4 := R4_
  clear R4_
  have R5_ := Aside0.mk (Kd.R_drewN R5.out nd)
  clear R5
  have R5 := R5_
  clear R5_
  have HB_ := Aside0.mk (pw_below_drewN HB.out nd)
  clear HB
  have HB := HB_
  clear HB_
  go_wp2_with fail
  go_at_call 20
  refine (toFloat64S Ab cb b _ (Kd.C_below HRb.out HB.out) HCb.out HNb.out).mono ?_
  rintro e w6 ⟨v6, rfl, ro, hb⟩
  obtain ⟨A6_, c6_, rfl⟩ := Kd.R_slice ro
  have R6n := Aside0.mk (flt_own ro)
  clear ro
  have R3_ := Aside0.mk (Kd.R_below R3.out hb)
  clear R3
  have R3 := R3_
  clear R3_
  have R4_ := Aside0.mk (Kd.R_below R4.out hb)
  clear R4
  have R4 := R4_
  clear R4_
  have R5_ := Aside0.mk (Kd.R_below R5.out hb)
  clear R5
  have R5 := R5_
  clear R5_
  have HB_ := Aside0.mk (below_step HB.out hb)
  clear HB
  have HB := HB_
  clear HB_
  clear hb
  have R6 := R6n
  clear R6n
  go_wp2_with fail
  go_at_call 22
  refine (eqFloat64S _ _ _ _ b _ (Kd.R_reads' R4.out).2.2 (Kd.R_reads' R4.out).2.1 (Kd.R_reads' R6.out).2.2 (Kd.R_reads' R6.out).2.1 HNb.out HBBb.out).mono ?_
  rintro e w' ⟨rfl, nd, rfl⟩
  have R3_ := Aside0.mk (Kd.R_drewN R3.out nd)
  clear R3
  have R3 := R3_
  clear R3_
  have R4_ := Aside0.mk (Kd.R_drewN R4.out nd)
  clear R4
  have R4 := R4_
  clear R4_
  have R5_ := Aside0.mk (Kd.R_drewN R5.out nd)
  clear R5
  have R5 := R5_
  clear R5_
  have R6_ := Aside0.mk (Kd.R_drewN R6.out nd)
  clear R6
  have R6 := R6_
  clear R6_
  have HB_ := Aside0.mk (pw_below_drewN HB.out nd)
  clear HB
  have HB := HB_
  clear HB_
  go_wp2_with fail
  go_ret
  exact ⟨rfl, HB.out⟩
end Go.Proofs.Ytdcnlghcdmiciaa.Fl
