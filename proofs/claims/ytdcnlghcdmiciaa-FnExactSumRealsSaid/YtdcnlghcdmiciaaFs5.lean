/-
Own text: the law of SumReals, walked.
-/
import Derived.Test.YtdcnlghcdmiciaaFs4
namespace Go.Proofs.Ytdcnlghcdmiciaa.Fl
open Go Ieee Go.RowKit Go.Proofs.YtdcnlghcdmiciaaW.PrintWords Go.Proofs.YtdcnlghcdmiciaaW.PrintLast Go.Proofs.Ytdcnlghcdmiciaa.Opn
set_option linter.unusedVariables false
set_option linter.unusedSimpArgs false
theorem flt_own {w : World} {v : Value} {l : List Nat} {b : Nat} (h : flt.R 22 w b (fun _ => True) v l) : flt.R 22 w b (fun _ => True) v l := h
set_option maxHeartbeats 2000000 in
set_option maxRecDepth 100000 in
theorem law_SumReals (Al : Option Addr) (cl : Nat) (l : List Nat) (w : World) (hrl : flt.C w Al l.length l) (hcl : l.length ≤ cl) (hnl : l.length * 8 ≤ 140737488351232) (hbl : Bits l) :
    Calls Try.prog 7 #[.slice Al l.length cl] w fun e w' => e = .returned (.bool true) ∧ Below w.heap.size w w' := by
  have HRl := Aside0.mk hrl
  have HCl := Aside0.mk hcl
  have HNl := Aside0.mk hnl
  have HBBl := Aside0.mk hbl
  clear hrl hcl hnl hbl
  have HB := Aside0.mk (Below.refl w.heap.size w)
  have HSM := Aside0.mk (sameFloat (sumsR l) (sumsR_lt HBBl.out))
  by_cases bigl : (l.length : Int) > 1048576
  · go_enter Try.func7, Try.ntmps7
    go_wp2_with fail
    go_ret
    exact ⟨rfl, HB.out⟩
  go_enter Try.func7, Try.ntmps7
  go_wp2_with fail
  go_at_call 20
  refine (toFloat64S Al cl l _ (Kd.C_below HRl.out HB.out) HCl.out HNl.out).mono ?_
  rintro e w1 ⟨v1, rfl, ro, hb⟩
  obtain ⟨A1_, c1_, rfl⟩ := Kd.R_slice ro
  have R1n := Aside0.mk (flt_own ro)
  clear ro
  have HB_ := Aside0.mk (below_step HB.out hb)
  clear HB
  have HB := HB_
  clear HB_
  clear hb
  have R1 := R1n
  clear R1n
  go_wp2_with fail
  go_at_call 23
  refine (spec_SumReals _ _ l _ (Kd.R_reads' R1.out).2.2 (Kd.R_reads' R1.out).2.1 HNl.out HBBl.out).mono ?_
  rintro e w' ⟨rfl, nd, rfl⟩
  have R1_ := Aside0.mk (Kd.R_drewN R1.out nd)
  clear R1
  have R1 := R1_
  clear R1_
  have HB_ := Aside0.mk (pw_below_drewN HB.out nd)
  clear HB
  have HB := HB_
  clear HB_
  clear R1
  go_wp2_with fail
  go_at_call 20
  refine (toFloat64S Al cl l _ (Kd.C_below HRl.out HB.out) HCl.out HNl.out).mono ?_
  rintro e w2 ⟨v2, rfl, ro, hb⟩
  obtain ⟨A2_, c2_, rfl⟩ := Kd.R_slice ro
  have R2n := Aside0.mk (flt_own ro)
  clear ro
  have HB_ := Aside0.mk (below_step HB.out hb)
  clear HB
  have HB := HB_
  clear HB_
  clear hb
  have R2 := R2n
  clear R2n
  go_wp2_with fail
  go_at_call 24
  refine (impl_SumReals _ _ l _ (Kd.R_reads' R2.out).2.2 (Kd.R_reads' R2.out).2.1 HNl.out HBBl.out).mono ?_
  rintro e w' ⟨rfl, hb⟩
  have R2_ := Aside0.mk (Kd.R_below R2.out hb)
  clear R2
  have R2 := R2_
  clear R2_
  have HB_ := Aside0.mk (below_step HB.out hb)
  clear HB
  have HB := HB_
  clear HB_
  clear hb
  go_wp2_with fail
  go_at_call 14
  refine (HSM.out _).mono ?_
  rintro e w' ⟨rfl, nd, rfl⟩
  have R2_ := Aside0.mk (Kd.R_drewN R2.out nd)
  clear R2
  have R2 := R2_
  clear R2_
  have HB_ := Aside0.mk (pw_below_drewN HB.out nd)
  clear HB
  have HB := HB_
  clear HB_
  obtain ⟨B, hB⟩ : ∃ B, B = (sumsB l) := ⟨_, rfl⟩
  rw [← hB]
  clear hB HSM
  go_wp2_with fail
  go_at_call 20
  refine (toFloat64S Al cl l _ (Kd.C_below HRl.out HB.out) HCl.out HNl.out).mono ?_
  rintro e w3 ⟨v3, rfl, ro, hb⟩
  obtain ⟨A3_, c3_, rfl⟩ := Kd.R_slice ro
  have R3n := Aside0.mk (flt_own ro)
  clear ro
  have R2_ := Aside0.mk (Kd.R_below R2.out hb)
  clear R2
  have R2 := R2_
  clear R2_
  have HB_ := Aside0.mk (below_step HB.out hb)
  clear HB
  have HB := HB_
  clear HB_
  clear hb
  have R3 := R3n
  clear R3n
  go_wp2_with fail
  go_at_call 22
  refine (eqFloat64S _ _ _ _ l _ (Kd.R_reads' R2.out).2.2 (Kd.R_reads' R2.out).2.1 (Kd.R_reads' R3.out).2.2 (Kd.R_reads' R3.out).2.1 HNl.out HBBl.out).mono ?_
  rintro e w' ⟨rfl, nd, rfl⟩
  have R2_ := Aside0.mk (Kd.R_drewN R2.out nd)
  clear R2
  have R2 := R2_
  clear R2_
  have R3_ := Aside0.mk (Kd.R_drewN R3.out nd)
  clear R3
  have R3 := R3_
  clear R3_
  have HB_ := Aside0.mk (pw_below_drewN HB.out nd)
  clear HB
  have HB := HB_
  clear HB_
  go_wp2_with fail
  go_ret
  exact ⟨rfl, HB.out⟩
end Go.Proofs.Ytdcnlghcdmiciaa.Fl
