-- Own print (wip/tools/handrow.py).
/- The row of the law FnExactRiccatiReal over its walk, which stands in YtdcnlghcdmiciaaFwc.lean. -/
import Derived.Test.YtdcnlghcdmiciaaRows
import Derived.Test.YtdcnlghcdmiciaaFwc
import Derived.Test.YtdcnlghcdmiciaaOpn
import Derived.Test.YtdcnlghcdmiciaaFlk
import Derived.WalkKit
import Derived.ProofKit
import Derived.OpenShut
import Derived.ShutString
import Derived.ChangeOld
import Derived.Below
import Derived.SizedLaws
import Derived.Carry
namespace Go.Proofs.Ytdcnlghcdmiciaa.fnExactRiccatiReal
open Go.ChangeShapes Go.WideShapes Go.ChangeAt Go.RowKit Go.Proofs.YtdcnlghcdmiciaaW.PrintWords Go.Proofs.Ytdcnlghcdmiciaa.Opn
set_option linter.unusedVariables false
set_option linter.unusedSimpArgs false
theorem own : ownKnob Try.prog.godebug = none := by kernel_rfl
theorem laidOut : laidOutB Try.prog = true := by kernel_rfl
set_option maxRecDepth 100000 in
set_option maxHeartbeats 1000000 in
theorem lifted (os : Os) (started : os.Started) (H : Type) (enc : TypeId × Value → H) :
    ReturnsInHanded {} Try.checked os 5 .any (Rows.fnExactRiccatiRealSpec.pre6 enc Try.prog Try.f5 Rows.fnExactRiccatiRealRow.domain false) (Rows.fnExactRiccatiRealSpec.post enc Try.prog Try.f5 false true false false) := by
  refine returnsInHanded_of_change_sized (C := Try.checked) own started (by kernel_rfl) Try.func5
    (ChangeSpec.witness6 (enc := enc) (C := Try.checked) false ⟨#[], #[.float .f64 0, .float .f64 0, .float .f64 0, .float .f64 0, .int .i64 0], []⟩ 8 (by kernel_rfl) (by kernel_rfl) (by kernel_rfl) (by kernel_rfl)) ?_
  intro W base args ds gs before hval0 hW hcnd hsz0 _
  have hsz : (DataW.weightsEach Try.prog (Try.f5.params.toList ++ Rows.fnExactRiccatiRealSpec.plain.varTypes Try.prog) (ds ++ gs)).all (· ≤ reachBytes) = true := hsz0
  have hval : ∀ (j : Nat) t v, Try.f5.params[j]? = some t → args[j]? = some v → Value.okWide Try.prog W .any base t v := hval0
  have hW' := hW
  obtain ⟨p, q, hA0, hV, rfl, hfz, hnd⟩ := hW
  have hA : DataW.TrodAll enc Try.prog W 0 (fun _ => true) true Try.f5.params.toList args.toList ds p := hA0
  rw [Try.params5] at hA hval hsz
  obtain ⟨v0, vs0, d0, ds0, p0, q0, hargs, rfl, rfl, h0, r0⟩ := trodAll_cons hA
  obtain ⟨v1, vs1, d1, ds1, p1, q1, rfl, rfl, rfl, h1, r1⟩ := trodAll_cons r0
  obtain ⟨v2, vs2, d2, ds2, p2, q2, rfl, rfl, rfl, h2, r2⟩ := trodAll_cons r1
  obtain ⟨v3, vs3, d3, ds3, p3, q3, rfl, rfl, rfl, h3, r3⟩ := trodAll_cons r2
  obtain ⟨v4, vs4, d4, ds4, p4, q4, rfl, rfl, rfl, h4, r4⟩ := trodAll_cons r3
  obtain ⟨rfl, rfl, rfl⟩ := trodAll_nil r4
  obtain rfl : args = #[v0, v1, v2, v3, v4] := by cases args; simp_all
  obtain ⟨rfl, rfl⟩ := trodVars_none hV
  have k0 := h0
  have lt0 : ∀ x ∈ p0, x.block < W.heap.size := by obtain ⟨m, hm⟩ := k0; exact DataW.trod_lt m _ _ _ hm
  have opn0 : Opn Try.prog 22 flt _ := (Opn.float Try.underlying22)
  obtain ⟨x0, K0, Q0⟩ := opn0.get h0.choose_spec (weights_of (j := 0) hsz rfl rfl)
  clear opn0
  obtain ⟨b0, rfl⟩ := okWide_float Try.underlying22 (hval 0 22 v0 rfl rfl)
  obtain rfl : b0 = x0 := by have := List.singleton_inj.1 (show [Value.float .f64 b0] = [.float .f64 x0] from K0); injection this
  have k1 := h1
  have lt1 : ∀ x ∈ p1, x.block < W.heap.size := by obtain ⟨m, hm⟩ := k1; exact DataW.trod_lt m _ _ _ hm
  have opn1 : Opn Try.prog 22 flt _ := (Opn.float Try.underlying22)
  obtain ⟨x1, K1, Q1⟩ := opn1.get h1.choose_spec (weights_of (j := 1) hsz rfl rfl)
  clear opn1
  obtain ⟨b1, rfl⟩ := okWide_float Try.underlying22 (hval 1 22 v1 rfl rfl)
  obtain rfl : b1 = x1 := by have := List.singleton_inj.1 (show [Value.float .f64 b1] = [.float .f64 x1] from K1); injection this
  have k2 := h2
  have lt2 : ∀ x ∈ p2, x.block < W.heap.size := by obtain ⟨m, hm⟩ := k2; exact DataW.trod_lt m _ _ _ hm
  have opn2 : Opn Try.prog 22 flt _ := (Opn.float Try.underlying22)
  obtain ⟨x2, K2, Q2⟩ := opn2.get h2.choose_spec (weights_of (j := 2) hsz rfl rfl)
  clear opn2
  obtain ⟨b2, rfl⟩ := okWide_float Try.underlying22 (hval 2 22 v2 rfl rfl)
  obtain rfl : b2 = x2 := by have := List.singleton_inj.1 (show [Value.float .f64 b2] = [.float .f64 x2] from K2); injection this
  have k3 := h3
  have lt3 : ∀ x ∈ p3, x.block < W.heap.size := by obtain ⟨m, hm⟩ := k3; exact DataW.trod_lt m _ _ _ hm
  have opn3 : Opn Try.prog 22 flt _ := (Opn.float Try.underlying22)
  obtain ⟨x3, K3, Q3⟩ := opn3.get h3.choose_spec (weights_of (j := 3) hsz rfl rfl)
  clear opn3
  obtain ⟨b3, rfl⟩ := okWide_float Try.underlying22 (hval 3 22 v3 rfl rfl)
  obtain rfl : b3 = x3 := by have := List.singleton_inj.1 (show [Value.float .f64 b3] = [.float .f64 x3] from K3); injection this
  have k4 := h4
  have lt4 : ∀ x ∈ p4, x.block < W.heap.size := by obtain ⟨m, hm⟩ := k4; exact DataW.trod_lt m _ _ _ hm
  have opn4 : Opn Try.prog 3 (Kd.int .i64) _ := (Opn.int Try.underlying3)
  obtain ⟨x4, K4, Q4⟩ := opn4.get h4.choose_spec (weights_of (j := 4) hsz rfl rfl)
  clear opn4
  obtain ⟨b4, rfl⟩ := okWide_int Try.underlying3 (hval 4 3 v4 rfl rfl)
  obtain rfl : b4 = x4 := by have := List.singleton_inj.1 (show [Value.int .i64 b4] = [.int .i64 x4] from K4); injection this
  clear hA0 hval0 hsz0 hsz
  refine (Go.Proofs.Ytdcnlghcdmiciaa.Fl.law_RiccatiReal b0 b1 b2 b3 b4 Q0 Q1 Q2 Q3 Q4 W).mono ?_
  rintro e W' ⟨rfl, bel⟩
  exact ⟨_, rfl, _, _, _, [], _, [], hW', trodAll_mk1 (shut_bool Try.underlying4 _), (trodAll_cons_mk (Below.trod laidOut (by kernel_rfl) (of_decide_eq_true (by kernel_rfl)) k0 bel lt0) (trodAll_cons_mk (Below.trod laidOut (by kernel_rfl) (of_decide_eq_true (by kernel_rfl)) k1 bel lt1) (trodAll_cons_mk (Below.trod laidOut (by kernel_rfl) (of_decide_eq_true (by kernel_rfl)) k2 bel lt2) (trodAll_cons_mk (Below.trod laidOut (by kernel_rfl) (of_decide_eq_true (by kernel_rfl)) k3 bel lt3) (trodAll_cons_mk (Below.trod laidOut (by kernel_rfl) (of_decide_eq_true (by kernel_rfl)) k4 bel lt4) trodAll_mk0))))), rfl, bel.frame _, fun h => by cases h⟩
theorem over : Rows.fnExactRiccatiRealRow.holds Try.pinned (OpenSpec.ofChange Rows.fnExactRiccatiRealSpec) :=
  OpenClaim.holds_of_wide 5 Try.f5 rfl rfl rfl rfl rfl rfl rfl ⟨rfl, rfl, rfl, rfl, rfl⟩ rfl rfl rfl rfl rfl (by kernel_rfl) Try.func5 (by kernel_rfl)
    (of_decide_eq_true (by kernel_rfl)) (by unfold Func.isWrapper; first | (rw [if_pos (by decide +kernel)]; kernel_rfl) | (rw [if_neg (by decide +kernel)]; exact ⟨rfl, rfl⟩))
    (fun os started H enc _ => lifted os started H enc)
theorem proved : Rows.FnExactRiccatiRealSaid := over
#print axioms proved
end Go.Proofs.Ytdcnlghcdmiciaa.fnExactRiccatiReal
namespace Go.Proofs.Ytdcnlghcdmiciaa
/-- The row, under a short name, for the claim. -/
theorem fnExactRiccatiReal_holds : Rows.FnExactRiccatiRealSaid := fnExactRiccatiReal.proved
end Go.Proofs.Ytdcnlghcdmiciaa
