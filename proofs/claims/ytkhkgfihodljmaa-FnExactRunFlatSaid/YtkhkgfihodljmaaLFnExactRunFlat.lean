-- Own print (wip/tools/handrow.py).
/- The row of the law FnExactRunFlat over its walk, which stands in YtkhkgfihodljmaaRun.lean. -/
import Derived.Test.YtkhkgfihodljmaaRows
import Derived.Test.YtkhkgfihodljmaaRun
import Derived.Test.YtkhkgfihodljmaaOpn
import Derived.WalkKit
import Derived.ProofKit
import Derived.OpenShut
import Derived.ShutString
import Derived.ChangeOld
import Derived.Below
import Derived.SizedLaws
import Derived.Carry
namespace Go.Proofs.Ytkhkgfihodljmaa.fnExactRunFlat
open Go.ChangeShapes Go.WideShapes Go.ChangeAt Go.RowKit Go.Proofs.YtkhkgfihodljmaaW.PrintWords Go.Proofs.Ytkhkgfihodljmaa.Opn
set_option linter.unusedVariables false
set_option linter.unusedSimpArgs false
theorem own : ownKnob Try.prog.godebug = none := by kernel_rfl
theorem laidOut : laidOutB Try.prog = true := by kernel_rfl
set_option maxRecDepth 100000 in
set_option maxHeartbeats 1000000 in
theorem lifted (os : Os) (started : os.Started) (H : Type) (enc : TypeId × Value → H) :
    ReturnsInHanded {} Try.checked os 5 .any (Rows.fnExactRunFlatSpec.pre6 enc Try.prog Try.f5 Rows.fnExactRunFlatRow.domain false) (Rows.fnExactRunFlatSpec.post enc Try.prog Try.f5 false true false false) := by
  refine returnsInHanded_of_change_sized (C := Try.checked) own started (by kernel_rfl) Try.func5
    (ChangeSpec.witness6 (enc := enc) (C := Try.checked) false ⟨#[], #[.slice none 0 0, .int .i64 0, .slice none 0 0], []⟩ 8 (by kernel_rfl) (by kernel_rfl) (by kernel_rfl) (by kernel_rfl)) ?_
  intro W base args ds gs before hval0 hW hcnd hsz0 _
  have hsz : (DataW.weightsEach Try.prog (Try.f5.params.toList ++ Rows.fnExactRunFlatSpec.plain.varTypes Try.prog) (ds ++ gs)).all (· ≤ reachBytes) = true := hsz0
  have hval : ∀ (j : Nat) t v, Try.f5.params[j]? = some t → args[j]? = some v → Value.okWide Try.prog W .any base t v := hval0
  have hW' := hW
  obtain ⟨p, q, hA0, hV, rfl, hfz, hnd⟩ := hW
  have hA : DataW.TrodAll enc Try.prog W 0 (fun _ => true) true Try.f5.params.toList args.toList ds p := hA0
  rw [Try.params5] at hA hval hsz
  obtain ⟨v0, vs0, d0, ds0, p0, q0, hargs, rfl, rfl, h0, r0⟩ := trodAll_cons hA
  obtain ⟨v1, vs1, d1, ds1, p1, q1, rfl, rfl, rfl, h1, r1⟩ := trodAll_cons r0
  obtain ⟨v2, vs2, d2, ds2, p2, q2, rfl, rfl, rfl, h2, r2⟩ := trodAll_cons r1
  obtain ⟨rfl, rfl, rfl⟩ := trodAll_nil r2
  obtain rfl : args = #[v0, v1, v2] := by cases args; simp_all
  obtain ⟨rfl, rfl⟩ := trodVars_none hV
  have k0 := h0
  have lt0 : ∀ x ∈ p0, x.block < W.heap.size := by obtain ⟨m, hm⟩ := k0; exact DataW.trod_lt m _ _ _ hm
  have opn0 : Opn Try.prog 37 (Kd.slice 30 (Kd.slice 3 (Kd.int .i64))) _ := (Opn.slice 30 24 Try.underlying37 (by kernel_rfl) (by kernel_rfl) (Opn.slice 3 8 Try.underlying30 (by kernel_rfl) (by kernel_rfl) (Opn.int Try.underlying3)))
  obtain ⟨x0, K0, Q0⟩ := opn0.get h0.choose_spec (weights_of (j := 0) hsz rfl rfl)
  clear opn0
  obtain ⟨A0, len0, cap0, rfl⟩ := okWide_slice Try.underlying37 (hval 0 37 v0 rfl rfl)
  obtain ⟨A0', c0, E0, hc0, hr0⟩ := K0
  have E0' := List.singleton_inj.1 (show [Value.slice A0 len0 cap0] = [.slice A0' x0.length c0] from E0)
  injection E0' with ea0 el0 ec0; subst ea0 el0 ec0
  have k1 := h1
  have lt1 : ∀ x ∈ p1, x.block < W.heap.size := by obtain ⟨m, hm⟩ := k1; exact DataW.trod_lt m _ _ _ hm
  have opn1 : Opn Try.prog 3 (Kd.int .i64) _ := (Opn.int Try.underlying3)
  obtain ⟨x1, K1, Q1⟩ := opn1.get h1.choose_spec (weights_of (j := 1) hsz rfl rfl)
  clear opn1
  obtain ⟨b1, rfl⟩ := okWide_int Try.underlying3 (hval 1 3 v1 rfl rfl)
  obtain rfl : b1 = x1 := by have := List.singleton_inj.1 (show [Value.int .i64 b1] = [.int .i64 x1] from K1); injection this
  have k2 := h2
  have lt2 : ∀ x ∈ p2, x.block < W.heap.size := by obtain ⟨m, hm⟩ := k2; exact DataW.trod_lt m _ _ _ hm
  have opn2 : Opn Try.prog 30 (Kd.slice 3 (Kd.int .i64)) _ := (Opn.slice 3 8 Try.underlying30 (by kernel_rfl) (by kernel_rfl) (Opn.int Try.underlying3))
  obtain ⟨x2, K2, Q2⟩ := opn2.get h2.choose_spec (weights_of (j := 2) hsz rfl rfl)
  clear opn2
  obtain ⟨A2, len2, cap2, rfl⟩ := okWide_slice Try.underlying30 (hval 2 30 v2 rfl rfl)
  obtain ⟨A2', c2, E2, hc2, hr2⟩ := K2
  have E2' := List.singleton_inj.1 (show [Value.slice A2 len2 cap2] = [.slice A2' x2.length c2] from E2)
  injection E2' with ea2 el2 ec2; subst ea2 el2 ec2
  clear hA0 hval0 hsz0 hsz
  refine (Pure.run_flat_law _ _ x0 b1 _ _ x2 W hr0 hc0 Q0.2.1 Q0.2.2 Q1 hr2 hc2 Q2.2.1 Q2.2.2).mono ?_
  rintro e W' ⟨rfl, bel⟩
  exact ⟨_, rfl, _, _, _, [], _, [], hW', trodAll_mk1 (shut_bool Try.underlying4 _), (trodAll_cons_mk (Below.trod laidOut (by kernel_rfl) (of_decide_eq_true (by kernel_rfl)) k0 bel lt0) (trodAll_cons_mk (Below.trod laidOut (by kernel_rfl) (of_decide_eq_true (by kernel_rfl)) k1 bel lt1) (trodAll_cons_mk (Below.trod laidOut (by kernel_rfl) (of_decide_eq_true (by kernel_rfl)) k2 bel lt2) trodAll_mk0))), rfl, bel.frame _, fun h => by cases h⟩
theorem over : Rows.fnExactRunFlatRow.holds Try.pinned (OpenSpec.ofChange Rows.fnExactRunFlatSpec) :=
  OpenClaim.holds_of_wide 5 Try.f5 rfl rfl rfl rfl rfl rfl rfl ⟨rfl, rfl, rfl, rfl, rfl⟩ rfl rfl rfl rfl rfl (by kernel_rfl) Try.func5 (by kernel_rfl)
    (of_decide_eq_true (by kernel_rfl)) (by unfold Func.isWrapper; first | (rw [if_pos (by decide +kernel)]; kernel_rfl) | (rw [if_neg (by decide +kernel)]; exact ⟨rfl, rfl⟩))
    (fun os started H enc _ => lifted os started H enc)
theorem proved : Rows.FnExactRunFlatSaid := over
#print axioms proved
end Go.Proofs.Ytkhkgfihodljmaa.fnExactRunFlat
namespace Go.Proofs.Ytkhkgfihodljmaa
/-- The row, under a short name, for the claim. -/
theorem fnExactRunFlat_holds : Rows.FnExactRunFlatSaid := fnExactRunFlat.proved
end Go.Proofs.Ytkhkgfihodljmaa
