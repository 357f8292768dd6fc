-- Written by this session's own print (wip/tools/mkmp.py) out of the translation. Lean checks it.
import Derived.Test.YtcldlljnaijmhaaRows
import Derived.WalkKit
import Derived.ProofKit
import Derived.OpenShut
import Derived.ShutString
import Derived.ChangeOld
import Derived.Below
import Derived.SizedLaws
import Derived.Carry
import Derived.Test.YtcldlljnaijmhaaZjt11
namespace Go.Proofs.Ytcldlljnaijmhaa.fnExactJointTicks
open Go.ChangeShapes Go.WideShapes Go.ChangeAt Go.RowKit Go.Proofs.YtcldlljnaijmhaaW.PrintWords Go.Proofs.Ytcldlljnaijmhaa.Opn Go.Proofs.Ytcldlljnaijmhaa.Pr
set_option linter.unusedVariables false
set_option linter.unusedSimpArgs false
theorem own : ownKnob Try.prog.godebug = none := by kernel_rfl
theorem laidOut : laidOutB Try.prog = true := by kernel_rfl
set_option maxRecDepth 100000 in
set_option maxHeartbeats 1000000 in
theorem lifted (os : Os) (started : os.Started) (H : Type) (enc : TypeId × Value → H) :
    ReturnsInHanded {} Try.checked os 7 .any (Rows.fnExactJointTicksSpec.pre6 enc Try.prog Try.f7 Rows.fnExactJointTicksRow.domain false) (Rows.fnExactJointTicksSpec.post enc Try.prog Try.f7 false true false false) := by
  refine returnsInHanded_of_change_sized (C := Try.checked) own started (by kernel_rfl) Try.func7
    (ChangeSpec.witness6 (enc := enc) (C := Try.checked) false ⟨#[], #[.agg #[.int .i64 0, .slice none 0 0], .agg #[.int .i64 0, .int .i64 0], .agg #[.int .i64 0, .int .i64 0]], []⟩ 8 (by kernel_rfl) (by kernel_rfl) (by kernel_rfl) (by kernel_rfl)) ?_
  intro W base args ds gs before hval0 hW hcnd hsz0 _
  have hsz : (DataW.weightsEach Try.prog (Try.f7.params.toList ++ Rows.fnExactJointTicksSpec.plain.varTypes Try.prog) (ds ++ gs)).all (· ≤ reachBytes) = true := hsz0
  have hval : ∀ (j : Nat) t v, Try.f7.params[j]? = some t → args[j]? = some v → Value.okWide Try.prog W .any base t v := hval0
  have hW' := hW
  obtain ⟨p, q, hA0, hV, rfl, hfz, hnd⟩ := hW
  have hA : DataW.TrodAll enc Try.prog W 0 (fun _ => true) true Try.f7.params.toList args.toList ds p := hA0
  rw [Try.params7] at hA hval hsz
  obtain ⟨v0, vs0, d0, ds0, p0, q0, hargs, rfl, rfl, h0, r0⟩ := trodAll_cons hA
  obtain ⟨v1, vs1, d1, ds1, p1, q1, rfl, rfl, rfl, h1, r1⟩ := trodAll_cons r0
  obtain ⟨v2, vs2, d2, ds2, p2, q2, rfl, rfl, rfl, h2, r2⟩ := trodAll_cons r1
  obtain ⟨rfl, rfl, rfl⟩ := trodAll_nil r2
  obtain rfl : args = #[v0, v1, v2] := by cases args; simp_all
  obtain ⟨rfl, rfl⟩ := trodVars_none hV
  have k0 := h0
  have lt0 : ∀ x ∈ p0, x.block < W.heap.size := by obtain ⟨m, hm⟩ := k0; exact DataW.trod_lt m _ _ _ hm
  have opn0 : Opn Try.prog 34 (Kd.pair (Kd.int .i64) (Kd.slice 3 (Kd.int .i64))) _ := (Opn.struct Try.underlying34 (by kernel_rfl) (OpnF.cons rfl (by kernel_rfl) (Opn.int Try.underlying3) (OpnF.one rfl (by kernel_rfl) (Opn.slice 3 8 Try.underlying22 (by kernel_rfl) (by kernel_rfl) (Opn.int Try.underlying3)))))
  obtain ⟨x0, K0, Q0⟩ := opn0.get h0.choose_spec (weights_of (j := 0) hsz rfl rfl)
  clear opn0
  obtain ⟨a0_0, l0_1⟩ := x0
  obtain ⟨cs0, rfl, hsz0⟩ := okWide_struct Try.underlying34 (hval 0 34 v0 rfl rfl)
  obtain ⟨q0a, q0b, E0, E0a, ⟨A0_1, c0_1, E0b, hc0_1, hr0_1⟩⟩ := K0
  obtain rfl : cs0 = #[.int .i64 a0_0, .slice A0_1 l0_1.length c0_1] := by apply Array.toList_inj.1; first | (refine Eq.trans E0 ?_; rw [E0a, E0b]; rfl) | (simp only [Value.cells] at *; simp_all [Kd.int, Kd.bool, Kd.string, Kd.scalar])
  have k1 := h1
  have lt1 : ∀ x ∈ p1, x.block < W.heap.size := by obtain ⟨m, hm⟩ := k1; exact DataW.trod_lt m _ _ _ hm
  have opn1 : Opn Try.prog 47 (Kd.pair (Kd.int .i64) (Kd.int .i64)) _ := (Opn.struct Try.underlying47 (by kernel_rfl) (OpnF.cons rfl (by kernel_rfl) (Opn.int Try.underlying3) (OpnF.one rfl (by kernel_rfl) (Opn.int Try.underlying3))))
  obtain ⟨x1, K1, Q1⟩ := opn1.get h1.choose_spec (weights_of (j := 1) hsz rfl rfl)
  clear opn1
  obtain ⟨a1_0, a1_1⟩ := x1
  obtain ⟨cs1, rfl, hsz1⟩ := okWide_struct Try.underlying47 (hval 1 47 v1 rfl rfl)
  obtain ⟨q1a, q1b, E1, E1a, E1b⟩ := K1
  obtain rfl : cs1 = #[.int .i64 a1_0, .int .i64 a1_1] := by apply Array.toList_inj.1; first | (refine Eq.trans E1 ?_; rw [E1a, E1b]; rfl) | (simp only [Value.cells] at *; simp_all [Kd.int, Kd.bool, Kd.string, Kd.scalar])
  have k2 := h2
  have lt2 : ∀ x ∈ p2, x.block < W.heap.size := by obtain ⟨m, hm⟩ := k2; exact DataW.trod_lt m _ _ _ hm
  have opn2 : Opn Try.prog 47 (Kd.pair (Kd.int .i64) (Kd.int .i64)) _ := (Opn.struct Try.underlying47 (by kernel_rfl) (OpnF.cons rfl (by kernel_rfl) (Opn.int Try.underlying3) (OpnF.one rfl (by kernel_rfl) (Opn.int Try.underlying3))))
  obtain ⟨x2, K2, Q2⟩ := opn2.get h2.choose_spec (weights_of (j := 2) hsz rfl rfl)
  clear opn2
  obtain ⟨a2_0, a2_1⟩ := x2
  obtain ⟨cs2, rfl, hsz2⟩ := okWide_struct Try.underlying47 (hval 2 47 v2 rfl rfl)
  obtain ⟨q2a, q2b, E2, E2a, E2b⟩ := K2
  obtain rfl : cs2 = #[.int .i64 a2_0, .int .i64 a2_1] := by apply Array.toList_inj.1; first | (refine Eq.trans E2 ?_; rw [E2a, E2b]; rfl) | (simp only [Value.cells] at *; simp_all [Kd.int, Kd.bool, Kd.string, Kd.scalar])
  clear hA0 hval0 hsz0 hsz
  obtain ⟨k, h⟩ := Pure.FnExactJointTicks a0_0 l0_1 a1_0 a1_1 a2_0 a2_1 Q0 Q1 Q2
  refine (laws_FnExactJointTicks.calls k a0_0 _ _ l0_1 a1_0 a1_1 a2_0 a2_1 true W hr0_1 hc0_1 h).mono ?_
  rintro e W' ⟨rfl, hd⟩
  have bel : Below W.heap.size W W' := hd
  exact ⟨_, rfl, _, _, _, [], _, [], hW', trodAll_mk1 (shut_bool Try.underlying4 _), (trodAll_cons_mk (Below.trod laidOut (by kernel_rfl) (of_decide_eq_true (by kernel_rfl)) k0 bel lt0) (trodAll_cons_mk (Below.trod laidOut (by kernel_rfl) (of_decide_eq_true (by kernel_rfl)) k1 bel lt1) (trodAll_cons_mk (Below.trod laidOut (by kernel_rfl) (of_decide_eq_true (by kernel_rfl)) k2 bel lt2) trodAll_mk0))), rfl, bel.frame _, fun h => by cases h⟩
theorem over : Rows.fnExactJointTicksRow.holds Try.pinned (OpenSpec.ofChange Rows.fnExactJointTicksSpec) :=
  OpenClaim.holds_of_wide 7 Try.f7 rfl rfl rfl rfl rfl rfl rfl ⟨rfl, rfl, rfl, rfl, rfl⟩ rfl rfl rfl rfl rfl (by kernel_rfl) Try.func7 (by kernel_rfl)
    (of_decide_eq_true (by kernel_rfl)) (by unfold Func.isWrapper; first | (rw [if_pos (by decide +kernel)]; kernel_rfl) | (rw [if_neg (by decide +kernel)]; exact ⟨rfl, rfl⟩))
    (fun os started H enc _ => lifted os started H enc)
theorem proved : Rows.FnExactJointTicksSaid := over
#print axioms proved
end Go.Proofs.Ytcldlljnaijmhaa.fnExactJointTicks
namespace Go.Proofs.Ytcldlljnaijmhaa
/-- The row, under a short name, for the claim. -/
theorem fnExactJointTicks_holds : Rows.FnExactJointTicksSaid := fnExactJointTicks.proved
end Go.Proofs.Ytcldlljnaijmhaa
