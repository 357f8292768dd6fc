-- The row of FnExactFlatChart (after that of FnExactGoodChart).
import Derived.Test.YtkhkgfihodljmaaRows
import Derived.Test.YtkhkgfihodljmaaFlat
import Derived.Test.YtkhkgfihodljmaaOpn
import Derived.WalkKit
import Derived.ProofKit
import Derived.OpenShut
import Derived.ShutString
import Derived.ChangeOld
import Derived.Below
import Derived.SizedLaws
import Derived.Carry
namespace Go.Proofs.Ytkhkgfihodljmaa.fnExactFlatChart
open Go.ChangeShapes Go.WideShapes Go.ChangeAt Go.RowKit Go.Proofs.YtkhkgfihodljmaaW.PrintWords Go.Proofs.Ytkhkgfihodljmaa.Opn Go.Proofs.Ytkhkgfihodljmaa.Pr
set_option linter.unusedVariables false
set_option linter.unusedSimpArgs false
theorem own : ownKnob Try.prog.godebug = none := by kernel_rfl
theorem laidOut : laidOutB Try.prog = true := by kernel_rfl
set_option maxRecDepth 100000 in
set_option maxHeartbeats 1000000 in
theorem lifted (os : Os) (started : os.Started) (H : Type) (enc : TypeId × Value → H) :
    ReturnsInHanded {} Try.checked os 11 .any (Rows.fnExactFlatChartSpec.pre6 enc Try.prog Try.f11 Rows.fnExactFlatChartRow.domain false) (Rows.fnExactFlatChartSpec.post enc Try.prog Try.f11 false true false false) := by
  refine returnsInHanded_of_change_sized (C := Try.checked) own started (by kernel_rfl) Try.func11
    (ChangeSpec.witness6 (enc := enc) (C := Try.checked) false ⟨#[], #[.agg #[.slice none 0 0, .slice none 0 0]], []⟩ 8 (by kernel_rfl) (by kernel_rfl) (by kernel_rfl) (by kernel_rfl)) ?_
  intro W base args ds gs before hval0 hW hcnd hsz0 _
  have hsz : (DataW.weightsEach Try.prog (Try.f11.params.toList ++ Rows.fnExactFlatChartSpec.plain.varTypes Try.prog) (ds ++ gs)).all (· ≤ reachBytes) = true := hsz0
  have hval : ∀ (j : Nat) t v, Try.f11.params[j]? = some t → args[j]? = some v → Value.okWide Try.prog W .any base t v := hval0
  have hW' := hW
  obtain ⟨p, q, hA0, hV, rfl, hfz, hnd⟩ := hW
  have hA : DataW.TrodAll enc Try.prog W 0 (fun _ => true) true Try.f11.params.toList args.toList ds p := hA0
  rw [Try.params11] at hA hval hsz
  obtain ⟨v0, vs0, d0, ds0, p0, q0, hargs, rfl, rfl, h0, r0⟩ := trodAll_cons hA
  obtain ⟨rfl, rfl, rfl⟩ := trodAll_nil r0
  obtain rfl : args = #[v0] := by cases args; simp_all
  obtain ⟨rfl, rfl⟩ := trodVars_none hV
  have k0 := h0
  have lt0 : ∀ x ∈ p0, x.block < W.heap.size := by obtain ⟨m, hm⟩ := k0; exact DataW.trod_lt m _ _ _ hm
  have opn0 : Opn Try.prog 49 (Kd.pair (Kd.slice 101 k101) (Kd.slice 103 k103)) _ := (Opn.struct Try.underlying49 (by kernel_rfl) (OpnF.cons rfl (by kernel_rfl) (Opn.slice 101 16 Try.underlying46 (by kernel_rfl) (by kernel_rfl) (Opn.iso (Opn.struct Try.underlying101 (by kernel_rfl) (OpnF.cons rfl (by kernel_rfl) (Opn.int Try.underlying3) (OpnF.one rfl (by kernel_rfl) (Opn.int Try.underlying3)))) (fun y => ⟨y.1, y.2⟩) (fun _ => rfl))) (OpnF.one rfl (by kernel_rfl) (Opn.slice 103 24 Try.underlying47 (by kernel_rfl) (by kernel_rfl) (Opn.iso (Opn.struct Try.underlying103 (by kernel_rfl) (OpnF.cons rfl (by kernel_rfl) (Opn.int Try.underlying3) (OpnF.cons rfl (by kernel_rfl) (Opn.int Try.underlying3) (OpnF.one rfl (by kernel_rfl) (Opn.int Try.underlying3))))) (fun y => ⟨y.1, y.2.1, y.2.2⟩) (fun _ => rfl))))))
  obtain ⟨x0, K0, Q0⟩ := opn0.get h0.choose_spec (weights_of (j := 0) hsz rfl rfl)
  clear opn0
  obtain ⟨l0_0, l0_1⟩ := x0
  obtain ⟨cs0, rfl, hsz0⟩ := okWide_struct Try.underlying49 (hval 0 49 v0 rfl rfl)
  obtain ⟨q0a, q0b, E0, ⟨A0_0, c0_0, E0a, hc0_0, hr0_0⟩, ⟨A0_1, c0_1, E0b, hc0_1, hr0_1⟩⟩ := K0
  obtain rfl : cs0 = #[.slice A0_0 l0_0.length c0_0, .slice A0_1 l0_1.length c0_1] := by apply Array.toList_inj.1; simp only [Value.cells] at *; simp_all [Kd.int, Kd.bool, Kd.string, Kd.scalar]
  clear hA0 hval0 hsz0 hsz
  have hl : l0_0.length ≤ 9223372036854775807 := by have := Q0.1.1; unfold maxLen at this; omega
  have hm : l0_1.length ≤ 9223372036854775807 := by have := Q0.2.1; unfold maxLen at this; omega
  refine (Pure.flat_law _ _ l0_0 _ _ l0_1 W hr0_0 hc0_0 hr0_1 hc0_1 hl hm).mono ?_
  rintro e W' ⟨rfl, hd⟩
  have bel : Below W.heap.size W W' := hd
  exact ⟨_, rfl, _, _, _, [], _, [], hW', trodAll_mk1 (shut_bool Try.underlying4 _), (trodAll_cons_mk (Below.trod laidOut (by kernel_rfl) (of_decide_eq_true (by kernel_rfl)) k0 bel lt0) trodAll_mk0), rfl, bel.frame _, fun h => by cases h⟩
theorem over : Rows.fnExactFlatChartRow.holds Try.pinned (OpenSpec.ofChange Rows.fnExactFlatChartSpec) :=
  OpenClaim.holds_of_wide 11 Try.f11 rfl rfl rfl rfl rfl rfl rfl ⟨rfl, rfl, rfl, rfl, rfl⟩ rfl rfl rfl rfl rfl (by kernel_rfl) Try.func11 (by kernel_rfl)
    (of_decide_eq_true (by kernel_rfl)) (by unfold Func.isWrapper; first | (rw [if_pos (by decide +kernel)]; kernel_rfl) | (rw [if_neg (by decide +kernel)]; exact ⟨rfl, rfl⟩))
    (fun os started H enc _ => lifted os started H enc)
theorem proved : Rows.FnExactFlatChartSaid := over
#print axioms proved
end Go.Proofs.Ytkhkgfihodljmaa.fnExactFlatChart
namespace Go.Proofs.Ytkhkgfihodljmaa
/-- The row, under a short name, for the claim. -/
theorem fnExactFlatChart_holds : Rows.FnExactFlatChartSaid := fnExactFlatChart.proved
end Go.Proofs.Ytkhkgfihodljmaa
