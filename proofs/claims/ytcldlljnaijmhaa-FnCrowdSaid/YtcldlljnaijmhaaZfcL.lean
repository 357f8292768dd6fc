import Derived.Test.YtcldlljnaijmhaaRows
import Derived.WalkKit
import Derived.ProofKit
import Derived.OpenShut
import Derived.ShutString
import Derived.ChangeOld
import Derived.Below
import Derived.SizedLaws
import Derived.Carry
import Derived.Test.YtcldlljnaijmhaaZfc22
namespace Go.Proofs.Ytcldlljnaijmhaa.fnCrowd
open Go.ChangeShapes Go.WideShapes Go.ChangeAt Go.RowKit Go.Proofs.YtcldlljnaijmhaaW.PrintWords Go.Proofs.Ytcldlljnaijmhaa.Opn Go.Proofs.Ytcldlljnaijmhaa.Pr
set_option linter.unusedVariables false
set_option linter.unusedSimpArgs false
theorem own : ownKnob Try.prog.godebug = none:=by kernel_rfl
theorem laidOut : laidOutB Try.prog = true:=by kernel_rfl
set_option maxRecDepth 100000 in
set_option maxHeartbeats 1000000 in
theorem lifted (os : Os) (started : os.Started) (H : Type) (enc : TypeId × Value → H) :
    ReturnsInHanded {} Try.checked os 11 .any (Rows.fnCrowdSpec.pre6 enc Try.prog Try.f11 Rows.fnCrowdRow.domain false) (Rows.fnCrowdSpec.post enc Try.prog Try.f11 false true false false):=by
  refine returnsInHanded_of_change_sized (C:=Try.checked) own started (by kernel_rfl) Try.func11
    (ChangeSpec.witness6 (enc:=enc) (C:=Try.checked) false ⟨#[],#[.slice none 0 0],[]⟩ 8 (by kernel_rfl) (by kernel_rfl) (by kernel_rfl) (by kernel_rfl)) ?_
  intro W base args ds gs before hval0 hW hcnd hsz0 _;have hsz : (DataW.weightsEach Try.prog (Try.f11.params.toList ++ Rows.fnCrowdSpec.plain.varTypes Try.prog) (ds ++ gs)).all (· ≤ reachBytes) = true:=hsz0;have hval : ∀ (j : Nat) t v,Try.f11.params[j]? = some t → args[j]? = some v → Value.okWide Try.prog W .any base t v:=hval0;have hW':=hW;obtain ⟨p,q,hA0,hV,rfl,hfz,hnd⟩:=hW;have hA : DataW.TrodAll enc Try.prog W 0 (fun _ => true) true Try.f11.params.toList args.toList ds p:=hA0;rw [Try.params11] at hA hval hsz;obtain ⟨v0,vs0,d0,ds0,p0,q0,hargs,rfl,rfl,h0,r0⟩:=trodAll_cons hA;obtain ⟨rfl,rfl,rfl⟩:=trodAll_nil r0
  obtain rfl : args = #[v0]:=by cases args;simp_all
  obtain ⟨rfl,rfl⟩:=trodVars_none hV;have k0:=h0;(have lt0 : ∀ x ∈ p0,x.block < W.heap.size:=by obtain ⟨m,hm⟩:=k0;exact DataW.trod_lt m _ _ _ hm);have opn0 : Opn Try.prog 61 (Kd.slice 5 (Kd.int .u8)) _:=(Opn.slice 5 1 Try.underlying61 (by kernel_rfl) (by kernel_rfl) (Opn.int Try.underlying5));obtain ⟨x0,K0,Q0⟩:=opn0.get h0.choose_spec (weights_of (j:=0) hsz rfl rfl);clear opn0;obtain ⟨A0,len0,cap0,rfl⟩:=okWide_slice Try.underlying61 (hval 0 61 v0 rfl rfl);obtain ⟨A0',c0,E0,hc0,hr0⟩:=K0;have E0':=List.singleton_inj.1 (show [Value.slice A0 len0 cap0] = [.slice A0' x0.length c0] from E0)
  injection E0' with ea0 el0 ec0;subst ea0 el0 ec0
  obtain ⟨l0,rfl⟩ : ∃ l,l = x0:=⟨_,rfl⟩;clear hA0 hval0 hsz0 hsz;obtain ⟨k,h⟩:=Pure.FnCrowd l0 Q0;refine (laws_FnCrowd.calls k _ _ l0 true W hr0 hc0 h).mono ?_;rintro e W' ⟨rfl,hd⟩;have bel : Below W.heap.size W W':=hd;exact ⟨_,rfl,_,_,_,[],_,[],hW',trodAll_mk1 (shut_bool Try.underlying4 _),(trodAll_cons_mk (Below.trod laidOut (by kernel_rfl) (of_decide_eq_true (by kernel_rfl)) k0 bel lt0) trodAll_mk0),rfl,bel.frame _,fun h => by cases h⟩
theorem over : Rows.fnCrowdRow.holds Try.pinned (OpenSpec.ofChange Rows.fnCrowdSpec):=
  OpenClaim.holds_of_wide 11 Try.f11 rfl rfl rfl rfl rfl rfl rfl ⟨rfl,rfl,rfl,rfl,rfl⟩ rfl rfl rfl rfl rfl (by kernel_rfl) Try.func11 (by kernel_rfl)
    (of_decide_eq_true (by kernel_rfl)) (by unfold Func.isWrapper;first | (rw [if_pos (by decide +kernel)];kernel_rfl) | (rw [if_neg (by decide +kernel)];exact ⟨rfl,rfl⟩))
    (fun os started H enc _ => lifted os started H enc)
theorem proved : Rows.FnCrowdSaid:=over
#print axioms proved
end Go.Proofs.Ytcldlljnaijmhaa.fnCrowd
namespace Go.Proofs.Ytcldlljnaijmhaa
/-- The row, under a short name, for the claim. -/
theorem fnCrowd_holds : Rows.FnCrowdSaid:=fnCrowd.proved
end Go.Proofs.Ytcldlljnaijmhaa
