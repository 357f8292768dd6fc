import Derived.Test.YtjcmlggdaajicaaRows
import Derived.WalkKit
import Derived.ProofKit
import Derived.OpenShut
import Derived.ShutString
import Derived.ChangeOld
import Derived.Below
import Derived.SizedLaws
import Derived.Carry
import Derived.Test.YtjcmlggdaajicaaZfy21
namespace Go.Proofs.Ytjcmlggdaajicaa.fnWays
open Go.ChangeShapes Go.WideShapes Go.ChangeAt Go.RowKit Go.Proofs.YtjcmlggdaajicaaW.PrintWords Go.Proofs.Ytjcmlggdaajicaa.Opn Go.Proofs.Ytjcmlggdaajicaa.Pr
set_option linter.unusedVariables false
set_option linter.unusedSimpArgs false
theorem own : ownKnob Try.prog.godebug = none:=by kernel_rfl
theorem laidOut : laidOutB Try.prog = true:=by kernel_rfl
set_option maxRecDepth 100000 in
set_option maxHeartbeats 1000000 in
theorem lifted (os : Os) (started : os.Started) (H : Type) (enc : TypeId × Value → H) :
    ReturnsInHanded {} Try.checked os 9 .any (Rows.fnWaysSpec.pre6 enc Try.prog Try.f9 Rows.fnWaysRow.domain false) (Rows.fnWaysSpec.post enc Try.prog Try.f9 false true false false):=by
  refine returnsInHanded_of_change_sized (C:=Try.checked) own started (by kernel_rfl) Try.func9
    (ChangeSpec.witness6 (enc:=enc) (C:=Try.checked) false ⟨#[],#[.slice none 0 0,.slice none 0 0],[]⟩ 8 (by kernel_rfl) (by kernel_rfl) (by kernel_rfl) (by kernel_rfl)) ?_
  intro W base args ds gs before hval0 hW hcnd hsz0 _;have hsz : (DataW.weightsEach Try.prog (Try.f9.params.toList ++ Rows.fnWaysSpec.plain.varTypes Try.prog) (ds ++ gs)).all (· ≤ reachBytes) = true:=hsz0;have hval : ∀ (j : Nat) t v,Try.f9.params[j]? = some t → args[j]? = some v → Value.okWide Try.prog W .any base t v:=hval0;have hW':=hW;obtain ⟨p,q,hA0,hV,rfl,hfz,hnd⟩:=hW;have hA : DataW.TrodAll enc Try.prog W 0 (fun _ => true) true Try.f9.params.toList args.toList ds p:=hA0;rw [Try.params9] at hA hval hsz;obtain ⟨v0,vs0,d0,ds0,p0,q0,hargs,rfl,rfl,h0,r0⟩:=trodAll_cons hA;obtain ⟨v1,vs1,d1,ds1,p1,q1,rfl,rfl,rfl,h1,r1⟩:=trodAll_cons r0;obtain ⟨rfl,rfl,rfl⟩:=trodAll_nil r1
  obtain rfl : args = #[v0,v1]:=by cases args;simp_all
  obtain ⟨rfl,rfl⟩:=trodVars_none hV;have k0:=h0;(have lt0 : ∀ x ∈ p0,x.block < W.heap.size:=by obtain ⟨m,hm⟩:=k0;exact DataW.trod_lt m _ _ _ hm);have opn0 : Opn Try.prog 42 (Kd.slice 5 (Kd.int .u8)) _:=(Opn.slice 5 1 Try.underlying42 (by kernel_rfl) (by kernel_rfl) (Opn.int Try.underlying5));obtain ⟨x0,K0,Q0⟩:=opn0.get h0.choose_spec (weights_of (j:=0) hsz rfl rfl);clear opn0;obtain ⟨A0,len0,cap0,rfl⟩:=okWide_slice Try.underlying42 (hval 0 42 v0 rfl rfl);obtain ⟨A0',c0,E0,hc0,hr0⟩:=K0;have E0':=List.singleton_inj.1 (show [Value.slice A0 len0 cap0] = [.slice A0' x0.length c0] from E0)
  injection E0' with ea0 el0 ec0;subst ea0 el0 ec0
  obtain ⟨l0,rfl⟩ : ∃ l,l = x0:=⟨_,rfl⟩;have k1:=h1;(have lt1 : ∀ x ∈ p1,x.block < W.heap.size:=by obtain ⟨m,hm⟩:=k1;exact DataW.trod_lt m _ _ _ hm);have opn1 : Opn Try.prog 42 (Kd.slice 5 (Kd.int .u8)) _:=(Opn.slice 5 1 Try.underlying42 (by kernel_rfl) (by kernel_rfl) (Opn.int Try.underlying5));obtain ⟨x1,K1,Q1⟩:=opn1.get h1.choose_spec (weights_of (j:=1) hsz rfl rfl);clear opn1;obtain ⟨A1,len1,cap1,rfl⟩:=okWide_slice Try.underlying42 (hval 1 42 v1 rfl rfl);obtain ⟨A1',c1,E1,hc1,hr1⟩:=K1;have E1':=List.singleton_inj.1 (show [Value.slice A1 len1 cap1] = [.slice A1' x1.length c1] from E1)
  injection E1' with ea1 el1 ec1;subst ea1 el1 ec1
  obtain ⟨l1,rfl⟩ : ∃ l,l = x1:=⟨_,rfl⟩;clear hA0 hval0 hsz0 hsz;obtain ⟨k,h⟩:=Pure.FnWays l0 l1 Q0 Q1;refine (laws_FnWays.calls k _ _ l0 _ _ l1 true W hr0 hc0 hr1 hc1 h).mono ?_;rintro e W' ⟨rfl,hd⟩;have bel : Below W.heap.size W W':=hd;exact ⟨_,rfl,_,_,_,[],_,[],hW',trodAll_mk1 (shut_bool Try.underlying4 _),(trodAll_cons_mk (Below.trod laidOut (by kernel_rfl) (of_decide_eq_true (by kernel_rfl)) k0 bel lt0) (trodAll_cons_mk (Below.trod laidOut (by kernel_rfl) (of_decide_eq_true (by kernel_rfl)) k1 bel lt1) trodAll_mk0)),rfl,bel.frame _,fun h => by cases h⟩
theorem over : Rows.fnWaysRow.holds Try.pinned (OpenSpec.ofChange Rows.fnWaysSpec):=
  OpenClaim.holds_of_wide 9 Try.f9 rfl rfl rfl rfl rfl rfl rfl ⟨rfl,rfl,rfl,rfl,rfl⟩ rfl rfl rfl rfl rfl (by kernel_rfl) Try.func9 (by kernel_rfl)
    (of_decide_eq_true (by kernel_rfl)) (by unfold Func.isWrapper;first | (rw [if_pos (by decide +kernel)];kernel_rfl) | (rw [if_neg (by decide +kernel)];exact ⟨rfl,rfl⟩))
    (fun os started H enc _ => lifted os started H enc)
theorem proved : Rows.FnWaysSaid:=over
#print axioms proved
end Go.Proofs.Ytjcmlggdaajicaa.fnWays
namespace Go.Proofs.Ytjcmlggdaajicaa
/-- The row, under a short name, for the claim. -/
theorem fnWays_holds : Rows.FnWaysSaid:=fnWays.proved
end Go.Proofs.Ytjcmlggdaajicaa
