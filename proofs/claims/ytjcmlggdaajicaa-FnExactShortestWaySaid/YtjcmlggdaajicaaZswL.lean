import Derived.Test.YtjcmlggdaajicaaRows
import Derived.WalkKit
import Derived.ProofKit
import Derived.OpenShut
import Derived.ShutString
import Derived.ChangeOld
import Derived.Below
import Derived.SizedLaws
import Derived.Carry
import Derived.Test.YtjcmlggdaajicaaZsw15
namespace Go.Proofs.Ytjcmlggdaajicaa.fnExactShortestWay
open Go.ChangeShapes Go.WideShapes Go.ChangeAt Go.RowKit Go.Proofs.YtjcmlggdaajicaaW.PrintWords Go.Proofs.Ytjcmlggdaajicaa.Opn Go.Proofs.Ytjcmlggdaajicaa.Pr
set_option linter.unusedVariables false
set_option linter.unusedSimpArgs false
theorem own : ownKnob Try.prog.godebug = none:=by kernel_rfl
theorem laidOut : laidOutB Try.prog = true:=by kernel_rfl
set_option maxRecDepth 100000 in
set_option maxHeartbeats 1000000 in
theorem lifted (os : Os) (started : os.Started) (H : Type) (enc : TypeId × Value → H) :
    ReturnsInHanded {} Try.checked os 8 .any (Rows.fnExactShortestWaySpec.pre6 enc Try.prog Try.f8 Rows.fnExactShortestWayRow.domain false) (Rows.fnExactShortestWaySpec.post enc Try.prog Try.f8 false true false false):=by
  refine returnsInHanded_of_change_sized (C:=Try.checked) own started (by kernel_rfl) Try.func8
    (ChangeSpec.witness6 (enc:=enc) (C:=Try.checked) false ⟨#[],#[.agg #[.int .i64 0,.slice none 0 0],.int .i64 0,.int .i64 0],[]⟩ 8 (by kernel_rfl) (by kernel_rfl) (by kernel_rfl) (by kernel_rfl)) ?_
  intro W base args ds gs before hval0 hW hcnd hsz0 _;have hsz : (DataW.weightsEach Try.prog (Try.f8.params.toList ++ Rows.fnExactShortestWaySpec.plain.varTypes Try.prog) (ds ++ gs)).all (· ≤ reachBytes) = true:=hsz0;have hval : ∀ (j : Nat) t v,Try.f8.params[j]? = some t → args[j]? = some v → Value.okWide Try.prog W .any base t v:=hval0;have hW':=hW;obtain ⟨p,q,hA0,hV,rfl,hfz,hnd⟩:=hW;have hA : DataW.TrodAll enc Try.prog W 0 (fun _ => true) true Try.f8.params.toList args.toList ds p:=hA0;rw [Try.params8] at hA hval hsz;obtain ⟨v0,vs0,d0,ds0,p0,q0,hargs,rfl,rfl,h0,r0⟩:=trodAll_cons hA;obtain ⟨v1,vs1,d1,ds1,p1,q1,rfl,rfl,rfl,h1,r1⟩:=trodAll_cons r0;obtain ⟨v2,vs2,d2,ds2,p2,q2,rfl,rfl,rfl,h2,r2⟩:=trodAll_cons r1;obtain ⟨rfl,rfl,rfl⟩:=trodAll_nil r2
  obtain rfl : args = #[v0,v1,v2]:=by cases args;simp_all
  obtain ⟨rfl,rfl⟩:=trodVars_none hV;have k0:=h0;(have lt0 : ∀ x ∈ p0,x.block < W.heap.size:=by obtain ⟨m,hm⟩:=k0;exact DataW.trod_lt m _ _ _ hm);have opn0 : Opn Try.prog 24 (Kd.pair (Kd.int .i64) (Kd.slice 3 (Kd.int .i64))) _:=(Opn.struct Try.underlying24 (by kernel_rfl) (OpnF.cons rfl (by kernel_rfl) (Opn.int Try.underlying3) (OpnF.one rfl (by kernel_rfl) (Opn.slice 3 8 Try.underlying22 (by kernel_rfl) (by kernel_rfl) (Opn.int Try.underlying3)))));obtain ⟨x0,K0,Q0⟩:=opn0.get h0.choose_spec (weights_of (j:=0) hsz rfl rfl);clear opn0;obtain ⟨a0_0,l0_1⟩:=x0;obtain ⟨cs0,rfl,hsz0⟩:=okWide_struct Try.underlying24 (hval 0 24 v0 rfl rfl);obtain ⟨q0a,q0b,E0,E0a,⟨A0_1,c0_1,E0b,hc0_1,hr0_1⟩⟩:=K0
  obtain rfl : cs0 = #[.int .i64 a0_0,.slice A0_1 l0_1.length c0_1]:=by apply Array.toList_inj.1;first | (refine Eq.trans E0 ?_;rw [E0a,E0b];rfl) | (simp only [Value.cells] at *;simp_all [Kd.int,Kd.bool,Kd.string,Kd.scalar])
  have k1:=h1;(have lt1 : ∀ x ∈ p1,x.block < W.heap.size:=by obtain ⟨m,hm⟩:=k1;exact DataW.trod_lt m _ _ _ hm);have opn1 : Opn Try.prog 3 (Kd.int .i64) _:=(Opn.int Try.underlying3);obtain ⟨x1,K1,Q1⟩:=opn1.get h1.choose_spec (weights_of (j:=1) hsz rfl rfl);clear opn1;obtain ⟨b1,rfl⟩:=okWide_int Try.underlying3 (hval 1 3 v1 rfl rfl)
  obtain rfl : b1 = x1:=by have:=List.singleton_inj.1 (show [Value.int .i64 b1] = [.int .i64 x1] from K1);injection this
  obtain ⟨a1,rfl⟩ : ∃ a,a = b1:=⟨_,rfl⟩;have k2:=h2;(have lt2 : ∀ x ∈ p2,x.block < W.heap.size:=by obtain ⟨m,hm⟩:=k2;exact DataW.trod_lt m _ _ _ hm);have opn2 : Opn Try.prog 3 (Kd.int .i64) _:=(Opn.int Try.underlying3);obtain ⟨x2,K2,Q2⟩:=opn2.get h2.choose_spec (weights_of (j:=2) hsz rfl rfl);clear opn2;obtain ⟨b2,rfl⟩:=okWide_int Try.underlying3 (hval 2 3 v2 rfl rfl)
  obtain rfl : b2 = x2:=by have:=List.singleton_inj.1 (show [Value.int .i64 b2] = [.int .i64 x2] from K2);injection this
  obtain ⟨a2,rfl⟩ : ∃ a,a = b2:=⟨_,rfl⟩;clear hA0 hval0 hsz0 hsz;obtain ⟨k,h⟩:=Pure.FnExactShortestWay a0_0 l0_1 a1 a2 Q0 Q1 Q2;refine (laws_FnExactShortestWay.calls k a0_0 _ _ l0_1 a1 a2 true W hr0_1 hc0_1 h).mono ?_;rintro e W' ⟨rfl,hd⟩;have bel : Below W.heap.size W W':=hd;exact ⟨_,rfl,_,_,_,[],_,[],hW',trodAll_mk1 (shut_bool Try.underlying4 _),(trodAll_cons_mk (Below.trod laidOut (by kernel_rfl) (of_decide_eq_true (by kernel_rfl)) k0 bel lt0) (trodAll_cons_mk (Below.trod laidOut (by kernel_rfl) (of_decide_eq_true (by kernel_rfl)) k1 bel lt1) (trodAll_cons_mk (Below.trod laidOut (by kernel_rfl) (of_decide_eq_true (by kernel_rfl)) k2 bel lt2) trodAll_mk0))),rfl,bel.frame _,fun h => by cases h⟩
theorem over : Rows.fnExactShortestWayRow.holds Try.pinned (OpenSpec.ofChange Rows.fnExactShortestWaySpec):=
  OpenClaim.holds_of_wide 8 Try.f8 rfl rfl rfl rfl rfl rfl rfl ⟨rfl,rfl,rfl,rfl,rfl⟩ rfl rfl rfl rfl rfl (by kernel_rfl) Try.func8 (by kernel_rfl)
    (of_decide_eq_true (by kernel_rfl)) (by unfold Func.isWrapper;first | (rw [if_pos (by decide +kernel)];kernel_rfl) | (rw [if_neg (by decide +kernel)];exact ⟨rfl,rfl⟩))
    (fun os started H enc _ => lifted os started H enc)
theorem proved : Rows.FnExactShortestWaySaid:=over
#print axioms proved
end Go.Proofs.Ytjcmlggdaajicaa.fnExactShortestWay
namespace Go.Proofs.Ytjcmlggdaajicaa
/-- The row, under a short name, for the claim. -/
theorem fnExactShortestWay_holds : Rows.FnExactShortestWaySaid:=fnExactShortestWay.proved
end Go.Proofs.Ytjcmlggdaajicaa
