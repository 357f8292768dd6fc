/-
Own text: a round of the reckoning that gives up.
-/
import Derived.Test.YtdcnlghcdmiciaaFw8
namespace Go.Proofs.Ytdcnlghcdmiciaa.Fl
open Go Ieee Go.RowKit Go.Proofs.YtdcnlghcdmiciaaW.PrintWords
set_option linter.unusedVariables false
set_option linter.unusedSimpArgs false
theorem rnd_flag {a b q r p : Nat} (fb : Bool) (hz : zeroB (gainD b r p) = false) :
    (((((((((((fb || !finB (fop .mul a b)) || !finB (fop .mul (fop .mul a b) p)) || !finB (fop .mul b b)) || !finB (fop .mul (fop .mul b b) p)) || !finB (fop .add r (fop .mul (fop .mul b b) p))) || !finB (fop .mul a a)) || !finB (fop .mul (fop .mul a a) p)) || !finB (fop .add q (fop .mul (fop .mul a a) p))) || !finB (fop .mul (fop .mul (fop .mul a b) p) (fop .mul (fop .mul a b) p))) || !finB (fop .quo (fop .mul (fop .mul (fop .mul a b) p) (fop .mul (fop .mul a b) p)) (fop .add r (fop .mul (fop .mul b b) p)))) || !finB (fop .sub (fop .add q (fop .mul (fop .mul a a) p)) (fop .quo (fop .mul (fop .mul (fop .mul a b) p) (fop .mul (fop .mul a b) p)) (fop .add r (fop .mul (fop .mul b b) p))))) = (fb || !rndOk a b q r p) := by
  have ok : rndOk a b q r p = (finB (gainD b r p) && finB (gainN a b p) && finB (rndX a b q r p) && finB (fop .mul (gainN a b p) (gainN a b p))) := by unfold rndOk; rw [hz]; rfl
  rw [ok]
  show (((((((((((fb || !finB (fop .mul a b)) || !finB (gainN a b p)) || !finB (fop .mul b b)) || !finB (fop .mul (fop .mul b b) p)) || !finB (gainD b r p)) || !finB (fop .mul a a)) || !finB (fop .mul (fop .mul a a) p)) || !finB (fop .add q (fop .mul (fop .mul a a) p))) || !finB (fop .mul (gainN a b p) (gainN a b p))) || !finB (fop .quo (fop .mul (gainN a b p) (gainN a b p)) (gainD b r p))) || !finB (rndX a b q r p)) = _
  cases h5 : finB (gainD b r p) with
  | false => simp
  | true =>
    have h4 : finB (fop .mul (fop .mul b b) p) = true := fin_r (op := .add) (by simp) h5
    have h3 : finB (fop .mul b b) = true := fin_l (op := .mul) (by simp) h4
    cases h2 : finB (gainN a b p) with
    | false => simp
    | true =>
      have h1 : finB (fop .mul a b) = true := fin_l (op := .mul) (by simp) h2
      cases h11 : finB (rndX a b q r p) with
      | false => simp
      | true =>
        have h8 : finB (fop .add q (fop .mul (fop .mul a a) p)) = true := fin_l (op := .sub) (by simp) h11
        have h10 : finB (fop .quo (fop .mul (gainN a b p) (gainN a b p)) (gainD b r p)) = true := fin_r (op := .sub) (by simp) h11
        have h7 : finB (fop .mul (fop .mul a a) p) = true := fin_r (op := .add) (by simp) h8
        have h6 : finB (fop .mul a a) = true := fin_l (op := .mul) (by simp) h7
        rw [h1, h3, h4, h6, h7, h8, h10]
        simp
def RndL (g : Nat) (fb : Bool) (a b q r p : Nat) (w : World) (e : Ending) (w' : World) : Prop := ∃ y t, e = .returned (.float .f64 y) ∧ Like y t ∧ (rndOk a b q r p = true → t = rndX a b q r p) ∧ St w' g (fb || !rndOk a b q r p) ∧ Kp w w' g
set_option maxHeartbeats 4000000 in
set_option maxRecDepth 100000 in
theorem roundL {a b q r p s g : Nat} {fb : Bool} (w : World) (hs : St w g fb) (la : Like a a) (lb : Like b b) (lq : Like q q) (lr : Like r r) (lp : Like p s) :
    Calls Try.prog 46 #[.pointer (some ⟨g, 0, none⟩), .float .f64 a, .float .f64 b, .float .f64 q, .float .f64 r, .float .f64 p] w (RndL g fb a b q r s w) := by
  have HS := Aside0.mk hs
  have LA := Aside0.mk la
  have LB := Aside0.mk lb
  have LQ := Aside0.mk lq
  have LR := Aside0.mk lr
  have LP := Aside0.mk lp
  clear hs la lb lq lr lp
  go_enter Try.func46, Try.ntmps46
  go_wp2_with fail
  go_at_call 41
  refine (mulL _ (by exact HS.out) LA.out LB.out).mono ?_
  rintro e w1 ⟨x1, rfl, l1, s1, k1⟩
  have L1 := Aside0.mk l1
  have S1 := Aside0.mk s1
  have K1 := Aside0.mk ((Kp.refl w g).trans k1)
  clear l1 s1 k1
  go_wp2_with fail
  go_at_call 41
  refine (mulL _ (by exact S1.out) L1.out LP.out).mono ?_
  rintro e w2 ⟨x2, rfl, l2, s2, k2⟩
  have L2 := Aside0.mk l2
  have S2 := Aside0.mk s2
  have K2 := Aside0.mk (K1.out.trans k2)
  clear l2 s2 k2
  go_wp2_with fail
  go_at_call 41
  refine (mulL _ (by exact S2.out) LB.out LB.out).mono ?_
  rintro e w3 ⟨x3, rfl, l3, s3, k3⟩
  have L3 := Aside0.mk l3
  have S3 := Aside0.mk s3
  have K3 := Aside0.mk (K2.out.trans k3)
  clear l3 s3 k3
  go_wp2_with fail
  go_at_call 41
  refine (mulL _ (by exact S3.out) L3.out LP.out).mono ?_
  rintro e w4 ⟨x4, rfl, l4, s4, k4⟩
  have L4 := Aside0.mk l4
  have S4 := Aside0.mk s4
  have K4 := Aside0.mk (K3.out.trans k4)
  clear l4 s4 k4
  go_wp2_with fail
  go_at_call 40
  refine (addL _ (by exact S4.out) LR.out L4.out).mono ?_
  rintro e w5 ⟨x5, rfl, l5, s5, k5⟩
  have L5 := Aside0.mk l5
  have S5 := Aside0.mk s5
  have K5 := Aside0.mk (K4.out.trans k5)
  clear l5 s5 k5
  go_wp2_with fail
  go_at_call 41
  refine (mulL _ (by exact S5.out) LA.out LA.out).mono ?_
  rintro e w6 ⟨x6, rfl, l6, s6, k6⟩
  have L6 := Aside0.mk l6
  have S6 := Aside0.mk s6
  have K6 := Aside0.mk (K5.out.trans k6)
  clear l6 s6 k6
  go_wp2_with fail
  go_at_call 41
  refine (mulL _ (by exact S6.out) L6.out LP.out).mono ?_
  rintro e w7 ⟨x7, rfl, l7, s7, k7⟩
  have L7 := Aside0.mk l7
  have S7 := Aside0.mk s7
  have K7 := Aside0.mk (K6.out.trans k7)
  clear l7 s7 k7
  go_wp2_with fail
  go_at_call 40
  refine (addL _ (by exact S7.out) LQ.out L7.out).mono ?_
  rintro e w8 ⟨x8, rfl, l8, s8, k8⟩
  have L8 := Aside0.mk l8
  have S8 := Aside0.mk s8
  have K8 := Aside0.mk (K7.out.trans k8)
  clear l8 s8 k8
  go_wp2_with fail
  go_at_call 41
  refine (mulL _ (by exact S8.out) L2.out L2.out).mono ?_
  rintro e w9 ⟨x9, rfl, l9, s9, k9⟩
  have L9 := Aside0.mk l9
  have S9 := Aside0.mk s9
  have K9 := Aside0.mk (K8.out.trans k9)
  clear l9 s9 k9
  cases hz : zeroB (gainD b r s)
  case true =>
    have HZ := Aside0.mk hz
    clear hz
    go_wp2_with fail
    go_at_call 43
    refine (divZ _ (by exact S9.out) L5.out HZ.out).mono ?_
    rintro e w10 ⟨x10, t10, rfl, l10, s10, k10⟩
    have L10 := Aside0.mk l10
    have S10 := Aside0.mk s10
    have K10 := Aside0.mk (K9.out.trans k10)
    clear l10 s10 k10
    go_wp2_with fail
    go_at_call 45
    refine (subL _ (by exact S10.out) L8.out L10.out).mono ?_
    rintro e w11 ⟨x11, rfl, l11, s11, k11⟩
    have L11 := Aside0.mk l11
    have S11 := Aside0.mk s11
    have K11 := Aside0.mk (K10.out.trans k11)
    clear l11 s11 k11
    go_wp2_with fail
    go_ret
    have no : rndOk a b q r s = false := by unfold rndOk; rw [HZ.out]; rfl
    exact ⟨_, _, rfl, L11.out, (fun h => by rw [no] at h; cases h), by rw [no, Bool.not_false, Bool.or_true]; exact S11.out, K11.out⟩
  have HZ := Aside0.mk hz
  clear hz
  go_wp2_with fail
  go_at_call 43
  refine (divL _ (by exact S9.out) L9.out L5.out HZ.out).mono ?_
  rintro e w10 ⟨x10, rfl, l10, s10, k10⟩
  have L10 := Aside0.mk l10
  have S10 := Aside0.mk s10
  have K10 := Aside0.mk (K9.out.trans k10)
  clear l10 s10 k10
  go_wp2_with fail
  go_at_call 45
  refine (subL _ (by exact S10.out) L8.out L10.out).mono ?_
  rintro e w11 ⟨x11, rfl, l11, s11, k11⟩
  have L11 := Aside0.mk l11
  have S11 := Aside0.mk s11
  have K11 := Aside0.mk (K10.out.trans k11)
  clear l11 s11 k11
  go_wp2_with fail
  go_ret
  exact ⟨_, _, rfl, L11.out, fun _ => rfl, by rw [← rnd_flag fb HZ.out]; exact S11.out, K11.out⟩
end Go.Proofs.Ytdcnlghcdmiciaa.Fl
