/-
Own text: NormReal and DotReals, in the program and in the reference; their laws.
-/
import Derived.Test.YtdcnlghcdmiciaaFs7
namespace Go.Proofs.Ytdcnlghcdmiciaa.Fl
open Go Ieee Go.RowKit Go.Proofs.YtdcnlghcdmiciaaW.PrintWords Go.Proofs.YtdcnlghcdmiciaaW.PrintLast Go.Proofs.Ytdcnlghcdmiciaa.Opn
set_option linter.unusedVariables false
set_option linter.unusedSimpArgs false
theorem flt_own {w : World} {v : Value} {l : List Nat} {b : Nat} (h : flt.R 22 w b (fun _ => True) v l) : flt.R 22 w b (fun _ => True) v l := h
/-- The root that the machine gives. -/
def sv (w : World) (x : Nat) : Nat := match D.sqrt x with
  | some r => r
  | none => (Question.nanBits .f64 x x).cut (w.tape w.drawn (.nanBits .f64 x x))
def sc (x : Nat) : Nat := match D.sqrt x with
  | some _ => 0
  | none => 1
theorem sv_ab (w : World) (x : Nat) : ab (sv w x) = fsqrt x := by
  rw [fsqrt_out]
  have h := fsqrt_ab_ x
  rw [fsqrt_out] at h
  unfold sv
  cases hb : D.sqrt x with
  | some r => rw [hb] at h; exact h
  | none => show ab _ = NANC; unfold ab; rw [(cut_nan _ _ _).1]; rfl
theorem sv_lt (w : World) (x : Nat) : sv w x < 18446744073709551616 := by
  unfold sv
  cases hb : D.sqrt x with
  | some r => exact D.sqrt_lt hb
  | none => exact (cut_nan _ _ _).2
theorem sqrt_run (x : Nat) (w : World) : (callFunc 75 #[.float .f64 x]).run Try.prog w = .ok (.value (.float .f64 (sv w x))) (w.drewN (sc x)) := by
  rw [run_callFunc_extern (e := Extern.MathSqrt.sqrt) Try.func75 (by kernel_rfl) (by kernel_rfl) (by kernel_rfl) (by kernel_rfl)]
  change (Sem.run Try.prog (match FloatKind.f64.format.sqrt x with
    | some r => pure (Value.float .f64 r)
    | none => do pure (Value.float .f64 (← choose (.nanBits .f64 x x)))) w).andThen _ = _
  cases hb : D.sqrt x with
  | some r =>
    have h : FloatKind.f64.format.sqrt x = some r := hb
    unfold sv sc
    rw [hb, h]
    rfl
  | none =>
    have h : FloatKind.f64.format.sqrt x = none := hb
    unfold sv sc
    rw [hb, h]
    rfl
set_option maxRecDepth 100000 in
theorem mathSqrt (x : Nat) (w : World) : Calls Try.prog 53 #[.float .f64 x] w fun e w' => ∃ r, e = .returned (.float .f64 r) ∧ (r < 18446744073709551616 ∧ ab r = fsqrt x) ∧ ∃ n, w' = w.drewN n := by
  have hs := sqrt_run x
  go_enter Try.func53, Try.ntmps53
  go_wp2
  go_ret
  exact ⟨_, rfl, ⟨sv_lt _ _, sv_ab _ _⟩, _, rfl⟩
def normR (l : List Nat) : Nat := if goodsB l then told (fsqrt (dotS l l)) else 0
def normB (l : List Nat) : Bool := goodsB l && finB (fsqrt (dotS l l))
theorem norm_no {l : List Nat} (h : goodsB l = false) : normR l = 0 ∧ normB l = false := by unfold normR normB; rw [h]; exact ⟨rfl, rfl⟩
theorem norm_yes {l : List Nat} (h : goodsB l = true) : normR l = told (fsqrt (dotS l l)) ∧ normB l = finB (fsqrt (dotS l l)) := by unfold normR normB; rw [h]; exact ⟨rfl, rfl⟩
theorem fsqrt_lt (x : Nat) : fsqrt x < 18446744073709551616 := out_lt _
theorem normR_lt (l : List Nat) : normR l < 18446744073709551616 := by
  unfold normR
  split
  · exact told_lt (fsqrt_lt _)
  · decide
theorem fsqrt_of_ab {x y : Nat} (h : ab x = ab y) : fsqrt x = fsqrt y := by rw [← fsqrt_ab x, h, fsqrt_ab]
set_option maxHeartbeats 1000000 in
set_option maxRecDepth 100000 in
theorem spec_NormReal (A : Option Addr) (c : Nat) (l : List Nat) (w : World) (hr : flt.C w A l.length l) (hc : l.length ≤ c) (hn : l.length * 8 ≤ 140737488351232) (hb : Bits l) :
    Calls Try.prog 27 #[.slice A l.length c] w fun e w' => e = .returned (.tuple #[.float .f64 (normR l), .bool (normB l)]) ∧ Below w.heap.size w w' := by
  have H1 := Aside0.mk (l2Goods A c l w hr hc hn hb)
  have H2 := Aside0.mk (fun n => l2Dot A A c c l l (w.drewN n) (Kd.C_drewN hr n) (Kd.C_drewN hr n) hc hc rfl hn)
  have HN := Aside0.mk (norm_no (l := l))
  have HY := Aside0.mk (norm_yes (l := l))
  clear hr hc hn hb
  generalize goodsB l = g at *
  cases g
  · have HN2 := Aside0.mk (HN.out rfl)
    clear HN HY
    go_enter Try.func27, Try.ntmps27
    go_wp2_with (first | (go_at_call 47; refine (H1.out).mono ?_; rintro e w' ⟨rfl, n, rfl⟩))
    go_ret2
    exact ⟨by rw [HN2.out.1, HN2.out.2]; rfl, pw_below_drewN (Below.refl _ _) _⟩
  · have HY2 := Aside0.mk (HY.out rfl)
    clear HN HY
    go_enter Try.func27, Try.ntmps27
    go_wp2_with (first | (go_at_call 47; refine (H1.out).mono ?_; rintro e w' ⟨rfl, n, rfl⟩) | (go_at_call 51; refine (H2.out n).mono ?_; rintro e w1 ⟨r, rfl, hr, hb⟩; have HR := Aside0.mk hr; have K1 := Aside0.mk (below_step (pw_below_drewN (Below.refl w.heap.size w) n) hb); clear hr hb) | (go_at_call 53; refine (mathSqrt _ _).mono ?_; rintro e w' ⟨r2, rfl, hr2, m, rfl⟩; have HR2 := Aside0.mk hr2; clear hr2) | (go_at_call 37; refine (l2Told _ HR2.out.1 _).mono ?_; rintro e w' ⟨rfl, rfl⟩))
    go_ret2
    have e : ab r2 = ab (fsqrt (dotS l l)) := by rw [HR2.out.2, fsqrt_ab_, fsqrt_of_ab HR.out.2]
    refine ⟨?_, pw_below_drewN K1.out _⟩
    rw [HY2.out.1, HY2.out.2, ← told_ab e, ← fin_eq_ab e]
    rfl
theorem sqrt_flag {x : Nat} : (!finB x || !finB (fsqrt x)) = !finB (fsqrt x) := by
  cases h : finB x with
  | true => rfl
  | false => rw [off_sqrt h]; rfl
set_option maxHeartbeats 1000000 in
set_option maxRecDepth 100000 in
theorem impl_NormReal (A : Option Addr) (c : Nat) (l : List Nat) (w : World) (hr : flt.C w A l.length l) (hc : l.length ≤ c) (hn : l.length * 8 ≤ 140737488351232) (hb : Bits l) :
    Calls Try.prog 28 #[.slice A l.length c] w fun e w' => e = .returned (.tuple #[.float .f64 (normR l), .bool (normB l)]) ∧ Below w.heap.size w w' := by
  have H1 := Aside0.mk (impl_goodReals A c l w hr hc hn hb)
  have H2 := Aside0.mk (fun (n : Nat) (hg : goodsB l = true) => dotL A A c c l l w.heap.size ((w.drewN n).alloc (.cells #[.bool false] 49 (0, 0))) (blk_new _ _) (Kd.C_foot_came heap_flt hr (below_alloc (pw_below_drewN (Below.refl _ _) _) _) (Nat.le_refl _)) (Kd.C_foot_came heap_flt hr (below_alloc (pw_below_drewN (Below.refl _ _) _) _) (Nat.le_refl _)) hc hc rfl hn (likes_good hb hg) (likes_good hb hg))
  have HN := Aside0.mk (norm_no (l := l))
  have HY := Aside0.mk (norm_yes (l := l))
  clear hr hc hn hb
  generalize goodsB l = g at *
  cases g
  · have HN2 := Aside0.mk (HN.out rfl)
    clear HN HY H2
    go_enter Try.func28, Try.ntmps28
    go_wp2_with (first | (go_at_call 48; refine (H1.out).mono ?_; rintro e w' ⟨rfl, n, rfl⟩))
    go_ret2
    exact ⟨by rw [HN2.out.1, HN2.out.2]; rfl, pw_below_drewN (Below.refl _ _) _⟩
  · have HY2 := Aside0.mk (HY.out rfl)
    have H3 := Aside0.mk (fun n => H2.out n rfl)
    clear HN HY H2
    go_enter Try.func28, Try.ntmps28
    go_wp2_with (first | (go_at_call 48; refine (H1.out).mono ?_; rintro e w' ⟨rfl, n, rfl⟩) | (go_at_call 52; refine (H3.out n).mono ?_; rintro e w1 ⟨r, rfl, l1, s1, k1⟩; have L1 := Aside0.mk l1; have S1 := Aside0.mk s1; have K1 := Aside0.mk (Kp.fresh (below_alloc (pw_below_drewN (Below.refl w.heap.size w) _) _) (Nat.le_refl _) k1); clear l1 s1 k1) | (go_at_call 53; refine (mathSqrt _ _).mono ?_; rintro e w' ⟨r2, rfl, hr2, m, rfl⟩; have HR2 := Aside0.mk hr2; clear hr2) | (go_at_call 54; refine (put_ _ HR2.out.1 _ _ _ (by exact S1.out)).mono ?_; rintro e w2 ⟨rfl, s2, k2⟩; have S2 := Aside0.mk s2; have K2 := Aside0.mk (Kp.fresh (pw_below_drewN K1.out m) (Nat.le_refl _) k2); clear s2 k2))
    have e : plusC (ab r2) = plusC (fsqrt (dotS l l)) := by rw [HR2.out.2, ← fsqrt_ab, L1.out.2, sqrt_plus]
    have LK : Like (plusC r2) (fsqrt (dotS l l)) := ⟨plus_lt HR2.out.1, by rw [ab_plus, e]⟩
    have hf : finB r2 = finB (fsqrt (dotS l l)) := by rw [← fin_ab, ← fin_plus, e, fin_plus]
    obtain ⟨f, S7, HF⟩ : ∃ f, Aside0 (St w2 w.heap.size f) ∧ Aside0 ((if f then 0 else plusC r2) = normR l ∧ (!f) = normB l) := ⟨_, S2, ⟨by
      rw [HY2.out.1, HY2.out.2, hf, sqrt_flag]
      exact told_end LK⟩⟩
    clear S2 e LK hf
    cases f <;> (
      go_wp2_with (go_at_call 42; refine (end_ _ _ _ _ (by exact S7.out)).mono ?_; rintro e w' ⟨rfl, rfl⟩)
      go_ret2
      exact ⟨by rw [← HF.out.1, ← HF.out.2]; rfl, K2.out⟩)
set_option maxHeartbeats 2000000 in
set_option maxRecDepth 100000 in
theorem law_NormReal (Al : Option Addr) (cl : Nat) (l : List Nat) (w : World) (hrl : flt.C w Al l.length l) (hcl : l.length ≤ cl) (hnl : l.length * 8 ≤ 140737488351232) (hbl : Bits l) :
    Calls Try.prog 9 #[.slice Al l.length cl] w fun e w' => e = .returned (.bool true) ∧ Below w.heap.size w w' := by
  have HRl := Aside0.mk hrl
  have HCl := Aside0.mk hcl
  have HNl := Aside0.mk hnl
  have HBBl := Aside0.mk hbl
  clear hrl hcl hnl hbl
  have HB := Aside0.mk (Below.refl w.heap.size w)
  have HSM := Aside0.mk (sameFloat (normR l) (normR_lt l))
  by_cases bigl : (l.length : Int) > 1048576
  · go_enter Try.func9, Try.ntmps9
    go_wp2_with fail
    go_ret
    exact ⟨rfl, HB.out⟩
  go_enter Try.func9, Try.ntmps9
  go_wp2_with fail
  go_at_call 20
  refine (toFloat64S Al cl l _ (Kd.C_below HRl.out HB.out) HCl.out HNl.out).mono ?_
  rintro e w1 ⟨v1, rfl, ro, hb⟩
  obtain ⟨A1_, c1_, rfl⟩ := Kd.R_slice ro
  have R1n := Aside0.mk (flt_own ro)
  clear ro
  have HB_ := Aside0.mk (below_step HB.out hb)
  clear HB
  have HB := HB_
  clear HB_
  clear hb
  have R1 := R1n
  clear R1n
  go_wp2_with fail
  go_at_call 27
  refine (spec_NormReal _ _ l _ (Kd.R_reads' R1.out).2.2 (Kd.R_reads' R1.out).2.1 HNl.out HBBl.out).mono ?_
  rintro e w' ⟨rfl, hb⟩
  have R1_ := Aside0.mk (Kd.R_below R1.out hb)
  clear R1
  have R1 := R1_
  clear R1_
  have HB_ := Aside0.mk (below_step HB.out hb)
  clear HB
  have HB := HB_
  clear HB_
  clear hb
  clear R1
  go_wp2_with fail
  go_at_call 20
  refine (toFloat64S Al cl l _ (Kd.C_below HRl.out HB.out) HCl.out HNl.out).mono ?_
  rintro e w2 ⟨v2, rfl, ro, hb⟩
  obtain ⟨A2_, c2_, rfl⟩ := Kd.R_slice ro
  have R2n := Aside0.mk (flt_own ro)
  clear ro
  have HB_ := Aside0.mk (below_step HB.out hb)
  clear HB
  have HB := HB_
  clear HB_
  clear hb
  have R2 := R2n
  clear R2n
  go_wp2_with fail
  go_at_call 28
  refine (impl_NormReal _ _ l _ (Kd.R_reads' R2.out).2.2 (Kd.R_reads' R2.out).2.1 HNl.out HBBl.out).mono ?_
  rintro e w' ⟨rfl, hb⟩
  have R2_ := Aside0.mk (Kd.R_below R2.out hb)
  clear R2
  have R2 := R2_
  clear R2_
  have HB_ := Aside0.mk (below_step HB.out hb)
  clear HB
  have HB := HB_
  clear HB_
  clear hb
  go_wp2_with fail
  go_at_call 14
  refine (HSM.out _).mono ?_
  rintro e w' ⟨rfl, nd, rfl⟩
  have R2_ := Aside0.mk (Kd.R_drewN R2.out nd)
  clear R2
  have R2 := R2_
  clear R2_
  have HB_ := Aside0.mk (pw_below_drewN HB.out nd)
  clear HB
  have HB := HB_
  clear HB_
  obtain ⟨B, hB⟩ : ∃ B, B = (normB l) := ⟨_, rfl⟩
  rw [← hB]
  clear hB HSM
  go_wp2_with fail
  go_at_call 20
  refine (toFloat64S Al cl l _ (Kd.C_below HRl.out HB.out) HCl.out HNl.out).mono ?_
  rintro e w3 ⟨v3, rfl, ro, hb⟩
  obtain ⟨A3_, c3_, rfl⟩ := Kd.R_slice ro
  have R3n := Aside0.mk (flt_own ro)
  clear ro
  have R2_ := Aside0.mk (Kd.R_below R2.out hb)
  clear R2
  have R2 := R2_
  clear R2_
  have HB_ := Aside0.mk (below_step HB.out hb)
  clear HB
  have HB := HB_
  clear HB_
  clear hb
  have R3 := R3n
  clear R3n
  go_wp2_with fail
  go_at_call 22
  refine (eqFloat64S _ _ _ _ l _ (Kd.R_reads' R2.out).2.2 (Kd.R_reads' R2.out).2.1 (Kd.R_reads' R3.out).2.2 (Kd.R_reads' R3.out).2.1 HNl.out HBBl.out).mono ?_
  rintro e w' ⟨rfl, nd, rfl⟩
  have R2_ := Aside0.mk (Kd.R_drewN R2.out nd)
  clear R2
  have R2 := R2_
  clear R2_
  have R3_ := Aside0.mk (Kd.R_drewN R3.out nd)
  clear R3
  have R3 := R3_
  clear R3_
  have HB_ := Aside0.mk (pw_below_drewN HB.out nd)
  clear HB
  have HB := HB_
  clear HB_
  go_wp2_with fail
  go_ret
  exact ⟨rfl, HB.out⟩
end Go.Proofs.Ytdcnlghcdmiciaa.Fl
