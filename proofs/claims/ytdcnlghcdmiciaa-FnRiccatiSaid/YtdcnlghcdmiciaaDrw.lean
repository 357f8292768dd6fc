/-
Own text: floats that are drawn: some float, whatever it is.
-/
import Derived.Test.YtdcnlghcdmiciaaCur
import Derived.Test.YtdcnlghcdmiciaaFs4
namespace Go.Proofs.Ytdcnlghcdmiciaa.Fl
open Go Ieee Go.RowKit Go.Proofs.YtdcnlghcdmiciaaW.PrintWords Go.Proofs.YtdcnlghcdmiciaaW.PrintLast Go.Proofs.YtdcnlghcdmiciaaW.PrintMore Go.Proofs.Ytdcnlghcdmiciaa.Opn Go.Proofs.Ytdcnlghcdmiciaa.Pr
set_option linter.unusedVariables false
set_option linter.unusedSimpArgs false
attribute [local go_sem] run_fadd run_fsub run_fmul run_fdiv
def FloatC (w0 : World) (g : Nat) (n : Int) (e : Ending) (w' : World) : Prop := ∃ r, e = .returned (.float .f64 r) ∧ r < 18446744073709551616 ∧ CurB w0 w' g n
set_option maxHeartbeats 2000000 in
set_option maxRecDepth 100000 in
theorem soundC {w0 w : World} {g : Nat} {n : Int} (h : CurB w0 w g n) (hn : n ≤ 1000000) : Calls Try.prog 58 #[.pointer (some ⟨g, 0, none⟩)] w (FloatC w0 g (n + 6)) := by
  have HC := Aside0.mk h
  have HN := Aside0.mk hn
  clear h hn
  have hu3 := Try.underlying3
  have hu22 := Try.underlying22
  have hu77 := Try.underlying77
  go_enter Try.func58, Try.ntmps58
  go_wp2_with fail
  go_at_call 55
  refine (pickC _ (by exact HC.out) (by have := HN.out; omega)).mono ?_
  rintro e w1 ⟨v, rfl, hv, hc⟩
  clear HC hv
  have HC := Aside0.mk hc
  clear hc
  by_cases h0 : v = 0
  · subst h0
    go_wp2_with fail
    go_at_call 55
    refine (pickC _ (by exact HC.out) (by have := HN.out; omega)).mono ?_
    rintro e w2 ⟨v2, rfl, hv, hc⟩
    clear HC hv
    have HC := Aside0.mk hc
    clear hc
    go_wp2_with (go_at_call 61; refine (l2Plain _ (fv_lt _ _ _ _) _).mono ?_; rintro e w' ⟨rfl, rfl⟩)
    go_ret
    exact ⟨_, rfl, plus_lt (fv_lt _ _ _ _), (HC.out.drewN _).more (by omega)⟩
  have hb0 : (v == 0) = false := beq_eq_false_iff_ne.2 h0
  clear h0
  by_cases h1 : v = 1
  · subst h1
    go_wp2_with fail
    go_at_call 55
    refine (pickC _ (by exact HC.out) (by have := HN.out; omega)).mono ?_
    rintro e w2 ⟨v2, rfl, hv, hc⟩
    clear HC hv
    have HC := Aside0.mk hc
    clear hc
    go_wp2_with fail
    go_at_call 55
    refine (pickC _ (by exact HC.out) (by have := HN.out; omega)).mono ?_
    rintro e w3 ⟨v3, rfl, hv, hc⟩
    clear HC hv
    have HC := Aside0.mk hc
    clear hc
    go_wp2_with (go_at_call 61; refine (l2Plain _ (fv_lt _ _ _ _) _).mono ?_; rintro e w' ⟨rfl, rfl⟩)
    go_ret
    exact ⟨_, rfl, plus_lt (fv_lt _ _ _ _), (HC.out.drewN _).more (by omega)⟩
  have hb1 : (v == 1) = false := beq_eq_false_iff_ne.2 h1
  clear h1
  go_wp2_with fail
  go_at_call 55
  refine (pickC _ (by exact HC.out) (by have := HN.out; omega)).mono ?_
  rintro e w2 ⟨v2, rfl, hv, hc⟩
  clear HC hv
  have HC := Aside0.mk hc
  clear hc
  go_wp2_with fail
  go_at_call 55
  refine (pickC _ (by exact HC.out) (by have := HN.out; omega)).mono ?_
  rintro e w3 ⟨v3, rfl, hv, hc⟩
  clear HC hv
  have HC := Aside0.mk hc
  clear hc
  have hs := u64_nonneg v3
  have hs2 : decide (0 ≤ IntKind.u64.wrap v3) = true := decide_eq_true hs
  go_wp2_with (go_at_call 61; refine (l2Plain _ (fv_lt _ _ _ _) _).mono ?_; rintro e w' ⟨rfl, rfl⟩)
  go_ret
  exact ⟨_, rfl, plus_lt (fv_lt _ _ _ _), (HC.out.drewN _).more (by omega)⟩
theorem pickK {w0 w : World} {g : Nat} {n : Int} (m : Int) (h : CurB w0 w g n) (hn : n ≤ 4611686018427386000) : Calls Try.prog 55 #[.pointer (some ⟨g, 0, none⟩), .int .i64 m] w fun e w' => ∃ v, e = .returned (.int .i64 v) ∧ (0 ≤ v ∧ (1 < m → v < m) ∧ (m ≤ 1 → v = 0)) ∧ CurB w0 w' g (n + 2) ∧ KeepBut w w' g none := by
  obtain ⟨c, a, s, h1, h2, h3, h4⟩ := h
  obtain ⟨v, a', s', e, l, u, b⟩ := Pure.pick_ok h2 a s m h3.1 (by omega)
  refine (spec_l1Cur_pick.calls g c a s m v a' s' w0 w h1 h4 e).mono ?_
  rintro e w' ⟨rfl, hi, hb, hk⟩
  exact ⟨v, rfl, b, ⟨c, a', s', hi, h2, by omega, hb⟩, hk⟩
theorem CurB.lt {w0 w : World} {g : Nat} {n : Int} (h : CurB w0 w g n) : g < w.heap.size := by
  obtain ⟨c, a, s, h1, _⟩ := h
  exact h1.lt
theorem frombits_int (x : Int) (w : World) : (callFunc 78 #[.int .u64 x]).run Try.prog w = .ok (.value (.float .f64 x.toNat)) w := by
  rw [run_callFunc_extern (e := Extern.MathFloatBits.float64frombits) Try.func78 (by kernel_rfl) (by kernel_rfl) (by kernel_rfl) (by kernel_rfl)]; rfl
set_option maxRecDepth 100000 in
theorem infF (w : World) : Calls Try.prog 80 #[.int .i64 1] w fun e w' => e = .returned (.float .f64 9218868437227405312) ∧ w = w' := by
  have hf := frombits_int 9218868437227405312
  go_enter Try.func80, Try.ntmps80
  go_wp2
  go_ret
  exact ⟨rfl, rfl⟩
set_option maxRecDepth 100000 in
theorem nanF (w : World) : Calls Try.prog 81 #[] w fun e w' => e = .returned (.float .f64 9221120237041090561) ∧ w = w' := by
  have hf := frombits_int 9221120237041090561
  go_enter Try.func81, Try.ntmps81
  go_wp2
  go_ret
  exact ⟨rfl, rfl⟩
set_option maxRecDepth 100000 in
theorem copysignF (w : World) : Calls Try.prog 82 #[.float .f64 0, .float .f64 13830554455654793216] w fun e w' => e = .returned (.float .f64 9223372036854775808) ∧ w = w' := by
  have hf := frombits_int 9223372036854775808
  have hb := fun x => bits_run x
  have h1 : bits .andNot .u64 0 9223372036854775808 = 0 := by decide +kernel
  have h2 : bits .and .u64 13830554455654793216 9223372036854775808 = 9223372036854775808 := by decide +kernel
  have h3 : bits .or .u64 0 9223372036854775808 = 9223372036854775808 := by decide +kernel
  go_enter Try.func82, Try.ntmps82
  go_wp2
  go_ret
  exact ⟨rfl, rfl⟩
theorem floatOfInt_lt (n : Int) : floatOfInt .f64 n < 18446744073709551616 := by
  have h := Ieee.Format.write_lt D (.number (n < 0) n.natAbs 0)
  have e : 2 ^ D.width = 18446744073709551616 := by decide
  rw [e] at h
  exact h
def reals11 : List Nat := [9218868437227405311, 18442240474082181119, 1, 9223372036854775809, 4503599627370496, 9218868437227405312, 9221120237041090561, 9223372036854775808, 4846369599423283200, 4845873199050653696, 4591870180066957722]
theorem reals11_lt (i : Int) : rdOf 0 reals11 i < 18446744073709551616 := by
  have hb : Bits reals11 := by
    intro x hx
    simp only [reals11, List.mem_cons, List.not_mem_nil, or_false] at hx
    rcases hx with rfl | rfl | rfl | rfl | rfl | rfl | rfl | rfl | rfl | rfl | rfl <;> decide
  exact hb.get _
theorem reps11 (w : World) (b : Nat) (ok : Nat → Prop) : Reps (flt.M w b ok) flt.sz reals11 [.float .f64 9218868437227405311, .float .f64 18442240474082181119, .float .f64 1, .float .f64 9223372036854775809, .float .f64 4503599627370496, .float .f64 9218868437227405312, .float .f64 9221120237041090561, .float .f64 9223372036854775808, .float .f64 4846369599423283200, .float .f64 4845873199050653696, .float .f64 4591870180066957722] := by
  unfold reals11
  repeat (first | exact Reps.none _ _ | refine Reps.one (show flt.M w b ok _ [.float .f64 _] from rfl) ?_)
set_option maxHeartbeats 4000000 in
set_option maxRecDepth 100000 in
theorem realC {w0 w : World} {g : Nat} {n : Int} (h : CurB w0 w g n) (hn : n ≤ 1000000) : Calls Try.prog 59 #[.pointer (some ⟨g, 0, none⟩)] w (FloatC w0 g (n + 40)) := by
  have HC := Aside0.mk h
  have HN := Aside0.mk hn
  clear h hn
  have hu3 := Try.underlying3
  have hu22 := Try.underlying22
  have hu77 := Try.underlying77
  have hu55 := Try.underlying55
  have hu31 := Try.underlying31
  go_enter Try.func59, Try.ntmps59
  go_wp2_with fail
  go_at_call 55
  refine (pickC _ (by first | exact HC.out | exact HC.out.drewN _) (by have := HN.out; omega)).mono ?_
  rintro e w1 ⟨v, rfl, hv, hc⟩
  clear HC hv
  have HC := Aside0.mk hc
  clear hc
  by_cases h0 : v = 0
  · subst h0
    go_wp2_with fail
    go_at_call 79
    refine (wideC (by exact HC.out) (by have := HN.out; omega)).mono ?_
    rintro e w2 ⟨v2, rfl, hc⟩
    clear HC
    have HC := Aside0.mk hc
    clear hc
    have hs := u64_nonneg v2
    have hf := frombits_int (IntKind.u64.wrap v2)
    have hlt : (IntKind.u64.wrap v2).toNat < 18446744073709551616 := by rw [Pure.wrap_u64]; omega
    have HLT := Aside0.mk hlt
    clear hlt
    go_wp2_with fail
    go_ret
    exact ⟨_, rfl, HLT.out, (HC.out).more (by omega)⟩
  have hb0 : (v == 0) = false := beq_eq_false_iff_ne.2 h0
  clear h0
  by_cases h1 : v = 1
  · subst h1
    have HGL := Aside0.mk HC.out.lt
    go_wp2_with (first | (go_at_call 80; refine (infF _).mono ?_; rintro e w' ⟨rfl, rfl⟩) | (go_at_call 81; refine (nanF _).mono ?_; rintro e w' ⟨rfl, rfl⟩) | (go_at_call 82; refine (copysignF _).mono ?_; rintro e w' ⟨rfl, rfl⟩) | ((with_reducible refine gate_dst (N := 16) rfl ?_); refine Kd.R_lit flt _ 22 ?hg (N := 16) ?hd (xs := reals11) (inner := [.float .f64 9218868437227405311, .float .f64 18442240474082181119, .float .f64 1, .float .f64 9223372036854775809, .float .f64 4503599627370496, .float .f64 9218868437227405312, .float .f64 9221120237041090561, .float .f64 9223372036854775808, .float .f64 4846369599423283200, .float .f64 4845873199050653696, .float .f64 4591870180066957722]) (ok := fun k => k ≠ g) (okp := fun _ => False) ?hr ?hp ?hok ?hfr (Below.refl _ _) (Nat.le_refl _) (by decide) ?_; (case hd => rfl); (case hg => rfl); (case hr => first | (go_simp; done) | (go_simp; rfl)); (case hp => exact reps11 _ _ _); (case hok => exact fun _ hk => hk.elim); (case hfr => exact Nat.ne_of_gt HGL.out); intro v16 w4 ho hb hg_ hnew_; clear hg_ hnew_; have HO := Aside0.mk ho; have HC2 := Aside0.mk (HC.out.below hb); clear hb ho))
    clear HC HGL
    obtain ⟨gs, co, eo, gb, gl, cl, HG⟩ := Kd.R_form HO.out (by decide)
    subst eo
    clear gb gl HG
    go_at_call 55
    refine (pickK _ (by exact HC2.out) (by have := HN.out; omega)).mono ?_
    rintro e w5 ⟨i, rfl, hv, hc, hk⟩
    have hv1 := hv.1
    have hv2 := hv.2.1 (by decide)
    have HC := Aside0.mk hc
    have HO5 := Aside0.mk (Kd.R_keep HO.out hk (fun _ h => h))
    have HVB := Aside0.mk (reals11_lt i)
    obtain ⟨hx0, hf0⟩ := Kd.R_celln 0 HO5.out i hv1 (by exact hv2)
    clear hv hc HC2 HO hk hf0
    generalize rdOf 0 reals11 i = r at *
    have hlen : (reals11.length : Int) = 11 := by decide
    have hi0 : decide (0 ≤ i) = true := decide_eq_true hv1
    have hi1 : decide (i < 11) = true := decide_eq_true hv2
    have hlenN : reals11.length = 11 := by decide
    simp only [hlenN]
    go_wp2_with fail
    go_ret
    exact ⟨_, rfl, HVB.out, (HC.out).more (by omega)⟩
  have hb1 : (v == 1) = false := beq_eq_false_iff_ne.2 h1
  clear h1
  by_cases h2 : v = 2
  · subst h2
    go_wp2_with fail
    go_at_call 83
    refine (sizedC (by exact HC.out) (by have := HN.out; omega)).mono ?_
    rintro e w2 ⟨v2, rfl, hc⟩
    clear HC
    have HC := Aside0.mk hc
    clear hc
    go_wp2_with fail
    go_ret
    exact ⟨_, rfl, floatOfInt_lt _, (HC.out).more (by omega)⟩
  have hb2 : (v == 2) = false := beq_eq_false_iff_ne.2 h2
  clear h2
  by_cases h3 : v = 3
  · subst h3
    go_wp2_with fail
    go_at_call 83
    refine (sizedC (by exact HC.out) (by have := HN.out; omega)).mono ?_
    rintro e w2 ⟨v2, rfl, hc⟩
    clear HC
    have HC := Aside0.mk hc
    clear hc
    go_wp2_with fail
    go_at_call 55
    refine (pickC _ (by first | exact HC.out | exact HC.out.drewN _) (by have := HN.out; omega)).mono ?_
    rintro e w3 ⟨v3, rfl, hv, hc⟩
    clear HC hv
    have HC := Aside0.mk hc
    clear hc
    go_wp2_with fail
    go_ret
    exact ⟨_, rfl, fv_lt _ _ _ _, (HC.out.drewN _).more (by omega)⟩
  have hb3 : (v == 3) = false := beq_eq_false_iff_ne.2 h3
  clear h3
  go_wp2_with fail
  go_at_call 55
  refine (pickC _ (by first | exact HC.out | exact HC.out.drewN _) (by have := HN.out; omega)).mono ?_
  rintro e w2 ⟨v2, rfl, hv, hc⟩
  clear HC hv
  have HC := Aside0.mk hc
  clear hc
  go_wp2_with fail
  go_at_call 55
  refine (pickC _ (by first | exact HC.out | exact HC.out.drewN _) (by have := HN.out; omega)).mono ?_
  rintro e w3 ⟨v3, rfl, hv, hc⟩
  clear HC hv
  have HC := Aside0.mk hc
  clear hc
  have hs := u64_nonneg v3
  have hs2 : decide (0 ≤ IntKind.u64.wrap v3) = true := decide_eq_true hs
  go_wp2_with fail
  go_ret
  exact ⟨_, rfl, fv_lt _ _ _ _, (HC.out.drewN _).more (by omega)⟩
theorem run_neg {P : Program} {w : World} (k : FloatKind) (x : Nat) : (Op.unary .neg (.float k x)).run P w = .ok (.float k (Op.negFloat k x)) w := rfl
attribute [local go_sem] run_neg
theorem neg_lt {x : Nat} (h : x < 18446744073709551616) : Op.negFloat .f64 x < 18446744073709551616 := by
  have e : Op.negFloat .f64 x = x ^^^ 2 ^ 63 := rfl
  rw [e]
  exact Nat.xor_lt_two_pow (n := 64) h (by decide)
set_option maxHeartbeats 4000000 in
set_option maxRecDepth 100000 in
theorem aboveC {w0 w : World} {g : Nat} {n : Int} (h : CurB w0 w g n) (hn : n ≤ 900000) : Calls Try.prog 60 #[.pointer (some ⟨g, 0, none⟩)] w (FloatC w0 g (n + 60)) := by
  have HN := Aside0.mk hn
  have H58 := Aside0.mk (soundC h (by omega))
  clear h hn
  go_enter Try.func60, Try.ntmps60
  go_wp2_with fail
  go_at_call 58
  refine (H58.out).mono ?_
  rintro e w1 ⟨x, rfl, hx, hc⟩
  have HC := Aside0.mk hc
  have HX := Aside0.mk hx
  clear hc hx H58
  go_wp2_with (first | (go_at_call 56; refine (oneC 16 (by exact HC.out) (by have := HN.out; omega)).mono ?_; rintro e w2 ⟨bo, rfl, hc⟩; have HC1 := Aside0.mk hc; clear hc; cases bo) | (go_at_call 59; refine (realC (by exact HC1.out) (by have := HN.out; omega)).mono ?_; rintro e w3 ⟨x3, rfl, hx3, hc⟩; have HC3 := Aside0.mk hc; have HX3 := Aside0.mk hx3; clear hc hx3))
  all_goals
    go_ret
    exact ⟨_, rfl, by first | exact HX.out | exact HX3.out | exact neg_lt HX.out | exact (by decide : 4602678819172646912 < 18446744073709551616), by first | exact HC3.out.more (by omega) | exact HC1.out.more (by omega)⟩
theorem turnedF (x : Nat) (hx : x < 18446744073709551616) (w : World) : Calls Try.prog 30 #[.float .f64 x] w fun e w' => e = .returned (.float .f64 (plusC (Op.negFloat .f64 x))) ∧ w = w' := by
  have HX := Aside0.mk hx
  clear hx
  go_enter Try.func30, Try.ntmps30
  go_wp2_with (go_at_call 61; refine (l2Plain _ (neg_lt HX.out) _).mono ?_; rintro e w' ⟨rfl, rfl⟩)
  go_ret
  exact ⟨rfl, rfl⟩
def DrawOut (w : World) (e : Ending) (w' : World) : Prop := ∃ (a b q r : Nat) (n : Int), e = .returned (.tuple #[.float .f64 a, .float .f64 b, .float .f64 q, .float .f64 r, .int .i64 n]) ∧ (a < 18446744073709551616 ∧ b < 18446744073709551616 ∧ q < 18446744073709551616 ∧ r < 18446744073709551616 ∧ -100 ≤ n ∧ n ≤ 100) ∧ Below w.heap.size w w'
set_option maxHeartbeats 4000000 in
set_option maxRecDepth 100000 in
theorem drawRiccati (A : Option Addr) (c : Nat) (l : List Int) (w : World) (hr : Kd.C (Kd.int .u8) w A l.length l) (hc : l.length ≤ c) (hl : Pure.Code l) : Calls Try.prog 29 #[.slice A l.length c] w (DrawOut w) := by
  have HR := Aside0.mk hr
  have HL := Aside0.mk hl
  clear hr hc hl
  go_enter Try.func29, Try.ntmps29
  go_wp2_with (first | ((with_reducible refine gate_dst (N := 12) rfl ?_); refine box_event ?hg (N := 12) ?hd (cs := #[.slice A l.length c, .int .i64 0, .int .u64 0]) (t := 57) ?hr ?_; (case hd => rfl); (case hg => rfl); (case hr => first | (go_simp; done) | (go_simp; rfl)); intro gb hg w4 hbox hb; have HC := Aside0.mk (show CurB w w4 gb 0 from ⟨l, 0, 0, ⟨A, c, hbox, by rw [hg]; exact Nat.le_refl _, HR.out⟩, HL.out, by omega, hb⟩); clear hbox hb hg))
  clear HR HL
  go_at_call 55
  refine (pickC _ (by exact HC.out) (by omega)).mono ?_
  rintro e w5 ⟨nn, rfl, hv, hc⟩
  have HV : Aside0 (-100 ≤ nn ∧ nn ≤ 100) := ⟨by have := hv.2.1 (by decide); omega⟩
  have HC5 := Aside0.mk hc
  clear hc hv HC
  go_wp2_with fail
  go_at_call 56
  refine (oneC 8 (by exact HC5.out) (by omega)).mono ?_
  rintro e w6 ⟨b1, rfl, hc⟩
  have HC6 := Aside0.mk hc
  clear hc HC5
  cases b1
  · have HC7 := Aside0.mk (HC6.out.more (show _ ≤ (50 : Int) by omega))
    clear HC6
    go_wp2_with fail
    go_at_call 58
    refine (soundC (by exact HC7.out) (by omega)).mono ?_
    rintro e w8 ⟨xa, rfl, hx, hc⟩
    have HXA := Aside0.mk hx
    have HC8 := Aside0.mk hc
    clear hx hc HC7
    go_wp2_with fail
    go_at_call 56
    refine (oneC 16 (by exact HC8.out) (by omega)).mono ?_
    rintro e w9 ⟨b2, rfl, hc⟩
    have HC9 := Aside0.mk (hc.more (show _ ≤ (100 : Int) by omega))
    clear hc HC8
    cases b2
    · go_wp2_with fail
      go_at_call 60
      refine (aboveC (by exact HC9.out) (by omega)).mono ?_
      rintro e wa ⟨xb, rfl, hx, hc⟩
      have HXB := Aside0.mk hx
      have HCA := Aside0.mk hc
      clear hx hc HC9
      go_wp2_with fail
      go_at_call 60
      refine (aboveC (by exact HCA.out) (by omega)).mono ?_
      rintro e wb ⟨xq, rfl, hx, hc⟩
      have HXQ := Aside0.mk hx
      have HCB := Aside0.mk hc
      clear hx hc HCA
      go_wp2_with fail
      go_at_call 60
      refine (aboveC (by exact HCB.out) (by omega)).mono ?_
      rintro e wc ⟨xr2, rfl, hx, hc⟩
      have HXR := Aside0.mk hx
      have HCC := Aside0.mk hc
      clear hx hc HCB
      go_wp2_with fail
      refine bodyPost_ret (v := .tuple #[.float .f64 xa, .float .f64 xb, .float .f64 xq, .float .f64 xr2, .int .i64 nn]) (by simp [results, Try.results29, go_sem]) rfl ?_
      exact ⟨_, xb, xq, xr2, nn, rfl, ⟨HXA.out, HXB.out, HXQ.out, HXR.out, HV.out⟩, HCC.out.bel⟩
    · go_wp2_with fail
      go_at_call 59
      refine (realC (by exact HC9.out) (by omega)).mono ?_
      rintro e w9r ⟨xr, rfl, hx, hc⟩
      clear HXA HC9
      have HXA := Aside0.mk hx
      have HC9 := Aside0.mk hc
      clear hx hc
      go_wp2_with fail
      go_at_call 60
      refine (aboveC (by exact HC9.out) (by omega)).mono ?_
      rintro e wa ⟨xb, rfl, hx, hc⟩
      have HXB := Aside0.mk hx
      have HCA := Aside0.mk hc
      clear hx hc HC9
      go_wp2_with fail
      go_at_call 60
      refine (aboveC (by exact HCA.out) (by omega)).mono ?_
      rintro e wb ⟨xq, rfl, hx, hc⟩
      have HXQ := Aside0.mk hx
      have HCB := Aside0.mk hc
      clear hx hc HCA
      go_wp2_with fail
      go_at_call 60
      refine (aboveC (by exact HCB.out) (by omega)).mono ?_
      rintro e wc ⟨xr2, rfl, hx, hc⟩
      have HXR := Aside0.mk hx
      have HCC := Aside0.mk hc
      clear hx hc HCB
      go_wp2_with fail
      refine bodyPost_ret (v := .tuple #[.float .f64 xr, .float .f64 xb, .float .f64 xq, .float .f64 xr2, .int .i64 nn]) (by simp [results, Try.results29, go_sem]) rfl ?_
      exact ⟨_, xb, xq, xr2, nn, rfl, ⟨HXA.out, HXB.out, HXQ.out, HXR.out, HV.out⟩, HCC.out.bel⟩
  · go_wp2_with (first | ((with_reducible refine gate_dst (N := 18) rfl ?_); refine Kd.R_lit (Kd.int .i64) _ 3 ?hg (N := 18) ?hd (xs := ([-1, 40, 41] : List Int)) (inner := [.int .i64 (-1), .int .i64 40, .int .i64 41]) (ok := fun k => k ≠ gb) (okp := fun _ => False) ?hr ?hp ?hok ?hfr (Below.refl _ _) (Nat.le_refl _) (by decide) ?_; (case hd => rfl); (case hg => rfl); (case hr => first | (go_simp; done) | (go_simp; rfl)); (case hp => exact (Reps.one (show Kd.M (Kd.int .i64) _ _ _ (-1) [.int .i64 (-1)] from rfl) (Reps.one (show Kd.M (Kd.int .i64) _ _ _ 40 [.int .i64 40] from rfl) (Reps.one (show Kd.M (Kd.int .i64) _ _ _ 41 [.int .i64 41] from rfl) (Reps.none _ _))))); (case hok => exact fun _ hk => hk.elim); (case hfr => exact Nat.ne_of_gt HC6.out.lt); intro v16 w4b ho hb hg_ hnew_; clear hg_ hnew_; have HO := Aside0.mk ho; have HC6b := Aside0.mk (HC6.out.below hb); clear hb ho))
    clear HC6
    obtain ⟨gs, co, eo, gb2, gl, cl, HG⟩ := Kd.R_form HO.out (by decide)
    subst eo
    have HNE : Aside0 (gs ≠ gb) := ⟨HO.out.1 gs (by simp [Value.ownBlock])⟩
    clear gb2 gl HG HV
    go_at_call 57
    refine (amongC _ _ [-1, 40, 41] (by exact HC6b.out) (by omega) (Kd.R_reads' HO.out).2.2 (Kd.R_reads' HO.out).2.1 (by intro ad e _; injection e with e; rw [← e]; exact HNE.out) (by decide)).mono ?_
    rintro e w7 ⟨nn, rfl, hm, hc⟩
    have HV : Aside0 (-100 ≤ nn ∧ nn ≤ 100) := ⟨by
      simp only [List.mem_cons, List.not_mem_nil, or_false] at hm
      rcases hm with rfl | rfl | rfl <;> decide⟩
    have HC7 := Aside0.mk (hc.more (show _ ≤ (50 : Int) by omega))
    clear hc hm HO HC6b HNE
    go_wp2_with fail
    go_at_call 58
    refine (soundC (by exact HC7.out) (by omega)).mono ?_
    rintro e w8 ⟨xa, rfl, hx, hc⟩
    have HXA := Aside0.mk hx
    have HC8 := Aside0.mk hc
    clear hx hc HC7
    go_wp2_with fail
    go_at_call 56
    refine (oneC 16 (by exact HC8.out) (by omega)).mono ?_
    rintro e w9 ⟨b2, rfl, hc⟩
    have HC9 := Aside0.mk (hc.more (show _ ≤ (100 : Int) by omega))
    clear hc HC8
    cases b2
    · go_wp2_with fail
      go_at_call 60
      refine (aboveC (by exact HC9.out) (by omega)).mono ?_
      rintro e wa ⟨xb, rfl, hx, hc⟩
      have HXB := Aside0.mk hx
      have HCA := Aside0.mk hc
      clear hx hc HC9
      go_wp2_with fail
      go_at_call 60
      refine (aboveC (by exact HCA.out) (by omega)).mono ?_
      rintro e wb ⟨xq, rfl, hx, hc⟩
      have HXQ := Aside0.mk hx
      have HCB := Aside0.mk hc
      clear hx hc HCA
      go_wp2_with fail
      go_at_call 60
      refine (aboveC (by exact HCB.out) (by omega)).mono ?_
      rintro e wc ⟨xr2, rfl, hx, hc⟩
      have HXR := Aside0.mk hx
      have HCC := Aside0.mk hc
      clear hx hc HCB
      go_wp2_with fail
      refine bodyPost_ret (v := .tuple #[.float .f64 xa, .float .f64 xb, .float .f64 xq, .float .f64 xr2, .int .i64 nn]) (by simp [results, Try.results29, go_sem]) rfl ?_
      exact ⟨_, xb, xq, xr2, nn, rfl, ⟨HXA.out, HXB.out, HXQ.out, HXR.out, HV.out⟩, HCC.out.bel⟩
    · go_wp2_with fail
      go_at_call 59
      refine (realC (by exact HC9.out) (by omega)).mono ?_
      rintro e w9r ⟨xr, rfl, hx, hc⟩
      clear HXA HC9
      have HXA := Aside0.mk hx
      have HC9 := Aside0.mk hc
      clear hx hc
      go_wp2_with fail
      go_at_call 60
      refine (aboveC (by exact HC9.out) (by omega)).mono ?_
      rintro e wa ⟨xb, rfl, hx, hc⟩
      have HXB := Aside0.mk hx
      have HCA := Aside0.mk hc
      clear hx hc HC9
      go_wp2_with fail
      go_at_call 60
      refine (aboveC (by exact HCA.out) (by omega)).mono ?_
      rintro e wb ⟨xq, rfl, hx, hc⟩
      have HXQ := Aside0.mk hx
      have HCB := Aside0.mk hc
      clear hx hc HCA
      go_wp2_with fail
      go_at_call 60
      refine (aboveC (by exact HCB.out) (by omega)).mono ?_
      rintro e wc ⟨xr2, rfl, hx, hc⟩
      have HXR := Aside0.mk hx
      have HCC := Aside0.mk hc
      clear hx hc HCB
      go_wp2_with fail
      refine bodyPost_ret (v := .tuple #[.float .f64 xr, .float .f64 xb, .float .f64 xq, .float .f64 xr2, .int .i64 nn]) (by simp [results, Try.results29, go_sem]) rfl ?_
      exact ⟨_, xb, xq, xr2, nn, rfl, ⟨HXA.out, HXB.out, HXQ.out, HXR.out, HV.out⟩, HCC.out.bel⟩
end Go.Proofs.Ytdcnlghcdmiciaa.Fl
