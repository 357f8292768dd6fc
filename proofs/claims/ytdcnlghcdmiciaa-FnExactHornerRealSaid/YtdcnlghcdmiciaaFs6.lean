/-
Own text: products of floats, summed: in the reference.
-/
import Derived.Test.YtdcnlghcdmiciaaFs4
namespace Go.Proofs.Ytdcnlghcdmiciaa.Fl
open Go Ieee Go.RowKit Go.Proofs.YtdcnlghcdmiciaaW.PrintWords Go.Proofs.YtdcnlghcdmiciaaW.PrintLast Go.Proofs.Ytdcnlghcdmiciaa.Opn
set_option linter.unusedVariables false
set_option linter.unusedSimpArgs false
attribute [local go_sem] run_store_float
theorem run_fmul_op {P : Program} {a : Act} {o : Oper} {x y : Nat} {p q : Operand} {t t' : TypeId} (ho : o.op = .binOp .mul t p q t') (hp : a.eval p = .float .f64 x) (hq : a.eval q = .float .f64 y) (w : World) : (execOp a.eval o).run P w = .ok (.value (.float .f64 (fv .mul w x y))) (w.drewN (fc .mul x y)) := by
  unfold execOp
  rw [ho]
  simp only [hp, hq]
  show (Sem.run P ((do pure (); binOp .mul t (.float .f64 x) (.float .f64 y)) >>= fun v => pure (Next.value v)) w) = _
  simp only [go_sem] at *
  rw [Sem.run_bind, run_fmul]
  rfl
theorem skip_step {P : Program} {ops : Array Oper} {o : Oper} {a : Act} {Q : Exit → Act → World → Prop} {Kc : Act → World → Prop} {W w1 : World} (hw : Region.wanted o (yielded ops a.tmps) = true) (hN : o.dst = none) (hrun : (execOp a.eval o).run P W = .ok .skip w1) (h : Kc a w1) : if Region.wanted o (yielded ops a.tmps) = true then Oper.wp P o a W Kc Q else Kc (a.put none undef) W := by
  rw [if_pos hw]
  unfold Oper.wp
  rw [hrun]
  show Kc (a.put o.dst undef) w1
  rw [hN]
  exact h
/-- The products, one by one. -/
def prods (a b : List Nat) : List Nat := (List.range a.length).map fun i => fop .mul (a.getD i 0) (b.getD i 0)
theorem prods_len (a b : List Nat) : (prods a b).length = a.length := by unfold prods; rw [List.length_map, List.length_range]
theorem prods_get {a b : List Nat} {i : Nat} (h : i < a.length) : (prods a b).getD i 0 = fop .mul (a.getD i 0) (b.getD i 0) := by
  unfold prods
  rw [List.getD_eq_getElem?_getD, List.getElem?_map, List.getElem?_range h]
  rfl
def dotS (a b : List Nat) : Nat := sumF (a.length + 1) (prods a b)
theorem bits_prods (a b : List Nat) : Bits (prods a b) := by
  intro x hx
  obtain ⟨i, _, rfl⟩ := List.mem_map.1 hx
  exact fop_lt _ _ _
theorem dotS_lt (a b : List Nat) : dotS a b < 18446744073709551616 := sumF_lt _ _ (bits_prods a b)
/-- As far as k the products stand there. -/
def Upto (a b z : List Nat) (k : Nat) : Prop := z.length = a.length ∧ Bits z ∧ ∀ i, i < k → ab (z.getD i 0) = fop .mul (a.getD i 0) (b.getD i 0)
theorem upto_step {a b z : List Nat} {k r : Nat} (h : Upto a b z k) (hk : k < a.length) (hr : r < 18446744073709551616) (hv : ab r = fop .mul (a.getD k 0) (b.getD k 0)) : Upto a b (z.set k r) (k + 1) := by
  refine ⟨by rw [List.length_set]; exact h.1, fun x hx => ?_, fun i hi => ?_⟩
  · rcases List.mem_or_eq_of_mem_set hx with hx | rfl
    · exact h.2.1 x hx
    · exact hr
  · by_cases e : i = k
    · subst e
      rw [List.getD_eq_getElem?_getD, List.getElem?_set_self (by rw [h.1]; exact hk)]
      exact hv
    · rw [List.getD_eq_getElem?_getD, List.getElem?_set_ne (Ne.symm e), ← List.getD_eq_getElem?_getD]
      exact h.2.2 i (by omega)
theorem upto_end {a b z : List Nat} (h : Upto a b z a.length) : z.map ab = (prods a b).map ab := by
  refine List.ext_getElem? fun i => ?_
  by_cases hi : i < a.length
  · have h1 := h.2.2 i hi
    rw [List.getD_eq_getElem?_getD, List.getElem?_eq_getElem (by rw [h.1]; exact hi)] at h1
    have h2 := prods_get (b := b) hi
    rw [List.getD_eq_getElem?_getD, List.getElem?_eq_getElem (by rw [prods_len]; exact hi)] at h2
    rw [List.getElem?_map, List.getElem?_map, List.getElem?_eq_getElem (by rw [h.1]; exact hi), List.getElem?_eq_getElem (by rw [prods_len]; exact hi)]
    simp only [Option.map_some, Option.getD_some] at h1 h2 ⊢
    rw [h1, h2, fop_ab_]
  · rw [List.getElem?_eq_none (by rw [List.length_map, h.1]; omega), List.getElem?_eq_none (by rw [List.length_map, prods_len]; omega)]
theorem bits_zero (n : Nat) : Bits (List.replicate n 0) := fun x hx => by rw [List.eq_of_mem_replicate hx]; decide
def DotOut (a b : List Nat) (w : World) (e : Ending) (w' : World) : Prop := ∃ r, e = .returned (.float .f64 r) ∧ (r < 18446744073709551616 ∧ ab r = ab (dotS a b)) ∧ Below w.heap.size w w'
set_option maxHeartbeats 4000000 in
set_option maxRecDepth 100000 in
theorem l2Dot (A B : Option Addr) (ca cb : Nat) (a b : List Nat) (w : World) (hA : flt.C w A a.length a) (hB : flt.C w B b.length b) (hca : a.length ≤ ca) (hcb : b.length ≤ cb) (hl : a.length = b.length) (hn : a.length * 8 ≤ 140737488351232) :
    Calls Try.prog 51 #[.slice A a.length ca, .slice B b.length cb] w (DotOut a b w) := by
  have HA := Aside0.mk hA
  have HBB := Aside0.mk hB
  have HL := Aside0.mk hl
  have HN := Aside0.mk hn
  clear hA hB hl hn hca hcb
  have hlen : (a.length : Int) ≤ 17592186044416 := by have := HN.out; omega
  go_enter Try.func51, Try.ntmps51
  go_wp2_with (first | ((with_reducible refine gate_dst (N := 9) rfl ?_); refine Kd.R_make flt _ 22 rfl (N := 9) rfl 31 _ _ rfl (a.length : Int) rfl rfl Try.underlying31 (.float .f64 0) 8 info22 rfl (by decide) (by omega) 0 (ok := fun _ => True) (okp := fun _ => True) rfl (fun _ hk => hk) trivial (by omega) (by have := HN.out; omega) (Below.refl _ _) (Nat.le_refl _) ?_; intro v w4 ho hb hg_ hnew_; clear hg_ hnew_; have HO := Aside0.mk ho; have HB := Aside0.mk hb; clear hb ho))
  go_loopg [12] a.length (fun m v4 wr => ∃ (k : Nat) (z : List Nat), v4 = .int .i64 (k : Int) ∧ Aside0 (k + m = a.length) ∧ Aside0 (Upto a b z k) ∧ Aside0 (flt.R 22 wr w.heap.size (fun _ => True) v z) ∧ Aside0 (Below w.heap.size w wr))
  case atStart => exact ⟨0, List.replicate (a.length : Int).toNat 0, rfl, ⟨Nat.zero_add _⟩, ⟨by rw [List.length_replicate]; rfl, bits_zero _, fun i hi => absurd hi (Nat.not_lt_zero i)⟩, HO, HB⟩
  case round =>
    clear HO HB
    obtain ⟨k, z, rfl, HK, HU, HO, HB⟩ := hrel
    by_cases hlt : k < a.length
    · have hltb : k < b.length := by have := HL.out; omega
      obtain ⟨adA, rfl, hxa⟩ := at_flt HA.out k hlt
      obtain ⟨adB, rfl, hxb⟩ := at_flt HBB.out k hltb
      replace hxa := (HB.out.cell (World.block_lt_of_cell? w _ hxa)).trans hxa
      replace hxb := (HB.out.cell (World.block_lt_of_cell? w _ hxb)).trans hxb
      have hlt2 : (k : Int) < (a.length : Int) := by omega
      have hlt3 : (k : Int) < (b.length : Int) := by omega
      have hlt4 : (k : Int) < (z.length : Int) := by have := HU.out.1; omega
      have hk0 : (0 : Int) ≤ (k : Int) := by omega
      have hltz : k < z.length := by have := HU.out.1; omega
      obtain ⟨g, co, eo, gb, gl, cl, HG⟩ := Kd.R_form HO.out (by omega)
      subst eo
      have GB := Aside0.mk gb
      clear gb gl HG
      obtain ⟨hp0, hpf⟩ := Kd.R_celln 0 HO.out (k : Int) (by omega) hlt4
      simp only [Int.toNat_natCast] at hp0 hpf
      have HST := Aside0.mk (fun r hr hv => upto_step HU.out hlt (r := r) hr hv)
      have HP := Aside0.mk (fun r => Kd.R_putg HO.out (k : Int) r)
      generalize a.getD k 0 = x at *
      generalize b.getD k 0 = y at *
      go_wp2_with fail
      refine start_ (n := 13) (S := fun w' => w'.cell? (adA.add k) = some (.float .f64 x) ∧ w'.cell? (adB.add k) = some (.float .f64 y)) (ds := [12]) #[false, false, false, false, false, false, false, false, false, false, false, false, false] (by kernel_rfl) rfl rfl ⟨hxa, hxb⟩ (fun hHeld => ?_)
      refine pure_ (i := 0) (N := some 15) (v := ?_) (a' := ?_) #[true, false, false, false, false, false, false, false, false, false, false, false, false] rfl rfl (by kernel_rfl) (fun _ _ _ h => h) (Or.inl ⟨by rfl, ?_⟩) ?_ ?_
      rotate_left
      · intro w'
        go_simp
        with_reducible rfl
      rotate_left
      · simp only [Act.put, List.setIfInBounds_toArray, List.set_cons_zero, List.set_cons_succ]
        rfl
      refine pure_ (i := 1) (N := some 16) (v := ?_) (a' := ?_) #[true, true, false, false, false, false, false, false, false, false, false, false, false] rfl rfl (by kernel_rfl) (fun _ _ _ h => h) (Or.inl ⟨by rfl, ?_⟩) ?_ ?_
      rotate_left
      · intro w'
        go_simp
        with_reducible rfl
      rotate_left
      · simp only [Act.put, List.setIfInBounds_toArray, List.set_cons_zero, List.set_cons_succ]
        rfl
      refine pure_ (i := 2) (N := some 17) (v := ?_) (a' := ?_) #[true, true, true, false, false, false, false, false, false, false, false, false, false] rfl rfl (by kernel_rfl) (fun _ _ _ h => h) (Or.inl ⟨by rfl, ?_⟩) ?_ ?_
      rotate_left
      · intro w'
        go_simp
        with_reducible rfl
      rotate_left
      · simp only [Act.put, List.setIfInBounds_toArray, List.set_cons_zero, List.set_cons_succ]
        rfl
      refine pure_ (i := 3) (N := some 18) (v := ?_) (a' := ?_) #[true, true, true, true, false, false, false, false, false, false, false, false, false] rfl rfl (by kernel_rfl) (fun _ _ _ h => h) (Or.inl ⟨by rfl, ?_⟩) ?_ ?_
      rotate_left
      · intro w'
        go_simp
        with_reducible rfl
      rotate_left
      · simp only [Act.put, List.setIfInBounds_toArray, List.set_cons_zero, List.set_cons_succ]
        rfl
      refine pure_ (i := 4) (N := some 19) (v := ?_) (a' := ?_) #[true, true, true, true, true, false, false, false, false, false, false, false, false] rfl rfl (by kernel_rfl) (fun _ _ _ h => h) (Or.inl ⟨by rfl, ?_⟩) ?_ ?_
      rotate_left
      · intro w'
        go_simp
        with_reducible rfl
      rotate_left
      · simp only [Act.put, List.setIfInBounds_toArray, List.set_cons_zero, List.set_cons_succ]
        rfl
      refine pure_ (i := 6) (N := some 21) (v := ?_) (a' := ?_) #[true, true, true, true, true, false, true, false, false, false, false, false, false] rfl rfl (by kernel_rfl) (fun _ _ _ h => h) (Or.inl ⟨by rfl, ?_⟩) ?_ ?_
      rotate_left
      · intro w'
        go_simp
        with_reducible rfl
      rotate_left
      · simp only [Act.put, List.setIfInBounds_toArray, List.set_cons_zero, List.set_cons_succ]
        rfl
      refine pure_ (i := 7) (N := some 22) (v := ?_) (a' := ?_) #[true, true, true, true, true, false, true, true, false, false, false, false, false] rfl rfl (by kernel_rfl) (fun _ _ _ h => h) (Or.inl ⟨by rfl, ?_⟩) ?_ ?_
      rotate_left
      · intro w'
        go_simp
        with_reducible rfl
      rotate_left
      · simp only [Act.put, List.setIfInBounds_toArray, List.set_cons_zero, List.set_cons_succ]
        rfl
      refine pure_ (i := 8) (N := some 23) (v := ?_) (a' := ?_) #[true, true, true, true, true, false, true, true, true, false, false, false, false] rfl rfl (by kernel_rfl) (fun _ _ _ h => h) (Or.inl ⟨by rfl, ?_⟩) ?_ ?_
      rotate_left
      · intro w'
        go_simp
        with_reducible rfl
      rotate_left
      · simp only [Act.put, List.setIfInBounds_toArray, List.set_cons_zero, List.set_cons_succ]
        rfl
      refine take_ (i := 5) (N := some 20) (v := ?_) (a' := ?_) #[true, true, true, true, true, true, true, true, true, false, false, false, false] rfl rfl (by kernel_rfl) (fun _ _ _ h => h) (Or.inl ⟨by rfl, ?_⟩) hHeld ?_ ?_
      rotate_left
      · rintro w' ⟨s0, s1⟩
        go_simp
        with_reducible rfl
      rotate_left
      · simp only [Act.put, List.setIfInBounds_toArray, List.set_cons_zero, List.set_cons_succ]
        rfl
      refine take_ (i := 9) (N := some 24) (v := ?_) (a' := ?_) #[true, true, true, true, true, true, true, true, true, true, false, false, false] rfl rfl (by kernel_rfl) (fun _ _ _ h => h) (Or.inl ⟨by rfl, ?_⟩) hHeld ?_ ?_
      rotate_left
      · rintro w' ⟨s0, s1⟩
        go_simp
        with_reducible rfl
      rotate_left
      · simp only [Act.put, List.setIfInBounds_toArray, List.set_cons_zero, List.set_cons_succ]
        rfl
      refine one_ (i := 10) (N := some 25) #[true, true, true, true, true, true, true, true, true, true, true, false, false] rfl rfl (by kernel_rfl) (by decide) (fun K hK => ?_)
      refine event_step (by rfl) (run_fmul_op (by rfl) (by rfl) (by rfl) _) ?_
      refine hK.out _ _ ⟨hxa, hxb⟩ (fun hHeld => ?_)
      clear hK K
      refine norm_ (a' := ?_) ?_ ?_
      rotate_left
      · show Act.put _ (some 25) _ = _
        simp only [Act.put, List.setIfInBounds_toArray, List.set_cons_zero, List.set_cons_succ]
        rfl
      refine pure_ (i := 11) (N := some 26) (v := ?_) (a' := ?_) #[true, true, true, true, true, true, true, true, true, true, true, true, false] rfl rfl (by kernel_rfl) (fun _ _ _ h => h) (Or.inl ⟨by rfl, ?_⟩) ?_ ?_
      rotate_left
      · intro w'
        go_simp
        with_reducible rfl
      rotate_left
      · simp only [Act.put, List.setIfInBounds_toArray, List.set_cons_zero, List.set_cons_succ]
        rfl
      have hp0' : (wr.drew.drewN (fc .mul x y)).cell? ⟨g, k, none⟩ = some (.float .f64 (rdOf 0 z (k : Int))) := hp0
      have hpf' : (wr.drew.drewN (fc .mul x y)).frozen? ⟨g, k, none⟩ = false := hpf
      refine last_ (i := 12) (N := none) #[true, true, true, true, true, true, true, true, true, true, true, true, true] rfl rfl (by kernel_rfl) (by decide) (fun K hK => ?_)
      refine skip_step (w1 := ((wr.drew.drewN (fc .mul x y)).setCell ⟨g, k, none⟩ (.float .f64 (fv .mul wr.drew x y)))) (by rfl) rfl ?hr ?_
      case hr => first | (go_simp; done) | (go_simp; rfl)
      refine hK.out _ _ ?_
      clear hK K
      refine done_ (by kernel_rfl) ?_
      have e1 := HST.out (fv .mul wr.drew x y) (fv_lt _ _ _ _) (fv_ab _ _ _ _)
      have hR := (Kd.R_putg (Kd.R_drewN (Kd.R_drew HO.out) (fc .mul x y)) (k : Int) (fv .mul wr.drew x y))
      have hB : Below w.heap.size w ((wr.drew.drewN (fc .mul x y)).setCell ⟨g, k, none⟩ (.float .f64 (fv .mul wr.drew x y))) := below_set (pw_below_drewN (below_drew HB.out) _) GB.out
      have HU2 := Aside0.mk e1
      have HO2 := Aside0.mk (show flt.R 22 ((wr.drew.drewN (fc .mul x y)).setCell ⟨g, k, none⟩ (.float .f64 (fv .mul wr.drew x y))) w.heap.size (fun _ => True) (.slice (some ⟨g, 0, none⟩) z.length co) (z.set k (fv .mul wr.drew x y)) from hR.1)
      have HB2 := Aside0.mk hB
      clear e1 hR hB HO HB HP HST hp0 hpf hp0' hpf'
      generalize (wr.drew.drewN (fc .mul x y)).setCell ⟨g, k, none⟩ (.float .f64 (fv .mul wr.drew x y)) = W2 at *
      generalize fv .mul wr.drew x y = r at *
      go_wp2_with fail
      go_roundg (a.length - (k + 1))
      case measure => have := HK.out; omega
      case rel => exact ⟨k + 1, _, by go_num, ⟨by omega⟩, HU2, HO2, HB2⟩
    · have e : k = a.length := by have := HK.out; omega
      subst e
      obtain ⟨A2, c2, rfl⟩ := Kd.R_slice HO.out
      have hz : z.length = a.length := HU.out.1
      have HS := Aside0.mk (l2Sum (z.length + 1) z A2 c2 wr (by omega) (Kd.R_reads' HO.out).2.2 (Kd.R_reads' HO.out).2.1 (by have := HN.out; omega) HU.out.2.1)
      have HD : Aside0 (ab (sumF (z.length + 1) z) = ab (dotS a b)) := ⟨by rw [hz]; exact sumF_ab _ _ _ (upto_end HU.out)⟩
      clear hz
      go_wp2_with (go_at_call 49; refine (HS.out).mono ?_; rintro e w' ⟨r, rfl, hr, m, rfl⟩; have HRR := Aside0.mk hr; clear hr)
      go_ret
      exact ⟨_, rfl, ⟨HRR.out.1, HRR.out.2.trans HD.out⟩, pw_below_drewN HB.out _⟩
end Go.Proofs.Ytdcnlghcdmiciaa.Fl
