/-
Own text: sums of floats that give up, halved by the greatest power of two.
-/
import Derived.Test.YtdcnlghcdmiciaaFs2
import Derived.Test.YtdcnlghcdmiciaaFw6
import Derived.Test.YtdcnlghcdmiciaaWFoot
namespace Go.Proofs.Ytdcnlghcdmiciaa.Fl
open Go Ieee Go.RowKit Go.Proofs.YtdcnlghcdmiciaaW.PrintWords Go.Proofs.YtdcnlghcdmiciaaW.PrintLast Go.Proofs.Ytdcnlghcdmiciaa.Opn
set_option linter.unusedVariables false
set_option linter.unusedSimpArgs false
/-- The list that stands there, and what it stands for. -/
def Likes (l s : List Nat) : Prop := ∀ i, i < l.length → Like (l.getD i 0) (s.getD i 0)
def Fins (s : List Nat) : Prop := ∀ i, i < s.length → finB (s.getD i 0) = true
theorem getD_take {l : List Nat} {k i : Nat} (h : i < k) : (l.take k).getD i 0 = l.getD i 0 := by
  rw [List.getD_eq_getElem?_getD, List.getD_eq_getElem?_getD, List.getElem?_take, if_pos h]
theorem getD_drop {l : List Nat} {k i : Nat} : (l.drop k).getD i 0 = l.getD (k + i) 0 := by
  rw [List.getD_eq_getElem?_getD, List.getD_eq_getElem?_getD, List.getElem?_drop]
theorem Likes.take {l s : List Nat} (h : Likes l s) (k : Nat) : Likes (l.take k) (s.take k) := fun i hi => by
  rw [List.length_take] at hi
  rw [getD_take (by omega), getD_take (by omega)]
  exact h i (by omega)
theorem Likes.drop {l s : List Nat} (h : Likes l s) (k : Nat) : Likes (l.drop k) (s.drop k) := fun i hi => by
  rw [List.length_drop] at hi
  rw [getD_drop, getD_drop]
  exact h _ (by omega)
theorem Fins.take {s : List Nat} (h : Fins s) (k : Nat) : Fins (s.take k) := fun i hi => by
  rw [List.length_take] at hi
  rw [getD_take (by omega)]
  exact h i (by omega)
theorem Fins.drop {s : List Nat} (h : Fins s) (k : Nat) : Fins (s.drop k) := fun i hi => by
  rw [List.length_drop] at hi
  rw [getD_drop]
  exact h _ (by omega)
theorem or_no {a b : Bool} (h : (a || b) = false) : a = false := by
  cases a
  · rfl
  · cases h
theorem flag3 {fb : Bool} {x y : Nat} : (((fb || !finB x) || !finB y) || !finB (fop .add x y)) = (fb || !finB (fop .add x y)) := by
  cases fb
  · cases h : finB (fop .add x y)
    · simp
    · rw [fin_l (op := .add) (by simp) h, fin_r (op := .add) (by simp) h]; rfl
  · simp
def SumL (f : Nat) (s : List Nat) (g : Nat) (fb : Bool) (w : World) (e : Ending) (w' : World) : Prop := ∃ r, e = .returned (.float .f64 r) ∧ Like r (sumF f s) ∧ St w' g (fb || !finB (sumF f s)) ∧ Kp w w' g
set_option maxHeartbeats 4000000 in
set_option maxRecDepth 100000 in
theorem sumL : ∀ (f : Nat) (l s : List Nat) (A : Option Addr) (c g : Nat) (fb : Bool) (w : World), l.length < f → l.length = s.length → Likes l s → (fb = false → Fins s) → (∀ W', KeepBut w W' g none → flt.C W' A l.length l) → l.length ≤ c → l.length * 8 ≤ 140737488351232 → St w g fb →
    Calls Try.prog 50 #[.pointer (some ⟨g, 0, none⟩), .slice A l.length c] w (SumL f s g fb w)
  | 0, l, s, A, c, g, fb, w, hf, _, _, _, _, _, _, _ => absurd hf (Nat.not_lt_zero _)
  | f + 1, l, s, A, c, g, fb, w, hf, hls, hL, hF, hr, hc, hn, hst => by
    have ih := sumL f
    have IH := Aside0.mk ih
    have HR := Aside0.mk hr
    have HLS := Aside0.mk (And.intro hls (And.intro hL hF))
    have HC := Aside0.mk hc
    have HN := Aside0.mk hn
    have HFF := Aside0.mk hf
    have HST := Aside0.mk hst
    clear ih hr hc hn hf hls hL hF hst
    by_cases h0 : l.length = 0
    · have HS := Aside0.mk (sumF_0 (f := f) (l := s) (by have := HLS.out.1; omega))
      have HO : Aside0 (SumL (f + 1) s g fb w (.returned (.float .f64 0)) w) := ⟨0, rfl, by rw [HS.out]; exact ⟨by decide, by decide⟩, by rw [HS.out, show finB 0 = true from by decide]; simpa using HST.out, Kp.refl _ _⟩
      have h0' : ((l.length : Int) == 0) = true := by rw [h0]; rfl
      clear h0
      go_enter Try.func50, Try.ntmps50
      go_wp2_with fail
      go_ret
      exact HO.out
    have h0' : ((l.length : Int) == 0) = false := beq_eq_false_iff_ne.2 (by omega)
    by_cases h1 : l.length = 1
    · have HS := Aside0.mk (sumF_1 (f := f) (l := s) (by have := HLS.out.1; omega))
      obtain ⟨ad, rfl, hx⟩ := at_flt (HR.out w (KeepBut.refl _ _ _)) 0 (by omega)
      have hx0 := HLS.out.2.1 0 (by omega)
      have h1' : ((l.length : Int) == 1) = true := by rw [h1]; rfl
      have h1i : (0 : Int) < (l.length : Int) := by omega
      have h1n : 0 < l.length := by omega
      simp only [Addr.add_zero'] at hx
      have HO : Aside0 (SumL (f + 1) s g fb w (.returned (.float .f64 (l.getD 0 0))) w) := ⟨_, rfl, by rw [HS.out]; exact hx0, by
        rw [HS.out]
        cases fb
        · rw [HLS.out.2.2 rfl 0 (by have := HLS.out.1; omega)]; exact HST.out
        · exact HST.out, Kp.refl _ _⟩
      clear h0 h1 hx0
      generalize l.getD 0 0 = x at *
      go_enter Try.func50, Try.ntmps50
      go_wp2_with fail
      go_ret
      exact HO.out
    have h1' : ((l.length : Int) == 1) = false := beq_eq_false_iff_ne.2 (by omega)
    have H2 : Aside0 (2 ≤ l.length) := ⟨by omega⟩
    have HS := Aside0.mk (sumF_2 (f := f) (l := s) (by have := HLS.out.1; have := H2.out; omega))
    have HH := Aside0.mk (half_bounds H2.out)
    clear h0 h1
    have hlen : (l.length : Int) ≤ 17592186044416 := by have := HN.out; omega
    go_enter Try.func50, Try.ntmps50
    go_wp2_with fail
    go_loopg [5] l.length (fun m v5 wr => ∃ (k : Nat), v5 = .int .i64 (k : Int) ∧ wr = w ∧ Aside0 (1 ≤ k ∧ k < l.length ∧ l.length < k + m) ∧ Aside0 (halfGo m k l.length = half l.length))
    case atStart => exact ⟨1, rfl, rfl, ⟨by have := H2.out; omega⟩, ⟨rfl⟩⟩
    case round =>
      obtain ⟨k, rfl, rfl, HK, HG⟩ := hrel
      have hk0 : (0 : Int) ≤ (k : Int) := by omega
      have hk1 : (k : Int) ≤ (l.length : Int) := by have := HK.out; omega
      have hkb : (k : Int) ≤ 17592186044416 := by omega
      by_cases hlt : 2 * (k : Int) < (l.length : Int)
      · obtain ⟨m, rfl⟩ : ∃ m, gk = m + 1 := ⟨gk - 1, by have := HK.out; omega⟩
        have HG2 := Aside0.mk ((half_go (by omega)).symm.trans HG.out)
        go_wp2_with fail
        go_roundg m
        case measure => omega
        case rel => exact ⟨2 * k, by go_num, rfl, ⟨by have := HK.out; omega⟩, HG2⟩
      · have e : half l.length = k := by rw [← HG.out]; exact half_end (by omega)
        have HSK : Aside0 (sumF (f + 1) s = fop .add (sumF f (s.take k)) (sumF f (s.drop k))) := ⟨by rw [HS.out, ← HLS.out.1, e]⟩
        have HS1 : Aside0 ((l.take k).length = (s.take k).length ∧ Likes (l.take k) (s.take k) ∧ (fb = false → Fins (s.take k))) := ⟨by rw [List.length_take, List.length_take, HLS.out.1], HLS.out.2.1.take k, fun h => (HLS.out.2.2 h).take k⟩
        have HS2 : Aside0 ((l.drop k).length = (s.drop k).length ∧ Likes (l.drop k) (s.drop k) ∧ (fb = false → Fins (s.drop k))) := ⟨by rw [List.length_drop, List.length_drop, HLS.out.1], HLS.out.2.1.drop k, fun h => (HLS.out.2.2 h).drop k⟩
        clear HG HH e HS HLS
        have hll : ((l.take k).length < f ∧ (l.take k).length ≤ c ∧ (l.take k).length * 8 ≤ 140737488351232 ∧ (l.drop k).length < f ∧ (l.drop k).length ≤ c - k ∧ (l.drop k).length * 8 ≤ 140737488351232) := by
          have := HK.out; have := HC.out; have := HN.out; have := HFF.out
          rw [List.length_take, List.length_drop, Nat.min_eq_left (by omega)]; omega
        have cl := fun W' hk => Kd.C_take (HR.out W' hk) (m := k) (by have := HK.out; omega)
        have cr := fun W' hk => Kd.C_drop (HR.out W' hk) (m := k) (c := c) (by have := HK.out; omega) HC.out
        have hcc : (l.length : Int) ≤ (c : Int) := by have := HC.out; omega
        have hkc : k ≤ c := by omega
        have hkl : k ≤ l.length := by omega
        have i1 := IH.out (l.take k) (s.take k) A c g fb
        have i2 := IH.out (l.drop k) (s.drop k) (if c = k then A else A.map (fun x => x.add k)) (c - k) g (fb || !finB (sumF f (s.take k)))
        have hs1 := HS1.out
        have hs2 := HS2.out
        have hT : (l.take k).length = k := by rw [List.length_take]; omega
        have hD : (l.drop k).length = l.length - k := List.length_drop
        rw [show k * flt.sz = k from Nat.mul_one k] at cr
        rw [hT] at i1 hll hs1
        rw [hD] at i2 hll hs2
        have CL : Aside0 (∀ W', KeepBut wr W' g none → flt.C W' A k (l.take k)) := ⟨fun W' hk => by have := cl W' hk; rw [hT] at this; exact this⟩
        have CR : Aside0 (∀ W', KeepBut wr W' g none → flt.C W' (if c = k then A else A.map (fun x => x.add k)) (l.length - k) (l.drop k)) := ⟨fun W' hk => by have := cr W' hk; rw [hD] at this; exact this⟩
        have HL := Aside0.mk hll
        have I1 := Aside0.mk i1
        have I2 := Aside0.mk i2
        clear hll i1 i2 cl cr hT hD HS1 HS2
        have HS1 := Aside0.mk hs1
        have HS2 := Aside0.mk hs2
        clear hs1 hs2
        go_wp2_with fail
        refine start_ (n := 13) (S := fun _ => True) (ds := []) #[false, false, false, false, false, false, false, false, false, false, false, false, false] (by kernel_rfl) rfl rfl trivial (fun hHeld => ?_)
        refine pure_ (i := 0) (N := some 22) (v := ?_) (a' := ?_) #[true, false, false, false, false, false, false, false, false, false, false, false, false] rfl rfl (by kernel_rfl) (fun _ _ _ h => h) (Or.inl ⟨by rfl, ?_⟩) ?_ ?_
        rotate_left
        · intro w'
          go_simp
          with_reducible rfl
        rotate_left
        · simp only [Act.put, List.setIfInBounds_toArray, List.set_cons_zero, List.set_cons_succ]
          rfl
        refine pure_ (i := 1) (N := some 23) (v := ?_) (a' := ?_) #[true, true, false, false, false, false, false, false, false, false, false, false, false] rfl rfl (by kernel_rfl) (fun _ _ _ h => h) (Or.inl ⟨by rfl, ?_⟩) ?_ ?_
        rotate_left
        · intro w'
          go_simp
          with_reducible rfl
        rotate_left
        · simp only [Act.put, List.setIfInBounds_toArray, List.set_cons_zero, List.set_cons_succ]
          rfl
        refine pure_ (i := 2) (N := some 24) (v := ?_) (a' := ?_) #[true, true, true, false, false, false, false, false, false, false, false, false, false] rfl rfl (by kernel_rfl) (fun _ _ _ h => h) (Or.inl ⟨by rfl, ?_⟩) ?_ ?_
        rotate_left
        · intro w'
          go_simp
          with_reducible rfl
        rotate_left
        · simp only [Act.put, List.setIfInBounds_toArray, List.set_cons_zero, List.set_cons_succ]
          rfl
        refine pure_ (i := 3) (N := some 25) (v := ?_) (a' := ?_) #[true, true, true, true, false, false, false, false, false, false, false, false, false] rfl rfl (by kernel_rfl) (fun _ _ _ h => h) (Or.inl ⟨by rfl, ?_⟩) ?_ ?_
        rotate_left
        · intro w'
          go_simp
          with_reducible rfl
        rotate_left
        · simp only [Act.put, List.setIfInBounds_toArray, List.set_cons_zero, List.set_cons_succ]
          rfl
        refine pure_ (i := 4) (N := some 26) (v := ?_) (a' := ?_) #[true, true, true, true, true, false, false, false, false, false, false, false, false] rfl rfl (by kernel_rfl) (fun _ _ _ h => h) (Or.inl ⟨by rfl, ?_⟩) ?_ ?_
        rotate_left
        · intro w'
          go_simp
          with_reducible rfl
        rotate_left
        · simp only [Act.put, List.setIfInBounds_toArray, List.set_cons_zero, List.set_cons_succ]
          rfl
        refine pure_ (i := 6) (N := some 28) (v := ?_) (a' := ?_) #[true, true, true, true, true, false, true, false, false, false, false, false, false] rfl rfl (by kernel_rfl) (fun _ _ _ h => h) (Or.inl ⟨by rfl, ?_⟩) ?_ ?_
        rotate_left
        · intro w'
          go_simp
          with_reducible rfl
        rotate_left
        · simp only [Act.put, List.setIfInBounds_toArray, List.set_cons_zero, List.set_cons_succ]
          rfl
        refine pure_ (i := 7) (N := some 29) (v := ?_) (a' := ?_) #[true, true, true, true, true, false, true, true, false, false, false, false, false] rfl rfl (by kernel_rfl) (fun _ _ _ h => h) (Or.inl ⟨by rfl, ?_⟩) ?_ ?_
        rotate_left
        · intro w'
          go_simp
          with_reducible rfl
        rotate_left
        · simp only [Act.put, List.setIfInBounds_toArray, List.set_cons_zero, List.set_cons_succ]
          rfl
        refine pure_ (i := 8) (N := some 30) (v := ?_) (a' := ?_) #[true, true, true, true, true, false, true, true, true, false, false, false, false] rfl rfl (by kernel_rfl) (fun _ _ _ h => h) (Or.inl ⟨by rfl, ?_⟩) ?_ ?_
        rotate_left
        · intro w'
          go_simp
          with_reducible rfl
        rotate_left
        · simp only [Act.put, List.setIfInBounds_toArray, List.set_cons_zero, List.set_cons_succ]
          rfl
        refine pure_ (i := 9) (N := some 31) (v := ?_) (a' := ?_) #[true, true, true, true, true, false, true, true, true, true, false, false, false] rfl rfl (by kernel_rfl) (fun _ _ _ h => h) (Or.inl ⟨by rfl, ?_⟩) ?_ ?_
        rotate_left
        · intro w'
          go_simp
          with_reducible rfl
        rotate_left
        · simp only [Act.put, List.setIfInBounds_toArray, List.set_cons_zero, List.set_cons_succ]
          rfl
        refine one_ (i := 5) (N := some 27) #[true, true, true, true, true, true, true, true, true, true, false, false, false] rfl rfl (by kernel_rfl) (by decide) (fun K hK => ?_)
        refine goes_ Try.func50 (by kernel_rfl) rfl #[.pointer (some ⟨g, 0, none⟩), .slice A k c] (by rfl) rfl rfl (by simp only [List.map_toArray, List.map_cons, List.map_nil]; rfl) ?_
        refine (I1.out _ ?a1 ?a2 ?a3 ?a4 ?a5 ?a6 ?a7 ?a8).mono ?_
        case a1 => exact HL.out.1
        case a2 => exact HS1.out.1
        case a3 => exact HS1.out.2.1
        case a4 => exact HS1.out.2.2
        case a5 => exact fun W' hk => CL.out W' hk
        case a6 => exact HL.out.2.1
        case a7 => exact HL.out.2.2.1
        case a8 => exact HST.out
        rintro e w1 ⟨x1, rfl, l1, s1, k1⟩
        have L1 := Aside0.mk l1
        have S1 := Aside0.mk s1
        have K1 := Aside0.mk (show Kp wr w1 g from ⟨k1.os, k1.tape, k1.output, k1.keep⟩)
        clear l1 s1 k1
        refine ⟨_, rfl, ?_⟩
        refine hK.out _ _ trivial (fun hHeld => ?_)
        clear hK K
        refine norm_ (a' := ?_) ?_ ?_
        rotate_left
        · show Act.put _ (some 27) _ = _
          simp only [Act.put, List.setIfInBounds_toArray, List.set_cons_zero, List.set_cons_succ]
          rfl
        refine one_ (i := 10) (N := some 32) #[true, true, true, true, true, true, true, true, true, true, true, false, false] rfl rfl (by kernel_rfl) (by decide) (fun K hK => ?_)
        refine goes_ Try.func50 (by kernel_rfl) rfl #[.pointer (some ⟨g, 0, none⟩), .slice (if c = k then A else A.map (fun x => x.add k)) (l.length - k) (c - k)] (by rfl) rfl rfl (by simp only [List.map_toArray, List.map_cons, List.map_nil]; rfl) ?_
        refine (I2.out _ ?b1 ?b2 ?b3 ?b4 ?b5 ?b6 ?b7 ?b8).mono ?_
        case b1 => exact HL.out.2.2.2.1
        case b2 => exact HS2.out.1
        case b3 => exact HS2.out.2.1
        case b4 => exact fun h => HS2.out.2.2 (or_no h)
        case b5 => exact fun W' hk => CR.out W' (K1.out.keep.trans hk (.inl rfl))
        case b6 => exact HL.out.2.2.2.2.1
        case b7 => exact HL.out.2.2.2.2.2
        case b8 => exact S1.out
        rintro e w2 ⟨x2, rfl, l2, s2, k2⟩
        have L2 := Aside0.mk l2
        have S2 := Aside0.mk s2
        have K2 := Aside0.mk (K1.out.trans k2)
        clear l2 s2 k2
        refine ⟨_, rfl, ?_⟩
        refine hK.out _ _ trivial (fun hHeld => ?_)
        clear hK K
        refine norm_ (a' := ?_) ?_ ?_
        rotate_left
        · show Act.put _ (some 32) _ = _
          simp only [Act.put, List.setIfInBounds_toArray, List.set_cons_zero, List.set_cons_succ]
          rfl
        refine one_ (i := 11) (N := some 33) #[true, true, true, true, true, true, true, true, true, true, true, true, false] rfl rfl (by kernel_rfl) (by decide) (fun K hK => ?_)
        refine goes_ Try.func40 (by kernel_rfl) rfl #[.pointer (some ⟨g, 0, none⟩), .float .f64 x1, .float .f64 x2] (by rfl) rfl rfl (by simp only [List.map_toArray, List.map_cons, List.map_nil]; rfl) ?_
        refine (addL _ (by exact S2.out) L1.out L2.out).mono ?_
        rintro e w3 ⟨x3, rfl, l3, s3, k3⟩
        have L3 := Aside0.mk l3
        have S3 := Aside0.mk s3
        have K3 := Aside0.mk (K2.out.trans k3)
        clear l3 s3 k3
        refine ⟨_, rfl, ?_⟩
        refine hK.out _ _ trivial (fun hHeld => ?_)
        clear hK K
        refine norm_ (a' := ?_) ?_ ?_
        rotate_left
        · show Act.put _ (some 33) _ = _
          simp only [Act.put, List.setIfInBounds_toArray, List.set_cons_zero, List.set_cons_succ]
          rfl
        refine pure_ (i := 12) (N := some 4) (v := ?_) (a' := ?_) #[true, true, true, true, true, true, true, true, true, true, true, true, true] rfl rfl (by kernel_rfl) (fun _ _ _ h => h) (Or.inl ⟨by rfl, ?_⟩) ?_ ?_
        rotate_left
        · intro w'
          go_simp
          with_reducible rfl
        rotate_left
        · simp only [Act.put, List.setIfInBounds_toArray, List.set_cons_zero, List.set_cons_succ]
          rfl
        refine done_ (by kernel_rfl) ?_
        go_wp2_with fail
        all_goals
          go_ret
          exact ⟨_, rfl, by rw [HSK.out]; exact L3.out, by rw [HSK.out, ← flag3]; exact S3.out, K3.out⟩
end Go.Proofs.Ytdcnlghcdmiciaa.Fl
