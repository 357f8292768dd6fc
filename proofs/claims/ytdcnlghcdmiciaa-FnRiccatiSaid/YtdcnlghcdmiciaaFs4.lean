/-
Own text: SumReals, in the program and in the reference; the law.
-/
import Derived.Test.YtdcnlghcdmiciaaFs3
namespace Go.Proofs.Ytdcnlghcdmiciaa.Fl
open Go Ieee Go.RowKit Go.Proofs.YtdcnlghcdmiciaaW.PrintWords Go.Proofs.YtdcnlghcdmiciaaW.PrintLast Go.Proofs.Ytdcnlghcdmiciaa.Opn
set_option linter.unusedVariables false
set_option linter.unusedSimpArgs false
theorem heap_flt : Kd.Heap flt := ⟨fun _ h => h⟩
theorem nan_no {x : Nat} (h : finB x = true) : nanB x = false := by
  cases hn : nanB x with
  | false => rfl
  | true => have := fin_of_nan hn; rw [h] at this; cases this
theorem fin_eq_ab {x y : Nat} (h : ab x = ab y) : finB x = finB y := by rw [← fin_ab x, h, fin_ab]
theorem told_ab {x y : Nat} (h : ab x = ab y) : told x = told y := by
  have hf := fin_eq_ab h
  unfold told
  rw [hf]
  cases hy : finB y with
  | false => rfl
  | true =>
    rw [hy] at hf
    rw [ab_of (nan_no hf), ab_of (nan_no hy)] at h
    rw [h]
theorem sumF_lt : ∀ (f : Nat) (l : List Nat), Bits l → sumF f l < 18446744073709551616
  | 0, l, _ => (by decide : 0 < 18446744073709551616)
  | f + 1, l, h => by
    unfold sumF
    split
    · decide
    · split
      · exact h.get 0
      · exact fop_lt _ _ _
def sumS (l : List Nat) : Nat := sumF (l.length + 1) l
def sumsR (l : List Nat) : Nat := if goodsB l then told (sumS l) else 0
def sumsB (l : List Nat) : Bool := goodsB l && finB (sumS l)
theorem sums_no {l : List Nat} (h : goodsB l = false) : sumsR l = 0 ∧ sumsB l = false := by unfold sumsR sumsB; rw [h]; exact ⟨rfl, rfl⟩
theorem sums_yes {l : List Nat} (h : goodsB l = true) : sumsR l = told (sumS l) ∧ sumsB l = finB (sumS l) := by unfold sumsR sumsB; rw [h]; exact ⟨rfl, rfl⟩
theorem told_lt {x : Nat} (h : x < 18446744073709551616) : told x < 18446744073709551616 := by
  unfold told
  split
  · exact plus_lt h
  · decide
theorem sumsR_lt {l : List Nat} (h : Bits l) : sumsR l < 18446744073709551616 := by
  unfold sumsR
  split
  · exact told_lt (sumF_lt _ _ h)
  · decide
theorem goods_all {l : List Nat} (h : goodsB l = true) : ∀ x ∈ l, goodB x = true := by
  unfold goodsB at h
  simp only [Bool.and_eq_true, List.all_eq_true] at h
  exact h.1
theorem likes_good {l : List Nat} (hb : Bits l) (h : goodsB l = true) : Likes l l := fun i hi => by
  have hm : l.getD i 0 ∈ l := by
    rw [List.getD_eq_getElem?_getD, List.getElem?_eq_getElem hi]
    exact List.getElem_mem hi
  exact like_good (hb.get i) (goods_all h _ hm)
theorem good_fin {x : Nat} (h : goodB x = true) : finB x = true := by
  unfold goodB at h
  simp only [Bool.and_eq_true] at h
  exact h.1
theorem fins_good {l : List Nat} (h : goodsB l = true) : Fins l := fun i hi => by
  have hm : l.getD i 0 ∈ l := by
    rw [List.getD_eq_getElem?_getD, List.getElem?_eq_getElem hi]
    exact List.getElem_mem hi
  exact good_fin (goods_all h _ hm)
set_option maxHeartbeats 1000000 in
set_option maxRecDepth 100000 in
theorem spec_SumReals (A : Option Addr) (c : Nat) (l : List Nat) (w : World) (hr : flt.C w A l.length l) (hc : l.length ≤ c) (hn : l.length * 8 ≤ 140737488351232) (hb : Bits l) :
    Calls Try.prog 23 #[.slice A l.length c] w fun e w' => e = .returned (.tuple #[.float .f64 (sumsR l), .bool (sumsB l)]) ∧ ∃ n, w' = w.drewN n := by
  have H1 := Aside0.mk (l2Goods A c l w hr hc hn hb)
  have H2 := Aside0.mk (fun n => l2Sum (l.length + 1) l A c (w.drewN n) (by omega) (Kd.C_drewN hr n) hc hn hb)
  have HN := Aside0.mk (sums_no (l := l))
  have HY := Aside0.mk (sums_yes (l := l))
  clear hr hc hn hb
  generalize goodsB l = g at *
  cases g
  · have HN2 := Aside0.mk (HN.out rfl)
    clear HN HY
    go_enter Try.func23, Try.ntmps23
    go_wp2_with (first | (go_at_call 47; refine (H1.out).mono ?_; rintro e w' ⟨rfl, n, rfl⟩))
    go_ret2
    exact ⟨by rw [HN2.out.1, HN2.out.2]; rfl, _, rfl⟩
  · have HY2 := Aside0.mk (HY.out rfl)
    clear HN HY
    go_enter Try.func23, Try.ntmps23
    go_wp2_with (first | (go_at_call 47; refine (H1.out).mono ?_; rintro e w' ⟨rfl, n, rfl⟩) | (go_at_call 49; refine (H2.out _).mono ?_; rintro e w' ⟨r, rfl, hr, m, rfl⟩; have HR := Aside0.mk hr; clear hr) | (go_at_call 37; refine (l2Told _ HR.out.1 _).mono ?_; rintro e w' ⟨rfl, rfl⟩))
    go_ret2
    refine ⟨?_, _, rfl⟩
    rw [HY2.out.1, HY2.out.2, show sumS l = sumF (l.length + 1) l from rfl, ← told_ab HR.out.2, ← fin_eq_ab HR.out.2]
    rfl
theorem told_end {r s : Nat} (h : Like r s) : (if (false || !finB s) then 0 else r) = told s ∧ (!(false || !finB s)) = finB s := by
  cases hf : finB s with
  | false => exact ⟨by unfold told; rw [hf]; rfl, rfl⟩
  | true => exact ⟨like_told h hf, rfl⟩
set_option maxHeartbeats 1000000 in
set_option maxRecDepth 100000 in
theorem impl_SumReals (A : Option Addr) (c : Nat) (l : List Nat) (w : World) (hr : flt.C w A l.length l) (hc : l.length ≤ c) (hn : l.length * 8 ≤ 140737488351232) (hb : Bits l) :
    Calls Try.prog 24 #[.slice A l.length c] w fun e w' => e = .returned (.tuple #[.float .f64 (sumsR l), .bool (sumsB l)]) ∧ Below w.heap.size w w' := by
  have H1 := Aside0.mk (impl_goodReals A c l w hr hc hn hb)
  have H2 := Aside0.mk (fun (n : Nat) (hg : goodsB l = true) => sumL (l.length + 1) l l A c w.heap.size false ((w.drewN n).alloc (.cells #[.bool false] 49 (0, 0))) (by omega) rfl (likes_good hb hg) (fun _ => fins_good hg) (Kd.C_foot_came heap_flt hr (below_alloc (pw_below_drewN (Below.refl _ _) _) _) (Nat.le_refl _)) hc hn (blk_new _ _))
  have HN := Aside0.mk (sums_no (l := l))
  have HY := Aside0.mk (sums_yes (l := l))
  clear hr hc hn hb
  generalize goodsB l = g at *
  cases g
  · have HN2 := Aside0.mk (HN.out rfl)
    clear HN HY H2
    go_enter Try.func24, Try.ntmps24
    go_wp2_with (first | (go_at_call 48; refine (H1.out).mono ?_; rintro e w' ⟨rfl, n, rfl⟩))
    go_ret2
    exact ⟨by rw [HN2.out.1, HN2.out.2]; rfl, pw_below_drewN (Below.refl _ _) _⟩
  · have HY2 := Aside0.mk (HY.out rfl)
    have H3 := Aside0.mk (fun n => H2.out n rfl)
    clear HN HY H2
    go_enter Try.func24, Try.ntmps24
    go_wp2_with (first | (go_at_call 48; refine (H1.out).mono ?_; rintro e w' ⟨rfl, n, rfl⟩) | (go_at_call 50; refine (H3.out n).mono ?_; rintro e w1 ⟨r, rfl, l1, s1, k1⟩; have L1 := Aside0.mk l1; have S1 := Aside0.mk s1; have K1 := Aside0.mk (Kp.fresh (below_alloc (pw_below_drewN (Below.refl w.heap.size w) _) _) (Nat.le_refl _) k1); clear l1 s1 k1))
    obtain ⟨f, S7, HF⟩ : ∃ f, Aside0 (St w1 w.heap.size f) ∧ Aside0 ((if f then 0 else r) = sumsR l ∧ (!f) = sumsB l) := ⟨_, S1, ⟨by
      rw [HY2.out.1, HY2.out.2]
      exact told_end L1.out⟩⟩
    clear S1
    cases f <;> (
      go_wp2_with (go_at_call 42; refine (end_ _ _ _ _ (by exact S7.out)).mono ?_; rintro e w' ⟨rfl, rfl⟩)
      go_ret2
      exact ⟨by rw [← HF.out.1, ← HF.out.2]; rfl, K1.out⟩)
/-- The bound of what a law's own copy holds. -/
theorem reads_flt {w : World} {A : Option Addr} {n c base : Nat} {l : List Nat} (h : flt.R 22 w base (fun _ => True) (.slice A n c) l) : n = l.length ∧ n ≤ c ∧ flt.C w A l.length l := Kd.R_reads' h
end Go.Proofs.Ytdcnlghcdmiciaa.Fl
