/-
Own text, by hand: the contract of (Cells).clear.
-/
import Derived.Test.YtjcmlggdaajicaaHdClear
import Derived.Test.YtjcmlggdaajicaaPr1
import Derived.Outline
import Derived.Deep.LoopGhost
import Derived.Deep.DeepMust
namespace Go.Proofs.Ytjcmlggdaajicaa.Pr
open Go.RowKit Go.Proofs.YtjcmlggdaajicaaW.PrintWords Go.Proofs.YtjcmlggdaajicaaW.PrintLast Go.Proofs.YtjcmlggdaajicaaW.PrintMore
attribute [local go_sem] max2_int min2_int max_two min_two

set_option maxHeartbeats 2000000 in
set_option maxRecDepth 100000 in
theorem clear_walk (W : Int) (A : Option Addr) (c : Nat) (l : List Int) (a b : Int) (w : World) (hr : Kd.C (Kd.int .i64) w A l.length l) (hc : l.length ≤ c) (h1 : 1 ≤ W) (h2 : W ≤ 16) (hn : l.length ≤ 256) (ha0 : 0 ≤ a) (ha : a < l.length) (hb0 : 0 ≤ b) (hb : b < l.length) :
    Calls Try.prog 42 #[.agg #[.int .i64 W, .slice A l.length c], .int .i64 a, .int .i64 b] w fun e w' => e = .returned (.bool ((List.range l.length).all fun c => !blocks W l a b c)) ∧ Below w.heap.size w w' := by
  have HR := Aside0.mk hr
  clear hr
  have HC := Aside0.mk hc
  clear hc
  have hW : (W == 0) = false := beq_eq_false_iff_ne.2 (by omega)
  have hu := Try.underlying27
  have mod1 : ∀ z : Int, 0 ≤ z % W ∧ z % W ≤ 15 := fun z => ⟨Int.emod_nonneg _ (by omega), by have := Int.emod_lt_of_pos z (show 0 < W by omega); omega⟩
  have div1 : ∀ z : Int, 0 ≤ z → z < 256 → 0 ≤ z / W ∧ z / W ≤ 255 := fun z h0 h1 => ⟨Int.ediv_nonneg h0 (by omega), by have := Int.ediv_le_self W h0; omega⟩
  obtain ⟨x1, hx1⟩ : ∃ x, wrap64 (2 * (a % W)) = x := ⟨_, rfl⟩
  obtain ⟨y1, hy1⟩ : ∃ x, wrap64 (2 * (a / W)) = x := ⟨_, rfl⟩
  obtain ⟨x2, hx2⟩ : ∃ x, wrap64 (2 * (b % W)) = x := ⟨_, rfl⟩
  obtain ⟨y2, hy2⟩ : ∃ x, wrap64 (2 * (b / W)) = x := ⟨_, rfl⟩
  have ex1 : 2 * (a % W) = x1 := by rw [← hx1]; unfold wrap64; have := mod1 a; omega
  have ey1 : 2 * (a / W) = y1 := by rw [← hy1]; unfold wrap64; have := div1 a ha0 (by omega); omega
  have ex2 : 2 * (b % W) = x2 := by rw [← hx2]; unfold wrap64; have := mod1 b; omega
  have ey2 : 2 * (b / W) = y2 := by rw [← hy2]; unfold wrap64; have := div1 b hb0 (by omega); omega
  have bx1 : 0 ≤ x1 ∧ x1 ≤ 30 := by have := mod1 a; omega
  have by1 : 0 ≤ y1 ∧ y1 ≤ 510 := by have := div1 a ha0 (by omega); omega
  have bx2 : 0 ≤ x2 ∧ x2 ≤ 30 := by have := mod1 b; omega
  have by2 : 0 ≤ y2 ∧ y2 ≤ 510 := by have := div1 b hb0 (by omega); omega
  have E1 := Aside0.mk ex1
  have E2 := Aside0.mk ey1
  have E3 := Aside0.mk ex2
  have E4 := Aside0.mk ey2
  have M1 := Aside0.mk mod1
  have D1 := Aside0.mk div1
  clear ex1 ey1 ex2 ey2 mod1 div1
  obtain ⟨bx1a, bx1b⟩ := bx1
  obtain ⟨by1a, by1b⟩ := by1
  obtain ⟨bx2a, bx2b⟩ := bx2
  obtain ⟨by2a, by2b⟩ := by2
  obtain ⟨mx, hmx⟩ : ∃ x, (if x1 < x2 then x2 else x1) = x := ⟨_, rfl⟩
  obtain ⟨nx, hnx⟩ : ∃ x, (if x2 < x1 then x2 else x1) = x := ⟨_, rfl⟩
  obtain ⟨my, hmy⟩ : ∃ x, (if y1 < y2 then y2 else y1) = x := ⟨_, rfl⟩
  obtain ⟨ny, hny⟩ : ∃ x, (if y2 < y1 then y2 else y1) = x := ⟨_, rfl⟩
  go_enter Try.func42, Try.ntmps42
  go_wp2_with fail
  go_quiet (fail)
  rw [hx1, hy1, hx2, hy2]
  clear hx1 hy1 hx2 hy2
  go_wp2_with fail
  go_loopg [42] l.length (fun g i wr => ∃ k : Nat, Aside0 (k + g = l.length) ∧ i = .int .i64 k ∧ Aside0 (∀ j, j < k → blocks W l a b j = false) ∧ Aside0 (Below w.heap.size w wr) ∧ Aside0 (wr.heap[w.heap.size]? = some (.cells #[.int .i64 W, .slice A l.length c] 27 (0, 0))))
  case atStart => exact ⟨0, ⟨Nat.zero_add _⟩, rfl, ⟨fun j hj => absurd hj (Nat.not_lt_zero j)⟩, ⟨pw_below_drewN (below_alloc (Below.refl _ _) _) _⟩, ⟨blk_drewN (blk_new _ _) _⟩⟩
  case round =>
    obtain ⟨k, HK, rfl, HN, HB, BK⟩ := hrel
    have hcz0 : wr.cell? ⟨w.heap.size, 0, none⟩ = some (.int .i64 W) := (blk_cell BK.out 0).trans rfl
    have hcz1 : wr.cell? ⟨w.heap.size, 1, none⟩ = some (.slice A l.length c) := (blk_cell BK.out 1).trans rfl
    by_cases hlt : k < l.length
    · have HLT := Aside0.mk hlt
      have hf := Aside0.mk (show impl_Cells_free.f W l (k : Int) = some (rd l (k : Int) == 0) by unfold impl_Cells_free.f; rw [if_pos (by omega), if_pos (by omega), if_pos (by omega)])
      obtain ⟨fr, hfr⟩ : ∃ q, q = (rd l (k : Int) == 0) := ⟨_, rfl⟩
      rw [← hfr] at hf
      have HF := Aside0.mk hfr
      clear hfr
      cases fr with
      | true =>
        have nb : blocks W l a b k = false := by unfold blocks; rw [show (l.getD k 0 == 0) = true from HF.out.symm]; rfl
        have NB := Aside0.mk nb
        clear nb
        go_wp2_with (go_at_call 41; (with_reducible refine (impl_Cells_free.calls _ _ _ _ _ _ _ ?s1 HC.out hf.out).mono ?_); (case s1 => exact Kd.C_below HR.out HB.out); rintro e w1 ⟨rfl, hb⟩)
        go_roundg (l.length - (k + 1))
        case measure => have := HK.out; omega
        case rel => exact ⟨k + 1, ⟨by omega⟩, by go_num, ⟨fun j hj => by
          by_cases e : j = k
          · exact e ▸ NB.out
          · exact HN.out j (by omega)⟩, ⟨below_step HB.out hb⟩, ⟨blk_below BK.out hb⟩⟩
      | false =>
        obtain ⟨x, hx⟩ : ∃ q, wrap64 (2 * ((k : Int) % W)) = q := ⟨_, rfl⟩
        obtain ⟨y, hy⟩ : ∃ q, wrap64 (2 * wrap64 ((k : Int) / W)) = q := ⟨_, rfl⟩
        have ex : 2 * ((k : Int) % W) = x := by rw [← hx]; unfold wrap64; have := M1.out k; omega
        have ey : 2 * ((k : Int) / W) = y := by rw [← hy]; have := D1.out k (by omega) (by omega); unfold wrap64; omega
        have hx0 : 0 ≤ x := by have := M1.out k; omega
        have hx9 : x ≤ 30 := by have := M1.out k; omega
        have hy0 : 0 ≤ y := by have := D1.out k (by omega) (by omega); omega
        have hy9 : y ≤ 510 := by have := D1.out k (by omega) (by omega); omega
        have EX := Aside0.mk ex
        have EY := Aside0.mk ey
        clear ex ey
        go_wp2_with (go_at_call 41; (with_reducible refine (impl_Cells_free.calls _ _ _ _ _ _ _ ?s1 HC.out hf.out).mono ?_); (case s1 => exact Kd.C_below HR.out HB.out); rintro e w1 ⟨rfl, hb⟩; have B1 := Aside0.mk (below_step HB.out hb); have K1 := Aside0.mk (blk_below BK.out hb); have hcy0 : w1.cell? ⟨w.heap.size, 0, none⟩ = some (.int .i64 W) := (blk_cell K1.out 0).trans rfl; clear hcz0 hcz1)
        go_quiet (fail)
        rw [hx, hy]
        clear hx hy
        have EB : Aside0 (blocks W l a b k = (!(decide (mx < x - 1) || decide (nx > x + 1) || decide (my < y - 1) || decide (ny > y + 1)) && (lessTo x1 y1 x2 y2 x y 4 && moreTo x1 y1 x2 y2 x y 4))) := ⟨by
          unfold blocks farOf maxI minI
          rw [E1.out, E2.out, E3.out, E4.out, EX.out, EY.out, hmx, hnx, hmy, hny, show (l.getD k 0 == 0) = false from HF.out.symm]
          rfl⟩
        have rel (w2 : World) (hb2 : Below w1.heap.size w1 w2) (nb : blocks W l a b k = false) : ∃ k' : Nat, Aside0 (k' + (l.length - (k + 1)) = l.length) ∧ Value.int .i64 ((k : Int) + 1) = .int .i64 k' ∧ Aside0 (∀ j, j < k' → blocks W l a b j = false) ∧ Aside0 (Below w.heap.size w w2) ∧ Aside0 (w2.heap[w.heap.size]? = some (.cells #[.int .i64 W, .slice A l.length c] 27 (0, 0))) := ⟨k + 1, ⟨by have := HLT.out; omega⟩, by go_num, ⟨fun j hj => by
          by_cases e : j = k
          · exact e ▸ nb
          · exact HN.out j (by omega)⟩, ⟨below_step B1.out hb2⟩, ⟨blk_below K1.out hb2⟩⟩
        have REL := Aside0.mk rel
        clear rel
        by_cases t1 : mx < x - 1
        · go_wp2_with fail
          go_roundg (l.length - (k + 1))
          case measure => have := HK.out; omega
          case rel => exact REL.out _ (pw_below_drewN (Below.refl _ _) _) (by rw [EB.out]; simp [t1])
        by_cases t2 : nx > x + 1
        · go_wp2_with fail
          go_roundg (l.length - (k + 1))
          case measure => have := HK.out; omega
          case rel => exact REL.out _ (pw_below_drewN (Below.refl _ _) _) (by rw [EB.out]; simp [t2])
        by_cases t3 : my < y - 1
        · go_wp2_with fail
          go_roundg (l.length - (k + 1))
          case measure => have := HK.out; omega
          case rel => exact REL.out _ (pw_below_drewN (Below.refl _ _) _) (by rw [EB.out]; simp [t3])
        by_cases t4 : ny > y + 1
        · go_wp2_with fail
          go_roundg (l.length - (k + 1))
          case measure => have := HK.out; omega
          case rel => exact REL.out _ (pw_below_drewN (Below.refl _ _) _) (by rw [EB.out]; simp [t4])
        have eb : blocks W l a b k = (lessTo x1 y1 x2 y2 x y 4 && moreTo x1 y1 x2 y2 x y 4) := by rw [EB.out]; simp [t1, t2, t3, t4]
        have EB2 := Aside0.mk eb
        clear eb
        go_wp2_with fail
        go_loopg [14, 15, 93] 4 (fun g v14 v15 v93 w2 => ∃ (q : Nat) (bl bm : Bool), Aside0 (q + g = 4) ∧ v93 = .int .i64 q ∧ v14 = .bool bl ∧ v15 = .bool bm ∧ Aside0 (bl = lessTo x1 y1 x2 y2 x y q) ∧ Aside0 (bm = moreTo x1 y1 x2 y2 x y q) ∧ Aside0 (Below w1.heap.size w1 w2))
        case atStart => exact ⟨0, false, false, ⟨rfl⟩, rfl, rfl, rfl, ⟨rfl⟩, ⟨rfl⟩, ⟨pw_below_drewN (Below.refl _ _) _⟩⟩
        case round =>
          obtain ⟨q, bl, bm, HQ, rfl, rfl, rfl, HBL, HBM, HB2⟩ := hrel
          by_cases hq : q < 4
          · obtain ⟨dx, dy, ed, hdx0, hdx1, hdy0, hdy1, hix⟩ : ∃ dx dy : Int, (dx = cornX q ∧ dy = cornY q) ∧ -1 ≤ dx ∧ dx ≤ 1 ∧ -1 ≤ dy ∧ dy ≤ 1 ∧ ∀ w, (Instr.index 86 (.agg #[.int .i64 (-1), .int .i64 (-1), .int .i64 (-1), .int .i64 1, .int .i64 1, .int .i64 (-1), .int .i64 1, .int .i64 1]) (.int .i64 q)).run Try.prog w = .ok (.agg #[.int .i64 dx, .int .i64 dy]) w := by
              have hq4 : q = 0 ∨ q = 1 ∨ q = 2 ∨ q = 3 := by omega
              rcases hq4 with rfl | rfl | rfl | rfl
              · exact ⟨-1, -1, ⟨rfl, rfl⟩, by decide, by decide, by decide, by decide, fun _ => by kernel_rfl⟩
              · exact ⟨-1, 1, ⟨rfl, rfl⟩, by decide, by decide, by decide, by decide, fun _ => by kernel_rfl⟩
              · exact ⟨1, -1, ⟨rfl, rfl⟩, by decide, by decide, by decide, by decide, fun _ => by kernel_rfl⟩
              · exact ⟨1, 1, ⟨rfl, rfl⟩, by decide, by decide, by decide, by decide, fun _ => by kernel_rfl⟩
            have ED := Aside0.mk ed
            clear ed
            go_upto_region 13 with fail
            have es := side_eq (x1 := x1) (y1 := y1) (x2 := x2) (y2 := y2) (x := x) (y := y) (dx := dx) (dy := dy) ⟨bx1a, bx1b⟩ ⟨by1a, by1b⟩ ⟨bx2a, bx2b⟩ ⟨by2a, by2b⟩ ⟨hx0, hx9⟩ ⟨hy0, hy9⟩ ⟨hdx0, hdx1⟩ ⟨hdy0, hdy1⟩
            generalize wrap64 (wrap64 ((x2 - x1) * (y + dy - y1)) - wrap64 ((y2 - y1) * (x + dx - x1))) = s at es ⊢
            have eS : s = sideOf x1 y1 x2 y2 x y q := by unfold sideOf; rw [es, ED.out.1, ED.out.2]
            have HL : Aside0 (lessTo x1 y1 x2 y2 x y (q + 1) = (bl || decide (s ≤ 0))) := ⟨by rw [eS, HBL.out]; rfl⟩
            have HM : Aside0 (moreTo x1 y1 x2 y2 x y (q + 1) = (bm || decide (s ≥ 0))) := ⟨by rw [eS, HBM.out]; rfl⟩
            clear es eS HBL HBM
            have hd (w3 : World) (hb3 : Below wr.heap.size wr w3) : Below w1.heap.size w1 w3 := below_step HB2.out hb3
            cases bl <;> cases bm <;> by_cases s1 : s ≤ 0 <;> by_cases s2 : s ≥ 0 <;> (
              go_wp2_with fail
              go_roundg (4 - (q + 1))
              case measure => have := HQ.out; omega
              case rel => exact ⟨q + 1, _, _, ⟨by omega⟩, by go_num, rfl, rfl, ⟨by rw [HL.out]; simp [s1]⟩, ⟨by rw [HM.out]; simp [s2]⟩, ⟨hd _ (below_alloc (Below.refl _ _) _)⟩⟩)
          · have eq4 : q = 4 := by have := HQ.out; omega
            subst eq4
            have hfin : blocks W l a b k = (bl && bm) := by rw [EB2.out, HBL.out, HBM.out]
            have HFIN := Aside0.mk hfin
            clear hfin
            have hkl := HLT.out
            cases bl <;> cases bm
            · go_wp2_with fail
              go_roundg (l.length - (k + 1))
              case measure => have := HK.out; omega
              case rel => exact REL.out _ HB2.out (by rw [HFIN.out]; rfl)
            · go_wp2_with fail
              go_roundg (l.length - (k + 1))
              case measure => have := HK.out; omega
              case rel => exact REL.out _ HB2.out (by rw [HFIN.out]; rfl)
            · go_wp2_with fail
              go_roundg (l.length - (k + 1))
              case measure => have := HK.out; omega
              case rel => exact REL.out _ HB2.out (by rw [HFIN.out]; rfl)
            · go_wp2_with fail
              go_ret
              refine ⟨?_, below_step B1.out HB2.out⟩
              have : ((List.range l.length).all fun c => !blocks W l a b c) = false := by
                rw [List.all_eq_false]
                exact ⟨k, List.mem_range.2 hkl, by rw [HFIN.out]; simp⟩
              rw [this]
              rfl
    · have hkl := HK.out
      go_wp2_with fail
      go_ret
      refine ⟨?_, HB.out⟩
      have : ((List.range l.length).all fun c => !blocks W l a b c) = true := by
        rw [List.all_eq_true]
        intro j hj
        have := List.mem_range.1 hj
        rw [HN.out j (by omega)]
        rfl
      rw [this]
      rfl

theorem impl_Cells_clear.calls (a0_0 : Int) (A0_1 : Option Addr) (c0_1 : Nat) (l0_1 : List Int) (a1 a2 : Int) (r : Bool) (w : World) (hr0_1 : Kd.C (Kd.int .i64) w A0_1 l0_1.length l0_1) (hc0_1 : l0_1.length ≤ c0_1) (h : impl_Cells_clear.f a0_0 l0_1 a1 a2 = some r) :
    Calls Try.prog 42 #[.agg #[.int .i64 a0_0, .slice A0_1 l0_1.length c0_1], .int .i64 a1, .int .i64 a2] w fun e w' => e = .returned (.bool r) ∧ Below w.heap.size w w' := by
  unfold impl_Cells_clear.f at h
  by_cases hb : 1 ≤ a0_0 ∧ a0_0 ≤ 16 ∧ l0_1.length ≤ 256 ∧ 0 ≤ a1 ∧ a1 < l0_1.length ∧ 0 ≤ a2 ∧ a2 < l0_1.length
  · rw [if_pos hb] at h
    obtain ⟨b1, b2, b3, b4, b5, b6, b7⟩ := hb
    cases h
    exact clear_walk a0_0 A0_1 c0_1 l0_1 a1 a2 w hr0_1 hc0_1 b1 b2 b3 b4 b5 b6 b7
  · rw [if_neg hb] at h
    cases h
end Go.Proofs.Ytjcmlggdaajicaa.Pr
