-- Joined and pruned by wip/tools/prune.py out of this session's own texts (Rwi)
import Derived.Test.YtdihodboopeakaaDoorZfh7
import Derived.Outline
/- impl.ReadWish by hand: the walk. -/
namespace Go.Proofs.YtdihodboopeakaaDoor.Pr
open Go.RowKit Go.Proofs.YtdihodboopeakaaDoorW.PrintWords Go.Proofs.YtdihodboopeakaaDoorW.PrintLast Go.Proofs.YtdihodboopeakaaDoorW.PrintMore
set_option linter.unusedVariables false
set_option linter.unusedSimpArgs false
/-- strings.Clone. -/
theorem clone_calls (s : ByteArray) (w : World) (hs : s.size ≤ 281474976710656) :
    Calls Tryd.prog 74 #[.string s] w fun e w' => e = .returned (.string s) ∧ Below w.heap.size w w' := by
  have HC := Aside0.mk (Tryd.stringslite_Clone s w hs)
  go_enter Tryd.func74, Tryd.ntmps74
  go_wp2_with (go_at_call 95; refine HC.out.mono ?_; rintro e w1 ⟨rfl, hb⟩)
  go_ret
  exact ⟨rfl, hb⟩
/-- isWord, plainly. -/
theorem isw_eq (s : ByteArray) : impl_isWord.f s = some (decide (s.toList = ([114, 101, 97, 99, 104] : List UInt8) ∨ s.toList = ([97, 118, 111, 105, 100] : List UInt8))) := by
  unfold impl_isWord.f
  by_cases c : s.toList = ([114, 101, 97, 99, 104] : List UInt8)
  · rw [if_pos c, decide_eq_true (Or.inl c)]
  · rw [if_neg c]
    congr 1
    rw [Bool.eq_iff_iff]
    simp [c]
/-- A draw changes no block. -/
theorem drawn_below0 {w w' : World} (h : Drawn0 w w') : Below w.heap.size w w' := by
  obtain ⟨n, rfl⟩ := h
  exact pw_below_drewN (Below.refl _ _) n
theorem isw_calls (s : ByteArray) (b : Bool) (w : World) (h : impl_isWord.f s = some b) :
    Calls Tryd.prog 71 #[.string s] w fun e w' => e = .returned (.bool b) ∧ Below w.heap.size w w' :=
  (impl_isWord.calls s b w h).mono fun e w' h => ⟨h.1, drawn_below0 h.2⟩
/-- The count of runes. -/
theorem count_calls (s : ByteArray) (w : World) (hs : s.size ≤ 1048576) :
    Calls Tryd.prog 72 #[.string s] w fun e w' => e = .returned (.int .i64 (Lib.runeCount s)) ∧ Below w.heap.size w w' := by
  refine (Tryd.utf8_RuneCountInString s w (by omega)).mono ?_
  rintro e w' ⟨rfl, pos, rfl⟩
  exact ⟨rfl, below_alloc (Below.refl _ _) _⟩
/-- slices.Contains. -/
theorem contains_calls (A : Option Addr) (c : Nat) (l : List ByteArray) (s : ByteArray) (b : Bool) (w : World) (h : Kd.C Kd.string w A l.length l ∧ l.length ≤ c ∧ l.length ≤ 6) (hb : inB l s = b) :
    Calls Tryd.prog 73 #[.slice A l.length c, .string s] w fun e w' => e = .returned (.bool b) ∧ Below w.heap.size w w' := by
  obtain ⟨h1, h2, h3⟩ := h
  obtain ⟨k, hk⟩ := Pure.contains_ev l s (by omega)
  have hk2 := hk k (Nat.le_refl _)
  rw [← Pure.inB_eq, hb] at hk2
  exact (slices_Contains_string_string.calls k A c l s b w h1 h2 hk2).mono fun e w' h => ⟨h.1, drawn_below0 h.2⟩
/-- The closure 'fault': the number that is handed in, and i's box. -/
theorem fault_calls (code i : Int) (g : Nat) (w : World) (hg : w.heap[g]? = some (.cells #[.int .i64 i] 3 (0, 0))) :
    Calls Tryd.prog 69 #[.int .i64 code, .pointer (some ⟨g, 0, none⟩)] w fun e w' => e = .returned (.agg #[.slice none 0 0, .slice none 0 0, .int .i64 code, .int .i64 i]) ∧ Below w.heap.size w w' := by
  have hc : (w.alloc (.cells #[.slice none 0 0, .slice none 0 0, .int .i64 0, .int .i64 0] 48)).cell? ⟨g, 0, none⟩ = some (.int .i64 i) := (blk_cell (blk_alloc hg _) 0).trans rfl
  have HG := Aside0.mk hg
  clear hg
  go_enter Tryd.func69, Tryd.ntmps69
  go_wp2
  refine bodyPost_ret (results_cell_row rfl _ _ w.heap.size 48 #[.slice none 0 0, .slice none 0 0, .int .i64 code, .int .i64 i] (0, 0) _ rfl (blk_new _ _) Tryd.underlying48 rfl (by kernel_rfl)) rfl ?_
  exact ⟨rfl, below_alloc (Below.refl _ _) _⟩
/-- The ending. -/
def Ends (w : World) (r : Rd) (e : Ending) (w' : World) : Prop := ∃ v0_ v1_ : Value, e = .returned (.agg #[v0_, v1_, .int .i64 r.2.2.1, .int .i64 r.2.2.2]) ∧ Kd.R Kd.string 9 w' w.heap.size (fun k_ => some k_ ≠ (v1_ : Value).ownBlock) v0_ r.1 ∧ Kd.R Kd.string 9 w' w.heap.size (fun k_ => some k_ ≠ (v0_ : Value).ownBlock) v1_ r.2.1 ∧ Below w.heap.size w w'
theorem ends_bad {w w' : World} (code at_ : Int) (h : Below w.heap.size w w') : Ends w (badRd code at_) (.returned (.agg #[.slice none 0 0, .slice none 0 0, .int .i64 code, .int .i64 at_])) w' :=
  ⟨_, _, rfl, Kd.R_nil _ _ _ _ _, Kd.R_nil _ _ _ _ _, h⟩
set_option maxHeartbeats 2000000 in
set_option maxRecDepth 100000 in
theorem read_walk (s : ByteArray) (r : Rd) (w : World) (hs : s.size ≤ 1048576) (hr : readOf s = r) (ht : Tabs w) :
    Calls Tryd.prog 30 #[.string s] w (Ends w r) := by
  have HS := Aside0.mk hs
  have HT := Aside0.mk ht
  have HR := Aside0.mk hr
  clear hr hs ht
  by_cases c1 : 200 < s.size
  · have c1b : decide (200 < (s.size : Int)) = true := decide_eq_true (by omega)
    have c1c : decide (200 < s.size) = true := decide_eq_true c1
    have hr := HR.out
    unfold readOf at hr
    rw [if_pos c1] at hr
    have HR2 := Aside0.mk hr
    clear hr HR c1
    go_enter Tryd.func30, Tryd.ntmps30
    go_wp2
    refine bodyPost_ret (results_cell_row rfl _ _ w.heap.size 48 #[.slice none 0 0, .slice none 0 0, .int .i64 5, .int .i64 0] (0, 0) _ rfl (blk_new _ _) Tryd.underlying48 rfl (by kernel_rfl)) rfl ?_
    rw [← HR2.out]
    exact ends_bad 5 0 (below_alloc (Below.refl _ _) _)
  · have c1b : decide (200 < (s.size : Int)) = false := decide_eq_false (by omega)
    have c1c : decide (200 < s.size) = false := decide_eq_false c1
    have hr := HR.out
    unfold readOf at hr
    rw [if_neg c1] at hr
    have HR2 := Aside0.mk hr
    clear hr HR c1
    go_enter Tryd.func30, Tryd.ntmps30
    go_wp2
    have b0 : ((((w.alloc (Obj.cells #[.slice none 0 0, .slice none 0 0, .int .i64 0, .int .i64 0] 48)).alloc (Obj.cells #[.slice none 0 0, .slice none 0 0] 36)).alloc (Obj.cells #[.int .i64 0] 3))).heap[w.heap.size]? = some (.cells #[.slice none 0 0, .slice none 0 0, .int .i64 0, .int .i64 0] 48 (0, 0)) := blk_alloc (blk_alloc (blk_new _ _) _) _
    have b1 : ((((w.alloc (Obj.cells #[.slice none 0 0, .slice none 0 0, .int .i64 0, .int .i64 0] 48)).alloc (Obj.cells #[.slice none 0 0, .slice none 0 0] 36)).alloc (Obj.cells #[.int .i64 0] 3))).heap[w.heap.size + 1]? = some (.cells #[.slice none 0 0, .slice none 0 0] 36 (0, 0)) := blk_alloc (by have h := blk_new (w.alloc (Obj.cells #[.slice none 0 0, .slice none 0 0, .int .i64 0, .int .i64 0] 48)) (Obj.cells #[.slice none 0 0, .slice none 0 0] 36); simpa using h) _
    have b2 : ((((w.alloc (Obj.cells #[.slice none 0 0, .slice none 0 0, .int .i64 0, .int .i64 0] 48)).alloc (Obj.cells #[.slice none 0 0, .slice none 0 0] 36)).alloc (Obj.cells #[.int .i64 0] 3))).heap[w.heap.size + 1 + 1]? = some (.cells #[.int .i64 0] 3 (0, 0)) := by have h := blk_new ((w.alloc (Obj.cells #[.slice none 0 0, .slice none 0 0, .int .i64 0, .int .i64 0] 48)).alloc (Obj.cells #[.slice none 0 0, .slice none 0 0] 36)) (Obj.cells #[.int .i64 0] 3); simpa using h
    have B0 := Aside0.mk b0
    have B1 := Aside0.mk b1
    have B2 := Aside0.mk b2
    clear b0 b1 b2
    go_loopg [4, 5, 6, 7, 8] s.size (fun g v4 v5 v6 v7 v8 w' => ∃ (i part many : Nat) (R A : List ByteArray) (u0 u1 : Value) (b8 : Nat) (fr : Bool) (pp : Option Addr), v4 = .pointer pp ∧ v5 = .bool (decide (many = 0)) ∧ v6 = .bool fr ∧ v7 = .bool (decide (part = 2)) ∧ v8 = .pointer (some ⟨b8, 0, none⟩) ∧
      Aside0 (pp = if part = 0 then none else some ⟨w.heap.size + 1, part - 1, none⟩) ∧ Aside0 (rdFrom s g i part many R A = r) ∧ Aside0 (i ≤ s.size ∧ s.size - i ≤ g) ∧ Aside0 (part ≤ 2 ∧ many ≤ 6 ∧ (part = 0 → fr = false ∧ many = 1 ∧ R.length = 0) ∧ (part = 1 → fr = true ∧ R.length = many) ∧ (part ≤ 1 → A.length = 0) ∧ (part = 2 → A.length = many) ∧ R.length ≤ 6 ∧ A.length ≤ 6) ∧
      Aside0 (w'.heap[w.heap.size]? = some (.cells #[.slice none 0 0, .slice none 0 0, .int .i64 0, .int .i64 0] 48 (0, 0))) ∧ Aside0 (w'.heap[w.heap.size + 1]? = some (.cells #[u0, u1] 36 (0, 0))) ∧ Aside0 (w'.heap[b8]? = some (.cells #[.int .i64 (i : Int)] 3 (0, 0))) ∧ Aside0 (w.heap.size + 1 < b8) ∧
      Aside0 (Kd.R Kd.string 9 w' w.heap.size (fun k_ => some k_ ≠ (u1 : Value).ownBlock) u0 R) ∧ Aside0 (Kd.R Kd.string 9 w' w.heap.size (fun k_ => some k_ ≠ (u0 : Value).ownBlock) u1 A) ∧ Aside0 (Below w.heap.size w w'))
    case atStart => exact ⟨0, 0, 1, [], [], .slice none 0 0, .slice none 0 0, w.heap.size + 1 + 1, false, none, rfl, rfl, rfl, rfl, rfl, ⟨rfl⟩, HR2, ⟨by omega⟩, ⟨by simp⟩, B0, B1, B2, ⟨by omega⟩, ⟨Kd.R_nil _ _ _ _ _⟩, ⟨Kd.R_nil _ _ _ _ _⟩, ⟨below_alloc (below_alloc (below_alloc (Below.refl _ _) _) _) _⟩⟩
    case round =>
      obtain ⟨i, part, many, R, A, u0, u1, b8, fr, pp, rfl, rfl, rfl, rfl, rfl, HPP, HM, HI, HP, C0, C1, C2, HN, HU0, HU1, HB⟩ := hrel
      have k2 : wr.cell? ⟨b8, 0, none⟩ = some (.int .i64 (i : Int)) := (blk_cell C2.out 0).trans rfl
      have f2 : wr.frozen? ⟨b8, 0, none⟩ = false := blk_frozen C2.out 0
      by_cases c2 : i < s.size
      case neg =>
        have c2b : decide (i < s.size) = false := decide_eq_false c2
        have e1 : rdFrom s gk i part many R A = (if many = 0 then badRd 2 s.size else (R, A, 0, 0)) := by
          cases gk with
          | zero => rfl
          | succ g => unfold rdFrom; rw [if_neg c2]
        rw [e1] at HM
        by_cases c3 : many = 0
        · have c3b : decide (many = 0) = true := decide_eq_true c3
          have HM2 := HM.out
          rw [if_pos c3] at HM2
          have HM3 := Aside0.mk HM2
          clear HM2 HM
          have q0 : wr.cell? ⟨w.heap.size, 0, none⟩ = some (.slice none 0 0) := (blk_cell C0.out 0).trans rfl
          have q1 : wr.cell? ⟨w.heap.size, 1, none⟩ = some (.slice none 0 0) := (blk_cell C0.out 1).trans rfl
          have q2 : wr.cell? ⟨w.heap.size, 2, none⟩ = some (.int .i64 0) := (blk_cell C0.out 2).trans rfl
          have q3 : wr.cell? ⟨w.heap.size, 3, none⟩ = some (.int .i64 0) := (blk_cell C0.out 3).trans rfl
          have g0 := blk_frozen C0.out 0
          have g1 := blk_frozen C0.out 1
          have g2 := blk_frozen C0.out 2
          have g3 := blk_frozen C0.out 3
          go_wp2
          refine bodyPost_ret (results_cell_row rfl _ _ w.heap.size 48 #[.slice none 0 0, .slice none 0 0, .int .i64 2, .int .i64 (s.size : Int)] (0, 0) _ rfl (blk_put (cs := #[.slice none 0 0, .slice none 0 0, .int .i64 2, .int .i64 0]) (blk_put (cs := #[.slice none 0 0, .slice none 0 0, .int .i64 0, .int .i64 0]) (blk_put (cs := #[.slice none 0 0, .slice none 0 0, .int .i64 0, .int .i64 0]) (blk_put (cs := #[.slice none 0 0, .slice none 0 0, .int .i64 0, .int .i64 0]) C0.out 0 _ rfl) 1 _ rfl) 2 _ rfl) 3 _ rfl) Tryd.underlying48 rfl (by kernel_rfl)) rfl ?_
          rw [← HM3.out]
          exact ends_bad 2 _ (below_set (below_set (below_set (below_set HB.out (Nat.le_refl _)) (Nat.le_refl _)) (Nat.le_refl _)) (Nat.le_refl _))
        · have c3b : decide (many = 0) = false := decide_eq_false c3
          have HM2 := HM.out
          rw [if_neg c3] at HM2
          have HM3 := Aside0.mk HM2
          clear HM2 HM
          have q0 : wr.cell? ⟨w.heap.size, 0, none⟩ = some (.slice none 0 0) := (blk_cell C0.out 0).trans rfl
          have q1 : wr.cell? ⟨w.heap.size, 1, none⟩ = some (.slice none 0 0) := (blk_cell C0.out 1).trans rfl
          have q2 : wr.cell? ⟨w.heap.size, 2, none⟩ = some (.int .i64 0) := (blk_cell C0.out 2).trans rfl
          have q3 : wr.cell? ⟨w.heap.size, 3, none⟩ = some (.int .i64 0) := (blk_cell C0.out 3).trans rfl
          have g0 := blk_frozen C0.out 0
          have g1 := blk_frozen C0.out 1
          have g2 := blk_frozen C0.out 2
          have g3 := blk_frozen C0.out 3
          obtain ⟨Ao0, co0, eo0⟩ := Kd.R_slice HU0.out
          subst eo0
          obtain ⟨Ao1, co1, eo1⟩ := Kd.R_slice HU1.out
          subst eo1
          have p0 : wr.cell? ⟨w.heap.size + 1, 0, none⟩ = some (.slice Ao0 R.length co0) := (blk_cell C1.out 0).trans rfl
          have p1 : wr.cell? ⟨w.heap.size + 1, 1, none⟩ = some (.slice Ao1 A.length co1) := (blk_cell C1.out 1).trans rfl
          go_wp2
          refine bodyPost_ret (results_cell_row rfl _ _ w.heap.size 48 #[.slice Ao0 R.length co0, .slice Ao1 A.length co1, .int .i64 0, .int .i64 0] (0, 0) _ rfl (blk_put (cs := #[.slice Ao0 R.length co0, .slice Ao1 A.length co1, .int .i64 0, .int .i64 0]) (blk_put (cs := #[.slice Ao0 R.length co0, .slice Ao1 A.length co1, .int .i64 0, .int .i64 0]) (blk_put (cs := #[.slice Ao0 R.length co0, .slice none 0 0, .int .i64 0, .int .i64 0]) (blk_put (cs := #[.slice none 0 0, .slice none 0 0, .int .i64 0, .int .i64 0]) C0.out 0 _ rfl) 1 _ rfl) 2 _ rfl) 3 _ rfl) Tryd.underlying48 rfl (by kernel_rfl)) rfl ?_
          rw [← HM3.out]
          exact ⟨_, _, rfl,
            Kd.R_mono (Kd.R_far (p := ⟨w.heap.size, 3, none⟩) (Kd.R_far (p := ⟨w.heap.size, 2, none⟩) (Kd.R_far (p := ⟨w.heap.size, 1, none⟩) (Kd.R_far (p := ⟨w.heap.size, 0, none⟩) (Kd.R_types HU0.out C0.out (by decide)) (fun _ hk => hk.2) _) (fun _ hk => hk.2) _) (fun _ hk => hk.2) _) (fun _ hk => hk.2) _) (fun _ hk => hk.1),
            Kd.R_mono (Kd.R_far (p := ⟨w.heap.size, 3, none⟩) (Kd.R_far (p := ⟨w.heap.size, 2, none⟩) (Kd.R_far (p := ⟨w.heap.size, 1, none⟩) (Kd.R_far (p := ⟨w.heap.size, 0, none⟩) (Kd.R_types HU1.out C0.out (by decide)) (fun _ hk => hk.2) _) (fun _ hk => hk.2) _) (fun _ hk => hk.2) _) (fun _ hk => hk.2) _) (fun _ hk => hk.1),
            below_set (below_set (below_set (below_set HB.out (Nat.le_refl _)) (Nat.le_refl _)) (Nat.le_refl _)) (Nat.le_refl _)⟩
      case pos =>
        have c2b : decide (i < s.size) = true := decide_eq_true c2
        obtain ⟨g, rfl⟩ : ∃ g, gk = g + 1 := ⟨gk - 1, by have := HI.out; omega⟩
        have HM2 := HM.out
        unfold rdFrom at HM2
        rw [if_pos c2] at HM2
        have c2z : 0 ≤ (i : Int) := by omega
        have eb : s.get! i = s[i]'c2 := by show s.data[i]! = s.data[i]'c2; exact getElem!_pos s.data i c2
        by_cases c3 : s.get! i = 32
        · rw [if_pos c3] at HM2
          have c3d : (((s[i]'c2).toNat : Int) == 32) = true := by rw [← eb, c3]; rfl
          have HM3 := Aside0.mk HM2
          clear HM2 HM
          have c3b : (bt s (i : Int) == 32) = true := beq_iff_eq.mpr ((Pure.bt_32 s i c2).2 c3)
          have c3c : (s.get! i == 32) = true := beq_iff_eq.mpr c3
          clear c3
          clear eb c3b c3c
          go_wp2
          have hsz := HS.out
          have hw2 : wrap64 ((i : Int) + 1) = ((i + 1 : Nat) : Int) := by rw [EvKit.wrap64_id (by omega) (by omega)]; omega
          go_roundg g
          case measure => omega
          case rel =>
            have hlt := blk_lt C2.out
            have n1 := blk_new (wr.setCell ⟨b8, 0, none⟩ (.int .i64 (wrap64 ((i : Int) + 1)))) (Obj.cells #[.int .i64 (wrap64 ((i : Int) + 1))] 3)
            have hn := HN.out
            have hi := HI.out
            have n2 : ((wr.setCell ⟨b8, 0, none⟩ (.int .i64 (wrap64 ((i : Int) + 1)))).alloc (Obj.cells #[.int .i64 (wrap64 ((i : Int) + 1))] 3)).heap[wr.heap.size]? = some (.cells #[.int .i64 ((i + 1 : Nat) : Int)] 3 (0, 0)) := by rw [← hw2]; simpa using n1
            exact ⟨i + 1, part, many, R, A, u0, u1, wr.heap.size, fr, pp, rfl, rfl, rfl, rfl, rfl, HPP, HM3, ⟨by omega⟩, HP, ⟨blk_alloc (blk_far C0.out (by show w.heap.size ≠ b8; omega) _) _⟩, ⟨blk_alloc (blk_far C1.out (by show w.heap.size + 1 ≠ b8; omega) _) _⟩, ⟨n2⟩, ⟨by omega⟩,
              ⟨Kd.R_alloc (Kd.R_mono (Kd.R_far (p := ⟨b8, 0, none⟩) (Kd.R_types HU0.out C2.out (by decide)) (fun _ hk => hk.2) _) (fun _ hk => hk.1)) _⟩,
              ⟨Kd.R_alloc (Kd.R_mono (Kd.R_far (p := ⟨b8, 0, none⟩) (Kd.R_types HU1.out C2.out (by decide)) (fun _ hk => hk.2) _) (fun _ hk => hk.1)) _⟩,
              ⟨below_alloc (below_set HB.out (by omega)) _⟩⟩
        · rw [if_neg c3] at HM2
          have c3d : (((s[i]'c2).toNat : Int) == 32) = false := by
            rw [← eb]
            exact beq_eq_false_iff_ne.mpr (fun e => c3 (UInt8.toNat_inj.1 (by show (s.get! i).toNat = 32; omega)))
          have HM3 := Aside0.mk HM2
          have hg1 := Pure.wordEnd_gt s i c2 c3
          have hg2 := Pure.wordEnd_le s i c2
          clear HM2 HM eb c3
          go_wp2
          go_loopg [9] (s.size - i) (fun g9 v9 w' => ∃ k : Nat, v9 = .int .i64 (k : Int) ∧ Aside0 (i ≤ k ∧ k + g9 = s.size) ∧ Aside0 (endFrom s g9 k = wordEnd s i) ∧ w' = wr)
          case atStart => exact ⟨i, rfl, ⟨by omega⟩, ⟨rfl⟩, rfl⟩
          case round =>
            obtain ⟨k, rfl, HK, HE, rfl⟩ := hrel
            by_cases d1 : k < s.size ∧ s.get! k ≠ 32
            case pos =>
              obtain ⟨g, rfl⟩ : ∃ g, gk = g + 1 := ⟨gk - 1, by have := HK.out; omega⟩
              obtain ⟨hk, hk2⟩ := d1
              have d1b : decide (k < s.size) = true := decide_eq_true hk
              have d1z : 0 ≤ (k : Int) := by omega
              have eb : s.get! k = s[k]'hk := by show s.data[k]! = s.data[k]'hk; exact getElem!_pos s.data k hk
              have d1d : (((s[k]'hk).toNat : Int) != 32) = true := by
                rw [← eb]
                exact bne_iff_ne.mpr (fun e => hk2 (UInt8.toNat_inj.1 (by show (s.get! k).toNat = 32; omega)))
              have he := HE.out
              unfold endFrom at he
              rw [if_pos hk, if_neg hk2] at he
              have HE2 := Aside0.mk he
              clear he HE eb hk2
              go_wp2
              have hsz := HS.out
              have hw2 : wrap64 ((k : Int) + 1) = ((k + 1 : Nat) : Int) := by rw [EvKit.wrap64_id (by omega) (by omega)]; omega
              go_roundg g
              case measure => omega
              case rel => exact ⟨k + 1, by rw [← hw2], ⟨by have := HK.out; omega⟩, HE2, rfl⟩
            case neg =>
              have he : k = wordEnd s i := by
                rw [← HE.out]
                cases gk with
                | zero => rfl
                | succ g =>
                  unfold endFrom
                  by_cases d2 : k < s.size
                  · rw [if_pos d2, if_pos (Decidable.byContradiction fun h => d1 ⟨d2, h⟩)]
                  · rw [if_neg d2]
              have hki := HK.out.1
              have hks : k ≤ s.size := by have := HK.out.2; omega
              rw [← he] at HM3 hg1 hg2
              clear he HE
              have hsz := HS.out
              have ht : (s.extract i k).size ≤ 1048576 := by rw [ByteArray.size_extract]; omega
              obtain ⟨t, hte⟩ : ∃ t, s.extract i k = t := ⟨_, rfl⟩
              rw [hte] at HM3 ht
              have HO : Aside0 (impl_oddRune.f t = some (oddOf t)) := ⟨by unfold impl_oddRune.f; rw [if_pos (by omega)]⟩
              have HTE := Aside0.mk hte
              have e4 : decide (0 ≤ (i : Int)) = true := decide_eq_true (by omega)
              have e5 : decide ((i : Int) ≤ (k : Int)) = true := decide_eq_true (by omega)
              by_cases o1 : 0 ≤ oddOf t
              · rw [if_pos o1] at HM3
                have o1b : decide (0 ≤ oddOf t) = true := decide_eq_true o1
                have hlt := Pure.oddFrom_lt t t.size 0
                have hwo : wrap64 ((i : Int) + oddOf t) = (i : Int) + oddOf t := EvKit.wrap64_id (by omega) (by show (i : Int) + oddFrom t t.size 0 ≤ _; omega)
                clear hlt
                by_cases d2 : k < s.size
                · have hk32 : s.get! k = 32 := Decidable.byContradiction fun h => d1 ⟨d2, h⟩
                  have eb : s.get! k = s[k]'d2 := by show s.data[k]! = s.data[k]'d2; exact getElem!_pos s.data k d2
                  have d1d : (((s[k]'d2).toNat : Int) != 32) = false := by rw [← eb, hk32]; rfl
                  have d1z : 0 ≤ (k : Int) := by omega
                  have d1b : decide (k < s.size) = true := decide_eq_true d2
                  clear d1 hk32 eb
                  go_wp2_with (first | (go_at_call 70; refine (impl_oddRune.calls _ _ _ HO.out (HT.out.below HB.out)).mono ?_; rintro e w1 ⟨rfl, hb⟩; replace C0 := Aside0.mk (blk_below C0.out hb); replace C1 := Aside0.mk (blk_below C1.out hb); replace C2 := Aside0.mk (blk_below C2.out hb); replace HU0 := Aside0.mk (Kd.R_below HU0.out hb); replace HU1 := Aside0.mk (Kd.R_below HU1.out hb); replace HB := Aside0.mk (below_step HB.out hb); clear hb; replace k2 : w1.cell? ⟨b8, 0, none⟩ = some (.int .i64 (i : Int)) := (blk_cell C2.out 0).trans rfl; replace f2 : w1.frozen? ⟨b8, 0, none⟩ = false := blk_frozen C2.out 0; have q0 : w1.cell? ⟨w.heap.size, 0, none⟩ = some (.slice none 0 0) := (blk_cell C0.out 0).trans rfl; have g0 := blk_frozen C0.out 0; have q1 : w1.cell? ⟨w.heap.size, 1, none⟩ = some (.slice none 0 0) := (blk_cell C0.out 1).trans rfl; have g1 := blk_frozen C0.out 1; have q2 : w1.cell? ⟨w.heap.size, 2, none⟩ = some (.int .i64 0) := (blk_cell C0.out 2).trans rfl; have g2 := blk_frozen C0.out 2; have q3 : w1.cell? ⟨w.heap.size, 3, none⟩ = some (.int .i64 0) := (blk_cell C0.out 3).trans rfl; have g3 := blk_frozen C0.out 3))
                  try rw [hwo]
                  refine bodyPost_ret (results_cell_row rfl _ _ w.heap.size 48 #[.slice none 0 0, .slice none 0 0, .int .i64 3, .int .i64 ((i : Int) + oddOf t)] (0, 0) _ rfl (blk_put (cs := #[.slice none 0 0, .slice none 0 0, .int .i64 3, .int .i64 0]) (blk_put (cs := #[.slice none 0 0, .slice none 0 0, .int .i64 0, .int .i64 0]) (blk_put (cs := #[.slice none 0 0, .slice none 0 0, .int .i64 0, .int .i64 0]) (blk_put (cs := #[.slice none 0 0, .slice none 0 0, .int .i64 0, .int .i64 0]) C0.out 0 _ rfl) 1 _ rfl) 2 _ rfl) 3 _ rfl) Tryd.underlying48 rfl (by kernel_rfl)) rfl ?_
                  rw [← HM3.out]
                  exact ends_bad 3 _ (below_set (below_set (below_set (below_set HB.out (Nat.le_refl _)) (Nat.le_refl _)) (Nat.le_refl _)) (Nat.le_refl _))
                · have d1b : decide (k < s.size) = false := decide_eq_false d2
                  clear d1
                  go_wp2_with (first | (go_at_call 70; refine (impl_oddRune.calls _ _ _ HO.out (HT.out.below HB.out)).mono ?_; rintro e w1 ⟨rfl, hb⟩; replace C0 := Aside0.mk (blk_below C0.out hb); replace C1 := Aside0.mk (blk_below C1.out hb); replace C2 := Aside0.mk (blk_below C2.out hb); replace HU0 := Aside0.mk (Kd.R_below HU0.out hb); replace HU1 := Aside0.mk (Kd.R_below HU1.out hb); replace HB := Aside0.mk (below_step HB.out hb); clear hb; replace k2 : w1.cell? ⟨b8, 0, none⟩ = some (.int .i64 (i : Int)) := (blk_cell C2.out 0).trans rfl; replace f2 : w1.frozen? ⟨b8, 0, none⟩ = false := blk_frozen C2.out 0; have q0 : w1.cell? ⟨w.heap.size, 0, none⟩ = some (.slice none 0 0) := (blk_cell C0.out 0).trans rfl; have g0 := blk_frozen C0.out 0; have q1 : w1.cell? ⟨w.heap.size, 1, none⟩ = some (.slice none 0 0) := (blk_cell C0.out 1).trans rfl; have g1 := blk_frozen C0.out 1; have q2 : w1.cell? ⟨w.heap.size, 2, none⟩ = some (.int .i64 0) := (blk_cell C0.out 2).trans rfl; have g2 := blk_frozen C0.out 2; have q3 : w1.cell? ⟨w.heap.size, 3, none⟩ = some (.int .i64 0) := (blk_cell C0.out 3).trans rfl; have g3 := blk_frozen C0.out 3))
                  try rw [hwo]
                  refine bodyPost_ret (results_cell_row rfl _ _ w.heap.size 48 #[.slice none 0 0, .slice none 0 0, .int .i64 3, .int .i64 ((i : Int) + oddOf t)] (0, 0) _ rfl (blk_put (cs := #[.slice none 0 0, .slice none 0 0, .int .i64 3, .int .i64 0]) (blk_put (cs := #[.slice none 0 0, .slice none 0 0, .int .i64 0, .int .i64 0]) (blk_put (cs := #[.slice none 0 0, .slice none 0 0, .int .i64 0, .int .i64 0]) (blk_put (cs := #[.slice none 0 0, .slice none 0 0, .int .i64 0, .int .i64 0]) C0.out 0 _ rfl) 1 _ rfl) 2 _ rfl) 3 _ rfl) Tryd.underlying48 rfl (by kernel_rfl)) rfl ?_
                  rw [← HM3.out]
                  exact ends_bad 3 _ (below_set (below_set (below_set (below_set HB.out (Nat.le_refl _)) (Nat.le_refl _)) (Nat.le_refl _)) (Nat.le_refl _))
              · rw [if_neg o1] at HM3
                have o1b : decide (0 ≤ oddOf t) = false := decide_eq_false o1
                have o1c : oddOf t < 0 := by omega
                by_cases r1 : isReach t = true
                · rw [if_pos r1] at HM3
                  have r2 : (t.toList == ([114, 101, 97, 99, 104] : List UInt8)) = true := beq_iff_eq.mpr (of_decide_eq_true r1)
                  have HW : Aside0 (impl_isWord.f t = some true) := ⟨by rw [isw_eq]; exact congrArg some (decide_eq_true (.inl (of_decide_eq_true r1)))⟩
                  by_cases m1 : many = 0
                  · rw [if_pos (Or.inr m1)] at HM3
                    have m2 : decide (many = 0) = true := decide_eq_true m1
                    by_cases d2 : k < s.size
                    · have hk32 : s.get! k = 32 := Decidable.byContradiction fun h => d1 ⟨d2, h⟩
                      have eb : s.get! k = s[k]'d2 := by show s.data[k]! = s.data[k]'d2; exact getElem!_pos s.data k d2
                      have d1d : (((s[k]'d2).toNat : Int) != 32) = false := by rw [← eb, hk32]; rfl
                      have d1z : 0 ≤ (k : Int) := by omega
                      have d1b : decide (k < s.size) = true := decide_eq_true d2
                      clear d1 hk32 eb
                      go_wp2_with (first | (go_at_call 70; refine (impl_oddRune.calls _ _ _ HO.out (HT.out.below HB.out)).mono ?_; rintro e w1 ⟨rfl, hb⟩; replace C0 := Aside0.mk (blk_below C0.out hb); replace C1 := Aside0.mk (blk_below C1.out hb); replace C2 := Aside0.mk (blk_below C2.out hb); replace HU0 := Aside0.mk (Kd.R_below HU0.out hb); replace HU1 := Aside0.mk (Kd.R_below HU1.out hb); replace HB := Aside0.mk (below_step HB.out hb); clear hb; replace k2 : w1.cell? ⟨b8, 0, none⟩ = some (.int .i64 (i : Int)) := (blk_cell C2.out 0).trans rfl; replace f2 : w1.frozen? ⟨b8, 0, none⟩ = false := blk_frozen C2.out 0) | (go_at_call 71; refine (isw_calls t true _ HW.out).mono ?_; rintro e w2 ⟨rfl, hb⟩; replace C0 := Aside0.mk (blk_below C0.out hb); replace C1 := Aside0.mk (blk_below C1.out hb); replace C2 := Aside0.mk (blk_below C2.out hb); replace HU0 := Aside0.mk (Kd.R_below HU0.out hb); replace HU1 := Aside0.mk (Kd.R_below HU1.out hb); replace HB := Aside0.mk (below_step HB.out hb); clear hb; replace k2 : w2.cell? ⟨b8, 0, none⟩ = some (.int .i64 (i : Int)) := (blk_cell C2.out 0).trans rfl; replace f2 : w2.frozen? ⟨b8, 0, none⟩ = false := blk_frozen C2.out 0) | (go_at_call 69; refine (fault_calls 1 i b8 _ C2.out).mono ?_; rintro e w3 ⟨rfl, hb⟩; replace C0 := Aside0.mk (blk_below C0.out hb); replace C1 := Aside0.mk (blk_below C1.out hb); replace C2 := Aside0.mk (blk_below C2.out hb); replace HU0 := Aside0.mk (Kd.R_below HU0.out hb); replace HU1 := Aside0.mk (Kd.R_below HU1.out hb); replace HB := Aside0.mk (below_step HB.out hb); clear hb; replace k2 : w3.cell? ⟨b8, 0, none⟩ = some (.int .i64 (i : Int)) := (blk_cell C2.out 0).trans rfl; replace f2 : w3.frozen? ⟨b8, 0, none⟩ = false := blk_frozen C2.out 0; have q0 : w3.cell? ⟨w.heap.size, 0, none⟩ = some (.slice none 0 0) := (blk_cell C0.out 0).trans rfl; have g0 := blk_frozen C0.out 0; have q1 : w3.cell? ⟨w.heap.size, 1, none⟩ = some (.slice none 0 0) := (blk_cell C0.out 1).trans rfl; have g1 := blk_frozen C0.out 1; have q2 : w3.cell? ⟨w.heap.size, 2, none⟩ = some (.int .i64 0) := (blk_cell C0.out 2).trans rfl; have g2 := blk_frozen C0.out 2; have q3 : w3.cell? ⟨w.heap.size, 3, none⟩ = some (.int .i64 0) := (blk_cell C0.out 3).trans rfl; have g3 := blk_frozen C0.out 3))
                      refine bodyPost_ret (results_cell_row rfl _ _ w.heap.size 48 #[.slice none 0 0, .slice none 0 0, .int .i64 1, .int .i64 (i : Int)] (0, 0) _ rfl (blk_put (cs := #[.slice none 0 0, .slice none 0 0, .int .i64 1, .int .i64 0]) (blk_put (cs := #[.slice none 0 0, .slice none 0 0, .int .i64 0, .int .i64 0]) (blk_put (cs := #[.slice none 0 0, .slice none 0 0, .int .i64 0, .int .i64 0]) (blk_put (cs := #[.slice none 0 0, .slice none 0 0, .int .i64 0, .int .i64 0]) C0.out 0 _ rfl) 1 _ rfl) 2 _ rfl) 3 _ rfl) Tryd.underlying48 rfl (by kernel_rfl)) rfl ?_
                      rw [← HM3.out]
                      exact ends_bad 1 _ (below_set (below_set (below_set (below_set HB.out (Nat.le_refl _)) (Nat.le_refl _)) (Nat.le_refl _)) (Nat.le_refl _))
                    · have d1b : decide (k < s.size) = false := decide_eq_false d2
                      clear d1
                      go_wp2_with (first | (go_at_call 70; refine (impl_oddRune.calls _ _ _ HO.out (HT.out.below HB.out)).mono ?_; rintro e w1 ⟨rfl, hb⟩; replace C0 := Aside0.mk (blk_below C0.out hb); replace C1 := Aside0.mk (blk_below C1.out hb); replace C2 := Aside0.mk (blk_below C2.out hb); replace HU0 := Aside0.mk (Kd.R_below HU0.out hb); replace HU1 := Aside0.mk (Kd.R_below HU1.out hb); replace HB := Aside0.mk (below_step HB.out hb); clear hb; replace k2 : w1.cell? ⟨b8, 0, none⟩ = some (.int .i64 (i : Int)) := (blk_cell C2.out 0).trans rfl; replace f2 : w1.frozen? ⟨b8, 0, none⟩ = false := blk_frozen C2.out 0) | (go_at_call 71; refine (isw_calls t true _ HW.out).mono ?_; rintro e w2 ⟨rfl, hb⟩; replace C0 := Aside0.mk (blk_below C0.out hb); replace C1 := Aside0.mk (blk_below C1.out hb); replace C2 := Aside0.mk (blk_below C2.out hb); replace HU0 := Aside0.mk (Kd.R_below HU0.out hb); replace HU1 := Aside0.mk (Kd.R_below HU1.out hb); replace HB := Aside0.mk (below_step HB.out hb); clear hb; replace k2 : w2.cell? ⟨b8, 0, none⟩ = some (.int .i64 (i : Int)) := (blk_cell C2.out 0).trans rfl; replace f2 : w2.frozen? ⟨b8, 0, none⟩ = false := blk_frozen C2.out 0) | (go_at_call 69; refine (fault_calls 1 i b8 _ C2.out).mono ?_; rintro e w3 ⟨rfl, hb⟩; replace C0 := Aside0.mk (blk_below C0.out hb); replace C1 := Aside0.mk (blk_below C1.out hb); replace C2 := Aside0.mk (blk_below C2.out hb); replace HU0 := Aside0.mk (Kd.R_below HU0.out hb); replace HU1 := Aside0.mk (Kd.R_below HU1.out hb); replace HB := Aside0.mk (below_step HB.out hb); clear hb; replace k2 : w3.cell? ⟨b8, 0, none⟩ = some (.int .i64 (i : Int)) := (blk_cell C2.out 0).trans rfl; replace f2 : w3.frozen? ⟨b8, 0, none⟩ = false := blk_frozen C2.out 0; have q0 : w3.cell? ⟨w.heap.size, 0, none⟩ = some (.slice none 0 0) := (blk_cell C0.out 0).trans rfl; have g0 := blk_frozen C0.out 0; have q1 : w3.cell? ⟨w.heap.size, 1, none⟩ = some (.slice none 0 0) := (blk_cell C0.out 1).trans rfl; have g1 := blk_frozen C0.out 1; have q2 : w3.cell? ⟨w.heap.size, 2, none⟩ = some (.int .i64 0) := (blk_cell C0.out 2).trans rfl; have g2 := blk_frozen C0.out 2; have q3 : w3.cell? ⟨w.heap.size, 3, none⟩ = some (.int .i64 0) := (blk_cell C0.out 3).trans rfl; have g3 := blk_frozen C0.out 3))
                      refine bodyPost_ret (results_cell_row rfl _ _ w.heap.size 48 #[.slice none 0 0, .slice none 0 0, .int .i64 1, .int .i64 (i : Int)] (0, 0) _ rfl (blk_put (cs := #[.slice none 0 0, .slice none 0 0, .int .i64 1, .int .i64 0]) (blk_put (cs := #[.slice none 0 0, .slice none 0 0, .int .i64 0, .int .i64 0]) (blk_put (cs := #[.slice none 0 0, .slice none 0 0, .int .i64 0, .int .i64 0]) (blk_put (cs := #[.slice none 0 0, .slice none 0 0, .int .i64 0, .int .i64 0]) C0.out 0 _ rfl) 1 _ rfl) 2 _ rfl) 3 _ rfl) Tryd.underlying48 rfl (by kernel_rfl)) rfl ?_
                      rw [← HM3.out]
                      exact ends_bad 1 _ (below_set (below_set (below_set (below_set HB.out (Nat.le_refl _)) (Nat.le_refl _)) (Nat.le_refl _)) (Nat.le_refl _))
                  · have m2 : decide (many = 0) = false := decide_eq_false m1
                    by_cases p1 : part = 2
                    · rw [if_pos (Or.inl (by omega))] at HM3
                      have p2 : decide (part = 2) = true := decide_eq_true p1
                      by_cases d2 : k < s.size
                      · have hk32 : s.get! k = 32 := Decidable.byContradiction fun h => d1 ⟨d2, h⟩
                        have eb : s.get! k = s[k]'d2 := by show s.data[k]! = s.data[k]'d2; exact getElem!_pos s.data k d2
                        have d1d : (((s[k]'d2).toNat : Int) != 32) = false := by rw [← eb, hk32]; rfl
                        have d1z : 0 ≤ (k : Int) := by omega
                        have d1b : decide (k < s.size) = true := decide_eq_true d2
                        clear d1 hk32 eb
                        go_wp2_with (first | (go_at_call 70; refine (impl_oddRune.calls _ _ _ HO.out (HT.out.below HB.out)).mono ?_; rintro e w1 ⟨rfl, hb⟩; replace C0 := Aside0.mk (blk_below C0.out hb); replace C1 := Aside0.mk (blk_below C1.out hb); replace C2 := Aside0.mk (blk_below C2.out hb); replace HU0 := Aside0.mk (Kd.R_below HU0.out hb); replace HU1 := Aside0.mk (Kd.R_below HU1.out hb); replace HB := Aside0.mk (below_step HB.out hb); clear hb; replace k2 : w1.cell? ⟨b8, 0, none⟩ = some (.int .i64 (i : Int)) := (blk_cell C2.out 0).trans rfl; replace f2 : w1.frozen? ⟨b8, 0, none⟩ = false := blk_frozen C2.out 0) | (go_at_call 71; refine (isw_calls t true _ HW.out).mono ?_; rintro e w2 ⟨rfl, hb⟩; replace C0 := Aside0.mk (blk_below C0.out hb); replace C1 := Aside0.mk (blk_below C1.out hb); replace C2 := Aside0.mk (blk_below C2.out hb); replace HU0 := Aside0.mk (Kd.R_below HU0.out hb); replace HU1 := Aside0.mk (Kd.R_below HU1.out hb); replace HB := Aside0.mk (below_step HB.out hb); clear hb; replace k2 : w2.cell? ⟨b8, 0, none⟩ = some (.int .i64 (i : Int)) := (blk_cell C2.out 0).trans rfl; replace f2 : w2.frozen? ⟨b8, 0, none⟩ = false := blk_frozen C2.out 0) | (go_at_call 69; refine (fault_calls 1 i b8 _ C2.out).mono ?_; rintro e w3 ⟨rfl, hb⟩; replace C0 := Aside0.mk (blk_below C0.out hb); replace C1 := Aside0.mk (blk_below C1.out hb); replace C2 := Aside0.mk (blk_below C2.out hb); replace HU0 := Aside0.mk (Kd.R_below HU0.out hb); replace HU1 := Aside0.mk (Kd.R_below HU1.out hb); replace HB := Aside0.mk (below_step HB.out hb); clear hb; replace k2 : w3.cell? ⟨b8, 0, none⟩ = some (.int .i64 (i : Int)) := (blk_cell C2.out 0).trans rfl; replace f2 : w3.frozen? ⟨b8, 0, none⟩ = false := blk_frozen C2.out 0; have q0 : w3.cell? ⟨w.heap.size, 0, none⟩ = some (.slice none 0 0) := (blk_cell C0.out 0).trans rfl; have g0 := blk_frozen C0.out 0; have q1 : w3.cell? ⟨w.heap.size, 1, none⟩ = some (.slice none 0 0) := (blk_cell C0.out 1).trans rfl; have g1 := blk_frozen C0.out 1; have q2 : w3.cell? ⟨w.heap.size, 2, none⟩ = some (.int .i64 0) := (blk_cell C0.out 2).trans rfl; have g2 := blk_frozen C0.out 2; have q3 : w3.cell? ⟨w.heap.size, 3, none⟩ = some (.int .i64 0) := (blk_cell C0.out 3).trans rfl; have g3 := blk_frozen C0.out 3))
                        refine bodyPost_ret (results_cell_row rfl _ _ w.heap.size 48 #[.slice none 0 0, .slice none 0 0, .int .i64 1, .int .i64 (i : Int)] (0, 0) _ rfl (blk_put (cs := #[.slice none 0 0, .slice none 0 0, .int .i64 1, .int .i64 0]) (blk_put (cs := #[.slice none 0 0, .slice none 0 0, .int .i64 0, .int .i64 0]) (blk_put (cs := #[.slice none 0 0, .slice none 0 0, .int .i64 0, .int .i64 0]) (blk_put (cs := #[.slice none 0 0, .slice none 0 0, .int .i64 0, .int .i64 0]) C0.out 0 _ rfl) 1 _ rfl) 2 _ rfl) 3 _ rfl) Tryd.underlying48 rfl (by kernel_rfl)) rfl ?_
                        rw [← HM3.out]
                        exact ends_bad 1 _ (below_set (below_set (below_set (below_set HB.out (Nat.le_refl _)) (Nat.le_refl _)) (Nat.le_refl _)) (Nat.le_refl _))
                      · have d1b : decide (k < s.size) = false := decide_eq_false d2
                        clear d1
                        go_wp2_with (first | (go_at_call 70; refine (impl_oddRune.calls _ _ _ HO.out (HT.out.below HB.out)).mono ?_; rintro e w1 ⟨rfl, hb⟩; replace C0 := Aside0.mk (blk_below C0.out hb); replace C1 := Aside0.mk (blk_below C1.out hb); replace C2 := Aside0.mk (blk_below C2.out hb); replace HU0 := Aside0.mk (Kd.R_below HU0.out hb); replace HU1 := Aside0.mk (Kd.R_below HU1.out hb); replace HB := Aside0.mk (below_step HB.out hb); clear hb; replace k2 : w1.cell? ⟨b8, 0, none⟩ = some (.int .i64 (i : Int)) := (blk_cell C2.out 0).trans rfl; replace f2 : w1.frozen? ⟨b8, 0, none⟩ = false := blk_frozen C2.out 0) | (go_at_call 71; refine (isw_calls t true _ HW.out).mono ?_; rintro e w2 ⟨rfl, hb⟩; replace C0 := Aside0.mk (blk_below C0.out hb); replace C1 := Aside0.mk (blk_below C1.out hb); replace C2 := Aside0.mk (blk_below C2.out hb); replace HU0 := Aside0.mk (Kd.R_below HU0.out hb); replace HU1 := Aside0.mk (Kd.R_below HU1.out hb); replace HB := Aside0.mk (below_step HB.out hb); clear hb; replace k2 : w2.cell? ⟨b8, 0, none⟩ = some (.int .i64 (i : Int)) := (blk_cell C2.out 0).trans rfl; replace f2 : w2.frozen? ⟨b8, 0, none⟩ = false := blk_frozen C2.out 0) | (go_at_call 69; refine (fault_calls 1 i b8 _ C2.out).mono ?_; rintro e w3 ⟨rfl, hb⟩; replace C0 := Aside0.mk (blk_below C0.out hb); replace C1 := Aside0.mk (blk_below C1.out hb); replace C2 := Aside0.mk (blk_below C2.out hb); replace HU0 := Aside0.mk (Kd.R_below HU0.out hb); replace HU1 := Aside0.mk (Kd.R_below HU1.out hb); replace HB := Aside0.mk (below_step HB.out hb); clear hb; replace k2 : w3.cell? ⟨b8, 0, none⟩ = some (.int .i64 (i : Int)) := (blk_cell C2.out 0).trans rfl; replace f2 : w3.frozen? ⟨b8, 0, none⟩ = false := blk_frozen C2.out 0; have q0 : w3.cell? ⟨w.heap.size, 0, none⟩ = some (.slice none 0 0) := (blk_cell C0.out 0).trans rfl; have g0 := blk_frozen C0.out 0; have q1 : w3.cell? ⟨w.heap.size, 1, none⟩ = some (.slice none 0 0) := (blk_cell C0.out 1).trans rfl; have g1 := blk_frozen C0.out 1; have q2 : w3.cell? ⟨w.heap.size, 2, none⟩ = some (.int .i64 0) := (blk_cell C0.out 2).trans rfl; have g2 := blk_frozen C0.out 2; have q3 : w3.cell? ⟨w.heap.size, 3, none⟩ = some (.int .i64 0) := (blk_cell C0.out 3).trans rfl; have g3 := blk_frozen C0.out 3))
                        refine bodyPost_ret (results_cell_row rfl _ _ w.heap.size 48 #[.slice none 0 0, .slice none 0 0, .int .i64 1, .int .i64 (i : Int)] (0, 0) _ rfl (blk_put (cs := #[.slice none 0 0, .slice none 0 0, .int .i64 1, .int .i64 0]) (blk_put (cs := #[.slice none 0 0, .slice none 0 0, .int .i64 0, .int .i64 0]) (blk_put (cs := #[.slice none 0 0, .slice none 0 0, .int .i64 0, .int .i64 0]) (blk_put (cs := #[.slice none 0 0, .slice none 0 0, .int .i64 0, .int .i64 0]) C0.out 0 _ rfl) 1 _ rfl) 2 _ rfl) 3 _ rfl) Tryd.underlying48 rfl (by kernel_rfl)) rfl ?_
                        rw [← HM3.out]
                        exact ends_bad 1 _ (below_set (below_set (below_set (below_set HB.out (Nat.le_refl _)) (Nat.le_refl _)) (Nat.le_refl _)) (Nat.le_refl _))
                    · have p2 : decide (part = 2) = false := decide_eq_false p1
                      by_cases p3 : part = 1
                      · rw [if_pos (Or.inl (by omega))] at HM3
                        have hfr : fr = true := (HP.out.2.2.2.1 p3).1
                        subst hfr
                        by_cases d2 : k < s.size
                        · have hk32 : s.get! k = 32 := Decidable.byContradiction fun h => d1 ⟨d2, h⟩
                          have eb : s.get! k = s[k]'d2 := by show s.data[k]! = s.data[k]'d2; exact getElem!_pos s.data k d2
                          have d1d : (((s[k]'d2).toNat : Int) != 32) = false := by rw [← eb, hk32]; rfl
                          have d1z : 0 ≤ (k : Int) := by omega
                          have d1b : decide (k < s.size) = true := decide_eq_true d2
                          clear d1 hk32 eb
                          go_wp2_with (first | (go_at_call 70; refine (impl_oddRune.calls _ _ _ HO.out (HT.out.below HB.out)).mono ?_; rintro e w1 ⟨rfl, hb⟩; replace C0 := Aside0.mk (blk_below C0.out hb); replace C1 := Aside0.mk (blk_below C1.out hb); replace C2 := Aside0.mk (blk_below C2.out hb); replace HU0 := Aside0.mk (Kd.R_below HU0.out hb); replace HU1 := Aside0.mk (Kd.R_below HU1.out hb); replace HB := Aside0.mk (below_step HB.out hb); clear hb; replace k2 : w1.cell? ⟨b8, 0, none⟩ = some (.int .i64 (i : Int)) := (blk_cell C2.out 0).trans rfl; replace f2 : w1.frozen? ⟨b8, 0, none⟩ = false := blk_frozen C2.out 0) | (go_at_call 71; refine (isw_calls t true _ HW.out).mono ?_; rintro e w2 ⟨rfl, hb⟩; replace C0 := Aside0.mk (blk_below C0.out hb); replace C1 := Aside0.mk (blk_below C1.out hb); replace C2 := Aside0.mk (blk_below C2.out hb); replace HU0 := Aside0.mk (Kd.R_below HU0.out hb); replace HU1 := Aside0.mk (Kd.R_below HU1.out hb); replace HB := Aside0.mk (below_step HB.out hb); clear hb; replace k2 : w2.cell? ⟨b8, 0, none⟩ = some (.int .i64 (i : Int)) := (blk_cell C2.out 0).trans rfl; replace f2 : w2.frozen? ⟨b8, 0, none⟩ = false := blk_frozen C2.out 0) | (go_at_call 69; refine (fault_calls 1 i b8 _ C2.out).mono ?_; rintro e w3 ⟨rfl, hb⟩; replace C0 := Aside0.mk (blk_below C0.out hb); replace C1 := Aside0.mk (blk_below C1.out hb); replace C2 := Aside0.mk (blk_below C2.out hb); replace HU0 := Aside0.mk (Kd.R_below HU0.out hb); replace HU1 := Aside0.mk (Kd.R_below HU1.out hb); replace HB := Aside0.mk (below_step HB.out hb); clear hb; replace k2 : w3.cell? ⟨b8, 0, none⟩ = some (.int .i64 (i : Int)) := (blk_cell C2.out 0).trans rfl; replace f2 : w3.frozen? ⟨b8, 0, none⟩ = false := blk_frozen C2.out 0; have q0 : w3.cell? ⟨w.heap.size, 0, none⟩ = some (.slice none 0 0) := (blk_cell C0.out 0).trans rfl; have g0 := blk_frozen C0.out 0; have q1 : w3.cell? ⟨w.heap.size, 1, none⟩ = some (.slice none 0 0) := (blk_cell C0.out 1).trans rfl; have g1 := blk_frozen C0.out 1; have q2 : w3.cell? ⟨w.heap.size, 2, none⟩ = some (.int .i64 0) := (blk_cell C0.out 2).trans rfl; have g2 := blk_frozen C0.out 2; have q3 : w3.cell? ⟨w.heap.size, 3, none⟩ = some (.int .i64 0) := (blk_cell C0.out 3).trans rfl; have g3 := blk_frozen C0.out 3))
                          refine bodyPost_ret (results_cell_row rfl _ _ w.heap.size 48 #[.slice none 0 0, .slice none 0 0, .int .i64 1, .int .i64 (i : Int)] (0, 0) _ rfl (blk_put (cs := #[.slice none 0 0, .slice none 0 0, .int .i64 1, .int .i64 0]) (blk_put (cs := #[.slice none 0 0, .slice none 0 0, .int .i64 0, .int .i64 0]) (blk_put (cs := #[.slice none 0 0, .slice none 0 0, .int .i64 0, .int .i64 0]) (blk_put (cs := #[.slice none 0 0, .slice none 0 0, .int .i64 0, .int .i64 0]) C0.out 0 _ rfl) 1 _ rfl) 2 _ rfl) 3 _ rfl) Tryd.underlying48 rfl (by kernel_rfl)) rfl ?_
                          rw [← HM3.out]
                          exact ends_bad 1 _ (below_set (below_set (below_set (below_set HB.out (Nat.le_refl _)) (Nat.le_refl _)) (Nat.le_refl _)) (Nat.le_refl _))
                        · have d1b : decide (k < s.size) = false := decide_eq_false d2
                          clear d1
                          go_wp2_with (first | (go_at_call 70; refine (impl_oddRune.calls _ _ _ HO.out (HT.out.below HB.out)).mono ?_; rintro e w1 ⟨rfl, hb⟩; replace C0 := Aside0.mk (blk_below C0.out hb); replace C1 := Aside0.mk (blk_below C1.out hb); replace C2 := Aside0.mk (blk_below C2.out hb); replace HU0 := Aside0.mk (Kd.R_below HU0.out hb); replace HU1 := Aside0.mk (Kd.R_below HU1.out hb); replace HB := Aside0.mk (below_step HB.out hb); clear hb; replace k2 : w1.cell? ⟨b8, 0, none⟩ = some (.int .i64 (i : Int)) := (blk_cell C2.out 0).trans rfl; replace f2 : w1.frozen? ⟨b8, 0, none⟩ = false := blk_frozen C2.out 0) | (go_at_call 71; refine (isw_calls t true _ HW.out).mono ?_; rintro e w2 ⟨rfl, hb⟩; replace C0 := Aside0.mk (blk_below C0.out hb); replace C1 := Aside0.mk (blk_below C1.out hb); replace C2 := Aside0.mk (blk_below C2.out hb); replace HU0 := Aside0.mk (Kd.R_below HU0.out hb); replace HU1 := Aside0.mk (Kd.R_below HU1.out hb); replace HB := Aside0.mk (below_step HB.out hb); clear hb; replace k2 : w2.cell? ⟨b8, 0, none⟩ = some (.int .i64 (i : Int)) := (blk_cell C2.out 0).trans rfl; replace f2 : w2.frozen? ⟨b8, 0, none⟩ = false := blk_frozen C2.out 0) | (go_at_call 69; refine (fault_calls 1 i b8 _ C2.out).mono ?_; rintro e w3 ⟨rfl, hb⟩; replace C0 := Aside0.mk (blk_below C0.out hb); replace C1 := Aside0.mk (blk_below C1.out hb); replace C2 := Aside0.mk (blk_below C2.out hb); replace HU0 := Aside0.mk (Kd.R_below HU0.out hb); replace HU1 := Aside0.mk (Kd.R_below HU1.out hb); replace HB := Aside0.mk (below_step HB.out hb); clear hb; replace k2 : w3.cell? ⟨b8, 0, none⟩ = some (.int .i64 (i : Int)) := (blk_cell C2.out 0).trans rfl; replace f2 : w3.frozen? ⟨b8, 0, none⟩ = false := blk_frozen C2.out 0; have q0 : w3.cell? ⟨w.heap.size, 0, none⟩ = some (.slice none 0 0) := (blk_cell C0.out 0).trans rfl; have g0 := blk_frozen C0.out 0; have q1 : w3.cell? ⟨w.heap.size, 1, none⟩ = some (.slice none 0 0) := (blk_cell C0.out 1).trans rfl; have g1 := blk_frozen C0.out 1; have q2 : w3.cell? ⟨w.heap.size, 2, none⟩ = some (.int .i64 0) := (blk_cell C0.out 2).trans rfl; have g2 := blk_frozen C0.out 2; have q3 : w3.cell? ⟨w.heap.size, 3, none⟩ = some (.int .i64 0) := (blk_cell C0.out 3).trans rfl; have g3 := blk_frozen C0.out 3))
                          refine bodyPost_ret (results_cell_row rfl _ _ w.heap.size 48 #[.slice none 0 0, .slice none 0 0, .int .i64 1, .int .i64 (i : Int)] (0, 0) _ rfl (blk_put (cs := #[.slice none 0 0, .slice none 0 0, .int .i64 1, .int .i64 0]) (blk_put (cs := #[.slice none 0 0, .slice none 0 0, .int .i64 0, .int .i64 0]) (blk_put (cs := #[.slice none 0 0, .slice none 0 0, .int .i64 0, .int .i64 0]) (blk_put (cs := #[.slice none 0 0, .slice none 0 0, .int .i64 0, .int .i64 0]) C0.out 0 _ rfl) 1 _ rfl) 2 _ rfl) 3 _ rfl) Tryd.underlying48 rfl (by kernel_rfl)) rfl ?_
                          rw [← HM3.out]
                          exact ends_bad 1 _ (below_set (below_set (below_set (below_set HB.out (Nat.le_refl _)) (Nat.le_refl _)) (Nat.le_refl _)) (Nat.le_refl _))
                      · have p0 : part = 0 := by have := HP.out.1; omega
                        have hfr : fr = false := (HP.out.2.2.1 p0).1
                        subst hfr
                        rw [if_neg (by omega)] at HM3
                        by_cases d2 : k < s.size
                        · have hk32 : s.get! k = 32 := Decidable.byContradiction fun h => d1 ⟨d2, h⟩
                          have eb : s.get! k = s[k]'d2 := by show s.data[k]! = s.data[k]'d2; exact getElem!_pos s.data k d2
                          have d1d : (((s[k]'d2).toNat : Int) != 32) = false := by rw [← eb, hk32]; rfl
                          have d1z : 0 ≤ (k : Int) := by omega
                          have d1b : decide (k < s.size) = true := decide_eq_true d2
                          clear d1 hk32 eb
                          go_wp2_with (first | (go_at_call 70; refine (impl_oddRune.calls _ _ _ HO.out (HT.out.below HB.out)).mono ?_; rintro e w1 ⟨rfl, hb⟩; replace C0 := Aside0.mk (blk_below C0.out hb); replace C1 := Aside0.mk (blk_below C1.out hb); replace C2 := Aside0.mk (blk_below C2.out hb); replace HU0 := Aside0.mk (Kd.R_below HU0.out hb); replace HU1 := Aside0.mk (Kd.R_below HU1.out hb); replace HB := Aside0.mk (below_step HB.out hb); clear hb; replace k2 : w1.cell? ⟨b8, 0, none⟩ = some (.int .i64 (i : Int)) := (blk_cell C2.out 0).trans rfl; replace f2 : w1.frozen? ⟨b8, 0, none⟩ = false := blk_frozen C2.out 0) | (go_at_call 71; refine (isw_calls t true _ HW.out).mono ?_; rintro e w2 ⟨rfl, hb⟩; replace C0 := Aside0.mk (blk_below C0.out hb); replace C1 := Aside0.mk (blk_below C1.out hb); replace C2 := Aside0.mk (blk_below C2.out hb); replace HU0 := Aside0.mk (Kd.R_below HU0.out hb); replace HU1 := Aside0.mk (Kd.R_below HU1.out hb); replace HB := Aside0.mk (below_step HB.out hb); clear hb; replace k2 : w2.cell? ⟨b8, 0, none⟩ = some (.int .i64 (i : Int)) := (blk_cell C2.out 0).trans rfl; replace f2 : w2.frozen? ⟨b8, 0, none⟩ = false := blk_frozen C2.out 0))
                          go_roundg g
                          case measure => omega
                          case rel =>
                            have hlt := blk_lt C2.out
                            have n1 := blk_new ((w2).setCell ⟨b8, 0, none⟩ (.int .i64 (k : Int))) (Obj.cells #[.int .i64 (k : Int)] 3)
                            have hn := HN.out
                            have hi := HI.out
                            have hp := HP.out
                            have n2 : (((w2).setCell ⟨b8, 0, none⟩ (.int .i64 (k : Int))).alloc (Obj.cells #[.int .i64 (k : Int)] 3)).heap[(w2).heap.size]? = some (.cells #[.int .i64 (k : Int)] 3 (0, 0)) := by simpa using n1
                            have hlt2 : b8 < (w2).heap.size := by simpa using hlt
                            exact ⟨k, 1, 0, R, A, u0, u1, (w2).heap.size, true, (some ⟨w.heap.size + 1, 0, none⟩), rfl, rfl, rfl, rfl, rfl, ⟨rfl⟩, HM3, ⟨by omega⟩, ⟨by omega, by omega, fun h => absurd h (by decide), fun _ => ⟨rfl, (hp.2.2.1 p0).2.2⟩, fun _ => hp.2.2.2.2.1 (by omega), fun h => absurd h (by decide), hp.2.2.2.2.2.2.1, hp.2.2.2.2.2.2.2⟩, ⟨blk_alloc (blk_far C0.out (by show w.heap.size ≠ b8; omega) _) _⟩, ⟨blk_alloc (blk_far C1.out (by show w.heap.size + 1 ≠ b8; omega) _) _⟩, ⟨n2⟩, ⟨by omega⟩, ⟨Kd.R_alloc (Kd.R_mono (Kd.R_far (p := ⟨b8, 0, none⟩) (Kd.R_types HU0.out C2.out (by decide)) (fun _ hk => hk.2) _) (fun _ hk => hk.1)) _⟩, ⟨Kd.R_alloc (Kd.R_mono (Kd.R_far (p := ⟨b8, 0, none⟩) (Kd.R_types HU1.out C2.out (by decide)) (fun _ hk => hk.2) _) (fun _ hk => hk.1)) _⟩, ⟨below_alloc (below_set HB.out (by omega)) _⟩⟩
                        · have d1b : decide (k < s.size) = false := decide_eq_false d2
                          clear d1
                          go_wp2_with (first | (go_at_call 70; refine (impl_oddRune.calls _ _ _ HO.out (HT.out.below HB.out)).mono ?_; rintro e w1 ⟨rfl, hb⟩; replace C0 := Aside0.mk (blk_below C0.out hb); replace C1 := Aside0.mk (blk_below C1.out hb); replace C2 := Aside0.mk (blk_below C2.out hb); replace HU0 := Aside0.mk (Kd.R_below HU0.out hb); replace HU1 := Aside0.mk (Kd.R_below HU1.out hb); replace HB := Aside0.mk (below_step HB.out hb); clear hb; replace k2 : w1.cell? ⟨b8, 0, none⟩ = some (.int .i64 (i : Int)) := (blk_cell C2.out 0).trans rfl; replace f2 : w1.frozen? ⟨b8, 0, none⟩ = false := blk_frozen C2.out 0) | (go_at_call 71; refine (isw_calls t true _ HW.out).mono ?_; rintro e w2 ⟨rfl, hb⟩; replace C0 := Aside0.mk (blk_below C0.out hb); replace C1 := Aside0.mk (blk_below C1.out hb); replace C2 := Aside0.mk (blk_below C2.out hb); replace HU0 := Aside0.mk (Kd.R_below HU0.out hb); replace HU1 := Aside0.mk (Kd.R_below HU1.out hb); replace HB := Aside0.mk (below_step HB.out hb); clear hb; replace k2 : w2.cell? ⟨b8, 0, none⟩ = some (.int .i64 (i : Int)) := (blk_cell C2.out 0).trans rfl; replace f2 : w2.frozen? ⟨b8, 0, none⟩ = false := blk_frozen C2.out 0))
                          go_roundg g
                          case measure => omega
                          case rel =>
                            have hlt := blk_lt C2.out
                            have n1 := blk_new ((w2).setCell ⟨b8, 0, none⟩ (.int .i64 (k : Int))) (Obj.cells #[.int .i64 (k : Int)] 3)
                            have hn := HN.out
                            have hi := HI.out
                            have hp := HP.out
                            have n2 : (((w2).setCell ⟨b8, 0, none⟩ (.int .i64 (k : Int))).alloc (Obj.cells #[.int .i64 (k : Int)] 3)).heap[(w2).heap.size]? = some (.cells #[.int .i64 (k : Int)] 3 (0, 0)) := by simpa using n1
                            have hlt2 : b8 < (w2).heap.size := by simpa using hlt
                            exact ⟨k, 1, 0, R, A, u0, u1, (w2).heap.size, true, (some ⟨w.heap.size + 1, 0, none⟩), rfl, rfl, rfl, rfl, rfl, ⟨rfl⟩, HM3, ⟨by omega⟩, ⟨by omega, by omega, fun h => absurd h (by decide), fun _ => ⟨rfl, (hp.2.2.1 p0).2.2⟩, fun _ => hp.2.2.2.2.1 (by omega), fun h => absurd h (by decide), hp.2.2.2.2.2.2.1, hp.2.2.2.2.2.2.2⟩, ⟨blk_alloc (blk_far C0.out (by show w.heap.size ≠ b8; omega) _) _⟩, ⟨blk_alloc (blk_far C1.out (by show w.heap.size + 1 ≠ b8; omega) _) _⟩, ⟨n2⟩, ⟨by omega⟩, ⟨Kd.R_alloc (Kd.R_mono (Kd.R_far (p := ⟨b8, 0, none⟩) (Kd.R_types HU0.out C2.out (by decide)) (fun _ hk => hk.2) _) (fun _ hk => hk.1)) _⟩, ⟨Kd.R_alloc (Kd.R_mono (Kd.R_far (p := ⟨b8, 0, none⟩) (Kd.R_types HU1.out C2.out (by decide)) (fun _ hk => hk.2) _) (fun _ hk => hk.1)) _⟩, ⟨below_alloc (below_set HB.out (by omega)) _⟩⟩
                · rw [if_neg r1] at HM3
                  have r2 : (t.toList == ([114, 101, 97, 99, 104] : List UInt8)) = false := beq_eq_false_iff_ne.mpr (fun e => r1 (decide_eq_true e))
                  by_cases v1 : isAvoid t = true
                  · rw [if_pos v1] at HM3
                    have HW : Aside0 (impl_isWord.f t = some true) := ⟨by rw [isw_eq]; exact congrArg some (decide_eq_true (.inr (of_decide_eq_true v1)))⟩
                    by_cases m1 : many = 0
                    · rw [if_pos (Or.inr m1)] at HM3
                      have m2 : decide (many = 0) = true := decide_eq_true m1
                      by_cases d2 : k < s.size
                      · have hk32 : s.get! k = 32 := Decidable.byContradiction fun h => d1 ⟨d2, h⟩
                        have eb : s.get! k = s[k]'d2 := by show s.data[k]! = s.data[k]'d2; exact getElem!_pos s.data k d2
                        have d1d : (((s[k]'d2).toNat : Int) != 32) = false := by rw [← eb, hk32]; rfl
                        have d1z : 0 ≤ (k : Int) := by omega
                        have d1b : decide (k < s.size) = true := decide_eq_true d2
                        clear d1 hk32 eb
                        go_wp2_with (first | (go_at_call 70; refine (impl_oddRune.calls _ _ _ HO.out (HT.out.below HB.out)).mono ?_; rintro e w1 ⟨rfl, hb⟩; replace C0 := Aside0.mk (blk_below C0.out hb); replace C1 := Aside0.mk (blk_below C1.out hb); replace C2 := Aside0.mk (blk_below C2.out hb); replace HU0 := Aside0.mk (Kd.R_below HU0.out hb); replace HU1 := Aside0.mk (Kd.R_below HU1.out hb); replace HB := Aside0.mk (below_step HB.out hb); clear hb; replace k2 : w1.cell? ⟨b8, 0, none⟩ = some (.int .i64 (i : Int)) := (blk_cell C2.out 0).trans rfl; replace f2 : w1.frozen? ⟨b8, 0, none⟩ = false := blk_frozen C2.out 0) | (go_at_call 71; refine (isw_calls t true _ HW.out).mono ?_; rintro e w2 ⟨rfl, hb⟩; replace C0 := Aside0.mk (blk_below C0.out hb); replace C1 := Aside0.mk (blk_below C1.out hb); replace C2 := Aside0.mk (blk_below C2.out hb); replace HU0 := Aside0.mk (Kd.R_below HU0.out hb); replace HU1 := Aside0.mk (Kd.R_below HU1.out hb); replace HB := Aside0.mk (below_step HB.out hb); clear hb; replace k2 : w2.cell? ⟨b8, 0, none⟩ = some (.int .i64 (i : Int)) := (blk_cell C2.out 0).trans rfl; replace f2 : w2.frozen? ⟨b8, 0, none⟩ = false := blk_frozen C2.out 0) | (go_at_call 69; refine (fault_calls 1 i b8 _ C2.out).mono ?_; rintro e w3 ⟨rfl, hb⟩; replace C0 := Aside0.mk (blk_below C0.out hb); replace C1 := Aside0.mk (blk_below C1.out hb); replace C2 := Aside0.mk (blk_below C2.out hb); replace HU0 := Aside0.mk (Kd.R_below HU0.out hb); replace HU1 := Aside0.mk (Kd.R_below HU1.out hb); replace HB := Aside0.mk (below_step HB.out hb); clear hb; replace k2 : w3.cell? ⟨b8, 0, none⟩ = some (.int .i64 (i : Int)) := (blk_cell C2.out 0).trans rfl; replace f2 : w3.frozen? ⟨b8, 0, none⟩ = false := blk_frozen C2.out 0; have q0 : w3.cell? ⟨w.heap.size, 0, none⟩ = some (.slice none 0 0) := (blk_cell C0.out 0).trans rfl; have g0 := blk_frozen C0.out 0; have q1 : w3.cell? ⟨w.heap.size, 1, none⟩ = some (.slice none 0 0) := (blk_cell C0.out 1).trans rfl; have g1 := blk_frozen C0.out 1; have q2 : w3.cell? ⟨w.heap.size, 2, none⟩ = some (.int .i64 0) := (blk_cell C0.out 2).trans rfl; have g2 := blk_frozen C0.out 2; have q3 : w3.cell? ⟨w.heap.size, 3, none⟩ = some (.int .i64 0) := (blk_cell C0.out 3).trans rfl; have g3 := blk_frozen C0.out 3))
                        refine bodyPost_ret (results_cell_row rfl _ _ w.heap.size 48 #[.slice none 0 0, .slice none 0 0, .int .i64 1, .int .i64 (i : Int)] (0, 0) _ rfl (blk_put (cs := #[.slice none 0 0, .slice none 0 0, .int .i64 1, .int .i64 0]) (blk_put (cs := #[.slice none 0 0, .slice none 0 0, .int .i64 0, .int .i64 0]) (blk_put (cs := #[.slice none 0 0, .slice none 0 0, .int .i64 0, .int .i64 0]) (blk_put (cs := #[.slice none 0 0, .slice none 0 0, .int .i64 0, .int .i64 0]) C0.out 0 _ rfl) 1 _ rfl) 2 _ rfl) 3 _ rfl) Tryd.underlying48 rfl (by kernel_rfl)) rfl ?_
                        rw [← HM3.out]
                        exact ends_bad 1 _ (below_set (below_set (below_set (below_set HB.out (Nat.le_refl _)) (Nat.le_refl _)) (Nat.le_refl _)) (Nat.le_refl _))
                      · have d1b : decide (k < s.size) = false := decide_eq_false d2
                        clear d1
                        go_wp2_with (first | (go_at_call 70; refine (impl_oddRune.calls _ _ _ HO.out (HT.out.below HB.out)).mono ?_; rintro e w1 ⟨rfl, hb⟩; replace C0 := Aside0.mk (blk_below C0.out hb); replace C1 := Aside0.mk (blk_below C1.out hb); replace C2 := Aside0.mk (blk_below C2.out hb); replace HU0 := Aside0.mk (Kd.R_below HU0.out hb); replace HU1 := Aside0.mk (Kd.R_below HU1.out hb); replace HB := Aside0.mk (below_step HB.out hb); clear hb; replace k2 : w1.cell? ⟨b8, 0, none⟩ = some (.int .i64 (i : Int)) := (blk_cell C2.out 0).trans rfl; replace f2 : w1.frozen? ⟨b8, 0, none⟩ = false := blk_frozen C2.out 0) | (go_at_call 71; refine (isw_calls t true _ HW.out).mono ?_; rintro e w2 ⟨rfl, hb⟩; replace C0 := Aside0.mk (blk_below C0.out hb); replace C1 := Aside0.mk (blk_below C1.out hb); replace C2 := Aside0.mk (blk_below C2.out hb); replace HU0 := Aside0.mk (Kd.R_below HU0.out hb); replace HU1 := Aside0.mk (Kd.R_below HU1.out hb); replace HB := Aside0.mk (below_step HB.out hb); clear hb; replace k2 : w2.cell? ⟨b8, 0, none⟩ = some (.int .i64 (i : Int)) := (blk_cell C2.out 0).trans rfl; replace f2 : w2.frozen? ⟨b8, 0, none⟩ = false := blk_frozen C2.out 0) | (go_at_call 69; refine (fault_calls 1 i b8 _ C2.out).mono ?_; rintro e w3 ⟨rfl, hb⟩; replace C0 := Aside0.mk (blk_below C0.out hb); replace C1 := Aside0.mk (blk_below C1.out hb); replace C2 := Aside0.mk (blk_below C2.out hb); replace HU0 := Aside0.mk (Kd.R_below HU0.out hb); replace HU1 := Aside0.mk (Kd.R_below HU1.out hb); replace HB := Aside0.mk (below_step HB.out hb); clear hb; replace k2 : w3.cell? ⟨b8, 0, none⟩ = some (.int .i64 (i : Int)) := (blk_cell C2.out 0).trans rfl; replace f2 : w3.frozen? ⟨b8, 0, none⟩ = false := blk_frozen C2.out 0; have q0 : w3.cell? ⟨w.heap.size, 0, none⟩ = some (.slice none 0 0) := (blk_cell C0.out 0).trans rfl; have g0 := blk_frozen C0.out 0; have q1 : w3.cell? ⟨w.heap.size, 1, none⟩ = some (.slice none 0 0) := (blk_cell C0.out 1).trans rfl; have g1 := blk_frozen C0.out 1; have q2 : w3.cell? ⟨w.heap.size, 2, none⟩ = some (.int .i64 0) := (blk_cell C0.out 2).trans rfl; have g2 := blk_frozen C0.out 2; have q3 : w3.cell? ⟨w.heap.size, 3, none⟩ = some (.int .i64 0) := (blk_cell C0.out 3).trans rfl; have g3 := blk_frozen C0.out 3))
                        refine bodyPost_ret (results_cell_row rfl _ _ w.heap.size 48 #[.slice none 0 0, .slice none 0 0, .int .i64 1, .int .i64 (i : Int)] (0, 0) _ rfl (blk_put (cs := #[.slice none 0 0, .slice none 0 0, .int .i64 1, .int .i64 0]) (blk_put (cs := #[.slice none 0 0, .slice none 0 0, .int .i64 0, .int .i64 0]) (blk_put (cs := #[.slice none 0 0, .slice none 0 0, .int .i64 0, .int .i64 0]) (blk_put (cs := #[.slice none 0 0, .slice none 0 0, .int .i64 0, .int .i64 0]) C0.out 0 _ rfl) 1 _ rfl) 2 _ rfl) 3 _ rfl) Tryd.underlying48 rfl (by kernel_rfl)) rfl ?_
                        rw [← HM3.out]
                        exact ends_bad 1 _ (below_set (below_set (below_set (below_set HB.out (Nat.le_refl _)) (Nat.le_refl _)) (Nat.le_refl _)) (Nat.le_refl _))
                    · have m2 : decide (many = 0) = false := decide_eq_false m1
                      by_cases p1 : part = 2
                      · rw [if_pos (Or.inl (by omega))] at HM3
                        have p2 : decide (part = 2) = true := decide_eq_true p1
                        by_cases d2 : k < s.size
                        · have hk32 : s.get! k = 32 := Decidable.byContradiction fun h => d1 ⟨d2, h⟩
                          have eb : s.get! k = s[k]'d2 := by show s.data[k]! = s.data[k]'d2; exact getElem!_pos s.data k d2
                          have d1d : (((s[k]'d2).toNat : Int) != 32) = false := by rw [← eb, hk32]; rfl
                          have d1z : 0 ≤ (k : Int) := by omega
                          have d1b : decide (k < s.size) = true := decide_eq_true d2
                          clear d1 hk32 eb
                          go_wp2_with (first | (go_at_call 70; refine (impl_oddRune.calls _ _ _ HO.out (HT.out.below HB.out)).mono ?_; rintro e w1 ⟨rfl, hb⟩; replace C0 := Aside0.mk (blk_below C0.out hb); replace C1 := Aside0.mk (blk_below C1.out hb); replace C2 := Aside0.mk (blk_below C2.out hb); replace HU0 := Aside0.mk (Kd.R_below HU0.out hb); replace HU1 := Aside0.mk (Kd.R_below HU1.out hb); replace HB := Aside0.mk (below_step HB.out hb); clear hb; replace k2 : w1.cell? ⟨b8, 0, none⟩ = some (.int .i64 (i : Int)) := (blk_cell C2.out 0).trans rfl; replace f2 : w1.frozen? ⟨b8, 0, none⟩ = false := blk_frozen C2.out 0) | (go_at_call 71; refine (isw_calls t true _ HW.out).mono ?_; rintro e w2 ⟨rfl, hb⟩; replace C0 := Aside0.mk (blk_below C0.out hb); replace C1 := Aside0.mk (blk_below C1.out hb); replace C2 := Aside0.mk (blk_below C2.out hb); replace HU0 := Aside0.mk (Kd.R_below HU0.out hb); replace HU1 := Aside0.mk (Kd.R_below HU1.out hb); replace HB := Aside0.mk (below_step HB.out hb); clear hb; replace k2 : w2.cell? ⟨b8, 0, none⟩ = some (.int .i64 (i : Int)) := (blk_cell C2.out 0).trans rfl; replace f2 : w2.frozen? ⟨b8, 0, none⟩ = false := blk_frozen C2.out 0) | (go_at_call 69; refine (fault_calls 1 i b8 _ C2.out).mono ?_; rintro e w3 ⟨rfl, hb⟩; replace C0 := Aside0.mk (blk_below C0.out hb); replace C1 := Aside0.mk (blk_below C1.out hb); replace C2 := Aside0.mk (blk_below C2.out hb); replace HU0 := Aside0.mk (Kd.R_below HU0.out hb); replace HU1 := Aside0.mk (Kd.R_below HU1.out hb); replace HB := Aside0.mk (below_step HB.out hb); clear hb; replace k2 : w3.cell? ⟨b8, 0, none⟩ = some (.int .i64 (i : Int)) := (blk_cell C2.out 0).trans rfl; replace f2 : w3.frozen? ⟨b8, 0, none⟩ = false := blk_frozen C2.out 0; have q0 : w3.cell? ⟨w.heap.size, 0, none⟩ = some (.slice none 0 0) := (blk_cell C0.out 0).trans rfl; have g0 := blk_frozen C0.out 0; have q1 : w3.cell? ⟨w.heap.size, 1, none⟩ = some (.slice none 0 0) := (blk_cell C0.out 1).trans rfl; have g1 := blk_frozen C0.out 1; have q2 : w3.cell? ⟨w.heap.size, 2, none⟩ = some (.int .i64 0) := (blk_cell C0.out 2).trans rfl; have g2 := blk_frozen C0.out 2; have q3 : w3.cell? ⟨w.heap.size, 3, none⟩ = some (.int .i64 0) := (blk_cell C0.out 3).trans rfl; have g3 := blk_frozen C0.out 3))
                          refine bodyPost_ret (results_cell_row rfl _ _ w.heap.size 48 #[.slice none 0 0, .slice none 0 0, .int .i64 1, .int .i64 (i : Int)] (0, 0) _ rfl (blk_put (cs := #[.slice none 0 0, .slice none 0 0, .int .i64 1, .int .i64 0]) (blk_put (cs := #[.slice none 0 0, .slice none 0 0, .int .i64 0, .int .i64 0]) (blk_put (cs := #[.slice none 0 0, .slice none 0 0, .int .i64 0, .int .i64 0]) (blk_put (cs := #[.slice none 0 0, .slice none 0 0, .int .i64 0, .int .i64 0]) C0.out 0 _ rfl) 1 _ rfl) 2 _ rfl) 3 _ rfl) Tryd.underlying48 rfl (by kernel_rfl)) rfl ?_
                          rw [← HM3.out]
                          exact ends_bad 1 _ (below_set (below_set (below_set (below_set HB.out (Nat.le_refl _)) (Nat.le_refl _)) (Nat.le_refl _)) (Nat.le_refl _))
                        · have d1b : decide (k < s.size) = false := decide_eq_false d2
                          clear d1
                          go_wp2_with (first | (go_at_call 70; refine (impl_oddRune.calls _ _ _ HO.out (HT.out.below HB.out)).mono ?_; rintro e w1 ⟨rfl, hb⟩; replace C0 := Aside0.mk (blk_below C0.out hb); replace C1 := Aside0.mk (blk_below C1.out hb); replace C2 := Aside0.mk (blk_below C2.out hb); replace HU0 := Aside0.mk (Kd.R_below HU0.out hb); replace HU1 := Aside0.mk (Kd.R_below HU1.out hb); replace HB := Aside0.mk (below_step HB.out hb); clear hb; replace k2 : w1.cell? ⟨b8, 0, none⟩ = some (.int .i64 (i : Int)) := (blk_cell C2.out 0).trans rfl; replace f2 : w1.frozen? ⟨b8, 0, none⟩ = false := blk_frozen C2.out 0) | (go_at_call 71; refine (isw_calls t true _ HW.out).mono ?_; rintro e w2 ⟨rfl, hb⟩; replace C0 := Aside0.mk (blk_below C0.out hb); replace C1 := Aside0.mk (blk_below C1.out hb); replace C2 := Aside0.mk (blk_below C2.out hb); replace HU0 := Aside0.mk (Kd.R_below HU0.out hb); replace HU1 := Aside0.mk (Kd.R_below HU1.out hb); replace HB := Aside0.mk (below_step HB.out hb); clear hb; replace k2 : w2.cell? ⟨b8, 0, none⟩ = some (.int .i64 (i : Int)) := (blk_cell C2.out 0).trans rfl; replace f2 : w2.frozen? ⟨b8, 0, none⟩ = false := blk_frozen C2.out 0) | (go_at_call 69; refine (fault_calls 1 i b8 _ C2.out).mono ?_; rintro e w3 ⟨rfl, hb⟩; replace C0 := Aside0.mk (blk_below C0.out hb); replace C1 := Aside0.mk (blk_below C1.out hb); replace C2 := Aside0.mk (blk_below C2.out hb); replace HU0 := Aside0.mk (Kd.R_below HU0.out hb); replace HU1 := Aside0.mk (Kd.R_below HU1.out hb); replace HB := Aside0.mk (below_step HB.out hb); clear hb; replace k2 : w3.cell? ⟨b8, 0, none⟩ = some (.int .i64 (i : Int)) := (blk_cell C2.out 0).trans rfl; replace f2 : w3.frozen? ⟨b8, 0, none⟩ = false := blk_frozen C2.out 0; have q0 : w3.cell? ⟨w.heap.size, 0, none⟩ = some (.slice none 0 0) := (blk_cell C0.out 0).trans rfl; have g0 := blk_frozen C0.out 0; have q1 : w3.cell? ⟨w.heap.size, 1, none⟩ = some (.slice none 0 0) := (blk_cell C0.out 1).trans rfl; have g1 := blk_frozen C0.out 1; have q2 : w3.cell? ⟨w.heap.size, 2, none⟩ = some (.int .i64 0) := (blk_cell C0.out 2).trans rfl; have g2 := blk_frozen C0.out 2; have q3 : w3.cell? ⟨w.heap.size, 3, none⟩ = some (.int .i64 0) := (blk_cell C0.out 3).trans rfl; have g3 := blk_frozen C0.out 3))
                          refine bodyPost_ret (results_cell_row rfl _ _ w.heap.size 48 #[.slice none 0 0, .slice none 0 0, .int .i64 1, .int .i64 (i : Int)] (0, 0) _ rfl (blk_put (cs := #[.slice none 0 0, .slice none 0 0, .int .i64 1, .int .i64 0]) (blk_put (cs := #[.slice none 0 0, .slice none 0 0, .int .i64 0, .int .i64 0]) (blk_put (cs := #[.slice none 0 0, .slice none 0 0, .int .i64 0, .int .i64 0]) (blk_put (cs := #[.slice none 0 0, .slice none 0 0, .int .i64 0, .int .i64 0]) C0.out 0 _ rfl) 1 _ rfl) 2 _ rfl) 3 _ rfl) Tryd.underlying48 rfl (by kernel_rfl)) rfl ?_
                          rw [← HM3.out]
                          exact ends_bad 1 _ (below_set (below_set (below_set (below_set HB.out (Nat.le_refl _)) (Nat.le_refl _)) (Nat.le_refl _)) (Nat.le_refl _))
                      · have p2 : decide (part = 2) = false := decide_eq_false p1
                        rw [if_neg (by have := HP.out.1; omega)] at HM3
                        by_cases d2 : k < s.size
                        · have hk32 : s.get! k = 32 := Decidable.byContradiction fun h => d1 ⟨d2, h⟩
                          have eb : s.get! k = s[k]'d2 := by show s.data[k]! = s.data[k]'d2; exact getElem!_pos s.data k d2
                          have d1d : (((s[k]'d2).toNat : Int) != 32) = false := by rw [← eb, hk32]; rfl
                          have d1z : 0 ≤ (k : Int) := by omega
                          have d1b : decide (k < s.size) = true := decide_eq_true d2
                          clear d1 hk32 eb
                          go_wp2_with (first | (go_at_call 70; refine (impl_oddRune.calls _ _ _ HO.out (HT.out.below HB.out)).mono ?_; rintro e w1 ⟨rfl, hb⟩; replace C0 := Aside0.mk (blk_below C0.out hb); replace C1 := Aside0.mk (blk_below C1.out hb); replace C2 := Aside0.mk (blk_below C2.out hb); replace HU0 := Aside0.mk (Kd.R_below HU0.out hb); replace HU1 := Aside0.mk (Kd.R_below HU1.out hb); replace HB := Aside0.mk (below_step HB.out hb); clear hb; replace k2 : w1.cell? ⟨b8, 0, none⟩ = some (.int .i64 (i : Int)) := (blk_cell C2.out 0).trans rfl; replace f2 : w1.frozen? ⟨b8, 0, none⟩ = false := blk_frozen C2.out 0) | (go_at_call 71; refine (isw_calls t true _ HW.out).mono ?_; rintro e w2 ⟨rfl, hb⟩; replace C0 := Aside0.mk (blk_below C0.out hb); replace C1 := Aside0.mk (blk_below C1.out hb); replace C2 := Aside0.mk (blk_below C2.out hb); replace HU0 := Aside0.mk (Kd.R_below HU0.out hb); replace HU1 := Aside0.mk (Kd.R_below HU1.out hb); replace HB := Aside0.mk (below_step HB.out hb); clear hb; replace k2 : w2.cell? ⟨b8, 0, none⟩ = some (.int .i64 (i : Int)) := (blk_cell C2.out 0).trans rfl; replace f2 : w2.frozen? ⟨b8, 0, none⟩ = false := blk_frozen C2.out 0))
                          go_roundg g
                          case measure => omega
                          case rel =>
                            have hlt := blk_lt C2.out
                            have n1 := blk_new ((w2).setCell ⟨b8, 0, none⟩ (.int .i64 (k : Int))) (Obj.cells #[.int .i64 (k : Int)] 3)
                            have hn := HN.out
                            have hi := HI.out
                            have hp := HP.out
                            have n2 : (((w2).setCell ⟨b8, 0, none⟩ (.int .i64 (k : Int))).alloc (Obj.cells #[.int .i64 (k : Int)] 3)).heap[(w2).heap.size]? = some (.cells #[.int .i64 (k : Int)] 3 (0, 0)) := by simpa using n1
                            have hlt2 : b8 < (w2).heap.size := by simpa using hlt
                            exact ⟨k, 2, 0, R, A, u0, u1, (w2).heap.size, fr, (some ⟨w.heap.size + 1, 1, none⟩), rfl, rfl, rfl, rfl, rfl, ⟨rfl⟩, HM3, ⟨by omega⟩, ⟨by omega, by omega, fun h => absurd h (by decide), fun h => absurd h (by decide), fun h => absurd h (by decide), fun _ => hp.2.2.2.2.1 (by omega), hp.2.2.2.2.2.2.1, hp.2.2.2.2.2.2.2⟩, ⟨blk_alloc (blk_far C0.out (by show w.heap.size ≠ b8; omega) _) _⟩, ⟨blk_alloc (blk_far C1.out (by show w.heap.size + 1 ≠ b8; omega) _) _⟩, ⟨n2⟩, ⟨by omega⟩, ⟨Kd.R_alloc (Kd.R_mono (Kd.R_far (p := ⟨b8, 0, none⟩) (Kd.R_types HU0.out C2.out (by decide)) (fun _ hk => hk.2) _) (fun _ hk => hk.1)) _⟩, ⟨Kd.R_alloc (Kd.R_mono (Kd.R_far (p := ⟨b8, 0, none⟩) (Kd.R_types HU1.out C2.out (by decide)) (fun _ hk => hk.2) _) (fun _ hk => hk.1)) _⟩, ⟨below_alloc (below_set HB.out (by omega)) _⟩⟩
                        · have d1b : decide (k < s.size) = false := decide_eq_false d2
                          clear d1
                          go_wp2_with (first | (go_at_call 70; refine (impl_oddRune.calls _ _ _ HO.out (HT.out.below HB.out)).mono ?_; rintro e w1 ⟨rfl, hb⟩; replace C0 := Aside0.mk (blk_below C0.out hb); replace C1 := Aside0.mk (blk_below C1.out hb); replace C2 := Aside0.mk (blk_below C2.out hb); replace HU0 := Aside0.mk (Kd.R_below HU0.out hb); replace HU1 := Aside0.mk (Kd.R_below HU1.out hb); replace HB := Aside0.mk (below_step HB.out hb); clear hb; replace k2 : w1.cell? ⟨b8, 0, none⟩ = some (.int .i64 (i : Int)) := (blk_cell C2.out 0).trans rfl; replace f2 : w1.frozen? ⟨b8, 0, none⟩ = false := blk_frozen C2.out 0) | (go_at_call 71; refine (isw_calls t true _ HW.out).mono ?_; rintro e w2 ⟨rfl, hb⟩; replace C0 := Aside0.mk (blk_below C0.out hb); replace C1 := Aside0.mk (blk_below C1.out hb); replace C2 := Aside0.mk (blk_below C2.out hb); replace HU0 := Aside0.mk (Kd.R_below HU0.out hb); replace HU1 := Aside0.mk (Kd.R_below HU1.out hb); replace HB := Aside0.mk (below_step HB.out hb); clear hb; replace k2 : w2.cell? ⟨b8, 0, none⟩ = some (.int .i64 (i : Int)) := (blk_cell C2.out 0).trans rfl; replace f2 : w2.frozen? ⟨b8, 0, none⟩ = false := blk_frozen C2.out 0))
                          go_roundg g
                          case measure => omega
                          case rel =>
                            have hlt := blk_lt C2.out
                            have n1 := blk_new ((w2).setCell ⟨b8, 0, none⟩ (.int .i64 (k : Int))) (Obj.cells #[.int .i64 (k : Int)] 3)
                            have hn := HN.out
                            have hi := HI.out
                            have hp := HP.out
                            have n2 : (((w2).setCell ⟨b8, 0, none⟩ (.int .i64 (k : Int))).alloc (Obj.cells #[.int .i64 (k : Int)] 3)).heap[(w2).heap.size]? = some (.cells #[.int .i64 (k : Int)] 3 (0, 0)) := by simpa using n1
                            have hlt2 : b8 < (w2).heap.size := by simpa using hlt
                            exact ⟨k, 2, 0, R, A, u0, u1, (w2).heap.size, fr, (some ⟨w.heap.size + 1, 1, none⟩), rfl, rfl, rfl, rfl, rfl, ⟨rfl⟩, HM3, ⟨by omega⟩, ⟨by omega, by omega, fun h => absurd h (by decide), fun h => absurd h (by decide), fun h => absurd h (by decide), fun _ => hp.2.2.2.2.1 (by omega), hp.2.2.2.2.2.2.1, hp.2.2.2.2.2.2.2⟩, ⟨blk_alloc (blk_far C0.out (by show w.heap.size ≠ b8; omega) _) _⟩, ⟨blk_alloc (blk_far C1.out (by show w.heap.size + 1 ≠ b8; omega) _) _⟩, ⟨n2⟩, ⟨by omega⟩, ⟨Kd.R_alloc (Kd.R_mono (Kd.R_far (p := ⟨b8, 0, none⟩) (Kd.R_types HU0.out C2.out (by decide)) (fun _ hk => hk.2) _) (fun _ hk => hk.1)) _⟩, ⟨Kd.R_alloc (Kd.R_mono (Kd.R_far (p := ⟨b8, 0, none⟩) (Kd.R_types HU1.out C2.out (by decide)) (fun _ hk => hk.2) _) (fun _ hk => hk.1)) _⟩, ⟨below_alloc (below_set HB.out (by omega)) _⟩⟩
                  · rw [if_neg v1] at HM3
                    have HW : Aside0 (impl_isWord.f t = some false) := ⟨by rw [isw_eq]; exact congrArg some (decide_eq_false (fun h => h.elim (fun e => r1 (decide_eq_true e)) (fun e => v1 (decide_eq_true e))))⟩
                    by_cases p0 : part = 0
                    · rw [if_pos p0] at HM3
                      have hpp : pp = none := by rw [HPP.out, if_pos p0]
                      subst hpp
                      by_cases d2 : k < s.size
                      · have hk32 : s.get! k = 32 := Decidable.byContradiction fun h => d1 ⟨d2, h⟩
                        have eb : s.get! k = s[k]'d2 := by show s.data[k]! = s.data[k]'d2; exact getElem!_pos s.data k d2
                        have d1d : (((s[k]'d2).toNat : Int) != 32) = false := by rw [← eb, hk32]; rfl
                        have d1z : 0 ≤ (k : Int) := by omega
                        have d1b : decide (k < s.size) = true := decide_eq_true d2
                        clear d1 hk32 eb
                        go_wp2_with (first | (go_at_call 70; refine (impl_oddRune.calls _ _ _ HO.out (HT.out.below HB.out)).mono ?_; rintro e w1 ⟨rfl, hb⟩; replace C0 := Aside0.mk (blk_below C0.out hb); replace C1 := Aside0.mk (blk_below C1.out hb); replace C2 := Aside0.mk (blk_below C2.out hb); replace HU0 := Aside0.mk (Kd.R_below HU0.out hb); replace HU1 := Aside0.mk (Kd.R_below HU1.out hb); replace HB := Aside0.mk (below_step HB.out hb); clear hb; replace k2 : w1.cell? ⟨b8, 0, none⟩ = some (.int .i64 (i : Int)) := (blk_cell C2.out 0).trans rfl; replace f2 : w1.frozen? ⟨b8, 0, none⟩ = false := blk_frozen C2.out 0) | (go_at_call 71; refine (isw_calls t false _ HW.out).mono ?_; rintro e w2 ⟨rfl, hb⟩; replace C0 := Aside0.mk (blk_below C0.out hb); replace C1 := Aside0.mk (blk_below C1.out hb); replace C2 := Aside0.mk (blk_below C2.out hb); replace HU0 := Aside0.mk (Kd.R_below HU0.out hb); replace HU1 := Aside0.mk (Kd.R_below HU1.out hb); replace HB := Aside0.mk (below_step HB.out hb); clear hb; replace k2 : w2.cell? ⟨b8, 0, none⟩ = some (.int .i64 (i : Int)) := (blk_cell C2.out 0).trans rfl; replace f2 : w2.frozen? ⟨b8, 0, none⟩ = false := blk_frozen C2.out 0) | (go_at_call 69; refine (fault_calls 1 i b8 _ C2.out).mono ?_; rintro e w3 ⟨rfl, hb⟩; replace C0 := Aside0.mk (blk_below C0.out hb); replace C1 := Aside0.mk (blk_below C1.out hb); replace C2 := Aside0.mk (blk_below C2.out hb); replace HU0 := Aside0.mk (Kd.R_below HU0.out hb); replace HU1 := Aside0.mk (Kd.R_below HU1.out hb); replace HB := Aside0.mk (below_step HB.out hb); clear hb; replace k2 : w3.cell? ⟨b8, 0, none⟩ = some (.int .i64 (i : Int)) := (blk_cell C2.out 0).trans rfl; replace f2 : w3.frozen? ⟨b8, 0, none⟩ = false := blk_frozen C2.out 0; have q0 : w3.cell? ⟨w.heap.size, 0, none⟩ = some (.slice none 0 0) := (blk_cell C0.out 0).trans rfl; have g0 := blk_frozen C0.out 0; have q1 : w3.cell? ⟨w.heap.size, 1, none⟩ = some (.slice none 0 0) := (blk_cell C0.out 1).trans rfl; have g1 := blk_frozen C0.out 1; have q2 : w3.cell? ⟨w.heap.size, 2, none⟩ = some (.int .i64 0) := (blk_cell C0.out 2).trans rfl; have g2 := blk_frozen C0.out 2; have q3 : w3.cell? ⟨w.heap.size, 3, none⟩ = some (.int .i64 0) := (blk_cell C0.out 3).trans rfl; have g3 := blk_frozen C0.out 3))
                        refine bodyPost_ret (results_cell_row rfl _ _ w.heap.size 48 #[.slice none 0 0, .slice none 0 0, .int .i64 1, .int .i64 (i : Int)] (0, 0) _ rfl (blk_put (cs := #[.slice none 0 0, .slice none 0 0, .int .i64 1, .int .i64 0]) (blk_put (cs := #[.slice none 0 0, .slice none 0 0, .int .i64 0, .int .i64 0]) (blk_put (cs := #[.slice none 0 0, .slice none 0 0, .int .i64 0, .int .i64 0]) (blk_put (cs := #[.slice none 0 0, .slice none 0 0, .int .i64 0, .int .i64 0]) C0.out 0 _ rfl) 1 _ rfl) 2 _ rfl) 3 _ rfl) Tryd.underlying48 rfl (by kernel_rfl)) rfl ?_
                        rw [← HM3.out]
                        exact ends_bad 1 _ (below_set (below_set (below_set (below_set HB.out (Nat.le_refl _)) (Nat.le_refl _)) (Nat.le_refl _)) (Nat.le_refl _))
                      · have d1b : decide (k < s.size) = false := decide_eq_false d2
                        clear d1
                        go_wp2_with (first | (go_at_call 70; refine (impl_oddRune.calls _ _ _ HO.out (HT.out.below HB.out)).mono ?_; rintro e w1 ⟨rfl, hb⟩; replace C0 := Aside0.mk (blk_below C0.out hb); replace C1 := Aside0.mk (blk_below C1.out hb); replace C2 := Aside0.mk (blk_below C2.out hb); replace HU0 := Aside0.mk (Kd.R_below HU0.out hb); replace HU1 := Aside0.mk (Kd.R_below HU1.out hb); replace HB := Aside0.mk (below_step HB.out hb); clear hb; replace k2 : w1.cell? ⟨b8, 0, none⟩ = some (.int .i64 (i : Int)) := (blk_cell C2.out 0).trans rfl; replace f2 : w1.frozen? ⟨b8, 0, none⟩ = false := blk_frozen C2.out 0) | (go_at_call 71; refine (isw_calls t false _ HW.out).mono ?_; rintro e w2 ⟨rfl, hb⟩; replace C0 := Aside0.mk (blk_below C0.out hb); replace C1 := Aside0.mk (blk_below C1.out hb); replace C2 := Aside0.mk (blk_below C2.out hb); replace HU0 := Aside0.mk (Kd.R_below HU0.out hb); replace HU1 := Aside0.mk (Kd.R_below HU1.out hb); replace HB := Aside0.mk (below_step HB.out hb); clear hb; replace k2 : w2.cell? ⟨b8, 0, none⟩ = some (.int .i64 (i : Int)) := (blk_cell C2.out 0).trans rfl; replace f2 : w2.frozen? ⟨b8, 0, none⟩ = false := blk_frozen C2.out 0) | (go_at_call 69; refine (fault_calls 1 i b8 _ C2.out).mono ?_; rintro e w3 ⟨rfl, hb⟩; replace C0 := Aside0.mk (blk_below C0.out hb); replace C1 := Aside0.mk (blk_below C1.out hb); replace C2 := Aside0.mk (blk_below C2.out hb); replace HU0 := Aside0.mk (Kd.R_below HU0.out hb); replace HU1 := Aside0.mk (Kd.R_below HU1.out hb); replace HB := Aside0.mk (below_step HB.out hb); clear hb; replace k2 : w3.cell? ⟨b8, 0, none⟩ = some (.int .i64 (i : Int)) := (blk_cell C2.out 0).trans rfl; replace f2 : w3.frozen? ⟨b8, 0, none⟩ = false := blk_frozen C2.out 0; have q0 : w3.cell? ⟨w.heap.size, 0, none⟩ = some (.slice none 0 0) := (blk_cell C0.out 0).trans rfl; have g0 := blk_frozen C0.out 0; have q1 : w3.cell? ⟨w.heap.size, 1, none⟩ = some (.slice none 0 0) := (blk_cell C0.out 1).trans rfl; have g1 := blk_frozen C0.out 1; have q2 : w3.cell? ⟨w.heap.size, 2, none⟩ = some (.int .i64 0) := (blk_cell C0.out 2).trans rfl; have g2 := blk_frozen C0.out 2; have q3 : w3.cell? ⟨w.heap.size, 3, none⟩ = some (.int .i64 0) := (blk_cell C0.out 3).trans rfl; have g3 := blk_frozen C0.out 3))
                        refine bodyPost_ret (results_cell_row rfl _ _ w.heap.size 48 #[.slice none 0 0, .slice none 0 0, .int .i64 1, .int .i64 (i : Int)] (0, 0) _ rfl (blk_put (cs := #[.slice none 0 0, .slice none 0 0, .int .i64 1, .int .i64 0]) (blk_put (cs := #[.slice none 0 0, .slice none 0 0, .int .i64 0, .int .i64 0]) (blk_put (cs := #[.slice none 0 0, .slice none 0 0, .int .i64 0, .int .i64 0]) (blk_put (cs := #[.slice none 0 0, .slice none 0 0, .int .i64 0, .int .i64 0]) C0.out 0 _ rfl) 1 _ rfl) 2 _ rfl) 3 _ rfl) Tryd.underlying48 rfl (by kernel_rfl)) rfl ?_
                        rw [← HM3.out]
                        exact ends_bad 1 _ (below_set (below_set (below_set (below_set HB.out (Nat.le_refl _)) (Nat.le_refl _)) (Nat.le_refl _)) (Nat.le_refl _))
                    · rw [if_neg p0] at HM3
                      have HTZ := Aside0.mk ht
                      by_cases p1 : part = 2
                      · subst p1
                        have hpp : pp = some ⟨w.heap.size + 1, 1, none⟩ := HPP.out
                        subst hpp
                        obtain ⟨Ao, co, eo⟩ := Kd.R_slice HU1.out
                        subst eo
                        have H6 := Aside0.mk HP.out.2.2.2.2.2.2.2
                        have HLM : Aside0 (A.length = many) := ⟨HP.out.2.2.2.2.2.1 rfl⟩
                        by_cases n1 : 12 < Lib.runeCount t
                        · rw [if_pos (Or.inl n1)] at HM3
                          have n2 : decide ((12 : Int) < (Lib.runeCount t : Int)) = true := decide_eq_true (by omega)
                          have n3 : decide (12 < Lib.runeCount t) = true := decide_eq_true n1
                          clear n1
                          by_cases d2 : k < s.size
                          · have hk32 : s.get! k = 32 := Decidable.byContradiction fun h => d1 ⟨d2, h⟩
                            have eb : s.get! k = s[k]'d2 := by show s.data[k]! = s.data[k]'d2; exact getElem!_pos s.data k d2
                            have d1d : (((s[k]'d2).toNat : Int) != 32) = false := by rw [← eb, hk32]; rfl
                            have d1z : 0 ≤ (k : Int) := by omega
                            have d1b : decide (k < s.size) = true := decide_eq_true d2
                            clear d1 hk32 eb
                            go_wp2_with (first | (go_at_call 70; refine (impl_oddRune.calls _ _ _ HO.out (HT.out.below HB.out)).mono ?_; rintro e w1 ⟨rfl, hb⟩; replace C0 := Aside0.mk (blk_below C0.out hb); replace C1 := Aside0.mk (blk_below C1.out hb); replace C2 := Aside0.mk (blk_below C2.out hb); replace HU0 := Aside0.mk (Kd.R_below HU0.out hb); replace HU1 := Aside0.mk (Kd.R_below HU1.out hb); replace HB := Aside0.mk (below_step HB.out hb); clear hb; replace k2 : w1.cell? ⟨b8, 0, none⟩ = some (.int .i64 (i : Int)) := (blk_cell C2.out 0).trans rfl; replace f2 : w1.frozen? ⟨b8, 0, none⟩ = false := blk_frozen C2.out 0) | (go_at_call 71; refine (isw_calls t false _ HW.out).mono ?_; rintro e w2 ⟨rfl, hb⟩; replace C0 := Aside0.mk (blk_below C0.out hb); replace C1 := Aside0.mk (blk_below C1.out hb); replace C2 := Aside0.mk (blk_below C2.out hb); replace HU0 := Aside0.mk (Kd.R_below HU0.out hb); replace HU1 := Aside0.mk (Kd.R_below HU1.out hb); replace HB := Aside0.mk (below_step HB.out hb); clear hb; replace k2 : w2.cell? ⟨b8, 0, none⟩ = some (.int .i64 (i : Int)) := (blk_cell C2.out 0).trans rfl; replace f2 : w2.frozen? ⟨b8, 0, none⟩ = false := blk_frozen C2.out 0; have zc : w2.cell? ⟨w.heap.size + 1, 1, none⟩ = some (.slice Ao A.length co) := (blk_cell C1.out 1).trans rfl) | (go_at_call 72; refine (count_calls t _ HTZ.out).mono ?_; rintro e w4 ⟨rfl, hb⟩; replace C0 := Aside0.mk (blk_below C0.out hb); replace C1 := Aside0.mk (blk_below C1.out hb); replace C2 := Aside0.mk (blk_below C2.out hb); replace HU0 := Aside0.mk (Kd.R_below HU0.out hb); replace HU1 := Aside0.mk (Kd.R_below HU1.out hb); replace HB := Aside0.mk (below_step HB.out hb); clear hb; replace k2 : w4.cell? ⟨b8, 0, none⟩ = some (.int .i64 (i : Int)) := (blk_cell C2.out 0).trans rfl; replace f2 : w4.frozen? ⟨b8, 0, none⟩ = false := blk_frozen C2.out 0; have q0 : w4.cell? ⟨w.heap.size, 0, none⟩ = some (.slice none 0 0) := (blk_cell C0.out 0).trans rfl; have g0 := blk_frozen C0.out 0; have q1 : w4.cell? ⟨w.heap.size, 1, none⟩ = some (.slice none 0 0) := (blk_cell C0.out 1).trans rfl; have g1 := blk_frozen C0.out 1; have q2 : w4.cell? ⟨w.heap.size, 2, none⟩ = some (.int .i64 0) := (blk_cell C0.out 2).trans rfl; have g2 := blk_frozen C0.out 2; have q3 : w4.cell? ⟨w.heap.size, 3, none⟩ = some (.int .i64 0) := (blk_cell C0.out 3).trans rfl; have g3 := blk_frozen C0.out 3; replace zc : w4.cell? ⟨w.heap.size + 1, 1, none⟩ = some (.slice Ao A.length co) := (blk_cell C1.out 1).trans rfl) | (go_at_call 69; refine (fault_calls 2 i b8 _ C2.out).mono ?_; rintro e w3 ⟨rfl, hb⟩; replace C0 := Aside0.mk (blk_below C0.out hb); replace C1 := Aside0.mk (blk_below C1.out hb); replace C2 := Aside0.mk (blk_below C2.out hb); replace HU0 := Aside0.mk (Kd.R_below HU0.out hb); replace HU1 := Aside0.mk (Kd.R_below HU1.out hb); replace HB := Aside0.mk (below_step HB.out hb); clear hb; replace k2 : w3.cell? ⟨b8, 0, none⟩ = some (.int .i64 (i : Int)) := (blk_cell C2.out 0).trans rfl; replace f2 : w3.frozen? ⟨b8, 0, none⟩ = false := blk_frozen C2.out 0; have q0 : w3.cell? ⟨w.heap.size, 0, none⟩ = some (.slice none 0 0) := (blk_cell C0.out 0).trans rfl; have g0 := blk_frozen C0.out 0; have q1 : w3.cell? ⟨w.heap.size, 1, none⟩ = some (.slice none 0 0) := (blk_cell C0.out 1).trans rfl; have g1 := blk_frozen C0.out 1; have q2 : w3.cell? ⟨w.heap.size, 2, none⟩ = some (.int .i64 0) := (blk_cell C0.out 2).trans rfl; have g2 := blk_frozen C0.out 2; have q3 : w3.cell? ⟨w.heap.size, 3, none⟩ = some (.int .i64 0) := (blk_cell C0.out 3).trans rfl; have g3 := blk_frozen C0.out 3))
                            refine bodyPost_ret (results_cell_row rfl _ _ w.heap.size 48 #[.slice none 0 0, .slice none 0 0, .int .i64 2, .int .i64 (i : Int)] (0, 0) _ rfl (blk_put (cs := #[.slice none 0 0, .slice none 0 0, .int .i64 2, .int .i64 0]) (blk_put (cs := #[.slice none 0 0, .slice none 0 0, .int .i64 0, .int .i64 0]) (blk_put (cs := #[.slice none 0 0, .slice none 0 0, .int .i64 0, .int .i64 0]) (blk_put (cs := #[.slice none 0 0, .slice none 0 0, .int .i64 0, .int .i64 0]) C0.out 0 _ rfl) 1 _ rfl) 2 _ rfl) 3 _ rfl) Tryd.underlying48 rfl (by kernel_rfl)) rfl ?_
                            rw [← HM3.out]
                            exact ends_bad 2 _ (below_set (below_set (below_set (below_set HB.out (Nat.le_refl _)) (Nat.le_refl _)) (Nat.le_refl _)) (Nat.le_refl _))
                          · have d1b : decide (k < s.size) = false := decide_eq_false d2
                            clear d1
                            go_wp2_with (first | (go_at_call 70; refine (impl_oddRune.calls _ _ _ HO.out (HT.out.below HB.out)).mono ?_; rintro e w1 ⟨rfl, hb⟩; replace C0 := Aside0.mk (blk_below C0.out hb); replace C1 := Aside0.mk (blk_below C1.out hb); replace C2 := Aside0.mk (blk_below C2.out hb); replace HU0 := Aside0.mk (Kd.R_below HU0.out hb); replace HU1 := Aside0.mk (Kd.R_below HU1.out hb); replace HB := Aside0.mk (below_step HB.out hb); clear hb; replace k2 : w1.cell? ⟨b8, 0, none⟩ = some (.int .i64 (i : Int)) := (blk_cell C2.out 0).trans rfl; replace f2 : w1.frozen? ⟨b8, 0, none⟩ = false := blk_frozen C2.out 0) | (go_at_call 71; refine (isw_calls t false _ HW.out).mono ?_; rintro e w2 ⟨rfl, hb⟩; replace C0 := Aside0.mk (blk_below C0.out hb); replace C1 := Aside0.mk (blk_below C1.out hb); replace C2 := Aside0.mk (blk_below C2.out hb); replace HU0 := Aside0.mk (Kd.R_below HU0.out hb); replace HU1 := Aside0.mk (Kd.R_below HU1.out hb); replace HB := Aside0.mk (below_step HB.out hb); clear hb; replace k2 : w2.cell? ⟨b8, 0, none⟩ = some (.int .i64 (i : Int)) := (blk_cell C2.out 0).trans rfl; replace f2 : w2.frozen? ⟨b8, 0, none⟩ = false := blk_frozen C2.out 0; have zc : w2.cell? ⟨w.heap.size + 1, 1, none⟩ = some (.slice Ao A.length co) := (blk_cell C1.out 1).trans rfl) | (go_at_call 72; refine (count_calls t _ HTZ.out).mono ?_; rintro e w4 ⟨rfl, hb⟩; replace C0 := Aside0.mk (blk_below C0.out hb); replace C1 := Aside0.mk (blk_below C1.out hb); replace C2 := Aside0.mk (blk_below C2.out hb); replace HU0 := Aside0.mk (Kd.R_below HU0.out hb); replace HU1 := Aside0.mk (Kd.R_below HU1.out hb); replace HB := Aside0.mk (below_step HB.out hb); clear hb; replace k2 : w4.cell? ⟨b8, 0, none⟩ = some (.int .i64 (i : Int)) := (blk_cell C2.out 0).trans rfl; replace f2 : w4.frozen? ⟨b8, 0, none⟩ = false := blk_frozen C2.out 0; have q0 : w4.cell? ⟨w.heap.size, 0, none⟩ = some (.slice none 0 0) := (blk_cell C0.out 0).trans rfl; have g0 := blk_frozen C0.out 0; have q1 : w4.cell? ⟨w.heap.size, 1, none⟩ = some (.slice none 0 0) := (blk_cell C0.out 1).trans rfl; have g1 := blk_frozen C0.out 1; have q2 : w4.cell? ⟨w.heap.size, 2, none⟩ = some (.int .i64 0) := (blk_cell C0.out 2).trans rfl; have g2 := blk_frozen C0.out 2; have q3 : w4.cell? ⟨w.heap.size, 3, none⟩ = some (.int .i64 0) := (blk_cell C0.out 3).trans rfl; have g3 := blk_frozen C0.out 3; replace zc : w4.cell? ⟨w.heap.size + 1, 1, none⟩ = some (.slice Ao A.length co) := (blk_cell C1.out 1).trans rfl) | (go_at_call 69; refine (fault_calls 2 i b8 _ C2.out).mono ?_; rintro e w3 ⟨rfl, hb⟩; replace C0 := Aside0.mk (blk_below C0.out hb); replace C1 := Aside0.mk (blk_below C1.out hb); replace C2 := Aside0.mk (blk_below C2.out hb); replace HU0 := Aside0.mk (Kd.R_below HU0.out hb); replace HU1 := Aside0.mk (Kd.R_below HU1.out hb); replace HB := Aside0.mk (below_step HB.out hb); clear hb; replace k2 : w3.cell? ⟨b8, 0, none⟩ = some (.int .i64 (i : Int)) := (blk_cell C2.out 0).trans rfl; replace f2 : w3.frozen? ⟨b8, 0, none⟩ = false := blk_frozen C2.out 0; have q0 : w3.cell? ⟨w.heap.size, 0, none⟩ = some (.slice none 0 0) := (blk_cell C0.out 0).trans rfl; have g0 := blk_frozen C0.out 0; have q1 : w3.cell? ⟨w.heap.size, 1, none⟩ = some (.slice none 0 0) := (blk_cell C0.out 1).trans rfl; have g1 := blk_frozen C0.out 1; have q2 : w3.cell? ⟨w.heap.size, 2, none⟩ = some (.int .i64 0) := (blk_cell C0.out 2).trans rfl; have g2 := blk_frozen C0.out 2; have q3 : w3.cell? ⟨w.heap.size, 3, none⟩ = some (.int .i64 0) := (blk_cell C0.out 3).trans rfl; have g3 := blk_frozen C0.out 3))
                            refine bodyPost_ret (results_cell_row rfl _ _ w.heap.size 48 #[.slice none 0 0, .slice none 0 0, .int .i64 2, .int .i64 (i : Int)] (0, 0) _ rfl (blk_put (cs := #[.slice none 0 0, .slice none 0 0, .int .i64 2, .int .i64 0]) (blk_put (cs := #[.slice none 0 0, .slice none 0 0, .int .i64 0, .int .i64 0]) (blk_put (cs := #[.slice none 0 0, .slice none 0 0, .int .i64 0, .int .i64 0]) (blk_put (cs := #[.slice none 0 0, .slice none 0 0, .int .i64 0, .int .i64 0]) C0.out 0 _ rfl) 1 _ rfl) 2 _ rfl) 3 _ rfl) Tryd.underlying48 rfl (by kernel_rfl)) rfl ?_
                            rw [← HM3.out]
                            exact ends_bad 2 _ (below_set (below_set (below_set (below_set HB.out (Nat.le_refl _)) (Nat.le_refl _)) (Nat.le_refl _)) (Nat.le_refl _))
                        · have n2 : decide ((12 : Int) < (Lib.runeCount t : Int)) = false := decide_eq_false (by omega)
                          have n3 : decide (12 < Lib.runeCount t) = false := decide_eq_false n1
                          by_cases m6 : many = 6
                          · rw [if_pos (Or.inr m6)] at HM3
                            have m7 : ((A.length : Int) == 6) = true := beq_iff_eq.mpr (by have := HLM.out; omega)
                            have m8 : (A.length == 6) = true := beq_iff_eq.mpr (by have := HLM.out; omega)
                            by_cases d2 : k < s.size
                            · have hk32 : s.get! k = 32 := Decidable.byContradiction fun h => d1 ⟨d2, h⟩
                              have eb : s.get! k = s[k]'d2 := by show s.data[k]! = s.data[k]'d2; exact getElem!_pos s.data k d2
                              have d1d : (((s[k]'d2).toNat : Int) != 32) = false := by rw [← eb, hk32]; rfl
                              have d1z : 0 ≤ (k : Int) := by omega
                              have d1b : decide (k < s.size) = true := decide_eq_true d2
                              clear d1 hk32 eb
                              go_wp2_with (first | (go_at_call 70; refine (impl_oddRune.calls _ _ _ HO.out (HT.out.below HB.out)).mono ?_; rintro e w1 ⟨rfl, hb⟩; replace C0 := Aside0.mk (blk_below C0.out hb); replace C1 := Aside0.mk (blk_below C1.out hb); replace C2 := Aside0.mk (blk_below C2.out hb); replace HU0 := Aside0.mk (Kd.R_below HU0.out hb); replace HU1 := Aside0.mk (Kd.R_below HU1.out hb); replace HB := Aside0.mk (below_step HB.out hb); clear hb; replace k2 : w1.cell? ⟨b8, 0, none⟩ = some (.int .i64 (i : Int)) := (blk_cell C2.out 0).trans rfl; replace f2 : w1.frozen? ⟨b8, 0, none⟩ = false := blk_frozen C2.out 0) | (go_at_call 71; refine (isw_calls t false _ HW.out).mono ?_; rintro e w2 ⟨rfl, hb⟩; replace C0 := Aside0.mk (blk_below C0.out hb); replace C1 := Aside0.mk (blk_below C1.out hb); replace C2 := Aside0.mk (blk_below C2.out hb); replace HU0 := Aside0.mk (Kd.R_below HU0.out hb); replace HU1 := Aside0.mk (Kd.R_below HU1.out hb); replace HB := Aside0.mk (below_step HB.out hb); clear hb; replace k2 : w2.cell? ⟨b8, 0, none⟩ = some (.int .i64 (i : Int)) := (blk_cell C2.out 0).trans rfl; replace f2 : w2.frozen? ⟨b8, 0, none⟩ = false := blk_frozen C2.out 0; have zc : w2.cell? ⟨w.heap.size + 1, 1, none⟩ = some (.slice Ao A.length co) := (blk_cell C1.out 1).trans rfl) | (go_at_call 72; refine (count_calls t _ HTZ.out).mono ?_; rintro e w4 ⟨rfl, hb⟩; replace C0 := Aside0.mk (blk_below C0.out hb); replace C1 := Aside0.mk (blk_below C1.out hb); replace C2 := Aside0.mk (blk_below C2.out hb); replace HU0 := Aside0.mk (Kd.R_below HU0.out hb); replace HU1 := Aside0.mk (Kd.R_below HU1.out hb); replace HB := Aside0.mk (below_step HB.out hb); clear hb; replace k2 : w4.cell? ⟨b8, 0, none⟩ = some (.int .i64 (i : Int)) := (blk_cell C2.out 0).trans rfl; replace f2 : w4.frozen? ⟨b8, 0, none⟩ = false := blk_frozen C2.out 0; have q0 : w4.cell? ⟨w.heap.size, 0, none⟩ = some (.slice none 0 0) := (blk_cell C0.out 0).trans rfl; have g0 := blk_frozen C0.out 0; have q1 : w4.cell? ⟨w.heap.size, 1, none⟩ = some (.slice none 0 0) := (blk_cell C0.out 1).trans rfl; have g1 := blk_frozen C0.out 1; have q2 : w4.cell? ⟨w.heap.size, 2, none⟩ = some (.int .i64 0) := (blk_cell C0.out 2).trans rfl; have g2 := blk_frozen C0.out 2; have q3 : w4.cell? ⟨w.heap.size, 3, none⟩ = some (.int .i64 0) := (blk_cell C0.out 3).trans rfl; have g3 := blk_frozen C0.out 3; replace zc : w4.cell? ⟨w.heap.size + 1, 1, none⟩ = some (.slice Ao A.length co) := (blk_cell C1.out 1).trans rfl) | (go_at_call 69; refine (fault_calls 2 i b8 _ C2.out).mono ?_; rintro e w3 ⟨rfl, hb⟩; replace C0 := Aside0.mk (blk_below C0.out hb); replace C1 := Aside0.mk (blk_below C1.out hb); replace C2 := Aside0.mk (blk_below C2.out hb); replace HU0 := Aside0.mk (Kd.R_below HU0.out hb); replace HU1 := Aside0.mk (Kd.R_below HU1.out hb); replace HB := Aside0.mk (below_step HB.out hb); clear hb; replace k2 : w3.cell? ⟨b8, 0, none⟩ = some (.int .i64 (i : Int)) := (blk_cell C2.out 0).trans rfl; replace f2 : w3.frozen? ⟨b8, 0, none⟩ = false := blk_frozen C2.out 0; have q0 : w3.cell? ⟨w.heap.size, 0, none⟩ = some (.slice none 0 0) := (blk_cell C0.out 0).trans rfl; have g0 := blk_frozen C0.out 0; have q1 : w3.cell? ⟨w.heap.size, 1, none⟩ = some (.slice none 0 0) := (blk_cell C0.out 1).trans rfl; have g1 := blk_frozen C0.out 1; have q2 : w3.cell? ⟨w.heap.size, 2, none⟩ = some (.int .i64 0) := (blk_cell C0.out 2).trans rfl; have g2 := blk_frozen C0.out 2; have q3 : w3.cell? ⟨w.heap.size, 3, none⟩ = some (.int .i64 0) := (blk_cell C0.out 3).trans rfl; have g3 := blk_frozen C0.out 3))
                              refine bodyPost_ret (results_cell_row rfl _ _ w.heap.size 48 #[.slice none 0 0, .slice none 0 0, .int .i64 2, .int .i64 (i : Int)] (0, 0) _ rfl (blk_put (cs := #[.slice none 0 0, .slice none 0 0, .int .i64 2, .int .i64 0]) (blk_put (cs := #[.slice none 0 0, .slice none 0 0, .int .i64 0, .int .i64 0]) (blk_put (cs := #[.slice none 0 0, .slice none 0 0, .int .i64 0, .int .i64 0]) (blk_put (cs := #[.slice none 0 0, .slice none 0 0, .int .i64 0, .int .i64 0]) C0.out 0 _ rfl) 1 _ rfl) 2 _ rfl) 3 _ rfl) Tryd.underlying48 rfl (by kernel_rfl)) rfl ?_
                              rw [← HM3.out]
                              exact ends_bad 2 _ (below_set (below_set (below_set (below_set HB.out (Nat.le_refl _)) (Nat.le_refl _)) (Nat.le_refl _)) (Nat.le_refl _))
                            · have d1b : decide (k < s.size) = false := decide_eq_false d2
                              clear d1
                              go_wp2_with (first | (go_at_call 70; refine (impl_oddRune.calls _ _ _ HO.out (HT.out.below HB.out)).mono ?_; rintro e w1 ⟨rfl, hb⟩; replace C0 := Aside0.mk (blk_below C0.out hb); replace C1 := Aside0.mk (blk_below C1.out hb); replace C2 := Aside0.mk (blk_below C2.out hb); replace HU0 := Aside0.mk (Kd.R_below HU0.out hb); replace HU1 := Aside0.mk (Kd.R_below HU1.out hb); replace HB := Aside0.mk (below_step HB.out hb); clear hb; replace k2 : w1.cell? ⟨b8, 0, none⟩ = some (.int .i64 (i : Int)) := (blk_cell C2.out 0).trans rfl; replace f2 : w1.frozen? ⟨b8, 0, none⟩ = false := blk_frozen C2.out 0) | (go_at_call 71; refine (isw_calls t false _ HW.out).mono ?_; rintro e w2 ⟨rfl, hb⟩; replace C0 := Aside0.mk (blk_below C0.out hb); replace C1 := Aside0.mk (blk_below C1.out hb); replace C2 := Aside0.mk (blk_below C2.out hb); replace HU0 := Aside0.mk (Kd.R_below HU0.out hb); replace HU1 := Aside0.mk (Kd.R_below HU1.out hb); replace HB := Aside0.mk (below_step HB.out hb); clear hb; replace k2 : w2.cell? ⟨b8, 0, none⟩ = some (.int .i64 (i : Int)) := (blk_cell C2.out 0).trans rfl; replace f2 : w2.frozen? ⟨b8, 0, none⟩ = false := blk_frozen C2.out 0; have zc : w2.cell? ⟨w.heap.size + 1, 1, none⟩ = some (.slice Ao A.length co) := (blk_cell C1.out 1).trans rfl) | (go_at_call 72; refine (count_calls t _ HTZ.out).mono ?_; rintro e w4 ⟨rfl, hb⟩; replace C0 := Aside0.mk (blk_below C0.out hb); replace C1 := Aside0.mk (blk_below C1.out hb); replace C2 := Aside0.mk (blk_below C2.out hb); replace HU0 := Aside0.mk (Kd.R_below HU0.out hb); replace HU1 := Aside0.mk (Kd.R_below HU1.out hb); replace HB := Aside0.mk (below_step HB.out hb); clear hb; replace k2 : w4.cell? ⟨b8, 0, none⟩ = some (.int .i64 (i : Int)) := (blk_cell C2.out 0).trans rfl; replace f2 : w4.frozen? ⟨b8, 0, none⟩ = false := blk_frozen C2.out 0; have q0 : w4.cell? ⟨w.heap.size, 0, none⟩ = some (.slice none 0 0) := (blk_cell C0.out 0).trans rfl; have g0 := blk_frozen C0.out 0; have q1 : w4.cell? ⟨w.heap.size, 1, none⟩ = some (.slice none 0 0) := (blk_cell C0.out 1).trans rfl; have g1 := blk_frozen C0.out 1; have q2 : w4.cell? ⟨w.heap.size, 2, none⟩ = some (.int .i64 0) := (blk_cell C0.out 2).trans rfl; have g2 := blk_frozen C0.out 2; have q3 : w4.cell? ⟨w.heap.size, 3, none⟩ = some (.int .i64 0) := (blk_cell C0.out 3).trans rfl; have g3 := blk_frozen C0.out 3; replace zc : w4.cell? ⟨w.heap.size + 1, 1, none⟩ = some (.slice Ao A.length co) := (blk_cell C1.out 1).trans rfl) | (go_at_call 69; refine (fault_calls 2 i b8 _ C2.out).mono ?_; rintro e w3 ⟨rfl, hb⟩; replace C0 := Aside0.mk (blk_below C0.out hb); replace C1 := Aside0.mk (blk_below C1.out hb); replace C2 := Aside0.mk (blk_below C2.out hb); replace HU0 := Aside0.mk (Kd.R_below HU0.out hb); replace HU1 := Aside0.mk (Kd.R_below HU1.out hb); replace HB := Aside0.mk (below_step HB.out hb); clear hb; replace k2 : w3.cell? ⟨b8, 0, none⟩ = some (.int .i64 (i : Int)) := (blk_cell C2.out 0).trans rfl; replace f2 : w3.frozen? ⟨b8, 0, none⟩ = false := blk_frozen C2.out 0; have q0 : w3.cell? ⟨w.heap.size, 0, none⟩ = some (.slice none 0 0) := (blk_cell C0.out 0).trans rfl; have g0 := blk_frozen C0.out 0; have q1 : w3.cell? ⟨w.heap.size, 1, none⟩ = some (.slice none 0 0) := (blk_cell C0.out 1).trans rfl; have g1 := blk_frozen C0.out 1; have q2 : w3.cell? ⟨w.heap.size, 2, none⟩ = some (.int .i64 0) := (blk_cell C0.out 2).trans rfl; have g2 := blk_frozen C0.out 2; have q3 : w3.cell? ⟨w.heap.size, 3, none⟩ = some (.int .i64 0) := (blk_cell C0.out 3).trans rfl; have g3 := blk_frozen C0.out 3))
                              refine bodyPost_ret (results_cell_row rfl _ _ w.heap.size 48 #[.slice none 0 0, .slice none 0 0, .int .i64 2, .int .i64 (i : Int)] (0, 0) _ rfl (blk_put (cs := #[.slice none 0 0, .slice none 0 0, .int .i64 2, .int .i64 0]) (blk_put (cs := #[.slice none 0 0, .slice none 0 0, .int .i64 0, .int .i64 0]) (blk_put (cs := #[.slice none 0 0, .slice none 0 0, .int .i64 0, .int .i64 0]) (blk_put (cs := #[.slice none 0 0, .slice none 0 0, .int .i64 0, .int .i64 0]) C0.out 0 _ rfl) 1 _ rfl) 2 _ rfl) 3 _ rfl) Tryd.underlying48 rfl (by kernel_rfl)) rfl ?_
                              rw [← HM3.out]
                              exact ends_bad 2 _ (below_set (below_set (below_set (below_set HB.out (Nat.le_refl _)) (Nat.le_refl _)) (Nat.le_refl _)) (Nat.le_refl _))
                          · have m7 : ((A.length : Int) == 6) = false := beq_eq_false_iff_ne.mpr (by have := HLM.out; omega)
                            have m8 : (A.length == 6) = false := beq_eq_false_iff_ne.mpr (by have := HLM.out; omega)
                            rw [if_neg (fun h => h.elim (fun h => absurd h n1) (fun h => absurd h m6)), if_pos rfl] at HM3
                            by_cases y1 : inB A t = true
                            · rw [if_pos y1] at HM3
                              have HIN := Aside0.mk y1
                              by_cases d2 : k < s.size
                              · have hk32 : s.get! k = 32 := Decidable.byContradiction fun h => d1 ⟨d2, h⟩
                                have eb : s.get! k = s[k]'d2 := by show s.data[k]! = s.data[k]'d2; exact getElem!_pos s.data k d2
                                have d1d : (((s[k]'d2).toNat : Int) != 32) = false := by rw [← eb, hk32]; rfl
                                have d1z : 0 ≤ (k : Int) := by omega
                                have d1b : decide (k < s.size) = true := decide_eq_true d2
                                clear d1 hk32 eb
                                go_wp2_with (first | (go_at_call 70; refine (impl_oddRune.calls _ _ _ HO.out (HT.out.below HB.out)).mono ?_; rintro e w1 ⟨rfl, hb⟩; replace C0 := Aside0.mk (blk_below C0.out hb); replace C1 := Aside0.mk (blk_below C1.out hb); replace C2 := Aside0.mk (blk_below C2.out hb); replace HU0 := Aside0.mk (Kd.R_below HU0.out hb); replace HU1 := Aside0.mk (Kd.R_below HU1.out hb); replace HB := Aside0.mk (below_step HB.out hb); clear hb; replace k2 : w1.cell? ⟨b8, 0, none⟩ = some (.int .i64 (i : Int)) := (blk_cell C2.out 0).trans rfl; replace f2 : w1.frozen? ⟨b8, 0, none⟩ = false := blk_frozen C2.out 0) | (go_at_call 71; refine (isw_calls t false _ HW.out).mono ?_; rintro e w2 ⟨rfl, hb⟩; replace C0 := Aside0.mk (blk_below C0.out hb); replace C1 := Aside0.mk (blk_below C1.out hb); replace C2 := Aside0.mk (blk_below C2.out hb); replace HU0 := Aside0.mk (Kd.R_below HU0.out hb); replace HU1 := Aside0.mk (Kd.R_below HU1.out hb); replace HB := Aside0.mk (below_step HB.out hb); clear hb; replace k2 : w2.cell? ⟨b8, 0, none⟩ = some (.int .i64 (i : Int)) := (blk_cell C2.out 0).trans rfl; replace f2 : w2.frozen? ⟨b8, 0, none⟩ = false := blk_frozen C2.out 0; have zc : w2.cell? ⟨w.heap.size + 1, 1, none⟩ = some (.slice Ao A.length co) := (blk_cell C1.out 1).trans rfl) | (go_at_call 72; refine (count_calls t _ HTZ.out).mono ?_; rintro e w4 ⟨rfl, hb⟩; replace C0 := Aside0.mk (blk_below C0.out hb); replace C1 := Aside0.mk (blk_below C1.out hb); replace C2 := Aside0.mk (blk_below C2.out hb); replace HU0 := Aside0.mk (Kd.R_below HU0.out hb); replace HU1 := Aside0.mk (Kd.R_below HU1.out hb); replace HB := Aside0.mk (below_step HB.out hb); clear hb; replace k2 : w4.cell? ⟨b8, 0, none⟩ = some (.int .i64 (i : Int)) := (blk_cell C2.out 0).trans rfl; replace f2 : w4.frozen? ⟨b8, 0, none⟩ = false := blk_frozen C2.out 0; have q0 : w4.cell? ⟨w.heap.size, 0, none⟩ = some (.slice none 0 0) := (blk_cell C0.out 0).trans rfl; have g0 := blk_frozen C0.out 0; have q1 : w4.cell? ⟨w.heap.size, 1, none⟩ = some (.slice none 0 0) := (blk_cell C0.out 1).trans rfl; have g1 := blk_frozen C0.out 1; have q2 : w4.cell? ⟨w.heap.size, 2, none⟩ = some (.int .i64 0) := (blk_cell C0.out 2).trans rfl; have g2 := blk_frozen C0.out 2; have q3 : w4.cell? ⟨w.heap.size, 3, none⟩ = some (.int .i64 0) := (blk_cell C0.out 3).trans rfl; have g3 := blk_frozen C0.out 3; replace zc : w4.cell? ⟨w.heap.size + 1, 1, none⟩ = some (.slice Ao A.length co) := (blk_cell C1.out 1).trans rfl) | (go_at_call 73; refine (contains_calls Ao co A t true _ ⟨(Kd.R_reads' HU1.out).2.2, (Kd.R_reads' HU1.out).2.1, H6.out⟩ HIN.out).mono ?_; rintro e w5 ⟨rfl, hb⟩; replace C0 := Aside0.mk (blk_below C0.out hb); replace C1 := Aside0.mk (blk_below C1.out hb); replace C2 := Aside0.mk (blk_below C2.out hb); replace HU0 := Aside0.mk (Kd.R_below HU0.out hb); replace HU1 := Aside0.mk (Kd.R_below HU1.out hb); replace HB := Aside0.mk (below_step HB.out hb); clear hb; replace k2 : w5.cell? ⟨b8, 0, none⟩ = some (.int .i64 (i : Int)) := (blk_cell C2.out 0).trans rfl; replace f2 : w5.frozen? ⟨b8, 0, none⟩ = false := blk_frozen C2.out 0; replace zc : w5.cell? ⟨w.heap.size + 1, 1, none⟩ = some (.slice Ao A.length co) := (blk_cell C1.out 1).trans rfl) | (go_at_call 69; refine (fault_calls 4 i b8 _ C2.out).mono ?_; rintro e w3 ⟨rfl, hb⟩; replace C0 := Aside0.mk (blk_below C0.out hb); replace C1 := Aside0.mk (blk_below C1.out hb); replace C2 := Aside0.mk (blk_below C2.out hb); replace HU0 := Aside0.mk (Kd.R_below HU0.out hb); replace HU1 := Aside0.mk (Kd.R_below HU1.out hb); replace HB := Aside0.mk (below_step HB.out hb); clear hb; replace k2 : w3.cell? ⟨b8, 0, none⟩ = some (.int .i64 (i : Int)) := (blk_cell C2.out 0).trans rfl; replace f2 : w3.frozen? ⟨b8, 0, none⟩ = false := blk_frozen C2.out 0; have q0 : w3.cell? ⟨w.heap.size, 0, none⟩ = some (.slice none 0 0) := (blk_cell C0.out 0).trans rfl; have g0 := blk_frozen C0.out 0; have q1 : w3.cell? ⟨w.heap.size, 1, none⟩ = some (.slice none 0 0) := (blk_cell C0.out 1).trans rfl; have g1 := blk_frozen C0.out 1; have q2 : w3.cell? ⟨w.heap.size, 2, none⟩ = some (.int .i64 0) := (blk_cell C0.out 2).trans rfl; have g2 := blk_frozen C0.out 2; have q3 : w3.cell? ⟨w.heap.size, 3, none⟩ = some (.int .i64 0) := (blk_cell C0.out 3).trans rfl; have g3 := blk_frozen C0.out 3))
                                refine bodyPost_ret (results_cell_row rfl _ _ w.heap.size 48 #[.slice none 0 0, .slice none 0 0, .int .i64 4, .int .i64 (i : Int)] (0, 0) _ rfl (blk_put (cs := #[.slice none 0 0, .slice none 0 0, .int .i64 4, .int .i64 0]) (blk_put (cs := #[.slice none 0 0, .slice none 0 0, .int .i64 0, .int .i64 0]) (blk_put (cs := #[.slice none 0 0, .slice none 0 0, .int .i64 0, .int .i64 0]) (blk_put (cs := #[.slice none 0 0, .slice none 0 0, .int .i64 0, .int .i64 0]) C0.out 0 _ rfl) 1 _ rfl) 2 _ rfl) 3 _ rfl) Tryd.underlying48 rfl (by kernel_rfl)) rfl ?_
                                rw [← HM3.out]
                                exact ends_bad 4 _ (below_set (below_set (below_set (below_set HB.out (Nat.le_refl _)) (Nat.le_refl _)) (Nat.le_refl _)) (Nat.le_refl _))
                              · have d1b : decide (k < s.size) = false := decide_eq_false d2
                                clear d1
                                go_wp2_with (first | (go_at_call 70; refine (impl_oddRune.calls _ _ _ HO.out (HT.out.below HB.out)).mono ?_; rintro e w1 ⟨rfl, hb⟩; replace C0 := Aside0.mk (blk_below C0.out hb); replace C1 := Aside0.mk (blk_below C1.out hb); replace C2 := Aside0.mk (blk_below C2.out hb); replace HU0 := Aside0.mk (Kd.R_below HU0.out hb); replace HU1 := Aside0.mk (Kd.R_below HU1.out hb); replace HB := Aside0.mk (below_step HB.out hb); clear hb; replace k2 : w1.cell? ⟨b8, 0, none⟩ = some (.int .i64 (i : Int)) := (blk_cell C2.out 0).trans rfl; replace f2 : w1.frozen? ⟨b8, 0, none⟩ = false := blk_frozen C2.out 0) | (go_at_call 71; refine (isw_calls t false _ HW.out).mono ?_; rintro e w2 ⟨rfl, hb⟩; replace C0 := Aside0.mk (blk_below C0.out hb); replace C1 := Aside0.mk (blk_below C1.out hb); replace C2 := Aside0.mk (blk_below C2.out hb); replace HU0 := Aside0.mk (Kd.R_below HU0.out hb); replace HU1 := Aside0.mk (Kd.R_below HU1.out hb); replace HB := Aside0.mk (below_step HB.out hb); clear hb; replace k2 : w2.cell? ⟨b8, 0, none⟩ = some (.int .i64 (i : Int)) := (blk_cell C2.out 0).trans rfl; replace f2 : w2.frozen? ⟨b8, 0, none⟩ = false := blk_frozen C2.out 0; have zc : w2.cell? ⟨w.heap.size + 1, 1, none⟩ = some (.slice Ao A.length co) := (blk_cell C1.out 1).trans rfl) | (go_at_call 72; refine (count_calls t _ HTZ.out).mono ?_; rintro e w4 ⟨rfl, hb⟩; replace C0 := Aside0.mk (blk_below C0.out hb); replace C1 := Aside0.mk (blk_below C1.out hb); replace C2 := Aside0.mk (blk_below C2.out hb); replace HU0 := Aside0.mk (Kd.R_below HU0.out hb); replace HU1 := Aside0.mk (Kd.R_below HU1.out hb); replace HB := Aside0.mk (below_step HB.out hb); clear hb; replace k2 : w4.cell? ⟨b8, 0, none⟩ = some (.int .i64 (i : Int)) := (blk_cell C2.out 0).trans rfl; replace f2 : w4.frozen? ⟨b8, 0, none⟩ = false := blk_frozen C2.out 0; have q0 : w4.cell? ⟨w.heap.size, 0, none⟩ = some (.slice none 0 0) := (blk_cell C0.out 0).trans rfl; have g0 := blk_frozen C0.out 0; have q1 : w4.cell? ⟨w.heap.size, 1, none⟩ = some (.slice none 0 0) := (blk_cell C0.out 1).trans rfl; have g1 := blk_frozen C0.out 1; have q2 : w4.cell? ⟨w.heap.size, 2, none⟩ = some (.int .i64 0) := (blk_cell C0.out 2).trans rfl; have g2 := blk_frozen C0.out 2; have q3 : w4.cell? ⟨w.heap.size, 3, none⟩ = some (.int .i64 0) := (blk_cell C0.out 3).trans rfl; have g3 := blk_frozen C0.out 3; replace zc : w4.cell? ⟨w.heap.size + 1, 1, none⟩ = some (.slice Ao A.length co) := (blk_cell C1.out 1).trans rfl) | (go_at_call 73; refine (contains_calls Ao co A t true _ ⟨(Kd.R_reads' HU1.out).2.2, (Kd.R_reads' HU1.out).2.1, H6.out⟩ HIN.out).mono ?_; rintro e w5 ⟨rfl, hb⟩; replace C0 := Aside0.mk (blk_below C0.out hb); replace C1 := Aside0.mk (blk_below C1.out hb); replace C2 := Aside0.mk (blk_below C2.out hb); replace HU0 := Aside0.mk (Kd.R_below HU0.out hb); replace HU1 := Aside0.mk (Kd.R_below HU1.out hb); replace HB := Aside0.mk (below_step HB.out hb); clear hb; replace k2 : w5.cell? ⟨b8, 0, none⟩ = some (.int .i64 (i : Int)) := (blk_cell C2.out 0).trans rfl; replace f2 : w5.frozen? ⟨b8, 0, none⟩ = false := blk_frozen C2.out 0; replace zc : w5.cell? ⟨w.heap.size + 1, 1, none⟩ = some (.slice Ao A.length co) := (blk_cell C1.out 1).trans rfl) | (go_at_call 69; refine (fault_calls 4 i b8 _ C2.out).mono ?_; rintro e w3 ⟨rfl, hb⟩; replace C0 := Aside0.mk (blk_below C0.out hb); replace C1 := Aside0.mk (blk_below C1.out hb); replace C2 := Aside0.mk (blk_below C2.out hb); replace HU0 := Aside0.mk (Kd.R_below HU0.out hb); replace HU1 := Aside0.mk (Kd.R_below HU1.out hb); replace HB := Aside0.mk (below_step HB.out hb); clear hb; replace k2 : w3.cell? ⟨b8, 0, none⟩ = some (.int .i64 (i : Int)) := (blk_cell C2.out 0).trans rfl; replace f2 : w3.frozen? ⟨b8, 0, none⟩ = false := blk_frozen C2.out 0; have q0 : w3.cell? ⟨w.heap.size, 0, none⟩ = some (.slice none 0 0) := (blk_cell C0.out 0).trans rfl; have g0 := blk_frozen C0.out 0; have q1 : w3.cell? ⟨w.heap.size, 1, none⟩ = some (.slice none 0 0) := (blk_cell C0.out 1).trans rfl; have g1 := blk_frozen C0.out 1; have q2 : w3.cell? ⟨w.heap.size, 2, none⟩ = some (.int .i64 0) := (blk_cell C0.out 2).trans rfl; have g2 := blk_frozen C0.out 2; have q3 : w3.cell? ⟨w.heap.size, 3, none⟩ = some (.int .i64 0) := (blk_cell C0.out 3).trans rfl; have g3 := blk_frozen C0.out 3))
                                refine bodyPost_ret (results_cell_row rfl _ _ w.heap.size 48 #[.slice none 0 0, .slice none 0 0, .int .i64 4, .int .i64 (i : Int)] (0, 0) _ rfl (blk_put (cs := #[.slice none 0 0, .slice none 0 0, .int .i64 4, .int .i64 0]) (blk_put (cs := #[.slice none 0 0, .slice none 0 0, .int .i64 0, .int .i64 0]) (blk_put (cs := #[.slice none 0 0, .slice none 0 0, .int .i64 0, .int .i64 0]) (blk_put (cs := #[.slice none 0 0, .slice none 0 0, .int .i64 0, .int .i64 0]) C0.out 0 _ rfl) 1 _ rfl) 2 _ rfl) 3 _ rfl) Tryd.underlying48 rfl (by kernel_rfl)) rfl ?_
                                rw [← HM3.out]
                                exact ends_bad 4 _ (below_set (below_set (below_set (below_set HB.out (Nat.le_refl _)) (Nat.le_refl _)) (Nat.le_refl _)) (Nat.le_refl _))
                            · rw [if_neg y1] at HM3
                              have HIN : Aside0 (inB A t = false) := ⟨by simpa using y1⟩
                              by_cases d2 : k < s.size
                              · have hk32 : s.get! k = 32 := Decidable.byContradiction fun h => d1 ⟨d2, h⟩
                                have eb : s.get! k = s[k]'d2 := by show s.data[k]! = s.data[k]'d2; exact getElem!_pos s.data k d2
                                have d1d : (((s[k]'d2).toNat : Int) != 32) = false := by rw [← eb, hk32]; rfl
                                have d1z : 0 ≤ (k : Int) := by omega
                                have d1b : decide (k < s.size) = true := decide_eq_true d2
                                clear d1 hk32 eb
                                go_wp2_with (first | (go_at_call 70; refine (impl_oddRune.calls _ _ _ HO.out (HT.out.below HB.out)).mono ?_; rintro e w1 ⟨rfl, hb⟩; replace C0 := Aside0.mk (blk_below C0.out hb); replace C1 := Aside0.mk (blk_below C1.out hb); replace C2 := Aside0.mk (blk_below C2.out hb); replace HU0 := Aside0.mk (Kd.R_below HU0.out hb); replace HU1 := Aside0.mk (Kd.R_below HU1.out hb); replace HB := Aside0.mk (below_step HB.out hb); clear hb; replace k2 : w1.cell? ⟨b8, 0, none⟩ = some (.int .i64 (i : Int)) := (blk_cell C2.out 0).trans rfl; replace f2 : w1.frozen? ⟨b8, 0, none⟩ = false := blk_frozen C2.out 0) | (go_at_call 71; refine (isw_calls t false _ HW.out).mono ?_; rintro e w2 ⟨rfl, hb⟩; replace C0 := Aside0.mk (blk_below C0.out hb); replace C1 := Aside0.mk (blk_below C1.out hb); replace C2 := Aside0.mk (blk_below C2.out hb); replace HU0 := Aside0.mk (Kd.R_below HU0.out hb); replace HU1 := Aside0.mk (Kd.R_below HU1.out hb); replace HB := Aside0.mk (below_step HB.out hb); clear hb; replace k2 : w2.cell? ⟨b8, 0, none⟩ = some (.int .i64 (i : Int)) := (blk_cell C2.out 0).trans rfl; replace f2 : w2.frozen? ⟨b8, 0, none⟩ = false := blk_frozen C2.out 0; have zc : w2.cell? ⟨w.heap.size + 1, 1, none⟩ = some (.slice Ao A.length co) := (blk_cell C1.out 1).trans rfl) | (go_at_call 72; refine (count_calls t _ HTZ.out).mono ?_; rintro e w4 ⟨rfl, hb⟩; replace C0 := Aside0.mk (blk_below C0.out hb); replace C1 := Aside0.mk (blk_below C1.out hb); replace C2 := Aside0.mk (blk_below C2.out hb); replace HU0 := Aside0.mk (Kd.R_below HU0.out hb); replace HU1 := Aside0.mk (Kd.R_below HU1.out hb); replace HB := Aside0.mk (below_step HB.out hb); clear hb; replace k2 : w4.cell? ⟨b8, 0, none⟩ = some (.int .i64 (i : Int)) := (blk_cell C2.out 0).trans rfl; replace f2 : w4.frozen? ⟨b8, 0, none⟩ = false := blk_frozen C2.out 0; have q0 : w4.cell? ⟨w.heap.size, 0, none⟩ = some (.slice none 0 0) := (blk_cell C0.out 0).trans rfl; have g0 := blk_frozen C0.out 0; have q1 : w4.cell? ⟨w.heap.size, 1, none⟩ = some (.slice none 0 0) := (blk_cell C0.out 1).trans rfl; have g1 := blk_frozen C0.out 1; have q2 : w4.cell? ⟨w.heap.size, 2, none⟩ = some (.int .i64 0) := (blk_cell C0.out 2).trans rfl; have g2 := blk_frozen C0.out 2; have q3 : w4.cell? ⟨w.heap.size, 3, none⟩ = some (.int .i64 0) := (blk_cell C0.out 3).trans rfl; have g3 := blk_frozen C0.out 3; replace zc : w4.cell? ⟨w.heap.size + 1, 1, none⟩ = some (.slice Ao A.length co) := (blk_cell C1.out 1).trans rfl) | (go_at_call 73; refine (contains_calls Ao co A t false _ ⟨(Kd.R_reads' HU1.out).2.2, (Kd.R_reads' HU1.out).2.1, H6.out⟩ HIN.out).mono ?_; rintro e w5 ⟨rfl, hb⟩; replace C0 := Aside0.mk (blk_below C0.out hb); replace C1 := Aside0.mk (blk_below C1.out hb); replace C2 := Aside0.mk (blk_below C2.out hb); replace HU0 := Aside0.mk (Kd.R_below HU0.out hb); replace HU1 := Aside0.mk (Kd.R_below HU1.out hb); replace HB := Aside0.mk (below_step HB.out hb); clear hb; replace k2 : w5.cell? ⟨b8, 0, none⟩ = some (.int .i64 (i : Int)) := (blk_cell C2.out 0).trans rfl; replace f2 : w5.frozen? ⟨b8, 0, none⟩ = false := blk_frozen C2.out 0; replace zc : w5.cell? ⟨w.heap.size + 1, 1, none⟩ = some (.slice Ao A.length co) := (blk_cell C1.out 1).trans rfl))
                                refine start_ (n := 10) (S := fun w' => w'.cell? ⟨w.heap.size + 1, 1, none⟩ = some (.slice Ao A.length co)) (ds := [9]) #[false, false, false, false, false, false, false, false, false, false] (by kernel_rfl) rfl rfl zc (fun hHeld => ?_)
                                have hb : Below w5.heap.size w5 w5.drew := by apply below_drew1; exact Below.refl _ _
                                replace C0 := Aside0.mk (blk_below C0.out hb)
                                replace C1 := Aside0.mk (blk_below C1.out hb)
                                replace C2 := Aside0.mk (blk_below C2.out hb)
                                replace HU0 := Aside0.mk (Kd.R_below HU0.out hb)
                                replace HU1 := Aside0.mk (Kd.R_below HU1.out hb)
                                replace HB := Aside0.mk (below_step HB.out hb)
                                clear hb
                                refine pure_ (i := 0) (N := some 98) (v := ?_) (a' := ?_) #[true, false, false, false, false, false, false, false, false, false] rfl rfl (by kernel_rfl) (fun _ _ _ h => h) (Or.inl ⟨by rfl, ?_⟩) ?_ ?_
                                rotate_left
                                · intro w'
                                  go_simp
                                  with_reducible rfl
                                rotate_left
                                · simp only [Act.put, List.setIfInBounds_toArray, List.set_cons_zero, List.set_cons_succ]
                                  rfl
                                refine pure_ (i := 1) (N := some 99) (v := ?_) (a' := ?_) #[true, true, false, false, false, false, false, false, false, false] rfl rfl (by kernel_rfl) (fun _ _ _ h => h) (Or.inl ⟨by rfl, ?_⟩) ?_ ?_
                                rotate_left
                                · intro w'
                                  go_simp
                                  with_reducible rfl
                                rotate_left
                                · simp only [Act.put, List.setIfInBounds_toArray, List.set_cons_zero, List.set_cons_succ]
                                  rfl
                                refine pure_ (i := 4) (N := some 102) (v := ?_) (a' := ?_) #[true, true, false, false, true, false, false, false, false, false] rfl rfl (by kernel_rfl) (fun _ _ _ h => h) (Or.inl ⟨by rfl, ?_⟩) ?_ ?_
                                rotate_left
                                · intro w'
                                  go_simp
                                  with_reducible rfl
                                rotate_left
                                · simp only [Act.put, List.setIfInBounds_toArray, List.set_cons_zero, List.set_cons_succ]
                                  rfl
                                refine pure_ (i := 2) (N := some 100) (v := ?_) (a' := ?_) #[true, true, true, false, true, false, false, false, false, false] rfl rfl (by kernel_rfl) (fun _ _ _ h => h) (Or.inl ⟨by rfl, ?_⟩) ?_ ?_
                                rotate_left
                                · intro w'
                                  go_simp
                                  with_reducible rfl
                                rotate_left
                                · simp only [Act.put, List.setIfInBounds_toArray, List.set_cons_zero, List.set_cons_succ]
                                  rfl
                                refine take_ (i := 3) (N := some 101) (v := ?_) (a' := ?_) #[true, true, true, true, true, false, false, false, false, false] rfl rfl (by kernel_rfl) (fun _ _ _ h => h) (Or.inl ⟨by rfl, ?_⟩) hHeld ?_ ?_
                                rotate_left
                                · rintro w' hz_
                                  go_simp
                                  with_reducible rfl
                                rotate_left
                                · simp only [Act.put, List.setIfInBounds_toArray, List.set_cons_zero, List.set_cons_succ]
                                  rfl
                                refine one_ (i := 5) (N := some 103) #[true, true, true, true, true, true, false, false, false, false] rfl rfl (by kernel_rfl) (by decide) (fun K hK => ?_)
                                refine goes_ Tryd.func74 (by kernel_rfl) rfl #[.string t] (by rfl) rfl rfl (by simp only [List.map_toArray, List.map_cons, List.map_nil]; rfl) ?_
                                refine (clone_calls t _ (by have := HTZ.out; omega)).mono ?_
                                rintro e w6 ⟨rfl, hb⟩
                                replace C0 := Aside0.mk (blk_below C0.out hb)
                                replace C1 := Aside0.mk (blk_below C1.out hb)
                                replace C2 := Aside0.mk (blk_below C2.out hb)
                                replace HU0 := Aside0.mk (Kd.R_below HU0.out hb)
                                replace HU1 := Aside0.mk (Kd.R_below HU1.out hb)
                                replace HB := Aside0.mk (below_step HB.out hb)
                                clear hb
                                refine ⟨_, rfl, ?_⟩
                                refine hK.out _ _ ((blk_cell C1.out 1).trans rfl) (fun hHeld => ?_)
                                clear hK K
                                refine norm_ (a' := ?_) ?_ ?_
                                rotate_left
                                · show Act.put _ (some 103) _ = _
                                  simp only [Act.put, List.setIfInBounds_toArray, List.set_cons_zero, List.set_cons_succ]
                                  rfl
                                refine one_ (i := 6) (N := some 104) #[true, true, true, true, true, true, true, false, false, false] rfl rfl (by kernel_rfl) (by decide) (fun K hK => ?_)
                                refine value_ (w1 := w6.alloc (.cells #[.string t] 9)) (v := .slice (some ⟨w6.heap.size, 0, none⟩) 1 1) (by rfl) rfl (by first | (go_simp; done) | (go_simp; rfl)) ?_
                                refine hK.out _ _ ((blk_cell (blk_alloc C1.out _) 1).trans rfl) (fun hHeld => ?_)
                                clear hK K
                                refine norm_ (a' := ?_) ?_ ?_
                                rotate_left
                                · show Act.put _ (some 104) _ = _
                                  simp only [Act.put, List.setIfInBounds_toArray, List.set_cons_zero, List.set_cons_succ]
                                  rfl
                                refine one_ (i := 7) (N := some 105) #[true, true, true, true, true, true, true, true, false, false] rfl rfl (by kernel_rfl) (by decide) (fun K hK => ?_)
                                refine Kd.R_append_step Kd.string (w0 := w) (W := w6) w.heap.size (by rfl) (.tmp 101) (.tmp 104) 22 9 (.string ⟨#[]⟩) 16 rfl Tryd.underlying22 info9 rfl (by decide) (by omega) (.slice Ao A.length co) A t [.string t] (fun k_ => some k_ ≠ (u0 : Value).ownBlock) (fun _ => False) rfl rfl ?aP1 (fun _ hk => hk.elim) ?aF1 HU1.out HB.out HB.out.size ?aL1 ?_
                                (case aP1 => exact rfl)
                                (case aF1 => exact (fun k_ hk e => by have := ((Kd.R_bound HU0.out).1 k_ e.symm).2.2.1; omega))
                                (case aL1 => have := H6.out; omega)
                                intro v7 w7 ho hb hg hat
                                obtain ⟨A7, c7, e7⟩ := Kd.R_slice ho
                                subst e7
                                have n0_ := Aside0.mk (blk_grown C0.out hg (Kd.R_ne HU1.out C0.out (by decide)))
                                have n1_ := Aside0.mk (blk_grown C1.out hg (Kd.R_ne HU1.out C1.out (by decide)))
                                have n2_ := Aside0.mk (blk_grown C2.out hg (Kd.R_ne HU1.out C2.out (by decide)))
                                have n3_ : Aside0 (Kd.R Kd.string 9 w7 w.heap.size (fun k_ => some k_ ≠ (Value.slice A7 (A ++ [t]).length c7).ownBlock) u0 R) := ⟨Kd.R_mono (Kd.R_grown (Kd.R_bound HU0.out) hg (fun k_ h1 => h1.1)) (fun k_ h1 => by rcases hat with e | ⟨b, e, hb⟩ <;> rw [e]; exact h1.1; intro e2; have e3 := Option.some.inj e2; have := h1.2.2.1; omega)⟩
                                have n4_ := Aside0.mk ho
                                clear C0 C1 C2 HU0 HU1 HB hg hat ho
                                have C0 := n0_
                                have C1 := n1_
                                have C2 := n2_
                                have HU0 := n3_
                                have HU1 := n4_
                                have HB := Aside0.mk hb
                                clear n0_ n1_ n2_ n3_ n4_ hb
                                refine hK.out _ _ ((blk_cell C1.out 1).trans rfl) (fun hHeld => ?_)
                                clear hK K
                                refine norm_ (a' := ?_) ?_ ?_
                                rotate_left
                                · show Act.put _ (some 105) _ = _
                                  simp only [Act.put, List.setIfInBounds_toArray, List.set_cons_zero, List.set_cons_succ]
                                  rfl
                                refine pure_ (i := 8) (N := some 106) (v := ?_) (a' := ?_) #[true, true, true, true, true, true, true, true, true, false] rfl rfl (by kernel_rfl) (fun _ _ _ h => h) (Or.inl ⟨by rfl, ?_⟩) ?_ ?_
                                rotate_left
                                · intro w'
                                  go_simp
                                  with_reducible rfl
                                rotate_left
                                · simp only [Act.put, List.setIfInBounds_toArray, List.set_cons_zero, List.set_cons_succ]
                                  rfl
                                have zf7 : w7.frozen? ⟨w.heap.size + 1, 1, none⟩ = false := blk_frozen C1.out 1
                                have zc7 : w7.cell? ⟨w.heap.size + 1, 1, none⟩ = some (.slice Ao A.length co) := (blk_cell C1.out 1).trans rfl
                                refine last_ (i := 9) (N := none) #[true, true, true, true, true, true, true, true, true, true] rfl rfl (by kernel_rfl) (by decide) (fun K hK => ?_)
                                refine skip_ (w1 := (w7.setCell ⟨w.heap.size + 1, 1, none⟩ (.slice A7 (A ++ [t]).length c7))) (by rfl) rfl (by first | (go_simp; done) | (go_simp; rfl)) ?_
                                refine hK.out _ _ ?_
                                clear hK K hHeld zc zc7 zf7
                                refine done_ (by kernel_rfl) ?_
                                have hne := HN.out
                                have n3_ := Aside0.mk (Kd.R_mono (Kd.R_far (p := ⟨w.heap.size + 1, 1, none⟩) (Kd.R_types HU0.out C1.out (by decide)) (fun _ hk => hk.2) (.slice A7 (A ++ [t]).length c7)) (fun _ hk => hk.1))
                                have n4_ := Aside0.mk (Kd.R_mono (Kd.R_far (p := ⟨w.heap.size + 1, 1, none⟩) (Kd.R_types HU1.out C1.out (by decide)) (fun _ hk => hk.2) (.slice A7 (A ++ [t]).length c7)) (fun _ hk => hk.1))
                                have n1_ : Aside0 ((w7.setCell ⟨w.heap.size + 1, 1, none⟩ (.slice A7 (A ++ [t]).length c7)).heap[w.heap.size + 1]? = some (.cells #[u0, .slice A7 (A ++ [t]).length c7] 36 (0, 0))) := ⟨blk_put C1.out 1 _ rfl⟩
                                have n0_ := Aside0.mk (blk_far (p := ⟨w.heap.size + 1, 1, none⟩) C0.out (by show w.heap.size ≠ w.heap.size + 1; omega) (.slice A7 (A ++ [t]).length c7))
                                have n2_ := Aside0.mk (blk_far (p := ⟨w.heap.size + 1, 1, none⟩) C2.out (by show b8 ≠ w.heap.size + 1; omega) (.slice A7 (A ++ [t]).length c7))
                                have n5_ : Aside0 (Below w.heap.size w (w7.setCell ⟨w.heap.size + 1, 1, none⟩ (.slice A7 (A ++ [t]).length c7))) := ⟨below_set HB.out (by show w.heap.size ≤ w.heap.size + 1; omega)⟩
                                clear C0 C1 C2 HU0 HU1 HB hne
                                have C0 := n0_
                                have C1 := n1_
                                have C2 := n2_
                                have HU0 := n3_
                                have HU1 := n4_
                                have HB := n5_
                                clear n0_ n1_ n2_ n3_ n4_ n5_
                                generalize (w7.setCell ⟨w.heap.size + 1, 1, none⟩ (.slice A7 (A ++ [t]).length c7)) = w8 at C0 C1 C2 HU0 HU1 HB ⊢
                                replace k2 : w8.cell? ⟨b8, 0, none⟩ = some (.int .i64 (i : Int)) := (blk_cell C2.out 0).trans rfl
                                replace f2 : w8.frozen? ⟨b8, 0, none⟩ = false := blk_frozen C2.out 0
                                go_wp2
                                go_roundg g
                                case measure => omega
                                case rel =>
                                  have hlt := blk_lt C2.out
                                  have n1 := blk_new ((w8).setCell ⟨b8, 0, none⟩ (.int .i64 (k : Int))) (Obj.cells #[.int .i64 (k : Int)] 3)
                                  have hn := HN.out
                                  have hi := HI.out
                                  have hp := HP.out
                                  have n2 : (((w8).setCell ⟨b8, 0, none⟩ (.int .i64 (k : Int))).alloc (Obj.cells #[.int .i64 (k : Int)] 3)).heap[(w8).heap.size]? = some (.cells #[.int .i64 (k : Int)] 3 (0, 0)) := by simpa using n1
                                  have hlt2 : b8 < (w8).heap.size := by simpa using hlt
                                  exact ⟨k, 2, (many + 1), R, (A ++ [t]), u0, (.slice A7 (A ++ [t]).length c7), (w8).heap.size, fr, (some ⟨w.heap.size + 1, 1, none⟩), rfl, rfl, rfl, rfl, rfl, ⟨rfl⟩, HM3, ⟨by omega⟩, ⟨by omega, by omega, fun h => absurd h (by decide), fun h => absurd h (by decide), fun h => absurd h (by decide), fun _ => by rw [List.length_append, List.length_singleton]; have := HLM.out; omega, hp.2.2.2.2.2.2.1, by rw [List.length_append, List.length_singleton]; have := HLM.out; omega⟩, ⟨blk_alloc (blk_far C0.out (by show w.heap.size ≠ b8; omega) _) _⟩, ⟨blk_alloc (blk_far C1.out (by show w.heap.size + 1 ≠ b8; omega) _) _⟩, ⟨n2⟩, ⟨by omega⟩, ⟨Kd.R_alloc (Kd.R_mono (Kd.R_far (p := ⟨b8, 0, none⟩) (Kd.R_types HU0.out C2.out (by decide)) (fun _ hk => hk.2) _) (fun _ hk => hk.1)) _⟩, ⟨Kd.R_alloc (Kd.R_mono (Kd.R_far (p := ⟨b8, 0, none⟩) (Kd.R_types HU1.out C2.out (by decide)) (fun _ hk => hk.2) _) (fun _ hk => hk.1)) _⟩, ⟨below_alloc (below_set HB.out (by omega)) _⟩⟩
                              · have d1b : decide (k < s.size) = false := decide_eq_false d2
                                clear d1
                                go_wp2_with (first | (go_at_call 70; refine (impl_oddRune.calls _ _ _ HO.out (HT.out.below HB.out)).mono ?_; rintro e w1 ⟨rfl, hb⟩; replace C0 := Aside0.mk (blk_below C0.out hb); replace C1 := Aside0.mk (blk_below C1.out hb); replace C2 := Aside0.mk (blk_below C2.out hb); replace HU0 := Aside0.mk (Kd.R_below HU0.out hb); replace HU1 := Aside0.mk (Kd.R_below HU1.out hb); replace HB := Aside0.mk (below_step HB.out hb); clear hb; replace k2 : w1.cell? ⟨b8, 0, none⟩ = some (.int .i64 (i : Int)) := (blk_cell C2.out 0).trans rfl; replace f2 : w1.frozen? ⟨b8, 0, none⟩ = false := blk_frozen C2.out 0) | (go_at_call 71; refine (isw_calls t false _ HW.out).mono ?_; rintro e w2 ⟨rfl, hb⟩; replace C0 := Aside0.mk (blk_below C0.out hb); replace C1 := Aside0.mk (blk_below C1.out hb); replace C2 := Aside0.mk (blk_below C2.out hb); replace HU0 := Aside0.mk (Kd.R_below HU0.out hb); replace HU1 := Aside0.mk (Kd.R_below HU1.out hb); replace HB := Aside0.mk (below_step HB.out hb); clear hb; replace k2 : w2.cell? ⟨b8, 0, none⟩ = some (.int .i64 (i : Int)) := (blk_cell C2.out 0).trans rfl; replace f2 : w2.frozen? ⟨b8, 0, none⟩ = false := blk_frozen C2.out 0; have zc : w2.cell? ⟨w.heap.size + 1, 1, none⟩ = some (.slice Ao A.length co) := (blk_cell C1.out 1).trans rfl) | (go_at_call 72; refine (count_calls t _ HTZ.out).mono ?_; rintro e w4 ⟨rfl, hb⟩; replace C0 := Aside0.mk (blk_below C0.out hb); replace C1 := Aside0.mk (blk_below C1.out hb); replace C2 := Aside0.mk (blk_below C2.out hb); replace HU0 := Aside0.mk (Kd.R_below HU0.out hb); replace HU1 := Aside0.mk (Kd.R_below HU1.out hb); replace HB := Aside0.mk (below_step HB.out hb); clear hb; replace k2 : w4.cell? ⟨b8, 0, none⟩ = some (.int .i64 (i : Int)) := (blk_cell C2.out 0).trans rfl; replace f2 : w4.frozen? ⟨b8, 0, none⟩ = false := blk_frozen C2.out 0; have q0 : w4.cell? ⟨w.heap.size, 0, none⟩ = some (.slice none 0 0) := (blk_cell C0.out 0).trans rfl; have g0 := blk_frozen C0.out 0; have q1 : w4.cell? ⟨w.heap.size, 1, none⟩ = some (.slice none 0 0) := (blk_cell C0.out 1).trans rfl; have g1 := blk_frozen C0.out 1; have q2 : w4.cell? ⟨w.heap.size, 2, none⟩ = some (.int .i64 0) := (blk_cell C0.out 2).trans rfl; have g2 := blk_frozen C0.out 2; have q3 : w4.cell? ⟨w.heap.size, 3, none⟩ = some (.int .i64 0) := (blk_cell C0.out 3).trans rfl; have g3 := blk_frozen C0.out 3; replace zc : w4.cell? ⟨w.heap.size + 1, 1, none⟩ = some (.slice Ao A.length co) := (blk_cell C1.out 1).trans rfl) | (go_at_call 73; refine (contains_calls Ao co A t false _ ⟨(Kd.R_reads' HU1.out).2.2, (Kd.R_reads' HU1.out).2.1, H6.out⟩ HIN.out).mono ?_; rintro e w5 ⟨rfl, hb⟩; replace C0 := Aside0.mk (blk_below C0.out hb); replace C1 := Aside0.mk (blk_below C1.out hb); replace C2 := Aside0.mk (blk_below C2.out hb); replace HU0 := Aside0.mk (Kd.R_below HU0.out hb); replace HU1 := Aside0.mk (Kd.R_below HU1.out hb); replace HB := Aside0.mk (below_step HB.out hb); clear hb; replace k2 : w5.cell? ⟨b8, 0, none⟩ = some (.int .i64 (i : Int)) := (blk_cell C2.out 0).trans rfl; replace f2 : w5.frozen? ⟨b8, 0, none⟩ = false := blk_frozen C2.out 0; replace zc : w5.cell? ⟨w.heap.size + 1, 1, none⟩ = some (.slice Ao A.length co) := (blk_cell C1.out 1).trans rfl))
                                refine start_ (n := 10) (S := fun w' => w'.cell? ⟨w.heap.size + 1, 1, none⟩ = some (.slice Ao A.length co)) (ds := [9]) #[false, false, false, false, false, false, false, false, false, false] (by kernel_rfl) rfl rfl zc (fun hHeld => ?_)
                                have hb : Below w5.heap.size w5 w5.drew := by apply below_drew1; exact Below.refl _ _
                                replace C0 := Aside0.mk (blk_below C0.out hb)
                                replace C1 := Aside0.mk (blk_below C1.out hb)
                                replace C2 := Aside0.mk (blk_below C2.out hb)
                                replace HU0 := Aside0.mk (Kd.R_below HU0.out hb)
                                replace HU1 := Aside0.mk (Kd.R_below HU1.out hb)
                                replace HB := Aside0.mk (below_step HB.out hb)
                                clear hb
                                refine pure_ (i := 0) (N := some 98) (v := ?_) (a' := ?_) #[true, false, false, false, false, false, false, false, false, false] rfl rfl (by kernel_rfl) (fun _ _ _ h => h) (Or.inl ⟨by rfl, ?_⟩) ?_ ?_
                                rotate_left
                                · intro w'
                                  go_simp
                                  with_reducible rfl
                                rotate_left
                                · simp only [Act.put, List.setIfInBounds_toArray, List.set_cons_zero, List.set_cons_succ]
                                  rfl
                                refine pure_ (i := 1) (N := some 99) (v := ?_) (a' := ?_) #[true, true, false, false, false, false, false, false, false, false] rfl rfl (by kernel_rfl) (fun _ _ _ h => h) (Or.inl ⟨by rfl, ?_⟩) ?_ ?_
                                rotate_left
                                · intro w'
                                  go_simp
                                  with_reducible rfl
                                rotate_left
                                · simp only [Act.put, List.setIfInBounds_toArray, List.set_cons_zero, List.set_cons_succ]
                                  rfl
                                refine pure_ (i := 4) (N := some 102) (v := ?_) (a' := ?_) #[true, true, false, false, true, false, false, false, false, false] rfl rfl (by kernel_rfl) (fun _ _ _ h => h) (Or.inl ⟨by rfl, ?_⟩) ?_ ?_
                                rotate_left
                                · intro w'
                                  go_simp
                                  with_reducible rfl
                                rotate_left
                                · simp only [Act.put, List.setIfInBounds_toArray, List.set_cons_zero, List.set_cons_succ]
                                  rfl
                                refine pure_ (i := 2) (N := some 100) (v := ?_) (a' := ?_) #[true, true, true, false, true, false, false, false, false, false] rfl rfl (by kernel_rfl) (fun _ _ _ h => h) (Or.inl ⟨by rfl, ?_⟩) ?_ ?_
                                rotate_left
                                · intro w'
                                  go_simp
                                  with_reducible rfl
                                rotate_left
                                · simp only [Act.put, List.setIfInBounds_toArray, List.set_cons_zero, List.set_cons_succ]
                                  rfl
                                refine take_ (i := 3) (N := some 101) (v := ?_) (a' := ?_) #[true, true, true, true, true, false, false, false, false, false] rfl rfl (by kernel_rfl) (fun _ _ _ h => h) (Or.inl ⟨by rfl, ?_⟩) hHeld ?_ ?_
                                rotate_left
                                · rintro w' hz_
                                  go_simp
                                  with_reducible rfl
                                rotate_left
                                · simp only [Act.put, List.setIfInBounds_toArray, List.set_cons_zero, List.set_cons_succ]
                                  rfl
                                refine one_ (i := 5) (N := some 103) #[true, true, true, true, true, true, false, false, false, false] rfl rfl (by kernel_rfl) (by decide) (fun K hK => ?_)
                                refine goes_ Tryd.func74 (by kernel_rfl) rfl #[.string t] (by rfl) rfl rfl (by simp only [List.map_toArray, List.map_cons, List.map_nil]; rfl) ?_
                                refine (clone_calls t _ (by have := HTZ.out; omega)).mono ?_
                                rintro e w6 ⟨rfl, hb⟩
                                replace C0 := Aside0.mk (blk_below C0.out hb)
                                replace C1 := Aside0.mk (blk_below C1.out hb)
                                replace C2 := Aside0.mk (blk_below C2.out hb)
                                replace HU0 := Aside0.mk (Kd.R_below HU0.out hb)
                                replace HU1 := Aside0.mk (Kd.R_below HU1.out hb)
                                replace HB := Aside0.mk (below_step HB.out hb)
                                clear hb
                                refine ⟨_, rfl, ?_⟩
                                refine hK.out _ _ ((blk_cell C1.out 1).trans rfl) (fun hHeld => ?_)
                                clear hK K
                                refine norm_ (a' := ?_) ?_ ?_
                                rotate_left
                                · show Act.put _ (some 103) _ = _
                                  simp only [Act.put, List.setIfInBounds_toArray, List.set_cons_zero, List.set_cons_succ]
                                  rfl
                                refine one_ (i := 6) (N := some 104) #[true, true, true, true, true, true, true, false, false, false] rfl rfl (by kernel_rfl) (by decide) (fun K hK => ?_)
                                refine value_ (w1 := w6.alloc (.cells #[.string t] 9)) (v := .slice (some ⟨w6.heap.size, 0, none⟩) 1 1) (by rfl) rfl (by first | (go_simp; done) | (go_simp; rfl)) ?_
                                refine hK.out _ _ ((blk_cell (blk_alloc C1.out _) 1).trans rfl) (fun hHeld => ?_)
                                clear hK K
                                refine norm_ (a' := ?_) ?_ ?_
                                rotate_left
                                · show Act.put _ (some 104) _ = _
                                  simp only [Act.put, List.setIfInBounds_toArray, List.set_cons_zero, List.set_cons_succ]
                                  rfl
                                refine one_ (i := 7) (N := some 105) #[true, true, true, true, true, true, true, true, false, false] rfl rfl (by kernel_rfl) (by decide) (fun K hK => ?_)
                                refine Kd.R_append_step Kd.string (w0 := w) (W := w6) w.heap.size (by rfl) (.tmp 101) (.tmp 104) 22 9 (.string ⟨#[]⟩) 16 rfl Tryd.underlying22 info9 rfl (by decide) (by omega) (.slice Ao A.length co) A t [.string t] (fun k_ => some k_ ≠ (u0 : Value).ownBlock) (fun _ => False) rfl rfl ?aP1 (fun _ hk => hk.elim) ?aF1 HU1.out HB.out HB.out.size ?aL1 ?_
                                (case aP1 => exact rfl)
                                (case aF1 => exact (fun k_ hk e => by have := ((Kd.R_bound HU0.out).1 k_ e.symm).2.2.1; omega))
                                (case aL1 => have := H6.out; omega)
                                intro v7 w7 ho hb hg hat
                                obtain ⟨A7, c7, e7⟩ := Kd.R_slice ho
                                subst e7
                                have n0_ := Aside0.mk (blk_grown C0.out hg (Kd.R_ne HU1.out C0.out (by decide)))
                                have n1_ := Aside0.mk (blk_grown C1.out hg (Kd.R_ne HU1.out C1.out (by decide)))
                                have n2_ := Aside0.mk (blk_grown C2.out hg (Kd.R_ne HU1.out C2.out (by decide)))
                                have n3_ : Aside0 (Kd.R Kd.string 9 w7 w.heap.size (fun k_ => some k_ ≠ (Value.slice A7 (A ++ [t]).length c7).ownBlock) u0 R) := ⟨Kd.R_mono (Kd.R_grown (Kd.R_bound HU0.out) hg (fun k_ h1 => h1.1)) (fun k_ h1 => by rcases hat with e | ⟨b, e, hb⟩ <;> rw [e]; exact h1.1; intro e2; have e3 := Option.some.inj e2; have := h1.2.2.1; omega)⟩
                                have n4_ := Aside0.mk ho
                                clear C0 C1 C2 HU0 HU1 HB hg hat ho
                                have C0 := n0_
                                have C1 := n1_
                                have C2 := n2_
                                have HU0 := n3_
                                have HU1 := n4_
                                have HB := Aside0.mk hb
                                clear n0_ n1_ n2_ n3_ n4_ hb
                                refine hK.out _ _ ((blk_cell C1.out 1).trans rfl) (fun hHeld => ?_)
                                clear hK K
                                refine norm_ (a' := ?_) ?_ ?_
                                rotate_left
                                · show Act.put _ (some 105) _ = _
                                  simp only [Act.put, List.setIfInBounds_toArray, List.set_cons_zero, List.set_cons_succ]
                                  rfl
                                refine pure_ (i := 8) (N := some 106) (v := ?_) (a' := ?_) #[true, true, true, true, true, true, true, true, true, false] rfl rfl (by kernel_rfl) (fun _ _ _ h => h) (Or.inl ⟨by rfl, ?_⟩) ?_ ?_
                                rotate_left
                                · intro w'
                                  go_simp
                                  with_reducible rfl
                                rotate_left
                                · simp only [Act.put, List.setIfInBounds_toArray, List.set_cons_zero, List.set_cons_succ]
                                  rfl
                                have zf7 : w7.frozen? ⟨w.heap.size + 1, 1, none⟩ = false := blk_frozen C1.out 1
                                have zc7 : w7.cell? ⟨w.heap.size + 1, 1, none⟩ = some (.slice Ao A.length co) := (blk_cell C1.out 1).trans rfl
                                refine last_ (i := 9) (N := none) #[true, true, true, true, true, true, true, true, true, true] rfl rfl (by kernel_rfl) (by decide) (fun K hK => ?_)
                                refine skip_ (w1 := (w7.setCell ⟨w.heap.size + 1, 1, none⟩ (.slice A7 (A ++ [t]).length c7))) (by rfl) rfl (by first | (go_simp; done) | (go_simp; rfl)) ?_
                                refine hK.out _ _ ?_
                                clear hK K hHeld zc zc7 zf7
                                refine done_ (by kernel_rfl) ?_
                                have hne := HN.out
                                have n3_ := Aside0.mk (Kd.R_mono (Kd.R_far (p := ⟨w.heap.size + 1, 1, none⟩) (Kd.R_types HU0.out C1.out (by decide)) (fun _ hk => hk.2) (.slice A7 (A ++ [t]).length c7)) (fun _ hk => hk.1))
                                have n4_ := Aside0.mk (Kd.R_mono (Kd.R_far (p := ⟨w.heap.size + 1, 1, none⟩) (Kd.R_types HU1.out C1.out (by decide)) (fun _ hk => hk.2) (.slice A7 (A ++ [t]).length c7)) (fun _ hk => hk.1))
                                have n1_ : Aside0 ((w7.setCell ⟨w.heap.size + 1, 1, none⟩ (.slice A7 (A ++ [t]).length c7)).heap[w.heap.size + 1]? = some (.cells #[u0, .slice A7 (A ++ [t]).length c7] 36 (0, 0))) := ⟨blk_put C1.out 1 _ rfl⟩
                                have n0_ := Aside0.mk (blk_far (p := ⟨w.heap.size + 1, 1, none⟩) C0.out (by show w.heap.size ≠ w.heap.size + 1; omega) (.slice A7 (A ++ [t]).length c7))
                                have n2_ := Aside0.mk (blk_far (p := ⟨w.heap.size + 1, 1, none⟩) C2.out (by show b8 ≠ w.heap.size + 1; omega) (.slice A7 (A ++ [t]).length c7))
                                have n5_ : Aside0 (Below w.heap.size w (w7.setCell ⟨w.heap.size + 1, 1, none⟩ (.slice A7 (A ++ [t]).length c7))) := ⟨below_set HB.out (by show w.heap.size ≤ w.heap.size + 1; omega)⟩
                                clear C0 C1 C2 HU0 HU1 HB hne
                                have C0 := n0_
                                have C1 := n1_
                                have C2 := n2_
                                have HU0 := n3_
                                have HU1 := n4_
                                have HB := n5_
                                clear n0_ n1_ n2_ n3_ n4_ n5_
                                generalize (w7.setCell ⟨w.heap.size + 1, 1, none⟩ (.slice A7 (A ++ [t]).length c7)) = w8 at C0 C1 C2 HU0 HU1 HB ⊢
                                replace k2 : w8.cell? ⟨b8, 0, none⟩ = some (.int .i64 (i : Int)) := (blk_cell C2.out 0).trans rfl
                                replace f2 : w8.frozen? ⟨b8, 0, none⟩ = false := blk_frozen C2.out 0
                                go_wp2
                                go_roundg g
                                case measure => omega
                                case rel =>
                                  have hlt := blk_lt C2.out
                                  have n1 := blk_new ((w8).setCell ⟨b8, 0, none⟩ (.int .i64 (k : Int))) (Obj.cells #[.int .i64 (k : Int)] 3)
                                  have hn := HN.out
                                  have hi := HI.out
                                  have hp := HP.out
                                  have n2 : (((w8).setCell ⟨b8, 0, none⟩ (.int .i64 (k : Int))).alloc (Obj.cells #[.int .i64 (k : Int)] 3)).heap[(w8).heap.size]? = some (.cells #[.int .i64 (k : Int)] 3 (0, 0)) := by simpa using n1
                                  have hlt2 : b8 < (w8).heap.size := by simpa using hlt
                                  exact ⟨k, 2, (many + 1), R, (A ++ [t]), u0, (.slice A7 (A ++ [t]).length c7), (w8).heap.size, fr, (some ⟨w.heap.size + 1, 1, none⟩), rfl, rfl, rfl, rfl, rfl, ⟨rfl⟩, HM3, ⟨by omega⟩, ⟨by omega, by omega, fun h => absurd h (by decide), fun h => absurd h (by decide), fun h => absurd h (by decide), fun _ => by rw [List.length_append, List.length_singleton]; have := HLM.out; omega, hp.2.2.2.2.2.2.1, by rw [List.length_append, List.length_singleton]; have := HLM.out; omega⟩, ⟨blk_alloc (blk_far C0.out (by show w.heap.size ≠ b8; omega) _) _⟩, ⟨blk_alloc (blk_far C1.out (by show w.heap.size + 1 ≠ b8; omega) _) _⟩, ⟨n2⟩, ⟨by omega⟩, ⟨Kd.R_alloc (Kd.R_mono (Kd.R_far (p := ⟨b8, 0, none⟩) (Kd.R_types HU0.out C2.out (by decide)) (fun _ hk => hk.2) _) (fun _ hk => hk.1)) _⟩, ⟨Kd.R_alloc (Kd.R_mono (Kd.R_far (p := ⟨b8, 0, none⟩) (Kd.R_types HU1.out C2.out (by decide)) (fun _ hk => hk.2) _) (fun _ hk => hk.1)) _⟩, ⟨below_alloc (below_set HB.out (by omega)) _⟩⟩
                      · replace p1 : part = 1 := by have := HP.out.1; omega
                        · subst p1
                          have hpp : pp = some ⟨w.heap.size + 1, 0, none⟩ := HPP.out
                          subst hpp
                          obtain ⟨Ao, co, eo⟩ := Kd.R_slice HU0.out
                          subst eo
                          have H6 := Aside0.mk HP.out.2.2.2.2.2.2.1
                          have HLM : Aside0 (R.length = many) := ⟨HP.out.2.2.2.1 rfl |>.2⟩
                          have HFR : Aside0 (fr = true) := ⟨(HP.out.2.2.2.1 rfl).1⟩
                          by_cases n1 : 12 < Lib.runeCount t
                          · rw [if_pos (Or.inl n1)] at HM3
                            have n2 : decide ((12 : Int) < (Lib.runeCount t : Int)) = true := decide_eq_true (by omega)
                            have n3 : decide (12 < Lib.runeCount t) = true := decide_eq_true n1
                            clear n1
                            by_cases d2 : k < s.size
                            · have hk32 : s.get! k = 32 := Decidable.byContradiction fun h => d1 ⟨d2, h⟩
                              have eb : s.get! k = s[k]'d2 := by show s.data[k]! = s.data[k]'d2; exact getElem!_pos s.data k d2
                              have d1d : (((s[k]'d2).toNat : Int) != 32) = false := by rw [← eb, hk32]; rfl
                              have d1z : 0 ≤ (k : Int) := by omega
                              have d1b : decide (k < s.size) = true := decide_eq_true d2
                              clear d1 hk32 eb
                              go_wp2_with (first | (go_at_call 70; refine (impl_oddRune.calls _ _ _ HO.out (HT.out.below HB.out)).mono ?_; rintro e w1 ⟨rfl, hb⟩; replace C0 := Aside0.mk (blk_below C0.out hb); replace C1 := Aside0.mk (blk_below C1.out hb); replace C2 := Aside0.mk (blk_below C2.out hb); replace HU0 := Aside0.mk (Kd.R_below HU0.out hb); replace HU1 := Aside0.mk (Kd.R_below HU1.out hb); replace HB := Aside0.mk (below_step HB.out hb); clear hb; replace k2 : w1.cell? ⟨b8, 0, none⟩ = some (.int .i64 (i : Int)) := (blk_cell C2.out 0).trans rfl; replace f2 : w1.frozen? ⟨b8, 0, none⟩ = false := blk_frozen C2.out 0) | (go_at_call 71; refine (isw_calls t false _ HW.out).mono ?_; rintro e w2 ⟨rfl, hb⟩; replace C0 := Aside0.mk (blk_below C0.out hb); replace C1 := Aside0.mk (blk_below C1.out hb); replace C2 := Aside0.mk (blk_below C2.out hb); replace HU0 := Aside0.mk (Kd.R_below HU0.out hb); replace HU1 := Aside0.mk (Kd.R_below HU1.out hb); replace HB := Aside0.mk (below_step HB.out hb); clear hb; replace k2 : w2.cell? ⟨b8, 0, none⟩ = some (.int .i64 (i : Int)) := (blk_cell C2.out 0).trans rfl; replace f2 : w2.frozen? ⟨b8, 0, none⟩ = false := blk_frozen C2.out 0; have zc : w2.cell? ⟨w.heap.size + 1, 0, none⟩ = some (.slice Ao R.length co) := (blk_cell C1.out 0).trans rfl) | (go_at_call 72; refine (count_calls t _ HTZ.out).mono ?_; rintro e w4 ⟨rfl, hb⟩; replace C0 := Aside0.mk (blk_below C0.out hb); replace C1 := Aside0.mk (blk_below C1.out hb); replace C2 := Aside0.mk (blk_below C2.out hb); replace HU0 := Aside0.mk (Kd.R_below HU0.out hb); replace HU1 := Aside0.mk (Kd.R_below HU1.out hb); replace HB := Aside0.mk (below_step HB.out hb); clear hb; replace k2 : w4.cell? ⟨b8, 0, none⟩ = some (.int .i64 (i : Int)) := (blk_cell C2.out 0).trans rfl; replace f2 : w4.frozen? ⟨b8, 0, none⟩ = false := blk_frozen C2.out 0; have q0 : w4.cell? ⟨w.heap.size, 0, none⟩ = some (.slice none 0 0) := (blk_cell C0.out 0).trans rfl; have g0 := blk_frozen C0.out 0; have q1 : w4.cell? ⟨w.heap.size, 1, none⟩ = some (.slice none 0 0) := (blk_cell C0.out 1).trans rfl; have g1 := blk_frozen C0.out 1; have q2 : w4.cell? ⟨w.heap.size, 2, none⟩ = some (.int .i64 0) := (blk_cell C0.out 2).trans rfl; have g2 := blk_frozen C0.out 2; have q3 : w4.cell? ⟨w.heap.size, 3, none⟩ = some (.int .i64 0) := (blk_cell C0.out 3).trans rfl; have g3 := blk_frozen C0.out 3; replace zc : w4.cell? ⟨w.heap.size + 1, 0, none⟩ = some (.slice Ao R.length co) := (blk_cell C1.out 0).trans rfl) | (go_at_call 69; refine (fault_calls 2 i b8 _ C2.out).mono ?_; rintro e w3 ⟨rfl, hb⟩; replace C0 := Aside0.mk (blk_below C0.out hb); replace C1 := Aside0.mk (blk_below C1.out hb); replace C2 := Aside0.mk (blk_below C2.out hb); replace HU0 := Aside0.mk (Kd.R_below HU0.out hb); replace HU1 := Aside0.mk (Kd.R_below HU1.out hb); replace HB := Aside0.mk (below_step HB.out hb); clear hb; replace k2 : w3.cell? ⟨b8, 0, none⟩ = some (.int .i64 (i : Int)) := (blk_cell C2.out 0).trans rfl; replace f2 : w3.frozen? ⟨b8, 0, none⟩ = false := blk_frozen C2.out 0; have q0 : w3.cell? ⟨w.heap.size, 0, none⟩ = some (.slice none 0 0) := (blk_cell C0.out 0).trans rfl; have g0 := blk_frozen C0.out 0; have q1 : w3.cell? ⟨w.heap.size, 1, none⟩ = some (.slice none 0 0) := (blk_cell C0.out 1).trans rfl; have g1 := blk_frozen C0.out 1; have q2 : w3.cell? ⟨w.heap.size, 2, none⟩ = some (.int .i64 0) := (blk_cell C0.out 2).trans rfl; have g2 := blk_frozen C0.out 2; have q3 : w3.cell? ⟨w.heap.size, 3, none⟩ = some (.int .i64 0) := (blk_cell C0.out 3).trans rfl; have g3 := blk_frozen C0.out 3))
                              refine bodyPost_ret (results_cell_row rfl _ _ w.heap.size 48 #[.slice none 0 0, .slice none 0 0, .int .i64 2, .int .i64 (i : Int)] (0, 0) _ rfl (blk_put (cs := #[.slice none 0 0, .slice none 0 0, .int .i64 2, .int .i64 0]) (blk_put (cs := #[.slice none 0 0, .slice none 0 0, .int .i64 0, .int .i64 0]) (blk_put (cs := #[.slice none 0 0, .slice none 0 0, .int .i64 0, .int .i64 0]) (blk_put (cs := #[.slice none 0 0, .slice none 0 0, .int .i64 0, .int .i64 0]) C0.out 0 _ rfl) 1 _ rfl) 2 _ rfl) 3 _ rfl) Tryd.underlying48 rfl (by kernel_rfl)) rfl ?_
                              rw [← HM3.out]
                              exact ends_bad 2 _ (below_set (below_set (below_set (below_set HB.out (Nat.le_refl _)) (Nat.le_refl _)) (Nat.le_refl _)) (Nat.le_refl _))
                            · have d1b : decide (k < s.size) = false := decide_eq_false d2
                              clear d1
                              go_wp2_with (first | (go_at_call 70; refine (impl_oddRune.calls _ _ _ HO.out (HT.out.below HB.out)).mono ?_; rintro e w1 ⟨rfl, hb⟩; replace C0 := Aside0.mk (blk_below C0.out hb); replace C1 := Aside0.mk (blk_below C1.out hb); replace C2 := Aside0.mk (blk_below C2.out hb); replace HU0 := Aside0.mk (Kd.R_below HU0.out hb); replace HU1 := Aside0.mk (Kd.R_below HU1.out hb); replace HB := Aside0.mk (below_step HB.out hb); clear hb; replace k2 : w1.cell? ⟨b8, 0, none⟩ = some (.int .i64 (i : Int)) := (blk_cell C2.out 0).trans rfl; replace f2 : w1.frozen? ⟨b8, 0, none⟩ = false := blk_frozen C2.out 0) | (go_at_call 71; refine (isw_calls t false _ HW.out).mono ?_; rintro e w2 ⟨rfl, hb⟩; replace C0 := Aside0.mk (blk_below C0.out hb); replace C1 := Aside0.mk (blk_below C1.out hb); replace C2 := Aside0.mk (blk_below C2.out hb); replace HU0 := Aside0.mk (Kd.R_below HU0.out hb); replace HU1 := Aside0.mk (Kd.R_below HU1.out hb); replace HB := Aside0.mk (below_step HB.out hb); clear hb; replace k2 : w2.cell? ⟨b8, 0, none⟩ = some (.int .i64 (i : Int)) := (blk_cell C2.out 0).trans rfl; replace f2 : w2.frozen? ⟨b8, 0, none⟩ = false := blk_frozen C2.out 0; have zc : w2.cell? ⟨w.heap.size + 1, 0, none⟩ = some (.slice Ao R.length co) := (blk_cell C1.out 0).trans rfl) | (go_at_call 72; refine (count_calls t _ HTZ.out).mono ?_; rintro e w4 ⟨rfl, hb⟩; replace C0 := Aside0.mk (blk_below C0.out hb); replace C1 := Aside0.mk (blk_below C1.out hb); replace C2 := Aside0.mk (blk_below C2.out hb); replace HU0 := Aside0.mk (Kd.R_below HU0.out hb); replace HU1 := Aside0.mk (Kd.R_below HU1.out hb); replace HB := Aside0.mk (below_step HB.out hb); clear hb; replace k2 : w4.cell? ⟨b8, 0, none⟩ = some (.int .i64 (i : Int)) := (blk_cell C2.out 0).trans rfl; replace f2 : w4.frozen? ⟨b8, 0, none⟩ = false := blk_frozen C2.out 0; have q0 : w4.cell? ⟨w.heap.size, 0, none⟩ = some (.slice none 0 0) := (blk_cell C0.out 0).trans rfl; have g0 := blk_frozen C0.out 0; have q1 : w4.cell? ⟨w.heap.size, 1, none⟩ = some (.slice none 0 0) := (blk_cell C0.out 1).trans rfl; have g1 := blk_frozen C0.out 1; have q2 : w4.cell? ⟨w.heap.size, 2, none⟩ = some (.int .i64 0) := (blk_cell C0.out 2).trans rfl; have g2 := blk_frozen C0.out 2; have q3 : w4.cell? ⟨w.heap.size, 3, none⟩ = some (.int .i64 0) := (blk_cell C0.out 3).trans rfl; have g3 := blk_frozen C0.out 3; replace zc : w4.cell? ⟨w.heap.size + 1, 0, none⟩ = some (.slice Ao R.length co) := (blk_cell C1.out 0).trans rfl) | (go_at_call 69; refine (fault_calls 2 i b8 _ C2.out).mono ?_; rintro e w3 ⟨rfl, hb⟩; replace C0 := Aside0.mk (blk_below C0.out hb); replace C1 := Aside0.mk (blk_below C1.out hb); replace C2 := Aside0.mk (blk_below C2.out hb); replace HU0 := Aside0.mk (Kd.R_below HU0.out hb); replace HU1 := Aside0.mk (Kd.R_below HU1.out hb); replace HB := Aside0.mk (below_step HB.out hb); clear hb; replace k2 : w3.cell? ⟨b8, 0, none⟩ = some (.int .i64 (i : Int)) := (blk_cell C2.out 0).trans rfl; replace f2 : w3.frozen? ⟨b8, 0, none⟩ = false := blk_frozen C2.out 0; have q0 : w3.cell? ⟨w.heap.size, 0, none⟩ = some (.slice none 0 0) := (blk_cell C0.out 0).trans rfl; have g0 := blk_frozen C0.out 0; have q1 : w3.cell? ⟨w.heap.size, 1, none⟩ = some (.slice none 0 0) := (blk_cell C0.out 1).trans rfl; have g1 := blk_frozen C0.out 1; have q2 : w3.cell? ⟨w.heap.size, 2, none⟩ = some (.int .i64 0) := (blk_cell C0.out 2).trans rfl; have g2 := blk_frozen C0.out 2; have q3 : w3.cell? ⟨w.heap.size, 3, none⟩ = some (.int .i64 0) := (blk_cell C0.out 3).trans rfl; have g3 := blk_frozen C0.out 3))
                              refine bodyPost_ret (results_cell_row rfl _ _ w.heap.size 48 #[.slice none 0 0, .slice none 0 0, .int .i64 2, .int .i64 (i : Int)] (0, 0) _ rfl (blk_put (cs := #[.slice none 0 0, .slice none 0 0, .int .i64 2, .int .i64 0]) (blk_put (cs := #[.slice none 0 0, .slice none 0 0, .int .i64 0, .int .i64 0]) (blk_put (cs := #[.slice none 0 0, .slice none 0 0, .int .i64 0, .int .i64 0]) (blk_put (cs := #[.slice none 0 0, .slice none 0 0, .int .i64 0, .int .i64 0]) C0.out 0 _ rfl) 1 _ rfl) 2 _ rfl) 3 _ rfl) Tryd.underlying48 rfl (by kernel_rfl)) rfl ?_
                              rw [← HM3.out]
                              exact ends_bad 2 _ (below_set (below_set (below_set (below_set HB.out (Nat.le_refl _)) (Nat.le_refl _)) (Nat.le_refl _)) (Nat.le_refl _))
                          · have n2 : decide ((12 : Int) < (Lib.runeCount t : Int)) = false := decide_eq_false (by omega)
                            have n3 : decide (12 < Lib.runeCount t) = false := decide_eq_false n1
                            by_cases m6 : many = 6
                            · rw [if_pos (Or.inr m6)] at HM3
                              have m7 : ((R.length : Int) == 6) = true := beq_iff_eq.mpr (by have := HLM.out; omega)
                              have m8 : (R.length == 6) = true := beq_iff_eq.mpr (by have := HLM.out; omega)
                              by_cases d2 : k < s.size
                              · have hk32 : s.get! k = 32 := Decidable.byContradiction fun h => d1 ⟨d2, h⟩
                                have eb : s.get! k = s[k]'d2 := by show s.data[k]! = s.data[k]'d2; exact getElem!_pos s.data k d2
                                have d1d : (((s[k]'d2).toNat : Int) != 32) = false := by rw [← eb, hk32]; rfl
                                have d1z : 0 ≤ (k : Int) := by omega
                                have d1b : decide (k < s.size) = true := decide_eq_true d2
                                clear d1 hk32 eb
                                go_wp2_with (first | (go_at_call 70; refine (impl_oddRune.calls _ _ _ HO.out (HT.out.below HB.out)).mono ?_; rintro e w1 ⟨rfl, hb⟩; replace C0 := Aside0.mk (blk_below C0.out hb); replace C1 := Aside0.mk (blk_below C1.out hb); replace C2 := Aside0.mk (blk_below C2.out hb); replace HU0 := Aside0.mk (Kd.R_below HU0.out hb); replace HU1 := Aside0.mk (Kd.R_below HU1.out hb); replace HB := Aside0.mk (below_step HB.out hb); clear hb; replace k2 : w1.cell? ⟨b8, 0, none⟩ = some (.int .i64 (i : Int)) := (blk_cell C2.out 0).trans rfl; replace f2 : w1.frozen? ⟨b8, 0, none⟩ = false := blk_frozen C2.out 0) | (go_at_call 71; refine (isw_calls t false _ HW.out).mono ?_; rintro e w2 ⟨rfl, hb⟩; replace C0 := Aside0.mk (blk_below C0.out hb); replace C1 := Aside0.mk (blk_below C1.out hb); replace C2 := Aside0.mk (blk_below C2.out hb); replace HU0 := Aside0.mk (Kd.R_below HU0.out hb); replace HU1 := Aside0.mk (Kd.R_below HU1.out hb); replace HB := Aside0.mk (below_step HB.out hb); clear hb; replace k2 : w2.cell? ⟨b8, 0, none⟩ = some (.int .i64 (i : Int)) := (blk_cell C2.out 0).trans rfl; replace f2 : w2.frozen? ⟨b8, 0, none⟩ = false := blk_frozen C2.out 0; have zc : w2.cell? ⟨w.heap.size + 1, 0, none⟩ = some (.slice Ao R.length co) := (blk_cell C1.out 0).trans rfl) | (go_at_call 72; refine (count_calls t _ HTZ.out).mono ?_; rintro e w4 ⟨rfl, hb⟩; replace C0 := Aside0.mk (blk_below C0.out hb); replace C1 := Aside0.mk (blk_below C1.out hb); replace C2 := Aside0.mk (blk_below C2.out hb); replace HU0 := Aside0.mk (Kd.R_below HU0.out hb); replace HU1 := Aside0.mk (Kd.R_below HU1.out hb); replace HB := Aside0.mk (below_step HB.out hb); clear hb; replace k2 : w4.cell? ⟨b8, 0, none⟩ = some (.int .i64 (i : Int)) := (blk_cell C2.out 0).trans rfl; replace f2 : w4.frozen? ⟨b8, 0, none⟩ = false := blk_frozen C2.out 0; have q0 : w4.cell? ⟨w.heap.size, 0, none⟩ = some (.slice none 0 0) := (blk_cell C0.out 0).trans rfl; have g0 := blk_frozen C0.out 0; have q1 : w4.cell? ⟨w.heap.size, 1, none⟩ = some (.slice none 0 0) := (blk_cell C0.out 1).trans rfl; have g1 := blk_frozen C0.out 1; have q2 : w4.cell? ⟨w.heap.size, 2, none⟩ = some (.int .i64 0) := (blk_cell C0.out 2).trans rfl; have g2 := blk_frozen C0.out 2; have q3 : w4.cell? ⟨w.heap.size, 3, none⟩ = some (.int .i64 0) := (blk_cell C0.out 3).trans rfl; have g3 := blk_frozen C0.out 3; replace zc : w4.cell? ⟨w.heap.size + 1, 0, none⟩ = some (.slice Ao R.length co) := (blk_cell C1.out 0).trans rfl) | (go_at_call 69; refine (fault_calls 2 i b8 _ C2.out).mono ?_; rintro e w3 ⟨rfl, hb⟩; replace C0 := Aside0.mk (blk_below C0.out hb); replace C1 := Aside0.mk (blk_below C1.out hb); replace C2 := Aside0.mk (blk_below C2.out hb); replace HU0 := Aside0.mk (Kd.R_below HU0.out hb); replace HU1 := Aside0.mk (Kd.R_below HU1.out hb); replace HB := Aside0.mk (below_step HB.out hb); clear hb; replace k2 : w3.cell? ⟨b8, 0, none⟩ = some (.int .i64 (i : Int)) := (blk_cell C2.out 0).trans rfl; replace f2 : w3.frozen? ⟨b8, 0, none⟩ = false := blk_frozen C2.out 0; have q0 : w3.cell? ⟨w.heap.size, 0, none⟩ = some (.slice none 0 0) := (blk_cell C0.out 0).trans rfl; have g0 := blk_frozen C0.out 0; have q1 : w3.cell? ⟨w.heap.size, 1, none⟩ = some (.slice none 0 0) := (blk_cell C0.out 1).trans rfl; have g1 := blk_frozen C0.out 1; have q2 : w3.cell? ⟨w.heap.size, 2, none⟩ = some (.int .i64 0) := (blk_cell C0.out 2).trans rfl; have g2 := blk_frozen C0.out 2; have q3 : w3.cell? ⟨w.heap.size, 3, none⟩ = some (.int .i64 0) := (blk_cell C0.out 3).trans rfl; have g3 := blk_frozen C0.out 3))
                                refine bodyPost_ret (results_cell_row rfl _ _ w.heap.size 48 #[.slice none 0 0, .slice none 0 0, .int .i64 2, .int .i64 (i : Int)] (0, 0) _ rfl (blk_put (cs := #[.slice none 0 0, .slice none 0 0, .int .i64 2, .int .i64 0]) (blk_put (cs := #[.slice none 0 0, .slice none 0 0, .int .i64 0, .int .i64 0]) (blk_put (cs := #[.slice none 0 0, .slice none 0 0, .int .i64 0, .int .i64 0]) (blk_put (cs := #[.slice none 0 0, .slice none 0 0, .int .i64 0, .int .i64 0]) C0.out 0 _ rfl) 1 _ rfl) 2 _ rfl) 3 _ rfl) Tryd.underlying48 rfl (by kernel_rfl)) rfl ?_
                                rw [← HM3.out]
                                exact ends_bad 2 _ (below_set (below_set (below_set (below_set HB.out (Nat.le_refl _)) (Nat.le_refl _)) (Nat.le_refl _)) (Nat.le_refl _))
                              · have d1b : decide (k < s.size) = false := decide_eq_false d2
                                clear d1
                                go_wp2_with (first | (go_at_call 70; refine (impl_oddRune.calls _ _ _ HO.out (HT.out.below HB.out)).mono ?_; rintro e w1 ⟨rfl, hb⟩; replace C0 := Aside0.mk (blk_below C0.out hb); replace C1 := Aside0.mk (blk_below C1.out hb); replace C2 := Aside0.mk (blk_below C2.out hb); replace HU0 := Aside0.mk (Kd.R_below HU0.out hb); replace HU1 := Aside0.mk (Kd.R_below HU1.out hb); replace HB := Aside0.mk (below_step HB.out hb); clear hb; replace k2 : w1.cell? ⟨b8, 0, none⟩ = some (.int .i64 (i : Int)) := (blk_cell C2.out 0).trans rfl; replace f2 : w1.frozen? ⟨b8, 0, none⟩ = false := blk_frozen C2.out 0) | (go_at_call 71; refine (isw_calls t false _ HW.out).mono ?_; rintro e w2 ⟨rfl, hb⟩; replace C0 := Aside0.mk (blk_below C0.out hb); replace C1 := Aside0.mk (blk_below C1.out hb); replace C2 := Aside0.mk (blk_below C2.out hb); replace HU0 := Aside0.mk (Kd.R_below HU0.out hb); replace HU1 := Aside0.mk (Kd.R_below HU1.out hb); replace HB := Aside0.mk (below_step HB.out hb); clear hb; replace k2 : w2.cell? ⟨b8, 0, none⟩ = some (.int .i64 (i : Int)) := (blk_cell C2.out 0).trans rfl; replace f2 : w2.frozen? ⟨b8, 0, none⟩ = false := blk_frozen C2.out 0; have zc : w2.cell? ⟨w.heap.size + 1, 0, none⟩ = some (.slice Ao R.length co) := (blk_cell C1.out 0).trans rfl) | (go_at_call 72; refine (count_calls t _ HTZ.out).mono ?_; rintro e w4 ⟨rfl, hb⟩; replace C0 := Aside0.mk (blk_below C0.out hb); replace C1 := Aside0.mk (blk_below C1.out hb); replace C2 := Aside0.mk (blk_below C2.out hb); replace HU0 := Aside0.mk (Kd.R_below HU0.out hb); replace HU1 := Aside0.mk (Kd.R_below HU1.out hb); replace HB := Aside0.mk (below_step HB.out hb); clear hb; replace k2 : w4.cell? ⟨b8, 0, none⟩ = some (.int .i64 (i : Int)) := (blk_cell C2.out 0).trans rfl; replace f2 : w4.frozen? ⟨b8, 0, none⟩ = false := blk_frozen C2.out 0; have q0 : w4.cell? ⟨w.heap.size, 0, none⟩ = some (.slice none 0 0) := (blk_cell C0.out 0).trans rfl; have g0 := blk_frozen C0.out 0; have q1 : w4.cell? ⟨w.heap.size, 1, none⟩ = some (.slice none 0 0) := (blk_cell C0.out 1).trans rfl; have g1 := blk_frozen C0.out 1; have q2 : w4.cell? ⟨w.heap.size, 2, none⟩ = some (.int .i64 0) := (blk_cell C0.out 2).trans rfl; have g2 := blk_frozen C0.out 2; have q3 : w4.cell? ⟨w.heap.size, 3, none⟩ = some (.int .i64 0) := (blk_cell C0.out 3).trans rfl; have g3 := blk_frozen C0.out 3; replace zc : w4.cell? ⟨w.heap.size + 1, 0, none⟩ = some (.slice Ao R.length co) := (blk_cell C1.out 0).trans rfl) | (go_at_call 69; refine (fault_calls 2 i b8 _ C2.out).mono ?_; rintro e w3 ⟨rfl, hb⟩; replace C0 := Aside0.mk (blk_below C0.out hb); replace C1 := Aside0.mk (blk_below C1.out hb); replace C2 := Aside0.mk (blk_below C2.out hb); replace HU0 := Aside0.mk (Kd.R_below HU0.out hb); replace HU1 := Aside0.mk (Kd.R_below HU1.out hb); replace HB := Aside0.mk (below_step HB.out hb); clear hb; replace k2 : w3.cell? ⟨b8, 0, none⟩ = some (.int .i64 (i : Int)) := (blk_cell C2.out 0).trans rfl; replace f2 : w3.frozen? ⟨b8, 0, none⟩ = false := blk_frozen C2.out 0; have q0 : w3.cell? ⟨w.heap.size, 0, none⟩ = some (.slice none 0 0) := (blk_cell C0.out 0).trans rfl; have g0 := blk_frozen C0.out 0; have q1 : w3.cell? ⟨w.heap.size, 1, none⟩ = some (.slice none 0 0) := (blk_cell C0.out 1).trans rfl; have g1 := blk_frozen C0.out 1; have q2 : w3.cell? ⟨w.heap.size, 2, none⟩ = some (.int .i64 0) := (blk_cell C0.out 2).trans rfl; have g2 := blk_frozen C0.out 2; have q3 : w3.cell? ⟨w.heap.size, 3, none⟩ = some (.int .i64 0) := (blk_cell C0.out 3).trans rfl; have g3 := blk_frozen C0.out 3))
                                refine bodyPost_ret (results_cell_row rfl _ _ w.heap.size 48 #[.slice none 0 0, .slice none 0 0, .int .i64 2, .int .i64 (i : Int)] (0, 0) _ rfl (blk_put (cs := #[.slice none 0 0, .slice none 0 0, .int .i64 2, .int .i64 0]) (blk_put (cs := #[.slice none 0 0, .slice none 0 0, .int .i64 0, .int .i64 0]) (blk_put (cs := #[.slice none 0 0, .slice none 0 0, .int .i64 0, .int .i64 0]) (blk_put (cs := #[.slice none 0 0, .slice none 0 0, .int .i64 0, .int .i64 0]) C0.out 0 _ rfl) 1 _ rfl) 2 _ rfl) 3 _ rfl) Tryd.underlying48 rfl (by kernel_rfl)) rfl ?_
                                rw [← HM3.out]
                                exact ends_bad 2 _ (below_set (below_set (below_set (below_set HB.out (Nat.le_refl _)) (Nat.le_refl _)) (Nat.le_refl _)) (Nat.le_refl _))
                            · have m7 : ((R.length : Int) == 6) = false := beq_eq_false_iff_ne.mpr (by have := HLM.out; omega)
                              have m8 : (R.length == 6) = false := beq_eq_false_iff_ne.mpr (by have := HLM.out; omega)
                              rw [if_neg (fun h => h.elim (fun h => absurd h n1) (fun h => absurd h m6)), if_neg (by decide)] at HM3
                              by_cases y1 : inB R t = true
                              · rw [if_pos y1] at HM3
                                have HIN := Aside0.mk y1
                                by_cases d2 : k < s.size
                                · have hk32 : s.get! k = 32 := Decidable.byContradiction fun h => d1 ⟨d2, h⟩
                                  have eb : s.get! k = s[k]'d2 := by show s.data[k]! = s.data[k]'d2; exact getElem!_pos s.data k d2
                                  have d1d : (((s[k]'d2).toNat : Int) != 32) = false := by rw [← eb, hk32]; rfl
                                  have d1z : 0 ≤ (k : Int) := by omega
                                  have d1b : decide (k < s.size) = true := decide_eq_true d2
                                  clear d1 hk32 eb
                                  go_wp2_with (first | (go_at_call 70; refine (impl_oddRune.calls _ _ _ HO.out (HT.out.below HB.out)).mono ?_; rintro e w1 ⟨rfl, hb⟩; replace C0 := Aside0.mk (blk_below C0.out hb); replace C1 := Aside0.mk (blk_below C1.out hb); replace C2 := Aside0.mk (blk_below C2.out hb); replace HU0 := Aside0.mk (Kd.R_below HU0.out hb); replace HU1 := Aside0.mk (Kd.R_below HU1.out hb); replace HB := Aside0.mk (below_step HB.out hb); clear hb; replace k2 : w1.cell? ⟨b8, 0, none⟩ = some (.int .i64 (i : Int)) := (blk_cell C2.out 0).trans rfl; replace f2 : w1.frozen? ⟨b8, 0, none⟩ = false := blk_frozen C2.out 0) | (go_at_call 71; refine (isw_calls t false _ HW.out).mono ?_; rintro e w2 ⟨rfl, hb⟩; replace C0 := Aside0.mk (blk_below C0.out hb); replace C1 := Aside0.mk (blk_below C1.out hb); replace C2 := Aside0.mk (blk_below C2.out hb); replace HU0 := Aside0.mk (Kd.R_below HU0.out hb); replace HU1 := Aside0.mk (Kd.R_below HU1.out hb); replace HB := Aside0.mk (below_step HB.out hb); clear hb; replace k2 : w2.cell? ⟨b8, 0, none⟩ = some (.int .i64 (i : Int)) := (blk_cell C2.out 0).trans rfl; replace f2 : w2.frozen? ⟨b8, 0, none⟩ = false := blk_frozen C2.out 0; have zc : w2.cell? ⟨w.heap.size + 1, 0, none⟩ = some (.slice Ao R.length co) := (blk_cell C1.out 0).trans rfl) | (go_at_call 72; refine (count_calls t _ HTZ.out).mono ?_; rintro e w4 ⟨rfl, hb⟩; replace C0 := Aside0.mk (blk_below C0.out hb); replace C1 := Aside0.mk (blk_below C1.out hb); replace C2 := Aside0.mk (blk_below C2.out hb); replace HU0 := Aside0.mk (Kd.R_below HU0.out hb); replace HU1 := Aside0.mk (Kd.R_below HU1.out hb); replace HB := Aside0.mk (below_step HB.out hb); clear hb; replace k2 : w4.cell? ⟨b8, 0, none⟩ = some (.int .i64 (i : Int)) := (blk_cell C2.out 0).trans rfl; replace f2 : w4.frozen? ⟨b8, 0, none⟩ = false := blk_frozen C2.out 0; have q0 : w4.cell? ⟨w.heap.size, 0, none⟩ = some (.slice none 0 0) := (blk_cell C0.out 0).trans rfl; have g0 := blk_frozen C0.out 0; have q1 : w4.cell? ⟨w.heap.size, 1, none⟩ = some (.slice none 0 0) := (blk_cell C0.out 1).trans rfl; have g1 := blk_frozen C0.out 1; have q2 : w4.cell? ⟨w.heap.size, 2, none⟩ = some (.int .i64 0) := (blk_cell C0.out 2).trans rfl; have g2 := blk_frozen C0.out 2; have q3 : w4.cell? ⟨w.heap.size, 3, none⟩ = some (.int .i64 0) := (blk_cell C0.out 3).trans rfl; have g3 := blk_frozen C0.out 3; replace zc : w4.cell? ⟨w.heap.size + 1, 0, none⟩ = some (.slice Ao R.length co) := (blk_cell C1.out 0).trans rfl) | (go_at_call 73; refine (contains_calls Ao co R t true _ ⟨(Kd.R_reads' HU0.out).2.2, (Kd.R_reads' HU0.out).2.1, H6.out⟩ HIN.out).mono ?_; rintro e w5 ⟨rfl, hb⟩; replace C0 := Aside0.mk (blk_below C0.out hb); replace C1 := Aside0.mk (blk_below C1.out hb); replace C2 := Aside0.mk (blk_below C2.out hb); replace HU0 := Aside0.mk (Kd.R_below HU0.out hb); replace HU1 := Aside0.mk (Kd.R_below HU1.out hb); replace HB := Aside0.mk (below_step HB.out hb); clear hb; replace k2 : w5.cell? ⟨b8, 0, none⟩ = some (.int .i64 (i : Int)) := (blk_cell C2.out 0).trans rfl; replace f2 : w5.frozen? ⟨b8, 0, none⟩ = false := blk_frozen C2.out 0; replace zc : w5.cell? ⟨w.heap.size + 1, 0, none⟩ = some (.slice Ao R.length co) := (blk_cell C1.out 0).trans rfl) | (go_at_call 69; refine (fault_calls 4 i b8 _ C2.out).mono ?_; rintro e w3 ⟨rfl, hb⟩; replace C0 := Aside0.mk (blk_below C0.out hb); replace C1 := Aside0.mk (blk_below C1.out hb); replace C2 := Aside0.mk (blk_below C2.out hb); replace HU0 := Aside0.mk (Kd.R_below HU0.out hb); replace HU1 := Aside0.mk (Kd.R_below HU1.out hb); replace HB := Aside0.mk (below_step HB.out hb); clear hb; replace k2 : w3.cell? ⟨b8, 0, none⟩ = some (.int .i64 (i : Int)) := (blk_cell C2.out 0).trans rfl; replace f2 : w3.frozen? ⟨b8, 0, none⟩ = false := blk_frozen C2.out 0; have q0 : w3.cell? ⟨w.heap.size, 0, none⟩ = some (.slice none 0 0) := (blk_cell C0.out 0).trans rfl; have g0 := blk_frozen C0.out 0; have q1 : w3.cell? ⟨w.heap.size, 1, none⟩ = some (.slice none 0 0) := (blk_cell C0.out 1).trans rfl; have g1 := blk_frozen C0.out 1; have q2 : w3.cell? ⟨w.heap.size, 2, none⟩ = some (.int .i64 0) := (blk_cell C0.out 2).trans rfl; have g2 := blk_frozen C0.out 2; have q3 : w3.cell? ⟨w.heap.size, 3, none⟩ = some (.int .i64 0) := (blk_cell C0.out 3).trans rfl; have g3 := blk_frozen C0.out 3))
                                  refine bodyPost_ret (results_cell_row rfl _ _ w.heap.size 48 #[.slice none 0 0, .slice none 0 0, .int .i64 4, .int .i64 (i : Int)] (0, 0) _ rfl (blk_put (cs := #[.slice none 0 0, .slice none 0 0, .int .i64 4, .int .i64 0]) (blk_put (cs := #[.slice none 0 0, .slice none 0 0, .int .i64 0, .int .i64 0]) (blk_put (cs := #[.slice none 0 0, .slice none 0 0, .int .i64 0, .int .i64 0]) (blk_put (cs := #[.slice none 0 0, .slice none 0 0, .int .i64 0, .int .i64 0]) C0.out 0 _ rfl) 1 _ rfl) 2 _ rfl) 3 _ rfl) Tryd.underlying48 rfl (by kernel_rfl)) rfl ?_
                                  rw [← HM3.out]
                                  exact ends_bad 4 _ (below_set (below_set (below_set (below_set HB.out (Nat.le_refl _)) (Nat.le_refl _)) (Nat.le_refl _)) (Nat.le_refl _))
                                · have d1b : decide (k < s.size) = false := decide_eq_false d2
                                  clear d1
                                  go_wp2_with (first | (go_at_call 70; refine (impl_oddRune.calls _ _ _ HO.out (HT.out.below HB.out)).mono ?_; rintro e w1 ⟨rfl, hb⟩; replace C0 := Aside0.mk (blk_below C0.out hb); replace C1 := Aside0.mk (blk_below C1.out hb); replace C2 := Aside0.mk (blk_below C2.out hb); replace HU0 := Aside0.mk (Kd.R_below HU0.out hb); replace HU1 := Aside0.mk (Kd.R_below HU1.out hb); replace HB := Aside0.mk (below_step HB.out hb); clear hb; replace k2 : w1.cell? ⟨b8, 0, none⟩ = some (.int .i64 (i : Int)) := (blk_cell C2.out 0).trans rfl; replace f2 : w1.frozen? ⟨b8, 0, none⟩ = false := blk_frozen C2.out 0) | (go_at_call 71; refine (isw_calls t false _ HW.out).mono ?_; rintro e w2 ⟨rfl, hb⟩; replace C0 := Aside0.mk (blk_below C0.out hb); replace C1 := Aside0.mk (blk_below C1.out hb); replace C2 := Aside0.mk (blk_below C2.out hb); replace HU0 := Aside0.mk (Kd.R_below HU0.out hb); replace HU1 := Aside0.mk (Kd.R_below HU1.out hb); replace HB := Aside0.mk (below_step HB.out hb); clear hb; replace k2 : w2.cell? ⟨b8, 0, none⟩ = some (.int .i64 (i : Int)) := (blk_cell C2.out 0).trans rfl; replace f2 : w2.frozen? ⟨b8, 0, none⟩ = false := blk_frozen C2.out 0; have zc : w2.cell? ⟨w.heap.size + 1, 0, none⟩ = some (.slice Ao R.length co) := (blk_cell C1.out 0).trans rfl) | (go_at_call 72; refine (count_calls t _ HTZ.out).mono ?_; rintro e w4 ⟨rfl, hb⟩; replace C0 := Aside0.mk (blk_below C0.out hb); replace C1 := Aside0.mk (blk_below C1.out hb); replace C2 := Aside0.mk (blk_below C2.out hb); replace HU0 := Aside0.mk (Kd.R_below HU0.out hb); replace HU1 := Aside0.mk (Kd.R_below HU1.out hb); replace HB := Aside0.mk (below_step HB.out hb); clear hb; replace k2 : w4.cell? ⟨b8, 0, none⟩ = some (.int .i64 (i : Int)) := (blk_cell C2.out 0).trans rfl; replace f2 : w4.frozen? ⟨b8, 0, none⟩ = false := blk_frozen C2.out 0; have q0 : w4.cell? ⟨w.heap.size, 0, none⟩ = some (.slice none 0 0) := (blk_cell C0.out 0).trans rfl; have g0 := blk_frozen C0.out 0; have q1 : w4.cell? ⟨w.heap.size, 1, none⟩ = some (.slice none 0 0) := (blk_cell C0.out 1).trans rfl; have g1 := blk_frozen C0.out 1; have q2 : w4.cell? ⟨w.heap.size, 2, none⟩ = some (.int .i64 0) := (blk_cell C0.out 2).trans rfl; have g2 := blk_frozen C0.out 2; have q3 : w4.cell? ⟨w.heap.size, 3, none⟩ = some (.int .i64 0) := (blk_cell C0.out 3).trans rfl; have g3 := blk_frozen C0.out 3; replace zc : w4.cell? ⟨w.heap.size + 1, 0, none⟩ = some (.slice Ao R.length co) := (blk_cell C1.out 0).trans rfl) | (go_at_call 73; refine (contains_calls Ao co R t true _ ⟨(Kd.R_reads' HU0.out).2.2, (Kd.R_reads' HU0.out).2.1, H6.out⟩ HIN.out).mono ?_; rintro e w5 ⟨rfl, hb⟩; replace C0 := Aside0.mk (blk_below C0.out hb); replace C1 := Aside0.mk (blk_below C1.out hb); replace C2 := Aside0.mk (blk_below C2.out hb); replace HU0 := Aside0.mk (Kd.R_below HU0.out hb); replace HU1 := Aside0.mk (Kd.R_below HU1.out hb); replace HB := Aside0.mk (below_step HB.out hb); clear hb; replace k2 : w5.cell? ⟨b8, 0, none⟩ = some (.int .i64 (i : Int)) := (blk_cell C2.out 0).trans rfl; replace f2 : w5.frozen? ⟨b8, 0, none⟩ = false := blk_frozen C2.out 0; replace zc : w5.cell? ⟨w.heap.size + 1, 0, none⟩ = some (.slice Ao R.length co) := (blk_cell C1.out 0).trans rfl) | (go_at_call 69; refine (fault_calls 4 i b8 _ C2.out).mono ?_; rintro e w3 ⟨rfl, hb⟩; replace C0 := Aside0.mk (blk_below C0.out hb); replace C1 := Aside0.mk (blk_below C1.out hb); replace C2 := Aside0.mk (blk_below C2.out hb); replace HU0 := Aside0.mk (Kd.R_below HU0.out hb); replace HU1 := Aside0.mk (Kd.R_below HU1.out hb); replace HB := Aside0.mk (below_step HB.out hb); clear hb; replace k2 : w3.cell? ⟨b8, 0, none⟩ = some (.int .i64 (i : Int)) := (blk_cell C2.out 0).trans rfl; replace f2 : w3.frozen? ⟨b8, 0, none⟩ = false := blk_frozen C2.out 0; have q0 : w3.cell? ⟨w.heap.size, 0, none⟩ = some (.slice none 0 0) := (blk_cell C0.out 0).trans rfl; have g0 := blk_frozen C0.out 0; have q1 : w3.cell? ⟨w.heap.size, 1, none⟩ = some (.slice none 0 0) := (blk_cell C0.out 1).trans rfl; have g1 := blk_frozen C0.out 1; have q2 : w3.cell? ⟨w.heap.size, 2, none⟩ = some (.int .i64 0) := (blk_cell C0.out 2).trans rfl; have g2 := blk_frozen C0.out 2; have q3 : w3.cell? ⟨w.heap.size, 3, none⟩ = some (.int .i64 0) := (blk_cell C0.out 3).trans rfl; have g3 := blk_frozen C0.out 3))
                                  refine bodyPost_ret (results_cell_row rfl _ _ w.heap.size 48 #[.slice none 0 0, .slice none 0 0, .int .i64 4, .int .i64 (i : Int)] (0, 0) _ rfl (blk_put (cs := #[.slice none 0 0, .slice none 0 0, .int .i64 4, .int .i64 0]) (blk_put (cs := #[.slice none 0 0, .slice none 0 0, .int .i64 0, .int .i64 0]) (blk_put (cs := #[.slice none 0 0, .slice none 0 0, .int .i64 0, .int .i64 0]) (blk_put (cs := #[.slice none 0 0, .slice none 0 0, .int .i64 0, .int .i64 0]) C0.out 0 _ rfl) 1 _ rfl) 2 _ rfl) 3 _ rfl) Tryd.underlying48 rfl (by kernel_rfl)) rfl ?_
                                  rw [← HM3.out]
                                  exact ends_bad 4 _ (below_set (below_set (below_set (below_set HB.out (Nat.le_refl _)) (Nat.le_refl _)) (Nat.le_refl _)) (Nat.le_refl _))
                              · rw [if_neg y1] at HM3
                                have HIN : Aside0 (inB R t = false) := ⟨by simpa using y1⟩
                                by_cases d2 : k < s.size
                                · have hk32 : s.get! k = 32 := Decidable.byContradiction fun h => d1 ⟨d2, h⟩
                                  have eb : s.get! k = s[k]'d2 := by show s.data[k]! = s.data[k]'d2; exact getElem!_pos s.data k d2
                                  have d1d : (((s[k]'d2).toNat : Int) != 32) = false := by rw [← eb, hk32]; rfl
                                  have d1z : 0 ≤ (k : Int) := by omega
                                  have d1b : decide (k < s.size) = true := decide_eq_true d2
                                  clear d1 hk32 eb
                                  go_wp2_with (first | (go_at_call 70; refine (impl_oddRune.calls _ _ _ HO.out (HT.out.below HB.out)).mono ?_; rintro e w1 ⟨rfl, hb⟩; replace C0 := Aside0.mk (blk_below C0.out hb); replace C1 := Aside0.mk (blk_below C1.out hb); replace C2 := Aside0.mk (blk_below C2.out hb); replace HU0 := Aside0.mk (Kd.R_below HU0.out hb); replace HU1 := Aside0.mk (Kd.R_below HU1.out hb); replace HB := Aside0.mk (below_step HB.out hb); clear hb; replace k2 : w1.cell? ⟨b8, 0, none⟩ = some (.int .i64 (i : Int)) := (blk_cell C2.out 0).trans rfl; replace f2 : w1.frozen? ⟨b8, 0, none⟩ = false := blk_frozen C2.out 0) | (go_at_call 71; refine (isw_calls t false _ HW.out).mono ?_; rintro e w2 ⟨rfl, hb⟩; replace C0 := Aside0.mk (blk_below C0.out hb); replace C1 := Aside0.mk (blk_below C1.out hb); replace C2 := Aside0.mk (blk_below C2.out hb); replace HU0 := Aside0.mk (Kd.R_below HU0.out hb); replace HU1 := Aside0.mk (Kd.R_below HU1.out hb); replace HB := Aside0.mk (below_step HB.out hb); clear hb; replace k2 : w2.cell? ⟨b8, 0, none⟩ = some (.int .i64 (i : Int)) := (blk_cell C2.out 0).trans rfl; replace f2 : w2.frozen? ⟨b8, 0, none⟩ = false := blk_frozen C2.out 0; have zc : w2.cell? ⟨w.heap.size + 1, 0, none⟩ = some (.slice Ao R.length co) := (blk_cell C1.out 0).trans rfl) | (go_at_call 72; refine (count_calls t _ HTZ.out).mono ?_; rintro e w4 ⟨rfl, hb⟩; replace C0 := Aside0.mk (blk_below C0.out hb); replace C1 := Aside0.mk (blk_below C1.out hb); replace C2 := Aside0.mk (blk_below C2.out hb); replace HU0 := Aside0.mk (Kd.R_below HU0.out hb); replace HU1 := Aside0.mk (Kd.R_below HU1.out hb); replace HB := Aside0.mk (below_step HB.out hb); clear hb; replace k2 : w4.cell? ⟨b8, 0, none⟩ = some (.int .i64 (i : Int)) := (blk_cell C2.out 0).trans rfl; replace f2 : w4.frozen? ⟨b8, 0, none⟩ = false := blk_frozen C2.out 0; have q0 : w4.cell? ⟨w.heap.size, 0, none⟩ = some (.slice none 0 0) := (blk_cell C0.out 0).trans rfl; have g0 := blk_frozen C0.out 0; have q1 : w4.cell? ⟨w.heap.size, 1, none⟩ = some (.slice none 0 0) := (blk_cell C0.out 1).trans rfl; have g1 := blk_frozen C0.out 1; have q2 : w4.cell? ⟨w.heap.size, 2, none⟩ = some (.int .i64 0) := (blk_cell C0.out 2).trans rfl; have g2 := blk_frozen C0.out 2; have q3 : w4.cell? ⟨w.heap.size, 3, none⟩ = some (.int .i64 0) := (blk_cell C0.out 3).trans rfl; have g3 := blk_frozen C0.out 3; replace zc : w4.cell? ⟨w.heap.size + 1, 0, none⟩ = some (.slice Ao R.length co) := (blk_cell C1.out 0).trans rfl) | (go_at_call 73; refine (contains_calls Ao co R t false _ ⟨(Kd.R_reads' HU0.out).2.2, (Kd.R_reads' HU0.out).2.1, H6.out⟩ HIN.out).mono ?_; rintro e w5 ⟨rfl, hb⟩; replace C0 := Aside0.mk (blk_below C0.out hb); replace C1 := Aside0.mk (blk_below C1.out hb); replace C2 := Aside0.mk (blk_below C2.out hb); replace HU0 := Aside0.mk (Kd.R_below HU0.out hb); replace HU1 := Aside0.mk (Kd.R_below HU1.out hb); replace HB := Aside0.mk (below_step HB.out hb); clear hb; replace k2 : w5.cell? ⟨b8, 0, none⟩ = some (.int .i64 (i : Int)) := (blk_cell C2.out 0).trans rfl; replace f2 : w5.frozen? ⟨b8, 0, none⟩ = false := blk_frozen C2.out 0; replace zc : w5.cell? ⟨w.heap.size + 1, 0, none⟩ = some (.slice Ao R.length co) := (blk_cell C1.out 0).trans rfl))
                                  refine start_ (n := 10) (S := fun w' => w'.cell? ⟨w.heap.size + 1, 0, none⟩ = some (.slice Ao R.length co)) (ds := [9]) #[false, false, false, false, false, false, false, false, false, false] (by kernel_rfl) rfl rfl zc (fun hHeld => ?_)
                                  have hb : Below w5.heap.size w5 w5.drew := by apply below_drew1; exact Below.refl _ _
                                  replace C0 := Aside0.mk (blk_below C0.out hb)
                                  replace C1 := Aside0.mk (blk_below C1.out hb)
                                  replace C2 := Aside0.mk (blk_below C2.out hb)
                                  replace HU0 := Aside0.mk (Kd.R_below HU0.out hb)
                                  replace HU1 := Aside0.mk (Kd.R_below HU1.out hb)
                                  replace HB := Aside0.mk (below_step HB.out hb)
                                  clear hb
                                  refine pure_ (i := 0) (N := some 98) (v := ?_) (a' := ?_) #[true, false, false, false, false, false, false, false, false, false] rfl rfl (by kernel_rfl) (fun _ _ _ h => h) (Or.inl ⟨by rfl, ?_⟩) ?_ ?_
                                  rotate_left
                                  · intro w'
                                    go_simp
                                    with_reducible rfl
                                  rotate_left
                                  · simp only [Act.put, List.setIfInBounds_toArray, List.set_cons_zero, List.set_cons_succ]
                                    rfl
                                  refine pure_ (i := 1) (N := some 99) (v := ?_) (a' := ?_) #[true, true, false, false, false, false, false, false, false, false] rfl rfl (by kernel_rfl) (fun _ _ _ h => h) (Or.inl ⟨by rfl, ?_⟩) ?_ ?_
                                  rotate_left
                                  · intro w'
                                    go_simp
                                    with_reducible rfl
                                  rotate_left
                                  · simp only [Act.put, List.setIfInBounds_toArray, List.set_cons_zero, List.set_cons_succ]
                                    rfl
                                  refine pure_ (i := 4) (N := some 102) (v := ?_) (a' := ?_) #[true, true, false, false, true, false, false, false, false, false] rfl rfl (by kernel_rfl) (fun _ _ _ h => h) (Or.inl ⟨by rfl, ?_⟩) ?_ ?_
                                  rotate_left
                                  · intro w'
                                    go_simp
                                    with_reducible rfl
                                  rotate_left
                                  · simp only [Act.put, List.setIfInBounds_toArray, List.set_cons_zero, List.set_cons_succ]
                                    rfl
                                  refine pure_ (i := 2) (N := some 100) (v := ?_) (a' := ?_) #[true, true, true, false, true, false, false, false, false, false] rfl rfl (by kernel_rfl) (fun _ _ _ h => h) (Or.inl ⟨by rfl, ?_⟩) ?_ ?_
                                  rotate_left
                                  · intro w'
                                    go_simp
                                    with_reducible rfl
                                  rotate_left
                                  · simp only [Act.put, List.setIfInBounds_toArray, List.set_cons_zero, List.set_cons_succ]
                                    rfl
                                  refine take_ (i := 3) (N := some 101) (v := ?_) (a' := ?_) #[true, true, true, true, true, false, false, false, false, false] rfl rfl (by kernel_rfl) (fun _ _ _ h => h) (Or.inl ⟨by rfl, ?_⟩) hHeld ?_ ?_
                                  rotate_left
                                  · rintro w' hz_
                                    go_simp
                                    with_reducible rfl
                                  rotate_left
                                  · simp only [Act.put, List.setIfInBounds_toArray, List.set_cons_zero, List.set_cons_succ]
                                    rfl
                                  refine one_ (i := 5) (N := some 103) #[true, true, true, true, true, true, false, false, false, false] rfl rfl (by kernel_rfl) (by decide) (fun K hK => ?_)
                                  refine goes_ Tryd.func74 (by kernel_rfl) rfl #[.string t] (by rfl) rfl rfl (by simp only [List.map_toArray, List.map_cons, List.map_nil]; rfl) ?_
                                  refine (clone_calls t _ (by have := HTZ.out; omega)).mono ?_
                                  rintro e w6 ⟨rfl, hb⟩
                                  replace C0 := Aside0.mk (blk_below C0.out hb)
                                  replace C1 := Aside0.mk (blk_below C1.out hb)
                                  replace C2 := Aside0.mk (blk_below C2.out hb)
                                  replace HU0 := Aside0.mk (Kd.R_below HU0.out hb)
                                  replace HU1 := Aside0.mk (Kd.R_below HU1.out hb)
                                  replace HB := Aside0.mk (below_step HB.out hb)
                                  clear hb
                                  refine ⟨_, rfl, ?_⟩
                                  refine hK.out _ _ ((blk_cell C1.out 0).trans rfl) (fun hHeld => ?_)
                                  clear hK K
                                  refine norm_ (a' := ?_) ?_ ?_
                                  rotate_left
                                  · show Act.put _ (some 103) _ = _
                                    simp only [Act.put, List.setIfInBounds_toArray, List.set_cons_zero, List.set_cons_succ]
                                    rfl
                                  refine one_ (i := 6) (N := some 104) #[true, true, true, true, true, true, true, false, false, false] rfl rfl (by kernel_rfl) (by decide) (fun K hK => ?_)
                                  refine value_ (w1 := w6.alloc (.cells #[.string t] 9)) (v := .slice (some ⟨w6.heap.size, 0, none⟩) 1 1) (by rfl) rfl (by first | (go_simp; done) | (go_simp; rfl)) ?_
                                  refine hK.out _ _ ((blk_cell (blk_alloc C1.out _) 0).trans rfl) (fun hHeld => ?_)
                                  clear hK K
                                  refine norm_ (a' := ?_) ?_ ?_
                                  rotate_left
                                  · show Act.put _ (some 104) _ = _
                                    simp only [Act.put, List.setIfInBounds_toArray, List.set_cons_zero, List.set_cons_succ]
                                    rfl
                                  refine one_ (i := 7) (N := some 105) #[true, true, true, true, true, true, true, true, false, false] rfl rfl (by kernel_rfl) (by decide) (fun K hK => ?_)
                                  refine Kd.R_append_step Kd.string (w0 := w) (W := w6) w.heap.size (by rfl) (.tmp 101) (.tmp 104) 22 9 (.string ⟨#[]⟩) 16 rfl Tryd.underlying22 info9 rfl (by decide) (by omega) (.slice Ao R.length co) R t [.string t] (fun k_ => some k_ ≠ (u1 : Value).ownBlock) (fun _ => False) rfl rfl ?aP0 (fun _ hk => hk.elim) ?aF0 HU0.out HB.out HB.out.size ?aL0 ?_
                                  (case aP0 => exact rfl)
                                  (case aF0 => exact (fun k_ hk e => by have := ((Kd.R_bound HU1.out).1 k_ e.symm).2.2.1; omega))
                                  (case aL0 => have := H6.out; omega)
                                  intro v7 w7 ho hb hg hat
                                  obtain ⟨A7, c7, e7⟩ := Kd.R_slice ho
                                  subst e7
                                  have n0_ := Aside0.mk (blk_grown C0.out hg (Kd.R_ne HU0.out C0.out (by decide)))
                                  have n1_ := Aside0.mk (blk_grown C1.out hg (Kd.R_ne HU0.out C1.out (by decide)))
                                  have n2_ := Aside0.mk (blk_grown C2.out hg (Kd.R_ne HU0.out C2.out (by decide)))
                                  have n3_ : Aside0 (Kd.R Kd.string 9 w7 w.heap.size (fun k_ => some k_ ≠ (Value.slice A7 (R ++ [t]).length c7).ownBlock) u1 A) := ⟨Kd.R_mono (Kd.R_grown (Kd.R_bound HU1.out) hg (fun k_ h1 => h1.1)) (fun k_ h1 => by rcases hat with e | ⟨b, e, hb⟩ <;> rw [e]; exact h1.1; intro e2; have e3 := Option.some.inj e2; have := h1.2.2.1; omega)⟩
                                  have n4_ := Aside0.mk ho
                                  clear C0 C1 C2 HU0 HU1 HB hg hat ho
                                  have C0 := n0_
                                  have C1 := n1_
                                  have C2 := n2_
                                  have HU1 := n3_
                                  have HU0 := n4_
                                  have HB := Aside0.mk hb
                                  clear n0_ n1_ n2_ n3_ n4_ hb
                                  refine hK.out _ _ ((blk_cell C1.out 0).trans rfl) (fun hHeld => ?_)
                                  clear hK K
                                  refine norm_ (a' := ?_) ?_ ?_
                                  rotate_left
                                  · show Act.put _ (some 105) _ = _
                                    simp only [Act.put, List.setIfInBounds_toArray, List.set_cons_zero, List.set_cons_succ]
                                    rfl
                                  refine pure_ (i := 8) (N := some 106) (v := ?_) (a' := ?_) #[true, true, true, true, true, true, true, true, true, false] rfl rfl (by kernel_rfl) (fun _ _ _ h => h) (Or.inl ⟨by rfl, ?_⟩) ?_ ?_
                                  rotate_left
                                  · intro w'
                                    go_simp
                                    with_reducible rfl
                                  rotate_left
                                  · simp only [Act.put, List.setIfInBounds_toArray, List.set_cons_zero, List.set_cons_succ]
                                    rfl
                                  have zf7 : w7.frozen? ⟨w.heap.size + 1, 0, none⟩ = false := blk_frozen C1.out 0
                                  have zc7 : w7.cell? ⟨w.heap.size + 1, 0, none⟩ = some (.slice Ao R.length co) := (blk_cell C1.out 0).trans rfl
                                  refine last_ (i := 9) (N := none) #[true, true, true, true, true, true, true, true, true, true] rfl rfl (by kernel_rfl) (by decide) (fun K hK => ?_)
                                  refine skip_ (w1 := (w7.setCell ⟨w.heap.size + 1, 0, none⟩ (.slice A7 (R ++ [t]).length c7))) (by rfl) rfl (by first | (go_simp; done) | (go_simp; rfl)) ?_
                                  refine hK.out _ _ ?_
                                  clear hK K hHeld zc zc7 zf7
                                  refine done_ (by kernel_rfl) ?_
                                  have hne := HN.out
                                  have n3_ := Aside0.mk (Kd.R_mono (Kd.R_far (p := ⟨w.heap.size + 1, 0, none⟩) (Kd.R_types HU0.out C1.out (by decide)) (fun _ hk => hk.2) (.slice A7 (R ++ [t]).length c7)) (fun _ hk => hk.1))
                                  have n4_ := Aside0.mk (Kd.R_mono (Kd.R_far (p := ⟨w.heap.size + 1, 0, none⟩) (Kd.R_types HU1.out C1.out (by decide)) (fun _ hk => hk.2) (.slice A7 (R ++ [t]).length c7)) (fun _ hk => hk.1))
                                  have n1_ : Aside0 ((w7.setCell ⟨w.heap.size + 1, 0, none⟩ (.slice A7 (R ++ [t]).length c7)).heap[w.heap.size + 1]? = some (.cells #[.slice A7 (R ++ [t]).length c7, u1] 36 (0, 0))) := ⟨blk_put C1.out 0 _ rfl⟩
                                  have n0_ := Aside0.mk (blk_far (p := ⟨w.heap.size + 1, 0, none⟩) C0.out (by show w.heap.size ≠ w.heap.size + 1; omega) (.slice A7 (R ++ [t]).length c7))
                                  have n2_ := Aside0.mk (blk_far (p := ⟨w.heap.size + 1, 0, none⟩) C2.out (by show b8 ≠ w.heap.size + 1; omega) (.slice A7 (R ++ [t]).length c7))
                                  have n5_ : Aside0 (Below w.heap.size w (w7.setCell ⟨w.heap.size + 1, 0, none⟩ (.slice A7 (R ++ [t]).length c7))) := ⟨below_set HB.out (by show w.heap.size ≤ w.heap.size + 1; omega)⟩
                                  clear C0 C1 C2 HU0 HU1 HB hne
                                  have C0 := n0_
                                  have C1 := n1_
                                  have C2 := n2_
                                  have HU0 := n3_
                                  have HU1 := n4_
                                  have HB := n5_
                                  clear n0_ n1_ n2_ n3_ n4_ n5_
                                  generalize (w7.setCell ⟨w.heap.size + 1, 0, none⟩ (.slice A7 (R ++ [t]).length c7)) = w8 at C0 C1 C2 HU0 HU1 HB ⊢
                                  replace k2 : w8.cell? ⟨b8, 0, none⟩ = some (.int .i64 (i : Int)) := (blk_cell C2.out 0).trans rfl
                                  replace f2 : w8.frozen? ⟨b8, 0, none⟩ = false := blk_frozen C2.out 0
                                  go_wp2
                                  go_roundg g
                                  case measure => omega
                                  case rel =>
                                    have hlt := blk_lt C2.out
                                    have n1 := blk_new ((w8).setCell ⟨b8, 0, none⟩ (.int .i64 (k : Int))) (Obj.cells #[.int .i64 (k : Int)] 3)
                                    have hn := HN.out
                                    have hi := HI.out
                                    have hp := HP.out
                                    have n2 : (((w8).setCell ⟨b8, 0, none⟩ (.int .i64 (k : Int))).alloc (Obj.cells #[.int .i64 (k : Int)] 3)).heap[(w8).heap.size]? = some (.cells #[.int .i64 (k : Int)] 3 (0, 0)) := by simpa using n1
                                    have hlt2 : b8 < (w8).heap.size := by simpa using hlt
                                    exact ⟨k, 1, (many + 1), (R ++ [t]), A, (.slice A7 (R ++ [t]).length c7), u1, (w8).heap.size, fr, (some ⟨w.heap.size + 1, 0, none⟩), rfl, rfl, rfl, rfl, rfl, ⟨rfl⟩, HM3, ⟨by omega⟩, ⟨by omega, by omega, fun h => absurd h (by decide), fun _ => ⟨HFR.out, by rw [List.length_append, List.length_singleton]; have := HLM.out; omega⟩, fun _ => hp.2.2.2.2.1 (by omega), fun h => absurd h (by decide), by rw [List.length_append, List.length_singleton]; have := HLM.out; omega, hp.2.2.2.2.2.2.2⟩, ⟨blk_alloc (blk_far C0.out (by show w.heap.size ≠ b8; omega) _) _⟩, ⟨blk_alloc (blk_far C1.out (by show w.heap.size + 1 ≠ b8; omega) _) _⟩, ⟨n2⟩, ⟨by omega⟩, ⟨Kd.R_alloc (Kd.R_mono (Kd.R_far (p := ⟨b8, 0, none⟩) (Kd.R_types HU0.out C2.out (by decide)) (fun _ hk => hk.2) _) (fun _ hk => hk.1)) _⟩, ⟨Kd.R_alloc (Kd.R_mono (Kd.R_far (p := ⟨b8, 0, none⟩) (Kd.R_types HU1.out C2.out (by decide)) (fun _ hk => hk.2) _) (fun _ hk => hk.1)) _⟩, ⟨below_alloc (below_set HB.out (by omega)) _⟩⟩
                                · have d1b : decide (k < s.size) = false := decide_eq_false d2
                                  clear d1
                                  go_wp2_with (first | (go_at_call 70; refine (impl_oddRune.calls _ _ _ HO.out (HT.out.below HB.out)).mono ?_; rintro e w1 ⟨rfl, hb⟩; replace C0 := Aside0.mk (blk_below C0.out hb); replace C1 := Aside0.mk (blk_below C1.out hb); replace C2 := Aside0.mk (blk_below C2.out hb); replace HU0 := Aside0.mk (Kd.R_below HU0.out hb); replace HU1 := Aside0.mk (Kd.R_below HU1.out hb); replace HB := Aside0.mk (below_step HB.out hb); clear hb; replace k2 : w1.cell? ⟨b8, 0, none⟩ = some (.int .i64 (i : Int)) := (blk_cell C2.out 0).trans rfl; replace f2 : w1.frozen? ⟨b8, 0, none⟩ = false := blk_frozen C2.out 0) | (go_at_call 71; refine (isw_calls t false _ HW.out).mono ?_; rintro e w2 ⟨rfl, hb⟩; replace C0 := Aside0.mk (blk_below C0.out hb); replace C1 := Aside0.mk (blk_below C1.out hb); replace C2 := Aside0.mk (blk_below C2.out hb); replace HU0 := Aside0.mk (Kd.R_below HU0.out hb); replace HU1 := Aside0.mk (Kd.R_below HU1.out hb); replace HB := Aside0.mk (below_step HB.out hb); clear hb; replace k2 : w2.cell? ⟨b8, 0, none⟩ = some (.int .i64 (i : Int)) := (blk_cell C2.out 0).trans rfl; replace f2 : w2.frozen? ⟨b8, 0, none⟩ = false := blk_frozen C2.out 0; have zc : w2.cell? ⟨w.heap.size + 1, 0, none⟩ = some (.slice Ao R.length co) := (blk_cell C1.out 0).trans rfl) | (go_at_call 72; refine (count_calls t _ HTZ.out).mono ?_; rintro e w4 ⟨rfl, hb⟩; replace C0 := Aside0.mk (blk_below C0.out hb); replace C1 := Aside0.mk (blk_below C1.out hb); replace C2 := Aside0.mk (blk_below C2.out hb); replace HU0 := Aside0.mk (Kd.R_below HU0.out hb); replace HU1 := Aside0.mk (Kd.R_below HU1.out hb); replace HB := Aside0.mk (below_step HB.out hb); clear hb; replace k2 : w4.cell? ⟨b8, 0, none⟩ = some (.int .i64 (i : Int)) := (blk_cell C2.out 0).trans rfl; replace f2 : w4.frozen? ⟨b8, 0, none⟩ = false := blk_frozen C2.out 0; have q0 : w4.cell? ⟨w.heap.size, 0, none⟩ = some (.slice none 0 0) := (blk_cell C0.out 0).trans rfl; have g0 := blk_frozen C0.out 0; have q1 : w4.cell? ⟨w.heap.size, 1, none⟩ = some (.slice none 0 0) := (blk_cell C0.out 1).trans rfl; have g1 := blk_frozen C0.out 1; have q2 : w4.cell? ⟨w.heap.size, 2, none⟩ = some (.int .i64 0) := (blk_cell C0.out 2).trans rfl; have g2 := blk_frozen C0.out 2; have q3 : w4.cell? ⟨w.heap.size, 3, none⟩ = some (.int .i64 0) := (blk_cell C0.out 3).trans rfl; have g3 := blk_frozen C0.out 3; replace zc : w4.cell? ⟨w.heap.size + 1, 0, none⟩ = some (.slice Ao R.length co) := (blk_cell C1.out 0).trans rfl) | (go_at_call 73; refine (contains_calls Ao co R t false _ ⟨(Kd.R_reads' HU0.out).2.2, (Kd.R_reads' HU0.out).2.1, H6.out⟩ HIN.out).mono ?_; rintro e w5 ⟨rfl, hb⟩; replace C0 := Aside0.mk (blk_below C0.out hb); replace C1 := Aside0.mk (blk_below C1.out hb); replace C2 := Aside0.mk (blk_below C2.out hb); replace HU0 := Aside0.mk (Kd.R_below HU0.out hb); replace HU1 := Aside0.mk (Kd.R_below HU1.out hb); replace HB := Aside0.mk (below_step HB.out hb); clear hb; replace k2 : w5.cell? ⟨b8, 0, none⟩ = some (.int .i64 (i : Int)) := (blk_cell C2.out 0).trans rfl; replace f2 : w5.frozen? ⟨b8, 0, none⟩ = false := blk_frozen C2.out 0; replace zc : w5.cell? ⟨w.heap.size + 1, 0, none⟩ = some (.slice Ao R.length co) := (blk_cell C1.out 0).trans rfl))
                                  refine start_ (n := 10) (S := fun w' => w'.cell? ⟨w.heap.size + 1, 0, none⟩ = some (.slice Ao R.length co)) (ds := [9]) #[false, false, false, false, false, false, false, false, false, false] (by kernel_rfl) rfl rfl zc (fun hHeld => ?_)
                                  have hb : Below w5.heap.size w5 w5.drew := by apply below_drew1; exact Below.refl _ _
                                  replace C0 := Aside0.mk (blk_below C0.out hb)
                                  replace C1 := Aside0.mk (blk_below C1.out hb)
                                  replace C2 := Aside0.mk (blk_below C2.out hb)
                                  replace HU0 := Aside0.mk (Kd.R_below HU0.out hb)
                                  replace HU1 := Aside0.mk (Kd.R_below HU1.out hb)
                                  replace HB := Aside0.mk (below_step HB.out hb)
                                  clear hb
                                  refine pure_ (i := 0) (N := some 98) (v := ?_) (a' := ?_) #[true, false, false, false, false, false, false, false, false, false] rfl rfl (by kernel_rfl) (fun _ _ _ h => h) (Or.inl ⟨by rfl, ?_⟩) ?_ ?_
                                  rotate_left
                                  · intro w'
                                    go_simp
                                    with_reducible rfl
                                  rotate_left
                                  · simp only [Act.put, List.setIfInBounds_toArray, List.set_cons_zero, List.set_cons_succ]
                                    rfl
                                  refine pure_ (i := 1) (N := some 99) (v := ?_) (a' := ?_) #[true, true, false, false, false, false, false, false, false, false] rfl rfl (by kernel_rfl) (fun _ _ _ h => h) (Or.inl ⟨by rfl, ?_⟩) ?_ ?_
                                  rotate_left
                                  · intro w'
                                    go_simp
                                    with_reducible rfl
                                  rotate_left
                                  · simp only [Act.put, List.setIfInBounds_toArray, List.set_cons_zero, List.set_cons_succ]
                                    rfl
                                  refine pure_ (i := 4) (N := some 102) (v := ?_) (a' := ?_) #[true, true, false, false, true, false, false, false, false, false] rfl rfl (by kernel_rfl) (fun _ _ _ h => h) (Or.inl ⟨by rfl, ?_⟩) ?_ ?_
                                  rotate_left
                                  · intro w'
                                    go_simp
                                    with_reducible rfl
                                  rotate_left
                                  · simp only [Act.put, List.setIfInBounds_toArray, List.set_cons_zero, List.set_cons_succ]
                                    rfl
                                  refine pure_ (i := 2) (N := some 100) (v := ?_) (a' := ?_) #[true, true, true, false, true, false, false, false, false, false] rfl rfl (by kernel_rfl) (fun _ _ _ h => h) (Or.inl ⟨by rfl, ?_⟩) ?_ ?_
                                  rotate_left
                                  · intro w'
                                    go_simp
                                    with_reducible rfl
                                  rotate_left
                                  · simp only [Act.put, List.setIfInBounds_toArray, List.set_cons_zero, List.set_cons_succ]
                                    rfl
                                  refine take_ (i := 3) (N := some 101) (v := ?_) (a' := ?_) #[true, true, true, true, true, false, false, false, false, false] rfl rfl (by kernel_rfl) (fun _ _ _ h => h) (Or.inl ⟨by rfl, ?_⟩) hHeld ?_ ?_
                                  rotate_left
                                  · rintro w' hz_
                                    go_simp
                                    with_reducible rfl
                                  rotate_left
                                  · simp only [Act.put, List.setIfInBounds_toArray, List.set_cons_zero, List.set_cons_succ]
                                    rfl
                                  refine one_ (i := 5) (N := some 103) #[true, true, true, true, true, true, false, false, false, false] rfl rfl (by kernel_rfl) (by decide) (fun K hK => ?_)
                                  refine goes_ Tryd.func74 (by kernel_rfl) rfl #[.string t] (by rfl) rfl rfl (by simp only [List.map_toArray, List.map_cons, List.map_nil]; rfl) ?_
                                  refine (clone_calls t _ (by have := HTZ.out; omega)).mono ?_
                                  rintro e w6 ⟨rfl, hb⟩
                                  replace C0 := Aside0.mk (blk_below C0.out hb)
                                  replace C1 := Aside0.mk (blk_below C1.out hb)
                                  replace C2 := Aside0.mk (blk_below C2.out hb)
                                  replace HU0 := Aside0.mk (Kd.R_below HU0.out hb)
                                  replace HU1 := Aside0.mk (Kd.R_below HU1.out hb)
                                  replace HB := Aside0.mk (below_step HB.out hb)
                                  clear hb
                                  refine ⟨_, rfl, ?_⟩
                                  refine hK.out _ _ ((blk_cell C1.out 0).trans rfl) (fun hHeld => ?_)
                                  clear hK K
                                  refine norm_ (a' := ?_) ?_ ?_
                                  rotate_left
                                  · show Act.put _ (some 103) _ = _
                                    simp only [Act.put, List.setIfInBounds_toArray, List.set_cons_zero, List.set_cons_succ]
                                    rfl
                                  refine one_ (i := 6) (N := some 104) #[true, true, true, true, true, true, true, false, false, false] rfl rfl (by kernel_rfl) (by decide) (fun K hK => ?_)
                                  refine value_ (w1 := w6.alloc (.cells #[.string t] 9)) (v := .slice (some ⟨w6.heap.size, 0, none⟩) 1 1) (by rfl) rfl (by first | (go_simp; done) | (go_simp; rfl)) ?_
                                  refine hK.out _ _ ((blk_cell (blk_alloc C1.out _) 0).trans rfl) (fun hHeld => ?_)
                                  clear hK K
                                  refine norm_ (a' := ?_) ?_ ?_
                                  rotate_left
                                  · show Act.put _ (some 104) _ = _
                                    simp only [Act.put, List.setIfInBounds_toArray, List.set_cons_zero, List.set_cons_succ]
                                    rfl
                                  refine one_ (i := 7) (N := some 105) #[true, true, true, true, true, true, true, true, false, false] rfl rfl (by kernel_rfl) (by decide) (fun K hK => ?_)
                                  refine Kd.R_append_step Kd.string (w0 := w) (W := w6) w.heap.size (by rfl) (.tmp 101) (.tmp 104) 22 9 (.string ⟨#[]⟩) 16 rfl Tryd.underlying22 info9 rfl (by decide) (by omega) (.slice Ao R.length co) R t [.string t] (fun k_ => some k_ ≠ (u1 : Value).ownBlock) (fun _ => False) rfl rfl ?aP0 (fun _ hk => hk.elim) ?aF0 HU0.out HB.out HB.out.size ?aL0 ?_
                                  (case aP0 => exact rfl)
                                  (case aF0 => exact (fun k_ hk e => by have := ((Kd.R_bound HU1.out).1 k_ e.symm).2.2.1; omega))
                                  (case aL0 => have := H6.out; omega)
                                  intro v7 w7 ho hb hg hat
                                  obtain ⟨A7, c7, e7⟩ := Kd.R_slice ho
                                  subst e7
                                  have n0_ := Aside0.mk (blk_grown C0.out hg (Kd.R_ne HU0.out C0.out (by decide)))
                                  have n1_ := Aside0.mk (blk_grown C1.out hg (Kd.R_ne HU0.out C1.out (by decide)))
                                  have n2_ := Aside0.mk (blk_grown C2.out hg (Kd.R_ne HU0.out C2.out (by decide)))
                                  have n3_ : Aside0 (Kd.R Kd.string 9 w7 w.heap.size (fun k_ => some k_ ≠ (Value.slice A7 (R ++ [t]).length c7).ownBlock) u1 A) := ⟨Kd.R_mono (Kd.R_grown (Kd.R_bound HU1.out) hg (fun k_ h1 => h1.1)) (fun k_ h1 => by rcases hat with e | ⟨b, e, hb⟩ <;> rw [e]; exact h1.1; intro e2; have e3 := Option.some.inj e2; have := h1.2.2.1; omega)⟩
                                  have n4_ := Aside0.mk ho
                                  clear C0 C1 C2 HU0 HU1 HB hg hat ho
                                  have C0 := n0_
                                  have C1 := n1_
                                  have C2 := n2_
                                  have HU1 := n3_
                                  have HU0 := n4_
                                  have HB := Aside0.mk hb
                                  clear n0_ n1_ n2_ n3_ n4_ hb
                                  refine hK.out _ _ ((blk_cell C1.out 0).trans rfl) (fun hHeld => ?_)
                                  clear hK K
                                  refine norm_ (a' := ?_) ?_ ?_
                                  rotate_left
                                  · show Act.put _ (some 105) _ = _
                                    simp only [Act.put, List.setIfInBounds_toArray, List.set_cons_zero, List.set_cons_succ]
                                    rfl
                                  refine pure_ (i := 8) (N := some 106) (v := ?_) (a' := ?_) #[true, true, true, true, true, true, true, true, true, false] rfl rfl (by kernel_rfl) (fun _ _ _ h => h) (Or.inl ⟨by rfl, ?_⟩) ?_ ?_
                                  rotate_left
                                  · intro w'
                                    go_simp
                                    with_reducible rfl
                                  rotate_left
                                  · simp only [Act.put, List.setIfInBounds_toArray, List.set_cons_zero, List.set_cons_succ]
                                    rfl
                                  have zf7 : w7.frozen? ⟨w.heap.size + 1, 0, none⟩ = false := blk_frozen C1.out 0
                                  have zc7 : w7.cell? ⟨w.heap.size + 1, 0, none⟩ = some (.slice Ao R.length co) := (blk_cell C1.out 0).trans rfl
                                  refine last_ (i := 9) (N := none) #[true, true, true, true, true, true, true, true, true, true] rfl rfl (by kernel_rfl) (by decide) (fun K hK => ?_)
                                  refine skip_ (w1 := (w7.setCell ⟨w.heap.size + 1, 0, none⟩ (.slice A7 (R ++ [t]).length c7))) (by rfl) rfl (by first | (go_simp; done) | (go_simp; rfl)) ?_
                                  refine hK.out _ _ ?_
                                  clear hK K hHeld zc zc7 zf7
                                  refine done_ (by kernel_rfl) ?_
                                  have hne := HN.out
                                  have n3_ := Aside0.mk (Kd.R_mono (Kd.R_far (p := ⟨w.heap.size + 1, 0, none⟩) (Kd.R_types HU0.out C1.out (by decide)) (fun _ hk => hk.2) (.slice A7 (R ++ [t]).length c7)) (fun _ hk => hk.1))
                                  have n4_ := Aside0.mk (Kd.R_mono (Kd.R_far (p := ⟨w.heap.size + 1, 0, none⟩) (Kd.R_types HU1.out C1.out (by decide)) (fun _ hk => hk.2) (.slice A7 (R ++ [t]).length c7)) (fun _ hk => hk.1))
                                  have n1_ : Aside0 ((w7.setCell ⟨w.heap.size + 1, 0, none⟩ (.slice A7 (R ++ [t]).length c7)).heap[w.heap.size + 1]? = some (.cells #[.slice A7 (R ++ [t]).length c7, u1] 36 (0, 0))) := ⟨blk_put C1.out 0 _ rfl⟩
                                  have n0_ := Aside0.mk (blk_far (p := ⟨w.heap.size + 1, 0, none⟩) C0.out (by show w.heap.size ≠ w.heap.size + 1; omega) (.slice A7 (R ++ [t]).length c7))
                                  have n2_ := Aside0.mk (blk_far (p := ⟨w.heap.size + 1, 0, none⟩) C2.out (by show b8 ≠ w.heap.size + 1; omega) (.slice A7 (R ++ [t]).length c7))
                                  have n5_ : Aside0 (Below w.heap.size w (w7.setCell ⟨w.heap.size + 1, 0, none⟩ (.slice A7 (R ++ [t]).length c7))) := ⟨below_set HB.out (by show w.heap.size ≤ w.heap.size + 1; omega)⟩
                                  clear C0 C1 C2 HU0 HU1 HB hne
                                  have C0 := n0_
                                  have C1 := n1_
                                  have C2 := n2_
                                  have HU0 := n3_
                                  have HU1 := n4_
                                  have HB := n5_
                                  clear n0_ n1_ n2_ n3_ n4_ n5_
                                  generalize (w7.setCell ⟨w.heap.size + 1, 0, none⟩ (.slice A7 (R ++ [t]).length c7)) = w8 at C0 C1 C2 HU0 HU1 HB ⊢
                                  replace k2 : w8.cell? ⟨b8, 0, none⟩ = some (.int .i64 (i : Int)) := (blk_cell C2.out 0).trans rfl
                                  replace f2 : w8.frozen? ⟨b8, 0, none⟩ = false := blk_frozen C2.out 0
                                  go_wp2
                                  go_roundg g
                                  case measure => omega
                                  case rel =>
                                    have hlt := blk_lt C2.out
                                    have n1 := blk_new ((w8).setCell ⟨b8, 0, none⟩ (.int .i64 (k : Int))) (Obj.cells #[.int .i64 (k : Int)] 3)
                                    have hn := HN.out
                                    have hi := HI.out
                                    have hp := HP.out
                                    have n2 : (((w8).setCell ⟨b8, 0, none⟩ (.int .i64 (k : Int))).alloc (Obj.cells #[.int .i64 (k : Int)] 3)).heap[(w8).heap.size]? = some (.cells #[.int .i64 (k : Int)] 3 (0, 0)) := by simpa using n1
                                    have hlt2 : b8 < (w8).heap.size := by simpa using hlt
                                    exact ⟨k, 1, (many + 1), (R ++ [t]), A, (.slice A7 (R ++ [t]).length c7), u1, (w8).heap.size, fr, (some ⟨w.heap.size + 1, 0, none⟩), rfl, rfl, rfl, rfl, rfl, ⟨rfl⟩, HM3, ⟨by omega⟩, ⟨by omega, by omega, fun h => absurd h (by decide), fun _ => ⟨HFR.out, by rw [List.length_append, List.length_singleton]; have := HLM.out; omega⟩, fun _ => hp.2.2.2.2.1 (by omega), fun h => absurd h (by decide), by rw [List.length_append, List.length_singleton]; have := HLM.out; omega, hp.2.2.2.2.2.2.2⟩, ⟨blk_alloc (blk_far C0.out (by show w.heap.size ≠ b8; omega) _) _⟩, ⟨blk_alloc (blk_far C1.out (by show w.heap.size + 1 ≠ b8; omega) _) _⟩, ⟨n2⟩, ⟨by omega⟩, ⟨Kd.R_alloc (Kd.R_mono (Kd.R_far (p := ⟨b8, 0, none⟩) (Kd.R_types HU0.out C2.out (by decide)) (fun _ hk => hk.2) _) (fun _ hk => hk.1)) _⟩, ⟨Kd.R_alloc (Kd.R_mono (Kd.R_far (p := ⟨b8, 0, none⟩) (Kd.R_types HU1.out C2.out (by decide)) (fun _ hk => hk.2) _) (fun _ hk => hk.1)) _⟩, ⟨below_alloc (below_set HB.out (by omega)) _⟩⟩
theorem impl_ReadWish.calls (a0 : ByteArray) (r1 r2 : List ByteArray) (r3 r4 : Int) (w : World) (h : impl_ReadWish.f a0 = some (r1, r2, r3, r4)) (ht : Tabs w := by exact tb_ HTb_) :
    Calls Tryd.prog 30 #[.string a0] w fun e w' => ∃ v0_ v1_ : Value, e = .returned (.agg #[v0_, v1_, .int .i64 r3, .int .i64 r4]) ∧ Kd.R Kd.string 9 w' w.heap.size (fun k_ => some k_ ≠ (v1_ : Value).ownBlock) v0_ r1 ∧ Kd.R Kd.string 9 w' w.heap.size (fun k_ => some k_ ≠ (v0_ : Value).ownBlock) v1_ r2 ∧ Below w.heap.size w w' := by
  unfold impl_ReadWish.f at h
  by_cases c : a0.size ≤ 1048576
  · rw [if_pos c] at h
    exact read_walk a0 (r1, r2, r3, r4) w c (Option.some.inj h) ht
  · rw [if_neg c] at h
    cases h
end Go.Proofs.YtdihodboopeakaaDoor.Pr
