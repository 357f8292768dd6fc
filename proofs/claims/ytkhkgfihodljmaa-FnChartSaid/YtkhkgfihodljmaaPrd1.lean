-- Written by this session's own print (wip/tools/mkmp.py) out of the translation. Lean checks it.
import Derived.Test.YtkhkgfihodljmaaPr0
namespace Go.Proofs.Ytkhkgfihodljmaa.Pr
open Go.RowKit Go.Proofs.YtkhkgfihodljmaaW.PrintWords Go.Proofs.YtkhkgfihodljmaaW.PrintLast Go.Proofs.YtkhkgfihodljmaaW.PrintMore
attribute [local go_sem] max2_int min2_int max_two min_two max_three min_three max_four min_four   -- for this text's walks alone
set_option linter.unusedVariables false
set_option linter.unusedSimpArgs false

/-- A state of type 78 at block g of W; what its slices lead to came in by w0. -/
def IsS78 (w0 W : World) (g : Nat) (f0 : List Int) (f1 : Int) (f2 : Int) : Prop := ∃ A0 c0, W.heap[g]? = some (.cells #[.slice A0 f0.length c0, .int .i64 f1, .int .u64 f2] 78 (0, 0)) ∧ w0.heap.size ≤ g ∧ Kd.C (Kd.int .u8) w0 A0 f0.length f0
theorem IsS78.grown {w0 W : World} {g : Nat} {f0 : List Int} {f1 : Int} {f2 : Int} {W1 : World} {row : Option Nat} (h : IsS78 w0 W g f0 f1 f2) (hw : W.grownBy W1 row) (hne : some g ≠ row) : IsS78 w0 W1 g f0 f1 f2 := by
  obtain ⟨A0, c0, hb, hg, hr0⟩ := h
  exact ⟨A0, c0, blk_grown hb hw hne, hg, hr0⟩
theorem IsS78.own_neN {w0 W : World} {g : Nat} {f0 : List Int} {f1 : Int} {f2 : Int} {α : Type} {d : Kd α} {e : Nat} {base : Nat} {ok : Nat → Prop} {v : Value} {xs : List α} (h : IsS78 w0 W g f0 f1 f2) (ho : Kd.N d e W base ok v xs) (ht : e ≠ 78) : some g ≠ v.ownBlock := by
  obtain ⟨A0, c0, hb, hg, hr0⟩ := h
  exact Kd.N_ne ho hb ht
theorem IsS78.fresh {w0 W : World} {g : Nat} {f0 : List Int} {f1 : Int} {f2 : Int} (h : IsS78 w0 W g f0 f1 f2) : ∀ k, W.heap.size ≤ k → k ≠ g := by
  obtain ⟨A0, c0, hb, hg, hr0⟩ := h
  exact Kd.freshB hb
theorem IsS78.kept {w0 W : World} {g : Nat} {f0 : List Int} {f1 : Int} {f2 : Int} {W1 : World} {S : Nat → Prop} (h : IsS78 w0 W g f0 f1 f2) (hk : Kept W W1 S) (hne : ¬ S g) : IsS78 w0 W1 g f0 f1 f2 := by
  obtain ⟨A0, c0, hb, hg, hr0⟩ := h
  exact ⟨A0, c0, blk_kept hb hk hne, hg, hr0⟩
theorem IsS78.below {w0 W : World} {g : Nat} {f0 : List Int} {f1 : Int} {f2 : Int} {W1 : World} (h : IsS78 w0 W g f0 f1 f2) (hw : Below W.heap.size W W1) : IsS78 w0 W1 g f0 f1 f2 := h.grown (grown_of_below hw none) (by simp)
theorem IsS78.alloc {w0 W : World} {g : Nat} {f0 : List Int} {f1 : Int} {f2 : Int} (h : IsS78 w0 W g f0 f1 f2) (o : Obj) : IsS78 w0 (W.alloc o) g f0 f1 f2 := h.below (below_alloc (Below.refl _ _) o)
theorem IsS78.drewN {w0 W : World} {g : Nat} {f0 : List Int} {f1 : Int} {f2 : Int} (h : IsS78 w0 W g f0 f1 f2) (m : Nat) : IsS78 w0 (W.drewN m) g f0 f1 f2 := h
theorem IsS78.drew {w0 W : World} {g : Nat} {f0 : List Int} {f1 : Int} {f2 : Int} (h : IsS78 w0 W g f0 f1 f2) : IsS78 w0 W.drew g f0 f1 f2 := h
theorem IsS78.at_ {w0 W : World} {g : Nat} {f0 : List Int} {f1 : Int} {f2 : Int} {w' : World} {m : Nat} (hq : W.drewN m = w') (h : IsS78 w0 W g f0 f1 f2) : IsS78 w0 w' g f0 f1 f2 := by subst hq; exact IsS78.drewN h m
theorem IsS78.apart {w0 W : World} {g : Nat} {f0 : List Int} {f1 : Int} {f2 : Int} {α : Type} {d : Kd α} {e : Nat} {base : Nat} {ok : Nat → Prop} {v : Value} {xs : List α} (h : IsS78 w0 W g f0 f1 f2) (ho : d.R e W base ok v xs) (ht : ∀ q, q ∈ e :: d.E → q ≠ 78) : d.R e W base (fun k => ok k ∧ k ≠ g) v xs := by
  obtain ⟨A0, c0, hb, hg, hr0⟩ := h
  exact Kd.R_types ho hb ht
theorem IsS78.own_ne {w0 W : World} {g : Nat} {f0 : List Int} {f1 : Int} {f2 : Int} {α : Type} {d : Kd α} {e : Nat} {base : Nat} {ok : Nat → Prop} {v : Value} {xs : List α} (h : IsS78 w0 W g f0 f1 f2) (ho : d.R e W base ok v xs) (ht : e ≠ 78) : some g ≠ v.ownBlock := by
  obtain ⟨A0, c0, hb, hg, hr0⟩ := h
  exact Kd.R_ne ho hb ht
theorem IsS78.apartQ {w0 W : World} {g : Nat} {f0 : List Int} {f1 : Int} {f2 : Int} {α : Type} {d : Kd α} {e : Nat} {base : Nat} {ok : Nat → Prop} {v : Value} {xs : List α} (h : IsS78 w0 W g f0 f1 f2) (ho : d.Q e W base ok v xs) (ht : ∀ q, q ∈ e :: d.E → q ≠ 78) : d.Q e W base (fun k => ok k ∧ k ≠ g) v xs := by
  obtain ⟨A0, c0, hb, hg, hr0⟩ := h
  exact Kd.Q_types ho hb ht
theorem IsS78.own_neQ {w0 W : World} {g : Nat} {f0 : List Int} {f1 : Int} {f2 : Int} {α : Type} {d : Kd α} {e : Nat} {base : Nat} {ok : Nat → Prop} {v : Value} {xs : List α} (h : IsS78 w0 W g f0 f1 f2) (ho : d.Q e W base ok v xs) (ht : e ≠ 78) : some g ≠ v.ownBlock := by
  obtain ⟨A0, c0, hb, hg, hr0⟩ := h
  exact Kd.Q_ne ho hb ht
theorem IsS78.apartS {w0 W : World} {g : Nat} {f0 : List Int} {f1 : Int} {f2 : Int} {α : Type} {d : Kd α} {e : Nat} {base : Nat} {ok : Nat → Prop} {v : Value} {xs : List α} (h : IsS78 w0 W g f0 f1 f2) (ho : d.S e W base ok v xs) (ht : ∀ q, q ∈ e :: d.E → q ≠ 78) : d.S e W base (fun k => ok k ∧ k ≠ g) v xs := by
  obtain ⟨A0, c0, hb, hg, hr0⟩ := h
  exact Kd.S_types ho hb ht
theorem IsS78.own_neS {w0 W : World} {g : Nat} {f0 : List Int} {f1 : Int} {f2 : Int} {α : Type} {d : Kd α} {e : Nat} {base : Nat} {ok : Nat → Prop} {v : Value} {xs : List α} (h : IsS78 w0 W g f0 f1 f2) (ho : d.S e W base ok v xs) (ht : e ≠ 78) : some g ≠ v.ownBlock := by
  obtain ⟨A0, c0, hb, hg, hr0⟩ := h
  exact Kd.S_ne ho hb ht
theorem IsS78.lt {w0 W : World} {g : Nat} {f0 : List Int} {f1 : Int} {f2 : Int} (h : IsS78 w0 W g f0 f1 f2) : g < W.heap.size := by
  obtain ⟨A0, c0, hb, hg, hr0⟩ := h
  exact blk_lt hb
theorem IsS78.ge {w0 W : World} {g : Nat} {f0 : List Int} {f1 : Int} {f2 : Int} (h : IsS78 w0 W g f0 f1 f2) : w0.heap.size ≤ g := by
  obtain ⟨A0, c0, hb, hg, hr0⟩ := h
  exact hg
theorem IsS78.ne_blk {w0 W : World} {g : Nat} {f0 : List Int} {f1 : Int} {f2 : Int} {a : Nat} {cs : Array Value} {t : TypeId} {fr : Nat × Nat} (h : IsS78 w0 W g f0 f1 f2) (hb2 : W.heap[a]? = some (.cells cs t fr)) (ht : t ≠ 78) : g ≠ a := by
  obtain ⟨A0, c0, hb, hg, hr0⟩ := h
  rintro rfl
  rw [hb] at hb2
  injection hb2 with hb2
  injection hb2 with _ ht2
  exact ht ht2.symm
theorem IsS78.far {w0 W : World} {g : Nat} {f0 : List Int} {f1 : Int} {f2 : Int} {p : Addr} (h : IsS78 w0 W g f0 f1 f2) (hne : g ≠ p.block) (u : Value) : IsS78 w0 (W.setCell p u) g f0 f1 f2 := by
  obtain ⟨A0, c0, hb, hg, hr0⟩ := h
  exact ⟨A0, c0, blk_far hb hne u, hg, hr0⟩
theorem cellS78_0 {W : World} {g : Nat} {A0 : Option Addr} {c0 : Nat} {f0 : List Int} {f1 : Int} {f2 : Int} (h : W.heap[g]? = some (.cells #[.slice A0 f0.length c0, .int .i64 f1, .int .u64 f2] 78 (0, 0))) : W.cell? ⟨g, 0, none⟩ = some (.slice A0 f0.length c0) := (blk_cell h 0).trans rfl
theorem cellS78_1 {W : World} {g : Nat} {A0 : Option Addr} {c0 : Nat} {f0 : List Int} {f1 : Int} {f2 : Int} (h : W.heap[g]? = some (.cells #[.slice A0 f0.length c0, .int .i64 f1, .int .u64 f2] 78 (0, 0))) : W.cell? ⟨g, 1, none⟩ = some (.int .i64 f1) := (blk_cell h 1).trans rfl
theorem IsS78.set_1 {w0 W : World} {g : Nat} {f0 : List Int} {f1 : Int} {f2 : Int} (h : IsS78 w0 W g f0 f1 f2) (x : Int) : IsS78 w0 (W.setCell ⟨g, 1, none⟩ (.int .i64 x)) g f0 x f2 := by
  obtain ⟨A0, c0, hb, hg, hr0⟩ := h
  exact ⟨A0, c0, by simpa using blk_set hb 1 (.int .i64 x), hg, hr0⟩
theorem cellS78_2 {W : World} {g : Nat} {A0 : Option Addr} {c0 : Nat} {f0 : List Int} {f1 : Int} {f2 : Int} (h : W.heap[g]? = some (.cells #[.slice A0 f0.length c0, .int .i64 f1, .int .u64 f2] 78 (0, 0))) : W.cell? ⟨g, 2, none⟩ = some (.int .u64 f2) := (blk_cell h 2).trans rfl
theorem IsS78.set_2 {w0 W : World} {g : Nat} {f0 : List Int} {f1 : Int} {f2 : Int} (h : IsS78 w0 W g f0 f1 f2) (x : Int) : IsS78 w0 (W.setCell ⟨g, 2, none⟩ (.int .u64 x)) g f0 f1 x := by
  obtain ⟨A0, c0, hb, hg, hr0⟩ := h
  exact ⟨A0, c0, by simpa using blk_set hb 2 (.int .u64 x), hg, hr0⟩
theorem IsS78.new (w0 W : World) (A0 : Option Addr) (c0 : Nat) (f0 : List Int) (f1 : Int) (f2 : Int) (hB : Below w0.heap.size w0 W) (hr0 : Kd.C (Kd.int .u8) w0 A0 f0.length f0) : IsS78 w0 (W.alloc (.cells #[.slice A0 f0.length c0, .int .i64 f1, .int .u64 f2] 78)) W.heap.size f0 f1 f2 := ⟨A0, c0, by simpa using heap_alloc_new W _, hB.size, hr0⟩

/-! ### spec_l1Cur_next: function 79 -/
def spec_l1Cur_next.f (s0_0 : List Int) (s0_1 : Int) (s0_2 : Int) : Option (Int × Int × Int) := if s0_1 < (s0_0.length : Int) then (if 0 ≤ s0_1 then (if (wrap64 (s0_1 + 1)) ≤ (s0_0.length : Int) then (some (wrap64 (rd s0_0 s0_1), wrap64 (s0_1 + 1), IntKind.u64.wrap ((IntKind.u64.wrap ((IntKind.u64.wrap (s0_2 * 6364136223846793005)) + (IntKind.u64.wrap (wrap64 (rd s0_0 s0_1))))) + 1442695040888963407))) else (some (wrap64 (Go.bits .and .u64 ((IntKind.u64.wrap ((IntKind.u64.wrap ((IntKind.u64.wrap (s0_2 * 6364136223846793005)) + (IntKind.u64.wrap (wrap64 (rd s0_0 s0_1))))) + 1442695040888963407)) / 1099511627776) 255), wrap64 (s0_1 + 1), IntKind.u64.wrap ((IntKind.u64.wrap ((IntKind.u64.wrap (s0_2 * 6364136223846793005)) + (IntKind.u64.wrap (wrap64 (rd s0_0 s0_1))))) + 1442695040888963407)))) else (none)) else (if (wrap64 (s0_1 + 1)) ≤ (s0_0.length : Int) then (some (0, wrap64 (s0_1 + 1), IntKind.u64.wrap ((IntKind.u64.wrap ((IntKind.u64.wrap (s0_2 * 6364136223846793005)) + 0)) + 1442695040888963407))) else (some (wrap64 (Go.bits .and .u64 ((IntKind.u64.wrap ((IntKind.u64.wrap ((IntKind.u64.wrap (s0_2 * 6364136223846793005)) + 0)) + 1442695040888963407)) / 1099511627776) 255), wrap64 (s0_1 + 1), IntKind.u64.wrap ((IntKind.u64.wrap ((IntKind.u64.wrap (s0_2 * 6364136223846793005)) + 0)) + 1442695040888963407))))

/-! ### spec_l1Cur_pick: function 52 -/
def spec_l1Cur_pick.f (s0_0 : List Int) (s0_1 : Int) (s0_2 : Int) (a1 : Int) : Option (Int × Int × Int) := if a1 ≤ 1 then (some (0, s0_1, s0_2)) else ((spec_l1Cur_next.f s0_0 s0_1 s0_2).bind fun bt102 => (if a1 > 200 then ((spec_l1Cur_next.f s0_0 bt102.2.1 bt102.2.2).bind fun bt105 => (if a1 = 0 then (none) else (some (Int.tmod (wrap64 ((wrap64 (bt102.1 * 256)) + bt105.1)) a1, bt105.2.1, bt105.2.2)))) else (if a1 = 0 then (none) else (some (Int.tmod bt102.1 a1, bt102.2.1, bt102.2.2)))))

/-! ### spec_l1Cur_among: function 55 -/
def spec_l1Cur_among.f (s0_0 : List Int) (s0_1 : Int) (s0_2 : Int) (l1 : List Int) : Option (Int × Int × Int) := (spec_l1Cur_pick.f s0_0 s0_1 s0_2 (l1.length : Int)).bind fun bt108 => (if 0 ≤ bt108.1 then (if bt108.1 < (l1.length : Int) then (some (rd l1 bt108.1, bt108.2.1, bt108.2.2)) else (none)) else (none))

/-! ### spec_l1Cur_size: function 51 -/
def spec_l1Cur_size.f (s0_0 : List Int) (s0_1 : Int) (s0_2 : Int) : Option (Int × Int × Int) := (spec_l1Cur_among.f s0_0 s0_1 s0_2 (([2, 3, 4, 7, 10, 100, 4096, 1000000, 1, 1000001] : List Int))).bind fun bt115 => (some (bt115.1, bt115.2.1, bt115.2.2))

/-! ### spec_l1Cur_one: function 53 -/
def spec_l1Cur_one.f (s0_0 : List Int) (s0_1 : Int) (s0_2 : Int) (a1 : Int) : Option (Bool × Int × Int) := (spec_l1Cur_pick.f s0_0 s0_1 s0_2 a1).bind fun bt118 => (some ((bt118.1 == 0), bt118.2.1, bt118.2.2))

/-! ### spec_l8Mod: function 54 -/
def spec_l8Mod.f (a0 : Int) (a1 : Int) : Option (Int) := if a1 = 0 then (none) else (if (Int.tmod a0 a1) < 0 then (some (wrap64 ((Int.tmod a0 a1) + a1))) else (some (Int.tmod a0 a1)))

/-! ### spec_DrawUnwrapCounts: function 17 -/
mutual
def spec_DrawUnwrapCounts.j0 : Nat → Int → List Int → Int → List Int → Int → Int → Option (List Int × Int)
  | 0, _, _, _, _, _, _ => none
  | k + 1, x5, x6, x7, x122000, x122001, x122002 => (spec_l1Cur_pick.f x122000 x122001 x122002 x5).bind fun bt134 => (spec_DrawUnwrapCounts.l0 k x5 x6 x7 bt134.1 x122000 bt134.2.1 bt134.2.2)
def spec_DrawUnwrapCounts.l0 : Nat → Int → List Int → Int → Int → List Int → Int → Int → Option (List Int × Int)
  | 0, _, _, _, _, _, _, _ => none
  | k + 1, x5, x6, x7, x8, x122000, x122001, x122002 => if x7 > 0 then ((spec_l8Mod.f x8 x5).bind fun t137 => (if x6.length < 17592186044416 then ((spec_l1Cur_pick.f x122000 x122001 x122002 (wrap64 ((wrap64 (Int.tdiv x5 2)) + 2))).bind fun bt141 => ((spec_l1Cur_pick.f x122000 bt141.2.1 bt141.2.2 (wrap64 ((wrap64 (Int.tdiv x5 2)) + 2))).bind fun bt144 => (spec_DrawUnwrapCounts.l0 k x5 (x6 ++ [t137]) (wrap64 (x7 - 1)) (wrap64 (x8 + (wrap64 (bt141.1 - bt144.1)))) x122000 bt144.2.1 bt144.2.2))) else (none))) else ((spec_l1Cur_one.f x122000 x122001 x122002 16).bind fun bt147 => (if bt147.1 = true then (spec_DrawUnwrapCounts.j2 k x5 x6 (decide ((x6.length : Int) > 0)) x122000 bt147.2.1 bt147.2.2) else (spec_DrawUnwrapCounts.j2 k x5 x6 false x122000 bt147.2.1 bt147.2.2)))
def spec_DrawUnwrapCounts.j2 : Nat → Int → List Int → Bool → List Int → Int → Int → Option (List Int × Int)
  | 0, _, _, _, _, _, _ => none
  | k + 1, x5, x6, x53, x122000, x122001, x122002 => if x53 = true then ((spec_l1Cur_pick.f x122000 x122001 x122002 (x6.length : Int)).bind fun bt150 => ((spec_l1Cur_among.f x122000 bt150.2.1 bt150.2.2 (([(-1), x5, wrap64 (x5 - 1)] : List Int))).bind fun bt156 => (if 0 ≤ bt150.1 then (if bt150.1 < (x6.length : Int) then (some ((x6.set (bt150.1 : Int).toNat bt156.1), x5)) else (none)) else (none)))) else (some (x6, x5))
end
def spec_DrawUnwrapCounts.f (k : Nat) (l0 : List Int) : Option (List Int × Int) := (spec_l1Cur_size.f l0 0 0).bind fun bt122 => ((spec_l1Cur_pick.f l0 bt122.2.1 bt122.2.2 12).bind fun bt125 => ((spec_l1Cur_one.f l0 bt125.2.1 bt125.2.2 16).bind fun bt128 => (if bt128.1 = true then ((spec_l1Cur_pick.f l0 bt128.2.1 bt128.2.2 3).bind fun bt131 => (spec_DrawUnwrapCounts.j0 k bt122.1 ([] : List Int) (wrap64 (59 + bt131.1)) l0 bt131.2.1 bt131.2.2)) else (spec_DrawUnwrapCounts.j0 k bt122.1 ([] : List Int) bt125.1 l0 bt128.2.1 bt128.2.2))))
theorem spec_DrawUnwrapCounts.mono_l : ∀ k, (∀ y0 y1 y2 y3 y4 y5, LeO (spec_DrawUnwrapCounts.j0 k y0 y1 y2 y3 y4 y5) (spec_DrawUnwrapCounts.j0 (k + 1) y0 y1 y2 y3 y4 y5)) ∧ (∀ y0 y1 y2 y3 y4 y5 y6, LeO (spec_DrawUnwrapCounts.l0 k y0 y1 y2 y3 y4 y5 y6) (spec_DrawUnwrapCounts.l0 (k + 1) y0 y1 y2 y3 y4 y5 y6)) ∧ (∀ y0 y1 y2 y3 y4 y5, LeO (spec_DrawUnwrapCounts.j2 k y0 y1 y2 y3 y4 y5) (spec_DrawUnwrapCounts.j2 (k + 1) y0 y1 y2 y3 y4 y5))
  | 0 => ⟨fun _ _ _ _ _ _ r h => by simp [spec_DrawUnwrapCounts.j0] at h, fun _ _ _ _ _ _ _ r h => by simp [spec_DrawUnwrapCounts.l0] at h, fun _ _ _ _ _ _ r h => by simp [spec_DrawUnwrapCounts.j2] at h⟩
  | k + 1 => by
    obtain ⟨ih0, ih1, ih2⟩ := spec_DrawUnwrapCounts.mono_l k
    refine ⟨?_, ?_, ?_⟩
    · intro y0 y1 y2 y3 y4 y5
      unfold spec_DrawUnwrapCounts.j0
      repeat' first | (with_reducible first | exact ih0 _ _ _ _ _ _ | exact ih1 _ _ _ _ _ _ _ | exact ih2 _ _ _ _ _ _ | exact LeO.refl _ | exact LeO.none _ | refine LeO.ite ?_ ?_ | refine LeO.bind ?_ (fun _ => ?_)) | exact ih0 _ _ _ _ _ _ | exact ih1 _ _ _ _ _ _ _ | exact ih2 _ _ _ _ _ _ | exact LeO.none _ | refine LeO.ite ?_ ?_ | refine LeO.bind ?_ (fun _ => ?_)
    · intro y0 y1 y2 y3 y4 y5 y6
      unfold spec_DrawUnwrapCounts.l0
      repeat' first | (with_reducible first | exact ih0 _ _ _ _ _ _ | exact ih1 _ _ _ _ _ _ _ | exact ih2 _ _ _ _ _ _ | exact LeO.refl _ | exact LeO.none _ | refine LeO.ite ?_ ?_ | refine LeO.bind ?_ (fun _ => ?_)) | exact ih0 _ _ _ _ _ _ | exact ih1 _ _ _ _ _ _ _ | exact ih2 _ _ _ _ _ _ | exact LeO.none _ | refine LeO.ite ?_ ?_ | refine LeO.bind ?_ (fun _ => ?_)
    · intro y0 y1 y2 y3 y4 y5
      unfold spec_DrawUnwrapCounts.j2
      repeat' first | (with_reducible first | exact ih0 _ _ _ _ _ _ | exact ih1 _ _ _ _ _ _ _ | exact ih2 _ _ _ _ _ _ | exact LeO.refl _ | exact LeO.none _ | refine LeO.ite ?_ ?_ | refine LeO.bind ?_ (fun _ => ?_)) | exact ih0 _ _ _ _ _ _ | exact ih1 _ _ _ _ _ _ _ | exact ih2 _ _ _ _ _ _ | exact LeO.none _ | refine LeO.ite ?_ ?_ | refine LeO.bind ?_ (fun _ => ?_)
theorem spec_DrawUnwrapCounts.mono : ∀ a0 k, LeO (spec_DrawUnwrapCounts.f k a0) (spec_DrawUnwrapCounts.f (k + 1) a0) := by
  intro a0 k
  obtain ⟨ih0, ih1, ih2⟩ := spec_DrawUnwrapCounts.mono_l k
  unfold spec_DrawUnwrapCounts.f
  repeat' first | (with_reducible first | exact ih0 _ _ _ _ _ _ | exact ih1 _ _ _ _ _ _ _ | exact ih2 _ _ _ _ _ _ | exact LeO.refl _ | exact LeO.none _ | refine LeO.ite ?_ ?_ | refine LeO.bind ?_ (fun _ => ?_)) | exact ih0 _ _ _ _ _ _ | exact ih1 _ _ _ _ _ _ _ | exact ih2 _ _ _ _ _ _ | exact LeO.none _ | refine LeO.ite ?_ ?_ | refine LeO.bind ?_ (fun _ => ?_)

/-! ### impl_goodSize: function 56 -/
def impl_goodSize.f (a0 : Int) : Option (Bool) := if a0 ≥ 2 then (some (decide (a0 ≤ 1000000))) else (some false)

/-! ### impl_wrap: function 57 -/
def impl_wrap.f (a0 : Int) (a1 : Int) : Option (Int) := if a1 = 0 then (none) else (some (Int.tmod (wrap64 ((Int.tmod a0 a1) + a1)) a1))

/-! ### impl_UnwrapCounts: function 18 -/
mutual
def impl_UnwrapCounts.j0 : Nat → List Int → Int → Bool → Option (List Int × Bool)
  | 0, _, _, _ => none
  | k + 1, x0, x1, x22 => if x22 = true then (some (([] : List Int), false)) else (impl_UnwrapCounts.l0 k x1 ([] : List Int) x0 (x0.length : Int) 0)
def impl_UnwrapCounts.l0 : Nat → Int → List Int → List Int → Int → Int → Option (List Int × Bool)
  | 0, _, _, _, _, _ => none
  | k + 1, x1, x6, x23, x24, x25 => if x25 < x24 then (if 0 ≤ x25 then (if x25 < (x23.length : Int) then (if (rd x23 x25) < 0 then (impl_UnwrapCounts.j2 k x1 x6 x25 (rd x23 x25) x23 x24 x25 true) else (impl_UnwrapCounts.j2 k x1 x6 x25 (rd x23 x25) x23 x24 x25 (decide ((rd x23 x25) ≥ x1)))) else (none)) else (none)) else (some (x6, true))
def impl_UnwrapCounts.j2 : Nat → Int → List Int → Int → Int → List Int → Int → Int → Bool → Option (List Int × Bool)
  | 0, _, _, _, _, _, _, _, _ => none
  | k + 1, x1, x6, x7, x8, x23, x24, x25, x36 => if x36 = true then (some (([] : List Int), false)) else (if x7 = 0 then (if x6.length < 17592186044416 then (impl_UnwrapCounts.l0 k x1 (x6 ++ [x8]) x23 x24 (wrap64 (x25 + 1))) else (none)) else (if 0 ≤ (wrap64 (x7 - 1)) then (if (wrap64 (x7 - 1)) < (x6.length : Int) then ((impl_wrap.f (wrap64 (x8 - (rd x6 (wrap64 (x7 - 1))))) x1).bind fun t166 => (if (wrap64 (2 * t166)) > x1 then (if x6.length < 17592186044416 then (impl_UnwrapCounts.l0 k x1 (x6 ++ [wrap64 ((rd x6 (wrap64 (x7 - 1))) + (wrap64 (t166 - x1)))]) x23 x24 (wrap64 (x25 + 1))) else (none)) else (if x6.length < 17592186044416 then (impl_UnwrapCounts.l0 k x1 (x6 ++ [wrap64 ((rd x6 (wrap64 (x7 - 1))) + t166)]) x23 x24 (wrap64 (x25 + 1))) else (none)))) else (none)) else (none)))
end
def impl_UnwrapCounts.f (k : Nat) (l0 : List Int) (a1 : Int) : Option (List Int × Bool) := if (l0.length : Int) < 1 then (impl_UnwrapCounts.j0 k l0 a1 true) else (if (l0.length : Int) > 60 then (impl_UnwrapCounts.j0 k l0 a1 true) else ((impl_goodSize.f a1).bind fun t160 => (impl_UnwrapCounts.j0 k l0 a1 (!t160))))
theorem impl_UnwrapCounts.mono_l : ∀ k, (∀ y0 y1 y2, LeO (impl_UnwrapCounts.j0 k y0 y1 y2) (impl_UnwrapCounts.j0 (k + 1) y0 y1 y2)) ∧ (∀ y0 y1 y2 y3 y4, LeO (impl_UnwrapCounts.l0 k y0 y1 y2 y3 y4) (impl_UnwrapCounts.l0 (k + 1) y0 y1 y2 y3 y4)) ∧ (∀ y0 y1 y2 y3 y4 y5 y6 y7, LeO (impl_UnwrapCounts.j2 k y0 y1 y2 y3 y4 y5 y6 y7) (impl_UnwrapCounts.j2 (k + 1) y0 y1 y2 y3 y4 y5 y6 y7))
  | 0 => ⟨fun _ _ _ r h => by simp [impl_UnwrapCounts.j0] at h, fun _ _ _ _ _ r h => by simp [impl_UnwrapCounts.l0] at h, fun _ _ _ _ _ _ _ _ r h => by simp [impl_UnwrapCounts.j2] at h⟩
  | k + 1 => by
    obtain ⟨ih0, ih1, ih2⟩ := impl_UnwrapCounts.mono_l k
    refine ⟨?_, ?_, ?_⟩
    · intro y0 y1 y2
      unfold impl_UnwrapCounts.j0
      repeat' first | (with_reducible first | exact ih0 _ _ _ | exact ih1 _ _ _ _ _ | exact ih2 _ _ _ _ _ _ _ _ | exact LeO.refl _ | exact LeO.none _ | refine LeO.ite ?_ ?_ | refine LeO.bind ?_ (fun _ => ?_)) | exact ih0 _ _ _ | exact ih1 _ _ _ _ _ | exact ih2 _ _ _ _ _ _ _ _ | exact LeO.none _ | refine LeO.ite ?_ ?_ | refine LeO.bind ?_ (fun _ => ?_)
    · intro y0 y1 y2 y3 y4
      unfold impl_UnwrapCounts.l0
      repeat' first | (with_reducible first | exact ih0 _ _ _ | exact ih1 _ _ _ _ _ | exact ih2 _ _ _ _ _ _ _ _ | exact LeO.refl _ | exact LeO.none _ | refine LeO.ite ?_ ?_ | refine LeO.bind ?_ (fun _ => ?_)) | exact ih0 _ _ _ | exact ih1 _ _ _ _ _ | exact ih2 _ _ _ _ _ _ _ _ | exact LeO.none _ | refine LeO.ite ?_ ?_ | refine LeO.bind ?_ (fun _ => ?_)
    · intro y0 y1 y2 y3 y4 y5 y6 y7
      unfold impl_UnwrapCounts.j2
      repeat' first | (with_reducible first | exact ih0 _ _ _ | exact ih1 _ _ _ _ _ | exact ih2 _ _ _ _ _ _ _ _ | exact LeO.refl _ | exact LeO.none _ | refine LeO.ite ?_ ?_ | refine LeO.bind ?_ (fun _ => ?_)) | exact ih0 _ _ _ | exact ih1 _ _ _ _ _ | exact ih2 _ _ _ _ _ _ _ _ | exact LeO.none _ | refine LeO.ite ?_ ?_ | refine LeO.bind ?_ (fun _ => ?_)
theorem impl_UnwrapCounts.mono : ∀ a0 a1 k, LeO (impl_UnwrapCounts.f k a0 a1) (impl_UnwrapCounts.f (k + 1) a0 a1) := by
  intro a0 a1 k
  obtain ⟨ih0, ih1, ih2⟩ := impl_UnwrapCounts.mono_l k
  unfold impl_UnwrapCounts.f
  repeat' first | (with_reducible first | exact ih0 _ _ _ | exact ih1 _ _ _ _ _ | exact ih2 _ _ _ _ _ _ _ _ | exact LeO.refl _ | exact LeO.none _ | refine LeO.ite ?_ ?_ | refine LeO.bind ?_ (fun _ => ?_)) | exact ih0 _ _ _ | exact ih1 _ _ _ _ _ | exact ih2 _ _ _ _ _ _ _ _ | exact LeO.none _ | refine LeO.ite ?_ ?_ | refine LeO.bind ?_ (fun _ => ?_)

/-! ### spec_l8Size: function 58 -/
def spec_l8Size.f (a0 : Int) : Option (Bool) := if a0 ≥ 2 then (some (decide (a0 ≤ 1000000))) else (some false)

/-! ### spec_UnwrapCounts: function 19 -/
mutual
def spec_UnwrapCounts.j0 : Nat → List Int → Int → Bool → Option (List Int × Bool)
  | 0, _, _, _ => none
  | k + 1, x0, x1, x22 => if x22 = true then (some (([] : List Int), false)) else (spec_UnwrapCounts.l0 k x0 x1 ([] : List Int) x0 (x0.length : Int) 0)
def spec_UnwrapCounts.l0 : Nat → List Int → Int → List Int → List Int → Int → Int → Option (List Int × Bool)
  | 0, _, _, _, _, _, _ => none
  | k + 1, x0, x1, x6, x23, x24, x25 => if x25 < x24 then (if 0 ≤ x25 then (if x25 < (x23.length : Int) then (if (rd x23 x25) < 0 then (spec_UnwrapCounts.j2 k x0 x1 x6 x25 (rd x23 x25) x23 x24 x25 true) else (spec_UnwrapCounts.j2 k x0 x1 x6 x25 (rd x23 x25) x23 x24 x25 (decide ((rd x23 x25) ≥ x1)))) else (none)) else (none)) else (some (x6, true))
def spec_UnwrapCounts.j2 : Nat → List Int → Int → List Int → Int → Int → List Int → Int → Int → Bool → Option (List Int × Bool)
  | 0, _, _, _, _, _, _, _, _, _ => none
  | k + 1, x0, x1, x6, x7, x8, x23, x24, x25, x36 => if x36 = true then (some (([] : List Int), false)) else (if x7 = 0 then (if x6.length < 17592186044416 then (spec_UnwrapCounts.l0 k x0 x1 (x6 ++ [x8]) x23 x24 (wrap64 (x25 + 1))) else (none)) else (if 0 ≤ (wrap64 (x7 - 1)) then (if (wrap64 (x7 - 1)) < (x0.length : Int) then ((spec_l8Mod.f (wrap64 (x8 - (rd x0 (wrap64 (x7 - 1))))) x1).bind fun t181 => (if (wrap64 (2 * t181)) > x1 then (if (wrap64 (x7 - 1)) < (x6.length : Int) then (if x6.length < 17592186044416 then (spec_UnwrapCounts.l0 k x0 x1 (x6 ++ [wrap64 ((rd x6 (wrap64 (x7 - 1))) + (wrap64 (t181 - x1)))]) x23 x24 (wrap64 (x25 + 1))) else (none)) else (none)) else (if (wrap64 (x7 - 1)) < (x6.length : Int) then (if x6.length < 17592186044416 then (spec_UnwrapCounts.l0 k x0 x1 (x6 ++ [wrap64 ((rd x6 (wrap64 (x7 - 1))) + t181)]) x23 x24 (wrap64 (x25 + 1))) else (none)) else (none)))) else (none)) else (none)))
end
def spec_UnwrapCounts.f (k : Nat) (l0 : List Int) (a1 : Int) : Option (List Int × Bool) := (spec_l8Size.f a1).bind fun t175 => (if t175 = true then (if (l0.length : Int) < 1 then (spec_UnwrapCounts.j0 k l0 a1 true) else (spec_UnwrapCounts.j0 k l0 a1 (decide ((l0.length : Int) > 60)))) else (spec_UnwrapCounts.j0 k l0 a1 true))
theorem spec_UnwrapCounts.mono_l : ∀ k, (∀ y0 y1 y2, LeO (spec_UnwrapCounts.j0 k y0 y1 y2) (spec_UnwrapCounts.j0 (k + 1) y0 y1 y2)) ∧ (∀ y0 y1 y2 y3 y4 y5, LeO (spec_UnwrapCounts.l0 k y0 y1 y2 y3 y4 y5) (spec_UnwrapCounts.l0 (k + 1) y0 y1 y2 y3 y4 y5)) ∧ (∀ y0 y1 y2 y3 y4 y5 y6 y7 y8, LeO (spec_UnwrapCounts.j2 k y0 y1 y2 y3 y4 y5 y6 y7 y8) (spec_UnwrapCounts.j2 (k + 1) y0 y1 y2 y3 y4 y5 y6 y7 y8))
  | 0 => ⟨fun _ _ _ r h => by simp [spec_UnwrapCounts.j0] at h, fun _ _ _ _ _ _ r h => by simp [spec_UnwrapCounts.l0] at h, fun _ _ _ _ _ _ _ _ _ r h => by simp [spec_UnwrapCounts.j2] at h⟩
  | k + 1 => by
    obtain ⟨ih0, ih1, ih2⟩ := spec_UnwrapCounts.mono_l k
    refine ⟨?_, ?_, ?_⟩
    · intro y0 y1 y2
      unfold spec_UnwrapCounts.j0
      repeat' first | (with_reducible first | exact ih0 _ _ _ | exact ih1 _ _ _ _ _ _ | exact ih2 _ _ _ _ _ _ _ _ _ | exact LeO.refl _ | exact LeO.none _ | refine LeO.ite ?_ ?_ | refine LeO.bind ?_ (fun _ => ?_)) | exact ih0 _ _ _ | exact ih1 _ _ _ _ _ _ | exact ih2 _ _ _ _ _ _ _ _ _ | exact LeO.none _ | refine LeO.ite ?_ ?_ | refine LeO.bind ?_ (fun _ => ?_)
    · intro y0 y1 y2 y3 y4 y5
      unfold spec_UnwrapCounts.l0
      repeat' first | (with_reducible first | exact ih0 _ _ _ | exact ih1 _ _ _ _ _ _ | exact ih2 _ _ _ _ _ _ _ _ _ | exact LeO.refl _ | exact LeO.none _ | refine LeO.ite ?_ ?_ | refine LeO.bind ?_ (fun _ => ?_)) | exact ih0 _ _ _ | exact ih1 _ _ _ _ _ _ | exact ih2 _ _ _ _ _ _ _ _ _ | exact LeO.none _ | refine LeO.ite ?_ ?_ | refine LeO.bind ?_ (fun _ => ?_)
    · intro y0 y1 y2 y3 y4 y5 y6 y7 y8
      unfold spec_UnwrapCounts.j2
      repeat' first | (with_reducible first | exact ih0 _ _ _ | exact ih1 _ _ _ _ _ _ | exact ih2 _ _ _ _ _ _ _ _ _ | exact LeO.refl _ | exact LeO.none _ | refine LeO.ite ?_ ?_ | refine LeO.bind ?_ (fun _ => ?_)) | exact ih0 _ _ _ | exact ih1 _ _ _ _ _ _ | exact ih2 _ _ _ _ _ _ _ _ _ | exact LeO.none _ | refine LeO.ite ?_ ?_ | refine LeO.bind ?_ (fun _ => ?_)
theorem spec_UnwrapCounts.mono : ∀ a0 a1 k, LeO (spec_UnwrapCounts.f k a0 a1) (spec_UnwrapCounts.f (k + 1) a0 a1) := by
  intro a0 a1 k
  obtain ⟨ih0, ih1, ih2⟩ := spec_UnwrapCounts.mono_l k
  unfold spec_UnwrapCounts.f
  repeat' first | (with_reducible first | exact ih0 _ _ _ | exact ih1 _ _ _ _ _ _ | exact ih2 _ _ _ _ _ _ _ _ _ | exact LeO.refl _ | exact LeO.none _ | refine LeO.ite ?_ ?_ | refine LeO.bind ?_ (fun _ => ?_)) | exact ih0 _ _ _ | exact ih1 _ _ _ _ _ _ | exact ih2 _ _ _ _ _ _ _ _ _ | exact LeO.none _ | refine LeO.ite ?_ ?_ | refine LeO.bind ?_ (fun _ => ?_)

/-! ### impl_within: function 59 -/
def impl_within.f (a0 : Int) (a1 : Int) : Option (Bool) := if a0 ≥ (wrap64 (-a1)) then (some (decide (a0 ≤ a1))) else (some false)

/-! ### impl_WrapCount: function 20 -/
def impl_WrapCount.f (a0 : Int) (a1 : Int) : Option (Int) := (impl_within.f a0 1000000000000).bind fun t190 => (if t190 = true then ((impl_goodSize.f a1).bind fun t191 => (if t191 = true then ((impl_wrap.f a0 a1).bind fun t192 => (some t192)) else (some 0))) else (some 0))

/-! ### laws_FnUnwrap: function 4 -/
def laws_FnUnwrap.l0 : Nat → List Int → Int → List Int → Int → Int → Option (Bool)
  | 0, _, _, _, _, _ => none
  | k + 1, x3, x4, x5, x41, x42 => if x42 < x41 then (if 0 ≤ x42 then (if x42 < (x5.length : Int) then ((impl_WrapCount.f (rd x5 x42) x4).bind fun t206 => (if x42 < (x3.length : Int) then (if t206 = (rd x3 x42) then (if x42 > 0 then (if 0 ≤ (wrap64 (x42 - 1)) then (if (wrap64 (x42 - 1)) < (x5.length : Int) then (if (wrap64 (2 * (wrap64 ((rd x5 x42) - (rd x5 (wrap64 (x42 - 1))))))) > x4 then (some false) else (if (wrap64 (2 * (wrap64 ((rd x5 x42) - (rd x5 (wrap64 (x42 - 1))))))) ≤ (wrap64 (-x4)) then (some false) else (laws_FnUnwrap.l0 k x3 x4 x5 x41 (wrap64 (x42 + 1))))) else (none)) else (none)) else (laws_FnUnwrap.l0 k x3 x4 x5 x41 (wrap64 (x42 + 1)))) else (some false)) else (none))) else (none)) else (none)) else (some true)
def laws_FnUnwrap.f (k : Nat) (l0 : List Int) : Option (Bool) := if (l0.length : Int) > 1048576 then (some true) else ((spec_DrawUnwrapCounts.f k l0).bind fun bt193 => ((impl_UnwrapCounts.f k bt193.1 bt193.2).bind fun bt197 => ((spec_UnwrapCounts.f k bt193.1 bt193.2).bind fun bt201 => (if (bt197.2 != bt201.2) = true then (some false) else (if bt197.2 = true then (if (bt197.1.length : Int) = (bt193.1.length : Int) then (laws_FnUnwrap.l0 k bt193.1 bt193.2 bt197.1 (bt197.1.length : Int) 0) else (some false)) else (some true))))))
theorem laws_FnUnwrap.mono_l : ∀ k, (∀ y0 y1 y2 y3 y4, LeO (laws_FnUnwrap.l0 k y0 y1 y2 y3 y4) (laws_FnUnwrap.l0 (k + 1) y0 y1 y2 y3 y4))
  | 0 => fun _ _ _ _ _ r h => by simp [laws_FnUnwrap.l0] at h
  | k + 1 => by
    have ih0 := laws_FnUnwrap.mono_l k
    · intro y0 y1 y2 y3 y4
      unfold laws_FnUnwrap.l0
      repeat' first | (with_reducible first | exact ih0 _ _ _ _ _ | exact impl_UnwrapCounts.mono _ _ _ | exact spec_DrawUnwrapCounts.mono _ _ | exact spec_UnwrapCounts.mono _ _ _ | exact LeO.refl _ | exact LeO.none _ | refine LeO.ite ?_ ?_ | refine LeO.bind ?_ (fun _ => ?_)) | exact ih0 _ _ _ _ _ | exact impl_UnwrapCounts.mono _ _ _ | exact spec_DrawUnwrapCounts.mono _ _ | exact spec_UnwrapCounts.mono _ _ _ | exact LeO.none _ | refine LeO.ite ?_ ?_ | refine LeO.bind ?_ (fun _ => ?_)
theorem laws_FnUnwrap.mono : ∀ a0 k, LeO (laws_FnUnwrap.f k a0) (laws_FnUnwrap.f (k + 1) a0) := by
  intro a0 k
  have ih0 := laws_FnUnwrap.mono_l k
  unfold laws_FnUnwrap.f
  repeat' first | (with_reducible first | exact ih0 _ _ _ _ _ | exact impl_UnwrapCounts.mono _ _ _ | exact spec_DrawUnwrapCounts.mono _ _ | exact spec_UnwrapCounts.mono _ _ _ | exact LeO.refl _ | exact LeO.none _ | refine LeO.ite ?_ ?_ | refine LeO.bind ?_ (fun _ => ?_)) | exact ih0 _ _ _ _ _ | exact impl_UnwrapCounts.mono _ _ _ | exact spec_DrawUnwrapCounts.mono _ _ | exact spec_UnwrapCounts.mono _ _ _ | exact LeO.none _ | refine LeO.ite ?_ ?_ | refine LeO.bind ?_ (fun _ => ?_)

/-! ### laws_eqIntS: function 26 -/
def laws_eqIntS.l0 : Nat → List Int → List Int → Int → Option (Bool)
  | 0, _, _, _ => none
  | k + 1, x0, x1, x5 => if x5 < (x0.length : Int) then (if 0 ≤ x5 then (if x5 < (x1.length : Int) then (if (rd x0 x5) = (rd x1 x5) then (laws_eqIntS.l0 k x0 x1 (wrap64 (x5 + 1))) else (some false)) else (none)) else (none)) else (some true)
def laws_eqIntS.f (k : Nat) (l0 : List Int) (l1 : List Int) : Option (Bool) := if (l0.length : Int) = (l1.length : Int) then (laws_eqIntS.l0 k l0 l1 0) else (some false)
theorem laws_eqIntS.mono_l : ∀ k, (∀ y0 y1 y2, LeO (laws_eqIntS.l0 k y0 y1 y2) (laws_eqIntS.l0 (k + 1) y0 y1 y2))
  | 0 => fun _ _ _ r h => by simp [laws_eqIntS.l0] at h
  | k + 1 => by
    have ih0 := laws_eqIntS.mono_l k
    · intro y0 y1 y2
      unfold laws_eqIntS.l0
      repeat' first | (with_reducible first | exact ih0 _ _ _ | exact LeO.refl _ | exact LeO.none _ | refine LeO.ite ?_ ?_ | refine LeO.bind ?_ (fun _ => ?_)) | exact ih0 _ _ _ | exact LeO.none _ | refine LeO.ite ?_ ?_ | refine LeO.bind ?_ (fun _ => ?_)
theorem laws_eqIntS.mono : ∀ a0 a1 k, LeO (laws_eqIntS.f k a0 a1) (laws_eqIntS.f (k + 1) a0 a1) := by
  intro a0 a1 k
  have ih0 := laws_eqIntS.mono_l k
  unfold laws_eqIntS.f
  repeat' first | (with_reducible first | exact ih0 _ _ _ | exact LeO.refl _ | exact LeO.none _ | refine LeO.ite ?_ ?_ | refine LeO.bind ?_ (fun _ => ?_)) | exact ih0 _ _ _ | exact LeO.none _ | refine LeO.ite ?_ ?_ | refine LeO.bind ?_ (fun _ => ?_)

/-! ### laws_eqIntSS: function 27 -/
def laws_eqIntSS.l0 : Nat → List (List Int) → List (List Int) → Int → Option (Bool)
  | 0, _, _, _ => none
  | k + 1, x0, x1, x5 => if x5 < (x0.length : Int) then (if 0 ≤ x5 then (if x5 < (x1.length : Int) then ((laws_eqIntS.f k (rd_L2 x0 x5) (rd_L2 x1 x5)).bind fun t216 => (if t216 = true then (laws_eqIntSS.l0 k x0 x1 (wrap64 (x5 + 1))) else (some false))) else (none)) else (none)) else (some true)
def laws_eqIntSS.f (k : Nat) (l0 : List (List Int)) (l1 : List (List Int)) : Option (Bool) := if (l0.length : Int) = (l1.length : Int) then (laws_eqIntSS.l0 k l0 l1 0) else (some false)
theorem laws_eqIntSS.mono_l : ∀ k, (∀ y0 y1 y2, LeO (laws_eqIntSS.l0 k y0 y1 y2) (laws_eqIntSS.l0 (k + 1) y0 y1 y2))
  | 0 => fun _ _ _ r h => by simp [laws_eqIntSS.l0] at h
  | k + 1 => by
    have ih0 := laws_eqIntSS.mono_l k
    · intro y0 y1 y2
      unfold laws_eqIntSS.l0
      repeat' first | (with_reducible first | exact ih0 _ _ _ | exact laws_eqIntS.mono _ _ _ | exact LeO.refl _ | exact LeO.none _ | refine LeO.ite ?_ ?_ | refine LeO.bind ?_ (fun _ => ?_)) | exact ih0 _ _ _ | exact laws_eqIntS.mono _ _ _ | exact LeO.none _ | refine LeO.ite ?_ ?_ | refine LeO.bind ?_ (fun _ => ?_)
theorem laws_eqIntSS.mono : ∀ a0 a1 k, LeO (laws_eqIntSS.f k a0 a1) (laws_eqIntSS.f (k + 1) a0 a1) := by
  intro a0 a1 k
  have ih0 := laws_eqIntSS.mono_l k
  unfold laws_eqIntSS.f
  repeat' first | (with_reducible first | exact ih0 _ _ _ | exact laws_eqIntS.mono _ _ _ | exact LeO.refl _ | exact LeO.none _ | refine LeO.ite ?_ ?_ | refine LeO.bind ?_ (fun _ => ?_)) | exact ih0 _ _ _ | exact laws_eqIntS.mono _ _ _ | exact LeO.none _ | refine LeO.ite ?_ ?_ | refine LeO.bind ?_ (fun _ => ?_)

/-! ### laws_markIntS: function 29 -/
def laws_markIntS.l0 : Nat → List Int → Int → Int → Option (Int × List Int)
  | 0, _, _, _ => none
  | k + 1, x0, x1, x5 => if x5 < (x0.length : Int) then (if 0 ≤ x5 then (laws_markIntS.l0 k (x0.set (x5 : Int).toNat x1) (wrap64 (x1 + 1)) (wrap64 (x5 + 1))) else (none)) else (some (x1, x0))
def laws_markIntS.f (k : Nat) (l0 : List Int) (a1 : Int) : Option (Int × List Int) := laws_markIntS.l0 k l0 a1 0
theorem laws_markIntS.mono_l : ∀ k, (∀ y0 y1 y2, LeO (laws_markIntS.l0 k y0 y1 y2) (laws_markIntS.l0 (k + 1) y0 y1 y2))
  | 0 => fun _ _ _ r h => by simp [laws_markIntS.l0] at h
  | k + 1 => by
    have ih0 := laws_markIntS.mono_l k
    · intro y0 y1 y2
      unfold laws_markIntS.l0
      repeat' first | (with_reducible first | exact ih0 _ _ _ | exact LeO.refl _ | exact LeO.none _ | refine LeO.ite ?_ ?_ | refine LeO.bind ?_ (fun _ => ?_)) | exact ih0 _ _ _ | exact LeO.none _ | refine LeO.ite ?_ ?_ | refine LeO.bind ?_ (fun _ => ?_)
theorem laws_markIntS.mono : ∀ a0 a1 k, LeO (laws_markIntS.f k a0 a1) (laws_markIntS.f (k + 1) a0 a1) := by
  intro a0 a1 k
  have ih0 := laws_markIntS.mono_l k
  unfold laws_markIntS.f
  repeat' first | (with_reducible first | exact ih0 _ _ _ | exact LeO.refl _ | exact LeO.none _ | refine LeO.ite ?_ ?_ | refine LeO.bind ?_ (fun _ => ?_)) | exact ih0 _ _ _ | exact LeO.none _ | refine LeO.ite ?_ ?_ | refine LeO.bind ?_ (fun _ => ?_)

/-! ### laws_szStateS: function 64 -/
def laws_szStateS.f (l0 : List (S101)) (a1 : Int) : Option (Int) := if (wrap64 (a1 - (l0.length : Int))) < 0 then (some (-1)) else (some (wrap64 (a1 - (l0.length : Int))))

/-! ### laws_szArrowS: function 65 -/
def laws_szArrowS.f (l0 : List (S103)) (a1 : Int) : Option (Int) := if (wrap64 (a1 - (l0.length : Int))) < 0 then (some (-1)) else (some (wrap64 (a1 - (l0.length : Int))))

/-! ### laws_szChart: function 31 -/
def laws_szChart.f (l0_0 : List (S101)) (l0_1 : List (S103)) (a1 : Int) : Option (Int) := (laws_szStateS.f l0_0 a1).bind fun t220 => (if t220 < 0 then (some (-1)) else ((laws_szArrowS.f l0_1 t220).bind fun t221 => (if t221 < 0 then (some (-1)) else (some t221))))

/-! ### laws_toState: function 80 -/
def laws_toState.f (a0_0 : Int) (a0_1 : Int) : Option (Int × Int) := some (a0_0, a0_1)

/-! ### laws_toStateS: function 66 -/
def laws_toStateS.l0 : Nat → List (S101) → List (S88) → Int → Option ((List (S88)))
  | 0, _, _, _ => none
  | k + 1, x0, x3, x4 => if x4 < (x0.length : Int) then (if 0 ≤ x4 then ((laws_toState.f ((rd_T101 x0 x4).f0) ((rd_T101 x0 x4).f1)).bind fun bt229 => (if x4 < (x3.length : Int) then (laws_toStateS.l0 k x0 (x3.set (x4 : Int).toNat (⟨bt229.1, bt229.2⟩ : S88)) (wrap64 (x4 + 1))) else (none))) else (none)) else (some x3)
def laws_toStateS.f (k : Nat) (l0 : List (S101)) : Option ((List (S88))) := if 0 ≤ (l0.length : Int) then (if ((l0.length : Int) : Int).toNat ≤ 17592186044416 then (laws_toStateS.l0 k l0 (List.replicate ((l0.length : Int) : Int).toNat z88) 0) else (none)) else (none)
theorem laws_toStateS.mono_l : ∀ k, (∀ y0 y1 y2, LeO (laws_toStateS.l0 k y0 y1 y2) (laws_toStateS.l0 (k + 1) y0 y1 y2))
  | 0 => fun _ _ _ r h => by simp [laws_toStateS.l0] at h
  | k + 1 => by
    have ih0 := laws_toStateS.mono_l k
    · intro y0 y1 y2
      unfold laws_toStateS.l0
      repeat' first | (with_reducible first | exact ih0 _ _ _ | exact LeO.refl _ | exact LeO.none _ | refine LeO.ite ?_ ?_ | refine LeO.bind ?_ (fun _ => ?_)) | exact ih0 _ _ _ | exact LeO.none _ | refine LeO.ite ?_ ?_ | refine LeO.bind ?_ (fun _ => ?_)
theorem laws_toStateS.mono : ∀ a0 k, LeO (laws_toStateS.f k a0) (laws_toStateS.f (k + 1) a0) := by
  intro a0 k
  have ih0 := laws_toStateS.mono_l k
  unfold laws_toStateS.f
  repeat' first | (with_reducible first | exact ih0 _ _ _ | exact LeO.refl _ | exact LeO.none _ | refine LeO.ite ?_ ?_ | refine LeO.bind ?_ (fun _ => ?_)) | exact ih0 _ _ _ | exact LeO.none _ | refine LeO.ite ?_ ?_ | refine LeO.bind ?_ (fun _ => ?_)

/-! ### laws_toArrow: function 81 -/
def laws_toArrow.f (a0_0 : Int) (a0_1 : Int) (a0_2 : Int) : Option (Int × Int × Int) := some (a0_0, a0_1, a0_2)

/-! ### laws_toArrowS: function 67 -/
def laws_toArrowS.l0 : Nat → List (S103) → List (S90) → Int → Option ((List (S90)))
  | 0, _, _, _ => none
  | k + 1, x0, x3, x4 => if x4 < (x0.length : Int) then (if 0 ≤ x4 then ((laws_toArrow.f ((rd_T103 x0 x4).f0) ((rd_T103 x0 x4).f1) ((rd_T103 x0 x4).f2)).bind fun bt239 => (if x4 < (x3.length : Int) then (laws_toArrowS.l0 k x0 (x3.set (x4 : Int).toNat (⟨bt239.1, bt239.2.1, bt239.2.2⟩ : S90)) (wrap64 (x4 + 1))) else (none))) else (none)) else (some x3)
def laws_toArrowS.f (k : Nat) (l0 : List (S103)) : Option ((List (S90))) := if 0 ≤ (l0.length : Int) then (if ((l0.length : Int) : Int).toNat ≤ 11728124029610 then (laws_toArrowS.l0 k l0 (List.replicate ((l0.length : Int) : Int).toNat z90) 0) else (none)) else (none)
theorem laws_toArrowS.mono_l : ∀ k, (∀ y0 y1 y2, LeO (laws_toArrowS.l0 k y0 y1 y2) (laws_toArrowS.l0 (k + 1) y0 y1 y2))
  | 0 => fun _ _ _ r h => by simp [laws_toArrowS.l0] at h
  | k + 1 => by
    have ih0 := laws_toArrowS.mono_l k
    · intro y0 y1 y2
      unfold laws_toArrowS.l0
      repeat' first | (with_reducible first | exact ih0 _ _ _ | exact LeO.refl _ | exact LeO.none _ | refine LeO.ite ?_ ?_ | refine LeO.bind ?_ (fun _ => ?_)) | exact ih0 _ _ _ | exact LeO.none _ | refine LeO.ite ?_ ?_ | refine LeO.bind ?_ (fun _ => ?_)
theorem laws_toArrowS.mono : ∀ a0 k, LeO (laws_toArrowS.f k a0) (laws_toArrowS.f (k + 1) a0) := by
  intro a0 k
  have ih0 := laws_toArrowS.mono_l k
  unfold laws_toArrowS.f
  repeat' first | (with_reducible first | exact ih0 _ _ _ | exact LeO.refl _ | exact LeO.none _ | refine LeO.ite ?_ ?_ | refine LeO.bind ?_ (fun _ => ?_)) | exact ih0 _ _ _ | exact LeO.none _ | refine LeO.ite ?_ ?_ | refine LeO.bind ?_ (fun _ => ?_)

/-! ### laws_toChart: function 33 -/
def laws_toChart.f (k : Nat) (l0_0 : List (S101)) (l0_1 : List (S103)) : Option ((List (S88)) × (List (S90))) := (laws_toStateS.f k l0_0).bind fun t246 => ((laws_toArrowS.f k l0_1).bind fun t249 => (some (t246, t249)))
theorem laws_toChart.mono : ∀ a0 a1 k, LeO (laws_toChart.f k a0 a1) (laws_toChart.f (k + 1) a0 a1) := by
  intro a0 a1 k
  unfold laws_toChart.f
  repeat' first | (with_reducible first | exact laws_toArrowS.mono _ _ | exact laws_toStateS.mono _ _ | exact LeO.refl _ | exact LeO.none _ | refine LeO.ite ?_ ?_ | refine LeO.bind ?_ (fun _ => ?_)) | exact laws_toArrowS.mono _ _ | exact laws_toStateS.mono _ _ | exact LeO.none _ | refine LeO.ite ?_ ?_ | refine LeO.bind ?_ (fun _ => ?_)

/-! ### laws_eqState: function 82 -/
def laws_eqState.f (a0_0 : Int) (a0_1 : Int) (a1_0 : Int) (a1_1 : Int) : Option (Bool) := if a0_0 = a1_0 then (if a0_1 = a1_1 then (some true) else (some false)) else (some false)

/-! ### laws_eqStateS: function 68 -/
def laws_eqStateS.l0 : Nat → List (S88) → List (S88) → Int → Option (Bool)
  | 0, _, _, _ => none
  | k + 1, x0, x1, x5 => if x5 < (x0.length : Int) then (if 0 ≤ x5 then (if x5 < (x1.length : Int) then ((laws_eqState.f ((rd_T88 x0 x5).f0) ((rd_T88 x0 x5).f1) ((rd_T88 x1 x5).f0) ((rd_T88 x1 x5).f1)).bind fun t256 => (if t256 = true then (laws_eqStateS.l0 k x0 x1 (wrap64 (x5 + 1))) else (some false))) else (none)) else (none)) else (some true)
def laws_eqStateS.f (k : Nat) (l0 : List (S88)) (l1 : List (S88)) : Option (Bool) := if (l0.length : Int) = (l1.length : Int) then (laws_eqStateS.l0 k l0 l1 0) else (some false)
theorem laws_eqStateS.mono_l : ∀ k, (∀ y0 y1 y2, LeO (laws_eqStateS.l0 k y0 y1 y2) (laws_eqStateS.l0 (k + 1) y0 y1 y2))
  | 0 => fun _ _ _ r h => by simp [laws_eqStateS.l0] at h
  | k + 1 => by
    have ih0 := laws_eqStateS.mono_l k
    · intro y0 y1 y2
      unfold laws_eqStateS.l0
      repeat' first | (with_reducible first | exact ih0 _ _ _ | exact LeO.refl _ | exact LeO.none _ | refine LeO.ite ?_ ?_ | refine LeO.bind ?_ (fun _ => ?_)) | exact ih0 _ _ _ | exact LeO.none _ | refine LeO.ite ?_ ?_ | refine LeO.bind ?_ (fun _ => ?_)
theorem laws_eqStateS.mono : ∀ a0 a1 k, LeO (laws_eqStateS.f k a0 a1) (laws_eqStateS.f (k + 1) a0 a1) := by
  intro a0 a1 k
  have ih0 := laws_eqStateS.mono_l k
  unfold laws_eqStateS.f
  repeat' first | (with_reducible first | exact ih0 _ _ _ | exact LeO.refl _ | exact LeO.none _ | refine LeO.ite ?_ ?_ | refine LeO.bind ?_ (fun _ => ?_)) | exact ih0 _ _ _ | exact LeO.none _ | refine LeO.ite ?_ ?_ | refine LeO.bind ?_ (fun _ => ?_)

/-! ### laws_eqArrow: function 83 -/
def laws_eqArrow.f (a0_0 : Int) (a0_1 : Int) (a0_2 : Int) (a1_0 : Int) (a1_1 : Int) (a1_2 : Int) : Option (Bool) := if a0_0 = a1_0 then (if a0_1 = a1_1 then (if a0_2 = a1_2 then (some true) else (some false)) else (some false)) else (some false)

/-! ### laws_eqArrowS: function 69 -/
def laws_eqArrowS.l0 : Nat → List (S90) → List (S90) → Int → Option (Bool)
  | 0, _, _, _ => none
  | k + 1, x0, x1, x5 => if x5 < (x0.length : Int) then (if 0 ≤ x5 then (if x5 < (x1.length : Int) then ((laws_eqArrow.f ((rd_T90 x0 x5).f0) ((rd_T90 x0 x5).f1) ((rd_T90 x0 x5).f2) ((rd_T90 x1 x5).f0) ((rd_T90 x1 x5).f1) ((rd_T90 x1 x5).f2)).bind fun t261 => (if t261 = true then (laws_eqArrowS.l0 k x0 x1 (wrap64 (x5 + 1))) else (some false))) else (none)) else (none)) else (some true)
def laws_eqArrowS.f (k : Nat) (l0 : List (S90)) (l1 : List (S90)) : Option (Bool) := if (l0.length : Int) = (l1.length : Int) then (laws_eqArrowS.l0 k l0 l1 0) else (some false)
theorem laws_eqArrowS.mono_l : ∀ k, (∀ y0 y1 y2, LeO (laws_eqArrowS.l0 k y0 y1 y2) (laws_eqArrowS.l0 (k + 1) y0 y1 y2))
  | 0 => fun _ _ _ r h => by simp [laws_eqArrowS.l0] at h
  | k + 1 => by
    have ih0 := laws_eqArrowS.mono_l k
    · intro y0 y1 y2
      unfold laws_eqArrowS.l0
      repeat' first | (with_reducible first | exact ih0 _ _ _ | exact LeO.refl _ | exact LeO.none _ | refine LeO.ite ?_ ?_ | refine LeO.bind ?_ (fun _ => ?_)) | exact ih0 _ _ _ | exact LeO.none _ | refine LeO.ite ?_ ?_ | refine LeO.bind ?_ (fun _ => ?_)
theorem laws_eqArrowS.mono : ∀ a0 a1 k, LeO (laws_eqArrowS.f k a0 a1) (laws_eqArrowS.f (k + 1) a0 a1) := by
  intro a0 a1 k
  have ih0 := laws_eqArrowS.mono_l k
  unfold laws_eqArrowS.f
  repeat' first | (with_reducible first | exact ih0 _ _ _ | exact LeO.refl _ | exact LeO.none _ | refine LeO.ite ?_ ?_ | refine LeO.bind ?_ (fun _ => ?_)) | exact ih0 _ _ _ | exact LeO.none _ | refine LeO.ite ?_ ?_ | refine LeO.bind ?_ (fun _ => ?_)

/-! ### laws_eqChart: function 35 -/
def laws_eqChart.f (k : Nat) (l0_0 : List (S88)) (l0_1 : List (S90)) (l1_0 : List (S88)) (l1_1 : List (S90)) : Option (Bool) := (laws_eqStateS.f k l0_0 l1_0).bind fun t264 => (if t264 = true then ((laws_eqArrowS.f k l0_1 l1_1).bind fun t265 => (if t265 = true then (some true) else (some false))) else (some false))
theorem laws_eqChart.mono : ∀ a0 a1 a2 a3 k, LeO (laws_eqChart.f k a0 a1 a2 a3) (laws_eqChart.f (k + 1) a0 a1 a2 a3) := by
  intro a0 a1 a2 a3 k
  unfold laws_eqChart.f
  repeat' first | (with_reducible first | exact laws_eqArrowS.mono _ _ _ | exact laws_eqStateS.mono _ _ _ | exact LeO.refl _ | exact LeO.none _ | refine LeO.ite ?_ ?_ | refine LeO.bind ?_ (fun _ => ?_)) | exact laws_eqArrowS.mono _ _ _ | exact laws_eqStateS.mono _ _ _ | exact LeO.none _ | refine LeO.ite ?_ ?_ | refine LeO.bind ?_ (fun _ => ?_)

/-! ### impl_between: function 49 -/
def impl_between.f (a0 : Int) (a1 : Int) (a2 : Int) : Option (Bool) := if a0 ≥ a1 then (some (decide (a0 ≤ a2))) else (some false)

/-! ### impl_GoodChart: function 34 -/
mutual
def impl_GoodChart.j0 : Nat → Int → Bool → List (S88) → List (S90) → Option (Bool)
  | 0, _, _, _, _ => none
  | k + 1, x3, x33, x267000, x267001 => if x33 = true then (some false) else (if 0 ≤ x3 then (if (x3 : Int).toNat ≤ 281474976710656 then (if 1 ≤ (x267000.length : Int) then ((some (x267000.drop 1 : List (S88))).bind fun y271 => (impl_GoodChart.l0 k x3 (List.replicate (x3 : Int).toNat false) y271 (y271.length : Int) 0 x267000 x267001)) else (none)) else (none)) else (none))
def impl_GoodChart.l0 : Nat → Int → List Bool → List (S88) → Int → Int → List (S88) → List (S90) → Option (Bool)
  | 0, _, _, _, _, _, _, _ => none
  | k + 1, x3, x4, x38, x39, x40, x267000, x267001 => if x40 < x39 then (if 0 ≤ x40 then (if x40 < (x38.length : Int) then (if ((rd_T88 x38 x40).f0) < 0 then (some false) else (if ((rd_T88 x38 x40).f0) > x40 then (some false) else (if 0 ≤ ((rd_T88 x38 x40).f0) then (if ((rd_T88 x38 x40).f0) < (x4.length : Int) then (impl_GoodChart.l0 k x3 (x4.set (((rd_T88 x38 x40).f0) : Int).toNat true) x38 x39 (wrap64 (x40 + 1)) x267000 x267001) else (none)) else (none)))) else (none)) else (none)) else (impl_GoodChart.l1 k x3 x4 x267000 (x267000.length : Int) 0 x267000 x267001)
def impl_GoodChart.l1 : Nat → Int → List Bool → List (S88) → Int → Int → List (S88) → List (S90) → Option (Bool)
  | 0, _, _, _, _, _, _, _ => none
  | k + 1, x3, x4, x60, x61, x62, x267000, x267001 => if x62 < x61 then (if 0 ≤ x62 then (if x62 < (x60.length : Int) then (if x62 < (x4.length : Int) then (if rdOf false x4 x62 = true then (if ((rd_T88 x60 x62).f1) < 0 then (some false) else (if ((rd_T88 x60 x62).f1) ≥ x3 then (some false) else (if 0 ≤ ((rd_T88 x60 x62).f1) then (if ((rd_T88 x60 x62).f1) < (x267000.length : Int) then (if ((rd_T88 x267000 ((rd_T88 x60 x62).f1)).f0) = x62 then (impl_GoodChart.l1 k x3 x4 x60 x61 (wrap64 (x62 + 1)) x267000 x267001) else (some false)) else (none)) else (none)))) else (if ((rd_T88 x60 x62).f1) = (-1) then (impl_GoodChart.l1 k x3 x4 x60 x61 (wrap64 (x62 + 1)) x267000 x267001) else (some false))) else (none)) else (none)) else (none)) else (impl_GoodChart.l2 k x3 x267001 (x267001.length : Int) 0)
def impl_GoodChart.l2 : Nat → Int → List (S90) → Int → Int → Option (Bool)
  | 0, _, _, _, _ => none
  | k + 1, x3, x97, x98, x99 => if x99 < x98 then (if 0 ≤ x99 then (if x99 < (x97.length : Int) then ((impl_between.f ((rd_T90 x97 x99).f0) 0 (wrap64 (x3 - 1))).bind fun t284 => (if t284 = true then ((impl_between.f ((rd_T90 x97 x99).f2) 0 (wrap64 (x3 - 1))).bind fun t285 => (if t285 = true then ((impl_between.f ((rd_T90 x97 x99).f1) 0 5).bind fun t286 => (if t286 = true then (impl_GoodChart.l2 k x3 x97 x98 (wrap64 (x99 + 1))) else (some false))) else (some false))) else (some false))) else (none)) else (none)) else (some true)
end
def impl_GoodChart.f (k : Nat) (l0_0 : List (S88)) (l0_1 : List (S90)) : Option (Bool) := if (l0_0.length : Int) < 1 then (impl_GoodChart.j0 k (l0_0.length : Int) true l0_0 l0_1) else (if (l0_0.length : Int) > 12 then (impl_GoodChart.j0 k (l0_0.length : Int) true l0_0 l0_1) else (if (l0_1.length : Int) > 24 then (impl_GoodChart.j0 k (l0_0.length : Int) true l0_0 l0_1) else (if 0 < (l0_0.length : Int) then (impl_GoodChart.j0 k (l0_0.length : Int) (((rd_T88 l0_0 0).f0) != (-1)) l0_0 l0_1) else (none))))
theorem impl_GoodChart.mono_l : ∀ k, (∀ y0 y1 y2 y3, LeO (impl_GoodChart.j0 k y0 y1 y2 y3) (impl_GoodChart.j0 (k + 1) y0 y1 y2 y3)) ∧ (∀ y0 y1 y2 y3 y4 y5 y6, LeO (impl_GoodChart.l0 k y0 y1 y2 y3 y4 y5 y6) (impl_GoodChart.l0 (k + 1) y0 y1 y2 y3 y4 y5 y6)) ∧ (∀ y0 y1 y2 y3 y4 y5 y6, LeO (impl_GoodChart.l1 k y0 y1 y2 y3 y4 y5 y6) (impl_GoodChart.l1 (k + 1) y0 y1 y2 y3 y4 y5 y6)) ∧ (∀ y0 y1 y2 y3, LeO (impl_GoodChart.l2 k y0 y1 y2 y3) (impl_GoodChart.l2 (k + 1) y0 y1 y2 y3))
  | 0 => ⟨fun _ _ _ _ r h => by simp [impl_GoodChart.j0] at h, fun _ _ _ _ _ _ _ r h => by simp [impl_GoodChart.l0] at h, fun _ _ _ _ _ _ _ r h => by simp [impl_GoodChart.l1] at h, fun _ _ _ _ r h => by simp [impl_GoodChart.l2] at h⟩
  | k + 1 => by
    obtain ⟨ih0, ih1, ih2, ih3⟩ := impl_GoodChart.mono_l k
    refine ⟨?_, ?_, ?_, ?_⟩
    · intro y0 y1 y2 y3
      unfold impl_GoodChart.j0
      repeat' first | (with_reducible first | exact ih0 _ _ _ _ | exact ih1 _ _ _ _ _ _ _ | exact ih2 _ _ _ _ _ _ _ | exact ih3 _ _ _ _ | exact LeO.refl _ | exact LeO.none _ | refine LeO.ite ?_ ?_ | refine LeO.bind ?_ (fun _ => ?_)) | exact ih0 _ _ _ _ | exact ih1 _ _ _ _ _ _ _ | exact ih2 _ _ _ _ _ _ _ | exact ih3 _ _ _ _ | exact LeO.none _ | refine LeO.ite ?_ ?_ | refine LeO.bind ?_ (fun _ => ?_)
    · intro y0 y1 y2 y3 y4 y5 y6
      unfold impl_GoodChart.l0
      repeat' first | (with_reducible first | exact ih0 _ _ _ _ | exact ih1 _ _ _ _ _ _ _ | exact ih2 _ _ _ _ _ _ _ | exact ih3 _ _ _ _ | exact LeO.refl _ | exact LeO.none _ | refine LeO.ite ?_ ?_ | refine LeO.bind ?_ (fun _ => ?_)) | exact ih0 _ _ _ _ | exact ih1 _ _ _ _ _ _ _ | exact ih2 _ _ _ _ _ _ _ | exact ih3 _ _ _ _ | exact LeO.none _ | refine LeO.ite ?_ ?_ | refine LeO.bind ?_ (fun _ => ?_)
    · intro y0 y1 y2 y3 y4 y5 y6
      unfold impl_GoodChart.l1
      repeat' first | (with_reducible first | exact ih0 _ _ _ _ | exact ih1 _ _ _ _ _ _ _ | exact ih2 _ _ _ _ _ _ _ | exact ih3 _ _ _ _ | exact LeO.refl _ | exact LeO.none _ | refine LeO.ite ?_ ?_ | refine LeO.bind ?_ (fun _ => ?_)) | exact ih0 _ _ _ _ | exact ih1 _ _ _ _ _ _ _ | exact ih2 _ _ _ _ _ _ _ | exact ih3 _ _ _ _ | exact LeO.none _ | refine LeO.ite ?_ ?_ | refine LeO.bind ?_ (fun _ => ?_)
    · intro y0 y1 y2 y3
      unfold impl_GoodChart.l2
      repeat' first | (with_reducible first | exact ih0 _ _ _ _ | exact ih1 _ _ _ _ _ _ _ | exact ih2 _ _ _ _ _ _ _ | exact ih3 _ _ _ _ | exact LeO.refl _ | exact LeO.none _ | refine LeO.ite ?_ ?_ | refine LeO.bind ?_ (fun _ => ?_)) | exact ih0 _ _ _ _ | exact ih1 _ _ _ _ _ _ _ | exact ih2 _ _ _ _ _ _ _ | exact ih3 _ _ _ _ | exact LeO.none _ | refine LeO.ite ?_ ?_ | refine LeO.bind ?_ (fun _ => ?_)
theorem impl_GoodChart.mono : ∀ a0 a1 k, LeO (impl_GoodChart.f k a0 a1) (impl_GoodChart.f (k + 1) a0 a1) := by
  intro a0 a1 k
  obtain ⟨ih0, ih1, ih2, ih3⟩ := impl_GoodChart.mono_l k
  unfold impl_GoodChart.f
  repeat' first | (with_reducible first | exact ih0 _ _ _ _ | exact ih1 _ _ _ _ _ _ _ | exact ih2 _ _ _ _ _ _ _ | exact ih3 _ _ _ _ | exact LeO.refl _ | exact LeO.none _ | refine LeO.ite ?_ ?_ | refine LeO.bind ?_ (fun _ => ?_)) | exact ih0 _ _ _ _ | exact ih1 _ _ _ _ _ _ _ | exact ih2 _ _ _ _ _ _ _ | exact ih3 _ _ _ _ | exact LeO.none _ | refine LeO.ite ?_ ?_ | refine LeO.bind ?_ (fun _ => ?_)

/-! ### impl_Chart_enter: function 71 -/
def impl_Chart_enter.l0 : Nat → Int → List (S88) → List (S90) → Option (Int)
  | 0, _, _, _ => none
  | k + 1, x1, x288000, x288001 => if 0 ≤ x1 then (if x1 < (x288000.length : Int) then (if ((rd_T88 x288000 x1).f1) ≥ 0 then (impl_Chart_enter.l0 k ((rd_T88 x288000 x1).f1) x288000 x288001) else (some x1)) else (none)) else (none)
def impl_Chart_enter.f (k : Nat) (l0_0 : List (S88)) (l0_1 : List (S90)) (a1 : Int) : Option (Int) := impl_Chart_enter.l0 k a1 l0_0 l0_1
theorem impl_Chart_enter.mono_l : ∀ k, (∀ y0 y1 y2, LeO (impl_Chart_enter.l0 k y0 y1 y2) (impl_Chart_enter.l0 (k + 1) y0 y1 y2))
  | 0 => fun _ _ _ r h => by simp [impl_Chart_enter.l0] at h
  | k + 1 => by
    have ih0 := impl_Chart_enter.mono_l k
    · intro y0 y1 y2
      unfold impl_Chart_enter.l0
      repeat' first | (with_reducible first | exact ih0 _ _ _ | exact LeO.refl _ | exact LeO.none _ | refine LeO.ite ?_ ?_ | refine LeO.bind ?_ (fun _ => ?_)) | exact ih0 _ _ _ | exact LeO.none _ | refine LeO.ite ?_ ?_ | refine LeO.bind ?_ (fun _ => ?_)
theorem impl_Chart_enter.mono : ∀ a0 a1 a2 k, LeO (impl_Chart_enter.f k a0 a1 a2) (impl_Chart_enter.f (k + 1) a0 a1 a2) := by
  intro a0 a1 a2 k
  have ih0 := impl_Chart_enter.mono_l k
  unfold impl_Chart_enter.f
  repeat' first | (with_reducible first | exact ih0 _ _ _ | exact LeO.refl _ | exact LeO.none _ | refine LeO.ite ?_ ?_ | refine LeO.bind ?_ (fun _ => ?_)) | exact ih0 _ _ _ | exact LeO.none _ | refine LeO.ite ?_ ?_ | refine LeO.bind ?_ (fun _ => ?_)

/-! ### impl_Chart_step: function 74 -/
mutual
def impl_Chart_step.l0 : Nat → Int → Int → Int → List (S88) → List (S90) → Option (Int)
  | 0, _, _, _, _, _ => none
  | k + 1, x1, x2, x7, x291000, x291001 => if x7 ≥ 0 then (impl_Chart_step.l1 k x1 x2 x7 x291001 (x291001.length : Int) 0 x291000 x291001) else (some x1)
def impl_Chart_step.l1 : Nat → Int → Int → Int → List (S90) → Int → Int → List (S88) → List (S90) → Option (Int)
  | 0, _, _, _, _, _, _, _, _ => none
  | k + 1, x1, x2, x7, x20, x21, x22, x291000, x291001 => if x22 < x21 then (if 0 ≤ x22 then (if x22 < (x20.length : Int) then (if ((rd_T90 x20 x22).f0) = x7 then (if ((rd_T90 x20 x22).f1) = x2 then ((impl_Chart_enter.f k x291000 x291001 ((rd_T90 x20 x22).f2)).bind fun t293 => (some t293)) else (impl_Chart_step.l1 k x1 x2 x7 x20 x21 (wrap64 (x22 + 1)) x291000 x291001)) else (impl_Chart_step.l1 k x1 x2 x7 x20 x21 (wrap64 (x22 + 1)) x291000 x291001)) else (none)) else (none)) else (if 0 ≤ x7 then (if x7 < (x291000.length : Int) then (impl_Chart_step.l0 k x1 x2 ((rd_T88 x291000 x7).f0) x291000 x291001) else (none)) else (none))
end
def impl_Chart_step.f (k : Nat) (l0_0 : List (S88)) (l0_1 : List (S90)) (a1 : Int) (a2 : Int) : Option (Int) := impl_Chart_step.l0 k a1 a2 a1 l0_0 l0_1
theorem impl_Chart_step.mono_l : ∀ k, (∀ y0 y1 y2 y3 y4, LeO (impl_Chart_step.l0 k y0 y1 y2 y3 y4) (impl_Chart_step.l0 (k + 1) y0 y1 y2 y3 y4)) ∧ (∀ y0 y1 y2 y3 y4 y5 y6 y7, LeO (impl_Chart_step.l1 k y0 y1 y2 y3 y4 y5 y6 y7) (impl_Chart_step.l1 (k + 1) y0 y1 y2 y3 y4 y5 y6 y7))
  | 0 => ⟨fun _ _ _ _ _ r h => by simp [impl_Chart_step.l0] at h, fun _ _ _ _ _ _ _ _ r h => by simp [impl_Chart_step.l1] at h⟩
  | k + 1 => by
    obtain ⟨ih0, ih1⟩ := impl_Chart_step.mono_l k
    refine ⟨?_, ?_⟩
    · intro y0 y1 y2 y3 y4
      unfold impl_Chart_step.l0
      repeat' first | (with_reducible first | exact ih0 _ _ _ _ _ | exact ih1 _ _ _ _ _ _ _ _ | exact impl_Chart_enter.mono _ _ _ _ | exact LeO.refl _ | exact LeO.none _ | refine LeO.ite ?_ ?_ | refine LeO.bind ?_ (fun _ => ?_)) | exact ih0 _ _ _ _ _ | exact ih1 _ _ _ _ _ _ _ _ | exact impl_Chart_enter.mono _ _ _ _ | exact LeO.none _ | refine LeO.ite ?_ ?_ | refine LeO.bind ?_ (fun _ => ?_)
    · intro y0 y1 y2 y3 y4 y5 y6 y7
      unfold impl_Chart_step.l1
      repeat' first | (with_reducible first | exact ih0 _ _ _ _ _ | exact ih1 _ _ _ _ _ _ _ _ | exact impl_Chart_enter.mono _ _ _ _ | exact LeO.refl _ | exact LeO.none _ | refine LeO.ite ?_ ?_ | refine LeO.bind ?_ (fun _ => ?_)) | exact ih0 _ _ _ _ _ | exact ih1 _ _ _ _ _ _ _ _ | exact impl_Chart_enter.mono _ _ _ _ | exact LeO.none _ | refine LeO.ite ?_ ?_ | refine LeO.bind ?_ (fun _ => ?_)
theorem impl_Chart_step.mono : ∀ a0 a1 a2 a3 k, LeO (impl_Chart_step.f k a0 a1 a2 a3) (impl_Chart_step.f (k + 1) a0 a1 a2 a3) := by
  intro a0 a1 a2 a3 k
  obtain ⟨ih0, ih1⟩ := impl_Chart_step.mono_l k
  unfold impl_Chart_step.f
  repeat' first | (with_reducible first | exact ih0 _ _ _ _ _ | exact ih1 _ _ _ _ _ _ _ _ | exact impl_Chart_enter.mono _ _ _ _ | exact LeO.refl _ | exact LeO.none _ | refine LeO.ite ?_ ?_ | refine LeO.bind ?_ (fun _ => ?_)) | exact ih0 _ _ _ _ _ | exact ih1 _ _ _ _ _ _ _ _ | exact impl_Chart_enter.mono _ _ _ _ | exact LeO.none _ | refine LeO.ite ?_ ?_ | refine LeO.bind ?_ (fun _ => ?_)

/-! ### impl_FlatChart: function 43 -/
mutual
def impl_FlatChart.l0 : Nat → List (List Int) → List (S88) → Int → Int → List (S88) → List (S90) → Option ((List (List Int)) × Bool)
  | 0, _, _, _, _, _, _ => none
  | k + 1, x4, x13, x14, x15, x296000, x296001 => if x15 < x14 then (if 0 ≤ x15 then (if x15 < (x13.length : Int) then (impl_FlatChart.l1 k x4 x15 ([] : List Int) 0 x13 x14 x15 x296000 x296001 ((rd_T88 x13 x15).f0) ((rd_T88 x13 x15).f1)) else (none)) else (none)) else (some (x4, true))
def impl_FlatChart.l1 : Nat → List (List Int) → Int → List Int → Int → List (S88) → Int → Int → List (S88) → List (S90) → Int → Int → Option ((List (List Int)) × Bool)
  | 0, _, _, _, _, _, _, _, _, _, _, _ => none
  | k + 1, x4, x5, x7, x8, x13, x14, x15, x296000, x296001, x299000, x299001 => if x8 < 6 then (if x299001 < 0 then ((impl_Chart_step.f k x296000 x296001 x5 x8).bind fun t299 => (if x7.length < 17592186044416 then (impl_FlatChart.l1 k x4 x5 (x7 ++ [t299]) (wrap64 (x8 + 1)) x13 x14 x15 x296000 x296001 x299000 x299001) else (none))) else (if x4.length < 5864062014805 then (impl_FlatChart.l0 k (x4 ++ [x7]) x13 x14 (wrap64 (x15 + 1)) x296000 x296001) else (none))) else (if x4.length < 5864062014805 then (impl_FlatChart.l0 k (x4 ++ [x7]) x13 x14 (wrap64 (x15 + 1)) x296000 x296001) else (none))
end
def impl_FlatChart.f (k : Nat) (l0_0 : List (S88)) (l0_1 : List (S90)) : Option ((List (List Int)) × Bool) := (impl_GoodChart.f k l0_0 l0_1).bind fun t296 => (if t296 = true then (impl_FlatChart.l0 k ([] : List (List Int)) l0_0 (l0_0.length : Int) 0 l0_0 l0_1) else (some (([] : List (List Int)), false)))
theorem impl_FlatChart.mono_l : ∀ k, (∀ y0 y1 y2 y3 y4 y5, LeO (impl_FlatChart.l0 k y0 y1 y2 y3 y4 y5) (impl_FlatChart.l0 (k + 1) y0 y1 y2 y3 y4 y5)) ∧ (∀ y0 y1 y2 y3 y4 y5 y6 y7 y8 y9 y10, LeO (impl_FlatChart.l1 k y0 y1 y2 y3 y4 y5 y6 y7 y8 y9 y10) (impl_FlatChart.l1 (k + 1) y0 y1 y2 y3 y4 y5 y6 y7 y8 y9 y10))
  | 0 => ⟨fun _ _ _ _ _ _ r h => by simp [impl_FlatChart.l0] at h, fun _ _ _ _ _ _ _ _ _ _ _ r h => by simp [impl_FlatChart.l1] at h⟩
  | k + 1 => by
    obtain ⟨ih0, ih1⟩ := impl_FlatChart.mono_l k
    refine ⟨?_, ?_⟩
    · intro y0 y1 y2 y3 y4 y5
      unfold impl_FlatChart.l0
      repeat' first | (with_reducible first | exact ih0 _ _ _ _ _ _ | exact ih1 _ _ _ _ _ _ _ _ _ _ _ | exact impl_Chart_step.mono _ _ _ _ _ | exact impl_GoodChart.mono _ _ _ | exact LeO.refl _ | exact LeO.none _ | refine LeO.ite ?_ ?_ | refine LeO.bind ?_ (fun _ => ?_)) | exact ih0 _ _ _ _ _ _ | exact ih1 _ _ _ _ _ _ _ _ _ _ _ | exact impl_Chart_step.mono _ _ _ _ _ | exact impl_GoodChart.mono _ _ _ | exact LeO.none _ | refine LeO.ite ?_ ?_ | refine LeO.bind ?_ (fun _ => ?_)
    · intro y0 y1 y2 y3 y4 y5 y6 y7 y8 y9 y10
      unfold impl_FlatChart.l1
      repeat' first | (with_reducible first | exact ih0 _ _ _ _ _ _ | exact ih1 _ _ _ _ _ _ _ _ _ _ _ | exact impl_Chart_step.mono _ _ _ _ _ | exact impl_GoodChart.mono _ _ _ | exact LeO.refl _ | exact LeO.none _ | refine LeO.ite ?_ ?_ | refine LeO.bind ?_ (fun _ => ?_)) | exact ih0 _ _ _ _ _ _ | exact ih1 _ _ _ _ _ _ _ _ _ _ _ | exact impl_Chart_step.mono _ _ _ _ _ | exact impl_GoodChart.mono _ _ _ | exact LeO.none _ | refine LeO.ite ?_ ?_ | refine LeO.bind ?_ (fun _ => ?_)
theorem impl_FlatChart.mono : ∀ a0 a1 k, LeO (impl_FlatChart.f k a0 a1) (impl_FlatChart.f (k + 1) a0 a1) := by
  intro a0 a1 k
  obtain ⟨ih0, ih1⟩ := impl_FlatChart.mono_l k
  unfold impl_FlatChart.f
  repeat' first | (with_reducible first | exact ih0 _ _ _ _ _ _ | exact ih1 _ _ _ _ _ _ _ _ _ _ _ | exact impl_Chart_step.mono _ _ _ _ _ | exact impl_GoodChart.mono _ _ _ | exact LeO.refl _ | exact LeO.none _ | refine LeO.ite ?_ ?_ | refine LeO.bind ?_ (fun _ => ?_)) | exact ih0 _ _ _ _ _ _ | exact ih1 _ _ _ _ _ _ _ _ _ _ _ | exact impl_Chart_step.mono _ _ _ _ _ | exact impl_GoodChart.mono _ _ _ | exact LeO.none _ | refine LeO.ite ?_ ?_ | refine LeO.bind ?_ (fun _ => ?_)

/-! ### laws_markStateS: function 77 -/
def laws_markStateS.l0 : Nat → List (S88) → Int → Int → Option (Int × (List (S88)))
  | 0, _, _, _ => none
  | k + 1, x0, x1, x5 => if x5 < (x0.length : Int) then (if 0 ≤ x5 then ((some (x0.set (x5 : Int).toNat (⟨x1, (rd_T88 x0 x5).f1⟩ : S88) : List (S88))).bind fun y309 => (laws_markStateS.l0 k (y309.set (x5 : Int).toNat (⟨(rd_T88 y309 x5).f0, wrap64 (x1 + 1)⟩ : S88)) (wrap64 ((wrap64 (x1 + 1)) + 1)) (wrap64 (x5 + 1)))) else (none)) else (some (x1, x0))
def laws_markStateS.f (k : Nat) (l0 : List (S88)) (a1 : Int) : Option (Int × (List (S88))) := laws_markStateS.l0 k l0 a1 0
theorem laws_markStateS.mono_l : ∀ k, (∀ y0 y1 y2, LeO (laws_markStateS.l0 k y0 y1 y2) (laws_markStateS.l0 (k + 1) y0 y1 y2))
  | 0 => fun _ _ _ r h => by simp [laws_markStateS.l0] at h
  | k + 1 => by
    have ih0 := laws_markStateS.mono_l k
    · intro y0 y1 y2
      unfold laws_markStateS.l0
      repeat' first | (with_reducible first | exact ih0 _ _ _ | exact LeO.refl _ | exact LeO.none _ | refine LeO.ite ?_ ?_ | refine LeO.bind ?_ (fun _ => ?_)) | exact ih0 _ _ _ | exact LeO.none _ | refine LeO.ite ?_ ?_ | refine LeO.bind ?_ (fun _ => ?_)
theorem laws_markStateS.mono : ∀ a0 a1 k, LeO (laws_markStateS.f k a0 a1) (laws_markStateS.f (k + 1) a0 a1) := by
  intro a0 a1 k
  have ih0 := laws_markStateS.mono_l k
  unfold laws_markStateS.f
  repeat' first | (with_reducible first | exact ih0 _ _ _ | exact LeO.refl _ | exact LeO.none _ | refine LeO.ite ?_ ?_ | refine LeO.bind ?_ (fun _ => ?_)) | exact ih0 _ _ _ | exact LeO.none _ | refine LeO.ite ?_ ?_ | refine LeO.bind ?_ (fun _ => ?_)

/-! ### laws_markArrowS: function 78 -/
def laws_markArrowS.l0 : Nat → List (S90) → Int → Int → Option (Int × (List (S90)))
  | 0, _, _, _ => none
  | k + 1, x0, x1, x5 => if x5 < (x0.length : Int) then (if 0 ≤ x5 then ((some (x0.set (x5 : Int).toNat (⟨x1, (rd_T90 x0 x5).f1, (rd_T90 x0 x5).f2⟩ : S90) : List (S90))).bind fun y311 => ((some (y311.set (x5 : Int).toNat (⟨(rd_T90 y311 x5).f0, wrap64 (x1 + 1), (rd_T90 y311 x5).f2⟩ : S90) : List (S90))).bind fun y312 => (laws_markArrowS.l0 k (y312.set (x5 : Int).toNat (⟨(rd_T90 y312 x5).f0, (rd_T90 y312 x5).f1, wrap64 ((wrap64 (x1 + 1)) + 1)⟩ : S90)) (wrap64 ((wrap64 ((wrap64 (x1 + 1)) + 1)) + 1)) (wrap64 (x5 + 1))))) else (none)) else (some (x1, x0))
def laws_markArrowS.f (k : Nat) (l0 : List (S90)) (a1 : Int) : Option (Int × (List (S90))) := laws_markArrowS.l0 k l0 a1 0
theorem laws_markArrowS.mono_l : ∀ k, (∀ y0 y1 y2, LeO (laws_markArrowS.l0 k y0 y1 y2) (laws_markArrowS.l0 (k + 1) y0 y1 y2))
  | 0 => fun _ _ _ r h => by simp [laws_markArrowS.l0] at h
  | k + 1 => by
    have ih0 := laws_markArrowS.mono_l k
    · intro y0 y1 y2
      unfold laws_markArrowS.l0
      repeat' first | (with_reducible first | exact ih0 _ _ _ | exact LeO.refl _ | exact LeO.none _ | refine LeO.ite ?_ ?_ | refine LeO.bind ?_ (fun _ => ?_)) | exact ih0 _ _ _ | exact LeO.none _ | refine LeO.ite ?_ ?_ | refine LeO.bind ?_ (fun _ => ?_)
theorem laws_markArrowS.mono : ∀ a0 a1 k, LeO (laws_markArrowS.f k a0 a1) (laws_markArrowS.f (k + 1) a0 a1) := by
  intro a0 a1 k
  have ih0 := laws_markArrowS.mono_l k
  unfold laws_markArrowS.f
  repeat' first | (with_reducible first | exact ih0 _ _ _ | exact LeO.refl _ | exact LeO.none _ | refine LeO.ite ?_ ?_ | refine LeO.bind ?_ (fun _ => ?_)) | exact ih0 _ _ _ | exact LeO.none _ | refine LeO.ite ?_ ?_ | refine LeO.bind ?_ (fun _ => ?_)

/-! ### laws_markChart: function 45 -/
def laws_markChart.f (k : Nat) (l0_0 : List (S88)) (l0_1 : List (S90)) (a1 : Int) : Option (Int × (List (S88)) × (List (S90))) := (laws_markStateS.f k l0_0 a1).bind fun bt315 => ((laws_markArrowS.f k l0_1 bt315.1).bind fun bt317 => (some (bt317.1, bt315.2, bt317.2)))
theorem laws_markChart.mono : ∀ a0 a1 a2 k, LeO (laws_markChart.f k a0 a1 a2) (laws_markChart.f (k + 1) a0 a1 a2) := by
  intro a0 a1 a2 k
  unfold laws_markChart.f
  repeat' first | (with_reducible first | exact laws_markArrowS.mono _ _ _ | exact laws_markStateS.mono _ _ _ | exact LeO.refl _ | exact LeO.none _ | refine LeO.ite ?_ ?_ | refine LeO.bind ?_ (fun _ => ?_)) | exact laws_markArrowS.mono _ _ _ | exact laws_markStateS.mono _ _ _ | exact LeO.none _ | refine LeO.ite ?_ ?_ | refine LeO.bind ?_ (fun _ => ?_)

/-! ### spec_GoodChart: function 32 -/
mutual
def spec_GoodChart.j0 : Nat → Int → Bool → List (S88) → List (S90) → Option (Bool)
  | 0, _, _, _, _ => none
  | k + 1, x3, x25, x320000, x320001 => if x25 = true then (some false) else (spec_GoodChart.l0 k x3 x320000 (x320000.length : Int) 0 x320000 x320001)
def spec_GoodChart.l0 : Nat → Int → List (S88) → Int → Int → List (S88) → List (S90) → Option (Bool)
  | 0, _, _, _, _, _, _ => none
  | k + 1, x3, x27, x28, x29, x320000, x320001 => if x29 < x28 then (if 0 ≤ x29 then (if x29 < (x27.length : Int) then (if x29 = 0 then (if ((rd_T88 x27 x29).f0) = (-1) then (if x29 > 0 then (if ((rd_T88 x27 x29).f0) < 0 then (spec_GoodChart.j2 k x3 x29 x27 x28 x29 true x320000 x320001 ((rd_T88 x27 x29).f0) ((rd_T88 x27 x29).f1)) else (spec_GoodChart.j2 k x3 x29 x27 x28 x29 (decide (((rd_T88 x27 x29).f0) ≥ x29)) x320000 x320001 ((rd_T88 x27 x29).f0) ((rd_T88 x27 x29).f1))) else (spec_GoodChart.j2 k x3 x29 x27 x28 x29 false x320000 x320001 ((rd_T88 x27 x29).f0) ((rd_T88 x27 x29).f1))) else (spec_GoodChart.j2 k x3 x29 x27 x28 x29 true x320000 x320001 ((rd_T88 x27 x29).f0) ((rd_T88 x27 x29).f1))) else (if x29 > 0 then (if ((rd_T88 x27 x29).f0) < 0 then (spec_GoodChart.j2 k x3 x29 x27 x28 x29 true x320000 x320001 ((rd_T88 x27 x29).f0) ((rd_T88 x27 x29).f1)) else (spec_GoodChart.j2 k x3 x29 x27 x28 x29 (decide (((rd_T88 x27 x29).f0) ≥ x29)) x320000 x320001 ((rd_T88 x27 x29).f0) ((rd_T88 x27 x29).f1))) else (spec_GoodChart.j2 k x3 x29 x27 x28 x29 false x320000 x320001 ((rd_T88 x27 x29).f0) ((rd_T88 x27 x29).f1)))) else (none)) else (none)) else (spec_GoodChart.l2 k x3 x320001 (x320001.length : Int) 0)
def spec_GoodChart.j2 : Nat → Int → Int → List (S88) → Int → Int → Bool → List (S88) → List (S90) → Int → Int → Option (Bool)
  | 0, _, _, _, _, _, _, _, _, _, _ => none
  | k + 1, x3, x4, x27, x28, x29, x55, x320000, x320001, x322000, x322001 => if x55 = true then (some false) else (spec_GoodChart.l1 k x3 x4 false x27 x28 x29 x320000 (x320000.length : Int) 0 x320000 x320001 x322000 x322001)
def spec_GoodChart.l1 : Nat → Int → Int → Bool → List (S88) → Int → Int → List (S88) → Int → Int → List (S88) → List (S90) → Int → Int → Option (Bool)
  | 0, _, _, _, _, _, _, _, _, _, _, _, _, _ => none
  | k + 1, x3, x4, x6, x27, x28, x29, x57, x58, x59, x320000, x320001, x322000, x322001 => if x59 < x58 then (if 0 ≤ x59 then (if x59 < (x57.length : Int) then (if x6 = true then (spec_GoodChart.l1 k x3 x4 true x27 x28 x29 x57 x58 (wrap64 (x59 + 1)) x320000 x320001 x322000 x322001) else (spec_GoodChart.l1 k x3 x4 (((rd_T88 x57 x59).f0) == x4) x27 x28 x29 x57 x58 (wrap64 (x59 + 1)) x320000 x320001 x322000 x322001)) else (none)) else (none)) else (if x6 = true then (if x322001 < 0 then (some false) else (if x322001 ≥ x3 then (some false) else (if 0 ≤ x322001 then (if x322001 < (x320000.length : Int) then (if ((rd_T88 x320000 x322001).f0) = x4 then (spec_GoodChart.l0 k x3 x27 x28 (wrap64 (x29 + 1)) x320000 x320001) else (some false)) else (none)) else (none)))) else (if x322001 = (-1) then (spec_GoodChart.l0 k x3 x27 x28 (wrap64 (x29 + 1)) x320000 x320001) else (some false)))
def spec_GoodChart.l2 : Nat → Int → List (S90) → Int → Int → Option (Bool)
  | 0, _, _, _, _ => none
  | k + 1, x3, x105, x106, x107 => if x107 < x106 then (if 0 ≤ x107 then (if x107 < (x105.length : Int) then (if ((rd_T90 x105 x107).f0) < 0 then (some false) else (if ((rd_T90 x105 x107).f0) ≥ x3 then (some false) else (if ((rd_T90 x105 x107).f2) < 0 then (some false) else (if ((rd_T90 x105 x107).f2) ≥ x3 then (some false) else (if ((rd_T90 x105 x107).f1) < 0 then (some false) else (if ((rd_T90 x105 x107).f1) ≥ 6 then (some false) else (spec_GoodChart.l2 k x3 x105 x106 (wrap64 (x107 + 1))))))))) else (none)) else (none)) else (some true)
end
def spec_GoodChart.f (k : Nat) (l0_0 : List (S88)) (l0_1 : List (S90)) : Option (Bool) := if (l0_0.length : Int) < 1 then (spec_GoodChart.j0 k (l0_0.length : Int) true l0_0 l0_1) else (if (l0_0.length : Int) > 12 then (spec_GoodChart.j0 k (l0_0.length : Int) true l0_0 l0_1) else (spec_GoodChart.j0 k (l0_0.length : Int) (decide ((l0_1.length : Int) > 24)) l0_0 l0_1))
theorem spec_GoodChart.mono_l : ∀ k, (∀ y0 y1 y2 y3, LeO (spec_GoodChart.j0 k y0 y1 y2 y3) (spec_GoodChart.j0 (k + 1) y0 y1 y2 y3)) ∧ (∀ y0 y1 y2 y3 y4 y5, LeO (spec_GoodChart.l0 k y0 y1 y2 y3 y4 y5) (spec_GoodChart.l0 (k + 1) y0 y1 y2 y3 y4 y5)) ∧ (∀ y0 y1 y2 y3 y4 y5 y6 y7 y8 y9, LeO (spec_GoodChart.j2 k y0 y1 y2 y3 y4 y5 y6 y7 y8 y9) (spec_GoodChart.j2 (k + 1) y0 y1 y2 y3 y4 y5 y6 y7 y8 y9)) ∧ (∀ y0 y1 y2 y3 y4 y5 y6 y7 y8 y9 y10 y11 y12, LeO (spec_GoodChart.l1 k y0 y1 y2 y3 y4 y5 y6 y7 y8 y9 y10 y11 y12) (spec_GoodChart.l1 (k + 1) y0 y1 y2 y3 y4 y5 y6 y7 y8 y9 y10 y11 y12)) ∧ (∀ y0 y1 y2 y3, LeO (spec_GoodChart.l2 k y0 y1 y2 y3) (spec_GoodChart.l2 (k + 1) y0 y1 y2 y3))
  | 0 => ⟨fun _ _ _ _ r h => by simp [spec_GoodChart.j0] at h, fun _ _ _ _ _ _ r h => by simp [spec_GoodChart.l0] at h, fun _ _ _ _ _ _ _ _ _ _ r h => by simp [spec_GoodChart.j2] at h, fun _ _ _ _ _ _ _ _ _ _ _ _ _ r h => by simp [spec_GoodChart.l1] at h, fun _ _ _ _ r h => by simp [spec_GoodChart.l2] at h⟩
  | k + 1 => by
    obtain ⟨ih0, ih1, ih2, ih3, ih4⟩ := spec_GoodChart.mono_l k
    refine ⟨?_, ?_, ?_, ?_, ?_⟩
    · intro y0 y1 y2 y3
      unfold spec_GoodChart.j0
      repeat' first | (with_reducible first | exact ih0 _ _ _ _ | exact ih1 _ _ _ _ _ _ | exact ih2 _ _ _ _ _ _ _ _ _ _ | exact ih3 _ _ _ _ _ _ _ _ _ _ _ _ _ | exact ih4 _ _ _ _ | exact LeO.refl _ | exact LeO.none _ | refine LeO.ite ?_ ?_ | refine LeO.bind ?_ (fun _ => ?_)) | exact ih0 _ _ _ _ | exact ih1 _ _ _ _ _ _ | exact ih2 _ _ _ _ _ _ _ _ _ _ | exact ih3 _ _ _ _ _ _ _ _ _ _ _ _ _ | exact ih4 _ _ _ _ | exact LeO.none _ | refine LeO.ite ?_ ?_ | refine LeO.bind ?_ (fun _ => ?_)
    · intro y0 y1 y2 y3 y4 y5
      unfold spec_GoodChart.l0
      repeat' first | (with_reducible first | exact ih0 _ _ _ _ | exact ih1 _ _ _ _ _ _ | exact ih2 _ _ _ _ _ _ _ _ _ _ | exact ih3 _ _ _ _ _ _ _ _ _ _ _ _ _ | exact ih4 _ _ _ _ | exact LeO.refl _ | exact LeO.none _ | refine LeO.ite ?_ ?_ | refine LeO.bind ?_ (fun _ => ?_)) | exact ih0 _ _ _ _ | exact ih1 _ _ _ _ _ _ | exact ih2 _ _ _ _ _ _ _ _ _ _ | exact ih3 _ _ _ _ _ _ _ _ _ _ _ _ _ | exact ih4 _ _ _ _ | exact LeO.none _ | refine LeO.ite ?_ ?_ | refine LeO.bind ?_ (fun _ => ?_)
    · intro y0 y1 y2 y3 y4 y5 y6 y7 y8 y9
      unfold spec_GoodChart.j2
      repeat' first | (with_reducible first | exact ih0 _ _ _ _ | exact ih1 _ _ _ _ _ _ | exact ih2 _ _ _ _ _ _ _ _ _ _ | exact ih3 _ _ _ _ _ _ _ _ _ _ _ _ _ | exact ih4 _ _ _ _ | exact LeO.refl _ | exact LeO.none _ | refine LeO.ite ?_ ?_ | refine LeO.bind ?_ (fun _ => ?_)) | exact ih0 _ _ _ _ | exact ih1 _ _ _ _ _ _ | exact ih2 _ _ _ _ _ _ _ _ _ _ | exact ih3 _ _ _ _ _ _ _ _ _ _ _ _ _ | exact ih4 _ _ _ _ | exact LeO.none _ | refine LeO.ite ?_ ?_ | refine LeO.bind ?_ (fun _ => ?_)
    · intro y0 y1 y2 y3 y4 y5 y6 y7 y8 y9 y10 y11 y12
      unfold spec_GoodChart.l1
      repeat' first | (with_reducible first | exact ih0 _ _ _ _ | exact ih1 _ _ _ _ _ _ | exact ih2 _ _ _ _ _ _ _ _ _ _ | exact ih3 _ _ _ _ _ _ _ _ _ _ _ _ _ | exact ih4 _ _ _ _ | exact LeO.refl _ | exact LeO.none _ | refine LeO.ite ?_ ?_ | refine LeO.bind ?_ (fun _ => ?_)) | exact ih0 _ _ _ _ | exact ih1 _ _ _ _ _ _ | exact ih2 _ _ _ _ _ _ _ _ _ _ | exact ih3 _ _ _ _ _ _ _ _ _ _ _ _ _ | exact ih4 _ _ _ _ | exact LeO.none _ | refine LeO.ite ?_ ?_ | refine LeO.bind ?_ (fun _ => ?_)
    · intro y0 y1 y2 y3
      unfold spec_GoodChart.l2
      repeat' first | (with_reducible first | exact ih0 _ _ _ _ | exact ih1 _ _ _ _ _ _ | exact ih2 _ _ _ _ _ _ _ _ _ _ | exact ih3 _ _ _ _ _ _ _ _ _ _ _ _ _ | exact ih4 _ _ _ _ | exact LeO.refl _ | exact LeO.none _ | refine LeO.ite ?_ ?_ | refine LeO.bind ?_ (fun _ => ?_)) | exact ih0 _ _ _ _ | exact ih1 _ _ _ _ _ _ | exact ih2 _ _ _ _ _ _ _ _ _ _ | exact ih3 _ _ _ _ _ _ _ _ _ _ _ _ _ | exact ih4 _ _ _ _ | exact LeO.none _ | refine LeO.ite ?_ ?_ | refine LeO.bind ?_ (fun _ => ?_)
theorem spec_GoodChart.mono : ∀ a0 a1 k, LeO (spec_GoodChart.f k a0 a1) (spec_GoodChart.f (k + 1) a0 a1) := by
  intro a0 a1 k
  obtain ⟨ih0, ih1, ih2, ih3, ih4⟩ := spec_GoodChart.mono_l k
  unfold spec_GoodChart.f
  repeat' first | (with_reducible first | exact ih0 _ _ _ _ | exact ih1 _ _ _ _ _ _ | exact ih2 _ _ _ _ _ _ _ _ _ _ | exact ih3 _ _ _ _ _ _ _ _ _ _ _ _ _ | exact ih4 _ _ _ _ | exact LeO.refl _ | exact LeO.none _ | refine LeO.ite ?_ ?_ | refine LeO.bind ?_ (fun _ => ?_)) | exact ih0 _ _ _ _ | exact ih1 _ _ _ _ _ _ | exact ih2 _ _ _ _ _ _ _ _ _ _ | exact ih3 _ _ _ _ _ _ _ _ _ _ _ _ _ | exact ih4 _ _ _ _ | exact LeO.none _ | refine LeO.ite ?_ ?_ | refine LeO.bind ?_ (fun _ => ?_)

/-! ### spec_l21Enter: function 70 -/
def spec_l21Enter.l0 : Nat → Int → List (S88) → List (S90) → Option (Int)
  | 0, _, _, _ => none
  | k + 1, x1, x328000, x328001 => if 0 ≤ x1 then (if x1 < (x328000.length : Int) then (if ((rd_T88 x328000 x1).f1) ≥ 0 then (spec_l21Enter.l0 k ((rd_T88 x328000 x1).f1) x328000 x328001) else (some x1)) else (none)) else (none)
def spec_l21Enter.f (k : Nat) (l0_0 : List (S88)) (l0_1 : List (S90)) (a1 : Int) : Option (Int) := spec_l21Enter.l0 k a1 l0_0 l0_1
theorem spec_l21Enter.mono_l : ∀ k, (∀ y0 y1 y2, LeO (spec_l21Enter.l0 k y0 y1 y2) (spec_l21Enter.l0 (k + 1) y0 y1 y2))
  | 0 => fun _ _ _ r h => by simp [spec_l21Enter.l0] at h
  | k + 1 => by
    have ih0 := spec_l21Enter.mono_l k
    · intro y0 y1 y2
      unfold spec_l21Enter.l0
      repeat' first | (with_reducible first | exact ih0 _ _ _ | exact LeO.refl _ | exact LeO.none _ | refine LeO.ite ?_ ?_ | refine LeO.bind ?_ (fun _ => ?_)) | exact ih0 _ _ _ | exact LeO.none _ | refine LeO.ite ?_ ?_ | refine LeO.bind ?_ (fun _ => ?_)
theorem spec_l21Enter.mono : ∀ a0 a1 a2 k, LeO (spec_l21Enter.f k a0 a1 a2) (spec_l21Enter.f (k + 1) a0 a1 a2) := by
  intro a0 a1 a2 k
  have ih0 := spec_l21Enter.mono_l k
  unfold spec_l21Enter.f
  repeat' first | (with_reducible first | exact ih0 _ _ _ | exact LeO.refl _ | exact LeO.none _ | refine LeO.ite ?_ ?_ | refine LeO.bind ?_ (fun _ => ?_)) | exact ih0 _ _ _ | exact LeO.none _ | refine LeO.ite ?_ ?_ | refine LeO.bind ?_ (fun _ => ?_)

/-! ### spec_l21Step: function 73 -/
mutual
def spec_l21Step.l0 : Nat → Int → Int → Int → List (S88) → List (S90) → Option (Int)
  | 0, _, _, _, _, _ => none
  | k + 1, x1, x2, x7, x331000, x331001 => if x7 ≥ 0 then (spec_l21Step.l1 k x1 x2 x7 x331001 (x331001.length : Int) 0 x331000 x331001) else (some x1)
def spec_l21Step.l1 : Nat → Int → Int → Int → List (S90) → Int → Int → List (S88) → List (S90) → Option (Int)
  | 0, _, _, _, _, _, _, _, _ => none
  | k + 1, x1, x2, x7, x20, x21, x22, x331000, x331001 => if x22 < x21 then (if 0 ≤ x22 then (if x22 < (x20.length : Int) then (if ((rd_T90 x20 x22).f0) = x7 then (if ((rd_T90 x20 x22).f1) = x2 then ((spec_l21Enter.f k x331000 x331001 ((rd_T90 x20 x22).f2)).bind fun t333 => (some t333)) else (spec_l21Step.l1 k x1 x2 x7 x20 x21 (wrap64 (x22 + 1)) x331000 x331001)) else (spec_l21Step.l1 k x1 x2 x7 x20 x21 (wrap64 (x22 + 1)) x331000 x331001)) else (none)) else (none)) else (if 0 ≤ x7 then (if x7 < (x331000.length : Int) then (spec_l21Step.l0 k x1 x2 ((rd_T88 x331000 x7).f0) x331000 x331001) else (none)) else (none))
end
def spec_l21Step.f (k : Nat) (l0_0 : List (S88)) (l0_1 : List (S90)) (a1 : Int) (a2 : Int) : Option (Int) := spec_l21Step.l0 k a1 a2 a1 l0_0 l0_1
theorem spec_l21Step.mono_l : ∀ k, (∀ y0 y1 y2 y3 y4, LeO (spec_l21Step.l0 k y0 y1 y2 y3 y4) (spec_l21Step.l0 (k + 1) y0 y1 y2 y3 y4)) ∧ (∀ y0 y1 y2 y3 y4 y5 y6 y7, LeO (spec_l21Step.l1 k y0 y1 y2 y3 y4 y5 y6 y7) (spec_l21Step.l1 (k + 1) y0 y1 y2 y3 y4 y5 y6 y7))
  | 0 => ⟨fun _ _ _ _ _ r h => by simp [spec_l21Step.l0] at h, fun _ _ _ _ _ _ _ _ r h => by simp [spec_l21Step.l1] at h⟩
  | k + 1 => by
    obtain ⟨ih0, ih1⟩ := spec_l21Step.mono_l k
    refine ⟨?_, ?_⟩
    · intro y0 y1 y2 y3 y4
      unfold spec_l21Step.l0
      repeat' first | (with_reducible first | exact ih0 _ _ _ _ _ | exact ih1 _ _ _ _ _ _ _ _ | exact spec_l21Enter.mono _ _ _ _ | exact LeO.refl _ | exact LeO.none _ | refine LeO.ite ?_ ?_ | refine LeO.bind ?_ (fun _ => ?_)) | exact ih0 _ _ _ _ _ | exact ih1 _ _ _ _ _ _ _ _ | exact spec_l21Enter.mono _ _ _ _ | exact LeO.none _ | refine LeO.ite ?_ ?_ | refine LeO.bind ?_ (fun _ => ?_)
    · intro y0 y1 y2 y3 y4 y5 y6 y7
      unfold spec_l21Step.l1
      repeat' first | (with_reducible first | exact ih0 _ _ _ _ _ | exact ih1 _ _ _ _ _ _ _ _ | exact spec_l21Enter.mono _ _ _ _ | exact LeO.refl _ | exact LeO.none _ | refine LeO.ite ?_ ?_ | refine LeO.bind ?_ (fun _ => ?_)) | exact ih0 _ _ _ _ _ | exact ih1 _ _ _ _ _ _ _ _ | exact spec_l21Enter.mono _ _ _ _ | exact LeO.none _ | refine LeO.ite ?_ ?_ | refine LeO.bind ?_ (fun _ => ?_)
theorem spec_l21Step.mono : ∀ a0 a1 a2 a3 k, LeO (spec_l21Step.f k a0 a1 a2 a3) (spec_l21Step.f (k + 1) a0 a1 a2 a3) := by
  intro a0 a1 a2 a3 k
  obtain ⟨ih0, ih1⟩ := spec_l21Step.mono_l k
  unfold spec_l21Step.f
  repeat' first | (with_reducible first | exact ih0 _ _ _ _ _ | exact ih1 _ _ _ _ _ _ _ _ | exact spec_l21Enter.mono _ _ _ _ | exact LeO.refl _ | exact LeO.none _ | refine LeO.ite ?_ ?_ | refine LeO.bind ?_ (fun _ => ?_)) | exact ih0 _ _ _ _ _ | exact ih1 _ _ _ _ _ _ _ _ | exact spec_l21Enter.mono _ _ _ _ | exact LeO.none _ | refine LeO.ite ?_ ?_ | refine LeO.bind ?_ (fun _ => ?_)

/-! ### spec_FlatChart: function 46 -/
mutual
def spec_FlatChart.l0 : Nat → List (List Int) → List (S88) → Int → Int → List (S88) → List (S90) → Option ((List (List Int)) × Bool)
  | 0, _, _, _, _, _, _ => none
  | k + 1, x4, x16, x17, x18, x336000, x336001 => if x18 < x17 then (if 0 ≤ x18 then (if x18 < (x16.length : Int) then (if ((rd_T88 x16 x18).f1) = (-1) then (spec_FlatChart.l1 k x4 x18 0 x16 x17 x18 x336000 x336001) else (spec_FlatChart.l0 k x4 x16 x17 (wrap64 (x18 + 1)) x336000 x336001)) else (none)) else (none)) else (some (x4, true))
def spec_FlatChart.l1 : Nat → List (List Int) → Int → Int → List (S88) → Int → Int → List (S88) → List (S90) → Option ((List (List Int)) × Bool)
  | 0, _, _, _, _, _, _, _, _ => none
  | k + 1, x4, x5, x7, x16, x17, x18, x336000, x336001 => if x7 < 6 then (if 0 ≤ x5 then (if x5 < (x4.length : Int) then ((spec_l21Step.f k x336000 x336001 x5 x7).bind fun t343 => (if (rd_L2 x4 x5).length < 17592186044416 then (spec_FlatChart.l1 k (x4.set (x5 : Int).toNat ((rd_L2 x4 x5) ++ [t343])) x5 (wrap64 (x7 + 1)) x16 x17 x18 x336000 x336001) else (none))) else (none)) else (none)) else (spec_FlatChart.l0 k x4 x16 x17 (wrap64 (x18 + 1)) x336000 x336001)
end
def spec_FlatChart.f (k : Nat) (l0_0 : List (S88)) (l0_1 : List (S90)) : Option ((List (List Int)) × Bool) := (spec_GoodChart.f k l0_0 l0_1).bind fun t336 => (if t336 = true then (if 0 ≤ (l0_0.length : Int) then (if ((l0_0.length : Int) : Int).toNat ≤ 11728124029610 then (spec_FlatChart.l0 k (List.replicate ((l0_0.length : Int) : Int).toNat []) l0_0 (l0_0.length : Int) 0 l0_0 l0_1) else (none)) else (none)) else (some (([] : List (List Int)), false)))
theorem spec_FlatChart.mono_l : ∀ k, (∀ y0 y1 y2 y3 y4 y5, LeO (spec_FlatChart.l0 k y0 y1 y2 y3 y4 y5) (spec_FlatChart.l0 (k + 1) y0 y1 y2 y3 y4 y5)) ∧ (∀ y0 y1 y2 y3 y4 y5 y6 y7, LeO (spec_FlatChart.l1 k y0 y1 y2 y3 y4 y5 y6 y7) (spec_FlatChart.l1 (k + 1) y0 y1 y2 y3 y4 y5 y6 y7))
  | 0 => ⟨fun _ _ _ _ _ _ r h => by simp [spec_FlatChart.l0] at h, fun _ _ _ _ _ _ _ _ r h => by simp [spec_FlatChart.l1] at h⟩
  | k + 1 => by
    obtain ⟨ih0, ih1⟩ := spec_FlatChart.mono_l k
    refine ⟨?_, ?_⟩
    · intro y0 y1 y2 y3 y4 y5
      unfold spec_FlatChart.l0
      repeat' first | (with_reducible first | exact ih0 _ _ _ _ _ _ | exact ih1 _ _ _ _ _ _ _ _ | exact spec_GoodChart.mono _ _ _ | exact spec_l21Step.mono _ _ _ _ _ | exact LeO.refl _ | exact LeO.none _ | refine LeO.ite ?_ ?_ | refine LeO.bind ?_ (fun _ => ?_)) | exact ih0 _ _ _ _ _ _ | exact ih1 _ _ _ _ _ _ _ _ | exact spec_GoodChart.mono _ _ _ | exact spec_l21Step.mono _ _ _ _ _ | exact LeO.none _ | refine LeO.ite ?_ ?_ | refine LeO.bind ?_ (fun _ => ?_)
    · intro y0 y1 y2 y3 y4 y5 y6 y7
      unfold spec_FlatChart.l1
      repeat' first | (with_reducible first | exact ih0 _ _ _ _ _ _ | exact ih1 _ _ _ _ _ _ _ _ | exact spec_GoodChart.mono _ _ _ | exact spec_l21Step.mono _ _ _ _ _ | exact LeO.refl _ | exact LeO.none _ | refine LeO.ite ?_ ?_ | refine LeO.bind ?_ (fun _ => ?_)) | exact ih0 _ _ _ _ _ _ | exact ih1 _ _ _ _ _ _ _ _ | exact spec_GoodChart.mono _ _ _ | exact spec_l21Step.mono _ _ _ _ _ | exact LeO.none _ | refine LeO.ite ?_ ?_ | refine LeO.bind ?_ (fun _ => ?_)
theorem spec_FlatChart.mono : ∀ a0 a1 k, LeO (spec_FlatChart.f k a0 a1) (spec_FlatChart.f (k + 1) a0 a1) := by
  intro a0 a1 k
  obtain ⟨ih0, ih1⟩ := spec_FlatChart.mono_l k
  unfold spec_FlatChart.f
  repeat' first | (with_reducible first | exact ih0 _ _ _ _ _ _ | exact ih1 _ _ _ _ _ _ _ _ | exact spec_GoodChart.mono _ _ _ | exact spec_l21Step.mono _ _ _ _ _ | exact LeO.refl _ | exact LeO.none _ | refine LeO.ite ?_ ?_ | refine LeO.bind ?_ (fun _ => ?_)) | exact ih0 _ _ _ _ _ _ | exact ih1 _ _ _ _ _ _ _ _ | exact spec_GoodChart.mono _ _ _ | exact spec_l21Step.mono _ _ _ _ _ | exact LeO.none _ | refine LeO.ite ?_ ?_ | refine LeO.bind ?_ (fun _ => ?_)

/-! ### laws_heldIntS: function 30 -/
def laws_heldIntS.l0 : Nat → List Int → Int → Int → Option (Int)
  | 0, _, _, _ => none
  | k + 1, x0, x1, x5 => if x5 < (x0.length : Int) then (if 0 ≤ x5 then (if (rd x0 x5) = x1 then (laws_heldIntS.l0 k x0 (wrap64 (x1 + 1)) (wrap64 (x5 + 1))) else (some (-1))) else (none)) else (some x1)
def laws_heldIntS.f (k : Nat) (l0 : List Int) (a1 : Int) : Option (Int) := laws_heldIntS.l0 k l0 a1 0
theorem laws_heldIntS.mono_l : ∀ k, (∀ y0 y1 y2, LeO (laws_heldIntS.l0 k y0 y1 y2) (laws_heldIntS.l0 (k + 1) y0 y1 y2))
  | 0 => fun _ _ _ r h => by simp [laws_heldIntS.l0] at h
  | k + 1 => by
    have ih0 := laws_heldIntS.mono_l k
    · intro y0 y1 y2
      unfold laws_heldIntS.l0
      repeat' first | (with_reducible first | exact ih0 _ _ _ | exact LeO.refl _ | exact LeO.none _ | refine LeO.ite ?_ ?_ | refine LeO.bind ?_ (fun _ => ?_)) | exact ih0 _ _ _ | exact LeO.none _ | refine LeO.ite ?_ ?_ | refine LeO.bind ?_ (fun _ => ?_)
theorem laws_heldIntS.mono : ∀ a0 a1 k, LeO (laws_heldIntS.f k a0 a1) (laws_heldIntS.f (k + 1) a0 a1) := by
  intro a0 a1 k
  have ih0 := laws_heldIntS.mono_l k
  unfold laws_heldIntS.f
  repeat' first | (with_reducible first | exact ih0 _ _ _ | exact LeO.refl _ | exact LeO.none _ | refine LeO.ite ?_ ?_ | refine LeO.bind ?_ (fun _ => ?_)) | exact ih0 _ _ _ | exact LeO.none _ | refine LeO.ite ?_ ?_ | refine LeO.bind ?_ (fun _ => ?_)

/-! ### laws_heldIntSS: function 47 -/
def laws_heldIntSS.l0 : Nat → List (List Int) → Int → Int → Option (Int)
  | 0, _, _, _ => none
  | k + 1, x0, x1, x5 => if x5 < (x0.length : Int) then (if 0 ≤ x5 then ((laws_heldIntS.f k (rd_L2 x0 x5) x1).bind fun t350 => (if t350 < 0 then (some (-1)) else (laws_heldIntSS.l0 k x0 t350 (wrap64 (x5 + 1))))) else (none)) else (some x1)
def laws_heldIntSS.f (k : Nat) (l0 : List (List Int)) (a1 : Int) : Option (Int) := laws_heldIntSS.l0 k l0 a1 0
theorem laws_heldIntSS.mono_l : ∀ k, (∀ y0 y1 y2, LeO (laws_heldIntSS.l0 k y0 y1 y2) (laws_heldIntSS.l0 (k + 1) y0 y1 y2))
  | 0 => fun _ _ _ r h => by simp [laws_heldIntSS.l0] at h
  | k + 1 => by
    have ih0 := laws_heldIntSS.mono_l k
    · intro y0 y1 y2
      unfold laws_heldIntSS.l0
      repeat' first | (with_reducible first | exact ih0 _ _ _ | exact laws_heldIntS.mono _ _ _ | exact LeO.refl _ | exact LeO.none _ | refine LeO.ite ?_ ?_ | refine LeO.bind ?_ (fun _ => ?_)) | exact ih0 _ _ _ | exact laws_heldIntS.mono _ _ _ | exact LeO.none _ | refine LeO.ite ?_ ?_ | refine LeO.bind ?_ (fun _ => ?_)
theorem laws_heldIntSS.mono : ∀ a0 a1 k, LeO (laws_heldIntSS.f k a0 a1) (laws_heldIntSS.f (k + 1) a0 a1) := by
  intro a0 a1 k
  have ih0 := laws_heldIntSS.mono_l k
  unfold laws_heldIntSS.f
  repeat' first | (with_reducible first | exact ih0 _ _ _ | exact laws_heldIntS.mono _ _ _ | exact LeO.refl _ | exact LeO.none _ | refine LeO.ite ?_ ?_ | refine LeO.bind ?_ (fun _ => ?_)) | exact ih0 _ _ _ | exact laws_heldIntS.mono _ _ _ | exact LeO.none _ | refine LeO.ite ?_ ?_ | refine LeO.bind ?_ (fun _ => ?_)

/-! ### laws_szIntS: function 60 -/
def laws_szIntS.f (l0 : List Int) (a1 : Int) : Option (Int) := if (wrap64 (a1 - (l0.length : Int))) < 0 then (some (-1)) else (some (wrap64 (a1 - (l0.length : Int))))

/-! ### laws_szIntSS: function 21 -/
def laws_szIntSS.l0 : Nat → List (List Int) → Int → Int → Option (Int)
  | 0, _, _, _ => none
  | k + 1, x0, x1, x5 => if x5 < (x0.length : Int) then (if 0 ≤ x5 then ((laws_szIntS.f (rd_L2 x0 x5) x1).bind fun t387 => (if t387 < 0 then (some (-1)) else (laws_szIntSS.l0 k x0 t387 (wrap64 (x5 + 1))))) else (none)) else (some x1)
def laws_szIntSS.f (k : Nat) (l0 : List (List Int)) (a1 : Int) : Option (Int) := if (wrap64 (a1 - (l0.length : Int))) < 0 then (some (-1)) else (laws_szIntSS.l0 k l0 (wrap64 (a1 - (l0.length : Int))) 0)
theorem laws_szIntSS.mono_l : ∀ k, (∀ y0 y1 y2, LeO (laws_szIntSS.l0 k y0 y1 y2) (laws_szIntSS.l0 (k + 1) y0 y1 y2))
  | 0 => fun _ _ _ r h => by simp [laws_szIntSS.l0] at h
  | k + 1 => by
    have ih0 := laws_szIntSS.mono_l k
    · intro y0 y1 y2
      unfold laws_szIntSS.l0
      repeat' first | (with_reducible first | exact ih0 _ _ _ | exact LeO.refl _ | exact LeO.none _ | refine LeO.ite ?_ ?_ | refine LeO.bind ?_ (fun _ => ?_)) | exact ih0 _ _ _ | exact LeO.none _ | refine LeO.ite ?_ ?_ | refine LeO.bind ?_ (fun _ => ?_)
theorem laws_szIntSS.mono : ∀ a0 a1 k, LeO (laws_szIntSS.f k a0 a1) (laws_szIntSS.f (k + 1) a0 a1) := by
  intro a0 a1 k
  have ih0 := laws_szIntSS.mono_l k
  unfold laws_szIntSS.f
  repeat' first | (with_reducible first | exact ih0 _ _ _ | exact LeO.refl _ | exact LeO.none _ | refine LeO.ite ?_ ?_ | refine LeO.bind ?_ (fun _ => ?_)) | exact ih0 _ _ _ | exact LeO.none _ | refine LeO.ite ?_ ?_ | refine LeO.bind ?_ (fun _ => ?_)

/-! ### spec_l21Event: function 72 -/
def spec_l21Event.f (a0 : Int) : Option (Bool) := if a0 ≥ 0 then (some (decide (a0 < 6))) else (some false)

/-! ### spec_l21Events: function 61 -/
def spec_l21Events.l0 : Nat → List Int → Int → Int → Option (Bool)
  | 0, _, _, _ => none
  | k + 1, x8, x9, x10 => if x10 < x9 then (if 0 ≤ x10 then (if x10 < (x8.length : Int) then ((spec_l21Event.f (rd x8 x10)).bind fun t389 => (if t389 = true then (spec_l21Events.l0 k x8 x9 (wrap64 (x10 + 1))) else (some false))) else (none)) else (none)) else (some true)
def spec_l21Events.f (k : Nat) (l0 : List Int) : Option (Bool) := if (l0.length : Int) > 60 then (some false) else (spec_l21Events.l0 k l0 (l0.length : Int) 0)
theorem spec_l21Events.mono_l : ∀ k, (∀ y0 y1 y2, LeO (spec_l21Events.l0 k y0 y1 y2) (spec_l21Events.l0 (k + 1) y0 y1 y2))
  | 0 => fun _ _ _ r h => by simp [spec_l21Events.l0] at h
  | k + 1 => by
    have ih0 := spec_l21Events.mono_l k
    · intro y0 y1 y2
      unfold spec_l21Events.l0
      repeat' first | (with_reducible first | exact ih0 _ _ _ | exact LeO.refl _ | exact LeO.none _ | refine LeO.ite ?_ ?_ | refine LeO.bind ?_ (fun _ => ?_)) | exact ih0 _ _ _ | exact LeO.none _ | refine LeO.ite ?_ ?_ | refine LeO.bind ?_ (fun _ => ?_)
theorem spec_l21Events.mono : ∀ a0 k, LeO (spec_l21Events.f k a0) (spec_l21Events.f (k + 1) a0) := by
  intro a0 k
  have ih0 := spec_l21Events.mono_l k
  unfold spec_l21Events.f
  repeat' first | (with_reducible first | exact ih0 _ _ _ | exact LeO.refl _ | exact LeO.none _ | refine LeO.ite ?_ ?_ | refine LeO.bind ?_ (fun _ => ?_)) | exact ih0 _ _ _ | exact LeO.none _ | refine LeO.ite ?_ ?_ | refine LeO.bind ?_ (fun _ => ?_)

/-! ### spec_RunFlat: function 22 -/
mutual
def spec_RunFlat.j0 : Nat → List (List Int) → Int → List Int → Bool → Option (List Int × Bool)
  | 0, _, _, _, _ => none
  | k + 1, x0, x1, x2, x38 => if x38 = true then (some (([] : List Int), false)) else (spec_RunFlat.l0 k x0 x1 x2 x0 (x0.length : Int) 0)
def spec_RunFlat.l0 : Nat → List (List Int) → Int → List Int → List (List Int) → Int → Int → Option (List Int × Bool)
  | 0, _, _, _, _, _, _ => none
  | k + 1, x0, x1, x2, x39, x40, x41 => if x41 < x40 then (if 0 ≤ x41 then (if x41 < (x39.length : Int) then (if ((rd_L2 x39 x41).length : Int) = 0 then (spec_RunFlat.l0 k x0 x1 x2 x39 x40 (wrap64 (x41 + 1))) else (if ((rd_L2 x39 x41).length : Int) = 6 then (spec_RunFlat.l0 k x0 x1 x2 x39 x40 (wrap64 (x41 + 1))) else (some (([] : List Int), false)))) else (none)) else (none)) else (spec_RunFlat.l1 k x0 x1 (([x1] : List Int)) x2 (x2.length : Int) 0)
def spec_RunFlat.l1 : Nat → List (List Int) → Int → List Int → List Int → Int → Int → Option (List Int × Bool)
  | 0, _, _, _, _, _, _ => none
  | k + 1, x0, x1, x10, x56, x57, x58 => if x58 < x57 then (if 0 ≤ x58 then (if x58 < (x56.length : Int) then (if 0 ≤ x1 then (if x1 < (x0.length : Int) then (if 0 ≤ (rd x56 x58) then (if (rd x56 x58) < ((rd_L2 x0 x1).length : Int) then (if (rd (rd_L2 x0 x1) (rd x56 x58)) < 0 then (some (([] : List Int), false)) else (if (rd (rd_L2 x0 x1) (rd x56 x58)) ≥ (x0.length : Int) then (some (([] : List Int), false)) else (if 0 ≤ (rd (rd_L2 x0 x1) (rd x56 x58)) then (if (rd (rd_L2 x0 x1) (rd x56 x58)) < (x0.length : Int) then (if ((rd_L2 x0 (rd (rd_L2 x0 x1) (rd x56 x58))).length : Int) = 0 then (some (([] : List Int), false)) else (if x10.length < 17592186044416 then (spec_RunFlat.l1 k x0 (rd (rd_L2 x0 x1) (rd x56 x58)) (x10 ++ [rd (rd_L2 x0 x1) (rd x56 x58)]) x56 x57 (wrap64 (x58 + 1))) else (none))) else (none)) else (none)))) else (none)) else (none)) else (none)) else (none)) else (none)) else (none)) else (some (x10, true))
end
def spec_RunFlat.f (k : Nat) (l0 : List (List Int)) (a1 : Int) (l2 : List Int) : Option (List Int × Bool) := if (l0.length : Int) > 12 then (spec_RunFlat.j0 k l0 a1 l2 true) else ((spec_l21Events.f k l2).bind fun t390 => (if t390 = true then (if a1 < 0 then (spec_RunFlat.j0 k l0 a1 l2 true) else (if a1 ≥ (l0.length : Int) then (spec_RunFlat.j0 k l0 a1 l2 true) else (if 0 ≤ a1 then (if a1 < (l0.length : Int) then (spec_RunFlat.j0 k l0 a1 l2 (((rd_L2 l0 a1).length : Int) == 0)) else (none)) else (none)))) else (spec_RunFlat.j0 k l0 a1 l2 true)))
theorem spec_RunFlat.mono_l : ∀ k, (∀ y0 y1 y2 y3, LeO (spec_RunFlat.j0 k y0 y1 y2 y3) (spec_RunFlat.j0 (k + 1) y0 y1 y2 y3)) ∧ (∀ y0 y1 y2 y3 y4 y5, LeO (spec_RunFlat.l0 k y0 y1 y2 y3 y4 y5) (spec_RunFlat.l0 (k + 1) y0 y1 y2 y3 y4 y5)) ∧ (∀ y0 y1 y2 y3 y4 y5, LeO (spec_RunFlat.l1 k y0 y1 y2 y3 y4 y5) (spec_RunFlat.l1 (k + 1) y0 y1 y2 y3 y4 y5))
  | 0 => ⟨fun _ _ _ _ r h => by simp [spec_RunFlat.j0] at h, fun _ _ _ _ _ _ r h => by simp [spec_RunFlat.l0] at h, fun _ _ _ _ _ _ r h => by simp [spec_RunFlat.l1] at h⟩
  | k + 1 => by
    obtain ⟨ih0, ih1, ih2⟩ := spec_RunFlat.mono_l k
    refine ⟨?_, ?_, ?_⟩
    · intro y0 y1 y2 y3
      unfold spec_RunFlat.j0
      repeat' first | (with_reducible first | exact ih0 _ _ _ _ | exact ih1 _ _ _ _ _ _ | exact ih2 _ _ _ _ _ _ | exact spec_l21Events.mono _ _ | exact LeO.refl _ | exact LeO.none _ | refine LeO.ite ?_ ?_ | refine LeO.bind ?_ (fun _ => ?_)) | exact ih0 _ _ _ _ | exact ih1 _ _ _ _ _ _ | exact ih2 _ _ _ _ _ _ | exact spec_l21Events.mono _ _ | exact LeO.none _ | refine LeO.ite ?_ ?_ | refine LeO.bind ?_ (fun _ => ?_)
    · intro y0 y1 y2 y3 y4 y5
      unfold spec_RunFlat.l0
      repeat' first | (with_reducible first | exact ih0 _ _ _ _ | exact ih1 _ _ _ _ _ _ | exact ih2 _ _ _ _ _ _ | exact spec_l21Events.mono _ _ | exact LeO.refl _ | exact LeO.none _ | refine LeO.ite ?_ ?_ | refine LeO.bind ?_ (fun _ => ?_)) | exact ih0 _ _ _ _ | exact ih1 _ _ _ _ _ _ | exact ih2 _ _ _ _ _ _ | exact spec_l21Events.mono _ _ | exact LeO.none _ | refine LeO.ite ?_ ?_ | refine LeO.bind ?_ (fun _ => ?_)
    · intro y0 y1 y2 y3 y4 y5
      unfold spec_RunFlat.l1
      repeat' first | (with_reducible first | exact ih0 _ _ _ _ | exact ih1 _ _ _ _ _ _ | exact ih2 _ _ _ _ _ _ | exact spec_l21Events.mono _ _ | exact LeO.refl _ | exact LeO.none _ | refine LeO.ite ?_ ?_ | refine LeO.bind ?_ (fun _ => ?_)) | exact ih0 _ _ _ _ | exact ih1 _ _ _ _ _ _ | exact ih2 _ _ _ _ _ _ | exact spec_l21Events.mono _ _ | exact LeO.none _ | refine LeO.ite ?_ ?_ | refine LeO.bind ?_ (fun _ => ?_)
theorem spec_RunFlat.mono : ∀ a0 a1 a2 k, LeO (spec_RunFlat.f k a0 a1 a2) (spec_RunFlat.f (k + 1) a0 a1 a2) := by
  intro a0 a1 a2 k
  obtain ⟨ih0, ih1, ih2⟩ := spec_RunFlat.mono_l k
  unfold spec_RunFlat.f
  repeat' first | (with_reducible first | exact ih0 _ _ _ _ | exact ih1 _ _ _ _ _ _ | exact ih2 _ _ _ _ _ _ | exact spec_l21Events.mono _ _ | exact LeO.refl _ | exact LeO.none _ | refine LeO.ite ?_ ?_ | refine LeO.bind ?_ (fun _ => ?_)) | exact ih0 _ _ _ _ | exact ih1 _ _ _ _ _ _ | exact ih2 _ _ _ _ _ _ | exact spec_l21Events.mono _ _ | exact LeO.none _ | refine LeO.ite ?_ ?_ | refine LeO.bind ?_ (fun _ => ?_)

/-! ### laws_toIntS: function 24 -/
def laws_toIntS.l0 : Nat → List Int → List Int → Int → Option (List Int)
  | 0, _, _, _ => none
  | k + 1, x0, x3, x4 => if x4 < (x0.length : Int) then (if 0 ≤ x4 then (if x4 < (x3.length : Int) then (laws_toIntS.l0 k x0 (x3.set (x4 : Int).toNat (rd x0 x4)) (wrap64 (x4 + 1))) else (none)) else (none)) else (some x3)
def laws_toIntS.f (k : Nat) (l0 : List Int) : Option (List Int) := if 0 ≤ (l0.length : Int) then (if ((l0.length : Int) : Int).toNat ≤ 35184372088832 then (laws_toIntS.l0 k l0 (List.replicate ((l0.length : Int) : Int).toNat 0) 0) else (none)) else (none)
theorem laws_toIntS.mono_l : ∀ k, (∀ y0 y1 y2, LeO (laws_toIntS.l0 k y0 y1 y2) (laws_toIntS.l0 (k + 1) y0 y1 y2))
  | 0 => fun _ _ _ r h => by simp [laws_toIntS.l0] at h
  | k + 1 => by
    have ih0 := laws_toIntS.mono_l k
    · intro y0 y1 y2
      unfold laws_toIntS.l0
      repeat' first | (with_reducible first | exact ih0 _ _ _ | exact LeO.refl _ | exact LeO.none _ | refine LeO.ite ?_ ?_ | refine LeO.bind ?_ (fun _ => ?_)) | exact ih0 _ _ _ | exact LeO.none _ | refine LeO.ite ?_ ?_ | refine LeO.bind ?_ (fun _ => ?_)
theorem laws_toIntS.mono : ∀ a0 k, LeO (laws_toIntS.f k a0) (laws_toIntS.f (k + 1) a0) := by
  intro a0 k
  have ih0 := laws_toIntS.mono_l k
  unfold laws_toIntS.f
  repeat' first | (with_reducible first | exact ih0 _ _ _ | exact LeO.refl _ | exact LeO.none _ | refine LeO.ite ?_ ?_ | refine LeO.bind ?_ (fun _ => ?_)) | exact ih0 _ _ _ | exact LeO.none _ | refine LeO.ite ?_ ?_ | refine LeO.bind ?_ (fun _ => ?_)

/-! ### laws_toIntSS: function 23 -/
def laws_toIntSS.l0 : Nat → List (List Int) → List (List Int) → Int → Option ((List (List Int)))
  | 0, _, _, _ => none
  | k + 1, x0, x3, x4 => if x4 < (x0.length : Int) then (if 0 ≤ x4 then ((laws_toIntS.f k (rd_L2 x0 x4)).bind fun t412 => (if x4 < (x3.length : Int) then (laws_toIntSS.l0 k x0 (x3.set (x4 : Int).toNat t412) (wrap64 (x4 + 1))) else (none))) else (none)) else (some x3)
def laws_toIntSS.f (k : Nat) (l0 : List (List Int)) : Option ((List (List Int))) := if 0 ≤ (l0.length : Int) then (if ((l0.length : Int) : Int).toNat ≤ 11728124029610 then (laws_toIntSS.l0 k l0 (List.replicate ((l0.length : Int) : Int).toNat []) 0) else (none)) else (none)
theorem laws_toIntSS.mono_l : ∀ k, (∀ y0 y1 y2, LeO (laws_toIntSS.l0 k y0 y1 y2) (laws_toIntSS.l0 (k + 1) y0 y1 y2))
  | 0 => fun _ _ _ r h => by simp [laws_toIntSS.l0] at h
  | k + 1 => by
    have ih0 := laws_toIntSS.mono_l k
    · intro y0 y1 y2
      unfold laws_toIntSS.l0
      repeat' first | (with_reducible first | exact ih0 _ _ _ | exact laws_toIntS.mono _ _ | exact LeO.refl _ | exact LeO.none _ | refine LeO.ite ?_ ?_ | refine LeO.bind ?_ (fun _ => ?_)) | exact ih0 _ _ _ | exact laws_toIntS.mono _ _ | exact LeO.none _ | refine LeO.ite ?_ ?_ | refine LeO.bind ?_ (fun _ => ?_)
theorem laws_toIntSS.mono : ∀ a0 k, LeO (laws_toIntSS.f k a0) (laws_toIntSS.f (k + 1) a0) := by
  intro a0 k
  have ih0 := laws_toIntSS.mono_l k
  unfold laws_toIntSS.f
  repeat' first | (with_reducible first | exact ih0 _ _ _ | exact laws_toIntS.mono _ _ | exact LeO.refl _ | exact LeO.none _ | refine LeO.ite ?_ ?_ | refine LeO.bind ?_ (fun _ => ?_)) | exact ih0 _ _ _ | exact laws_toIntS.mono _ _ | exact LeO.none _ | refine LeO.ite ?_ ?_ | refine LeO.bind ?_ (fun _ => ?_)

/-! ### impl_goodEvents: function 62 -/
def impl_goodEvents.l0 : Nat → List Int → List Int → Int → Int → Option (Bool)
  | 0, _, _, _, _ => none
  | k + 1, x0, x5, x6, x7 => if x7 < x6 then (if 0 ≤ x7 then (if x7 < (x5.length : Int) then ((impl_between.f (rd x5 x7) 0 5).bind fun t417 => (if t417 = true then (impl_goodEvents.l0 k x0 x5 x6 (wrap64 (x7 + 1))) else (some false))) else (none)) else (none)) else (some (decide ((x0.length : Int) ≤ 60)))
def impl_goodEvents.f (k : Nat) (l0 : List Int) : Option (Bool) := impl_goodEvents.l0 k l0 l0 (l0.length : Int) 0
theorem impl_goodEvents.mono_l : ∀ k, (∀ y0 y1 y2 y3, LeO (impl_goodEvents.l0 k y0 y1 y2 y3) (impl_goodEvents.l0 (k + 1) y0 y1 y2 y3))
  | 0 => fun _ _ _ _ r h => by simp [impl_goodEvents.l0] at h
  | k + 1 => by
    have ih0 := impl_goodEvents.mono_l k
    · intro y0 y1 y2 y3
      unfold impl_goodEvents.l0
      repeat' first | (with_reducible first | exact ih0 _ _ _ _ | exact LeO.refl _ | exact LeO.none _ | refine LeO.ite ?_ ?_ | refine LeO.bind ?_ (fun _ => ?_)) | exact ih0 _ _ _ _ | exact LeO.none _ | refine LeO.ite ?_ ?_ | refine LeO.bind ?_ (fun _ => ?_)
theorem impl_goodEvents.mono : ∀ a0 k, LeO (impl_goodEvents.f k a0) (impl_goodEvents.f (k + 1) a0) := by
  intro a0 k
  have ih0 := impl_goodEvents.mono_l k
  unfold impl_goodEvents.f
  repeat' first | (with_reducible first | exact ih0 _ _ _ _ | exact LeO.refl _ | exact LeO.none _ | refine LeO.ite ?_ ?_ | refine LeO.bind ?_ (fun _ => ?_)) | exact ih0 _ _ _ _ | exact LeO.none _ | refine LeO.ite ?_ ?_ | refine LeO.bind ?_ (fun _ => ?_)

/-! ### impl_EnterState: function 37 -/
def impl_EnterState.f (k : Nat) (l0_0 : List (S88)) (l0_1 : List (S90)) (a1 : Int) : Option (Int) := (impl_GoodChart.f k l0_0 l0_1).bind fun t436 => (if t436 = true then ((impl_between.f a1 0 (wrap64 ((l0_0.length : Int) - 1))).bind fun t437 => (if t437 = true then ((impl_Chart_enter.f k l0_0 l0_1 a1).bind fun t438 => (some t438)) else (some (-1)))) else (some (-1)))
theorem impl_EnterState.mono : ∀ a0 a1 a2 k, LeO (impl_EnterState.f k a0 a1 a2) (impl_EnterState.f (k + 1) a0 a1 a2) := by
  intro a0 a1 a2 k
  unfold impl_EnterState.f
  repeat' first | (with_reducible first | exact impl_Chart_enter.mono _ _ _ _ | exact impl_GoodChart.mono _ _ _ | exact LeO.refl _ | exact LeO.none _ | refine LeO.ite ?_ ?_ | refine LeO.bind ?_ (fun _ => ?_)) | exact impl_Chart_enter.mono _ _ _ _ | exact impl_GoodChart.mono _ _ _ | exact LeO.none _ | refine LeO.ite ?_ ?_ | refine LeO.bind ?_ (fun _ => ?_)

/-! ### spec_l1Cur_chart: function 75 -/
mutual
def spec_l1Cur_chart.j0 : Nat → Int → List Int → Int → Int → Option ((List (S88)) × (List (S90)) × Int × Int)
  | 0, _, _, _, _ => none
  | k + 1, x4, x1000, x1001, x1002 => spec_l1Cur_chart.l0 k x4 0 x1000 x1001 x1002 ([] : List (S88))
def spec_l1Cur_chart.l0 : Nat → Int → Int → List Int → Int → Int → List (S88) → Option ((List (S88)) × (List (S90)) × Int × Int)
  | 0, _, _, _, _, _, _ => none
  | k + 1, x4, x5, x1000, x1001, x1002, x441000 => if x5 < x4 then (if x5 > 0 then ((spec_l1Cur_pick.f x1000 x1001 x1002 x5).bind fun bt454 => (if x441000.length < 8796093022208 then (spec_l1Cur_chart.l0 k x4 (wrap64 (x5 + 1)) x1000 bt454.2.1 bt454.2.2 (x441000 ++ [(⟨bt454.1, (-1)⟩ : S88)])) else (none))) else (if x441000.length < 8796093022208 then (spec_l1Cur_chart.l0 k x4 (wrap64 (x5 + 1)) x1000 x1001 x1002 (x441000 ++ [(⟨(-1), (-1)⟩ : S88)])) else (none))) else (spec_l1Cur_chart.l1 k x4 1 x1000 x1001 x1002 x441000)
def spec_l1Cur_chart.l1 : Nat → Int → Int → List Int → Int → Int → List (S88) → Option ((List (S88)) × (List (S90)) × Int × Int)
  | 0, _, _, _, _, _, _ => none
  | k + 1, x4, x7, x1000, x1001, x1002, x441000 => if x7 < x4 then (if 0 ≤ x7 then (if x7 < (x441000.length : Int) then (if 0 ≤ ((rd_T88 x441000 x7).f0) then (if ((rd_T88 x441000 x7).f0) < (x441000.length : Int) then (if ((rd_T88 x441000 ((rd_T88 x441000 x7).f0)).f1) < 0 then (spec_l1Cur_chart.l1 k x4 (wrap64 (x7 + 1)) x1000 x1001 x1002 (x441000.set (((rd_T88 x441000 x7).f0) : Int).toNat (⟨(rd_T88 x441000 ((rd_T88 x441000 x7).f0)).f0, x7⟩ : S88))) else ((spec_l1Cur_one.f x1000 x1001 x1002 3).bind fun bt466 => (if bt466.1 = true then (spec_l1Cur_chart.l1 k x4 (wrap64 (x7 + 1)) x1000 bt466.2.1 bt466.2.2 (x441000.set (((rd_T88 x441000 x7).f0) : Int).toNat (⟨(rd_T88 x441000 ((rd_T88 x441000 x7).f0)).f0, x7⟩ : S88))) else (spec_l1Cur_chart.l1 k x4 (wrap64 (x7 + 1)) x1000 bt466.2.1 bt466.2.2 x441000)))) else (none)) else (none)) else (none)) else (none)) else (if x4 = 0 then (some (x441000, ([] : List (S90)), x1001, x1002)) else ((spec_l1Cur_pick.f x1000 x1001 x1002 10).bind fun bt470 => (spec_l1Cur_chart.l2 k x4 bt470.1 x1000 bt470.2.1 bt470.2.2 x441000 ([] : List (S90)))))
def spec_l1Cur_chart.l2 : Nat → Int → Int → List Int → Int → Int → List (S88) → List (S90) → Option ((List (S88)) × (List (S90)) × Int × Int)
  | 0, _, _, _, _, _, _, _ => none
  | k + 1, x4, x9, x1000, x1001, x1002, x441000, x441001 => if x9 > 0 then ((spec_l1Cur_pick.f x1000 x1001 x1002 x4).bind fun bt473 => ((spec_l1Cur_pick.f x1000 bt473.2.1 bt473.2.2 6).bind fun bt476 => ((spec_l1Cur_pick.f x1000 bt476.2.1 bt476.2.2 x4).bind fun bt479 => (if x441001.length < 5864062014805 then (spec_l1Cur_chart.l2 k x4 (wrap64 (x9 - 1)) x1000 bt479.2.1 bt479.2.2 x441000 (x441001 ++ [(⟨bt473.1, bt476.1, bt479.1⟩ : S90)])) else (none))))) else ((spec_l1Cur_pick.f x1000 x1001 x1002 24).bind fun bt485 => (if bt485.1 = 0 then ((spec_l1Cur_pick.f x1000 bt485.2.1 bt485.2.2 x4).bind fun bt488 => ((spec_l1Cur_pick.f x1000 bt488.2.1 bt488.2.2 x4).bind fun bt491 => (if 0 ≤ bt488.1 then (if bt488.1 < (x441000.length : Int) then (some ((x441000.set (bt488.1 : Int).toNat (⟨(rd_T88 x441000 bt488.1).f0, bt491.1⟩ : S88)), x441001, bt491.2.1, bt491.2.2)) else (none)) else (none)))) else (if bt485.1 = 1 then (if x441001.length < 5864062014805 then (some (x441000, (x441001 ++ [(⟨x4, 0, 0⟩ : S90)]), bt485.2.1, bt485.2.2)) else (none)) else (if bt485.1 = 2 then (if 0 ≤ (wrap64 (x4 - 1)) then (if (wrap64 (x4 - 1)) < (x441000.length : Int) then (some ((x441000.set ((wrap64 (x4 - 1)) : Int).toNat (⟨wrap64 (x4 - 1), (rd_T88 x441000 (wrap64 (x4 - 1))).f1⟩ : S88)), x441001, bt485.2.1, bt485.2.2)) else (none)) else (none)) else (some (x441000, x441001, bt485.2.1, bt485.2.2))))))
end
def spec_l1Cur_chart.f (k : Nat) (s0_0 : List Int) (s0_1 : Int) (s0_2 : Int) : Option ((List (S88)) × (List (S90)) × Int × Int) := (spec_l1Cur_pick.f s0_0 s0_1 s0_2 8).bind fun bt441 => ((spec_l1Cur_one.f s0_0 bt441.2.1 bt441.2.2 16).bind fun bt444 => (if bt444.1 = true then ((spec_l1Cur_among.f s0_0 bt444.2.1 bt444.2.2 (([0, 12, 13] : List Int))).bind fun bt450 => (spec_l1Cur_chart.j0 k bt450.1 s0_0 bt450.2.1 bt450.2.2)) else (spec_l1Cur_chart.j0 k (wrap64 (1 + bt441.1)) s0_0 bt444.2.1 bt444.2.2)))
theorem spec_l1Cur_chart.mono_l : ∀ k, (∀ y0 y1 y2 y3, LeO (spec_l1Cur_chart.j0 k y0 y1 y2 y3) (spec_l1Cur_chart.j0 (k + 1) y0 y1 y2 y3)) ∧ (∀ y0 y1 y2 y3 y4 y5, LeO (spec_l1Cur_chart.l0 k y0 y1 y2 y3 y4 y5) (spec_l1Cur_chart.l0 (k + 1) y0 y1 y2 y3 y4 y5)) ∧ (∀ y0 y1 y2 y3 y4 y5, LeO (spec_l1Cur_chart.l1 k y0 y1 y2 y3 y4 y5) (spec_l1Cur_chart.l1 (k + 1) y0 y1 y2 y3 y4 y5)) ∧ (∀ y0 y1 y2 y3 y4 y5 y6, LeO (spec_l1Cur_chart.l2 k y0 y1 y2 y3 y4 y5 y6) (spec_l1Cur_chart.l2 (k + 1) y0 y1 y2 y3 y4 y5 y6))
  | 0 => ⟨fun _ _ _ _ r h => by simp [spec_l1Cur_chart.j0] at h, fun _ _ _ _ _ _ r h => by simp [spec_l1Cur_chart.l0] at h, fun _ _ _ _ _ _ r h => by simp [spec_l1Cur_chart.l1] at h, fun _ _ _ _ _ _ _ r h => by simp [spec_l1Cur_chart.l2] at h⟩
  | k + 1 => by
    obtain ⟨ih0, ih1, ih2, ih3⟩ := spec_l1Cur_chart.mono_l k
    refine ⟨?_, ?_, ?_, ?_⟩
    · intro y0 y1 y2 y3
      unfold spec_l1Cur_chart.j0
      repeat' first | (with_reducible first | exact ih0 _ _ _ _ | exact ih1 _ _ _ _ _ _ | exact ih2 _ _ _ _ _ _ | exact ih3 _ _ _ _ _ _ _ | exact LeO.refl _ | exact LeO.none _ | refine LeO.ite ?_ ?_ | refine LeO.bind ?_ (fun _ => ?_)) | exact ih0 _ _ _ _ | exact ih1 _ _ _ _ _ _ | exact ih2 _ _ _ _ _ _ | exact ih3 _ _ _ _ _ _ _ | exact LeO.none _ | refine LeO.ite ?_ ?_ | refine LeO.bind ?_ (fun _ => ?_)
    · intro y0 y1 y2 y3 y4 y5
      unfold spec_l1Cur_chart.l0
      repeat' first | (with_reducible first | exact ih0 _ _ _ _ | exact ih1 _ _ _ _ _ _ | exact ih2 _ _ _ _ _ _ | exact ih3 _ _ _ _ _ _ _ | exact LeO.refl _ | exact LeO.none _ | refine LeO.ite ?_ ?_ | refine LeO.bind ?_ (fun _ => ?_)) | exact ih0 _ _ _ _ | exact ih1 _ _ _ _ _ _ | exact ih2 _ _ _ _ _ _ | exact ih3 _ _ _ _ _ _ _ | exact LeO.none _ | refine LeO.ite ?_ ?_ | refine LeO.bind ?_ (fun _ => ?_)
    · intro y0 y1 y2 y3 y4 y5
      unfold spec_l1Cur_chart.l1
      repeat' first | (with_reducible first | exact ih0 _ _ _ _ | exact ih1 _ _ _ _ _ _ | exact ih2 _ _ _ _ _ _ | exact ih3 _ _ _ _ _ _ _ | exact LeO.refl _ | exact LeO.none _ | refine LeO.ite ?_ ?_ | refine LeO.bind ?_ (fun _ => ?_)) | exact ih0 _ _ _ _ | exact ih1 _ _ _ _ _ _ | exact ih2 _ _ _ _ _ _ | exact ih3 _ _ _ _ _ _ _ | exact LeO.none _ | refine LeO.ite ?_ ?_ | refine LeO.bind ?_ (fun _ => ?_)
    · intro y0 y1 y2 y3 y4 y5 y6
      unfold spec_l1Cur_chart.l2
      repeat' first | (with_reducible first | exact ih0 _ _ _ _ | exact ih1 _ _ _ _ _ _ | exact ih2 _ _ _ _ _ _ | exact ih3 _ _ _ _ _ _ _ | exact LeO.refl _ | exact LeO.none _ | refine LeO.ite ?_ ?_ | refine LeO.bind ?_ (fun _ => ?_)) | exact ih0 _ _ _ _ | exact ih1 _ _ _ _ _ _ | exact ih2 _ _ _ _ _ _ | exact ih3 _ _ _ _ _ _ _ | exact LeO.none _ | refine LeO.ite ?_ ?_ | refine LeO.bind ?_ (fun _ => ?_)
theorem spec_l1Cur_chart.mono : ∀ a0 a1 a2 k, LeO (spec_l1Cur_chart.f k a0 a1 a2) (spec_l1Cur_chart.f (k + 1) a0 a1 a2) := by
  intro a0 a1 a2 k
  obtain ⟨ih0, ih1, ih2, ih3⟩ := spec_l1Cur_chart.mono_l k
  unfold spec_l1Cur_chart.f
  repeat' first | (with_reducible first | exact ih0 _ _ _ _ | exact ih1 _ _ _ _ _ _ | exact ih2 _ _ _ _ _ _ | exact ih3 _ _ _ _ _ _ _ | exact LeO.refl _ | exact LeO.none _ | refine LeO.ite ?_ ?_ | refine LeO.bind ?_ (fun _ => ?_)) | exact ih0 _ _ _ _ | exact ih1 _ _ _ _ _ _ | exact ih2 _ _ _ _ _ _ | exact ih3 _ _ _ _ _ _ _ | exact LeO.none _ | refine LeO.ite ?_ ?_ | refine LeO.bind ?_ (fun _ => ?_)

/-! ### spec_l1Cur_events: function 76 -/
mutual
def spec_l1Cur_events.j0 : Nat → List Int → Int → List Int → Int → Int → Option (List Int × Int × Int)
  | 0, _, _, _, _, _ => none
  | k + 1, x3, x4, x1000, x1001, x1002 => spec_l1Cur_events.l0 k x3 x4 x1000 x1001 x1002
def spec_l1Cur_events.l0 : Nat → List Int → Int → List Int → Int → Int → Option (List Int × Int × Int)
  | 0, _, _, _, _, _ => none
  | k + 1, x3, x4, x1000, x1001, x1002 => if x4 > 0 then ((spec_l1Cur_pick.f x1000 x1001 x1002 6).bind fun bt508 => ((spec_l1Cur_one.f x1000 bt508.2.1 bt508.2.2 100).bind fun bt511 => (if bt511.1 = true then (if x3.length < 17592186044416 then (spec_l1Cur_events.l0 k (x3 ++ [6]) (wrap64 (x4 - 1)) x1000 bt511.2.1 bt511.2.2) else (none)) else (if x3.length < 17592186044416 then (spec_l1Cur_events.l0 k (x3 ++ [bt508.1]) (wrap64 (x4 - 1)) x1000 bt511.2.1 bt511.2.2) else (none))))) else (some (x3, x1001, x1002))
end
def spec_l1Cur_events.f (k : Nat) (s0_0 : List Int) (s0_1 : Int) (s0_2 : Int) : Option (List Int × Int × Int) := (spec_l1Cur_pick.f s0_0 s0_1 s0_2 12).bind fun bt499 => ((spec_l1Cur_one.f s0_0 bt499.2.1 bt499.2.2 20).bind fun bt502 => (if bt502.1 = true then ((spec_l1Cur_pick.f s0_0 bt502.2.1 bt502.2.2 3).bind fun bt505 => (spec_l1Cur_events.j0 k ([] : List Int) (wrap64 (59 + bt505.1)) s0_0 bt505.2.1 bt505.2.2)) else (spec_l1Cur_events.j0 k ([] : List Int) bt499.1 s0_0 bt502.2.1 bt502.2.2)))
theorem spec_l1Cur_events.mono_l : ∀ k, (∀ y0 y1 y2 y3 y4, LeO (spec_l1Cur_events.j0 k y0 y1 y2 y3 y4) (spec_l1Cur_events.j0 (k + 1) y0 y1 y2 y3 y4)) ∧ (∀ y0 y1 y2 y3 y4, LeO (spec_l1Cur_events.l0 k y0 y1 y2 y3 y4) (spec_l1Cur_events.l0 (k + 1) y0 y1 y2 y3 y4))
  | 0 => ⟨fun _ _ _ _ _ r h => by simp [spec_l1Cur_events.j0] at h, fun _ _ _ _ _ r h => by simp [spec_l1Cur_events.l0] at h⟩
  | k + 1 => by
    obtain ⟨ih0, ih1⟩ := spec_l1Cur_events.mono_l k
    refine ⟨?_, ?_⟩
    · intro y0 y1 y2 y3 y4
      unfold spec_l1Cur_events.j0
      repeat' first | (with_reducible first | exact ih0 _ _ _ _ _ | exact ih1 _ _ _ _ _ | exact LeO.refl _ | exact LeO.none _ | refine LeO.ite ?_ ?_ | refine LeO.bind ?_ (fun _ => ?_)) | exact ih0 _ _ _ _ _ | exact ih1 _ _ _ _ _ | exact LeO.none _ | refine LeO.ite ?_ ?_ | refine LeO.bind ?_ (fun _ => ?_)
    · intro y0 y1 y2 y3 y4
      unfold spec_l1Cur_events.l0
      repeat' first | (with_reducible first | exact ih0 _ _ _ _ _ | exact ih1 _ _ _ _ _ | exact LeO.refl _ | exact LeO.none _ | refine LeO.ite ?_ ?_ | refine LeO.bind ?_ (fun _ => ?_)) | exact ih0 _ _ _ _ _ | exact ih1 _ _ _ _ _ | exact LeO.none _ | refine LeO.ite ?_ ?_ | refine LeO.bind ?_ (fun _ => ?_)
theorem spec_l1Cur_events.mono : ∀ a0 a1 a2 k, LeO (spec_l1Cur_events.f k a0 a1 a2) (spec_l1Cur_events.f (k + 1) a0 a1 a2) := by
  intro a0 a1 a2 k
  obtain ⟨ih0, ih1⟩ := spec_l1Cur_events.mono_l k
  unfold spec_l1Cur_events.f
  repeat' first | (with_reducible first | exact ih0 _ _ _ _ _ | exact ih1 _ _ _ _ _ | exact LeO.refl _ | exact LeO.none _ | refine LeO.ite ?_ ?_ | refine LeO.bind ?_ (fun _ => ?_)) | exact ih0 _ _ _ _ _ | exact ih1 _ _ _ _ _ | exact LeO.none _ | refine LeO.ite ?_ ?_ | refine LeO.bind ?_ (fun _ => ?_)

/-! ### spec_DrawRunChart: function 40 -/
def spec_DrawRunChart.f (k : Nat) (l0 : List Int) : Option ((List (S88)) × (List (S90)) × List Int) := (spec_l1Cur_chart.f k l0 0 0).bind fun bt522 => ((spec_l1Cur_events.f k l0 bt522.2.2.1 bt522.2.2.2).bind fun bt530 => (some (bt522.1, bt522.2.1, bt530.1)))
theorem spec_DrawRunChart.mono : ∀ a0 k, LeO (spec_DrawRunChart.f k a0) (spec_DrawRunChart.f (k + 1) a0) := by
  intro a0 k
  unfold spec_DrawRunChart.f
  repeat' first | (with_reducible first | exact spec_l1Cur_chart.mono _ _ _ _ | exact spec_l1Cur_events.mono _ _ _ _ | exact LeO.refl _ | exact LeO.none _ | refine LeO.ite ?_ ?_ | refine LeO.bind ?_ (fun _ => ?_)) | exact spec_l1Cur_chart.mono _ _ _ _ | exact spec_l1Cur_events.mono _ _ _ _ | exact LeO.none _ | refine LeO.ite ?_ ?_ | refine LeO.bind ?_ (fun _ => ?_)

/-! ### impl_RunChart: function 41 -/
mutual
def impl_RunChart.j0 : Nat → List Int → Bool → List (S88) → List (S90) → Option (List Int × Bool)
  | 0, _, _, _, _ => none
  | k + 1, x1, x16, x536000, x536001 => if x16 = true then (some (([] : List Int), false)) else ((impl_Chart_enter.f k x536000 x536001 0).bind fun t538 => (impl_RunChart.l0 k (([t538] : List Int)) x1 (x1.length : Int) 0 x536000 x536001))
def impl_RunChart.l0 : Nat → List Int → List Int → Int → Int → List (S88) → List (S90) → Option (List Int × Bool)
  | 0, _, _, _, _, _, _ => none
  | k + 1, x6, x20, x21, x22, x536000, x536001 => if x22 < x21 then (if 0 ≤ x22 then (if x22 < (x20.length : Int) then (if 0 ≤ (wrap64 ((x6.length : Int) - 1)) then (if (wrap64 ((x6.length : Int) - 1)) < (x6.length : Int) then ((impl_Chart_step.f k x536000 x536001 (rd x6 (wrap64 ((x6.length : Int) - 1))) (rd x20 x22)).bind fun t544 => (if x6.length < 17592186044416 then (impl_RunChart.l0 k (x6 ++ [t544]) x20 x21 (wrap64 (x22 + 1)) x536000 x536001) else (none))) else (none)) else (none)) else (none)) else (none)) else (some (x6, true))
end
def impl_RunChart.f (k : Nat) (l0_0 : List (S88)) (l0_1 : List (S90)) (l1 : List Int) : Option (List Int × Bool) := (impl_GoodChart.f k l0_0 l0_1).bind fun t536 => (if t536 = true then ((impl_goodEvents.f k l1).bind fun t537 => (impl_RunChart.j0 k l1 (!t537) l0_0 l0_1)) else (impl_RunChart.j0 k l1 true l0_0 l0_1))
theorem impl_RunChart.mono_l : ∀ k, (∀ y0 y1 y2 y3, LeO (impl_RunChart.j0 k y0 y1 y2 y3) (impl_RunChart.j0 (k + 1) y0 y1 y2 y3)) ∧ (∀ y0 y1 y2 y3 y4 y5, LeO (impl_RunChart.l0 k y0 y1 y2 y3 y4 y5) (impl_RunChart.l0 (k + 1) y0 y1 y2 y3 y4 y5))
  | 0 => ⟨fun _ _ _ _ r h => by simp [impl_RunChart.j0] at h, fun _ _ _ _ _ _ r h => by simp [impl_RunChart.l0] at h⟩
  | k + 1 => by
    obtain ⟨ih0, ih1⟩ := impl_RunChart.mono_l k
    refine ⟨?_, ?_⟩
    · intro y0 y1 y2 y3
      unfold impl_RunChart.j0
      repeat' first | (with_reducible first | exact ih0 _ _ _ _ | exact ih1 _ _ _ _ _ _ | exact impl_Chart_enter.mono _ _ _ _ | exact impl_Chart_step.mono _ _ _ _ _ | exact impl_GoodChart.mono _ _ _ | exact impl_goodEvents.mono _ _ | exact LeO.refl _ | exact LeO.none _ | refine LeO.ite ?_ ?_ | refine LeO.bind ?_ (fun _ => ?_)) | exact ih0 _ _ _ _ | exact ih1 _ _ _ _ _ _ | exact impl_Chart_enter.mono _ _ _ _ | exact impl_Chart_step.mono _ _ _ _ _ | exact impl_GoodChart.mono _ _ _ | exact impl_goodEvents.mono _ _ | exact LeO.none _ | refine LeO.ite ?_ ?_ | refine LeO.bind ?_ (fun _ => ?_)
    · intro y0 y1 y2 y3 y4 y5
      unfold impl_RunChart.l0
      repeat' first | (with_reducible first | exact ih0 _ _ _ _ | exact ih1 _ _ _ _ _ _ | exact impl_Chart_enter.mono _ _ _ _ | exact impl_Chart_step.mono _ _ _ _ _ | exact impl_GoodChart.mono _ _ _ | exact impl_goodEvents.mono _ _ | exact LeO.refl _ | exact LeO.none _ | refine LeO.ite ?_ ?_ | refine LeO.bind ?_ (fun _ => ?_)) | exact ih0 _ _ _ _ | exact ih1 _ _ _ _ _ _ | exact impl_Chart_enter.mono _ _ _ _ | exact impl_Chart_step.mono _ _ _ _ _ | exact impl_GoodChart.mono _ _ _ | exact impl_goodEvents.mono _ _ | exact LeO.none _ | refine LeO.ite ?_ ?_ | refine LeO.bind ?_ (fun _ => ?_)
theorem impl_RunChart.mono : ∀ a0 a1 a2 k, LeO (impl_RunChart.f k a0 a1 a2) (impl_RunChart.f (k + 1) a0 a1 a2) := by
  intro a0 a1 a2 k
  obtain ⟨ih0, ih1⟩ := impl_RunChart.mono_l k
  unfold impl_RunChart.f
  repeat' first | (with_reducible first | exact ih0 _ _ _ _ | exact ih1 _ _ _ _ _ _ | exact impl_Chart_enter.mono _ _ _ _ | exact impl_Chart_step.mono _ _ _ _ _ | exact impl_GoodChart.mono _ _ _ | exact impl_goodEvents.mono _ _ | exact LeO.refl _ | exact LeO.none _ | refine LeO.ite ?_ ?_ | refine LeO.bind ?_ (fun _ => ?_)) | exact ih0 _ _ _ _ | exact ih1 _ _ _ _ _ _ | exact impl_Chart_enter.mono _ _ _ _ | exact impl_Chart_step.mono _ _ _ _ _ | exact impl_GoodChart.mono _ _ _ | exact impl_goodEvents.mono _ _ | exact LeO.none _ | refine LeO.ite ?_ ?_ | refine LeO.bind ?_ (fun _ => ?_)

/-! ### spec_RunChart: function 42 -/
mutual
def spec_RunChart.j0 : Nat → List Int → Bool → List (S88) → List (S90) → Option (List Int × Bool)
  | 0, _, _, _, _ => none
  | k + 1, x1, x17, x549000, x549001 => if x17 = true then (some (([] : List Int), false)) else ((spec_l21Enter.f k x549000 x549001 0).bind fun t551 => (spec_RunChart.l0 k t551 (([t551] : List Int)) x1 (x1.length : Int) 0 x549000 x549001))
def spec_RunChart.l0 : Nat → Int → List Int → List Int → Int → Int → List (S88) → List (S90) → Option (List Int × Bool)
  | 0, _, _, _, _, _, _, _ => none
  | k + 1, x6, x7, x22, x23, x24, x549000, x549001 => if x24 < x23 then (if 0 ≤ x24 then (if x24 < (x22.length : Int) then ((spec_l21Step.f k x549000 x549001 x6 (rd x22 x24)).bind fun t556 => (if x7.length < 17592186044416 then (spec_RunChart.l0 k t556 (x7 ++ [t556]) x22 x23 (wrap64 (x24 + 1)) x549000 x549001) else (none))) else (none)) else (none)) else (some (x7, true))
end
def spec_RunChart.f (k : Nat) (l0_0 : List (S88)) (l0_1 : List (S90)) (l1 : List Int) : Option (List Int × Bool) := (spec_GoodChart.f k l0_0 l0_1).bind fun t549 => (if t549 = true then ((spec_l21Events.f k l1).bind fun t550 => (spec_RunChart.j0 k l1 (!t550) l0_0 l0_1)) else (spec_RunChart.j0 k l1 true l0_0 l0_1))
theorem spec_RunChart.mono_l : ∀ k, (∀ y0 y1 y2 y3, LeO (spec_RunChart.j0 k y0 y1 y2 y3) (spec_RunChart.j0 (k + 1) y0 y1 y2 y3)) ∧ (∀ y0 y1 y2 y3 y4 y5 y6, LeO (spec_RunChart.l0 k y0 y1 y2 y3 y4 y5 y6) (spec_RunChart.l0 (k + 1) y0 y1 y2 y3 y4 y5 y6))
  | 0 => ⟨fun _ _ _ _ r h => by simp [spec_RunChart.j0] at h, fun _ _ _ _ _ _ _ r h => by simp [spec_RunChart.l0] at h⟩
  | k + 1 => by
    obtain ⟨ih0, ih1⟩ := spec_RunChart.mono_l k
    refine ⟨?_, ?_⟩
    · intro y0 y1 y2 y3
      unfold spec_RunChart.j0
      repeat' first | (with_reducible first | exact ih0 _ _ _ _ | exact ih1 _ _ _ _ _ _ _ | exact spec_GoodChart.mono _ _ _ | exact spec_l21Enter.mono _ _ _ _ | exact spec_l21Events.mono _ _ | exact spec_l21Step.mono _ _ _ _ _ | exact LeO.refl _ | exact LeO.none _ | refine LeO.ite ?_ ?_ | refine LeO.bind ?_ (fun _ => ?_)) | exact ih0 _ _ _ _ | exact ih1 _ _ _ _ _ _ _ | exact spec_GoodChart.mono _ _ _ | exact spec_l21Enter.mono _ _ _ _ | exact spec_l21Events.mono _ _ | exact spec_l21Step.mono _ _ _ _ _ | exact LeO.none _ | refine LeO.ite ?_ ?_ | refine LeO.bind ?_ (fun _ => ?_)
    · intro y0 y1 y2 y3 y4 y5 y6
      unfold spec_RunChart.l0
      repeat' first | (with_reducible first | exact ih0 _ _ _ _ | exact ih1 _ _ _ _ _ _ _ | exact spec_GoodChart.mono _ _ _ | exact spec_l21Enter.mono _ _ _ _ | exact spec_l21Events.mono _ _ | exact spec_l21Step.mono _ _ _ _ _ | exact LeO.refl _ | exact LeO.none _ | refine LeO.ite ?_ ?_ | refine LeO.bind ?_ (fun _ => ?_)) | exact ih0 _ _ _ _ | exact ih1 _ _ _ _ _ _ _ | exact spec_GoodChart.mono _ _ _ | exact spec_l21Enter.mono _ _ _ _ | exact spec_l21Events.mono _ _ | exact spec_l21Step.mono _ _ _ _ _ | exact LeO.none _ | refine LeO.ite ?_ ?_ | refine LeO.bind ?_ (fun _ => ?_)
theorem spec_RunChart.mono : ∀ a0 a1 a2 k, LeO (spec_RunChart.f k a0 a1 a2) (spec_RunChart.f (k + 1) a0 a1 a2) := by
  intro a0 a1 a2 k
  obtain ⟨ih0, ih1⟩ := spec_RunChart.mono_l k
  unfold spec_RunChart.f
  repeat' first | (with_reducible first | exact ih0 _ _ _ _ | exact ih1 _ _ _ _ _ _ _ | exact spec_GoodChart.mono _ _ _ | exact spec_l21Enter.mono _ _ _ _ | exact spec_l21Events.mono _ _ | exact spec_l21Step.mono _ _ _ _ _ | exact LeO.refl _ | exact LeO.none _ | refine LeO.ite ?_ ?_ | refine LeO.bind ?_ (fun _ => ?_)) | exact ih0 _ _ _ _ | exact ih1 _ _ _ _ _ _ _ | exact spec_GoodChart.mono _ _ _ | exact spec_l21Enter.mono _ _ _ _ | exact spec_l21Events.mono _ _ | exact spec_l21Step.mono _ _ _ _ _ | exact LeO.none _ | refine LeO.ite ?_ ?_ | refine LeO.bind ?_ (fun _ => ?_)

/-! ### spec_SameInts: function 44 -/
def spec_SameInts.l0 : Nat → List Int → List Int → Int → Int → Option (Bool)
  | 0, _, _, _, _ => none
  | k + 1, x0, x1, x12, x13 => if x13 < x12 then (if 0 ≤ x13 then (if x13 < (x0.length : Int) then (if x13 < (x1.length : Int) then (if (rd x0 x13) = (rd x1 x13) then (spec_SameInts.l0 k x0 x1 x12 (wrap64 (x13 + 1))) else (some false)) else (none)) else (none)) else (none)) else (some true)
def spec_SameInts.f (k : Nat) (l0 : List Int) (l1 : List Int) : Option (Bool) := if (l0.length : Int) = (l1.length : Int) then (spec_SameInts.l0 k l0 l1 (l0.length : Int) 0) else (some false)
theorem spec_SameInts.mono_l : ∀ k, (∀ y0 y1 y2 y3, LeO (spec_SameInts.l0 k y0 y1 y2 y3) (spec_SameInts.l0 (k + 1) y0 y1 y2 y3))
  | 0 => fun _ _ _ _ r h => by simp [spec_SameInts.l0] at h
  | k + 1 => by
    have ih0 := spec_SameInts.mono_l k
    · intro y0 y1 y2 y3
      unfold spec_SameInts.l0
      repeat' first | (with_reducible first | exact ih0 _ _ _ _ | exact LeO.refl _ | exact LeO.none _ | refine LeO.ite ?_ ?_ | refine LeO.bind ?_ (fun _ => ?_)) | exact ih0 _ _ _ _ | exact LeO.none _ | refine LeO.ite ?_ ?_ | refine LeO.bind ?_ (fun _ => ?_)
theorem spec_SameInts.mono : ∀ a0 a1 k, LeO (spec_SameInts.f k a0 a1) (spec_SameInts.f (k + 1) a0 a1) := by
  intro a0 a1 k
  have ih0 := spec_SameInts.mono_l k
  unfold spec_SameInts.f
  repeat' first | (with_reducible first | exact ih0 _ _ _ _ | exact LeO.refl _ | exact LeO.none _ | refine LeO.ite ?_ ?_ | refine LeO.bind ?_ (fun _ => ?_)) | exact ih0 _ _ _ _ | exact LeO.none _ | refine LeO.ite ?_ ?_ | refine LeO.bind ?_ (fun _ => ?_)

end Go.Proofs.Ytkhkgfihodljmaa.Pr
