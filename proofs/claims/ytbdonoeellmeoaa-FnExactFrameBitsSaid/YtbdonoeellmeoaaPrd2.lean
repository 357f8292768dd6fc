-- Written by this session's own print (wip/tools/mkmp.py) out of the translation. Lean checks it.
import Derived.Test.YtbdonoeellmeoaaPr0
import Derived.Test.YtbdonoeellmeoaaPrd1
import Derived.Test.YtbdonoeellmeoaaStd
namespace Go.Proofs.Ytbdonoeellmeoaa.Pr
open Go.RowKit Go.Proofs.YtbdonoeellmeoaaW.PrintWords Go.Proofs.YtbdonoeellmeoaaW.PrintLast Go.Proofs.YtbdonoeellmeoaaW.PrintMore
attribute [local go_sem] max2_int min2_int max_two min_two max_three min_three max_four min_four   -- for this text's walks alone
set_option linter.unusedVariables false
set_option linter.unusedSimpArgs false

/-! ### impl_crc15: function 39 -/
def impl_crc15.l0 : Nat → ByteArray → Int → Int → Int → Option (Int)
  | 0, _, _, _, _ => none
  | k + 1, x0, x3, x7, x8 => if x8 < x7 then (if 0 ≤ x8 then (if x8 < (x0.size : Int) then (if (Go.bits .xor .i64 (x3 / 16384) (((bt x0 x8) - 48) % 256)) = 1 then (impl_crc15.l0 k x0 (Go.bits .xor .i64 (Go.bits .and .i64 (wrap64 (x3 * 2)) 32767) 17817) x7 (wrap64 (x8 + 1))) else (impl_crc15.l0 k x0 (Go.bits .and .i64 (wrap64 (x3 * 2)) 32767) x7 (wrap64 (x8 + 1)))) else (none)) else (none)) else (some x3)
def impl_crc15.f (k : Nat) (a0 : ByteArray) : Option (Int) := impl_crc15.l0 k a0 0 (a0.size : Int) 0
theorem impl_crc15.mono_l : ∀ k, (∀ y0 y1 y2 y3, LeO (impl_crc15.l0 k y0 y1 y2 y3) (impl_crc15.l0 (k + 1) y0 y1 y2 y3))
  | 0 => fun _ _ _ _ r h => by simp [impl_crc15.l0] at h
  | k + 1 => by
    have ih0 := impl_crc15.mono_l k
    · intro y0 y1 y2 y3
      unfold impl_crc15.l0
      repeat' first | (with_reducible first | exact ih0 _ _ _ _ | exact LeO.refl _ | exact LeO.none _ | refine LeO.ite ?_ ?_ | refine LeO.bind ?_ (fun _ => ?_)) | exact ih0 _ _ _ _ | exact LeO.none _ | refine LeO.ite ?_ ?_ | refine LeO.bind ?_ (fun _ => ?_)
theorem impl_crc15.mono : ∀ a0 k, LeO (impl_crc15.f k a0) (impl_crc15.f (k + 1) a0) := by
  intro a0 k
  have ih0 := impl_crc15.mono_l k
  unfold impl_crc15.f
  repeat' first | (with_reducible first | exact ih0 _ _ _ _ | exact LeO.refl _ | exact LeO.none _ | refine LeO.ite ?_ ?_ | refine LeO.bind ?_ (fun _ => ?_)) | exact ih0 _ _ _ _ | exact LeO.none _ | refine LeO.ite ?_ ?_ | refine LeO.bind ?_ (fun _ => ?_)

/-! ### impl_FrameBits: function 22 -/
def impl_FrameBits.l0 : Nat → ByteArray → List Int → Int → Int → Option (ByteArray)
  | 0, _, _, _, _ => none
  | k + 1, x3, x19, x20, x21 => if x21 < x20 then (if 0 ≤ x21 then (if x21 < (x19.length : Int) then ((impl_binary.f k (wrap64 (rd x19 x21)) 8).bind fun t171 => (if x3.size + t171.size ≤ 9223372036854775807 then (impl_FrameBits.l0 k (x3 ++ t171) x19 x20 (wrap64 (x21 + 1))) else (none))) else (none)) else (none)) else ((impl_crc15.f k x3).bind fun t172 => ((impl_binary.f k t172 15).bind fun t173 => (if x3.size + t173.size ≤ 9223372036854775807 then ((impl_stuff.f (x3 ++ t173)).bind fun t174 => (if t174.size + 7 ≤ 9223372036854775807 then (some (t174 ++ (⟨#[49, 49, 49, 49, 49, 49, 49]⟩ : ByteArray))) else (none))) else (none))))
def impl_FrameBits.f (k : Nat) (a0_0 : Int) (l0_1 : List Int) : Option (ByteArray) := (impl_GoodFrame.f a0_0 l0_1).bind fun t167 => (if t167 = true then ((impl_binary.f k a0_0 11).bind fun t168 => (if 1 + t168.size ≤ 9223372036854775807 then ((impl_binary.f k (l0_1.length : Int) 4).bind fun t169 => (if ((⟨#[48]⟩ : ByteArray) ++ t168).size + t169.size ≤ 9223372036854775807 then (impl_FrameBits.l0 k (((⟨#[48]⟩ : ByteArray) ++ t168) ++ t169) l0_1 (l0_1.length : Int) 0) else (none))) else (none))) else (some (⟨#[]⟩ : ByteArray)))
theorem impl_FrameBits.mono_l : ∀ k, (∀ y0 y1 y2 y3, LeO (impl_FrameBits.l0 k y0 y1 y2 y3) (impl_FrameBits.l0 (k + 1) y0 y1 y2 y3))
  | 0 => fun _ _ _ _ r h => by simp [impl_FrameBits.l0] at h
  | k + 1 => by
    have ih0 := impl_FrameBits.mono_l k
    · intro y0 y1 y2 y3
      unfold impl_FrameBits.l0
      repeat' first | (with_reducible first | exact ih0 _ _ _ _ | exact impl_binary.mono _ _ _ | exact impl_crc15.mono _ _ | exact LeO.refl _ | exact LeO.none _ | refine LeO.ite ?_ ?_ | refine LeO.bind ?_ (fun _ => ?_)) | exact ih0 _ _ _ _ | exact impl_binary.mono _ _ _ | exact impl_crc15.mono _ _ | exact LeO.none _ | refine LeO.ite ?_ ?_ | refine LeO.bind ?_ (fun _ => ?_)
theorem impl_FrameBits.mono : ∀ a0 a1 k, LeO (impl_FrameBits.f k a0 a1) (impl_FrameBits.f (k + 1) a0 a1) := by
  intro a0 a1 k
  have ih0 := impl_FrameBits.mono_l k
  unfold impl_FrameBits.f
  repeat' first | (with_reducible first | exact ih0 _ _ _ _ | exact impl_binary.mono _ _ _ | exact impl_crc15.mono _ _ | exact LeO.refl _ | exact LeO.none _ | refine LeO.ite ?_ ?_ | refine LeO.bind ?_ (fun _ => ?_)) | exact ih0 _ _ _ _ | exact impl_binary.mono _ _ _ | exact impl_crc15.mono _ _ | exact LeO.none _ | refine LeO.ite ?_ ?_ | refine LeO.bind ?_ (fun _ => ?_)

/-! ### laws_FnExactFrameBits: function 6 -/
def laws_FnExactFrameBits.f (k : Nat) (a0_0 : Int) (l0_1 : List Int) : Option (Bool) := (laws_szFrame.f a0_0 l0_1 1048576).bind fun t176 => (if t176 < 0 then (some true) else ((laws_toFrame.f k a0_0 l0_1).bind fun bt177 => ((spec_FrameBits.f k bt177.1 bt177.2).bind fun t181 => ((laws_toFrame.f k a0_0 l0_1).bind fun bt182 => ((impl_FrameBits.f k bt182.1 bt182.2).bind fun t187 => (if t187.toList = t181.toList then ((laws_toFrame.f k a0_0 l0_1).bind fun bt188 => ((laws_eqFrame.f k bt182.1 bt182.2 bt188.1 bt188.2).bind fun t192 => (if t192 = true then (some true) else (some false)))) else (some false)))))))
theorem laws_FnExactFrameBits.mono : ∀ a0 a1 k, LeO (laws_FnExactFrameBits.f k a0 a1) (laws_FnExactFrameBits.f (k + 1) a0 a1) := by
  intro a0 a1 k
  unfold laws_FnExactFrameBits.f
  repeat' first | (with_reducible first | exact impl_FrameBits.mono _ _ _ | exact laws_eqFrame.mono _ _ _ _ _ | exact laws_toFrame.mono _ _ _ | exact spec_FrameBits.mono _ _ _ | exact LeO.refl _ | exact LeO.none _ | refine LeO.ite ?_ ?_ | refine LeO.bind ?_ (fun _ => ?_)) | exact impl_FrameBits.mono _ _ _ | exact laws_eqFrame.mono _ _ _ _ _ | exact laws_toFrame.mono _ _ _ | exact spec_FrameBits.mono _ _ _ | exact LeO.none _ | refine LeO.ite ?_ ?_ | refine LeO.bind ?_ (fun _ => ?_)

/-- A state of type 57 at block g of W; what its slices lead to came in by w0. -/
def IsS57 (w0 W : World) (g : Nat) (f0 : List Int) (f1 : Int) (f2 : Int) : Prop := ∃ A0 c0, W.heap[g]? = some (.cells #[.slice A0 f0.length c0, .int .i64 f1, .int .u64 f2] 57 (0, 0)) ∧ w0.heap.size ≤ g ∧ Kd.C (Kd.int .u8) w0 A0 f0.length f0
theorem IsS57.grown {w0 W : World} {g : Nat} {f0 : List Int} {f1 : Int} {f2 : Int} {W1 : World} {row : Option Nat} (h : IsS57 w0 W g f0 f1 f2) (hw : W.grownBy W1 row) (hne : some g ≠ row) : IsS57 w0 W1 g f0 f1 f2 := by
  obtain ⟨A0, c0, hb, hg, hr0⟩ := h
  exact ⟨A0, c0, blk_grown hb hw hne, hg, hr0⟩
theorem IsS57.own_neN {w0 W : World} {g : Nat} {f0 : List Int} {f1 : Int} {f2 : Int} {α : Type} {d : Kd α} {e : Nat} {base : Nat} {ok : Nat → Prop} {v : Value} {xs : List α} (h : IsS57 w0 W g f0 f1 f2) (ho : Kd.N d e W base ok v xs) (ht : e ≠ 57) : some g ≠ v.ownBlock := by
  obtain ⟨A0, c0, hb, hg, hr0⟩ := h
  exact Kd.N_ne ho hb ht
theorem IsS57.fresh {w0 W : World} {g : Nat} {f0 : List Int} {f1 : Int} {f2 : Int} (h : IsS57 w0 W g f0 f1 f2) : ∀ k, W.heap.size ≤ k → k ≠ g := by
  obtain ⟨A0, c0, hb, hg, hr0⟩ := h
  exact Kd.freshB hb
theorem IsS57.kept {w0 W : World} {g : Nat} {f0 : List Int} {f1 : Int} {f2 : Int} {W1 : World} {S : Nat → Prop} (h : IsS57 w0 W g f0 f1 f2) (hk : Kept W W1 S) (hne : ¬ S g) : IsS57 w0 W1 g f0 f1 f2 := by
  obtain ⟨A0, c0, hb, hg, hr0⟩ := h
  exact ⟨A0, c0, blk_kept hb hk hne, hg, hr0⟩
theorem IsS57.below {w0 W : World} {g : Nat} {f0 : List Int} {f1 : Int} {f2 : Int} {W1 : World} (h : IsS57 w0 W g f0 f1 f2) (hw : Below W.heap.size W W1) : IsS57 w0 W1 g f0 f1 f2 := h.grown (grown_of_below hw none) (by simp)
theorem IsS57.alloc {w0 W : World} {g : Nat} {f0 : List Int} {f1 : Int} {f2 : Int} (h : IsS57 w0 W g f0 f1 f2) (o : Obj) : IsS57 w0 (W.alloc o) g f0 f1 f2 := h.below (below_alloc (Below.refl _ _) o)
theorem IsS57.drewN {w0 W : World} {g : Nat} {f0 : List Int} {f1 : Int} {f2 : Int} (h : IsS57 w0 W g f0 f1 f2) (m : Nat) : IsS57 w0 (W.drewN m) g f0 f1 f2 := h
theorem IsS57.drew {w0 W : World} {g : Nat} {f0 : List Int} {f1 : Int} {f2 : Int} (h : IsS57 w0 W g f0 f1 f2) : IsS57 w0 W.drew g f0 f1 f2 := h
theorem IsS57.at_ {w0 W : World} {g : Nat} {f0 : List Int} {f1 : Int} {f2 : Int} {w' : World} {m : Nat} (hq : W.drewN m = w') (h : IsS57 w0 W g f0 f1 f2) : IsS57 w0 w' g f0 f1 f2 := by subst hq; exact IsS57.drewN h m
theorem IsS57.apart {w0 W : World} {g : Nat} {f0 : List Int} {f1 : Int} {f2 : Int} {α : Type} {d : Kd α} {e : Nat} {base : Nat} {ok : Nat → Prop} {v : Value} {xs : List α} (h : IsS57 w0 W g f0 f1 f2) (ho : d.R e W base ok v xs) (ht : ∀ q, q ∈ e :: d.E → q ≠ 57) : d.R e W base (fun k => ok k ∧ k ≠ g) v xs := by
  obtain ⟨A0, c0, hb, hg, hr0⟩ := h
  exact Kd.R_types ho hb ht
theorem IsS57.own_ne {w0 W : World} {g : Nat} {f0 : List Int} {f1 : Int} {f2 : Int} {α : Type} {d : Kd α} {e : Nat} {base : Nat} {ok : Nat → Prop} {v : Value} {xs : List α} (h : IsS57 w0 W g f0 f1 f2) (ho : d.R e W base ok v xs) (ht : e ≠ 57) : some g ≠ v.ownBlock := by
  obtain ⟨A0, c0, hb, hg, hr0⟩ := h
  exact Kd.R_ne ho hb ht
theorem IsS57.apartQ {w0 W : World} {g : Nat} {f0 : List Int} {f1 : Int} {f2 : Int} {α : Type} {d : Kd α} {e : Nat} {base : Nat} {ok : Nat → Prop} {v : Value} {xs : List α} (h : IsS57 w0 W g f0 f1 f2) (ho : d.Q e W base ok v xs) (ht : ∀ q, q ∈ e :: d.E → q ≠ 57) : d.Q e W base (fun k => ok k ∧ k ≠ g) v xs := by
  obtain ⟨A0, c0, hb, hg, hr0⟩ := h
  exact Kd.Q_types ho hb ht
theorem IsS57.own_neQ {w0 W : World} {g : Nat} {f0 : List Int} {f1 : Int} {f2 : Int} {α : Type} {d : Kd α} {e : Nat} {base : Nat} {ok : Nat → Prop} {v : Value} {xs : List α} (h : IsS57 w0 W g f0 f1 f2) (ho : d.Q e W base ok v xs) (ht : e ≠ 57) : some g ≠ v.ownBlock := by
  obtain ⟨A0, c0, hb, hg, hr0⟩ := h
  exact Kd.Q_ne ho hb ht
theorem IsS57.apartS {w0 W : World} {g : Nat} {f0 : List Int} {f1 : Int} {f2 : Int} {α : Type} {d : Kd α} {e : Nat} {base : Nat} {ok : Nat → Prop} {v : Value} {xs : List α} (h : IsS57 w0 W g f0 f1 f2) (ho : d.S e W base ok v xs) (ht : ∀ q, q ∈ e :: d.E → q ≠ 57) : d.S e W base (fun k => ok k ∧ k ≠ g) v xs := by
  obtain ⟨A0, c0, hb, hg, hr0⟩ := h
  exact Kd.S_types ho hb ht
theorem IsS57.own_neS {w0 W : World} {g : Nat} {f0 : List Int} {f1 : Int} {f2 : Int} {α : Type} {d : Kd α} {e : Nat} {base : Nat} {ok : Nat → Prop} {v : Value} {xs : List α} (h : IsS57 w0 W g f0 f1 f2) (ho : d.S e W base ok v xs) (ht : e ≠ 57) : some g ≠ v.ownBlock := by
  obtain ⟨A0, c0, hb, hg, hr0⟩ := h
  exact Kd.S_ne ho hb ht
theorem IsS57.lt {w0 W : World} {g : Nat} {f0 : List Int} {f1 : Int} {f2 : Int} (h : IsS57 w0 W g f0 f1 f2) : g < W.heap.size := by
  obtain ⟨A0, c0, hb, hg, hr0⟩ := h
  exact blk_lt hb
theorem IsS57.ge {w0 W : World} {g : Nat} {f0 : List Int} {f1 : Int} {f2 : Int} (h : IsS57 w0 W g f0 f1 f2) : w0.heap.size ≤ g := by
  obtain ⟨A0, c0, hb, hg, hr0⟩ := h
  exact hg
theorem IsS57.ne_blk {w0 W : World} {g : Nat} {f0 : List Int} {f1 : Int} {f2 : Int} {a : Nat} {cs : Array Value} {t : TypeId} {fr : Nat × Nat} (h : IsS57 w0 W g f0 f1 f2) (hb2 : W.heap[a]? = some (.cells cs t fr)) (ht : t ≠ 57) : g ≠ a := by
  obtain ⟨A0, c0, hb, hg, hr0⟩ := h
  rintro rfl
  rw [hb] at hb2
  injection hb2 with hb2
  injection hb2 with _ ht2
  exact ht ht2.symm
theorem IsS57.far {w0 W : World} {g : Nat} {f0 : List Int} {f1 : Int} {f2 : Int} {p : Addr} (h : IsS57 w0 W g f0 f1 f2) (hne : g ≠ p.block) (u : Value) : IsS57 w0 (W.setCell p u) g f0 f1 f2 := by
  obtain ⟨A0, c0, hb, hg, hr0⟩ := h
  exact ⟨A0, c0, blk_far hb hne u, hg, hr0⟩
theorem cellS57_0 {W : World} {g : Nat} {A0 : Option Addr} {c0 : Nat} {f0 : List Int} {f1 : Int} {f2 : Int} (h : W.heap[g]? = some (.cells #[.slice A0 f0.length c0, .int .i64 f1, .int .u64 f2] 57 (0, 0))) : W.cell? ⟨g, 0, none⟩ = some (.slice A0 f0.length c0) := (blk_cell h 0).trans rfl
theorem cellS57_1 {W : World} {g : Nat} {A0 : Option Addr} {c0 : Nat} {f0 : List Int} {f1 : Int} {f2 : Int} (h : W.heap[g]? = some (.cells #[.slice A0 f0.length c0, .int .i64 f1, .int .u64 f2] 57 (0, 0))) : W.cell? ⟨g, 1, none⟩ = some (.int .i64 f1) := (blk_cell h 1).trans rfl
theorem IsS57.set_1 {w0 W : World} {g : Nat} {f0 : List Int} {f1 : Int} {f2 : Int} (h : IsS57 w0 W g f0 f1 f2) (x : Int) : IsS57 w0 (W.setCell ⟨g, 1, none⟩ (.int .i64 x)) g f0 x f2 := by
  obtain ⟨A0, c0, hb, hg, hr0⟩ := h
  exact ⟨A0, c0, by simpa using blk_set hb 1 (.int .i64 x), hg, hr0⟩
theorem cellS57_2 {W : World} {g : Nat} {A0 : Option Addr} {c0 : Nat} {f0 : List Int} {f1 : Int} {f2 : Int} (h : W.heap[g]? = some (.cells #[.slice A0 f0.length c0, .int .i64 f1, .int .u64 f2] 57 (0, 0))) : W.cell? ⟨g, 2, none⟩ = some (.int .u64 f2) := (blk_cell h 2).trans rfl
theorem IsS57.set_2 {w0 W : World} {g : Nat} {f0 : List Int} {f1 : Int} {f2 : Int} (h : IsS57 w0 W g f0 f1 f2) (x : Int) : IsS57 w0 (W.setCell ⟨g, 2, none⟩ (.int .u64 x)) g f0 f1 x := by
  obtain ⟨A0, c0, hb, hg, hr0⟩ := h
  exact ⟨A0, c0, by simpa using blk_set hb 2 (.int .u64 x), hg, hr0⟩
theorem IsS57.new (w0 W : World) (A0 : Option Addr) (c0 : Nat) (f0 : List Int) (f1 : Int) (f2 : Int) (hB : Below w0.heap.size w0 W) (hr0 : Kd.C (Kd.int .u8) w0 A0 f0.length f0) : IsS57 w0 (W.alloc (.cells #[.slice A0 f0.length c0, .int .i64 f1, .int .u64 f2] 57)) W.heap.size f0 f1 f2 := ⟨A0, c0, by simpa using heap_alloc_new W _, hB.size, hr0⟩

/-! ### spec_l1Cur_next: function 49 -/
def spec_l1Cur_next.f (s0_0 : List Int) (s0_1 : Int) (s0_2 : Int) : Option (Int × Int × Int) := if s0_1 < (s0_0.length : Int) then (if 0 ≤ s0_1 then (if (wrap64 (s0_1 + 1)) ≤ (s0_0.length : Int) then (some (wrap64 (rd s0_0 s0_1), wrap64 (s0_1 + 1), IntKind.u64.wrap ((IntKind.u64.wrap ((IntKind.u64.wrap (s0_2 * 6364136223846793005)) + (IntKind.u64.wrap (wrap64 (rd s0_0 s0_1))))) + 1442695040888963407))) else (some (wrap64 (Go.bits .and .u64 ((IntKind.u64.wrap ((IntKind.u64.wrap ((IntKind.u64.wrap (s0_2 * 6364136223846793005)) + (IntKind.u64.wrap (wrap64 (rd s0_0 s0_1))))) + 1442695040888963407)) / 1099511627776) 255), wrap64 (s0_1 + 1), IntKind.u64.wrap ((IntKind.u64.wrap ((IntKind.u64.wrap (s0_2 * 6364136223846793005)) + (IntKind.u64.wrap (wrap64 (rd s0_0 s0_1))))) + 1442695040888963407)))) else (none)) else (if (wrap64 (s0_1 + 1)) ≤ (s0_0.length : Int) then (some (0, wrap64 (s0_1 + 1), IntKind.u64.wrap ((IntKind.u64.wrap ((IntKind.u64.wrap (s0_2 * 6364136223846793005)) + 0)) + 1442695040888963407))) else (some (wrap64 (Go.bits .and .u64 ((IntKind.u64.wrap ((IntKind.u64.wrap ((IntKind.u64.wrap (s0_2 * 6364136223846793005)) + 0)) + 1442695040888963407)) / 1099511627776) 255), wrap64 (s0_1 + 1), IntKind.u64.wrap ((IntKind.u64.wrap ((IntKind.u64.wrap (s0_2 * 6364136223846793005)) + 0)) + 1442695040888963407))))

/-! ### spec_l1Cur_pick: function 32 -/
def spec_l1Cur_pick.f (s0_0 : List Int) (s0_1 : Int) (s0_2 : Int) (a1 : Int) : Option (Int × Int × Int) := if a1 ≤ 1 then (some (0, s0_1, s0_2)) else ((spec_l1Cur_next.f s0_0 s0_1 s0_2).bind fun bt194 => (if a1 > 200 then ((spec_l1Cur_next.f s0_0 bt194.2.1 bt194.2.2).bind fun bt197 => (if a1 = 0 then (none) else (some (Int.tmod (wrap64 ((wrap64 (bt194.1 * 256)) + bt197.1)) a1, bt197.2.1, bt197.2.2)))) else (if a1 = 0 then (none) else (some (Int.tmod bt194.1 a1, bt194.2.1, bt194.2.2)))))

/-! ### spec_l1Cur_one: function 33 -/
def spec_l1Cur_one.f (s0_0 : List Int) (s0_1 : Int) (s0_2 : Int) (a1 : Int) : Option (Bool × Int × Int) := (spec_l1Cur_pick.f s0_0 s0_1 s0_2 a1).bind fun bt200 => (some ((bt200.1 == 0), bt200.2.1, bt200.2.2))

/-! ### spec_l1Cur_among: function 34 -/
def spec_l1Cur_among.f (s0_0 : List Int) (s0_1 : Int) (s0_2 : Int) (l1 : List Int) : Option (Int × Int × Int) := (spec_l1Cur_pick.f s0_0 s0_1 s0_2 (l1.length : Int)).bind fun bt203 => (if 0 ≤ bt203.1 then (if bt203.1 < (l1.length : Int) then (some (rd l1 bt203.1, bt203.2.1, bt203.2.2)) else (none)) else (none))

/-! ### spec_l1Cur_bytes: function 40 -/
def spec_l1Cur_bytes.l0 : Nat → List Int → Int → List Int → Int → Int → Option (List Int × Int × Int)
  | 0, _, _, _, _, _ => none
  | k + 1, x5, x6, x1000, x1001, x1002 => if x6 > 0 then ((spec_l1Cur_next.f x1000 x1001 x1002).bind fun bt210 => (if x5.length < 140737488355328 then (spec_l1Cur_bytes.l0 k (x5 ++ [(bt210.1) % 256]) (wrap64 (x6 - 1)) x1000 bt210.2.1 bt210.2.2) else (none))) else (some (x5, x1001, x1002))
def spec_l1Cur_bytes.f (k : Nat) (s0_0 : List Int) (s0_1 : Int) (s0_2 : Int) (a1 : Int) : Option (List Int × Int × Int) := (spec_l1Cur_pick.f s0_0 s0_1 s0_2 (wrap64 (a1 + 1))).bind fun bt207 => (spec_l1Cur_bytes.l0 k ([] : List Int) bt207.1 s0_0 bt207.2.1 bt207.2.2)
theorem spec_l1Cur_bytes.mono_l : ∀ k, (∀ y0 y1 y2 y3 y4, LeO (spec_l1Cur_bytes.l0 k y0 y1 y2 y3 y4) (spec_l1Cur_bytes.l0 (k + 1) y0 y1 y2 y3 y4))
  | 0 => fun _ _ _ _ _ r h => by simp [spec_l1Cur_bytes.l0] at h
  | k + 1 => by
    have ih0 := spec_l1Cur_bytes.mono_l k
    · intro y0 y1 y2 y3 y4
      unfold spec_l1Cur_bytes.l0
      repeat' first | (with_reducible first | exact ih0 _ _ _ _ _ | exact LeO.refl _ | exact LeO.none _ | refine LeO.ite ?_ ?_ | refine LeO.bind ?_ (fun _ => ?_)) | exact ih0 _ _ _ _ _ | exact LeO.none _ | refine LeO.ite ?_ ?_ | refine LeO.bind ?_ (fun _ => ?_)
theorem spec_l1Cur_bytes.mono : ∀ a0 a1 a2 a3 k, LeO (spec_l1Cur_bytes.f k a0 a1 a2 a3) (spec_l1Cur_bytes.f (k + 1) a0 a1 a2 a3) := by
  intro a0 a1 a2 a3 k
  have ih0 := spec_l1Cur_bytes.mono_l k
  unfold spec_l1Cur_bytes.f
  repeat' first | (with_reducible first | exact ih0 _ _ _ _ _ | exact LeO.refl _ | exact LeO.none _ | refine LeO.ite ?_ ?_ | refine LeO.bind ?_ (fun _ => ?_)) | exact ih0 _ _ _ _ _ | exact LeO.none _ | refine LeO.ite ?_ ?_ | refine LeO.bind ?_ (fun _ => ?_)

/-! ### spec_l1Cur_frame: function 41 -/
def spec_l1Cur_frame.f (k : Nat) (s0_0 : List Int) (s0_1 : Int) (s0_2 : Int) : Option (Int × List Int × Int × Int) := (spec_l1Cur_pick.f s0_0 s0_1 s0_2 40).bind fun bt217 => ((spec_l1Cur_bytes.f k s0_0 bt217.2.1 bt217.2.2 4).bind fun bt220 => ((spec_l1Cur_pick.f s0_0 bt220.2.1 bt220.2.2 12).bind fun bt226 => (if bt226.1 = 0 then ((spec_l1Cur_among.f s0_0 bt226.2.1 bt226.2.2 (([(-1), 0, 2047, 2048] : List Int))).bind fun bt232 => (some (bt232.1, bt220.1, bt232.2.1, bt232.2.2))) else (if bt226.1 = 1 then ((spec_l1Cur_bytes.f k s0_0 bt226.2.1 bt226.2.2 9).bind fun bt235 => (some (bt217.1, bt235.1, bt235.2.1, bt235.2.2))) else (if bt226.1 = 2 then ((spec_l1Cur_pick.f s0_0 bt226.2.1 bt226.2.2 2048).bind fun bt240 => (some (bt240.1, bt220.1, bt240.2.1, bt240.2.2))) else (if bt226.1 = 3 then ((spec_l1Cur_pick.f s0_0 bt226.2.1 bt226.2.2 9).bind fun bt243 => (if 0 ≤ bt243.1 then (if (bt243.1 : Int).toNat ≤ 281474976710656 then (some (bt217.1, (List.replicate (bt243.1 : Int).toNat 0), bt243.2.1, bt243.2.2)) else (none)) else (none))) else (some (bt217.1, bt220.1, bt226.2.1, bt226.2.2))))))))
theorem spec_l1Cur_frame.mono : ∀ a0 a1 a2 k, LeO (spec_l1Cur_frame.f k a0 a1 a2) (spec_l1Cur_frame.f (k + 1) a0 a1 a2) := by
  intro a0 a1 a2 k
  unfold spec_l1Cur_frame.f
  repeat' first | (with_reducible first | exact spec_l1Cur_bytes.mono _ _ _ _ _ | exact LeO.refl _ | exact LeO.none _ | refine LeO.ite ?_ ?_ | refine LeO.bind ?_ (fun _ => ?_)) | exact spec_l1Cur_bytes.mono _ _ _ _ _ | exact LeO.none _ | refine LeO.ite ?_ ?_ | refine LeO.bind ?_ (fun _ => ?_)

/-! ### spec_DrawRunBus: function 23 -/
mutual
def spec_DrawRunBus.j0 : Nat → List (S66) → Int → List Int → Int → Int → Option ((List (S66)) × Int × Int × List Int)
  | 0, _, _, _, _, _ => none
  | k + 1, x7, x8, x250000, x250001, x250002 => spec_DrawRunBus.l0 k x7 x8 x250000 x250001 x250002
def spec_DrawRunBus.l0 : Nat → List (S66) → Int → List Int → Int → Int → Option ((List (S66)) × Int × Int × List Int)
  | 0, _, _, _, _, _ => none
  | k + 1, x7, x8, x250000, x250001, x250002 => if x8 > 0 then ((spec_l1Cur_pick.f x250000 x250001 x250002 3).bind fun bt259 => ((spec_l1Cur_pick.f x250000 bt259.2.1 bt259.2.2 20).bind fun bt262 => ((spec_l1Cur_pick.f x250000 bt262.2.1 bt262.2.2 5).bind fun bt266 => (spec_DrawRunBus.l1 k x7 x8 bt266.1 x250000 bt266.2.1 bt266.2.2 ([] : List (S27)) (wrap64 (1 + bt259.1)) bt262.1 false)))) else ((spec_l1Cur_pick.f x250000 x250001 x250002 16).bind fun bt326 => ((spec_l1Cur_one.f x250000 bt326.2.1 bt326.2.2 16).bind fun bt329 => (if bt329.1 = true then ((spec_l1Cur_among.f x250000 bt329.2.1 bt329.2.2 (([(-1), 40, 41] : List Int))).bind fun bt335 => (spec_DrawRunBus.j3 k x7 bt335.1 x250000 bt335.2.1 bt335.2.2)) else (spec_DrawRunBus.j3 k x7 bt326.1 x250000 bt329.2.1 bt329.2.2))))
def spec_DrawRunBus.l1 : Nat → List (S66) → Int → Int → List Int → Int → Int → List (S27) → Int → Int → Bool → Option ((List (S66)) × Int × Int × List Int)
  | 0, _, _, _, _, _, _, _, _, _, _ => none
  | k + 1, x7, x8, x10, x250000, x250001, x250002, x266000, x266001, x266002, x266003 => if x10 > 0 then ((spec_l1Cur_pick.f x250000 x250001 x250002 9).bind fun bt269 => ((spec_l1Cur_bytes.f k x250000 bt269.2.1 bt269.2.2 2).bind fun bt272 => ((spec_l1Cur_one.f x250000 bt272.2.1 bt272.2.2 60).bind fun bt278 => (if bt278.1 = true then ((spec_l1Cur_frame.f k x250000 bt278.2.1 bt278.2.2).bind fun bt281 => (if x266000.length < 4398046511104 then (spec_DrawRunBus.l1 k x7 x8 (wrap64 (x10 - 1)) x250000 bt281.2.2.1 bt281.2.2.2 (x266000 ++ [(⟨bt281.1, bt281.2.1⟩ : S27)]) x266001 x266002 x266003) else (none))) else (if x266000.length < 4398046511104 then (spec_DrawRunBus.l1 k x7 x8 (wrap64 (x10 - 1)) x250000 bt278.2.1 bt278.2.2 (x266000 ++ [(⟨bt269.1, bt272.1⟩ : S27)]) x266001 x266002 x266003) else (none)))))) else ((spec_l1Cur_pick.f x250000 x250001 x250002 12).bind fun bt293 => (if bt293.1 = 0 then ((spec_l1Cur_pick.f x250000 bt293.2.1 bt293.2.2 15).bind fun bt296 => ((spec_l1Cur_one.f x250000 bt296.2.1 bt296.2.2 60).bind fun bt299 => (if bt299.1 = true then (if x7.length < 2932031007402 then (spec_DrawRunBus.l0 k (x7 ++ [(⟨x266000, x266001, wrap64 (240 + bt296.1), !x266003⟩ : S66)]) (wrap64 (x8 - 1)) x250000 bt299.2.1 bt299.2.2) else (none)) else (if x7.length < 2932031007402 then (spec_DrawRunBus.l0 k (x7 ++ [(⟨x266000, x266001, wrap64 (240 + bt296.1), x266003⟩ : S66)]) (wrap64 (x8 - 1)) x250000 bt299.2.1 bt299.2.2) else (none))))) else (if bt293.1 = 1 then ((spec_l1Cur_one.f x250000 bt293.2.1 bt293.2.2 60).bind fun bt308 => (if bt308.1 = true then (if x7.length < 2932031007402 then (spec_DrawRunBus.l0 k (x7 ++ [(⟨x266000, x266001, 255, !true⟩ : S66)]) (wrap64 (x8 - 1)) x250000 bt308.2.1 bt308.2.2) else (none)) else (if x7.length < 2932031007402 then (spec_DrawRunBus.l0 k (x7 ++ [(⟨x266000, x266001, 255, true⟩ : S66)]) (wrap64 (x8 - 1)) x250000 bt308.2.1 bt308.2.2) else (none)))) else ((spec_l1Cur_one.f x250000 bt293.2.1 bt293.2.2 60).bind fun bt317 => (if bt317.1 = true then (if x7.length < 2932031007402 then (spec_DrawRunBus.l0 k (x7 ++ [(⟨x266000, x266001, x266002, !x266003⟩ : S66)]) (wrap64 (x8 - 1)) x250000 bt317.2.1 bt317.2.2) else (none)) else (if x7.length < 2932031007402 then (spec_DrawRunBus.l0 k (x7 ++ [(⟨x266000, x266001, x266002, x266003⟩ : S66)]) (wrap64 (x8 - 1)) x250000 bt317.2.1 bt317.2.2) else (none)))))))
def spec_DrawRunBus.j3 : Nat → List (S66) → Int → List Int → Int → Int → Option ((List (S66)) × Int × Int × List Int)
  | 0, _, _, _, _, _ => none
  | k + 1, x7, x12, x250000, x250001, x250002 => (spec_l1Cur_pick.f x250000 x250001 x250002 6).bind fun bt338 => (spec_DrawRunBus.l2 k x7 x12 ([] : List Int) bt338.1 x250000 bt338.2.1 bt338.2.2)
def spec_DrawRunBus.l2 : Nat → List (S66) → Int → List Int → Int → List Int → Int → Int → Option ((List (S66)) × Int × Int × List Int)
  | 0, _, _, _, _, _, _, _ => none
  | k + 1, x7, x12, x13, x14, x250000, x250001, x250002 => if x14 > 0 then ((spec_l1Cur_pick.f x250000 x250001 x250002 16).bind fun bt341 => (if x13.length < 17592186044416 then (spec_DrawRunBus.l2 k x7 x12 (x13 ++ [bt341.1]) (wrap64 (x14 - 1)) x250000 bt341.2.1 bt341.2.2) else (none))) else ((spec_l1Cur_pick.f x250000 x250001 x250002 8).bind fun bt347 => (some (x7, x12, wrap64 (1 + bt347.1), x13)))
end
def spec_DrawRunBus.f (k : Nat) (l0 : List Int) : Option ((List (S66)) × Int × Int × List Int) := (spec_l1Cur_pick.f l0 0 0 4).bind fun bt250 => ((spec_l1Cur_one.f l0 bt250.2.1 bt250.2.2 16).bind fun bt253 => (if bt253.1 = true then ((spec_l1Cur_pick.f l0 bt253.2.1 bt253.2.2 3).bind fun bt256 => (spec_DrawRunBus.j0 k ([] : List (S66)) (wrap64 (5 + bt256.1)) l0 bt256.2.1 bt256.2.2)) else (spec_DrawRunBus.j0 k ([] : List (S66)) bt250.1 l0 bt253.2.1 bt253.2.2)))
theorem spec_DrawRunBus.mono_l : ∀ k, (∀ y0 y1 y2 y3 y4, LeO (spec_DrawRunBus.j0 k y0 y1 y2 y3 y4) (spec_DrawRunBus.j0 (k + 1) y0 y1 y2 y3 y4)) ∧ (∀ y0 y1 y2 y3 y4, LeO (spec_DrawRunBus.l0 k y0 y1 y2 y3 y4) (spec_DrawRunBus.l0 (k + 1) y0 y1 y2 y3 y4)) ∧ (∀ y0 y1 y2 y3 y4 y5 y6 y7 y8 y9, LeO (spec_DrawRunBus.l1 k y0 y1 y2 y3 y4 y5 y6 y7 y8 y9) (spec_DrawRunBus.l1 (k + 1) y0 y1 y2 y3 y4 y5 y6 y7 y8 y9)) ∧ (∀ y0 y1 y2 y3 y4, LeO (spec_DrawRunBus.j3 k y0 y1 y2 y3 y4) (spec_DrawRunBus.j3 (k + 1) y0 y1 y2 y3 y4)) ∧ (∀ y0 y1 y2 y3 y4 y5 y6, LeO (spec_DrawRunBus.l2 k y0 y1 y2 y3 y4 y5 y6) (spec_DrawRunBus.l2 (k + 1) y0 y1 y2 y3 y4 y5 y6))
  | 0 => ⟨fun _ _ _ _ _ r h => by simp [spec_DrawRunBus.j0] at h, fun _ _ _ _ _ r h => by simp [spec_DrawRunBus.l0] at h, fun _ _ _ _ _ _ _ _ _ _ r h => by simp [spec_DrawRunBus.l1] at h, fun _ _ _ _ _ r h => by simp [spec_DrawRunBus.j3] at h, fun _ _ _ _ _ _ _ r h => by simp [spec_DrawRunBus.l2] at h⟩
  | k + 1 => by
    obtain ⟨ih0, ih1, ih2, ih3, ih4⟩ := spec_DrawRunBus.mono_l k
    refine ⟨?_, ?_, ?_, ?_, ?_⟩
    · intro y0 y1 y2 y3 y4
      unfold spec_DrawRunBus.j0
      repeat' first | (with_reducible first | exact ih0 _ _ _ _ _ | exact ih1 _ _ _ _ _ | exact ih2 _ _ _ _ _ _ _ _ _ _ | exact ih3 _ _ _ _ _ | exact ih4 _ _ _ _ _ _ _ | exact spec_l1Cur_bytes.mono _ _ _ _ _ | exact spec_l1Cur_frame.mono _ _ _ _ | exact LeO.refl _ | exact LeO.none _ | refine LeO.ite ?_ ?_ | refine LeO.bind ?_ (fun _ => ?_)) | exact ih0 _ _ _ _ _ | exact ih1 _ _ _ _ _ | exact ih2 _ _ _ _ _ _ _ _ _ _ | exact ih3 _ _ _ _ _ | exact ih4 _ _ _ _ _ _ _ | exact spec_l1Cur_bytes.mono _ _ _ _ _ | exact spec_l1Cur_frame.mono _ _ _ _ | exact LeO.none _ | refine LeO.ite ?_ ?_ | refine LeO.bind ?_ (fun _ => ?_)
    · intro y0 y1 y2 y3 y4
      unfold spec_DrawRunBus.l0
      repeat' first | (with_reducible first | exact ih0 _ _ _ _ _ | exact ih1 _ _ _ _ _ | exact ih2 _ _ _ _ _ _ _ _ _ _ | exact ih3 _ _ _ _ _ | exact ih4 _ _ _ _ _ _ _ | exact spec_l1Cur_bytes.mono _ _ _ _ _ | exact spec_l1Cur_frame.mono _ _ _ _ | exact LeO.refl _ | exact LeO.none _ | refine LeO.ite ?_ ?_ | refine LeO.bind ?_ (fun _ => ?_)) | exact ih0 _ _ _ _ _ | exact ih1 _ _ _ _ _ | exact ih2 _ _ _ _ _ _ _ _ _ _ | exact ih3 _ _ _ _ _ | exact ih4 _ _ _ _ _ _ _ | exact spec_l1Cur_bytes.mono _ _ _ _ _ | exact spec_l1Cur_frame.mono _ _ _ _ | exact LeO.none _ | refine LeO.ite ?_ ?_ | refine LeO.bind ?_ (fun _ => ?_)
    · intro y0 y1 y2 y3 y4 y5 y6 y7 y8 y9
      unfold spec_DrawRunBus.l1
      repeat' first | (with_reducible first | exact ih0 _ _ _ _ _ | exact ih1 _ _ _ _ _ | exact ih2 _ _ _ _ _ _ _ _ _ _ | exact ih3 _ _ _ _ _ | exact ih4 _ _ _ _ _ _ _ | exact spec_l1Cur_bytes.mono _ _ _ _ _ | exact spec_l1Cur_frame.mono _ _ _ _ | exact LeO.refl _ | exact LeO.none _ | refine LeO.ite ?_ ?_ | refine LeO.bind ?_ (fun _ => ?_)) | exact ih0 _ _ _ _ _ | exact ih1 _ _ _ _ _ | exact ih2 _ _ _ _ _ _ _ _ _ _ | exact ih3 _ _ _ _ _ | exact ih4 _ _ _ _ _ _ _ | exact spec_l1Cur_bytes.mono _ _ _ _ _ | exact spec_l1Cur_frame.mono _ _ _ _ | exact LeO.none _ | refine LeO.ite ?_ ?_ | refine LeO.bind ?_ (fun _ => ?_)
    · intro y0 y1 y2 y3 y4
      unfold spec_DrawRunBus.j3
      repeat' first | (with_reducible first | exact ih0 _ _ _ _ _ | exact ih1 _ _ _ _ _ | exact ih2 _ _ _ _ _ _ _ _ _ _ | exact ih3 _ _ _ _ _ | exact ih4 _ _ _ _ _ _ _ | exact spec_l1Cur_bytes.mono _ _ _ _ _ | exact spec_l1Cur_frame.mono _ _ _ _ | exact LeO.refl _ | exact LeO.none _ | refine LeO.ite ?_ ?_ | refine LeO.bind ?_ (fun _ => ?_)) | exact ih0 _ _ _ _ _ | exact ih1 _ _ _ _ _ | exact ih2 _ _ _ _ _ _ _ _ _ _ | exact ih3 _ _ _ _ _ | exact ih4 _ _ _ _ _ _ _ | exact spec_l1Cur_bytes.mono _ _ _ _ _ | exact spec_l1Cur_frame.mono _ _ _ _ | exact LeO.none _ | refine LeO.ite ?_ ?_ | refine LeO.bind ?_ (fun _ => ?_)
    · intro y0 y1 y2 y3 y4 y5 y6
      unfold spec_DrawRunBus.l2
      repeat' first | (with_reducible first | exact ih0 _ _ _ _ _ | exact ih1 _ _ _ _ _ | exact ih2 _ _ _ _ _ _ _ _ _ _ | exact ih3 _ _ _ _ _ | exact ih4 _ _ _ _ _ _ _ | exact spec_l1Cur_bytes.mono _ _ _ _ _ | exact spec_l1Cur_frame.mono _ _ _ _ | exact LeO.refl _ | exact LeO.none _ | refine LeO.ite ?_ ?_ | refine LeO.bind ?_ (fun _ => ?_)) | exact ih0 _ _ _ _ _ | exact ih1 _ _ _ _ _ | exact ih2 _ _ _ _ _ _ _ _ _ _ | exact ih3 _ _ _ _ _ | exact ih4 _ _ _ _ _ _ _ | exact spec_l1Cur_bytes.mono _ _ _ _ _ | exact spec_l1Cur_frame.mono _ _ _ _ | exact LeO.none _ | refine LeO.ite ?_ ?_ | refine LeO.bind ?_ (fun _ => ?_)
theorem spec_DrawRunBus.mono : ∀ a0 k, LeO (spec_DrawRunBus.f k a0) (spec_DrawRunBus.f (k + 1) a0) := by
  intro a0 k
  obtain ⟨ih0, ih1, ih2, ih3, ih4⟩ := spec_DrawRunBus.mono_l k
  unfold spec_DrawRunBus.f
  repeat' first | (with_reducible first | exact ih0 _ _ _ _ _ | exact ih1 _ _ _ _ _ | exact ih2 _ _ _ _ _ _ _ _ _ _ | exact ih3 _ _ _ _ _ | exact ih4 _ _ _ _ _ _ _ | exact spec_l1Cur_bytes.mono _ _ _ _ _ | exact spec_l1Cur_frame.mono _ _ _ _ | exact LeO.refl _ | exact LeO.none _ | refine LeO.ite ?_ ?_ | refine LeO.bind ?_ (fun _ => ?_)) | exact ih0 _ _ _ _ _ | exact ih1 _ _ _ _ _ | exact ih2 _ _ _ _ _ _ _ _ _ _ | exact ih3 _ _ _ _ _ | exact ih4 _ _ _ _ _ _ _ | exact spec_l1Cur_bytes.mono _ _ _ _ _ | exact spec_l1Cur_frame.mono _ _ _ _ | exact LeO.none _ | refine LeO.ite ?_ ?_ | refine LeO.bind ?_ (fun _ => ?_)

/-! ### slices_Index_int_int: function 31 -/
def slices_Index_int_int.l0 : Nat → List Int → Int → Int → Int → Option (Int)
  | 0, _, _, _, _ => none
  | k + 1, x0, x1, x7, x8 => if x8 < x7 then (if 0 ≤ x8 then (if x8 < (x0.length : Int) then (if x1 = (rd x0 x8) then (some x8) else (slices_Index_int_int.l0 k x0 x1 x7 (wrap64 (x8 + 1)))) else (none)) else (none)) else (some (-1))
def slices_Index_int_int.f (k : Nat) (l0 : List Int) (a1 : Int) : Option (Int) := slices_Index_int_int.l0 k l0 a1 (l0.length : Int) 0
theorem slices_Index_int_int.mono_l : ∀ k, (∀ y0 y1 y2 y3, LeO (slices_Index_int_int.l0 k y0 y1 y2 y3) (slices_Index_int_int.l0 (k + 1) y0 y1 y2 y3))
  | 0 => fun _ _ _ _ r h => by simp [slices_Index_int_int.l0] at h
  | k + 1 => by
    have ih0 := slices_Index_int_int.mono_l k
    · intro y0 y1 y2 y3
      unfold slices_Index_int_int.l0
      repeat' first | (with_reducible first | exact ih0 _ _ _ _ | exact LeO.refl _ | exact LeO.none _ | refine LeO.ite ?_ ?_ | refine LeO.bind ?_ (fun _ => ?_)) | exact ih0 _ _ _ _ | exact LeO.none _ | refine LeO.ite ?_ ?_ | refine LeO.bind ?_ (fun _ => ?_)
theorem slices_Index_int_int.mono : ∀ a0 a1 k, LeO (slices_Index_int_int.f k a0 a1) (slices_Index_int_int.f (k + 1) a0 a1) := by
  intro a0 a1 k
  have ih0 := slices_Index_int_int.mono_l k
  unfold slices_Index_int_int.f
  repeat' first | (with_reducible first | exact ih0 _ _ _ _ | exact LeO.refl _ | exact LeO.none _ | refine LeO.ite ?_ ?_ | refine LeO.bind ?_ (fun _ => ?_)) | exact ih0 _ _ _ _ | exact LeO.none _ | refine LeO.ite ?_ ?_ | refine LeO.bind ?_ (fun _ => ?_)

/-! ### impl_Arbitrate: function 15 -/
mutual
def impl_Arbitrate.j0 : Nat → List Int → Bool → Option (Int × List Int × Bool)
  | 0, _, _ => none
  | k + 1, x0, x21 => if x21 = true then (some (0, ([] : List Int), false)) else (if 0 ≤ (x0.length : Int) then (if ((x0.length : Int) : Int).toNat ≤ 35184372088832 then (impl_Arbitrate.l0 k x0 (List.replicate ((x0.length : Int) : Int).toNat 0) x0 (x0.length : Int) 0) else (none)) else (none))
def impl_Arbitrate.l0 : Nat → List Int → List Int → List Int → Int → Int → Option (Int × List Int × Bool)
  | 0, _, _, _, _, _ => none
  | k + 1, x0, x5, x25, x26, x27 => if x27 < x26 then (if 0 ≤ x27 then (if x27 < (x25.length : Int) then ((impl_between.f (rd x25 x27) 0 2047).bind fun t355 => (if t355 = true then (if x27 < (x5.length : Int) then (impl_Arbitrate.l0 k x0 (x5.set (x27 : Int).toNat (-1)) x25 x26 (wrap64 (x27 + 1))) else (none)) else (some (0, ([] : List Int), false)))) else (none)) else (none)) else (impl_Arbitrate.l1 k x0 x5 0)
def impl_Arbitrate.l1 : Nat → List Int → List Int → Int → Option (Int × List Int × Bool)
  | 0, _, _, _ => none
  | k + 1, x0, x5, x39 => if x39 < 11 then (impl_Arbitrate.l2 k x0 x5 x39 1 x39 x0 (x0.length : Int) 0) else ((slices_Index_int_int.f k x5 (-1)).bind fun t357 => (some (t357, x5, true)))
def impl_Arbitrate.l2 : Nat → List Int → List Int → Int → Int → Int → List Int → Int → Int → Option (Int × List Int × Bool)
  | 0, _, _, _, _, _, _, _, _ => none
  | k + 1, x0, x5, x8, x9, x39, x42, x43, x44 => if x44 < x43 then (if 0 ≤ x44 then (if x44 < (x42.length : Int) then (if x44 < (x5.length : Int) then (if (rd x5 x44) < 0 then (if 0 ≤ (wrap64 (10 - x8)) then (impl_Arbitrate.l2 k x0 x5 x8 (Go.bits .and .i64 x9 (Go.bits .and .i64 (shr .i64 (rd x42 x44) (wrap64 (10 - x8))) 1)) x39 x42 x43 (wrap64 (x44 + 1))) else (none)) else (impl_Arbitrate.l2 k x0 x5 x8 x9 x39 x42 x43 (wrap64 (x44 + 1)))) else (none)) else (none)) else (none)) else (impl_Arbitrate.l3 k x0 x5 x8 x9 x39 x0 (x0.length : Int) 0)
def impl_Arbitrate.l3 : Nat → List Int → List Int → Int → Int → Int → List Int → Int → Int → Option (Int × List Int × Bool)
  | 0, _, _, _, _, _, _, _, _ => none
  | k + 1, x0, x5, x8, x9, x39, x62, x63, x64 => if x64 < x63 then (if 0 ≤ x64 then (if x64 < (x62.length : Int) then (if x64 < (x5.length : Int) then (if (rd x5 x64) < 0 then (if 0 ≤ (wrap64 (10 - x8)) then (if (Go.bits .and .i64 (shr .i64 (rd x62 x64) (wrap64 (10 - x8))) 1) > x9 then (impl_Arbitrate.l3 k x0 (x5.set (x64 : Int).toNat x8) x8 x9 x39 x62 x63 (wrap64 (x64 + 1))) else (impl_Arbitrate.l3 k x0 x5 x8 x9 x39 x62 x63 (wrap64 (x64 + 1)))) else (none)) else (impl_Arbitrate.l3 k x0 x5 x8 x9 x39 x62 x63 (wrap64 (x64 + 1)))) else (none)) else (none)) else (none)) else (impl_Arbitrate.l1 k x0 x5 (wrap64 (x39 + 1)))
end
def impl_Arbitrate.f (k : Nat) (l0 : List Int) : Option (Int × List Int × Bool) := if (l0.length : Int) < 1 then (impl_Arbitrate.j0 k l0 true) else (impl_Arbitrate.j0 k l0 (decide ((l0.length : Int) > 6)))
theorem impl_Arbitrate.mono_l : ∀ k, (∀ y0 y1, LeO (impl_Arbitrate.j0 k y0 y1) (impl_Arbitrate.j0 (k + 1) y0 y1)) ∧ (∀ y0 y1 y2 y3 y4, LeO (impl_Arbitrate.l0 k y0 y1 y2 y3 y4) (impl_Arbitrate.l0 (k + 1) y0 y1 y2 y3 y4)) ∧ (∀ y0 y1 y2, LeO (impl_Arbitrate.l1 k y0 y1 y2) (impl_Arbitrate.l1 (k + 1) y0 y1 y2)) ∧ (∀ y0 y1 y2 y3 y4 y5 y6 y7, LeO (impl_Arbitrate.l2 k y0 y1 y2 y3 y4 y5 y6 y7) (impl_Arbitrate.l2 (k + 1) y0 y1 y2 y3 y4 y5 y6 y7)) ∧ (∀ y0 y1 y2 y3 y4 y5 y6 y7, LeO (impl_Arbitrate.l3 k y0 y1 y2 y3 y4 y5 y6 y7) (impl_Arbitrate.l3 (k + 1) y0 y1 y2 y3 y4 y5 y6 y7))
  | 0 => ⟨fun _ _ r h => by simp [impl_Arbitrate.j0] at h, fun _ _ _ _ _ r h => by simp [impl_Arbitrate.l0] at h, fun _ _ _ r h => by simp [impl_Arbitrate.l1] at h, fun _ _ _ _ _ _ _ _ r h => by simp [impl_Arbitrate.l2] at h, fun _ _ _ _ _ _ _ _ r h => by simp [impl_Arbitrate.l3] at h⟩
  | k + 1 => by
    obtain ⟨ih0, ih1, ih2, ih3, ih4⟩ := impl_Arbitrate.mono_l k
    refine ⟨?_, ?_, ?_, ?_, ?_⟩
    · intro y0 y1
      unfold impl_Arbitrate.j0
      repeat' first | (with_reducible first | exact ih0 _ _ | exact ih1 _ _ _ _ _ | exact ih2 _ _ _ | exact ih3 _ _ _ _ _ _ _ _ | exact ih4 _ _ _ _ _ _ _ _ | exact slices_Index_int_int.mono _ _ _ | exact LeO.refl _ | exact LeO.none _ | refine LeO.ite ?_ ?_ | refine LeO.bind ?_ (fun _ => ?_)) | exact ih0 _ _ | exact ih1 _ _ _ _ _ | exact ih2 _ _ _ | exact ih3 _ _ _ _ _ _ _ _ | exact ih4 _ _ _ _ _ _ _ _ | exact slices_Index_int_int.mono _ _ _ | exact LeO.none _ | refine LeO.ite ?_ ?_ | refine LeO.bind ?_ (fun _ => ?_)
    · intro y0 y1 y2 y3 y4
      unfold impl_Arbitrate.l0
      repeat' first | (with_reducible first | exact ih0 _ _ | exact ih1 _ _ _ _ _ | exact ih2 _ _ _ | exact ih3 _ _ _ _ _ _ _ _ | exact ih4 _ _ _ _ _ _ _ _ | exact slices_Index_int_int.mono _ _ _ | exact LeO.refl _ | exact LeO.none _ | refine LeO.ite ?_ ?_ | refine LeO.bind ?_ (fun _ => ?_)) | exact ih0 _ _ | exact ih1 _ _ _ _ _ | exact ih2 _ _ _ | exact ih3 _ _ _ _ _ _ _ _ | exact ih4 _ _ _ _ _ _ _ _ | exact slices_Index_int_int.mono _ _ _ | exact LeO.none _ | refine LeO.ite ?_ ?_ | refine LeO.bind ?_ (fun _ => ?_)
    · intro y0 y1 y2
      unfold impl_Arbitrate.l1
      repeat' first | (with_reducible first | exact ih0 _ _ | exact ih1 _ _ _ _ _ | exact ih2 _ _ _ | exact ih3 _ _ _ _ _ _ _ _ | exact ih4 _ _ _ _ _ _ _ _ | exact slices_Index_int_int.mono _ _ _ | exact LeO.refl _ | exact LeO.none _ | refine LeO.ite ?_ ?_ | refine LeO.bind ?_ (fun _ => ?_)) | exact ih0 _ _ | exact ih1 _ _ _ _ _ | exact ih2 _ _ _ | exact ih3 _ _ _ _ _ _ _ _ | exact ih4 _ _ _ _ _ _ _ _ | exact slices_Index_int_int.mono _ _ _ | exact LeO.none _ | refine LeO.ite ?_ ?_ | refine LeO.bind ?_ (fun _ => ?_)
    · intro y0 y1 y2 y3 y4 y5 y6 y7
      unfold impl_Arbitrate.l2
      repeat' first | (with_reducible first | exact ih0 _ _ | exact ih1 _ _ _ _ _ | exact ih2 _ _ _ | exact ih3 _ _ _ _ _ _ _ _ | exact ih4 _ _ _ _ _ _ _ _ | exact slices_Index_int_int.mono _ _ _ | exact LeO.refl _ | exact LeO.none _ | refine LeO.ite ?_ ?_ | refine LeO.bind ?_ (fun _ => ?_)) | exact ih0 _ _ | exact ih1 _ _ _ _ _ | exact ih2 _ _ _ | exact ih3 _ _ _ _ _ _ _ _ | exact ih4 _ _ _ _ _ _ _ _ | exact slices_Index_int_int.mono _ _ _ | exact LeO.none _ | refine LeO.ite ?_ ?_ | refine LeO.bind ?_ (fun _ => ?_)
    · intro y0 y1 y2 y3 y4 y5 y6 y7
      unfold impl_Arbitrate.l3
      repeat' first | (with_reducible first | exact ih0 _ _ | exact ih1 _ _ _ _ _ | exact ih2 _ _ _ | exact ih3 _ _ _ _ _ _ _ _ | exact ih4 _ _ _ _ _ _ _ _ | exact slices_Index_int_int.mono _ _ _ | exact LeO.refl _ | exact LeO.none _ | refine LeO.ite ?_ ?_ | refine LeO.bind ?_ (fun _ => ?_)) | exact ih0 _ _ | exact ih1 _ _ _ _ _ | exact ih2 _ _ _ | exact ih3 _ _ _ _ _ _ _ _ | exact ih4 _ _ _ _ _ _ _ _ | exact slices_Index_int_int.mono _ _ _ | exact LeO.none _ | refine LeO.ite ?_ ?_ | refine LeO.bind ?_ (fun _ => ?_)
theorem impl_Arbitrate.mono : ∀ a0 k, LeO (impl_Arbitrate.f k a0) (impl_Arbitrate.f (k + 1) a0) := by
  intro a0 k
  obtain ⟨ih0, ih1, ih2, ih3, ih4⟩ := impl_Arbitrate.mono_l k
  unfold impl_Arbitrate.f
  repeat' first | (with_reducible first | exact ih0 _ _ | exact ih1 _ _ _ _ _ | exact ih2 _ _ _ | exact ih3 _ _ _ _ _ _ _ _ | exact ih4 _ _ _ _ _ _ _ _ | exact slices_Index_int_int.mono _ _ _ | exact LeO.refl _ | exact LeO.none _ | refine LeO.ite ?_ ?_ | refine LeO.bind ?_ (fun _ => ?_)) | exact ih0 _ _ | exact ih1 _ _ _ _ _ | exact ih2 _ _ _ | exact ih3 _ _ _ _ _ _ _ _ | exact ih4 _ _ _ _ _ _ _ _ | exact slices_Index_int_int.mono _ _ _ | exact LeO.none _ | refine LeO.ite ?_ ?_ | refine LeO.bind ?_ (fun _ => ?_)

/-! ### impl_goodTalker: function 42 -/
def impl_goodTalker.l0 : Nat → List (S27) → Int → Int → List (S27) → Int → Int → Bool → Option (Bool)
  | 0, _, _, _, _, _, _, _ => none
  | k + 1, x6, x7, x8, x364000, x364001, x364002, x364003 => if x8 < x7 then (if 0 ≤ x8 then (if x8 < (x6.length : Int) then ((impl_GoodFrame.f ((rd_T27 x6 x8).f0) ((rd_T27 x6 x8).f1)).bind fun t366 => (if t366 = true then (impl_goodTalker.l0 k x6 x7 (wrap64 (x8 + 1)) x364000 x364001 x364002 x364003) else (some false))) else (none)) else (none)) else (if (x364000.length : Int) ≤ 8 then ((impl_between.f x364001 1 10).bind fun t367 => (if t367 = true then ((impl_between.f x364002 0 255).bind fun t368 => (if t368 = true then (some (x364003 == (x364002 == 255))) else (some false))) else (some false))) else (some false))
def impl_goodTalker.f (k : Nat) (l0_0 : List (S27)) (a0_1 : Int) (a0_2 : Int) (a0_3 : Bool) : Option (Bool) := impl_goodTalker.l0 k l0_0 (l0_0.length : Int) 0 l0_0 a0_1 a0_2 a0_3
theorem impl_goodTalker.mono_l : ∀ k, (∀ y0 y1 y2 y3 y4 y5 y6, LeO (impl_goodTalker.l0 k y0 y1 y2 y3 y4 y5 y6) (impl_goodTalker.l0 (k + 1) y0 y1 y2 y3 y4 y5 y6))
  | 0 => fun _ _ _ _ _ _ _ r h => by simp [impl_goodTalker.l0] at h
  | k + 1 => by
    have ih0 := impl_goodTalker.mono_l k
    · intro y0 y1 y2 y3 y4 y5 y6
      unfold impl_goodTalker.l0
      repeat' first | (with_reducible first | exact ih0 _ _ _ _ _ _ _ | exact LeO.refl _ | exact LeO.none _ | refine LeO.ite ?_ ?_ | refine LeO.bind ?_ (fun _ => ?_)) | exact ih0 _ _ _ _ _ _ _ | exact LeO.none _ | refine LeO.ite ?_ ?_ | refine LeO.bind ?_ (fun _ => ?_)
theorem impl_goodTalker.mono : ∀ a0 a1 a2 a3 k, LeO (impl_goodTalker.f k a0 a1 a2 a3) (impl_goodTalker.f (k + 1) a0 a1 a2 a3) := by
  intro a0 a1 a2 a3 k
  have ih0 := impl_goodTalker.mono_l k
  unfold impl_goodTalker.f
  repeat' first | (with_reducible first | exact ih0 _ _ _ _ _ _ _ | exact LeO.refl _ | exact LeO.none _ | refine LeO.ite ?_ ?_ | refine LeO.bind ?_ (fun _ => ?_)) | exact ih0 _ _ _ _ _ _ _ | exact LeO.none _ | refine LeO.ite ?_ ?_ | refine LeO.bind ?_ (fun _ => ?_)

/-! ### slices_Contains_int_int: function 44 -/
def slices_Contains_int_int.f (k : Nat) (l0 : List Int) (a1 : Int) : Option (Bool) := (slices_Index_int_int.f k l0 a1).bind fun t369 => (some (decide (t369 ≥ 0)))
theorem slices_Contains_int_int.mono : ∀ a0 a1 k, LeO (slices_Contains_int_int.f k a0 a1) (slices_Contains_int_int.f (k + 1) a0 a1) := by
  intro a0 a1 k
  unfold slices_Contains_int_int.f
  repeat' first | (with_reducible first | exact slices_Index_int_int.mono _ _ _ | exact LeO.refl _ | exact LeO.none _ | refine LeO.ite ?_ ?_ | refine LeO.bind ?_ (fun _ => ?_)) | exact slices_Index_int_int.mono _ _ _ | exact LeO.none _ | refine LeO.ite ?_ ?_ | refine LeO.bind ?_ (fun _ => ?_)

/-! ### spec_Arbitrate: function 13 -/
mutual
def spec_Arbitrate.j0 : Nat → List Int → Bool → Option (Int × List Int × Bool)
  | 0, _, _ => none
  | k + 1, x0, x23 => if x23 = true then (some (0, ([] : List Int), false)) else (spec_Arbitrate.l0 k x0 x0 (x0.length : Int) 0)
def spec_Arbitrate.l0 : Nat → List Int → List Int → Int → Int → Option (Int × List Int × Bool)
  | 0, _, _, _, _ => none
  | k + 1, x0, x24, x25, x26 => if x26 < x25 then (if 0 ≤ x26 then (if x26 < (x24.length : Int) then (if (rd x24 x26) < 0 then (some (0, ([] : List Int), false)) else (if (rd x24 x26) > 2047 then (some (0, ([] : List Int), false)) else (spec_Arbitrate.l0 k x0 x24 x25 (wrap64 (x26 + 1))))) else (none)) else (none)) else (if 0 ≤ (x0.length : Int) then (if ((x0.length : Int) : Int).toNat ≤ 35184372088832 then ((some (List.replicate ((x0.length : Int) : Int).toNat 0 : List Int)).bind fun y378 => (spec_Arbitrate.l1 k x0 y378 (y378.length : Int) 0)) else (none)) else (none))
def spec_Arbitrate.l1 : Nat → List Int → List Int → Int → Int → Option (Int × List Int × Bool)
  | 0, _, _, _, _ => none
  | k + 1, x0, x7, x41, x42 => if x42 < x41 then (if 0 ≤ x42 then (if x42 < (x7.length : Int) then (spec_Arbitrate.l1 k x0 (x7.set (x42 : Int).toNat (-1)) x41 (wrap64 (x42 + 1))) else (none)) else (none)) else (spec_Arbitrate.l2 k x0 x7 0)
def spec_Arbitrate.l2 : Nat → List Int → List Int → Int → Option (Int × List Int × Bool)
  | 0, _, _, _ => none
  | k + 1, x0, x7, x9 => if x9 < 11 then (spec_Arbitrate.l3 k x0 x7 x9 false x0 (x0.length : Int) 0) else (spec_Arbitrate.l5 k x7 0)
def spec_Arbitrate.l3 : Nat → List Int → List Int → Int → Bool → List Int → Int → Int → Option (Int × List Int × Bool)
  | 0, _, _, _, _, _, _, _ => none
  | k + 1, x0, x7, x9, x10, x53, x54, x55 => if x55 < x54 then (if 0 ≤ x55 then (if x55 < (x53.length : Int) then (if x10 = true then (spec_Arbitrate.l3 k x0 x7 x9 true x53 x54 (wrap64 (x55 + 1))) else (if x55 < (x7.length : Int) then (if (rd x7 x55) < 0 then (if 0 ≤ (IntKind.u64.wrap (wrap64 (10 - x9))) then (spec_Arbitrate.l3 k x0 x7 x9 ((Go.bits .and .i64 (shr .i64 (rd x53 x55) (IntKind.u64.wrap (wrap64 (10 - x9)))) 1) == 0) x53 x54 (wrap64 (x55 + 1))) else (none)) else (spec_Arbitrate.l3 k x0 x7 x9 false x53 x54 (wrap64 (x55 + 1)))) else (none))) else (none)) else (none)) else (spec_Arbitrate.l4 k x0 x7 x9 x10 x0 (x0.length : Int) 0)
def spec_Arbitrate.l4 : Nat → List Int → List Int → Int → Bool → List Int → Int → Int → Option (Int × List Int × Bool)
  | 0, _, _, _, _, _, _, _ => none
  | k + 1, x0, x7, x9, x10, x78, x79, x80 => if x80 < x79 then (if 0 ≤ x80 then (if x80 < (x78.length : Int) then (if x10 = true then (if x80 < (x7.length : Int) then (if (rd x7 x80) < 0 then (if 0 ≤ (IntKind.u64.wrap (wrap64 (10 - x9))) then (if (Go.bits .and .i64 (shr .i64 (rd x78 x80) (IntKind.u64.wrap (wrap64 (10 - x9)))) 1) = 1 then (spec_Arbitrate.l4 k x0 (x7.set (x80 : Int).toNat x9) x9 x10 x78 x79 (wrap64 (x80 + 1))) else (spec_Arbitrate.l4 k x0 x7 x9 x10 x78 x79 (wrap64 (x80 + 1)))) else (none)) else (spec_Arbitrate.l4 k x0 x7 x9 x10 x78 x79 (wrap64 (x80 + 1)))) else (none)) else (spec_Arbitrate.l4 k x0 x7 x9 x10 x78 x79 (wrap64 (x80 + 1)))) else (none)) else (none)) else (spec_Arbitrate.l2 k x0 x7 (wrap64 (x9 + 1)))
def spec_Arbitrate.l5 : Nat → List Int → Int → Option (Int × List Int × Bool)
  | 0, _, _ => none
  | k + 1, x7, x15 => if 0 ≤ x15 then (if x15 < (x7.length : Int) then (if (rd x7 x15) ≥ 0 then (spec_Arbitrate.l5 k x7 (wrap64 (x15 + 1))) else (some (x15, x7, true))) else (none)) else (none)
end
def spec_Arbitrate.f (k : Nat) (l0 : List Int) : Option (Int × List Int × Bool) := if (l0.length : Int) < 1 then (spec_Arbitrate.j0 k l0 true) else (spec_Arbitrate.j0 k l0 (decide ((l0.length : Int) > 6)))
theorem spec_Arbitrate.mono_l : ∀ k, (∀ y0 y1, LeO (spec_Arbitrate.j0 k y0 y1) (spec_Arbitrate.j0 (k + 1) y0 y1)) ∧ (∀ y0 y1 y2 y3, LeO (spec_Arbitrate.l0 k y0 y1 y2 y3) (spec_Arbitrate.l0 (k + 1) y0 y1 y2 y3)) ∧ (∀ y0 y1 y2 y3, LeO (spec_Arbitrate.l1 k y0 y1 y2 y3) (spec_Arbitrate.l1 (k + 1) y0 y1 y2 y3)) ∧ (∀ y0 y1 y2, LeO (spec_Arbitrate.l2 k y0 y1 y2) (spec_Arbitrate.l2 (k + 1) y0 y1 y2)) ∧ (∀ y0 y1 y2 y3 y4 y5 y6, LeO (spec_Arbitrate.l3 k y0 y1 y2 y3 y4 y5 y6) (spec_Arbitrate.l3 (k + 1) y0 y1 y2 y3 y4 y5 y6)) ∧ (∀ y0 y1 y2 y3 y4 y5 y6, LeO (spec_Arbitrate.l4 k y0 y1 y2 y3 y4 y5 y6) (spec_Arbitrate.l4 (k + 1) y0 y1 y2 y3 y4 y5 y6)) ∧ (∀ y0 y1, LeO (spec_Arbitrate.l5 k y0 y1) (spec_Arbitrate.l5 (k + 1) y0 y1))
  | 0 => ⟨fun _ _ r h => by simp [spec_Arbitrate.j0] at h, fun _ _ _ _ r h => by simp [spec_Arbitrate.l0] at h, fun _ _ _ _ r h => by simp [spec_Arbitrate.l1] at h, fun _ _ _ r h => by simp [spec_Arbitrate.l2] at h, fun _ _ _ _ _ _ _ r h => by simp [spec_Arbitrate.l3] at h, fun _ _ _ _ _ _ _ r h => by simp [spec_Arbitrate.l4] at h, fun _ _ r h => by simp [spec_Arbitrate.l5] at h⟩
  | k + 1 => by
    obtain ⟨ih0, ih1, ih2, ih3, ih4, ih5, ih6⟩ := spec_Arbitrate.mono_l k
    refine ⟨?_, ?_, ?_, ?_, ?_, ?_, ?_⟩
    · intro y0 y1
      unfold spec_Arbitrate.j0
      repeat' first | (with_reducible first | exact ih0 _ _ | exact ih1 _ _ _ _ | exact ih2 _ _ _ _ | exact ih3 _ _ _ | exact ih4 _ _ _ _ _ _ _ | exact ih5 _ _ _ _ _ _ _ | exact ih6 _ _ | exact LeO.refl _ | exact LeO.none _ | refine LeO.ite ?_ ?_ | refine LeO.bind ?_ (fun _ => ?_)) | exact ih0 _ _ | exact ih1 _ _ _ _ | exact ih2 _ _ _ _ | exact ih3 _ _ _ | exact ih4 _ _ _ _ _ _ _ | exact ih5 _ _ _ _ _ _ _ | exact ih6 _ _ | exact LeO.none _ | refine LeO.ite ?_ ?_ | refine LeO.bind ?_ (fun _ => ?_)
    · intro y0 y1 y2 y3
      unfold spec_Arbitrate.l0
      repeat' first | (with_reducible first | exact ih0 _ _ | exact ih1 _ _ _ _ | exact ih2 _ _ _ _ | exact ih3 _ _ _ | exact ih4 _ _ _ _ _ _ _ | exact ih5 _ _ _ _ _ _ _ | exact ih6 _ _ | exact LeO.refl _ | exact LeO.none _ | refine LeO.ite ?_ ?_ | refine LeO.bind ?_ (fun _ => ?_)) | exact ih0 _ _ | exact ih1 _ _ _ _ | exact ih2 _ _ _ _ | exact ih3 _ _ _ | exact ih4 _ _ _ _ _ _ _ | exact ih5 _ _ _ _ _ _ _ | exact ih6 _ _ | exact LeO.none _ | refine LeO.ite ?_ ?_ | refine LeO.bind ?_ (fun _ => ?_)
    · intro y0 y1 y2 y3
      unfold spec_Arbitrate.l1
      repeat' first | (with_reducible first | exact ih0 _ _ | exact ih1 _ _ _ _ | exact ih2 _ _ _ _ | exact ih3 _ _ _ | exact ih4 _ _ _ _ _ _ _ | exact ih5 _ _ _ _ _ _ _ | exact ih6 _ _ | exact LeO.refl _ | exact LeO.none _ | refine LeO.ite ?_ ?_ | refine LeO.bind ?_ (fun _ => ?_)) | exact ih0 _ _ | exact ih1 _ _ _ _ | exact ih2 _ _ _ _ | exact ih3 _ _ _ | exact ih4 _ _ _ _ _ _ _ | exact ih5 _ _ _ _ _ _ _ | exact ih6 _ _ | exact LeO.none _ | refine LeO.ite ?_ ?_ | refine LeO.bind ?_ (fun _ => ?_)
    · intro y0 y1 y2
      unfold spec_Arbitrate.l2
      repeat' first | (with_reducible first | exact ih0 _ _ | exact ih1 _ _ _ _ | exact ih2 _ _ _ _ | exact ih3 _ _ _ | exact ih4 _ _ _ _ _ _ _ | exact ih5 _ _ _ _ _ _ _ | exact ih6 _ _ | exact LeO.refl _ | exact LeO.none _ | refine LeO.ite ?_ ?_ | refine LeO.bind ?_ (fun _ => ?_)) | exact ih0 _ _ | exact ih1 _ _ _ _ | exact ih2 _ _ _ _ | exact ih3 _ _ _ | exact ih4 _ _ _ _ _ _ _ | exact ih5 _ _ _ _ _ _ _ | exact ih6 _ _ | exact LeO.none _ | refine LeO.ite ?_ ?_ | refine LeO.bind ?_ (fun _ => ?_)
    · intro y0 y1 y2 y3 y4 y5 y6
      unfold spec_Arbitrate.l3
      repeat' first | (with_reducible first | exact ih0 _ _ | exact ih1 _ _ _ _ | exact ih2 _ _ _ _ | exact ih3 _ _ _ | exact ih4 _ _ _ _ _ _ _ | exact ih5 _ _ _ _ _ _ _ | exact ih6 _ _ | exact LeO.refl _ | exact LeO.none _ | refine LeO.ite ?_ ?_ | refine LeO.bind ?_ (fun _ => ?_)) | exact ih0 _ _ | exact ih1 _ _ _ _ | exact ih2 _ _ _ _ | exact ih3 _ _ _ | exact ih4 _ _ _ _ _ _ _ | exact ih5 _ _ _ _ _ _ _ | exact ih6 _ _ | exact LeO.none _ | refine LeO.ite ?_ ?_ | refine LeO.bind ?_ (fun _ => ?_)
    · intro y0 y1 y2 y3 y4 y5 y6
      unfold spec_Arbitrate.l4
      repeat' first | (with_reducible first | exact ih0 _ _ | exact ih1 _ _ _ _ | exact ih2 _ _ _ _ | exact ih3 _ _ _ | exact ih4 _ _ _ _ _ _ _ | exact ih5 _ _ _ _ _ _ _ | exact ih6 _ _ | exact LeO.refl _ | exact LeO.none _ | refine LeO.ite ?_ ?_ | refine LeO.bind ?_ (fun _ => ?_)) | exact ih0 _ _ | exact ih1 _ _ _ _ | exact ih2 _ _ _ _ | exact ih3 _ _ _ | exact ih4 _ _ _ _ _ _ _ | exact ih5 _ _ _ _ _ _ _ | exact ih6 _ _ | exact LeO.none _ | refine LeO.ite ?_ ?_ | refine LeO.bind ?_ (fun _ => ?_)
    · intro y0 y1
      unfold spec_Arbitrate.l5
      repeat' first | (with_reducible first | exact ih0 _ _ | exact ih1 _ _ _ _ | exact ih2 _ _ _ _ | exact ih3 _ _ _ | exact ih4 _ _ _ _ _ _ _ | exact ih5 _ _ _ _ _ _ _ | exact ih6 _ _ | exact LeO.refl _ | exact LeO.none _ | refine LeO.ite ?_ ?_ | refine LeO.bind ?_ (fun _ => ?_)) | exact ih0 _ _ | exact ih1 _ _ _ _ | exact ih2 _ _ _ _ | exact ih3 _ _ _ | exact ih4 _ _ _ _ _ _ _ | exact ih5 _ _ _ _ _ _ _ | exact ih6 _ _ | exact LeO.none _ | refine LeO.ite ?_ ?_ | refine LeO.bind ?_ (fun _ => ?_)
theorem spec_Arbitrate.mono : ∀ a0 k, LeO (spec_Arbitrate.f k a0) (spec_Arbitrate.f (k + 1) a0) := by
  intro a0 k
  obtain ⟨ih0, ih1, ih2, ih3, ih4, ih5, ih6⟩ := spec_Arbitrate.mono_l k
  unfold spec_Arbitrate.f
  repeat' first | (with_reducible first | exact ih0 _ _ | exact ih1 _ _ _ _ | exact ih2 _ _ _ _ | exact ih3 _ _ _ | exact ih4 _ _ _ _ _ _ _ | exact ih5 _ _ _ _ _ _ _ | exact ih6 _ _ | exact LeO.refl _ | exact LeO.none _ | refine LeO.ite ?_ ?_ | refine LeO.bind ?_ (fun _ => ?_)) | exact ih0 _ _ | exact ih1 _ _ _ _ | exact ih2 _ _ _ _ | exact ih3 _ _ _ | exact ih4 _ _ _ _ _ _ _ | exact ih5 _ _ _ _ _ _ _ | exact ih6 _ _ | exact LeO.none _ | refine LeO.ite ?_ ?_ | refine LeO.bind ?_ (fun _ => ?_)

/-! ### spec_l23Talker: function 46 -/
mutual
def spec_l23Talker.j0 : Nat → Bool → List (S27) → Int → Int → Bool → Option (Bool)
  | 0, _, _, _, _, _ => none
  | k + 1, x36, x389000, x389001, x389002, x389003 => if x36 = true then (some false) else (spec_l23Talker.l0 k x389000 (x389000.length : Int) 0)
def spec_l23Talker.l0 : Nat → List (S27) → Int → Int → Option (Bool)
  | 0, _, _, _ => none
  | k + 1, x38, x39, x40 => if x40 < x39 then (if 0 ≤ x40 then (if x40 < (x38.length : Int) then ((spec_GoodFrame.f ((rd_T27 x38 x40).f0) ((rd_T27 x38 x40).f1)).bind fun t391 => (if t391 = true then (spec_l23Talker.l0 k x38 x39 (wrap64 (x40 + 1))) else (some false))) else (none)) else (none)) else (some true)
end
def spec_l23Talker.f (k : Nat) (l0_0 : List (S27)) (a0_1 : Int) (a0_2 : Int) (a0_3 : Bool) : Option (Bool) := if (l0_0.length : Int) > 8 then (spec_l23Talker.j0 k true l0_0 a0_1 a0_2 a0_3) else (if a0_1 < 1 then (spec_l23Talker.j0 k true l0_0 a0_1 a0_2 a0_3) else (if a0_1 > 10 then (spec_l23Talker.j0 k true l0_0 a0_1 a0_2 a0_3) else (if a0_2 < 0 then (spec_l23Talker.j0 k true l0_0 a0_1 a0_2 a0_3) else (if a0_2 > 255 then (spec_l23Talker.j0 k true l0_0 a0_1 a0_2 a0_3) else (spec_l23Talker.j0 k (a0_3 != (a0_2 == 255)) l0_0 a0_1 a0_2 a0_3)))))
theorem spec_l23Talker.mono_l : ∀ k, (∀ y0 y1 y2 y3 y4, LeO (spec_l23Talker.j0 k y0 y1 y2 y3 y4) (spec_l23Talker.j0 (k + 1) y0 y1 y2 y3 y4)) ∧ (∀ y0 y1 y2, LeO (spec_l23Talker.l0 k y0 y1 y2) (spec_l23Talker.l0 (k + 1) y0 y1 y2))
  | 0 => ⟨fun _ _ _ _ _ r h => by simp [spec_l23Talker.j0] at h, fun _ _ _ r h => by simp [spec_l23Talker.l0] at h⟩
  | k + 1 => by
    obtain ⟨ih0, ih1⟩ := spec_l23Talker.mono_l k
    refine ⟨?_, ?_⟩
    · intro y0 y1 y2 y3 y4
      unfold spec_l23Talker.j0
      repeat' first | (with_reducible first | exact ih0 _ _ _ _ _ | exact ih1 _ _ _ | exact LeO.refl _ | exact LeO.none _ | refine LeO.ite ?_ ?_ | refine LeO.bind ?_ (fun _ => ?_)) | exact ih0 _ _ _ _ _ | exact ih1 _ _ _ | exact LeO.none _ | refine LeO.ite ?_ ?_ | refine LeO.bind ?_ (fun _ => ?_)
    · intro y0 y1 y2
      unfold spec_l23Talker.l0
      repeat' first | (with_reducible first | exact ih0 _ _ _ _ _ | exact ih1 _ _ _ | exact LeO.refl _ | exact LeO.none _ | refine LeO.ite ?_ ?_ | refine LeO.bind ?_ (fun _ => ?_)) | exact ih0 _ _ _ _ _ | exact ih1 _ _ _ | exact LeO.none _ | refine LeO.ite ?_ ?_ | refine LeO.bind ?_ (fun _ => ?_)
theorem spec_l23Talker.mono : ∀ a0 a1 a2 a3 k, LeO (spec_l23Talker.f k a0 a1 a2 a3) (spec_l23Talker.f (k + 1) a0 a1 a2 a3) := by
  intro a0 a1 a2 a3 k
  obtain ⟨ih0, ih1⟩ := spec_l23Talker.mono_l k
  unfold spec_l23Talker.f
  repeat' first | (with_reducible first | exact ih0 _ _ _ _ _ | exact ih1 _ _ _ | exact LeO.refl _ | exact LeO.none _ | refine LeO.ite ?_ ?_ | refine LeO.bind ?_ (fun _ => ?_)) | exact ih0 _ _ _ _ _ | exact ih1 _ _ _ | exact LeO.none _ | refine LeO.ite ?_ ?_ | refine LeO.bind ?_ (fun _ => ?_)

/-! ### spec_l23Frames: function 47 -/
def spec_l23Frames.l0 : Nat → List (S27) → List (S27) → Int → Int → Option ((List (S27)))
  | 0, _, _, _, _ => none
  | k + 1, x3, x6, x7, x8 => if x8 < x7 then (if 0 ≤ x8 then (if x8 < (x6.length : Int) then ((some (([] : List Int) : List Int)).bind fun y394 => (if y394.length + ((rd_T27 x6 x8).f1).length < 140737488355328 then (if x3.length < 4398046511104 then (spec_l23Frames.l0 k (x3 ++ [(⟨(rd_T27 x6 x8).f0, (y394 ++ ((rd_T27 x6 x8).f1))⟩ : S27)]) x6 x7 (wrap64 (x8 + 1))) else (none)) else (none))) else (none)) else (none)) else (some x3)
def spec_l23Frames.f (k : Nat) (l0 : List (S27)) : Option ((List (S27))) := spec_l23Frames.l0 k ([] : List (S27)) l0 (l0.length : Int) 0
theorem spec_l23Frames.mono_l : ∀ k, (∀ y0 y1 y2 y3, LeO (spec_l23Frames.l0 k y0 y1 y2 y3) (spec_l23Frames.l0 (k + 1) y0 y1 y2 y3))
  | 0 => fun _ _ _ _ r h => by simp [spec_l23Frames.l0] at h
  | k + 1 => by
    have ih0 := spec_l23Frames.mono_l k
    · intro y0 y1 y2 y3
      unfold spec_l23Frames.l0
      repeat' first | (with_reducible first | exact ih0 _ _ _ _ | exact LeO.refl _ | exact LeO.none _ | refine LeO.ite ?_ ?_ | refine LeO.bind ?_ (fun _ => ?_)) | exact ih0 _ _ _ _ | exact LeO.none _ | refine LeO.ite ?_ ?_ | refine LeO.bind ?_ (fun _ => ?_)
theorem spec_l23Frames.mono : ∀ a0 k, LeO (spec_l23Frames.f k a0) (spec_l23Frames.f (k + 1) a0) := by
  intro a0 k
  have ih0 := spec_l23Frames.mono_l k
  unfold spec_l23Frames.f
  repeat' first | (with_reducible first | exact ih0 _ _ _ _ | exact LeO.refl _ | exact LeO.none _ | refine LeO.ite ?_ ?_ | refine LeO.bind ?_ (fun _ => ?_)) | exact ih0 _ _ _ _ | exact LeO.none _ | refine LeO.ite ?_ ?_ | refine LeO.bind ?_ (fun _ => ?_)

/-! ### spec_SameFrame: function 48 -/
mutual
def spec_SameFrame.j0 : Nat → Bool → Int → List Int → Int → List Int → Option (Bool)
  | 0, _, _, _, _, _ => none
  | k + 1, x19, x464000, x464001, x465000, x465001 => if x19 = true then (some false) else (spec_SameFrame.l0 k (x464001.length : Int) 0 x464000 x464001 x465000 x465001)
def spec_SameFrame.l0 : Nat → Int → Int → Int → List Int → Int → List Int → Option (Bool)
  | 0, _, _, _, _, _, _ => none
  | k + 1, x22, x23, x464000, x464001, x465000, x465001 => if x23 < x22 then (if 0 ≤ x23 then (if x23 < (x464001.length : Int) then (if x23 < (x465001.length : Int) then (if (rd x464001 x23) = (rd x465001 x23) then (spec_SameFrame.l0 k x22 (wrap64 (x23 + 1)) x464000 x464001 x465000 x465001) else (some false)) else (none)) else (none)) else (none)) else (some true)
end
def spec_SameFrame.f (k : Nat) (a0_0 : Int) (l0_1 : List Int) (a1_0 : Int) (l1_1 : List Int) : Option (Bool) := if a0_0 = a1_0 then (spec_SameFrame.j0 k ((l0_1.length : Int) != (l1_1.length : Int)) a0_0 l0_1 a1_0 l1_1) else (spec_SameFrame.j0 k true a0_0 l0_1 a1_0 l1_1)
theorem spec_SameFrame.mono_l : ∀ k, (∀ y0 y1 y2 y3 y4, LeO (spec_SameFrame.j0 k y0 y1 y2 y3 y4) (spec_SameFrame.j0 (k + 1) y0 y1 y2 y3 y4)) ∧ (∀ y0 y1 y2 y3 y4 y5, LeO (spec_SameFrame.l0 k y0 y1 y2 y3 y4 y5) (spec_SameFrame.l0 (k + 1) y0 y1 y2 y3 y4 y5))
  | 0 => ⟨fun _ _ _ _ _ r h => by simp [spec_SameFrame.j0] at h, fun _ _ _ _ _ _ r h => by simp [spec_SameFrame.l0] at h⟩
  | k + 1 => by
    obtain ⟨ih0, ih1⟩ := spec_SameFrame.mono_l k
    refine ⟨?_, ?_⟩
    · intro y0 y1 y2 y3 y4
      unfold spec_SameFrame.j0
      repeat' first | (with_reducible first | exact ih0 _ _ _ _ _ | exact ih1 _ _ _ _ _ _ | exact LeO.refl _ | exact LeO.none _ | refine LeO.ite ?_ ?_ | refine LeO.bind ?_ (fun _ => ?_)) | exact ih0 _ _ _ _ _ | exact ih1 _ _ _ _ _ _ | exact LeO.none _ | refine LeO.ite ?_ ?_ | refine LeO.bind ?_ (fun _ => ?_)
    · intro y0 y1 y2 y3 y4 y5
      unfold spec_SameFrame.l0
      repeat' first | (with_reducible first | exact ih0 _ _ _ _ _ | exact ih1 _ _ _ _ _ _ | exact LeO.refl _ | exact LeO.none _ | refine LeO.ite ?_ ?_ | refine LeO.bind ?_ (fun _ => ?_)) | exact ih0 _ _ _ _ _ | exact ih1 _ _ _ _ _ _ | exact LeO.none _ | refine LeO.ite ?_ ?_ | refine LeO.bind ?_ (fun _ => ?_)
theorem spec_SameFrame.mono : ∀ a0 a1 a2 a3 k, LeO (spec_SameFrame.f k a0 a1 a2 a3) (spec_SameFrame.f (k + 1) a0 a1 a2 a3) := by
  intro a0 a1 a2 a3 k
  obtain ⟨ih0, ih1⟩ := spec_SameFrame.mono_l k
  unfold spec_SameFrame.f
  repeat' first | (with_reducible first | exact ih0 _ _ _ _ _ | exact ih1 _ _ _ _ _ _ | exact LeO.refl _ | exact LeO.none _ | refine LeO.ite ?_ ?_ | refine LeO.bind ?_ (fun _ => ?_)) | exact ih0 _ _ _ _ _ | exact ih1 _ _ _ _ _ _ | exact LeO.none _ | refine LeO.ite ?_ ?_ | refine LeO.bind ?_ (fun _ => ?_)

end Go.Proofs.Ytbdonoeellmeoaa.Pr
