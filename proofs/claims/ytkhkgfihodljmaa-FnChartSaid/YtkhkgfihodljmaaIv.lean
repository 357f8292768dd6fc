/- What was made between two sizes of the heap, and what is kept beside it. -/
import Derived.Test.YtkhkgfihodljmaaPr0
namespace Go.Proofs.Ytkhkgfihodljmaa.Pr
open Go.RowKit Go.Proofs.YtkhkgfihodljmaaW.PrintWords Go.Proofs.YtkhkgfihodljmaaW.PrintLast Go.Proofs.YtkhkgfihodljmaaW.PrintMore
set_option linter.unusedVariables false
def Iv (a b k : Nat) : Prop := a ≤ k ∧ k < b
section
variable {α : Type} {d : Kd α} {e base a b c c' g : Nat} {W W1 W2 : World} {v : Value} {xs : List α} {o : Obj}
theorem S_iv (h : Kd.S d e W base (Iv a b) v xs) (hk : Kept W W2 (Iv c c')) (hne : b ≤ c ∨ c' ≤ a) : Kd.S d e W2 base (Iv a b) v xs :=
  Kd.S_kept h hk (fun k h1 h2 => by unfold Iv at h1 h2; omega)
theorem R_iv (h : d.R e W base (Iv a b) v xs) (hk : Kept W W2 (Iv c c')) (hne : b ≤ c ∨ c' ≤ a) : d.R e W2 base (Iv a b) v xs :=
  Kd.R_kept h hk (fun k h1 h2 => by unfold Iv at h1 h2; omega)
theorem blk_iv (h : W.heap[g]? = some o) (hk : Kept W W2 (Iv c c')) (hne : g < c ∨ c' ≤ g) : W2.heap[g]? = some o :=
  blk_kept h hk (fun h2 => by unfold Iv at h2; omega)
theorem S_mk (h : Kd.S d e W2 W1.heap.size (fun _ => True) v xs) (hb : base ≤ W1.heap.size) : Kd.S d e W2 base (Iv W1.heap.size W2.heap.size) v xs :=
  Kd.S_lower (Kd.S_mono (Kd.S_bound h) (fun k hk => ⟨hk.2.1, hk.2.2.1⟩)) hb
theorem R_mk (h : d.R e W2 W1.heap.size (fun _ => True) v xs) (hb : base ≤ W1.heap.size) : d.R e W2 base (Iv W1.heap.size W2.heap.size) v xs :=
  Kd.R_lower (Kd.R_mono (Kd.R_bound h) (fun k hk => ⟨hk.2.1, hk.2.2.1⟩)) hb
theorem kept_two (u u' : Value) (j j' : Nat) : Kept W ((W.setCell ⟨g, j, none⟩ u).setCell ⟨g, j', none⟩ u') (Iv g (g + 1)) :=
  Kept.setCell (Kept.setCell (Kept.refl W _) (p := ⟨g, j, none⟩) (.inl ⟨Nat.le_refl _, Nat.lt_succ_self _⟩) u) (p := ⟨g, j', none⟩) (.inl ⟨Nat.le_refl _, Nat.lt_succ_self _⟩) u'
theorem kept_or {S : Nat → Prop} (h : Kept W W2 (fun k => S k ∨ S k)) : Kept W W2 S := h.mono (fun k hk => hk.elim id id)
theorem drawn_below (h : Drawn0 W W2) : Below W.heap.size W W2 := by obtain ⟨n, rfl⟩ := h; exact pw_below_drewN (Below.refl _ _) n
end
end Go.Proofs.Ytkhkgfihodljmaa.Pr
