/-
Own text: a float as a kind of cells, and how an argument of that kind is opened.
-/
import Derived.Test.YtdcnlghcdmiciaaOpn
import Derived.Laws.Cover2
namespace Go.Proofs.Ytdcnlghcdmiciaa.Opn
open Go.RowKit Go.Proofs.YtdcnlghcdmiciaaW.PrintWords
def flt : Kd Nat := Kd.scalar (Value.float .f64) (fun _ => rfl)
theorem trod_float {P : Program} {t : TypeId} {H : Type} {enc : TypeId × Value → H} {w : World} {base : Nat} {spare : Nat → Bool} {held : Bool} {fuel : Nat} {cs : List Value} {x : DataW H × List MemPlace} {k : FloatKind} (ht : P.underlying t = some (.float k)) (h : DataW.trod enc P w base spare held fuel t cs = some x) : ∃ n, cs = [.float k n] ∧ x = (.lit (.float k n), []) ∧ (Lit.float k n).wf = true := by
  cases fuel with
  | zero => simp [DataW.trod] at h
  | succ n =>
    unfold DataW.trod at h
    rw [ht] at h
    split at h <;> simp_all
theorem Opn.float {P : Program} {t : TypeId} (ht : P.underlying t = some (.float .f64)) : Opn P t flt (fun a => a < 18446744073709551616) := by
  constructor
  intro H enc W fuel cs x h _
  obtain ⟨n, rfl, rfl, hw⟩ := trod_float ht h
  exact ⟨n, rfl, by simpa [Lit.wf] using hw⟩
end Go.Proofs.Ytdcnlghcdmiciaa.Opn
