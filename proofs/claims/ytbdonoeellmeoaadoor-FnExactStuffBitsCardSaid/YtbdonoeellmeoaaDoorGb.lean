/- impl.goodBits by hand: its walk, over the library's strings.Trim by its contract. -/
import Derived.Test.YtbdonoeellmeoaaDoorPr0
import Derived.Test.YtbdonoeellmeoaaDoorGbd
import Derived.Test.YtbdonoeellmeoaaDoorShl
import Derived.Outline
namespace Go.Proofs.YtbdonoeellmeoaaDoor.Pr
open Go.RowKit Go.Proofs.YtbdonoeellmeoaaDoorW.PrintWords Go.Proofs.YtbdonoeellmeoaaDoorW.PrintLast Go.Proofs.YtbdonoeellmeoaaDoorW.PrintMore
set_option linter.unusedVariables false
theorem dropWhile_nil {p : UInt8 → Bool} {l : List UInt8} : l.dropWhile p = [] ↔ l.all p = true := by
  induction l with
  | nil => simp
  | cons a l ih =>
    rw [List.dropWhile_cons]
    by_cases h : p a = true
    · rw [if_pos h, ih]; simp [h]
    · rw [if_neg h]; simp [h]
theorem trim_nil (l cs : List UInt8) : Lib.trimS l cs = [] ↔ l.all (cs.contains ·) = true := by
  unfold Lib.trimS Lib.trimLeftS Lib.trimRightS
  rw [dropWhile_nil]
  constructor
  · intro h
    have h2 : (l.reverse.dropWhile (cs.contains ·)) = [] := by
      cases e : l.reverse.dropWhile (cs.contains ·) with
      | nil => rfl
      | cons a r =>
        exfalso
        rw [e] at h
        have h3 : cs.contains a = true := by
          have := List.all_eq_true.1 h a (by simp)
          simpa using this
        have h4 := List.head?_dropWhile_not (fun x => cs.contains x) l.reverse
        rw [e] at h4
        simp only [List.head?_cons] at h4
        rw [h3] at h4
        exact absurd h4 (by decide)
    rw [dropWhile_nil] at h2
    simpa using h2
  · intro h
    have : l.reverse.dropWhile (cs.contains ·) = [] := by rw [dropWhile_nil]; simpa using h
    rw [this]
    rfl
set_option maxHeartbeats 1000000 in
set_option maxRecDepth 100000 in
theorem impl_goodBits.calls (s : ByteArray) (r : Bool) (w : World) (h : impl_goodBits.f s = some r) :
    Calls Tryd.prog 14 #[.string s] w fun e w' => e = .returned (.bool r) ∧ Below w.heap.size w w' := by
  unfold impl_goodBits.f at h
  injection h with h
  by_cases c : (s.size : Int) ≤ 300
  · have hcon := Any.strings_Trim_laid Tryd.lays160 (by kernel_rfl) s ⟨#[48, 49]⟩ w (by omega) (by decide) (ascii_of_all (by decide))
    change Calls Tryd.prog 18 _ _ (fun e w' => e = .returned (.string ⟨(Lib.trimS s.data.toList [48, 49]).toArray⟩) ∧ Below w.heap.size w w') at hcon
    have ht := trim_nil s.data.toList [48, 49]
    generalize hq : Lib.trimS s.data.toList [48, 49] = q at hcon ht
    have ha : all01 s = s.data.toList.all ([48, 49].contains ·) := by
      unfold all01
      congr 1
      funext b
      simp only [List.contains_cons, List.contains_nil, Bool.or_false]
    rw [decide_eq_true (by omega), Bool.true_and, ha] at h
    have cb : decide ((s.size : Int) ≤ 300) = true := decide_eq_true c
    have cb2 : decide (s.size ≤ 300) = true := decide_eq_true (by omega)
    have HC := Aside0.mk hcon
    have HR := Aside0.mk h
    have HT := Aside0.mk ht
    clear hcon h ht hq ha c
    cases q with
    | nil =>
      go_enter Tryd.func14, Tryd.ntmps14
      go_wp2_with (go_at_call 18; refine HC.out.mono ?_; rintro e w' ⟨rfl, hB⟩)
      go_ret
      exact ⟨by rw [← HR.out, HT.out.1 trivial]; rfl, hB⟩
    | cons a q =>
      go_enter Tryd.func14, Tryd.ntmps14
      go_wp2_with (go_at_call 18; refine HC.out.mono ?_; rintro e w' ⟨rfl, hB⟩)
      go_ret
      have hf : (s.data.toList.all ([48, 49].contains ·)) = false := Bool.eq_false_iff.2 (fun hh => by have := HT.out.2 hh; cases this)
      rw [hf] at HR
      exact ⟨by rw [← HR.out]; rfl, hB⟩
  · have cb : decide ((s.size : Int) ≤ 300) = false := decide_eq_false c
    have cb2 : decide (s.size ≤ 300) = false := decide_eq_false (by omega)
    rw [cb2, Bool.false_and] at h
    have HR := Aside0.mk h
    clear h c
    go_enter Tryd.func14, Tryd.ntmps14
    go_wp2_with fail
    go_ret
    exact ⟨by rw [← HR.out]; rfl, Below.refl _ _⟩
end Go.Proofs.YtbdonoeellmeoaaDoor.Pr
