-- Joined and pruned by wip/tools/prune.py out of this session's own texts (Opn)
import Derived.Test.YtbdonoeellmeoaaZbs14
import Derived.ChangeArms
import Derived.DataReads
/-
Own text: what a reading of an argument gives: for each type that is made of whole numbers, bools, strings, slices and structs,
a value that reads as a datum holds cells of the printed kind ('Kd'), and its sizes are bounded. No program in it.
-/
namespace Go.Proofs.Ytbdonoeellmeoaa.Opn
open Go.RowKit Go.Proofs.YtbdonoeellmeoaaW.PrintWords

theorem weightsAll_mem {H : Type} (P : Program) (e : TypeId) (l : List (DataW H)) (d : DataW H) (h : d ∈ l) : ∀ n ∈ d.weights P e, n ∈ DataW.weightsAll P e l := by
  induction l with
  | nil => cases h
  | cons a r ih =>
    intro n hn
    rw [DataW.weightsAll]
    rcases List.mem_cons.1 h with rfl | h
    · exact List.mem_append_left _ hn
    · exact List.mem_append_right _ (ih h n hn)

theorem weightsEach_get {H : Type} (P : Program) : ∀ (ts : List TypeId) (ds : List (DataW H)) (j : Nat) (t : TypeId) (d : DataW H), ts[j]? = some t → ds[j]? = some d → ∀ n ∈ d.weights P t, n ∈ DataW.weightsEach P ts ds
  | [], _, _, _, _, h, _ => by simp at h
  | _ :: _, [], _, _, _, _, h => by simp at h
  | a :: ts, b :: ds, 0, t, d, ht, hd => by
    intro n hn
    rw [DataW.weightsEach]
    simp at ht hd
    subst ht hd
    exact List.mem_append_left _ hn
  | a :: ts, b :: ds, j + 1, t, d, ht, hd => by
    intro n hn
    rw [DataW.weightsEach]
    simp at ht hd
    exact List.mem_append_right _ (weightsEach_get P ts ds j t d ht hd n hn)

/-- A reading at type t gives cells of the kind d, and Q of the value. -/
structure Opn {α : Type} (P : Program) (t : TypeId) (d : Kd α) (Q : α → Prop) : Prop where
  get : ∀ {H : Type} {enc : TypeId × Value → H} {W : World} {fuel : Nat} {cs : List Value} {x : DataW H × List MemPlace},
    DataW.trod enc P W 0 (fun _ => true) true fuel t cs = some x → (∀ n ∈ x.1.weights P t, n ≤ 140737488351232) → ∃ a, d.K W a cs ∧ Q a

/-- The same of fields in a row, the first at cell o. -/
structure OpnF {α : Type} (P : Program) (fs : List Field) (o : Nat) (d : Kd α) (Q : α → Prop) : Prop where
  get : ∀ {H : Type} {enc : TypeId × Value → H} {W : World} {n : Nat} {cs : List Value} {ys : List (DataW H × List MemPlace)},
    ys.length = fs.length → (∀ (i : Nat) (f : Field), fs[i]? = some f → DataW.trod enc P W 0 (fun _ => true) true n f.type ((cs.drop f.offset).take (P.cellsOf f.type)) = ys[i]?) →
    (∀ n ∈ DataW.weightsEach P (fs.map (·.type)) (ys.map (·.1)), n ≤ 140737488351232) → ∃ a, d.K W a ((cs.drop o).take d.sz) ∧ Q a

section
variable {P : Program} {t e : TypeId}

theorem Opn.int {k : IntKind} (ht : P.underlying t = some (.int k)) : Opn P t (Kd.int k) (fun a => (Lit.int k a).wf = true) := by
  constructor
  intro H enc W fuel cs x h _
  obtain ⟨n, rfl, rfl, hw⟩ := DataW.trod_int ht h
  exact ⟨n, rfl, hw⟩

theorem Opn.bool (ht : P.underlying t = some .bool) : Opn P t Kd.bool (fun _ => True) := by
  constructor
  intro H enc W fuel cs x h _
  obtain ⟨b, rfl, rfl⟩ := DataW.trod_bool ht h
  exact ⟨b, rfl, trivial⟩

theorem Opn.string (ht : P.underlying t = some .string) : Opn P t Kd.string (fun a => a.size ≤ 140737488351232) := by
  constructor
  intro H enc W fuel cs x h hw
  obtain ⟨s, rfl, rfl, _⟩ := DataW.trod_string ht h
  refine ⟨s, rfl, ?_⟩
  have := hw s.data.toList.length (by simp [DataW.weights])
  rwa [Array.length_toList] at this

theorem list_of {α : Type} {R : Nat → α → Prop} : ∀ (n : Nat), (∀ i, i < n → ∃ a, R i a) → ∃ xs : List α, xs.length = n ∧ ∀ i a, xs[i]? = some a → R i a
  | 0, _ => ⟨[], rfl, by simp⟩
  | n + 1, h => by
    obtain ⟨xs, hl, hx⟩ := list_of n (fun i hi => h i (by omega))
    obtain ⟨a, ha⟩ := h n (by omega)
    refine ⟨xs ++ [a], by simp [hl], fun i b hb => ?_⟩
    by_cases hi : i < n
    · rw [List.getElem?_append_left (by omega)] at hb
      exact hx i b hb
    · rw [List.getElem?_append_right (by omega), hl] at hb
      by_cases hi' : i = n
      · subst hi'
        simp at hb
        exact hb ▸ ha
      · obtain ⟨m, hm⟩ : ∃ m, i - n = m + 1 := ⟨i - n - 1, by omega⟩
        rw [hm] at hb
        simp at hb

theorem Opn.slice {α : Type} {d : Kd α} {Q : α → Prop} (m B : Nat) (ht : P.underlying t = some (.slice e)) (hB : P.bytesOf e = B) (hc : P.cellsOf e = d.sz) (he : Opn P e d Q) :
    Opn P t (Kd.slice m d) (fun xs => xs.length ≤ maxLen ∧ xs.length * B ≤ 140737488351232 ∧ ∀ a ∈ xs, Q a) := by
  constructor
  intro H enc W fuel cs x h hw
  rcases DataW.trod_slice ht h with ⟨rfl, rfl⟩ | ⟨a, len, cap, elems, rest, n, _, rfl, rfl, hb, hl, hm, hlen, hel, _, _⟩
  · exact ⟨[], ⟨none, 0, rfl, Nat.le_refl _, rfl, by simp, fun h => absurd h (Nat.lt_irrefl 0)⟩, by simp, by simp, by simp⟩
  · simp only [DataW.weights, ht] at hw
    have hget : ∀ i, i < len → ∃ p : α, Q p ∧ ∃ c, c.length = d.sz ∧ d.K W p c ∧ ∀ j u, c[j]? = some u → W.cell? (a.add (i * d.sz + j)) = some u := by
      intro i hi
      have h1 := hel i hi
      rw [hc] at h1
      obtain ⟨y, hy⟩ : ∃ y, elems[i]? = some y := ⟨elems[i]'(by omega), by simp⟩
      rw [hy, Option.bind_eq_some_iff] at h1
      obtain ⟨c, hc1, hc2⟩ := h1
      obtain ⟨_, hcl, hcell⟩ := World.cells?_some hc1
      have hmem : y ∈ elems := List.mem_of_getElem? hy
      obtain ⟨p, hk, hq⟩ := he.get hc2 (fun n hn => hw n (List.mem_cons_of_mem _ (List.mem_append_left _ (weightsAll_mem P e _ y.1 (List.mem_map_of_mem hmem) n hn))))
      refine ⟨p, hq, c, hcl, hk, fun j u hu => ?_⟩
      have hj : j < d.sz := by
        have := (List.getElem?_eq_some_iff.1 hu).1
        omega
      have := hcell j hj
      rw [add_add] at this
      rw [this, hu]
    obtain ⟨xs, hxl, hxs⟩ := list_of len hget
    have hml : len ≤ 9223372036854775807 := by unfold maxLen at hm; omega
    refine ⟨xs, ⟨some a, cap, by rw [hxl], by omega, rfl, by omega, fun _ => ⟨a, rfl, fun j p hp => (hxs j p hp).2⟩⟩, by omega, ?_, fun p hp => ?_⟩
    · have := hw _ (List.mem_cons_self ..)
      rw [hB] at this
      rw [hxl]
      simp only [List.length_map, hlen] at this
      exact Nat.le_trans (Nat.mul_le_mul_right _ (by omega)) this
    · obtain ⟨i, hi⟩ := List.getElem?_of_mem hp
      exact (hxs i p hi).1

theorem OpnF.one {α : Type} {d : Kd α} {Q : α → Prop} {f : Field} {o : Nat} (ho : f.offset = o) (hc : P.cellsOf f.type = d.sz) (h : Opn P f.type d Q) : OpnF P [f] o d Q := by
  constructor
  intro H enc W n cs ys hl hy hw
  obtain ⟨y, rfl⟩ : ∃ y, ys = [y] := List.length_eq_one_iff.1 hl
  have h0 := hy 0 f rfl
  rw [hc, ho] at h0
  exact h.get (by simpa using h0) (fun m hm => hw m (weightsEach_get P _ _ 0 f.type y.1 rfl rfl m hm))

theorem OpnF.cons {α β : Type} {d0 : Kd α} {d1 : Kd β} {Q0 : α → Prop} {Q1 : β → Prop} {f : Field} {fs : List Field} {o : Nat} (ho : f.offset = o) (hc : P.cellsOf f.type = d0.sz) (h0 : Opn P f.type d0 Q0)
    (h1 : OpnF P fs (o + d0.sz) d1 Q1) : OpnF P (f :: fs) o (Kd.pair d0 d1) (fun a => Q0 a.1 ∧ Q1 a.2) := by
  constructor
  intro H enc W n cs ys hl hy hw
  cases ys with
  | nil => simp at hl
  | cons y ys =>
    have e0 := hy 0 f rfl
    rw [hc, ho] at e0
    obtain ⟨a, ha, qa⟩ := h0.get (by simpa using e0) (fun m hm => hw m (weightsEach_get P _ _ 0 f.type y.1 rfl rfl m hm))
    obtain ⟨b, hb, qb⟩ := h1.get (enc := enc) (W := W) (n := n) (cs := cs) (ys := ys) (by simpa using hl) (fun i g hg => by simpa using hy (i + 1) g (by simpa using hg)) (fun m hm => hw m (by
      simp only [List.map_cons, DataW.weightsEach]
      exact List.mem_append_right _ hm))
    refine ⟨(a, b), ⟨_, _, ?_, ha, hb⟩, qa, qb⟩
    show (cs.drop o).take (d0.sz + d1.sz) = _
    rw [List.take_add, List.drop_drop]

theorem Opn.struct {α : Type} {d : Kd α} {Q : α → Prop} {fs : Array Field} (ht : P.underlying t = some (.struct fs)) (hc : P.cellsOf t = d.sz) (h : OpnF P fs.toList 0 d Q) : Opn P t d Q := by
  constructor
  intro H enc W fuel cs x hx hw
  obtain ⟨xs, n, _, rfl, hl, hlen, hf⟩ := DataW.trod_struct ht hx
  simp only [DataW.weights, ht] at hw
  obtain ⟨a, ha, qa⟩ := h.get (enc := enc) (W := W) (n := n) (cs := cs) (ys := xs) (by simpa using hlen) (fun i f hi => hf i f (by simpa using hi)) hw
  refine ⟨a, ?_, qa⟩
  rw [List.drop_zero, ← hc, ← hl, List.take_length] at ha
  exact ha

theorem Opn.iso {α β : Type} {d : Kd α} {Q : α → Prop} {f : β → α} (h : Opn P t d Q) (g : α → β) (hg : ∀ y, f (g y) = y) : Opn P t (Kd.iso d f) (fun b => Q (f b)) := by
  constructor
  intro H enc W fuel cs x hx hw
  obtain ⟨a, ha, qa⟩ := h.get hx hw
  exact ⟨g a, by show d.K W (f (g a)) cs; rw [hg]; exact ha, by show Q (f (g a)); rw [hg]; exact qa⟩

/-- The bound of every weight of one argument, out of the row's. -/
theorem weights_of {H : Type} {ts : List TypeId} {ds : List (DataW H)} {j : Nat} {d : DataW H} (hsz : (DataW.weightsEach P ts ds).all (· ≤ reachBytes) = true) (ht : ts[j]? = some t) (hd : ds[j]? = some d) :
    ∀ n ∈ d.weights P t, n ≤ 140737488351232 := fun n hn => by
  have := List.all_eq_true.1 hsz n (weightsEach_get P ts ds j t d ht hd n hn)
  have h2 : n ≤ reachBytes := by simpa using this
  exact h2
end
end Go.Proofs.Ytbdonoeellmeoaa.Opn
