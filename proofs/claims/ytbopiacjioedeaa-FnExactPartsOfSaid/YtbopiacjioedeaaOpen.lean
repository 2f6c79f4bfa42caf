/- Arguments opened, by kinds: what is read at a type is of a kind (rows of strings, of bools, of structs). -/
import Derived.Test.YtbopiacjioedeaaP0
import Derived.Deep.Slices
import Derived.ChangeArms
import Derived.WideShapes
set_option linter.unusedVariables false
set_option linter.unusedSimpArgs false
namespace Go.Proofs.Ytbopiacjioedeaa.P
open Go.RowKit Go.ChangeShapes Go.WideShapes Go.Deep Go.Proofs.YtbopiacjioedeaaW.PrintWords Go.Proofs.YtbopiacjioedeaaW.PrintLast Go.Proofs.YtbopiacjioedeaaW.PrintMore

theorem list_of {α : Type} {p : Nat → α → Prop} {n : Nat} (h : ∀ i, i < n → ∃ y, p i y) : ∃ xs : List α, xs.length = n ∧ ∀ i y, xs[i]? = some y → p i y := by
  refine ⟨List.ofFn fun i : Fin n => Classical.choose (h i.1 i.2), by simp, fun i y hy => ?_⟩
  obtain ⟨hi, e⟩ := List.getElem?_eq_some_iff.1 hy
  rw [List.getElem_ofFn] at e
  rw [← e]
  exact Classical.choose_spec (h i (by simpa using hi))

section
variable {P : Program} {W : World}
/-- What is read at a type is of a kind, and Q holds of it. -/
def Opens {α : Type} (P : Program) (W : World) (t : TypeId) (d : Kd α) (Q : α → Prop) : Prop :=
  P.cellsOf t = d.sz ∧ ∀ (H : Type) (enc : TypeId × Value → H) (fuel : Nat) (cs : List Value) (x : DataW H × List MemPlace), DataW.trod enc P W 0 (fun _ => true) true fuel t cs = some x → ∃ a, d.K W a cs ∧ Q a
theorem Opens.string {t : TypeId} (ht : P.underlying t = some .string) (hc : P.cellsOf t = 1) : Opens P W t Kd.string (fun s => s.size ≤ maxLen) :=
  ⟨hc, fun H enc fuel cs x h => by obtain ⟨s, rfl, _, hs⟩ := DataW.trod_string ht h; exact ⟨s, rfl, hs⟩⟩
theorem Opens.bool {t : TypeId} (ht : P.underlying t = some .bool) (hc : P.cellsOf t = 1) : Opens P W t Kd.bool (fun _ => True) :=
  ⟨hc, fun H enc fuel cs x h => by obtain ⟨s, rfl, _⟩ := DataW.trod_bool ht h; exact ⟨s, rfl, trivial⟩⟩
theorem Opens.int {t : TypeId} {k : IntKind} (ht : P.underlying t = some (.int k)) (hc : P.cellsOf t = 1) : Opens P W t (Kd.int k) (fun n => (Lit.int k n).wf = true) :=
  ⟨hc, fun H enc fuel cs x h => by obtain ⟨s, rfl, _, hw⟩ := DataW.trod_int ht h; exact ⟨s, rfl, hw⟩⟩
theorem Opens.iso {α β : Type} {t : TypeId} {d : Kd α} {f : β → α} {g : α → β} (hg : ∀ a, f (g a) = a) {Q : α → Prop} (h : Opens P W t d Q) : Opens P W t (Kd.iso d f) (fun b => Q (f b)) :=
  ⟨h.1, fun H enc fuel cs x hx => by
    obtain ⟨a, h1, h2⟩ := h.2 H enc fuel cs x hx
    refine ⟨g a, ?_, ?_⟩
    · show d.K W (f (g a)) cs
      rw [hg]; exact h1
    · show Q (f (g a))
      rw [hg]; exact h2⟩
theorem Opens.imp {α : Type} {t : TypeId} {d : Kd α} {Q R : α → Prop} (h : Opens P W t d Q) (hq : ∀ a, Q a → R a) : Opens P W t d R :=
  ⟨h.1, fun H enc fuel cs x hx => by
    obtain ⟨a, h1, h2⟩ := h.2 H enc fuel cs x hx
    exact ⟨a, h1, hq a h2⟩⟩
/-- A row. -/
theorem Opens.row {α : Type} {t e : TypeId} {d : Kd α} {Q : α → Prop} (ht : P.underlying t = some (.slice e)) (he : Opens P W e d Q) {H : Type} {enc : TypeId × Value → H} {fuel : Nat} {cs : List Value} {x : DataW H × List MemPlace}
    (h : DataW.trod enc P W 0 (fun _ => true) true fuel t cs = some x) :
    ∃ (A : Option Addr) (c : Nat) (xs : List α), cs = [.slice A xs.length c] ∧ (xs.length ≤ c ∧ c ≤ maxLen) ∧ d.C W A xs.length xs ∧ ∀ y ∈ xs, Q y := by
  rcases open_slice ht h with ⟨rfl, _⟩ | ⟨a, len, cap, m, n, D, Pl, rfl, _, hl, hm, hmm, _, hx⟩
  · exact ⟨none, 0, [], rfl, ⟨Nat.le_refl _, Nat.zero_le _⟩, ⟨rfl, by simp, fun h => absurd h (by simp)⟩, fun x hx => by cases hx⟩
  · have hlm : len ≤ m := by rw [hmm]; simpa using hl
    obtain ⟨xs, hxl, hxs⟩ := list_of (p := fun i y => (∃ c : List Value, c.length = d.sz ∧ d.K W y c ∧ ∀ j u, c[j]? = some u → W.cell? (a.add (i * d.sz + j)) = some u) ∧ Q y) (n := len) (fun i hi => by
      obtain ⟨c, h1, h2⟩ := hx i (by omega)
      obtain ⟨y, h3, h4⟩ := he.2 _ _ _ _ _ h2
      obtain ⟨_, h5, h6⟩ := World.cells?_some h1
      rw [he.1] at h5 h6
      refine ⟨y, ⟨c, h5, h3, fun j u hu => ?_⟩, h4⟩
      have hj : j < d.sz := by
        rcases Nat.lt_or_ge j c.length with hj | hj
        · omega
        · rw [List.getElem?_eq_none hj] at hu; cases hu
      rw [← hu, ← h6 j hj, Go.Deep.add_add])
    have hmx : maxLen ≤ 9223372036854775807 := by decide
    refine ⟨some a, cap, xs, by rw [hxl], ⟨by omega, hm⟩, ⟨rfl, by omega, fun _ => ⟨a, rfl, fun j p hp => (hxs j p hp).1⟩⟩, fun y hy => ?_⟩
    obtain ⟨i, hi, rfl⟩ := List.mem_iff_getElem.1 hy
    exact (hxs i _ (List.getElem?_eq_getElem hi)).2
theorem Opens.slice {α : Type} {t e : TypeId} {q : Nat} {d : Kd α} {Q : α → Prop} (ht : P.underlying t = some (.slice e)) (hc : P.cellsOf t = 1) (he : Opens P W e d Q) : Opens P W t (Kd.slice q d) (fun xs => xs.length ≤ maxLen ∧ ∀ y ∈ xs, Q y) :=
  ⟨hc, fun H enc fuel cs x h => by
    obtain ⟨A, c, xs, rfl, ⟨h1, h2⟩, h3, h4⟩ := Opens.row ht he h
    exact ⟨xs, ⟨A, c, rfl, h1, h3⟩, by omega, h4⟩⟩

/-! ### Structs -/
theorem struct_open {t : TypeId} {fs : Array Field} (ht : P.underlying t = some (.struct fs)) {H : Type} {enc : TypeId × Value → H} {fuel : Nat} {cs : List Value} {x : DataW H × List MemPlace} (h : DataW.trod enc P W 0 (fun _ => true) true fuel t cs = some x) :
    cs.length = P.cellsOf t ∧ ∃ n, ∀ (i : Nat) (f : Field), fs[i]? = some f → ∃ y, DataW.trod enc P W 0 (fun _ => true) true n f.type ((cs.drop f.offset).take (P.cellsOf f.type)) = some y := by
  obtain ⟨xs, n, rfl, rfl, hl, hn, hf⟩ := DataW.trod_struct ht h
  refine ⟨hl, n, fun i f hi => ?_⟩
  have hlt : i < xs.length := by
    rw [hn]
    exact (Array.getElem?_eq_some_iff.1 hi).1
  exact ⟨xs[i], (hf i f hi).trans (List.getElem?_eq_getElem hlt)⟩
/-- The last field. -/
theorem part_last {α : Type} {f : TypeId} {d : Kd α} {Q : α → Prop} {H : Type} {enc : TypeId × Value → H} {n o : Nat} {cs : List Value} {y : DataW H × List MemPlace} (he : Opens P W f d Q)
    (h : DataW.trod enc P W 0 (fun _ => true) true n f ((cs.drop o).take (P.cellsOf f)) = some y) (hl : cs.length = o + d.sz) : ∃ a, d.K W a (cs.drop o) ∧ Q a := by
  rw [he.1, List.take_of_length_le (by rw [List.length_drop]; omega)] at h
  exact he.2 _ _ _ _ _ h
/-- A field, more behind it. -/
theorem part_cons {α β : Type} {f : TypeId} {d : Kd α} {d' : Kd β} {Q : α → Prop} {Q' : β → Prop} {H : Type} {enc : TypeId × Value → H} {n o o' : Nat} {cs : List Value} {y : DataW H × List MemPlace} (he : Opens P W f d Q)
    (h : DataW.trod enc P W 0 (fun _ => true) true n f ((cs.drop o).take (P.cellsOf f)) = some y) (ho : o' = o + d.sz) (hr : ∃ b, d'.K W b (cs.drop o') ∧ Q' b) : ∃ ab, (Kd.pair d d').K W ab (cs.drop o) ∧ Q ab.1 ∧ Q' ab.2 := by
  obtain ⟨a, h1, h2⟩ := he.2 _ _ _ _ _ h
  obtain ⟨b, h3, h4⟩ := hr
  refine ⟨(a, b), ⟨_, _, ?_, h1, h3⟩, h2, h4⟩
  rw [he.1, ho, ← List.drop_drop, List.take_append_drop]
end
end Go.Proofs.Ytbopiacjioedeaa.P
