/- A small calculus for functions printed with rounds: from some number of rounds on they answer, and the answer is such. -/
import Derived.Test.YtbopiacjioedeaaP0
set_option linter.unusedVariables false
set_option linter.unusedSimpArgs false
namespace Go.Proofs.Ytbopiacjioedeaa.P
open Go.RowKit Go.Proofs.YtbopiacjioedeaaW.PrintWords Go.Proofs.YtbopiacjioedeaaW.PrintLast Go.Proofs.YtbopiacjioedeaaW.PrintMore
section
variable {α β : Type}
/-- From some number of rounds on the answer is one that Q holds of. -/
def EvQ (F : Nat → Option α) (Q : α → Prop) : Prop := ∃ r, (∃ k0, ∀ k, k0 ≤ k → F k = some r) ∧ Q r
theorem EvQ.pure {Q : α → Prop} {v : α} (h : Q v) : EvQ (fun _ => some v) Q := ⟨v, ⟨0, fun _ _ => rfl⟩, h⟩
theorem EvQ.imp {F : Nat → Option α} {Q R : α → Prop} (h : EvQ F Q) (hi : ∀ r, Q r → R r) : EvQ F R := by
  obtain ⟨r, h1, h2⟩ := h
  exact ⟨r, h1, hi r h2⟩
theorem EvQ.bind {F : Nat → Option α} {G : Nat → α → Option β} {Q : α → Prop} {R : β → Prop} (h : EvQ F Q) (hg : ∀ r, Q r → EvQ (fun k => G k r) R) : EvQ (fun k => (F k).bind fun t => G k t) R := by
  obtain ⟨r, ⟨k0, h0⟩, h2⟩ := h
  obtain ⟨u, ⟨k1, h1⟩, h3⟩ := hg r h2
  refine ⟨u, ⟨k0 + k1, fun k hk => ?_⟩, h3⟩
  simp only [h0 k (by omega), Option.bind_some]
  exact h1 k (by omega)
theorem EvQ.some_bind {v : α} {G : Nat → α → Option β} {R : β → Prop} (hg : EvQ (fun k => G k v) R) : EvQ (fun k => (some v).bind fun t => G k t) R := hg
theorem EvQ.pos {c : Prop} [Decidable c] {A B : Nat → Option α} {Q : α → Prop} (hc : c) (h : EvQ A Q) : EvQ (fun k => if c then A k else B k) Q := by
  simp only [if_pos hc]
  exact h
theorem EvQ.neg {c : Prop} [Decidable c] {A B : Nat → Option α} {Q : α → Prop} (hc : ¬ c) (h : EvQ B Q) : EvQ (fun k => if c then A k else B k) Q := by
  simp only [if_neg hc]
  exact h
theorem EvQ.both {c : Prop} [Decidable c] {A B : Nat → Option α} {Q : α → Prop} (h1 : c → EvQ A Q) (h2 : ¬ c → EvQ B Q) : EvQ (fun k => if c then A k else B k) Q := by
  by_cases hc : c
  · exact EvQ.pos hc (h1 hc)
  · exact EvQ.neg hc (h2 hc)
/-- One round more. -/
theorem EvQ.succ {F G : Nat → Option α} {Q : α → Prop} (he : ∀ k, F (k + 1) = G k) (h : EvQ G Q) : EvQ F Q := by
  obtain ⟨r, ⟨k0, h0⟩, h2⟩ := h
  refine ⟨r, ⟨k0 + 1, fun k hk => ?_⟩, h2⟩
  obtain ⟨j, rfl⟩ : ∃ j, k = j + 1 := ⟨k - 1, by omega⟩
  rw [he, h0 j (by omega)]
/-- An answer at one number of rounds, where more rounds tell the same. -/
theorem EvQ.at {F : Nat → Option α} {Q : α → Prop} (hm : ∀ k, LeO (F k) (F (k + 1))) (k0 : Nat) {r : α} (h : F k0 = some r) (hq : Q r) : EvQ F Q := by
  refine ⟨r, ⟨k0, fun k hk => ?_⟩, hq⟩
  obtain ⟨d, rfl⟩ : ∃ d, k = k0 + d := ⟨k - k0, by omega⟩
  induction d with
  | zero => exact h
  | succ d ih => exact hm _ _ (ih (by omega))
theorem EvQ.out {F : Nat → Option α} {v : α} (h : EvQ F (· = v)) : ∃ k, F k = some v := by
  obtain ⟨r, ⟨k0, h0⟩, rfl⟩ := h
  exact ⟨k0, h0 k0 (Nat.le_refl _)⟩
/-- Two answers of one function are one. -/
theorem EvQ.and {F : Nat → Option α} {Q R : α → Prop} (h1 : EvQ F Q) (h2 : EvQ F R) : EvQ F (fun r => Q r ∧ R r) := by
  obtain ⟨r, ⟨k0, h0⟩, hq⟩ := h1
  obtain ⟨u, ⟨k1, h1⟩, hr⟩ := h2
  have : r = u := Option.some.inj ((h0 (k0 + k1) (by omega)).symm.trans (h1 (k0 + k1) (by omega)))
  subst this
  exact ⟨r, ⟨k0, h0⟩, hq, hr⟩
end
theorem w64 {n : Int} (h1 : -9223372036854775808 ≤ n) (h2 : n ≤ 9223372036854775807) : wrap64 n = n := by unfold wrap64; omega
end Go.Proofs.Ytbopiacjioedeaa.P
