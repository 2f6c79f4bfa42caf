/- What the package-level variable MaxLen holds: some number; later worlds keep it. -/
import Derived.Test.YtbopiacjioedeaaP0
set_option linter.unusedVariables false
namespace Go.Proofs.Ytbopiacjioedeaa.P
open Go.RowKit

/-- internal/bytealg.MaxLen holds an int. -/
def Tab (w : World) : Prop := ∃ m : Int, w.cell? ⟨0, 0, none⟩ = some (.int .i64 m)

theorem cell_lt {w : World} {g i : Nat} {v : Value} (h : w.cell? ⟨g, i, none⟩ = some v) : g < w.heap.size := by
  rcases Nat.lt_or_ge g w.heap.size with h' | h'
  · exact h'
  · unfold World.cell? at h
    rw [Array.getElem?_eq_none h'] at h
    cases h
theorem tab_below {w w' : World} (h : Tab w) (hb : Below w.heap.size w w') : Tab w' := by
  obtain ⟨m, hm⟩ := h
  refine ⟨m, ?_⟩
  have hl := cell_lt hm
  unfold World.cell? at hm ⊢
  rw [hb.block _ hl]
  exact hm
end Go.Proofs.Ytbopiacjioedeaa.P
