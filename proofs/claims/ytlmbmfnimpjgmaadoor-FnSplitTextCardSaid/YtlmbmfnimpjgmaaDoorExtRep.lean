/- strings.ReplaceAll by the shelf's contract, in the printed contracts' form. -/
import Derived.Test.YtlmbmfnimpjgmaaDoorTab
import Derived.Test.YtlmbmfnimpjgmaaDoorShelf
set_option linter.unusedVariables false
namespace Go.Proofs.YtlmbmfnimpjgmaaDoor.P
open Go.RowKit

/-- What strings.ReplaceAll answers, of an 'old' that isn't empty. -/
def strings_ReplaceAll.f (a0 a1 a2 : ByteArray) : Option ByteArray :=
  if a0.size < 4294967281 ∧ 1 ≤ a1.size ∧ a0.size + Lib.countB a0 a1 * a2.size ≤ 140737488355328 then some ⟨(Lib.replaceAll a0.data.toList a1.data.toList a2.data.toList).toArray⟩ else none
theorem strings_ReplaceAll.calls (a0 a1 a2 : ByteArray) (r : ByteArray) (w : World) (hT : Tab w) (h : strings_ReplaceAll.f a0 a1 a2 = some r) :
    Calls Tryd.prog 19 #[.string a0, .string a1, .string a2] w fun e w' => e = .returned (.string r) ∧ Below w.heap.size w w' := by
  unfold strings_ReplaceAll.f at h
  split at h
  · rename_i hb
    obtain rfl := Option.some.inj h
    obtain ⟨m, hm⟩ := hT
    exact Tryd.strings_ReplaceAll a0 a1 a2 m w hb.1 hm hb.2.1 hb.2.2
  · cases h
end Go.Proofs.YtlmbmfnimpjgmaaDoor.P
