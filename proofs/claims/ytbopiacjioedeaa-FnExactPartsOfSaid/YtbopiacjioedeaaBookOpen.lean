/- laws.Affix, laws.Entry, laws.Book, opened. -/
import Derived.Test.YtbopiacjioedeaaOpen
import Derived.Test.YtbopiacjioedeaaPureExact
import Derived.KernelRfl
set_option linter.unusedVariables false
set_option linter.unusedSimpArgs false
namespace Go.Proofs.Ytbopiacjioedeaa.P
open Go.RowKit Go.ChangeShapes Go.WideShapes Go.Deep Go.Proofs.YtbopiacjioedeaaW.PrintWords Go.Proofs.YtbopiacjioedeaaW.PrintLast Go.Proofs.YtbopiacjioedeaaW.PrintMore

theorem opens_string (W : World) : Opens Try.prog W 9 Kd.string (fun s => s.size ≤ maxLen) := Opens.string Try.underlying9 (by kernel_rfl)
theorem opens_bool (W : World) : Opens Try.prog W 4 Kd.bool (fun _ => True) := Opens.bool Try.underlying4 (by kernel_rfl)
theorem opens_affix (W : World) : Opens Try.prog W 83 k83 BigA := by
  refine ⟨by kernel_rfl, fun H enc fuel cs x h => ?_⟩
  obtain ⟨hl, n, hf⟩ := struct_open Try.underlying83 h
  have hl' : cs.length = 5 := hl.trans (by kernel_rfl)
  obtain ⟨y0, h0⟩ := hf 0 _ rfl
  obtain ⟨y1, h1⟩ := hf 1 _ rfl
  obtain ⟨y2, h2⟩ := hf 2 _ rfl
  obtain ⟨y3, h3⟩ := hf 3 _ rfl
  obtain ⟨y4, h4⟩ := hf 4 _ rfl
  obtain ⟨v, hk, q0, _, q2, q3, q4⟩ := part_cons (o' := 1) (opens_string W) h0 rfl (part_cons (o' := 2) (opens_bool W) h1 rfl (part_cons (o' := 3) (opens_string W) h2 rfl (part_cons (o' := 4) (opens_string W) h3 rfl (part_last (opens_string W) h4 hl'))))
  have hm : maxLen ≤ 9223372036854775807 := by decide
  exact ⟨⟨v.1, v.2.1, v.2.2.1, v.2.2.2.1, v.2.2.2.2⟩, hk, ⟨Nat.le_trans q0 hm, Nat.le_trans q2 hm⟩, Nat.le_trans q3 hm, Nat.le_trans q4 hm⟩
theorem opens_entry (W : World) : Opens Try.prog W 85 k85 BigE := by
  refine ⟨by kernel_rfl, fun H enc fuel cs x h => ?_⟩
  obtain ⟨hl, n, hf⟩ := struct_open Try.underlying85 h
  have hl' : cs.length = 2 := hl.trans (by kernel_rfl)
  obtain ⟨y0, h0⟩ := hf 0 _ rfl
  obtain ⟨y1, h1⟩ := hf 1 _ rfl
  obtain ⟨v, hk, q0, q1⟩ := part_cons (o' := 1) (opens_string W) h0 rfl (part_last (opens_string W) h1 hl')
  have hm : maxLen ≤ 9223372036854775807 := by decide
  exact ⟨⟨v.1, v.2⟩, hk, Nat.le_trans q0 hm, Nat.le_trans q1 hm⟩
/-- A book as an argument. -/
theorem open_book {W : World} {H : Type} {enc : TypeId × Value → H} {fuel : Nat} {cs : Array Value} {x : DataW H × List MemPlace} (h : DataW.trod enc Try.prog W 0 (fun _ => true) true fuel 37 cs.toList = some x) :
    ∃ (A0 : Option Addr) (c0 : Nat) (l0 : List LAff) (A1 : Option Addr) (c1 : Nat) (l1 : List LEnt), cs = #[.slice A0 l0.length c0, .slice A1 l1.length c1] ∧ (l0.length ≤ c0 ∧ c0 ≤ maxLen) ∧ (l1.length ≤ c1 ∧ c1 ≤ maxLen) ∧
      (Kd.C k83 W A0 l0.length l0 ∧ ∀ y ∈ l0, BigA y) ∧ Kd.C k85 W A1 l1.length l1 ∧ ∀ y ∈ l1, BigE y := by
  obtain ⟨hl, n, hf⟩ := struct_open Try.underlying37 h
  have hl' : cs.toList.length = 2 := hl.trans (by kernel_rfl)
  obtain ⟨y0, h0⟩ := hf 0 _ rfl
  obtain ⟨y1, h1⟩ := hf 1 _ rfl
  obtain ⟨⟨u0, u1, rfl⟩⟩ : Nonempty (∃ u0 u1, cs = #[u0, u1]) := by
    rcases cs with ⟨_ | ⟨u0, _ | ⟨u1, _ | ⟨u2, r⟩⟩⟩⟩ <;> simp at hl'
    exact ⟨⟨u0, u1, rfl⟩⟩
  have c1 : Try.prog.cellsOf 34 = 1 := by kernel_rfl
  have c2 : Try.prog.cellsOf 35 = 1 := by kernel_rfl
  have h0' : DataW.trod enc Try.prog W 0 (fun _ => true) true n 34 ((List.drop 0 [u0, u1]).take (Try.prog.cellsOf 34)) = some y0 := h0
  have h1' : DataW.trod enc Try.prog W 0 (fun _ => true) true n 35 ((List.drop 1 [u0, u1]).take (Try.prog.cellsOf 35)) = some y1 := h1
  rw [c1] at h0'
  rw [c2] at h1'
  obtain ⟨A0, k0, l0, e0, b0, r0, q0⟩ := Opens.row Try.underlying34 (opens_affix W) h0'
  obtain ⟨A1, k1, l1, e1, b1, r1, q1⟩ := Opens.row Try.underlying35 (opens_entry W) h1'
  have e0' : u0 = .slice A0 l0.length k0 := by simpa using e0
  have e1' : u1 = .slice A1 l1.length k1 := by simpa using e1
  subst e0' e1'
  exact ⟨A0, k0, l0, A1, k1, l1, rfl, b0, b1, ⟨r0, q0⟩, r1, q1⟩
end Go.Proofs.Ytbopiacjioedeaa.P
