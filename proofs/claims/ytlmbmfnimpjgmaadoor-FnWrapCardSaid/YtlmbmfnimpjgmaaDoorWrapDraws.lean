/- What DrawWrap draws: bounded patterns, bounded words, a width. -/
import Derived.Test.YtlmbmfnimpjgmaaDoorSplitDraws
import Derived.Test.YtlmbmfnimpjgmaaDoorP12
set_option linter.unusedVariables false
set_option linter.unusedSimpArgs false
namespace Go.Proofs.YtlmbmfnimpjgmaaDoor.P
open Go.RowKit Go.Proofs.YtlmbmfnimpjgmaaDoorW.PrintWords Go.Proofs.YtlmbmfnimpjgmaaDoorW.PrintLast Go.Proofs.YtlmbmfnimpjgmaaDoorW.PrintMore

/-- Words of bounded sizes. -/
def ShortWords (ws : List ByteArray) : Prop := ∀ w ∈ ws, w.size ≤ 13
theorem ShortWords.snoc {ws : List ByteArray} (h : ShortWords ws) {w : ByteArray} (hw : w.size ≤ 13) : ShortWords (ws ++ [w]) := by
  intro x hx
  rcases List.mem_append.1 hx with hx | hx
  · exact h x hx
  · obtain rfl := List.mem_singleton.1 hx
    exact hw
/-- What is drawn. -/
def WrapDrawn (r : List S42 × List ByteArray × Int) : Prop := (Smalls r.1 ∧ r.1.length ≤ 22) ∧ (ShortWords r.2.1 ∧ r.2.1.length ≤ 100) ∧ 0 ≤ r.2.2 ∧ r.2.2 ≤ 100
section
variable {l : List Int} (hl : Bytes l) (hlen : l.length ≤ 2000)
include hl hlen
theorem width_ev {p : Int} (hp : 0 ≤ p) (hp2 : p ≤ 1099000000000) : EvQ (fun k => spec_l1Rd_one.f k l p ([12, 13, 15, 20, 60, 11, 61] : List Int)) (fun r => 0 ≤ r.1 ∧ r.1 ≤ 100) := by
  refine (one_ev hl hlen _ (by decide) hp (by omega)).imp fun r hr => ?_
  have h := hr.1
  simp only [List.mem_cons, List.mem_nil_iff, or_false] at h
  omega
theorem wrap_l1 (n : Nat) : ∀ (ws : List ByteArray) (p : Int), ShortWords ws → 41 ≤ ws.length + n → ws.length ≤ 41 → 0 ≤ p → p + n ≤ 1090000000000 →
    EvQ (fun k => spec_DrawWrap.l1 k ws l p) WrapDrawn := by
  induction n with
  | zero =>
    intro ws p hs h1 h2 hp hp2
    refine EvQ.succ (fun k => by rw [spec_DrawWrap.l1]) ?_
    refine EvQ.bind (pick_ev hl hlen 2 hp (by omega)) fun r hr => ?_
    have ha := hr.1
    have hb := hr.2.1 (by omega)
    have hc := hr.2.2
    refine EvQ.neg (by rw [w64 (by omega) (by omega)]; omega) ?_
    refine EvQ.bind (patterns_ev hl hlen (by omega) (by omega)) fun u hu => EvQ.bind (width_ev hl hlen (by omega) (by omega)) fun v hv => EvQ.pure ?_
    exact ⟨hu.1, ⟨hs, by dsimp only; omega⟩, hv⟩
  | succ n ih =>
    intro ws p hs h1 h2 hp hp2
    refine EvQ.succ (fun k => by rw [spec_DrawWrap.l1]) ?_
    refine EvQ.bind (pick_ev hl hlen 2 hp (by omega)) fun r hr => ?_
    have ha := hr.1
    have hb := hr.2.1 (by omega)
    have hc := hr.2.2
    refine EvQ.both (fun h => ?_) (fun h => ?_)
    · rw [w64 (by omega) (by omega)] at h
      refine EvQ.pos (by omega) ?_
      exact ih _ _ (hs.snoc (by decide)) (by rw [List.length_append, List.length_singleton]; omega) (by rw [List.length_append, List.length_singleton]; omega) (by omega) (by omega)
    · refine EvQ.bind (patterns_ev hl hlen (by omega) (by omega)) fun u hu => EvQ.bind (width_ev hl hlen (by omega) (by omega)) fun v hv => EvQ.pure ?_
      exact ⟨hu.1, ⟨hs, by dsimp only; omega⟩, hv⟩
theorem wrap_l0 (n : Nat) : ∀ (ws : List ByteArray) (p : Int), ShortWords ws → ws.length + n ≤ 20 → 0 ≤ p → p + 8 * n ≤ 1000000000000 →
    EvQ (fun k => spec_DrawWrap.l0 k ws (n : Int) l p) WrapDrawn := by
  induction n with
  | zero =>
    intro ws p hs h1 hp hp2
    refine EvQ.succ (fun k => by rw [spec_DrawWrap.l0]) ?_
    refine EvQ.neg (by omega) ?_
    refine EvQ.bind (pick_ev hl hlen 16 hp (by omega)) fun r hr => ?_
    have hc := hr.2.2
    refine EvQ.both (fun h => ?_) (fun h => EvQ.both (fun h => ?_) (fun h => ?_))
    · refine EvQ.bind (anyWord_ev hl hlen (by omega) (by omega)) fun a ha => ?_
      refine EvQ.pos (by omega) ?_
      refine EvQ.bind (patterns_ev hl hlen (by omega) (by omega)) fun u hu => EvQ.bind (width_ev hl hlen (by omega) (by omega)) fun v hv => EvQ.pure ?_
      exact ⟨hu.1, ⟨hs.snoc ha.1, by dsimp only; rw [List.length_append, List.length_singleton]; omega⟩, hv⟩
    · exact wrap_l1 hl hlen 41 ws _ hs (by omega) (by omega) (by omega) (by omega)
    · refine EvQ.bind (patterns_ev hl hlen (by omega) (by omega)) fun u hu => EvQ.bind (width_ev hl hlen (by omega) (by omega)) fun v hv => EvQ.pure ?_
      exact ⟨hu.1, ⟨hs, by dsimp only; omega⟩, hv⟩
  | succ n ih =>
    intro ws p hs h1 hp hp2
    refine EvQ.succ (fun k => by rw [spec_DrawWrap.l0]) ?_
    refine EvQ.pos (by omega) ?_
    refine EvQ.bind (word_ev hl hlen hp (by omega)) fun u hu => ?_
    refine EvQ.pos (by omega) ?_
    have e : wrap64 (((n + 1 : Nat) : Int) - 1) = (n : Int) := by rw [w64 (by omega) (by omega)]; omega
    rw [e]
    exact ih _ _ (hs.snoc (by omega)) (by rw [List.length_append, List.length_singleton]; omega) (by omega) (by omega)
end
theorem drawWrap_ev {l0 : List Int} (h : Bytes l0) : EvQ (fun k => spec_DrawWrap.f k l0) WrapDrawn := by
  obtain ⟨l, e, h1, h2⟩ := open_ev h
  unfold spec_DrawWrap.f
  rw [e]
  refine EvQ.some_bind (EvQ.bind (pick_ev h1 h2 16 (Int.le_refl _) (by omega)) fun r hr => ?_)
  have ha := hr.1
  have hb := hr.2.1 (by omega)
  have hc := hr.2.2
  obtain ⟨n, hn⟩ : ∃ n : Nat, r.1 = (n : Int) := ⟨r.1.toNat, by omega⟩
  rw [hn]
  exact wrap_l0 h1 h2 n [] _ (fun x hx => by cases hx) (by simp only [List.length_nil]; omega) (by omega) (by omega)
end Go.Proofs.YtlmbmfnimpjgmaaDoor.P
