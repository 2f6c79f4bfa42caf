/- What is drawn for words and patterns: bounded words, bounded patterns. -/
import Derived.Test.YtlmbmfnimpjgmaaDoorDraws
import Derived.Test.YtlmbmfnimpjgmaaDoorP12
set_option linter.unusedVariables false
set_option linter.unusedSimpArgs false
namespace Go.Proofs.YtlmbmfnimpjgmaaDoor.P
open Go.RowKit Go.Proofs.YtlmbmfnimpjgmaaDoorW.PrintWords Go.Proofs.YtlmbmfnimpjgmaaDoorW.PrintLast Go.Proofs.YtlmbmfnimpjgmaaDoorW.PrintMore

variable {l : List Int} (hl : Bytes l) (hlen : l.length ≤ 2000)
include hl hlen

theorem one_ev {p : Int} (xs : List Int) (hx : 0 < xs.length) (hp : 0 ≤ p) (hp2 : p ≤ 1099511627776) :
    EvQ (fun k => spec_l1Rd_one.f k l p xs) (fun r => r.1 ∈ xs ∧ r.2 = p + 1) := by
  unfold spec_l1Rd_one.f
  refine EvQ.bind (pick_ev hl hlen _ hp hp2) fun r hr => ?_
  have hlt := hr.2.1 (by omega)
  refine EvQ.pos hr.1 (EvQ.pos hlt (EvQ.pure ⟨?_, hr.2.2⟩))
  unfold rd
  have hn : r.1.toNat < xs.length := by omega
  simp [List.getD_eq_getElem?_getD, List.getElem?_eq_getElem hn]

/-- The loop of a drawn word: n pieces more. -/
theorem word_loop (n : Nat) : ∀ (s : ByteArray) (p : Int), s.size + 2 * n ≤ 10 → 0 ≤ p → p + n ≤ 1099511627776 →
    EvQ (fun k => spec_l13Word.l0 k s (n : Int) l p) (fun r => r.1.size ≤ 12 ∧ p ≤ r.2 ∧ r.2 ≤ p + n) := by
  induction n with
  | zero =>
    intro s p hs hp hp2
    refine EvQ.succ (fun k => by rw [spec_l13Word.l0]) ?_
    refine EvQ.neg (by omega) ?_
    have e : ∀ k : Nat, spec_l1Least.f (s.size : Int) 12 = some (s.size : Int) := fun k => by
      unfold spec_l1Least.f
      rw [if_pos (by omega)]
    simp only [e 0, Option.bind_some]
    refine EvQ.pos (by omega) (EvQ.pos (by omega) (EvQ.pure ⟨?_, by simp, by simp⟩))
    rw [ByteArray.size_extract]
    omega
  | succ n ih =>
    intro s p hs hp hp2
    refine EvQ.succ (fun k => by rw [spec_l13Word.l0]) ?_
    refine EvQ.pos (by omega) ?_
    refine EvQ.bind (of_ev hl hlen _ (by decide) hp (by omega)) fun r hr => ?_
    have hr1 : r.1.size ≤ 2 := by
      have h := hr.1
      simp only [List.mem_cons, List.mem_nil_iff, or_false] at h
      rcases h with h | h | h | h | h <;> rw [h] <;> decide
    have hr2 := hr.2
    refine EvQ.pos (by omega) ?_
    have e : wrap64 (((n + 1 : Nat) : Int) - 1) = (n : Int) := by rw [w64 (by omega) (by omega)]; omega
    rw [e]
    refine (ih (s ++ r.1) r.2 (by rw [ByteArray.size_append]; omega) (by omega) (by omega)).imp fun u hu => ⟨hu.1, by omega, by omega⟩

theorem word_ev {p : Int} (hp : 0 ≤ p) (hp2 : p ≤ 1099511000000) :
    EvQ (fun k => spec_l13Word.f k l p) (fun r => r.1.size ≤ 12 ∧ p ≤ r.2 ∧ r.2 ≤ p + 8) := by
  unfold spec_l13Word.f
  refine EvQ.bind (pick_ev hl hlen 3 hp (by omega)) fun r hr => ?_
  have hr2 := hr.2.2
  refine EvQ.both (fun h0 => ?_) (fun h0 => ?_)
  · refine EvQ.bind (pick_ev hl hlen 5 (by omega) (by omega)) fun u hu => ?_
    have hu1 := hu.1
    have hu2 := hu.2.1 (by omega)
    have hu3 := hu.2.2
    obtain ⟨n, hn⟩ : ∃ n : Nat, u.1 = (n : Int) := ⟨u.1.toNat, by omega⟩
    have e : wrap64 (1 + u.1) = ((n + 1 : Nat) : Int) := by rw [w64 (by omega) (by omega)]; omega
    rw [e]
    refine (word_loop hl hlen (n + 1) _ _ (by show (0 : Nat) + _ ≤ 10; omega) (by omega) (by omega)).imp fun v hv => ⟨hv.1, by omega, by omega⟩
  · refine EvQ.bind (of_ev hl hlen _ (by decide) (by omega) (by omega)) fun u hu => ?_
    have hu2 := hu.2
    refine EvQ.pure ⟨?_, by dsimp only; omega, by dsimp only; omega⟩
    have h := hu.1
    simp only [List.mem_cons, List.mem_nil_iff, or_false] at h
    rcases h with h | h | h | h | h | h | h | h | h | h | h | h | h | h | h <;> rw [h] <;> decide

theorem anyWord_ev {p : Int} (hp : 0 ≤ p) (hp2 : p ≤ 1099510000000) :
    EvQ (fun k => spec_l13AnyWord.f k l p) (fun r => r.1.size ≤ 13 ∧ p ≤ r.2 ∧ r.2 ≤ p + 9) := by
  unfold spec_l13AnyWord.f
  refine EvQ.bind (pick_ev hl hlen 16 hp (by omega)) fun r hr => ?_
  have hr2 := hr.2.2
  refine EvQ.both (fun h0 => ?_) (fun h0 => ?_)
  · refine EvQ.bind (of_ev hl hlen _ (by decide) (by omega) (by omega)) fun u hu => ?_
    have hu2 := hu.2
    refine EvQ.pure ⟨?_, by dsimp only; omega, by dsimp only; omega⟩
    have h := hu.1
    simp only [List.mem_cons, List.mem_nil_iff, or_false] at h
    rcases h with h | h | h | h | h | h <;> rw [h] <;> decide
  · refine EvQ.bind (word_ev hl hlen (by omega) (by omega)) fun u hu => ?_
    exact EvQ.pure ⟨by dsimp only; omega, by dsimp only; omega, by dsimp only; omega⟩

omit hl hlen in
/-- The drawn patterns' texts are read. -/
theorem get_all : ([(⟨#[49, 110, 97]⟩ : ByteArray), (⟨#[50, 99, 116]⟩ : ByteArray), (⟨#[97, 49, 98]⟩ : ByteArray), (⟨#[49, 107, 105]⟩ : ByteArray), (⟨#[46, 117, 110, 49]⟩ : ByteArray), (⟨#[52, 116, 115, 46]⟩ : ByteArray), (⟨#[111, 49, 105]⟩ : ByteArray), (⟨#[99, 49, 116]⟩ : ByteArray), (⟨#[97, 50, 98, 49, 99]⟩ : ByteArray), (⟨#[49, 105, 110, 103, 46]⟩ : ByteArray), (⟨#[51, 115, 46]⟩ : ByteArray)] : List ByteArray).all (fun s => (spec_PatternGet.f 40 s).any (fun r => decide (r.1.size ≤ 20) && decide (1 ≤ r.2.1.length) && decide (r.2.1.length ≤ 20))) = true := by
  decide +kernel

/-- A pattern of a bounded size. -/
def Small (a : ByteArray) (n : List Int) : Prop := a.size ≤ 30 ∧ n.length ≤ 30
theorem pattern_ev {p : Int} (hp : 0 ≤ p) (hp2 : p ≤ 1099511000000) :
    EvQ (fun k => spec_l13Pattern.f k l p) (fun r => (r.1.size ≤ 20 ∧ 1 ≤ r.2.1.length ∧ r.2.1.length ≤ 20) ∧ r.2.2 = p + 1) := by
  unfold spec_l13Pattern.f
  refine EvQ.bind (of_ev hl hlen _ (by decide) hp (by omega)) fun r hr => ?_
  have hg := List.all_eq_true.1 get_all r.1 hr.1
  rw [Option.any_eq_true] at hg
  obtain ⟨v, hv, hg⟩ := hg
  simp only [Bool.and_eq_true, decide_eq_true_eq] at hg
  refine EvQ.bind (EvQ.at (Q := (· = v)) (fun k => spec_PatternGet.mono _ _) 40 hv rfl) fun u hu => ?_
  subst hu
  exact EvQ.pure ⟨⟨hg.1.1, hg.1.2, hg.2⟩, hr.2⟩

theorem anyPattern_ev {p : Int} (hp : 0 ≤ p) (hp2 : p ≤ 1099511000000) :
    EvQ (fun k => spec_l13AnyPattern.f k l p) (fun r => Small r.1 r.2.1 ∧ p ≤ r.2.2 ∧ r.2.2 ≤ p + 3) := by
  unfold spec_l13AnyPattern.f
  refine EvQ.bind (pattern_ev hl hlen hp hp2) fun r hr => ?_
  obtain ⟨⟨h1, h2, h3⟩, h4⟩ := hr
  refine EvQ.some_bind (EvQ.pos (by simp only [List.length_nil]; omega) (EvQ.some_bind ?_))
  simp only [List.nil_append]
  refine EvQ.bind (pick_ev hl hlen 10 (by omega) (by omega)) fun u hu => ?_
  have hu2 := hu.2.2
  refine EvQ.both (fun h0 => ?_) (fun h0 => EvQ.both (fun h0 => ?_) (fun h0 => EvQ.both (fun h0 => ?_) (fun h0 => ?_)))
  · refine EvQ.bind (of_ev hl hlen _ (by decide) (by omega) (by omega)) fun v hv => ?_
    have hv2 := hv.2
    refine EvQ.pure ⟨⟨?_, by dsimp only; omega⟩, by dsimp only; omega, by dsimp only; omega⟩
    have h := hv.1
    simp only [List.mem_cons, List.mem_nil_iff, or_false] at h
    rcases h with h | h | h | h | h <;> rw [h] <;> decide
  · refine EvQ.bind (one_ev hl hlen _ (by decide) (by omega) (by omega)) fun v hv => ?_
    have hv2 := hv.2
    refine EvQ.pos (by omega) (EvQ.pure ⟨⟨by dsimp only; omega, ?_⟩, by dsimp only; omega, by dsimp only; omega⟩)
    rw [List.length_set]
    omega
  · refine EvQ.pos (by omega) (EvQ.pure ⟨⟨by dsimp only; omega, ?_⟩, by dsimp only; omega, by dsimp only; omega⟩)
    rw [List.length_append, List.length_singleton]
    omega
  · exact EvQ.pure ⟨⟨by dsimp only; omega, by dsimp only; omega⟩, by dsimp only; omega, by dsimp only; omega⟩

/-- Patterns of bounded sizes. -/
def Smalls (xs : List S42) : Prop := ∀ x ∈ xs, Small x.f0 x.f1
omit hl hlen in
theorem Smalls.snoc {xs : List S42} (h : Smalls xs) {a : ByteArray} {n : List Int} (hs : Small a n) : Smalls (xs ++ [⟨a, n⟩]) := by
  intro x hx
  rcases List.mem_append.1 hx with hx | hx
  · exact h x hx
  · obtain rfl := List.mem_singleton.1 hx
    exact hs

theorem patterns_l1 (n : Nat) : ∀ (xs : List S42) (p : Int), Smalls xs → 22 ≤ xs.length + n → xs.length ≤ 22 → 0 ≤ p → p + 2 * n + 2 ≤ 1099511000000 →
    EvQ (fun k => spec_l13Patterns.l1 k xs l p) (fun r => (Smalls r.1 ∧ r.1.length ≤ 22) ∧ p ≤ r.2 ∧ r.2 ≤ p + 2 * n + 1) := by
  induction n with
  | zero =>
    intro xs p hs h1 h2 hp hp2
    refine EvQ.succ (fun k => by rw [spec_l13Patterns.l1]) ?_
    refine EvQ.bind (pick_ev hl hlen 2 hp (by omega)) fun r hr => ?_
    have ha := hr.1
    have hb := hr.2.1 (by omega)
    have hc := hr.2.2
    refine EvQ.neg (by rw [w64 (by omega) (by omega)]; omega) (EvQ.pure ⟨⟨hs, h2⟩, by dsimp only; omega, by dsimp only; omega⟩)
  | succ n ih =>
    intro xs p hs h1 h2 hp hp2
    refine EvQ.succ (fun k => by rw [spec_l13Patterns.l1]) ?_
    refine EvQ.bind (pick_ev hl hlen 2 hp (by omega)) fun r hr => ?_
    have ha := hr.1
    have hb := hr.2.1 (by omega)
    have hc := hr.2.2
    refine EvQ.both (fun h => ?_) (fun h => EvQ.pure ⟨⟨hs, h2⟩, by dsimp only; omega, by dsimp only; omega⟩)
    rw [w64 (by omega) (by omega)] at h
    refine EvQ.bind (pattern_ev hl hlen (by omega) (by omega)) fun u hu => ?_
    obtain ⟨hu1, hu2⟩ := hu
    refine EvQ.pos (by omega) ?_
    refine (ih _ _ (hs.snoc ⟨by omega, by omega⟩) (by rw [List.length_append, List.length_singleton]; omega) (by rw [List.length_append, List.length_singleton]; omega) (by omega) (by omega)).imp fun v hv => ⟨hv.1, by omega, by omega⟩
theorem patterns_j1 (xs : List S42) (p : Int) (hs : Smalls xs) (h2 : xs.length ≤ 22) (hp : 0 ≤ p) (hp2 : p ≤ 1099510000000) :
    EvQ (fun k => spec_l13Patterns.j1 k xs l p) (fun r => (Smalls r.1 ∧ r.1.length ≤ 22) ∧ p ≤ r.2 ∧ r.2 ≤ p + 60) := by
  refine EvQ.succ (fun k => by rw [spec_l13Patterns.j1]) ?_
  refine EvQ.bind (pick_ev hl hlen 30 hp (by omega)) fun r hr => ?_
  have hc := hr.2.2
  refine EvQ.both (fun h => ?_) (fun h => EvQ.pure ⟨⟨hs, h2⟩, by dsimp only; omega, by dsimp only; omega⟩)
  exact (patterns_l1 hl hlen 22 xs _ hs (by omega) h2 (by omega) (by omega)).imp fun v hv => ⟨hv.1, by omega, by omega⟩
theorem patterns_l0 (n : Nat) : ∀ (xs : List S42) (p : Int), Smalls xs → xs.length + n ≤ 10 → 0 ≤ p → p + n ≤ 1099500000000 →
    EvQ (fun k => spec_l13Patterns.l0 k xs (n : Int) l p) (fun r => (Smalls r.1 ∧ r.1.length ≤ 22) ∧ p ≤ r.2 ∧ r.2 ≤ p + n + 70) := by
  induction n with
  | zero =>
    intro xs p hs h1 hp hp2
    refine EvQ.succ (fun k => by rw [spec_l13Patterns.l0]) ?_
    refine EvQ.neg (by omega) ?_
    refine EvQ.bind (pick_ev hl hlen 20 hp (by omega)) fun r hr => ?_
    have hc := hr.2.2
    refine EvQ.both (fun h => ?_) (fun h => ?_)
    · refine EvQ.bind (anyPattern_ev hl hlen (by omega) (by omega)) fun u hu => ?_
      refine EvQ.pos (by omega) ?_
      exact (patterns_j1 hl hlen _ _ (hs.snoc hu.1) (by rw [List.length_append, List.length_singleton]; omega) (by omega) (by omega)).imp fun v hv => ⟨hv.1, by omega, by omega⟩
    · exact (patterns_j1 hl hlen _ _ hs (by omega) (by omega) (by omega)).imp fun v hv => ⟨hv.1, by omega, by omega⟩
  | succ n ih =>
    intro xs p hs h1 hp hp2
    refine EvQ.succ (fun k => by rw [spec_l13Patterns.l0]) ?_
    refine EvQ.pos (by omega) ?_
    refine EvQ.bind (pattern_ev hl hlen (by omega) (by omega)) fun u hu => ?_
    obtain ⟨hu1, hu2⟩ := hu
    refine EvQ.pos (by omega) ?_
    have e : wrap64 (((n + 1 : Nat) : Int) - 1) = (n : Int) := by rw [w64 (by omega) (by omega)]; omega
    rw [e]
    exact (ih _ _ (hs.snoc ⟨by omega, by omega⟩) (by rw [List.length_append, List.length_singleton]; omega) (by omega) (by omega)).imp fun v hv => ⟨hv.1, by omega, by omega⟩
theorem patterns_ev {p : Int} (hp : 0 ≤ p) (hp2 : p ≤ 1099000000000) :
    EvQ (fun k => spec_l13Patterns.f k l p) (fun r => (Smalls r.1 ∧ r.1.length ≤ 22) ∧ p ≤ r.2 ∧ r.2 ≤ p + 100) := by
  unfold spec_l13Patterns.f
  refine EvQ.bind (pick_ev hl hlen 8 hp (by omega)) fun r hr => ?_
  have ha := hr.1
  have hb := hr.2.1 (by omega)
  have hc := hr.2.2
  obtain ⟨n, hn⟩ : ∃ n : Nat, r.1 = (n : Int) := ⟨r.1.toNat, by omega⟩
  rw [hn]
  exact (patterns_l0 hl hlen n [] _ (fun x hx => by cases hx) (by simp only [List.length_nil]; omega) (by omega) (by omega)).imp fun v hv => ⟨hv.1, by omega, by omega⟩

omit hl hlen in
theorem open_ev {l0 : List Int} (h : Bytes l0) : ∃ l, spec_l1Open.f l0 = some (l, 0) ∧ Bytes l ∧ l.length ≤ 2000 := by
  unfold spec_l1Open.f
  split
  · rename_i h1
    rw [if_pos (by omega)]
    exact ⟨_, rfl, fun x hx => h x (List.mem_of_mem_take hx), by rw [List.length_take]; omega⟩
  · exact ⟨_, rfl, h, by omega⟩
end Go.Proofs.YtlmbmfnimpjgmaaDoor.P
