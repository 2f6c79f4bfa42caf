/- Words, affixes, entries, books that are ok: both sides say the same. -/
import Derived.Test.YtbopiacjioedeaaEv
import Derived.Test.YtbopiacjioedeaaP7
import Derived.Test.YtbopiacjioedeaaP13
import Derived.Lib.Strings
import Derived.Test.YtbopiacjioedeaaExtSort
import Derived.Sort.Walk0
import Derived.Test.YtbopiacjioedeaaP18
set_option linter.unusedVariables false
set_option linter.unusedSimpArgs false
namespace Go.Proofs.Ytbopiacjioedeaa.P
open Go.RowKit Go.Proofs.YtbopiacjioedeaaW.PrintWords Go.Proofs.YtbopiacjioedeaaW.PrintLast Go.Proofs.YtbopiacjioedeaaW.PrintMore

abbrev SAff := S68
abbrev SEnt := S73
abbrev rdA := rd_T68
abbrev rdE := rd_T73

/-- Small letters from a byte on. -/
def LowFrom (s : ByteArray) (i : Nat) : Prop := ∀ j : Nat, i ≤ j → j < s.size → 97 ≤ bt s j ∧ bt s j ≤ 122
theorem LowFrom.step {s : ByteArray} {i : Nat} (hi : i < s.size) : LowFrom s i ↔ (97 ≤ bt s i ∧ bt s i ≤ 122) ∧ LowFrom s (i + 1) := by
  constructor
  · exact fun h => ⟨h i (Nat.le_refl _) hi, fun j h1 h2 => h j (by omega) h2⟩
  · rintro ⟨h1, h2⟩ j hj hs
    rcases Nat.eq_or_lt_of_le hj with rfl | h
    · exact h1
    · exact h2 j h hs
theorem LowFrom.last {s : ByteArray} {i : Nat} (hi : s.size ≤ i) : LowFrom s i := fun j h1 h2 => by omega
theorem no_true {p : Prop} (h : ¬ p) : (false = true ↔ p) := ⟨fun e => absurd e (by decide), fun e => absurd e h⟩

theorem lower_loop (s : ByteArray) (hs : s.size ≤ 2097152) (n : Nat) : ∀ i : Nat, i + n = s.size → EvQ (fun k => impl_lower.l0 k s (s.size : Int) (i : Int)) (fun r => r = true ↔ LowFrom s i) := by
  induction n with
  | zero =>
    intro i hi
    refine EvQ.succ (fun k => by rw [impl_lower.l0]) ?_
    exact EvQ.neg (by omega) (EvQ.pure ⟨fun _ => LowFrom.last (by omega), fun _ => rfl⟩)
  | succ n ih =>
    intro i hi
    refine EvQ.succ (fun k => by rw [impl_lower.l0]) ?_
    refine EvQ.pos (by omega) (EvQ.pos (by omega) (EvQ.pos (by omega) ?_))
    refine EvQ.both (fun h => EvQ.pure (no_true ?_)) (fun h => EvQ.both (fun h2 => EvQ.pure (no_true ?_)) (fun h2 => ?_))
    · rw [LowFrom.step (by omega)]; rintro ⟨⟨h1, _⟩, _⟩; omega
    · rw [LowFrom.step (by omega)]; rintro ⟨⟨_, h1⟩, _⟩; omega
    · rw [w64 (by omega) (by omega)]
      refine (ih (i + 1) (by omega)).imp fun r hr => ?_
      rw [hr, LowFrom.step (i := i) (by omega)]
      exact ⟨fun h3 => ⟨⟨by omega, by omega⟩, h3⟩, fun h3 => h3.2⟩
theorem lower_ev (s : ByteArray) (hs : s.size ≤ 2097152) : EvQ (fun k => impl_lower.f k s) (fun r => r = true ↔ LowFrom s 0) := by
  unfold impl_lower.f
  exact lower_loop s hs s.size 0 (by omega)
theorem letters_loop (s : ByteArray) (m : Int) (hs : s.size ≤ 2097152) (n : Nat) : ∀ i : Nat, i + n = s.size → EvQ (fun k => spec_l1Letters.l0 k s m (i : Int)) (fun r => r = true ↔ LowFrom s i ∧ (s.size : Int) ≤ m) := by
  induction n with
  | zero =>
    intro i hi
    refine EvQ.succ (fun k => by rw [spec_l1Letters.l0]) ?_
    refine EvQ.neg (by omega) (EvQ.pure ?_)
    rw [decide_eq_true_iff]
    exact ⟨fun h => ⟨LowFrom.last (by omega), h⟩, fun h => h.2⟩
  | succ n ih =>
    intro i hi
    refine EvQ.succ (fun k => by rw [spec_l1Letters.l0]) ?_
    refine EvQ.pos (by omega) (EvQ.pos (by omega) ?_)
    refine EvQ.both (fun h => EvQ.pure (no_true ?_)) (fun h => EvQ.both (fun h2 => EvQ.pure (no_true ?_)) (fun h2 => ?_))
    · rw [LowFrom.step (by omega)]; rintro ⟨⟨⟨h1, _⟩, _⟩, _⟩; omega
    · rw [LowFrom.step (by omega)]; rintro ⟨⟨⟨_, h1⟩, _⟩, _⟩; omega
    · rw [w64 (by omega) (by omega)]
      refine (ih (i + 1) (by omega)).imp fun r hr => ?_
      rw [hr, LowFrom.step (i := i) (by omega)]
      exact ⟨fun h3 => ⟨⟨⟨by omega, by omega⟩, h3.1⟩, h3.2⟩, fun h3 => ⟨h3.1.2, h3.2⟩⟩
theorem letters_ev (s : ByteArray) (m : Int) (hs : s.size ≤ 2097152) : EvQ (fun k => spec_l1Letters.f k s m) (fun r => r = true ↔ LowFrom s 0 ∧ (s.size : Int) ≤ m) := by
  unfold spec_l1Letters.f
  exact letters_loop s m hs s.size 0 (by omega)

/-- A word. -/
def IsWord (s : ByteArray) : Prop := (1 ≤ s.size ∧ s.size ≤ 12) ∧ LowFrom s 0
theorem within_ev (x lo hi : Int) : impl_within.f x lo hi = some (decide (lo ≤ x ∧ x ≤ hi)) := by
  unfold impl_within.f
  by_cases h : x ≥ lo
  · rw [if_pos h]; congr 1; rw [decide_eq_decide]; omega
  · rw [if_neg h]; congr 1; symm; rw [decide_eq_false_iff_not]; omega
theorem implWord_ev (s : ByteArray) (hs : s.size ≤ 2097152) : EvQ (fun k => impl_WordOk.f k s) (fun r => r = true ↔ IsWord s) := by
  unfold impl_WordOk.f
  rw [within_ev]
  refine EvQ.some_bind (EvQ.both (fun h => ?_) (fun h => EvQ.pure (no_true ?_)))
  · rw [decide_eq_true_iff] at h
    refine EvQ.bind (lower_ev s hs) fun r hr => EvQ.pure ?_
    rw [hr]
    exact ⟨fun h2 => ⟨by omega, h2⟩, fun h2 => h2.2⟩
  · rw [decide_eq_true_iff] at h
    exact fun h2 => h (by have := h2.1; omega)
theorem specWord_ev (s : ByteArray) (hs : s.size ≤ 2097152) : EvQ (fun k => spec_l1Word.f k s) (fun r => r = true ↔ IsWord s) := by
  unfold spec_l1Word.f
  refine EvQ.both (fun h => ?_) (fun h => EvQ.pure (no_true ?_))
  · refine EvQ.bind (letters_ev s 12 hs) fun r hr => EvQ.pure ?_
    rw [hr]
    exact ⟨fun h2 => ⟨⟨by omega, by omega⟩, h2.1⟩, fun h2 => ⟨h2.2, by have := h2.1; omega⟩⟩
  · intro h2; have := h2.1; omega

/-! ### Affixes -/
theorem upper_ev (c : Int) : impl_upper.f c = some (decide (65 ≤ c ∧ c ≤ 90)) := by
  unfold impl_upper.f
  by_cases h : c ≥ 65
  · rw [if_pos h]; congr 1; rw [decide_eq_decide]; omega
  · rw [if_neg h]; congr 1; symm; rw [decide_eq_false_iff_not]; omega
/-- A flag. -/
def IsFlag (s : ByteArray) : Prop := s.size = 1 ∧ 65 ≤ bt s 0 ∧ bt s 0 ≤ 90
instance (s : ByteArray) : Decidable (IsFlag s) := by unfold IsFlag; exact inferInstance
theorem flag_ev (s : ByteArray) : spec_l2Flag.f s = some (decide (IsFlag s)) := by
  have hq : ∀ v : Bool, (v = true ↔ IsFlag s) → some v = some (decide (IsFlag s)) := by
    intro v hv
    congr 1
    rw [Bool.eq_iff_iff, hv, decide_eq_true_iff]
  unfold spec_l2Flag.f
  by_cases h : s.size = 1
  · rw [if_pos (by omega), if_pos (by omega)]
    by_cases h2 : bt s 0 ≥ 65
    · rw [if_pos h2]
      exact hq _ (by rw [decide_eq_true_iff]; exact ⟨fun g => ⟨h, h2, g⟩, fun g => g.2.2⟩)
    · rw [if_neg h2]
      exact hq _ (no_true fun g => h2 g.2.1)
  · rw [if_neg (by omega)]
    exact hq _ (no_true fun g => h g.1)
/-- One text begins, or ends, with another. -/
def beg (a b : ByteArray) : Bool := decide (b.size ≤ a.size) && ((a.extract 0 b.size).toList == b.toList)
def fin (a b : ByteArray) : Bool := decide (b.size ≤ a.size) && ((a.extract (a.size - b.size) a.size).toList == b.toList)
theorem begins_ev (a b : ByteArray) : spec_l2Begins.f a b = some (beg a b) := by
  unfold spec_l2Begins.f beg
  by_cases h : b.size ≤ a.size
  · rw [if_pos (by omega), if_pos (by omega), if_pos (by omega)]; simp [h]
  · rw [if_neg (by omega)]; simp [h]
theorem ends_ev (a b : ByteArray) (ha : a.size ≤ 2097152) (hb : b.size ≤ 2097152) : spec_l2Ends.f a b = some (fin a b) := by
  unfold spec_l2Ends.f fin
  have e : wrap64 ((a.size : Int) - (b.size : Int)) = (a.size : Int) - (b.size : Int) := w64 (by omega) (by omega)
  by_cases h : b.size ≤ a.size
  · rw [if_pos (by omega), e, if_pos (by omega), if_pos (by omega)]
    have e2 : ((a.size : Int) - (b.size : Int)).toNat = a.size - b.size := by omega
    rw [e2]; simp [h]
  · rw [if_neg (by omega)]; simp [h]
theorem prefix_ev (a b : ByteArray) : strings_HasPrefix.f a b = some (beg a b) := by
  unfold strings_HasPrefix.f
  rw [show stringslite_HasPrefix.f a b = spec_l2Begins.f a b from rfl, begins_ev]; rfl
theorem suffix_ev (a b : ByteArray) (ha : a.size ≤ 2097152) (hb : b.size ≤ 2097152) : strings_HasSuffix.f a b = some (fin a b) := by
  unfold strings_HasSuffix.f
  rw [show stringslite_HasSuffix.f a b = spec_l2Ends.f a b from rfl, ends_ev a b ha hb]; rfl

/-- An affix that can be reckoned with. -/
def SmallA (a : SAff) : Prop := a.f0.size ≤ 2097152 ∧ a.f2.size ≤ 2097152 ∧ a.f3.size ≤ 2097152 ∧ a.f4.size ≤ 2097152
def Part (s : ByteArray) : Prop := LowFrom s 0 ∧ s.size ≤ 4
/-- An affix that is ok. -/
def AffP (a : SAff) : Prop := IsFlag a.f0 ∧ (Part a.f2 ∧ Part a.f3 ∧ Part a.f4) ∧ (if a.f1 = true then beg a.f4 a.f2 else fin a.f4 a.f2) = true
theorem specAff_ev (a : SAff) (h : SmallA a) : EvQ (fun k => spec_AffixOk.f k a.f0 a.f1 a.f2 a.f3 a.f4) (fun r => r = true ↔ AffP a) := by
  obtain ⟨h0, h2, h3, h4⟩ := h
  unfold spec_AffixOk.f
  have hn : ∀ {p : Prop}, ¬ p → EvQ (fun k => spec_AffixOk.j0 k true a.f0 a.f1 a.f2 a.f3 a.f4) (fun r => r = true ↔ p) := by
    intro p hp
    refine EvQ.succ (fun k => by rw [spec_AffixOk.j0]) ?_
    exact EvQ.pos rfl (EvQ.pure (no_true hp))
  rw [flag_ev]
  refine EvQ.some_bind (EvQ.both (fun hf => ?_) (fun hf => hn (fun hp => hf (decide_eq_true hp.1))))
  rw [decide_eq_true_iff] at hf
  refine EvQ.bind (letters_ev a.f2 4 h2) fun r2 e2 => EvQ.both (fun g2 => ?_) (fun g2 => hn (fun hp => g2 (e2.2 ⟨hp.2.1.1.1, by have := hp.2.1.1.2; omega⟩)))
  refine EvQ.bind (letters_ev a.f3 4 h3) fun r3 e3 => EvQ.both (fun g3 => ?_) (fun g3 => hn (fun hp => g3 (e3.2 ⟨hp.2.1.2.1.1, by have := hp.2.1.2.1.2; omega⟩)))
  refine EvQ.bind (letters_ev a.f4 4 h4) fun r4 e4 => ?_
  cases r4 with
  | false => exact hn (fun hp => by cases e4.2 ⟨hp.2.1.2.2.1, by have := hp.2.1.2.2.2; omega⟩)
  | true =>
    have f2 := e2.1 g2
    have f3 := e3.1 g3
    have f4 := e4.1 rfl
    refine EvQ.succ (fun k => by rw [spec_AffixOk.j0]) (EvQ.neg (by decide) ?_)
    have hq : ∀ b : Bool, b = (if a.f1 = true then beg a.f4 a.f2 else fin a.f4 a.f2) → (b = true ↔ AffP a) := by
      rintro b rfl
      exact ⟨fun hb => ⟨hf, ⟨⟨f2.1, by omega⟩, ⟨f3.1, by omega⟩, ⟨f4.1, by omega⟩⟩, hb⟩, fun hp => hp.2.2⟩
    rw [begins_ev, ends_ev _ _ h4 h2]
    exact EvQ.both (fun hb => EvQ.some_bind (EvQ.pure (hq _ (if_pos hb).symm))) (fun hb => EvQ.some_bind (EvQ.pure (hq _ (if_neg hb).symm)))
theorem implAff_ev (a : SAff) (h : SmallA a) : EvQ (fun k => impl_AffixOk.f k a.f0 a.f1 a.f2 a.f3 a.f4) (fun r => r = true ↔ AffP a) := by
  obtain ⟨h0, h2, h3, h4⟩ := h
  unfold impl_AffixOk.f
  have hn : ∀ {p : Prop}, ¬ p → EvQ (fun k => impl_AffixOk.j0 k true a.f0 a.f1 a.f2 a.f3 a.f4) (fun r => r = true ↔ p) := by
    intro p hp
    refine EvQ.succ (fun k => by rw [impl_AffixOk.j0]) ?_
    exact EvQ.pos rfl (EvQ.pure (no_true hp))
  refine EvQ.both (fun h1 => EvQ.pos (by omega) ?_) (fun h1 => hn (fun hp => h1 (by have := hp.1.1; omega)))
  rw [upper_ev]
  refine EvQ.some_bind ?_
  by_cases hu : 65 ≤ bt a.f0 0 ∧ bt a.f0 0 ≤ 90
  · rw [decide_eq_true hu]
    have hf : IsFlag a.f0 := ⟨by omega, hu⟩
    refine EvQ.succ (fun k => by rw [impl_AffixOk.j0]) (EvQ.neg (by decide) (EvQ.some_bind ?_))
    have one : ∀ (i : Nat) (s : ByteArray) (hi : i < 3) (hs : s.size ≤ 2097152) (e : rdOf ByteArray.empty [a.f2, a.f3, a.f4] (i : Int) = s), (AffP a → Part s) →
        (Part s → EvQ (fun k => impl_AffixOk.l0 k [a.f2, a.f3, a.f4] 3 ((i + 1 : Nat) : Int) a.f0 a.f1 a.f2 a.f3 a.f4) (fun r => r = true ↔ AffP a)) →
        EvQ (fun k => impl_AffixOk.l0 k [a.f2, a.f3, a.f4] 3 (i : Int) a.f0 a.f1 a.f2 a.f3 a.f4) (fun r => r = true ↔ AffP a) := by
      intro i s hi hs e hp hr
      refine EvQ.succ (fun k => by rw [impl_AffixOk.l0]) ?_
      refine EvQ.pos (by omega) (EvQ.pos (by omega) (EvQ.pos (by simp only [List.length_cons, List.length_nil]; omega) ?_))
      rw [e]
      refine EvQ.both (fun g => EvQ.pure (no_true fun h => by have := (hp h).2; omega)) (fun g => ?_)
      refine EvQ.bind (lower_ev s hs) fun r er => EvQ.both (fun g2 => ?_) (fun g2 => EvQ.pure (no_true fun h => g2 (er.2 (hp h).1)))
      rw [w64 (by omega) (by omega)]
      exact hr ⟨er.1 g2, by omega⟩
    refine one 0 a.f2 (by omega) h2 rfl (fun hp => hp.2.1.1) fun p2 => one 1 a.f3 (by omega) h3 rfl (fun hp => hp.2.1.2.1) fun p3 => one 2 a.f4 (by omega) h4 rfl (fun hp => hp.2.1.2.2) fun p4 => ?_
    refine EvQ.succ (fun k => by rw [impl_AffixOk.l0]) (EvQ.neg (by decide) ?_)
    have hq : ∀ b : Bool, b = (if a.f1 = true then beg a.f4 a.f2 else fin a.f4 a.f2) → (b = true ↔ AffP a) := by
      rintro b rfl
      exact ⟨fun hb => ⟨hf, ⟨p2, p3, p4⟩, hb⟩, fun hp => hp.2.2⟩
    rw [prefix_ev, suffix_ev _ _ h4 h2]
    exact EvQ.both (fun hb => EvQ.some_bind (EvQ.pure (hq _ (if_pos hb).symm))) (fun hb => EvQ.some_bind (EvQ.pure (hq _ (if_neg hb).symm)))
  · rw [decide_eq_false hu]
    exact hn (fun hp => hu hp.1.2)
end Go.Proofs.Ytbopiacjioedeaa.P
/- Affixes, entries and books that are ok: both sides say the same. -/
set_option linter.unusedVariables false
set_option linter.unusedSimpArgs false
namespace Go.Proofs.Ytbopiacjioedeaa.P
open Go.RowKit Go.Proofs.YtbopiacjioedeaaW.PrintWords Go.Proofs.YtbopiacjioedeaaW.PrintLast Go.Proofs.YtbopiacjioedeaaW.PrintMore

/-- From a place on. -/
def From (n : Nat) (P : Nat → Prop) (i : Nat) : Prop := ∀ j, i ≤ j → j < n → P j
theorem From.step {n : Nat} {P : Nat → Prop} {i : Nat} (hi : i < n) : From n P i ↔ P i ∧ From n P (i + 1) := by
  constructor
  · exact fun h => ⟨h i (Nat.le_refl _) hi, fun j h1 h2 => h j (by omega) h2⟩
  · rintro ⟨h1, h2⟩ j hj hs
    rcases Nat.eq_or_lt_of_le hj with rfl | h
    · exact h1
    · exact h2 j h hs
theorem From.last {n : Nat} {P : Nat → Prop} {i : Nat} (hi : n ≤ i) : From n P i := fun j h1 h2 => by omega

theorem toList_inj {a b : ByteArray} : a.toList = b.toList ↔ a = b := by
  rw [Lib.toList_data, Lib.toList_data]
  constructor
  · intro h
    cases a; cases b
    simp only at h
    congr 1
    exact Array.toList_inj.1 h
  · rintro rfl; rfl
theorem eqA (a b : SAff) : ((a.f0.toList == b.f0.toList) && ((a.f1 == b.f1) && ((a.f2.toList == b.f2.toList) && ((a.f3.toList == b.f3.toList) && (a.f4.toList == b.f4.toList))))) = true ↔ a = b := by
  simp only [Bool.and_eq_true, beq_iff_eq, toList_inj]
  constructor
  · rintro ⟨h0, h1, h2, h3, h4⟩
    cases a; cases b
    simp only at h0 h1 h2 h3 h4
    subst h0 h1 h2 h3 h4
    rfl
  · rintro rfl; exact ⟨rfl, rfl, rfl, rfl, rfl⟩
theorem rdA_get (l : List SAff) (i : Nat) (h : i < l.length) : rdA l (i : Int) = l[i] := by
  show l.getD i _ = _
  simp [List.getD_eq_getElem?_getD, h]
theorem rdE_get (l : List SEnt) (i : Nat) (h : i < l.length) : rdE l (i : Int) = l[i] := by
  show l.getD i _ = _
  simp [List.getD_eq_getElem?_getD, h]

/-! ### Affixes -/
theorem indexA_loop (m : List SAff) (a : SAff) (hm : m.length ≤ 2097152) (n : Nat) : ∀ i : Nat, i + n = m.length →
    EvQ (fun k => impl_Affix_81.l0 k m (m.length : Int) (i : Int) a.f0 a.f1 a.f2 a.f3 a.f4) (fun r => r ≥ 0 ↔ ∃ j : Nat, i ≤ j ∧ j < m.length ∧ rdA m j = a) := by
  induction n with
  | zero =>
    intro i hi
    refine EvQ.succ (fun k => by rw [impl_Affix_81.l0]) ?_
    refine EvQ.neg (by omega) (EvQ.pure ⟨fun h => absurd h (by decide), ?_⟩)
    rintro ⟨j, h1, h2, _⟩; omega
  | succ n ih =>
    intro i hi
    refine EvQ.succ (fun k => by rw [impl_Affix_81.l0]) ?_
    refine EvQ.pos (by omega) (EvQ.pos (by omega) (EvQ.pos (by omega) (EvQ.both (fun h => EvQ.pure ?_) (fun h => ?_))))
    · have h' := (eqA a (rdA m i)).1 h
      exact ⟨fun _ => ⟨i, Nat.le_refl _, by omega, h'.symm⟩, fun _ => by omega⟩
    · have h' := fun e => h ((eqA a (rdA m i)).2 e)
      rw [w64 (by omega) (by omega)]
      refine (ih (i + 1) (by omega)).imp fun r hr => ?_
      rw [hr]
      constructor
      · rintro ⟨j, h1, h2, h3⟩; exact ⟨j, by omega, h2, h3⟩
      · rintro ⟨j, h1, h2, h3⟩
        rcases Nat.eq_or_lt_of_le h1 with rfl | h4
        · exact absurd h3.symm h'
        · exact ⟨j, h4, h2, h3⟩
theorem containsA_ev (m : List SAff) (a : SAff) (hm : m.length ≤ 2097152) :
    EvQ (fun k => impl_Affix_67.f k m a.f0 a.f1 a.f2 a.f3 a.f4) (fun r => r = true ↔ ∃ j : Nat, j < m.length ∧ rdA m j = a) := by
  unfold impl_Affix_67.f impl_Affix_81.f
  refine EvQ.bind (indexA_loop m a hm m.length 0 (by omega)) fun r hr => EvQ.pure ?_
  rw [decide_eq_true_iff, hr]
  exact ⟨fun ⟨j, _, h⟩ => ⟨j, h⟩, fun ⟨j, h⟩ => ⟨j, Nat.zero_le _, h⟩⟩
/-- The affix at a place is ok, and none of the ones before. -/
def AffAt (l : List SAff) (i : Nat) : Prop := AffP (rdA l i) ∧ ∀ j : Nat, j < i → rdA l j ≠ rdA l i
def AffsP (l : List SAff) : Prop := From l.length (AffAt l) 0 ∧ l.length ≤ 8
theorem implAffs_loop (l : List SAff) (hl : l.length ≤ 2097152) (hs : ∀ i : Nat, i < l.length → SmallA (rdA l i)) (n : Nat) : ∀ i : Nat, i + n = l.length →
    EvQ (fun k => impl_affixesOk.l0 k l l (l.length : Int) (i : Int)) (fun r => r = true ↔ From l.length (AffAt l) i ∧ l.length ≤ 8) := by
  induction n with
  | zero =>
    intro i hi
    refine EvQ.succ (fun k => by rw [impl_affixesOk.l0]) (EvQ.neg (by omega) (EvQ.pure ?_))
    rw [decide_eq_true_iff]
    exact ⟨fun h => ⟨From.last (by omega), by omega⟩, fun h => by have := h.2; omega⟩
  | succ n ih =>
    intro i hi
    refine EvQ.succ (fun k => by rw [impl_affixesOk.l0]) (EvQ.pos (by omega) (EvQ.pos (by omega) (EvQ.pos (by omega) ?_)))
    rw [From.step (by omega)]
    refine EvQ.bind (implAff_ev _ (hs i (by omega))) fun r er => EvQ.both (fun g => EvQ.pos (by omega) ?_) (fun g => EvQ.pure (no_true fun h => g (er.2 h.1.1.1)))
    have ht : (l.take (i : Int).toNat).length = i := by simp; omega
    have hrd : ∀ j : Nat, j < i → rdA (l.take (i : Int).toNat) j = rdA l j := by
      intro j hj
      rw [rdA_get _ j (by omega), rdA_get _ j (by omega)]
      simp
    refine EvQ.bind (containsA_ev _ (rdA l i) (by rw [ht]; omega)) fun u eu => EvQ.both (fun g2 => EvQ.pure (no_true ?_)) (fun g2 => ?_)
    · obtain ⟨j, h1, h2⟩ := eu.1 g2
      rw [ht] at h1
      rw [hrd j h1] at h2
      exact fun h => h.1.1.2 j h1 h2
    · rw [w64 (by omega) (by omega)]
      refine (ih (i + 1) (by omega)).imp fun r hr => ?_
      rw [hr]
      refine ⟨fun h => ⟨⟨⟨er.1 g, fun j hj e => g2 (eu.2 ⟨j, by omega, by rw [hrd j hj]; exact e⟩)⟩, h.1⟩, h.2⟩, fun h => ⟨h.1.2, h.2⟩⟩
theorem implAffs_ev (l : List SAff) (hl : l.length ≤ 2097152) (hs : ∀ i : Nat, i < l.length → SmallA (rdA l i)) : EvQ (fun k => impl_affixesOk.f k l) (fun r => r = true ↔ AffsP l) := by
  unfold impl_affixesOk.f
  exact implAffs_loop l hl hs l.length 0 (by omega)
theorem specAffs_in (l : List SAff) (hl : l.length ≤ 2097152) (i : Nat) (hi : i < l.length) (Q : Bool → Prop) (hQ : (∃ j : Nat, j < i ∧ rdA l j = rdA l i) → Q false)
    (hc : (∀ j : Nat, j < i → rdA l j ≠ rdA l i) → EvQ (fun k => spec_l2Affixes.l0 k l ((i + 1 : Nat) : Int)) Q) (n : Nat) : ∀ m : Nat, m + n = i → (∀ j : Nat, j < m → rdA l j ≠ rdA l i) → EvQ (fun k => spec_l2Affixes.l1 k l (i : Int) (m : Int)) Q := by
  induction n with
  | zero =>
    intro m hm hb
    refine EvQ.succ (fun k => by rw [spec_l2Affixes.l1]) (EvQ.neg (by omega) ?_)
    rw [w64 (by omega) (by omega)]
    exact hc fun j hj => hb j (by omega)
  | succ n ih =>
    intro m hm hb
    refine EvQ.succ (fun k => by rw [spec_l2Affixes.l1]) (EvQ.pos (by omega) (EvQ.pos (by omega) (EvQ.pos (by omega) (EvQ.pos (by omega) (EvQ.pos (by omega) (EvQ.both (fun h => EvQ.pure ?_) (fun h => ?_)))))))
    · exact hQ ⟨m, by omega, (eqA _ _).1 h⟩
    · rw [w64 (by omega) (by omega)]
      refine ih (m + 1) (by omega) fun j hj => ?_
      rcases Nat.lt_or_ge j m with h1 | h1
      · exact hb j h1
      · obtain rfl : j = m := by omega
        exact fun e => h ((eqA _ _).2 e)
theorem specAffs_loop (l : List SAff) (hl : l.length ≤ 2097152) (hs : ∀ i : Nat, i < l.length → SmallA (rdA l i)) (n : Nat) : ∀ i : Nat, i + n = l.length →
    EvQ (fun k => spec_l2Affixes.l0 k l (i : Int)) (fun r => r = true ↔ From l.length (AffAt l) i ∧ l.length ≤ 8) := by
  induction n with
  | zero =>
    intro i hi
    refine EvQ.succ (fun k => by rw [spec_l2Affixes.l0]) (EvQ.neg (by omega) (EvQ.pure ?_))
    rw [decide_eq_true_iff]
    exact ⟨fun h => ⟨From.last (by omega), by omega⟩, fun h => by have := h.2; omega⟩
  | succ n ih =>
    intro i hi
    refine EvQ.succ (fun k => by rw [spec_l2Affixes.l0]) (EvQ.pos (by omega) (EvQ.pos (by omega) ?_))
    rw [From.step (by omega)]
    refine EvQ.bind (specAff_ev _ (hs i (by omega))) fun r er => EvQ.both (fun g => ?_) (fun g => EvQ.pure (no_true fun h => g (er.2 h.1.1.1)))
    refine specAffs_in l hl i (by omega) _ (fun ⟨j, h1, h2⟩ => no_true fun h => h.1.1.2 j h1 h2) (fun hb => ?_) i 0 (by omega) (fun j hj => by omega)
    refine (ih (i + 1) (by omega)).imp fun r hr => ?_
    rw [hr]
    exact ⟨fun h => ⟨⟨⟨er.1 g, hb⟩, h.1⟩, h.2⟩, fun h => ⟨h.1.2, h.2⟩⟩
theorem specAffs_ev (l : List SAff) (hl : l.length ≤ 2097152) (hs : ∀ i : Nat, i < l.length → SmallA (rdA l i)) : EvQ (fun k => spec_l2Affixes.f k l) (fun r => r = true ↔ AffsP l) := by
  unfold spec_l2Affixes.f
  exact specAffs_loop l hl hs l.length 0 (by omega)

/-! ### Entries -/
theorem bt_one (a : ByteArray) (i : Nat) (hi : i < a.size) : bt (a.extract i (i + 1)) 0 = bt a i := by
  have h1 : (a.extract i (i + 1)).size = 1 := by rw [ByteArray.size_extract]; omega
  unfold bt
  have e : ((i : Int)).toNat = i := rfl
  simp only [Int.toNat_zero, e]
  rw [dif_pos (by omega), dif_pos hi]
  simp [ByteArray.getElem_eq_getElem_data, ByteArray.data_extract]
def SmallE (e : SEnt) : Prop := e.f0.size ≤ 2097152 ∧ e.f1.size ≤ 2097152
/-- A flag of an entry: a capital letter, behind the one before it. -/
def FlagAt (s : ByteArray) (i : Nat) : Prop := (65 ≤ bt s i ∧ bt s i ≤ 90) ∧ (0 < i → bt s ((i : Int) - 1) < bt s i)
def EntP (e : SEnt) : Prop := From e.f1.size (FlagAt e.f1) 0 ∧ IsWord e.f0 ∧ e.f1.size ≤ 4
theorem implEnt_loop (a b : ByteArray) (ha : a.size ≤ 2097152) (hb : b.size ≤ 2097152) (n : Nat) : ∀ i : Nat, i + n = b.size →
    EvQ (fun k => impl_entryOk.l0 k (b.size : Int) (i : Int) a b) (fun r => r = true ↔ From b.size (FlagAt b) i ∧ IsWord a ∧ b.size ≤ 4) := by
  induction n with
  | zero =>
    intro i hi
    refine EvQ.succ (fun k => by rw [impl_entryOk.l0]) (EvQ.neg (by omega) ?_)
    refine EvQ.bind (implWord_ev a ha) fun r er => EvQ.both (fun g => EvQ.pure ?_) (fun g => EvQ.pure (no_true fun h => g (er.2 h.2.1)))
    rw [decide_eq_true_iff]
    exact ⟨fun h => ⟨From.last (by omega), er.1 g, by omega⟩, fun h => by have := h.2.2; omega⟩
  | succ n ih =>
    intro i hi
    refine EvQ.succ (fun k => by rw [impl_entryOk.l0]) (EvQ.pos (by omega) (EvQ.pos (by omega) (EvQ.pos (by omega) ?_)))
    rw [upper_ev, From.step (by omega)]
    refine EvQ.some_bind (EvQ.both (fun g => ?_) (fun g => EvQ.pure (no_true fun h => g (decide_eq_true h.1.1.1))))
    rw [decide_eq_true_iff] at g
    have go : (0 < i → bt b ((i : Int) - 1) < bt b i) → EvQ (fun k => impl_entryOk.l0 k (b.size : Int) (wrap64 ((i : Int) + 1)) a b) (fun r => r = true ↔ (FlagAt b i ∧ From b.size (FlagAt b) (i + 1)) ∧ IsWord a ∧ b.size ≤ 4) := by
      intro h0
      rw [w64 (by omega) (by omega)]
      refine (ih (i + 1) (by omega)).imp fun r hr => ?_
      rw [hr]
      exact ⟨fun h => ⟨⟨⟨g, h0⟩, h.1⟩, h.2⟩, fun h => ⟨h.1.2, h.2⟩⟩
    refine EvQ.both (fun h1 => ?_) (fun h1 => go fun h => by omega)
    have e1 : wrap64 ((i : Int) - 1) = (i : Int) - 1 := w64 (by omega) (by omega)
    rw [e1]
    refine EvQ.pos (by omega) (EvQ.pos (by omega) (EvQ.both (fun h2 => EvQ.pure (no_true fun h => ?_)) (fun h2 => go fun _ => by omega)))
    have := h.1.1.2 (by omega)
    omega
theorem implEnt_ev (e : SEnt) (h : SmallE e) : EvQ (fun k => impl_entryOk.f k e.f0 e.f1) (fun r => r = true ↔ EntP e) := by
  unfold impl_entryOk.f
  exact implEnt_loop e.f0 e.f1 h.1 h.2 e.f1.size 0 (by omega)
theorem specEnt_loop (a b : ByteArray) (ha : a.size ≤ 2097152) (hb : b.size ≤ 2097152) (n : Nat) : ∀ i : Nat, i + n = b.size →
    EvQ (fun k => spec_l2Entry.l0 k (i : Int) a b) (fun r => r = true ↔ From b.size (FlagAt b) i ∧ IsWord a ∧ b.size ≤ 4) := by
  induction n with
  | zero =>
    intro i hi
    refine EvQ.succ (fun k => by rw [spec_l2Entry.l0]) (EvQ.neg (by omega) ?_)
    refine EvQ.bind (specWord_ev a ha) fun r er => EvQ.both (fun g => EvQ.pure ?_) (fun g => EvQ.pure (no_true fun h => g (er.2 h.2.1)))
    rw [decide_eq_true_iff]
    exact ⟨fun h => ⟨From.last (by omega), er.1 g, by omega⟩, fun h => by have := h.2.2; omega⟩
  | succ n ih =>
    intro i hi
    have e2 : wrap64 ((i : Int) + 1) = (i : Int) + 1 := w64 (by omega) (by omega)
    refine EvQ.succ (fun k => by rw [spec_l2Entry.l0]) ?_
    rw [e2, From.step (by omega)]
    refine EvQ.pos (by omega) (EvQ.pos (by omega) (EvQ.pos (by omega) (EvQ.pos (by omega) ?_)))
    have e3 : (i : Int).toNat = i := rfl
    have e4 : ((i : Int) + 1).toNat = i + 1 := by omega
    rw [e3, e4, flag_ev]
    have hfl : IsFlag (b.extract i (i + 1)) ↔ 65 ≤ bt b i ∧ bt b i ≤ 90 := by
      unfold IsFlag
      rw [bt_one b i (by omega)]
      exact ⟨fun h => h.2, fun h => ⟨by rw [ByteArray.size_extract]; omega, h⟩⟩
    refine EvQ.some_bind (EvQ.both (fun g => ?_) (fun g => EvQ.pure (no_true fun h => g (decide_eq_true (hfl.2 h.1.1.1)))))
    rw [decide_eq_true_iff, hfl] at g
    have go : (0 < i → bt b ((i : Int) - 1) < bt b i) → EvQ (fun k => spec_l2Entry.l0 k ((i : Int) + 1) a b) (fun r => r = true ↔ (FlagAt b i ∧ From b.size (FlagAt b) (i + 1)) ∧ IsWord a ∧ b.size ≤ 4) := by
      intro h0
      refine (ih (i + 1) (by omega)).imp fun r hr => ?_
      rw [hr]
      exact ⟨fun h => ⟨⟨⟨g, h0⟩, h.1⟩, h.2⟩, fun h => ⟨h.1.2, h.2⟩⟩
    refine EvQ.both (fun h1 => ?_) (fun h1 => go fun h => by omega)
    have e1 : wrap64 ((i : Int) - 1) = (i : Int) - 1 := w64 (by omega) (by omega)
    rw [e1]
    refine EvQ.pos (by omega) (EvQ.pos (by omega) (EvQ.both (fun h2 => EvQ.pure (no_true fun h => ?_)) (fun h2 => go fun _ => by omega)))
    have := h.1.1.2 (by omega)
    omega
theorem specEnt_ev (e : SEnt) (h : SmallE e) : EvQ (fun k => spec_l2Entry.f k e.f0 e.f1) (fun r => r = true ↔ EntP e) := by
  unfold spec_l2Entry.f
  exact specEnt_loop e.f0 e.f1 h.1 h.2 e.f1.size 0 (by omega)

/-! ### Books -/
/-- One text stands ahead of another. -/
def ltB (a b : ByteArray) : Prop := Op.bytesLess a.toList b.toList = true
def EntAt (l : List SEnt) (i : Nat) : Prop := EntP (rdE l i) ∧ (0 < i → ltB (rdE l ((i : Int) - 1)).f0 (rdE l i).f0)
def BookP (l0 : List SAff) (l1 : List SEnt) : Prop := (From l1.length (EntAt l1) 0 ∧ l1.length ≤ 24) ∧ AffsP l0
structure SmallB (l0 : List SAff) (l1 : List SEnt) : Prop where
  la : l0.length ≤ 2097152
  le : l1.length ≤ 2097152
  sa : ∀ i : Nat, i < l0.length → SmallA (rdA l0 i)
  se : ∀ i : Nat, i < l1.length → SmallE (rdE l1 i)
theorem implEnts_loop (l : List SEnt) (hl : l.length ≤ 2097152) (hs : ∀ i : Nat, i < l.length → SmallE (rdE l i)) (n : Nat) : ∀ i : Nat, i + n = l.length →
    EvQ (fun k => impl_entriesOk.l0 k l l (l.length : Int) (i : Int)) (fun r => r = true ↔ From l.length (EntAt l) i ∧ l.length ≤ 24) := by
  induction n with
  | zero =>
    intro i hi
    refine EvQ.succ (fun k => by rw [impl_entriesOk.l0]) (EvQ.neg (by omega) (EvQ.pure ?_))
    rw [decide_eq_true_iff]
    exact ⟨fun h => ⟨From.last (by omega), by omega⟩, fun h => by have := h.2; omega⟩
  | succ n ih =>
    intro i hi
    refine EvQ.succ (fun k => by rw [impl_entriesOk.l0]) (EvQ.pos (by omega) (EvQ.pos (by omega) (EvQ.pos (by omega) ?_)))
    rw [From.step (by omega)]
    refine EvQ.bind (implEnt_ev _ (hs i (by omega))) fun r er => EvQ.both (fun g => ?_) (fun g => EvQ.pure (no_true fun h => g (er.2 h.1.1.1)))
    have go : (0 < i → ltB (rdE l ((i : Int) - 1)).f0 (rdE l i).f0) → EvQ (fun k => impl_entriesOk.l0 k l l (l.length : Int) (wrap64 ((i : Int) + 1))) (fun r => r = true ↔ (EntAt l i ∧ From l.length (EntAt l) (i + 1)) ∧ l.length ≤ 24) := by
      intro h0
      rw [w64 (by omega) (by omega)]
      refine (ih (i + 1) (by omega)).imp fun r hr => ?_
      rw [hr]
      exact ⟨fun h => ⟨⟨⟨er.1 g, h0⟩, h.1⟩, h.2⟩, fun h => ⟨h.1.2, h.2⟩⟩
    refine EvQ.both (fun h1 => ?_) (fun h1 => go fun h => by omega)
    have e1 : wrap64 ((i : Int) - 1) = (i : Int) - 1 := w64 (by omega) (by omega)
    rw [e1]
    exact EvQ.pos (by omega) (EvQ.pos (by omega) (EvQ.both (fun h2 => go fun _ => h2) (fun h2 => EvQ.pure (no_true fun h => h2 (h.1.1.2 (by omega))))))
theorem implBook_ev {l0 : List SAff} {l1 : List SEnt} (h : SmallB l0 l1) : EvQ (fun k => impl_BookOk.f k l0 l1) (fun r => r = true ↔ BookP l0 l1) := by
  unfold impl_BookOk.f impl_entriesOk.f
  refine EvQ.bind (implAffs_ev l0 h.la h.sa) fun r er => EvQ.both (fun g => ?_) (fun g => EvQ.pure (no_true fun p => g (er.2 p.2)))
  refine EvQ.bind (implEnts_loop l1 h.le h.se l1.length 0 (by omega)) fun u eu => EvQ.pure ?_
  rw [eu]
  exact ⟨fun p => ⟨p, er.1 g⟩, fun p => p.1⟩
theorem specBook_loop {l0 : List SAff} {l : List SEnt} (h : SmallB l0 l) (n : Nat) : ∀ i : Nat, i + n = l.length →
    EvQ (fun k => spec_BookOk.l0 k (i : Int) l0 l) (fun r => r = true ↔ (From l.length (EntAt l) i ∧ l.length ≤ 24) ∧ AffsP l0) := by
  have hl := h.le
  induction n with
  | zero =>
    intro i hi
    refine EvQ.succ (fun k => by rw [spec_BookOk.l0]) (EvQ.neg (by omega) ?_)
    refine EvQ.bind (specAffs_ev l0 h.la h.sa) fun r er => EvQ.both (fun g => EvQ.pure ?_) (fun g => EvQ.pure (no_true fun p => g (er.2 p.2)))
    rw [decide_eq_true_iff]
    exact ⟨fun p => ⟨⟨From.last (by omega), by omega⟩, er.1 g⟩, fun p => by have := p.1.2; omega⟩
  | succ n ih =>
    intro i hi
    refine EvQ.succ (fun k => by rw [spec_BookOk.l0]) (EvQ.pos (by omega) (EvQ.pos (by omega) ?_))
    rw [From.step (by omega)]
    refine EvQ.bind (specEnt_ev _ (h.se i (by omega))) fun r er => EvQ.both (fun g => ?_) (fun g => EvQ.pure (no_true fun p => g (er.2 p.1.1.1.1)))
    have go : (0 < i → ltB (rdE l ((i : Int) - 1)).f0 (rdE l i).f0) → EvQ (fun k => spec_BookOk.l0 k (wrap64 ((i : Int) + 1)) l0 l) (fun r => r = true ↔ ((EntAt l i ∧ From l.length (EntAt l) (i + 1)) ∧ l.length ≤ 24) ∧ AffsP l0) := by
      intro h0
      rw [w64 (by omega) (by omega)]
      refine (ih (i + 1) (by omega)).imp fun r hr => ?_
      rw [hr]
      exact ⟨fun p => ⟨⟨⟨⟨er.1 g, h0⟩, p.1.1⟩, p.1.2⟩, p.2⟩, fun p => ⟨⟨p.1.1.2, p.1.2⟩, p.2⟩⟩
    refine EvQ.both (fun h1 => ?_) (fun h1 => go fun h => by omega)
    have e1 : wrap64 ((i : Int) - 1) = (i : Int) - 1 := w64 (by omega) (by omega)
    rw [e1]
    exact EvQ.pos (by omega) (EvQ.pos (by omega) (EvQ.both (fun h2 => go fun _ => h2) (fun h2 => EvQ.pure (no_true fun p => h2 (p.1.1.1.2 (by omega))))))
theorem specBook_ev {l0 : List SAff} {l1 : List SEnt} (h : SmallB l0 l1) : EvQ (fun k => spec_BookOk.f k l0 l1) (fun r => r = true ↔ BookP l0 l1) := by
  unfold spec_BookOk.f
  exact specBook_loop h l1.length 0 (by omega)
end Go.Proofs.Ytbopiacjioedeaa.P
/- Lists of texts in ascending order, each once: putting one in, sorting; two such lists of the same texts are one. -/
set_option linter.unusedVariables false
set_option linter.unusedSimpArgs false
namespace Go.Proofs.Ytbopiacjioedeaa.P
open Go.RowKit Go.Proofs.YtbopiacjioedeaaW.PrintWords Go.Proofs.YtbopiacjioedeaaW.PrintLast Go.Proofs.YtbopiacjioedeaaW.PrintMore

theorem ltB_iff (a b : ByteArray) : ltB a b ↔ chars a < chars b := by
  unfold ltB
  rw [bytesLess_eq, decide_eq_true_iff, Lib.toList_data, Lib.toList_data]
  exact Iff.rfl
theorem chars_inj {a b : ByteArray} : chars a = chars b ↔ a = b := by
  rw [← toList_inj, Lib.toList_data, Lib.toList_data]
  exact Iff.rfl
theorem ltB_irrefl (a : ByteArray) : ¬ ltB a a := by rw [ltB_iff]; exact List.lt_irrefl _
theorem ltB_trans {a b c : ByteArray} (h : ltB a b) (k : ltB b c) : ltB a c := by
  rw [ltB_iff] at *
  exact List.lt_trans h k
theorem ltB_of {a b : ByteArray} (h : ¬ ltB a b) (k : a ≠ b) : ltB b a := by
  rw [ltB_iff] at *
  exact Std.lt_of_le_of_ne (List.not_lt.1 h) (fun e => k (chars_inj.1 e.symm))
theorem ltB_asymm {a b : ByteArray} (h : ltB a b) : ¬ ltB b a := fun k => ltB_irrefl a (ltB_trans h k)

/-- Ascending, each once. -/
def Asc (l : List ByteArray) : Prop := l.Pairwise ltB
/-- Two such lists of the same texts are one. -/
theorem Asc.ext {a : List ByteArray} : ∀ {b : List ByteArray}, Asc a → Asc b → (∀ x, x ∈ a ↔ x ∈ b) → a = b := by
  induction a with
  | nil =>
    intro b _ _ h
    cases b with
    | nil => rfl
    | cons y b => exact absurd ((h y).2 List.mem_cons_self) (by simp)
  | cons x a ih =>
    intro b ha hb h
    cases b with
    | nil => exact absurd ((h x).1 List.mem_cons_self) (by simp)
    | cons y b =>
      obtain ⟨ha1, ha2⟩ := List.pairwise_cons.1 ha
      obtain ⟨hb1, hb2⟩ := List.pairwise_cons.1 hb
      have e : x = y := by
        rcases List.mem_cons.1 ((h x).1 List.mem_cons_self) with e | e
        · exact e
        · rcases List.mem_cons.1 ((h y).2 List.mem_cons_self) with e2 | e2
          · exact e2.symm
          · exact absurd (hb1 x e) (ltB_asymm (ha1 y e2))
      subst e
      congr 1
      refine ih ha2 hb2 fun z => ⟨fun hz => ?_, fun hz => ?_⟩
      · rcases List.mem_cons.1 ((h z).1 (List.mem_cons_of_mem _ hz)) with e | e
        · subst e; exact absurd (ha1 z hz) (ltB_irrefl z)
        · exact e
      · rcases List.mem_cons.1 ((h z).2 (List.mem_cons_of_mem _ hz)) with e | e
        · subst e; exact absurd (hb1 z hz) (ltB_irrefl z)
        · exact e

/-! ### One text more -/
theorem rdB_get (l : List ByteArray) (i : Nat) (h : i < l.length) : rdOf ByteArray.empty l (i : Int) = l[i] := by
  show l.getD i _ = _
  simp [List.getD_eq_getElem?_getD, h]
/-- What l1Put answers. -/
def PutQ (l : List ByteArray) (s : ByteArray) (r : List ByteArray) : Prop := (Asc r ∧ ∀ x, x ∈ r ↔ x ∈ l ∨ x = s) ∧ r.length ≤ l.length + 1
theorem put_mid {l : List ByteArray} {s : ByteArray} (hl : Asc l) (i : Nat) (hi : i ≤ l.length) (h1 : ∀ x ∈ l.take i, ltB x s) (h2 : ∀ x ∈ l.drop i, ltB s x) : PutQ l s ((([] ++ l.take i) ++ [s]) ++ l.drop i) := by
  refine ⟨⟨?_, fun x => ?_⟩, by simp; omega⟩
  · have h3 := hl
    rw [← List.take_append_drop i l] at h3
    obtain ⟨h4, h5, h6⟩ := List.pairwise_append.1 h3
    simp only [List.nil_append]
    refine List.pairwise_append.2 ⟨List.pairwise_append.2 ⟨h4, List.pairwise_singleton _ _, fun a ha b hb => ?_⟩, h5, fun a ha b hb => ?_⟩
    · rw [List.mem_singleton.1 hb]; exact h1 a ha
    · rcases List.mem_append.1 ha with ha | ha
      · exact h6 a ha b hb
      · rw [List.mem_singleton.1 ha]; exact h2 b hb
  · have h3 : x ∈ l ↔ x ∈ l.take i ∨ x ∈ l.drop i := by rw [← List.mem_append, List.take_append_drop]
    simp only [List.nil_append, List.mem_append, List.mem_singleton, h3]
    constructor
    · rintro ((h | h) | h)
      · exact .inl (.inl h)
      · exact .inr h
      · exact .inl (.inr h)
    · rintro ((h | h) | h)
      · exact .inl (.inl h)
      · exact .inr h
      · exact .inl (.inr h)
theorem put_loop (l : List ByteArray) (s : ByteArray) (hl : Asc l) (hn : l.length ≤ 2097152) (n : Nat) : ∀ i : Nat, i + n = l.length → (∀ x ∈ l.take i, ltB x s) →
    EvQ (fun k => spec_l1Put.l0 k l s (i : Int)) (PutQ l s) := by
  induction n with
  | zero =>
    intro i hi hb
    refine EvQ.succ (fun k => by rw [spec_l1Put.l0]) ?_
    refine EvQ.neg (by omega) (EvQ.some_bind ?_)
    refine EvQ.pos (by omega) (EvQ.pos (by omega) ?_)
    have e3 : (i : Int).toNat = i := rfl
    rw [e3]
    have hd : l.drop i = [] := List.drop_eq_nil_of_le (by omega)
    refine EvQ.pos (by simp; omega) (EvQ.some_bind (EvQ.some_bind (EvQ.pos (by simp; omega) (EvQ.some_bind (EvQ.pos (by simp; omega) (EvQ.pure ?_))))))
    exact put_mid hl i (by omega) hb (by rw [hd]; intro x hx; cases hx)
  | succ n ih =>
    intro i hi hb
    refine EvQ.succ (fun k => by rw [spec_l1Put.l0]) (EvQ.pos (by omega) (EvQ.pos (by omega) ?_))
    have e3 : (i : Int).toNat = i := rfl
    have hi' : i < l.length := by omega
    rw [rdB_get l i hi', e3]
    refine EvQ.both (fun h => ?_) (fun h => EvQ.both (fun h2 => EvQ.pure ?_) (fun h2 => ?_))
    · rw [w64 (by omega) (by omega)]
      refine ih (i + 1) (by omega) fun x hx => ?_
      rw [List.take_succ_eq_append_getElem hi'] at hx
      rcases List.mem_append.1 hx with hx | hx
      · exact hb x hx
      · rw [List.mem_singleton.1 hx]; exact h
    · obtain rfl := toList_inj.1 h2
      exact ⟨⟨hl, fun x => ⟨.inl, fun hx => hx.elim id (fun e => e ▸ List.getElem_mem hi')⟩⟩, by omega⟩
    · have h3 : ltB s l[i] := ltB_of h (fun e => h2 (toList_inj.2 e))
      refine EvQ.some_bind (EvQ.pos (by omega) (EvQ.pos (by simp; omega) (EvQ.some_bind (EvQ.some_bind (EvQ.pos (by simp; omega) (EvQ.some_bind (EvQ.pos (by simp; omega) (EvQ.pure ?_))))))))
      refine put_mid hl i (by omega) hb fun x hx => ?_
      rw [List.drop_eq_getElem_cons hi'] at hx
      rcases List.mem_cons.1 hx with rfl | hx
      · exact h3
      · have h4 : Asc (l.drop i) := List.Pairwise.sublist (List.drop_sublist i l) hl
        rw [List.drop_eq_getElem_cons hi'] at h4
        exact ltB_trans h3 ((List.pairwise_cons.1 h4).1 x hx)
theorem put_ev (l : List ByteArray) (s : ByteArray) (hl : Asc l) (hn : l.length ≤ 2097152) : EvQ (fun k => spec_l1Put.f k l s) (PutQ l s) := by
  unfold spec_l1Put.f
  exact put_loop l s hl hn l.length 0 (by omega) (by intro x hx; cases hx)

/-! ### Sorting -/
theorem compactUpTo_sorted (L : List (List UInt8)) (h : L.Pairwise (· ≤ ·)) (m : Nat) : m ≤ L.length →
    (Lib.compactUpTo L.toArray m).Pairwise (· < ·) ∧ ∀ x, x ∈ Lib.compactUpTo L.toArray m ↔ x ∈ L.take m := by
  induction m with
  | zero => intro _; simp [Lib.compactUpTo]
  | succ m ih =>
    intro hm
    obtain ⟨h1, h2⟩ := ih (by omega)
    have hg : L.toArray[m]! = L[m] := by simp [getElem!_pos, show m < L.length by omega]
    rw [Lib.compactUpTo_succ, List.take_succ_eq_append_getElem (by omega), hg]
    have hle : ∀ j (hj : j < m), L[j]'(by omega) ≤ L[m] := fun j hj => List.pairwise_iff_getElem.1 h j m (by omega) (by omega) hj
    by_cases hk : Lib.keeps L.toArray m = true
    · rw [hk]
      refine ⟨List.pairwise_append.2 ⟨h1, by simp, fun a ha b hb => ?_⟩, fun x => by rw [if_pos rfl, List.mem_append, List.mem_append, h2]⟩
      simp only [if_true, List.mem_singleton] at hb
      subst hb
      have hm0 : 0 < m := by
        rcases Nat.eq_zero_or_pos m with e | e
        · subst e; simp [Lib.compactUpTo] at ha
        · exact e
      have hne : L[m - 1]'(by omega) ≠ L[m] := by
        unfold Lib.keeps at hk
        rw [decide_eq_true_iff] at hk
        rcases hk with hk | hk
        · omega
        · rw [hg] at hk
          have hg2 : L.toArray[m - 1]! = L[m - 1]'(by omega) := by simp [getElem!_pos, show m - 1 < L.length by omega]
          rw [hg2] at hk
          exact fun e => hk e.symm
      have hlt : L[m - 1]'(by omega) < L[m] := Std.lt_of_le_of_ne (hle (m - 1) (by omega)) hne
      obtain ⟨j, hj, rfl⟩ := List.getElem_of_mem ((h2 a).1 ha)
      rw [List.length_take] at hj
      rw [List.getElem_take]
      rcases Nat.lt_or_ge j (m - 1) with h5 | h5
      · exact Std.lt_of_le_of_lt (List.pairwise_iff_getElem.1 h j (m - 1) (by omega) (by omega) h5) hlt
      · obtain rfl : j = m - 1 := by omega
        exact hlt
    · rw [Bool.not_eq_true] at hk
      rw [hk]
      have hm0 : m ≠ 0 ∧ L.toArray[m]! = L.toArray[m - 1]! := by
        unfold Lib.keeps at hk
        rw [decide_eq_false_iff_not] at hk
        exact ⟨fun e => hk (.inl e), Classical.byContradiction fun e => hk (.inr e)⟩
      have hg2 : L.toArray[m - 1]! = L[m - 1]'(by omega) := by simp [getElem!_pos, show m - 1 < L.length by omega]
      have hx : L[m] = L[m - 1]'(by omega) := by rw [← hg, ← hg2]; exact hm0.2
      refine ⟨by simpa using h1, fun x => ?_⟩
      simp only [Bool.false_eq_true, if_false, List.append_nil, h2, List.mem_append, List.mem_singleton]
      constructor
      · exact .inl
      · rintro (h3 | h3)
        · exact h3
        · rw [h3, hx]
          exact List.mem_take_iff_getElem.2 ⟨m - 1, by omega, rfl⟩
theorem text_inj {a b : List UInt8} (h : text a = text b) : a = b := by rw [← chars_text a, ← chars_text b, h]
/-- What sorted answers. -/
def SortQ (l r : List ByteArray) : Prop := (Asc r ∧ ∀ x, x ∈ r ↔ x ∈ l) ∧ r.length ≤ l.length
theorem sorted_ev (l : List ByteArray) (hn : l.length ≤ 1099511627776) : ∃ r, impl_sorted.f l = some r ∧ SortQ l r := by
  let L := (l.map chars).mergeSort fun x y => decide (x ≤ y)
  have hL : L.length = l.length := by simp [L]
  have e1 : (sortedT l).map chars = L := by
    unfold sortedT
    rw [List.map_map, show chars ∘ text = id from rfl, List.map_id]
  have hs : L.Pairwise (· ≤ ·) := by
    have := List.pairwise_mergeSort (le := fun x y : List UInt8 => decide (x ≤ y)) (fun a b c h1 h2 => by rw [decide_eq_true_iff] at *; exact List.le_trans h1 h2) (fun a b => by rw [Bool.or_eq_true, decide_eq_true_iff, decide_eq_true_iff]; exact List.le_total a b) (l.map chars)
    exact this.imp fun h => of_decide_eq_true h
  obtain ⟨h1, h2⟩ := compactUpTo_sorted L hs L.length (Nat.le_refl _)
  rw [List.take_length] at h2
  have hc : compactT (sortedT l) = (Lib.compact L).map text := by unfold compactT; rw [e1]
  have hcl : (compactT (sortedT l)).length ≤ l.length := by rw [hc, List.length_map, ← hL]; exact compact_le L
  refine ⟨compactT (sortedT l), ?_, ⟨?_, fun x => ?_⟩, hcl⟩
  · unfold impl_sorted.f
    simp only [Option.bind_some, List.nil_append, List.length_nil, Nat.zero_add]
    rw [if_pos (by omega)]
    unfold slices_Sort_string_string.f
    rw [if_pos (by omega)]
    simp only [Option.bind_some]
    unfold slices_Compact_string_string.f
    rw [if_pos (by rw [sortedT_length]; omega)]
    simp only [Option.bind_some]
    rw [if_pos (by omega)]
  · rw [hc]
    unfold Asc
    rw [List.pairwise_map]
    exact List.Pairwise.imp (fun h => by rw [ltB_iff]; exact h) h1
  · rw [hc, List.mem_map]
    constructor
    · rintro ⟨y, hy, rfl⟩
      have := List.mem_mergeSort.1 ((h2 y).1 hy)
      obtain ⟨z, hz, rfl⟩ := List.mem_map.1 this
      exact hz
    · intro hx
      exact ⟨chars x, (h2 _).2 (List.mem_mergeSort.2 (List.mem_map.2 ⟨x, hx, rfl⟩)), rfl⟩
end Go.Proofs.Ytbopiacjioedeaa.P
/- A flag among flags; an affix put to a stem: both sides say the same. -/
set_option linter.unusedVariables false
set_option linter.unusedSimpArgs false
namespace Go.Proofs.Ytbopiacjioedeaa.P
open Go.RowKit Go.Proofs.YtbopiacjioedeaaW.PrintWords Go.Proofs.YtbopiacjioedeaaW.PrintLast Go.Proofs.YtbopiacjioedeaaW.PrintMore

/-! ### Flags -/
theorem size_chars (a : ByteArray) : (chars a).length = a.size := rfl
theorem chars_ext (a : ByteArray) (i j : Nat) : chars (a.extract i j) = (chars a).extract i j := by
  unfold chars
  rw [ByteArray.data_extract, Array.toList_extract]
theorem ext_one (a : ByteArray) (i : Nat) (h : i < a.size) : chars (a.extract i (i + 1)) = [(chars a)[i]'h] := by
  rw [chars_ext]
  have e : (chars a).drop i = (chars a)[i]'h :: (chars a).drop (i + 1) := List.drop_eq_getElem_cons h
  rw [List.extract_eq_take_drop, e, Nat.add_sub_cancel_left]
  rfl
/-- A flag is among flags. -/
def HasF (s f : ByteArray) : Prop := ∃ c, chars f = [c] ∧ c ∈ chars s
theorem one_char {f : ByteArray} (h : f.size = 1) : ∃ c, chars f = [c] := by
  have h2 : (chars f).length = 1 := h
  match h3 : chars f with
  | [c] => exact ⟨c, rfl⟩
  | [] => rw [h3] at h2; cases h2
  | _ :: _ :: _ => rw [h3] at h2; simp at h2
theorem index_one (c : UInt8) (l : List UInt8) : -1 ≤ Lib.index l [c] ∧ (0 ≤ Lib.index l [c] ↔ c ∈ l) := by
  induction l with
  | nil => simp [Lib.index]
  | cons b l ih =>
    obtain ⟨h1, h2⟩ := ih
    unfold Lib.index
    by_cases h : c = b
    · subst h; simp [List.isPrefixOf]
    · have e : [c].isPrefixOf (b :: l) = false := by simp [List.isPrefixOf, h]
      rw [e]
      simp only [Bool.false_eq_true, if_false]
      by_cases h3 : Lib.index l [c] = -1
      · rw [h3]
        simp only [BEq.rfl, if_true]
        refine ⟨by omega, ⟨fun h4 => absurd h4 (by omega), fun h4 => ?_⟩⟩
        rcases List.mem_cons.1 h4 with h5 | h5
        · exact absurd h5 h
        · have := h2.2 h5; omega
      · rw [if_neg (by simpa using h3)]
        refine ⟨by omega, ⟨fun h4 => List.mem_cons_of_mem _ (h2.1 (by omega)), fun h4 => ?_⟩⟩
        rcases List.mem_cons.1 h4 with h5 | h5
        · exact absurd h5 h
        · have := h2.2 h5; omega
theorem contains_ev (s f : ByteArray) (hs : s.size ≤ 2097152) (hf : f.size = 1) : ∃ r, strings_Contains.f s f = some r ∧ (r = true ↔ HasF s f) := by
  obtain ⟨c, hc⟩ := one_char hf
  refine ⟨_, if_pos (by omega), ?_⟩
  have e : f.data.toList = [c] := hc
  rw [e]
  unfold Lib.contains HasF
  rw [decide_eq_true_iff, (index_one c _).2]
  exact ⟨fun h => ⟨c, hc, h⟩, fun ⟨d, h1, h2⟩ => by rw [hc] at h1; injection h1 with h1; subst h1; exact h2⟩
theorem has_loop (s f : ByteArray) (hs : s.size ≤ 2097152) (n : Nat) : ∀ i : Nat, i + n = s.size →
    EvQ (fun k => spec_l2Has.l0 k s f (i : Int)) (fun r => r = true ↔ ∃ j : Nat, i ≤ j ∧ j < s.size ∧ s.extract j (j + 1) = f) := by
  induction n with
  | zero =>
    intro i hi
    refine EvQ.succ (fun k => by rw [spec_l2Has.l0]) ?_
    exact EvQ.neg (by omega) (EvQ.pure (no_true fun ⟨j, h1, h2, _⟩ => by omega))
  | succ n ih =>
    intro i hi
    refine EvQ.succ (fun k => by rw [spec_l2Has.l0]) ?_
    have e2 : wrap64 ((i : Int) + 1) = ((i + 1 : Nat) : Int) := w64 (by omega) (by omega)
    rw [e2]
    refine EvQ.pos (by omega) (EvQ.pos (by omega) (EvQ.pos (by omega) (EvQ.pos (by omega) ?_)))
    have e3 : (i : Int).toNat = i := rfl
    have e4 : ((i + 1 : Nat) : Int).toNat = i + 1 := rfl
    rw [e3, e4]
    refine EvQ.both (fun h => EvQ.pure ⟨fun _ => ⟨i, Nat.le_refl _, by omega, toList_inj.1 h⟩, fun _ => rfl⟩) (fun h => ?_)
    refine (ih (i + 1) (by omega)).imp fun r hr => ?_
    rw [hr]
    constructor
    · rintro ⟨j, h1, h2, h3⟩; exact ⟨j, by omega, h2, h3⟩
    · rintro ⟨j, h1, h2, h3⟩
      rcases Nat.eq_or_lt_of_le h1 with rfl | h4
      · exact absurd (toList_inj.2 h3) h
      · exact ⟨j, h4, h2, h3⟩
theorem has_ev (s f : ByteArray) (hs : s.size ≤ 2097152) (hf : f.size = 1) : EvQ (fun k => spec_l2Has.f k s f) (fun r => r = true ↔ HasF s f) := by
  unfold spec_l2Has.f
  obtain ⟨c, hc⟩ := one_char hf
  refine (has_loop s f hs s.size 0 (by omega)).imp fun r hr => ?_
  rw [hr]
  constructor
  · rintro ⟨j, _, h2, h3⟩
    refine ⟨c, hc, ?_⟩
    have := ext_one s j h2
    rw [h3, hc] at this
    injection this with this
    rw [this]
    exact List.getElem_mem _
  · rintro ⟨d, h1, h2⟩
    obtain ⟨j, hj, h3⟩ := List.getElem_of_mem h2
    refine ⟨j, Nat.zero_le _, hj, chars_inj.1 ?_⟩
    rw [ext_one s j hj, h3, h1]

/-! ### An affix put to a stem -/
def fits (a : SAff) (s : ByteArray) : Bool := if a.f1 = true then beg s a.f4 else fin s a.f4
def put_ (a : SAff) (s : ByteArray) : ByteArray := if a.f1 = true then a.f3 ++ s.extract a.f2.size s.size else s.extract 0 (s.size - a.f2.size) ++ a.f3
/-- x comes of the stem s. -/
def DoP (a : SAff) (s x : ByteArray) : Prop := fits a s = true ∧ x = put_ a s ∧ IsWord x
theorem beg_le {a b : ByteArray} (h : beg a b = true) : b.size ≤ a.size := by
  unfold beg at h
  rw [Bool.and_eq_true, decide_eq_true_iff] at h
  exact h.1
theorem fin_le {a b : ByteArray} (h : fin a b = true) : b.size ≤ a.size := by
  unfold fin at h
  rw [Bool.and_eq_true, decide_eq_true_iff] at h
  exact h.1
theorem strip_le {a : SAff} (h : AffP a) : a.f2.size ≤ a.f4.size := by
  have := h.2.2
  split at this
  · exact beg_le this
  · exact fin_le this
def DoQ (a : SAff) (s : ByteArray) (r : ByteArray × Bool) : Prop := (r.2 = true → DoP a s r.1) ∧ (r.2 = false → ∀ x, ¬ DoP a s x)
theorem doQ_word {a : SAff} {s x : ByteArray} {u : Bool} (hf : fits a s = true) (hx : x = put_ a s) (hu : u = true ↔ IsWord x) : DoQ a s (x, u) := by
  refine ⟨fun h => ⟨hf, hx, hu.1 h⟩, fun h y hy => ?_⟩
  have : u = true := hu.2 (by rw [hx, ← hy.2.1]; exact hy.2.2)
  rw [show u = false from h] at this
  cases this
theorem doQ_no {a : SAff} {s x : ByteArray} (hf : ¬ fits a s = true) : DoQ a s (x, false) := ⟨fun h => (by cases h), fun _ y hy => hf hy.1⟩
theorem specDo_ev (a : SAff) (s : ByteArray) (ha : AffP a) (hs : s.size ≤ 1048576) : EvQ (fun k => spec_l2Do.f k a.f0 a.f1 a.f2 a.f3 a.f4 s) (DoQ a s) := by
  have h24 := strip_le ha
  have h3 := ha.2.1.2.1.2
  have h4 := ha.2.1.2.2.2
  unfold spec_l2Do.f
  rw [begins_ev, ends_ev _ _ (by omega) (by omega)]
  refine EvQ.both (fun hb => EvQ.some_bind ?_) (fun hb => EvQ.some_bind ?_)
  · have hfit : fits a s = beg s a.f4 := if_pos hb
    have hput : put_ a s = a.f3 ++ s.extract a.f2.size s.size := if_pos hb
    refine EvQ.both (fun hm => ?_) (fun hm => EvQ.pure (doQ_no (by rw [hfit]; exact hm)))
    have := beg_le hm
    refine EvQ.pos (by omega) (EvQ.pos (by omega) (EvQ.pos (by omega) ?_))
    refine EvQ.bind (specWord_ev _ (by rw [ByteArray.size_append, ByteArray.size_extract]; omega)) fun u hu => EvQ.pure (doQ_word (by rw [hfit]; exact hm) hput.symm hu)
  · have hfit : fits a s = fin s a.f4 := if_neg hb
    have hput : put_ a s = s.extract 0 (s.size - a.f2.size) ++ a.f3 := if_neg hb
    refine EvQ.both (fun hm => ?_) (fun hm => EvQ.pure (doQ_no (by rw [hfit]; exact hm)))
    have := fin_le hm
    have e1 : wrap64 ((s.size : Int) - (a.f2.size : Int)) = ((s.size - a.f2.size : Nat) : Int) := by rw [w64 (by omega) (by omega)]; omega
    have e2 : ((s.size - a.f2.size : Nat) : Int).toNat = s.size - a.f2.size := rfl
    rw [e1, e2]
    refine EvQ.pos (by omega) (EvQ.pos (by omega) (EvQ.pos (by omega) ?_))
    refine EvQ.bind (specWord_ev _ (by rw [ByteArray.size_append, ByteArray.size_extract]; omega)) fun u hu => EvQ.pure (doQ_word (by rw [hfit]; exact hm) hput.symm hu)
theorem affP_small {a : SAff} (ha : AffP a) : SmallA a := ⟨by have := ha.1.1; omega, by have := ha.2.1.1.2; omega, by have := ha.2.1.2.1.2; omega, by have := ha.2.1.2.2.2; omega⟩
theorem implDo_ev (a : SAff) (s : ByteArray) (ha : AffP a) (hw : IsWord s) : EvQ (fun k => impl_AffixDo.f k a.f0 a.f1 a.f2 a.f3 a.f4 s) (DoQ a s) := by
  have h24 := strip_le ha
  have h3 := ha.2.1.2.1.2
  have h4 := ha.2.1.2.2.2
  have hs := hw.1.2
  unfold impl_AffixDo.f
  refine EvQ.bind (implAff_ev a (affP_small ha)) fun r er => EvQ.pos (er.2 ha) ?_
  refine EvQ.bind (implWord_ev s (by omega)) fun u eu => ?_
  rw [eu.2 hw]
  refine EvQ.succ (fun k => by rw [impl_AffixDo.j0]) ?_
  refine EvQ.neg (by decide) ?_
  rw [prefix_ev, suffix_ev _ _ (by omega) (by omega)]
  have fin_ : ∀ {x : ByteArray} (hx : x = put_ a s) (hf : fits a s = true) (hz : x.size ≤ 2097152),
      EvQ (fun k => (impl_WordOk.f k x).bind fun t => (if t = true then (some (x, true)) else (some ((⟨#[]⟩ : ByteArray), false)))) (DoQ a s) := by
    intro x hx hf hz
    refine EvQ.bind (implWord_ev x hz) fun v hv => EvQ.both (fun g => EvQ.pure (doQ_word hf hx ⟨fun _ => hv.1 g, fun _ => rfl⟩)) (fun g => EvQ.pure ⟨fun h => (by cases h), fun _ y hy => g (hv.2 ?_)⟩)
    rw [hx, ← hy.2.1]; exact hy.2.2
  refine EvQ.both (fun hb => EvQ.some_bind ?_) (fun hb => EvQ.some_bind ?_)
  · have hfit : fits a s = beg s a.f4 := if_pos hb
    have hput : put_ a s = a.f3 ++ s.extract a.f2.size s.size := if_pos hb
    refine EvQ.both (fun hm => ?_) (fun hm => EvQ.pure (doQ_no (by rw [hfit]; exact hm)))
    have := beg_le hm
    refine EvQ.pos (by omega) (EvQ.pos (by omega) (EvQ.pos (by omega) ?_))
    exact fin_ hput.symm (by rw [hfit]; exact hm) (by rw [ByteArray.size_append, ByteArray.size_extract]; omega)
  · have hfit : fits a s = fin s a.f4 := if_neg hb
    have hput : put_ a s = s.extract 0 (s.size - a.f2.size) ++ a.f3 := if_neg hb
    refine EvQ.both (fun hm => ?_) (fun hm => EvQ.pure (doQ_no (by rw [hfit]; exact hm)))
    have := fin_le hm
    have e1 : wrap64 ((s.size : Int) - (a.f2.size : Int)) = ((s.size - a.f2.size : Nat) : Int) := by rw [w64 (by omega) (by omega)]; omega
    have e2 : ((s.size - a.f2.size : Nat) : Int).toNat = s.size - a.f2.size := rfl
    rw [e1, e2]
    refine EvQ.pos (by omega) (EvQ.pos (by omega) (EvQ.pos (by omega) ?_))
    exact fin_ hput.symm (by rw [hfit]; exact hm) (by rw [ByteArray.size_append, ByteArray.size_extract]; omega)
end Go.Proofs.Ytbopiacjioedeaa.P
/- All words of an entry: both sides make the same. -/
set_option linter.unusedVariables false
set_option linter.unusedSimpArgs false
namespace Go.Proofs.Ytbopiacjioedeaa.P
open Go.RowKit Go.Proofs.YtbopiacjioedeaaW.PrintWords Go.Proofs.YtbopiacjioedeaaW.PrintLast Go.Proofs.YtbopiacjioedeaaW.PrintMore

/-- The affix at a place is of this side, and among the flags. -/
def OneAt (l : List SAff) (fl : ByteArray) (front : Bool) (i : Nat) : Prop := (rdA l i).f1 = front ∧ HasF fl (rdA l i).f0
/-- x comes of one of the words, by one of the first n affixes. -/
def Got (l : List SAff) (fl : ByteArray) (front : Bool) (ws : List ByteArray) (n : Nat) (x : ByteArray) : Prop := ∃ i, i < n ∧ OneAt l fl front i ∧ ∃ s ∈ ws, DoP (rdA l i) s x
theorem Got.zero {l : List SAff} {fl : ByteArray} {front : Bool} {ws : List ByteArray} {x : ByteArray} : ¬ Got l fl front ws 0 x := fun ⟨_, h, _⟩ => by omega
theorem Got.succ {l : List SAff} {fl : ByteArray} {front : Bool} {ws : List ByteArray} {n : Nat} {x : ByteArray} : Got l fl front ws (n + 1) x ↔ Got l fl front ws n x ∨ (OneAt l fl front n ∧ ∃ s ∈ ws, DoP (rdA l n) s x) := by
  constructor
  · rintro ⟨i, h1, h2, h3⟩
    rcases Nat.lt_or_ge i n with h | h
    · exact .inl ⟨i, h, h2, h3⟩
    · obtain rfl : i = n := by omega
      exact .inr ⟨h2, h3⟩
  · rintro (⟨i, h1, h⟩ | h)
    · exact ⟨i, by omega, h⟩
    · exact ⟨n, by omega, h⟩
/-- What an entry makes at the end; and at the beginning of all that. -/
def InBase (l : List SAff) (e : SEnt) (x : ByteArray) : Prop := x = e.f0 ∨ Got l e.f1 false [e.f0] l.length x
def InForms (l : List SAff) (e : SEnt) (x : ByteArray) : Prop := InBase l e x ∨ ∃ i, i < l.length ∧ OneAt l e.f1 true i ∧ ∃ s, InBase l e s ∧ DoP (rdA l i) s x

section
variable {l : List SAff} {fl : ByteArray} (hA : AffsP l) (hfl : fl.size ≤ 4)
include hA hfl
omit hfl in
theorem aff_at {i : Nat} (hi : i < l.length) : AffP (rdA l i) := (hA.1 i (Nat.zero_le _) hi).1

/-! ### The specification's -/
def OneQ (l : List SAff) (fl : ByteArray) (front : Bool) (ws : List ByteArray) (r : List ByteArray) : Prop :=
  (Asc r ∧ ∀ x, x ∈ r ↔ x ∈ ws ∨ Got l fl front ws l.length x) ∧ r.length ≤ ws.length * (l.length + 1)
omit hfl in
theorem one_in (front : Bool) (ws : List ByteArray) (hw : ∀ s ∈ ws, IsWord s) (hwl : ws.length ≤ 100) (i : Nat) (hi : i < l.length) (ho : OneAt l fl front i)
    (hnext : ∀ o : List ByteArray, Asc o → (∀ x, x ∈ o ↔ x ∈ ws ∨ Got l fl front ws (i + 1) x) → o.length ≤ ws.length * (i + 1 + 1) → EvQ (fun k => spec_l2One.l0 k l fl front ws o ((i + 1 : Nat) : Int)) (OneQ l fl front ws)) (n : Nat) :
    ∀ (j : Nat) (o : List ByteArray), j + n = ws.length → Asc o → (∀ x, x ∈ o ↔ (x ∈ ws ∨ Got l fl front ws i x) ∨ ∃ s ∈ ws.take j, DoP (rdA l i) s x) → o.length ≤ ws.length * (i + 1) + j →
      EvQ (fun k => spec_l2One.l1 k l fl front ws o (i : Int) (j : Int)) (OneQ l fl front ws) := by
  have h8 := hA.2
  induction n with
  | zero =>
    intro j o hj ha hm hl
    refine EvQ.succ (fun k => by rw [spec_l2One.l1]) ?_
    refine EvQ.neg (by omega) ?_
    rw [w64 (by omega) (by omega)]
    refine hnext o ha (fun x => ?_) (by have : ws.length * (i + 1 + 1) = ws.length * (i + 1) + ws.length := Nat.mul_succ _ _
                                        omega)
    rw [hm, Got.succ, List.take_of_length_le (by omega)]
    constructor
    · rintro ((h | h) | h)
      · exact .inl h
      · exact .inr (.inl h)
      · exact .inr (.inr ⟨ho, h⟩)
    · rintro (h | h | ⟨_, h⟩)
      · exact .inl (.inl h)
      · exact .inl (.inr h)
      · exact .inr h
  | succ n ih =>
    intro j o hj ha hm hl
    have hj' : j < ws.length := by omega
    refine EvQ.succ (fun k => by rw [spec_l2One.l1]) ?_
    refine EvQ.pos (by omega) (EvQ.pos (by omega) (EvQ.pos (by omega) (EvQ.pos (by omega) ?_)))
    rw [rdB_get ws j hj']
    have hwj := hw _ (List.getElem_mem hj')
    have hb : ws.length * (i + 1) ≤ 100 * 8 := Nat.mul_le_mul hwl (by omega)
    have ht : ∀ x, (∃ s ∈ ws.take (j + 1), DoP (rdA l i) s x) ↔ (∃ s ∈ ws.take j, DoP (rdA l i) s x) ∨ DoP (rdA l i) ws[j] x := by
      intro x
      rw [List.take_succ_eq_append_getElem hj']
      constructor
      · rintro ⟨s, hs, h⟩
        rcases List.mem_append.1 hs with hs | hs
        · exact .inl ⟨s, hs, h⟩
        · rw [List.mem_singleton.1 hs] at h; exact .inr h
      · rintro (⟨s, hs, h⟩ | h)
        · exact ⟨s, List.mem_append_left _ hs, h⟩
        · exact ⟨_, List.mem_append_right _ (List.mem_singleton.2 rfl), h⟩
    refine EvQ.bind (specDo_ev (rdA l i) ws[j] (aff_at hA hi) (by have := hwj.1.2; omega)) fun u hu => EvQ.both (fun g => ?_) (fun g => ?_)
    · refine EvQ.bind (put_ev o u.1 ha (by omega)) fun o' ho' => ?_
      rw [w64 (by omega) (by omega)]
      have hd := hu.1 g
      refine ih (j + 1) o' (by omega) ho'.1.1 (fun x => ?_) (by have := ho'.2; omega)
      rw [ho'.1.2, hm, ht]
      constructor
      · rintro ((h | h) | h)
        · exact .inl h
        · exact .inr (.inl h)
        · exact .inr (.inr (h ▸ hd))
      · rintro (h | h | h)
        · exact .inl (.inl h)
        · exact .inl (.inr h)
        · exact .inr (h.2.1.trans hd.2.1.symm)
    · rw [w64 (by omega) (by omega)]
      have hd := hu.2 (by simpa using g)
      refine ih (j + 1) o (by omega) ha (fun x => ?_) (by omega)
      rw [hm, ht]
      constructor
      · rintro (h | h)
        · exact .inl h
        · exact .inr (.inl h)
      · rintro (h | h | h)
        · exact .inl h
        · exact .inr h
        · exact absurd h (hd x)
theorem one_loop (front : Bool) (ws : List ByteArray) (hw : ∀ s ∈ ws, IsWord s) (hwl : ws.length ≤ 100) (n : Nat) :
    ∀ (i : Nat) (o : List ByteArray), i + n = l.length → Asc o → (∀ x, x ∈ o ↔ x ∈ ws ∨ Got l fl front ws i x) → o.length ≤ ws.length * (i + 1) →
      EvQ (fun k => spec_l2One.l0 k l fl front ws o (i : Int)) (OneQ l fl front ws) := by
  have h8 := hA.2
  induction n with
  | zero =>
    intro i o hi ha hm hl
    obtain rfl : i = l.length := by omega
    refine EvQ.succ (fun k => by rw [spec_l2One.l0]) ?_
    exact EvQ.neg (by omega) (EvQ.pure ⟨⟨ha, hm⟩, hl⟩)
  | succ n ih =>
    intro i o hi ha hm hl
    have hi' : i < l.length := by omega
    refine EvQ.succ (fun k => by rw [spec_l2One.l0]) ?_
    refine EvQ.pos (by omega) (EvQ.pos (by omega) ?_)
    have skip : ¬ OneAt l fl front i → EvQ (fun k => spec_l2One.j1 k l fl front ws o (i : Int) true) (OneQ l fl front ws) := by
      intro hn
      refine EvQ.succ (fun k => by rw [spec_l2One.j1]) ?_
      refine EvQ.pos rfl ?_
      rw [w64 (by omega) (by omega)]
      refine ih (i + 1) o (by omega) ha (fun x => ?_) (Nat.le_trans hl (Nat.mul_le_mul_left _ (by omega)))
      rw [hm, Got.succ]
      exact ⟨fun h => h.imp id .inl, fun h => h.imp id (fun h => h.elim id (fun h => absurd h.1 hn))⟩
    refine EvQ.both (fun g => skip fun h => by rw [h.1] at g; simp at g) (fun g => ?_)
    have g1 : (rdA l i).f1 = front := by simpa using g
    refine EvQ.bind (has_ev fl (rdA l i).f0 (by omega) (aff_at hA hi').1.1) fun u hu => ?_
    cases u with
    | false => exact skip fun h => by cases hu.2 h.2
    | true =>
      have ho : OneAt l fl front i := ⟨g1, hu.1 rfl⟩
      refine EvQ.succ (fun k => by rw [spec_l2One.j1]) ?_
      refine EvQ.neg (by decide) ?_
      refine one_in hA front ws hw hwl i hi' ho (fun o' h1 h2 h3 => ih (i + 1) o' (by omega) h1 h2 h3) ws.length 0 o (by omega) ha (fun x => ?_) (by omega)
      rw [hm]
      simp
theorem one_ev (front : Bool) (ws : List ByteArray) (hs : Asc ws) (hw : ∀ s ∈ ws, IsWord s) (hwl : ws.length ≤ 100) : EvQ (fun k => spec_l2One.f k l fl front ws) (OneQ l fl front ws) := by
  unfold spec_l2One.f
  refine EvQ.some_bind (EvQ.pos (by simp; omega) ?_)
  rw [List.nil_append]
  exact one_loop hA hfl front ws hw hwl l.length 0 ws (by omega) hs (fun x => ⟨.inl, fun h => h.elim id (fun h => absurd h Got.zero)⟩) (by omega)
end
/-- What an entry's words are, as both sides tell them. -/
def FormsQ (l : List SAff) (e : SEnt) (r : List ByteArray) : Prop := (Asc r ∧ ∀ x, x ∈ r ↔ InForms l e x) ∧ r.length ≤ 81
theorem inBase_word {l : List SAff} {e : SEnt} (he : EntP e) {x : ByteArray} (h : InBase l e x) : IsWord x := by
  rcases h with rfl | ⟨_, _, _, _, _, h⟩
  · exact he.2.1
  · exact h.2.2
theorem specForms_ev {l : List SAff} (hA : AffsP l) (e : SEnt) (he : EntP e) : EvQ (fun k => spec_l2Forms.f k l e.f0 e.f1) (FormsQ l e) := by
  have h8 := hA.2
  have h4 := he.2.2
  unfold spec_l2Forms.f
  refine EvQ.bind (one_ev hA h4 false [e.f0] (List.pairwise_singleton _ _) (fun s hs => by rw [List.mem_singleton.1 hs]; exact he.2.1) (by simp)) fun w1 h1 => ?_
  have hm1 : ∀ x, x ∈ w1 ↔ InBase l e x := fun x => by rw [h1.1.2, List.mem_singleton]; exact Iff.rfl
  have hl1 : w1.length ≤ 9 := by have := h1.2; simp at this; omega
  refine EvQ.bind (one_ev hA h4 true w1 h1.1.1 (fun s hs => inBase_word he ((hm1 s).1 hs)) (by omega)) fun w2 h2 => EvQ.pure ⟨⟨h2.1.1, fun x => ?_⟩, ?_⟩
  · rw [h2.1.2, hm1]
    constructor
    · rintro (h | ⟨i, a, b, s, c, d⟩)
      · exact .inl h
      · exact .inr ⟨i, a, b, s, (hm1 s).1 c, d⟩
    · rintro (h | ⟨i, a, b, s, c, d⟩)
      · exact .inl h
      · exact .inr ⟨i, a, b, s, (hm1 s).2 c, d⟩
  · have := h2.2
    have h3 : w1.length * (l.length + 1) ≤ 9 * 9 := Nat.mul_le_mul hl1 (by omega)
    omega
end Go.Proofs.Ytbopiacjioedeaa.P
/- All words of an entry, the program's side; all words of a book, both sides. -/
set_option linter.unusedVariables false
set_option linter.unusedSimpArgs false
namespace Go.Proofs.Ytbopiacjioedeaa.P
open Go.RowKit Go.Proofs.YtbopiacjioedeaaW.PrintWords Go.Proofs.YtbopiacjioedeaaW.PrintLast Go.Proofs.YtbopiacjioedeaaW.PrintMore

section
variable {l : List SAff} {e : SEnt} (hA : AffsP l) (he : EntP e)
/-- x comes of s by the affix at a place, on this side. -/
def Step (l : List SAff) (e : SEnt) (f : Bool) (s : ByteArray) (i : Nat) (x : ByteArray) : Prop := OneAt l e.f1 f i ∧ (f = true ∨ s = e.f0) ∧ DoP (rdA l i) s x
include hA he
theorem aff_loop (F : List Bool) (m p : Int) (c : List ByteArray) (cl j : Int) (f : Bool) (s : ByteArray) (hs : IsWord s) (Q : List ByteArray → Prop) (n : Nat) :
    ∀ (i : Nat) (o : List ByteArray), i + n = l.length → o.length + n ≤ 2097152 →
      (∀ o' : List ByteArray, (∀ x, x ∈ o' ↔ x ∈ o ∨ ∃ i', i ≤ i' ∧ i' < l.length ∧ Step l e f s i' x) → o'.length ≤ o.length + n → EvQ (fun k => impl_Forms.l1 k l o' f F m p c cl (wrap64 (j + 1)) e.f0 e.f1) Q) →
      EvQ (fun k => impl_Forms.l2 k l o f s F m p c cl j l (l.length : Int) (i : Int) e.f0 e.f1) Q := by
  have h8 := hA.2
  have h4 := he.2.2
  induction n with
  | zero =>
    intro i o hi hl hn
    refine EvQ.succ (fun k => by rw [impl_Forms.l2]) ?_
    refine EvQ.neg (by omega) ?_
    exact hn o (fun x => ⟨.inl, fun h => h.elim id (fun ⟨i', h1, h2, _⟩ => by omega)⟩) (by omega)
  | succ n ih =>
    intro i o hi hl hn
    have hi' : i < l.length := by omega
    have w1 : wrap64 ((i : Int) + 1) = ((i + 1 : Nat) : Int) := w64 (by omega) (by omega)
    have skip : (∀ x, ¬ Step l e f s i x) → EvQ (fun k => impl_Forms.l2 k l o f s F m p c cl j l (l.length : Int) (wrap64 ((i : Int) + 1)) e.f0 e.f1) Q := by
      intro h0
      rw [w1]
      refine ih (i + 1) o (by omega) (by omega) fun o' ho' hl' => hn o' (fun x => ?_) (by omega)
      rw [ho']
      constructor
      · rintro (h | ⟨i', a, b, h⟩)
        · exact .inl h
        · exact .inr ⟨i', by omega, b, h⟩
      · rintro (h | ⟨i', a, b, h⟩)
        · exact .inl h
        · rcases Nat.eq_or_lt_of_le a with rfl | a
          · exact absurd h (h0 x)
          · exact .inr ⟨i', a, b, h⟩
    refine EvQ.succ (fun k => by rw [impl_Forms.l2]) ?_
    refine EvQ.pos (by omega) (EvQ.pos (by omega) (EvQ.pos (by omega) ?_))
    have skip4 : (∀ x, ¬ Step l e f s i x) → EvQ (fun k => impl_Forms.j4 k l o f s F m p c cl j l (l.length : Int) (i : Int) true e.f0 e.f1 (rdA l i).f0 (rdA l i).f1 (rdA l i).f2 (rdA l i).f3 (rdA l i).f4) Q := by
      intro h0
      refine EvQ.succ (fun k => by rw [impl_Forms.j4]) ?_
      exact EvQ.pos rfl (skip h0)
    have ha : AffP (rdA l i) := (hA.1 i (Nat.zero_le _) hi').1
    refine EvQ.both (fun g => skip4 fun x h => by rw [h.1.1] at g; simp at g) (fun g => ?_)
    have g1 : (rdA l i).f1 = f := by simpa using g
    obtain ⟨u, hu1, hu2⟩ := contains_ev e.f1 (rdA l i).f0 (by omega) ha.1.1
    rw [hu1]
    refine EvQ.some_bind ?_
    cases u with
    | false => exact skip4 fun x h => by cases hu2.2 h.1.2
    | true =>
      have ho : OneAt l e.f1 f i := ⟨g1, hu2.1 rfl⟩
      refine EvQ.succ (fun k => by rw [impl_Forms.j4]) ?_
      refine EvQ.neg (by decide) ?_
      have go : (f = true ∨ s = e.f0) → EvQ (fun k => impl_Forms.j5 k l o f s F m p c cl j l (l.length : Int) (i : Int) true e.f0 e.f1 (rdA l i).f0 (rdA l i).f1 (rdA l i).f2 (rdA l i).f3 (rdA l i).f4) Q := by
        intro hf
        refine EvQ.succ (fun k => by rw [impl_Forms.j5]) ?_
        refine EvQ.pos rfl ?_
        refine EvQ.bind (implDo_ev (rdA l i) s ha hs) fun u hu => EvQ.both (fun g => EvQ.pos (by omega) ?_) (fun g => skip fun x h => hu.2 (by simpa using g) x h.2.2)
        have hd := hu.1 g
        rw [w1]
        refine ih (i + 1) (o ++ [u.1]) (by omega) (by simp; omega) fun o' ho' hl' => hn o' (fun x => ?_) (by simp at hl'; omega)
        rw [ho', List.mem_append, List.mem_singleton]
        constructor
        · rintro ((h | h) | ⟨i', a, b, h⟩)
          · exact .inl h
          · exact .inr ⟨i, Nat.le_refl _, hi', ho, hf, h ▸ hd⟩
          · exact .inr ⟨i', by omega, b, h⟩
        · rintro (h | ⟨i', a, b, h⟩)
          · exact .inl (.inl h)
          · rcases Nat.eq_or_lt_of_le a with rfl | a
            · exact .inl (.inr (h.2.2.2.1.trans hd.2.1.symm))
            · exact .inr ⟨i', a, b, h⟩
      refine EvQ.both (fun hf => go (.inl hf)) (fun hf => ?_)
      by_cases hst : s = e.f0
      · rw [show (s.toList == e.f0.toList) = true by rw [beq_iff_eq, toList_inj]; exact hst]
        exact go (.inr hst)
      · rw [show (s.toList == e.f0.toList) = false by rw [beq_eq_false_iff_ne]; exact fun h => hst (toList_inj.1 h)]
        refine EvQ.succ (fun k => by rw [impl_Forms.j5]) ?_
        exact EvQ.neg (by decide) (skip fun x h => h.2.1.elim hf hst)
theorem stem_loop (F : List Bool) (m p : Int) (c : List ByteArray) (hc : ∀ s ∈ c, IsWord s) (hcl : c.length ≤ 100) (f : Bool) (Q : List ByteArray → Prop) (n : Nat) :
    ∀ (j : Nat) (o : List ByteArray), j + n = c.length → o.length + n * l.length ≤ 2097152 →
      (∀ o' : List ByteArray, (∀ x, x ∈ o' ↔ x ∈ o ∨ ∃ s ∈ c.drop j, ∃ i', i' < l.length ∧ Step l e f s i' x) → o'.length ≤ o.length + n * l.length → EvQ (fun k => impl_Forms.l0 k l o' F m (wrap64 (p + 1)) e.f0 e.f1) Q) →
      EvQ (fun k => impl_Forms.l1 k l o f F m p c (c.length : Int) (j : Int) e.f0 e.f1) Q := by
  induction n with
  | zero =>
    intro j o hj hl hn
    refine EvQ.succ (fun k => by rw [impl_Forms.l1]) ?_
    refine EvQ.neg (by omega) ?_
    exact hn o (fun x => ⟨.inl, fun h => h.elim id (fun ⟨s, h1, _⟩ => by rw [List.drop_eq_nil_of_le (by omega)] at h1; cases h1)⟩) (by omega)
  | succ n ih =>
    intro j o hj hl hn
    have hj' : j < c.length := by omega
    have hmul : (n + 1) * l.length = n * l.length + l.length := Nat.succ_mul _ _
    refine EvQ.succ (fun k => by rw [impl_Forms.l1]) ?_
    refine EvQ.pos (by omega) (EvQ.pos (by omega) (EvQ.pos (by omega) ?_))
    rw [rdB_get c j hj']
    refine aff_loop hA he F m p c (c.length : Int) (j : Int) f c[j] (hc _ (List.getElem_mem hj')) Q l.length 0 o (by omega) (by omega) fun o1 h1 hl1 => ?_
    rw [w64 (by omega) (by omega)]
    refine ih (j + 1) o1 (by omega) (by omega) fun o2 h2 hl2 => hn o2 (fun x => ?_) (by omega)
    rw [h2, h1, List.drop_eq_getElem_cons hj']
    constructor
    · rintro ((h | ⟨i', _, b, h⟩) | ⟨s, hs, h⟩)
      · exact .inl h
      · exact .inr ⟨_, List.mem_cons_self, i', b, h⟩
      · exact .inr ⟨s, List.mem_cons_of_mem _ hs, h⟩
    · rintro (h | ⟨s, hs, i', b, h⟩)
      · exact .inl (.inl h)
      · rcases List.mem_cons.1 hs with rfl | hs
        · exact .inl (.inr ⟨i', Nat.zero_le _, b, h⟩)
        · exact .inr ⟨s, hs, i', b, h⟩
theorem implForms_ev : EvQ (fun k => impl_Forms.f k l e.f0 e.f1) (FormsQ l e) := by
  have h8 := hA.2
  have h4 := he.2.2
  unfold impl_Forms.f
  refine EvQ.bind (implAffs_ev l (by omega) (fun i hi => affP_small (hA.1 i (Nat.zero_le _) hi).1)) fun r er => EvQ.pos (er.2 hA) ?_
  refine EvQ.bind (implEnt_ev e ⟨by have := he.2.1.1.2; omega, by omega⟩) fun u eu => ?_
  rw [eu.2 he]
  refine EvQ.succ (fun k => by rw [impl_Forms.j0]) ?_
  refine EvQ.neg (by decide) (EvQ.some_bind ?_)
  -- at the end
  refine EvQ.succ (fun k => by rw [impl_Forms.l0]) ?_
  refine EvQ.pos (by decide) (EvQ.pos (by decide) (EvQ.pos (by decide) (EvQ.some_bind ?_)))
  refine EvQ.pos (by simp) (EvQ.some_bind ?_)
  have hw0 : ∀ s ∈ [e.f0], IsWord s := fun s hs => by rw [List.mem_singleton.1 hs]; exact he.2.1
  refine stem_loop hA he [false, true] 2 0 ([] ++ [e.f0]) hw0 (by simp) false _ 1 0 [e.f0] rfl (by simp; omega) fun o1 h1 hl1 => ?_
  have hm1 : ∀ x, x ∈ o1 ↔ InBase l e x := by
    intro x
    rw [h1]
    simp only [List.nil_append, List.drop_zero, List.mem_singleton, exists_eq_left]
    constructor
    · rintro (h | ⟨i, a, h⟩)
      · exact .inl h
      · exact .inr ⟨i, a, h.1, _, List.mem_singleton.2 rfl, h.2.2⟩
    · rintro (h | ⟨i, a, b, s, c, h⟩)
      · exact .inl h
      · rw [List.mem_singleton.1 c] at h
        exact .inr ⟨i, a, b, .inr rfl, h⟩
  have hl1' : o1.length ≤ 9 := by simp at hl1; omega
  -- at the beginning
  rw [show wrap64 (0 + 1) = 1 from w64 (by decide) (by decide)]
  refine EvQ.succ (fun k => by rw [impl_Forms.l0]) ?_
  refine EvQ.pos (by decide) (EvQ.pos (by decide) (EvQ.pos (by decide) (EvQ.some_bind ?_)))
  refine EvQ.pos (by simp; omega) (EvQ.some_bind ?_)
  rw [List.nil_append]
  refine stem_loop hA he [false, true] 2 1 o1 (fun s hs => inBase_word he ((hm1 s).1 hs)) (by omega) true _ o1.length 0 o1 (by omega) (by have := Nat.mul_le_mul hl1' h8; omega) fun o2 h2 hl2 => ?_
  have hm2 : ∀ x, x ∈ o2 ↔ InForms l e x := by
    intro x
    rw [h2, List.drop_zero, hm1]
    constructor
    · rintro (h | ⟨s, hs, i, a, h⟩)
      · exact .inl h
      · exact .inr ⟨i, a, h.1, s, (hm1 s).1 hs, h.2.2⟩
    · rintro (h | ⟨i, a, b, s, hs, h⟩)
      · exact .inl h
      · exact .inr ⟨s, (hm1 s).2 hs, i, a, b, .inl rfl, h⟩
  have hl2' : o2.length ≤ 81 := by have := Nat.mul_le_mul hl1' h8; omega
  rw [show wrap64 (1 + 1) = 2 from w64 (by decide) (by decide)]
  refine EvQ.succ (fun k => by rw [impl_Forms.l0]) ?_
  refine EvQ.neg (by decide) ?_
  obtain ⟨r, hr, hq⟩ := sorted_ev o2 (by omega)
  rw [hr]
  exact EvQ.some_bind (EvQ.pure ⟨⟨hq.1.1, fun x => by rw [hq.1.2, hm2]⟩, by have := hq.2; omega⟩)
end

/-! ### Books -/
/-- A book's words. -/
def InBook (l0 : List SAff) (l1 : List SEnt) (n : Nat) (x : ByteArray) : Prop := ∃ i, i < n ∧ InForms l0 (rdE l1 i) x
def WordsQ (l0 : List SAff) (l1 : List SEnt) (r : List ByteArray) : Prop := (Asc r ∧ ∀ x, x ∈ r ↔ InBook l0 l1 l1.length x) ∧ r.length ≤ 2000
theorem InBook.succ {l0 : List SAff} {l1 : List SEnt} {n : Nat} {x : ByteArray} : InBook l0 l1 (n + 1) x ↔ InBook l0 l1 n x ∨ InForms l0 (rdE l1 n) x := by
  constructor
  · rintro ⟨i, h1, h2⟩
    rcases Nat.lt_or_ge i n with h | h
    · exact .inl ⟨i, h, h2⟩
    · obtain rfl : i = n := by omega
      exact .inr h2
  · rintro (⟨i, h1, h⟩ | h)
    · exact ⟨i, by omega, h⟩
    · exact ⟨n, by omega, h⟩
section
variable {l0 : List SAff} {l1 : List SEnt} (hB : BookP l0 l1)
include hB
theorem ent_at {i : Nat} (hi : i < l1.length) : EntP (rdE l1 i) := (hB.1.1 i (Nat.zero_le _) hi).1
theorem implWords_loop (n : Nat) : ∀ (i : Nat) (o : List ByteArray), i + n = l1.length → (∀ x, x ∈ o ↔ InBook l0 l1 i x) → o.length ≤ i * 81 →
    EvQ (fun k => impl_Book_words.l0 k o l1 (l1.length : Int) (i : Int) l0 l1) (WordsQ l0 l1) := by
  have h24 := hB.1.2
  induction n with
  | zero =>
    intro i o hi hm hl
    obtain rfl : i = l1.length := by omega
    refine EvQ.succ (fun k => by rw [impl_Book_words.l0]) ?_
    refine EvQ.neg (by omega) ?_
    obtain ⟨r, hr, hq⟩ := sorted_ev o (by omega)
    rw [hr]
    exact EvQ.some_bind (EvQ.pure ⟨⟨hq.1.1, fun x => by rw [hq.1.2, hm]⟩, by have := hq.2; omega⟩)
  | succ n ih =>
    intro i o hi hm hl
    refine EvQ.succ (fun k => by rw [impl_Book_words.l0]) ?_
    refine EvQ.pos (by omega) (EvQ.pos (by omega) (EvQ.pos (by omega) ?_))
    refine EvQ.bind (implForms_ev hB.2 (ent_at hB (by omega))) fun w hw => EvQ.pos (by have := hw.2; omega) ?_
    rw [w64 (by omega) (by omega)]
    refine ih (i + 1) (o ++ w) (by omega) (fun x => ?_) (by rw [List.length_append]; have := hw.2; omega)
    rw [List.mem_append, hm, hw.1.2, InBook.succ]
theorem implWords_ev : EvQ (fun k => impl_Book_words.f k l0 l1) (WordsQ l0 l1) := by
  unfold impl_Book_words.f
  exact implWords_loop hB l1.length 0 [] (by omega) (fun x => ⟨fun h => (by cases h), fun ⟨i, h, _⟩ => (by omega)⟩) (by simp)
theorem specWords_in (i : Nat) (hi : i < l1.length) (w : List ByteArray) (hw : w.length ≤ 81) (Q : List ByteArray → Prop)
    (hnext : ∀ o' : List ByteArray, Asc o' → (∀ x, x ∈ o' ↔ InBook l0 l1 i x ∨ x ∈ w) → o'.length ≤ i * 81 + 81 → EvQ (fun k => spec_l2Words.l0 k o' ((i + 1 : Nat) : Int) l0 l1) Q) (n : Nat) :
    ∀ (j : Nat) (o : List ByteArray), j + n = w.length → Asc o → (∀ x, x ∈ o ↔ InBook l0 l1 i x ∨ x ∈ w.take j) → o.length ≤ i * 81 + j → EvQ (fun k => spec_l2Words.l1 k o (i : Int) w (j : Int) l0 l1) Q := by
  have h24 := hB.1.2
  induction n with
  | zero =>
    intro j o hj ha hm hl
    refine EvQ.succ (fun k => by rw [spec_l2Words.l1]) ?_
    refine EvQ.neg (by omega) ?_
    rw [w64 (by omega) (by omega)]
    rw [List.take_of_length_le (by omega)] at hm
    exact hnext o ha hm (by omega)
  | succ n ih =>
    intro j o hj ha hm hl
    have hj' : j < w.length := by omega
    refine EvQ.succ (fun k => by rw [spec_l2Words.l1]) ?_
    refine EvQ.pos (by omega) (EvQ.pos (by omega) ?_)
    rw [rdB_get w j hj']
    refine EvQ.bind (put_ev o w[j] ha (by omega)) fun o' ho' => ?_
    rw [w64 (by omega) (by omega)]
    refine ih (j + 1) o' (by omega) ho'.1.1 (fun x => ?_) (by have := ho'.2; omega)
    rw [ho'.1.2, hm, List.take_succ_eq_append_getElem hj', List.mem_append, List.mem_singleton]
    exact or_assoc
theorem specWords_loop (n : Nat) : ∀ (i : Nat) (o : List ByteArray), i + n = l1.length → Asc o → (∀ x, x ∈ o ↔ InBook l0 l1 i x) → o.length ≤ i * 81 →
    EvQ (fun k => spec_l2Words.l0 k o (i : Int) l0 l1) (WordsQ l0 l1) := by
  have h24 := hB.1.2
  induction n with
  | zero =>
    intro i o hi ha hm hl
    obtain rfl : i = l1.length := by omega
    refine EvQ.succ (fun k => by rw [spec_l2Words.l0]) ?_
    exact EvQ.neg (by omega) (EvQ.pure ⟨⟨ha, hm⟩, by omega⟩)
  | succ n ih =>
    intro i o hi ha hm hl
    refine EvQ.succ (fun k => by rw [spec_l2Words.l0]) ?_
    refine EvQ.pos (by omega) (EvQ.pos (by omega) ?_)
    refine EvQ.bind (specForms_ev hB.2 _ (ent_at hB (by omega))) fun w hw => ?_
    refine specWords_in hB i (by omega) w hw.2 _ (fun o' h1 h2 h3 => ih (i + 1) o' (by omega) h1 (fun x => ?_) (by omega)) w.length 0 o (by omega) ha (fun x => ?_) (by omega)
    · rw [h2, hw.1.2, InBook.succ]
    · rw [hm]; simp
theorem specWords_ev : EvQ (fun k => spec_l2Words.f k l0 l1) (WordsQ l0 l1) := by
  unfold spec_l2Words.f
  exact specWords_loop hB l1.length 0 [] (by omega) List.Pairwise.nil (fun x => ⟨fun h => (by cases h), fun ⟨i, h, _⟩ => (by omega)⟩) (by simp)
/-- Both sides' words are the same list. -/
theorem words_ev : ∃ ws, WordsQ l0 l1 ws ∧ EvQ (fun k => impl_Book_words.f k l0 l1) (· = ws) ∧ EvQ (fun k => spec_l2Words.f k l0 l1) (· = ws) := by
  obtain ⟨ws, h1, h2⟩ := implWords_ev hB
  refine ⟨ws, h2, ⟨ws, h1, rfl⟩, (specWords_ev hB).imp fun r hr => ?_⟩
  exact Asc.ext hr.1.1 h2.1.1 (fun x => by rw [hr.1.2, h2.1.2])
end
end Go.Proofs.Ytbopiacjioedeaa.P
/- The parts of a compound: both sides tell the same; they are words of the book, long enough, and make the compound. -/
set_option linter.unusedVariables false
set_option linter.unusedSimpArgs false
namespace Go.Proofs.Ytbopiacjioedeaa.P
open Go.RowKit Go.Proofs.YtbopiacjioedeaaW.PrintWords Go.Proofs.YtbopiacjioedeaaW.PrintLast Go.Proofs.YtbopiacjioedeaaW.PrintMore

/-! ### Is a text among others -/
theorem index_loop (l : List ByteArray) (s : ByteArray) (hl : l.length ≤ 2097152) (n : Nat) : ∀ i : Nat, i + n = l.length →
    EvQ (fun k => slices_Index_string_string.l0 k l s (l.length : Int) (i : Int)) (fun r => r ≥ 0 ↔ s ∈ l.drop i) := by
  induction n with
  | zero =>
    intro i hi
    refine EvQ.succ (fun k => by rw [slices_Index_string_string.l0]) ?_
    refine EvQ.neg (by omega) (EvQ.pure ?_)
    rw [List.drop_eq_nil_of_le (by omega)]
    exact ⟨fun h => absurd h (by decide), fun h => by cases h⟩
  | succ n ih =>
    intro i hi
    have hi' : i < l.length := by omega
    refine EvQ.succ (fun k => by rw [slices_Index_string_string.l0]) ?_
    refine EvQ.pos (by omega) (EvQ.pos (by omega) (EvQ.pos (by omega) ?_))
    rw [rdB_get l i hi', List.drop_eq_getElem_cons hi']
    refine EvQ.both (fun h => EvQ.pure ⟨fun _ => List.mem_cons.2 (.inl (toList_inj.1 h)), fun _ => by omega⟩) (fun h => ?_)
    rw [w64 (by omega) (by omega)]
    refine (ih (i + 1) (by omega)).imp fun r hr => ?_
    rw [hr]
    exact ⟨fun h2 => List.mem_cons_of_mem _ h2, fun h2 => (List.mem_cons.1 h2).elim (fun e => absurd (toList_inj.2 e) h) id⟩
theorem containsB_ev (l : List ByteArray) (s : ByteArray) (hl : l.length ≤ 2097152) : EvQ (fun k => slices_Contains_string_string.f k l s) (fun r => r = true ↔ s ∈ l) := by
  unfold slices_Contains_string_string.f slices_Index_string_string.f
  refine EvQ.bind (index_loop l s hl l.length 0 (by omega)) fun r hr => EvQ.pure ?_
  rw [decide_eq_true_iff, hr, List.drop_zero]
theorem in_loop (l : List ByteArray) (s : ByteArray) (hl : l.length ≤ 2097152) (n : Nat) : ∀ i : Nat, i + n = l.length →
    EvQ (fun k => spec_l2In.l0 k l s (i : Int)) (fun r => r = true ↔ s ∈ l.drop i) := by
  induction n with
  | zero =>
    intro i hi
    refine EvQ.succ (fun k => by rw [spec_l2In.l0]) ?_
    refine EvQ.neg (by omega) (EvQ.pure ?_)
    rw [List.drop_eq_nil_of_le (by omega)]
    exact no_true (by simp)
  | succ n ih =>
    intro i hi
    have hi' : i < l.length := by omega
    refine EvQ.succ (fun k => by rw [spec_l2In.l0]) ?_
    refine EvQ.pos (by omega) (EvQ.pos (by omega) ?_)
    rw [rdB_get l i hi', List.drop_eq_getElem_cons hi']
    refine EvQ.both (fun h => EvQ.pure ⟨fun _ => List.mem_cons.2 (.inl (toList_inj.1 h).symm), fun _ => rfl⟩) (fun h => ?_)
    rw [w64 (by omega) (by omega)]
    refine (ih (i + 1) (by omega)).imp fun r hr => ?_
    rw [hr]
    exact ⟨fun h2 => List.mem_cons_of_mem _ h2, fun h2 => (List.mem_cons.1 h2).elim (fun e => absurd (toList_inj.2 e.symm) h) id⟩
theorem in_ev (l : List ByteArray) (s : ByteArray) (hl : l.length ≤ 2097152) : EvQ (fun k => spec_l2In.f k l s) (fun r => r = true ↔ s ∈ l) := by
  unfold spec_l2In.f
  refine (in_loop l s hl l.length 0 (by omega)).imp fun r hr => ?_
  rw [hr, List.drop_zero]

/-! ### Parts -/
open Classical in
/-- From a place on, so many places: the first part that is a word, and leaves what has parts. -/
noncomputable def cuts (ws : List ByteArray) (g : ByteArray → List ByteArray) (x : ByteArray) : Nat → Nat → List ByteArray
  | 0, _ => []
  | n + 1, k => if x.extract 0 k ∈ ws ∧ g (x.extract k x.size) ≠ [] then x.extract 0 k :: g (x.extract k x.size) else cuts ws g x n (k + 1)
open Classical in
/-- A text as so many words. -/
noncomputable def parts (ws : List ByteArray) : Nat → ByteArray → List ByteArray
  | 0 => fun _ => []
  | 1 => fun x => if x ∈ ws then [x] else []
  | m + 2 => fun x => cuts ws (parts ws (m + 1)) x (x.size - 5) 3
theorem cuts_pos {ws : List ByteArray} {g : ByteArray → List ByteArray} {x : ByteArray} {n k : Nat} (h : x.extract 0 k ∈ ws ∧ g (x.extract k x.size) ≠ []) : cuts ws g x (n + 1) k = x.extract 0 k :: g (x.extract k x.size) := by
  unfold cuts; exact if_pos h
theorem cuts_neg {ws : List ByteArray} {g : ByteArray → List ByteArray} {x : ByteArray} {n k : Nat} (h : ¬ (x.extract 0 k ∈ ws ∧ g (x.extract k x.size) ≠ [])) : cuts ws g x (n + 1) k = cuts ws g x n (k + 1) := by
  rw [cuts]; exact if_neg h
theorem cuts_length {ws : List ByteArray} {g : ByteArray → List ByteArray} {x : ByteArray} {b : Nat} (hg : ∀ y, (g y).length ≤ b) (n : Nat) : ∀ k, (cuts ws g x n k).length ≤ b + 1 := by
  induction n with
  | zero => intro k; simp [cuts]
  | succ n ih =>
    intro k
    unfold cuts
    split
    · simp [hg]
    · exact ih _
theorem parts_length {ws : List ByteArray} (m : Nat) : ∀ x, (parts ws m x).length ≤ m := by
  induction m with
  | zero => intro x; simp [parts]
  | succ m ih =>
    intro x
    cases m with
    | zero => unfold parts; split <;> simp
    | succ m => unfold parts; exact cuts_length ih _ _
theorem ext_size (x : ByteArray) (k : Nat) : (x.extract k x.size).size = x.size - k := by rw [ByteArray.size_extract]; omega

section
variable (ws : List ByteArray) (hws : ws.length ≤ 2000)
include hws
theorem divided_loop (x : ByteArray) (hx : x.size ≤ 2097152) (m : Nat) (hm : m ≤ 10) (hg : ∀ y : ByteArray, 3 ≤ y.size → y.size ≤ 2097152 → EvQ (fun k => impl_divided.f k ws y ((m + 1 : Nat) : Int)) (· = parts ws (m + 1) y)) (n : Nat) :
    ∀ k : Nat, 3 ≤ k → n = x.size - 2 - k → k ≤ 2097152 → EvQ (fun r => impl_divided.l0 r ws x ((m + 2 : Nat) : Int) (k : Int)) (· = cuts ws (parts ws (m + 1)) x n k) := by
  have e0 : wrap64 ((x.size : Int) - 3) = (x.size : Int) - 3 := w64 (by omega) (by omega)
  have e1 : wrap64 (((m + 2 : Nat) : Int) - 1) = ((m + 1 : Nat) : Int) := by rw [w64 (by omega) (by omega)]; omega
  induction n with
  | zero =>
    intro k hk hn hb
    refine EvQ.succ (fun r => by rw [impl_divided.l0]) ?_
    rw [e0]
    exact EvQ.neg (by omega) (EvQ.pure rfl)
  | succ n ih =>
    intro k hk hn hb
    refine EvQ.succ (fun r => by rw [impl_divided.l0]) ?_
    rw [e0, e1]
    have e3 : (k : Int).toNat = k := rfl
    rw [e3]
    refine EvQ.pos (by omega) (EvQ.pos (by omega) (EvQ.pos (by omega) ?_))
    have w1 : wrap64 ((k : Int) + 1) = ((k + 1 : Nat) : Int) := w64 (by omega) (by omega)
    rw [w1]
    refine EvQ.bind (containsB_ev ws (x.extract 0 k) (by omega)) fun u hu => EvQ.both (fun g => ?_) (fun g => ?_)
    · refine EvQ.bind (hg (x.extract k x.size) (by rw [ext_size]; omega) (by rw [ext_size]; omega)) fun t ht => ?_
      subst ht
      refine EvQ.both (fun h => ?_) (fun h => EvQ.some_bind ?_)
      · rw [cuts_neg (fun c => c.2 (List.eq_nil_of_length_eq_zero (by omega)))]
        exact ih (k + 1) (by omega) (by omega) (by omega)
      · rw [cuts_pos ⟨hu.1 g, fun c => h (by rw [c]; rfl)⟩]
        have := parts_length (ws := ws) (m + 1) (x.extract k x.size)
        exact EvQ.pos (by simp only [List.length_cons, List.length_nil]; omega) (EvQ.pure rfl)
    · rw [cuts_neg (fun c => g (hu.2 c.1))]
      exact ih (k + 1) (by omega) (by omega) (by omega)
theorem divided_ev (m : Nat) (hm : m ≤ 10) : ∀ x : ByteArray, 3 ≤ x.size ∨ 0 < m → x.size ≤ 2097152 → EvQ (fun k => impl_divided.f k ws x ((m + 1 : Nat) : Int)) (· = parts ws (m + 1) x) := by
  induction m with
  | zero =>
    intro x h3 hx
    refine EvQ.succ (fun k => by rw [impl_divided.f]) ?_
    refine EvQ.pos (by decide) (EvQ.pos (by omega) ?_)
    unfold parts
    refine EvQ.bind (containsB_ev ws x (by omega)) fun u hu => EvQ.both (fun g => ?_) (fun g => ?_)
    · rw [if_pos (hu.1 g)]; exact EvQ.pure rfl
    · rw [if_neg (fun c => g (hu.2 c))]; exact EvQ.pure rfl
  | succ m ih =>
    intro x h3 hx
    refine EvQ.succ (fun k => by rw [impl_divided.f]) ?_
    refine EvQ.neg (by omega) ?_
    exact divided_loop ws hws x hx m (by omega) (fun y h1 h2 => ih (by omega) y (.inl h1) h2) (x.size - 5) 3 (by omega) (by omega) (by omega)
theorem l10_loop (x : ByteArray) (hx : x.size ≤ 2097152) (m : Nat) (hm : m ≤ 10) (hg : ∀ y : ByteArray, y.size ≤ 2097152 → EvQ (fun k => spec_l10Parts.f k ws y ((m + 1 : Nat) : Int)) (· = parts ws (m + 1) y)) (n : Nat) :
    ∀ k : Nat, 3 ≤ k → n = x.size - 2 - k → k ≤ 2097152 → EvQ (fun r => spec_l10Parts.l0 r ws x ((m + 2 : Nat) : Int) (k : Int)) (· = cuts ws (parts ws (m + 1)) x n k) := by
  have e1 : wrap64 (((m + 2 : Nat) : Int) - 1) = ((m + 1 : Nat) : Int) := by rw [w64 (by omega) (by omega)]; omega
  induction n with
  | zero =>
    intro k hk hn hb
    refine EvQ.succ (fun r => by rw [spec_l10Parts.l0]) ?_
    rw [w64 (n := (k : Int) + 3) (by omega) (by omega)]
    exact EvQ.neg (by omega) (EvQ.pure rfl)
  | succ n ih =>
    intro k hk hn hb
    refine EvQ.succ (fun r => by rw [spec_l10Parts.l0]) ?_
    rw [w64 (n := (k : Int) + 3) (by omega) (by omega), e1]
    have e3 : (k : Int).toNat = k := rfl
    rw [e3]
    refine EvQ.pos (by omega) (EvQ.pos (by omega) (EvQ.pos (by omega) ?_))
    have w1 : wrap64 ((k : Int) + 1) = ((k + 1 : Nat) : Int) := w64 (by omega) (by omega)
    rw [w1]
    refine EvQ.bind (in_ev ws (x.extract 0 k) (by omega)) fun u hu => EvQ.both (fun g => ?_) (fun g => ?_)
    · refine EvQ.bind (hg (x.extract k x.size) (by rw [ext_size]; omega)) fun t ht => ?_
      subst ht
      refine EvQ.both (fun h => EvQ.some_bind ?_) (fun h => ?_)
      · rw [cuts_pos ⟨hu.1 g, fun c => by rw [c] at h; exact absurd h (by decide)⟩]
        have := parts_length (ws := ws) (m + 1) (x.extract k x.size)
        exact EvQ.pos (by simp only [List.length_cons, List.length_nil]; omega) (EvQ.pure rfl)
      · rw [cuts_neg (fun c => c.2 (List.eq_nil_of_length_eq_zero (by omega)))]
        exact ih (k + 1) (by omega) (by omega) (by omega)
    · rw [cuts_neg (fun c => g (hu.2 c.1))]
      exact ih (k + 1) (by omega) (by omega) (by omega)
theorem l10_ev (m : Nat) (hm : m ≤ 10) : ∀ x : ByteArray, x.size ≤ 2097152 → EvQ (fun k => spec_l10Parts.f k ws x ((m + 1 : Nat) : Int)) (· = parts ws (m + 1) x) := by
  induction m with
  | zero =>
    intro x hx
    refine EvQ.succ (fun k => by rw [spec_l10Parts.f]) ?_
    refine EvQ.pos (by decide) ?_
    unfold parts
    refine EvQ.bind (in_ev ws x (by omega)) fun u hu => EvQ.both (fun g => ?_) (fun g => ?_)
    · rw [if_pos (hu.1 g)]; exact EvQ.pure rfl
    · rw [if_neg (fun c => g (hu.2 c))]; exact EvQ.pure rfl
  | succ m ih =>
    intro x hx
    refine EvQ.succ (fun k => by rw [spec_l10Parts.f]) ?_
    refine EvQ.neg (by omega) ?_
    exact l10_loop ws hws x hx m (by omega) (fun y h2 => ih (by omega) y h2) (x.size - 5) 3 (by omega) (by omega) (by omega)
open Classical in
/-- Two parts, or else three. -/
noncomputable def partsOf (ws : List ByteArray) (x : ByteArray) : List ByteArray := if parts ws 2 x = [] then parts ws 3 x else parts ws 2 x
theorem l10Of_ev (x : ByteArray) (hx : x.size ≤ 2097152) : EvQ (fun k => spec_l10Of.f k ws x) (· = partsOf ws x) := by
  unfold spec_l10Of.f partsOf
  refine EvQ.bind (l10_ev ws hws 1 (by omega) x hx) fun t ht => ?_
  obtain rfl : t = parts ws 2 x := ht
  refine EvQ.both (fun h => ?_) (fun h => ?_)
  · rw [if_neg (fun c => by rw [c] at h; exact absurd h (by decide))]
    exact EvQ.pure rfl
  · rw [if_pos (List.eq_nil_of_length_eq_zero (by omega))]
    exact EvQ.bind (l10_ev ws hws 2 (by omega) x hx) fun t ht => EvQ.pure ht
theorem implParts_loop (x : ByteArray) (hx : x.size ≤ 2097152) : EvQ (fun k => impl_PartsOf.l0 k x ws 2) (· = partsOf ws x) := by
  refine EvQ.succ (fun k => by rw [impl_PartsOf.l0]) ?_
  refine EvQ.pos (by decide) ?_
  unfold partsOf
  refine EvQ.bind (divided_ev ws hws 1 (by omega) x (.inr (by omega)) hx) fun t ht => ?_
  obtain rfl : t = parts ws 2 x := ht
  refine EvQ.both (fun h => ?_) (fun h => ?_)
  · rw [if_pos (List.eq_nil_of_length_eq_zero (by omega)), show wrap64 (2 + 1) = 3 from w64 (by decide) (by decide)]
    refine EvQ.succ (fun k => by rw [impl_PartsOf.l0]) ?_
    refine EvQ.pos (by decide) ?_
    refine EvQ.bind (divided_ev ws hws 2 (by omega) x (.inr (by omega)) hx) fun t ht => ?_
    obtain rfl : t = parts ws 3 x := ht
    refine EvQ.both (fun h => ?_) (fun h => EvQ.pure rfl)
    rw [show wrap64 (3 + 1) = 4 from w64 (by decide) (by decide)]
    refine EvQ.succ (fun k => by rw [impl_PartsOf.l0]) ?_
    exact EvQ.neg (by decide) (EvQ.pure (List.eq_nil_of_length_eq_zero (by omega)).symm)
  · rw [if_neg (fun c => h (by rw [c]; rfl))]
    exact EvQ.pure rfl
end

/-! ### What parts are -/
theorem chars_append (a b : ByteArray) : chars (a ++ b) = chars a ++ chars b := by
  unfold chars
  rw [ByteArray.data_append, Array.toList_append]
/-- So many words of three letters at least, that make the text. -/
def PartsQ (ws : List ByteArray) (m : Nat) (x : ByteArray) (r : List ByteArray) : Prop := (r.length = m ∧ ∀ p ∈ r, p ∈ ws ∧ 3 ≤ p.size) ∧ r.flatMap chars = chars x
theorem cuts_q {ws : List ByteArray} {g : ByteArray → List ByteArray} {x : ByteArray} {m : Nat} (hg : ∀ y, 3 ≤ y.size → g y ≠ [] → PartsQ ws m y (g y)) (n : Nat) :
    ∀ k, 3 ≤ k → k + n ≤ x.size - 2 → cuts ws g x n k ≠ [] → PartsQ ws (m + 1) x (cuts ws g x n k) := by
  induction n with
  | zero => intro k _ _ h; exact absurd rfl h
  | succ n ih =>
    intro k hk hn h
    unfold cuts at h ⊢
    split
    · rename_i hc
      obtain ⟨⟨h1, h2⟩, h3⟩ := hg _ (by rw [ext_size]; omega) hc.2
      refine ⟨⟨by simp [h1], fun p hp => ?_⟩, ?_⟩
      · rcases List.mem_cons.1 hp with rfl | hp
        · exact ⟨hc.1, by rw [ByteArray.size_extract]; omega⟩
        · exact h2 p hp
      · rw [List.flatMap_cons, h3, chars_ext, chars_ext]
        simp only [List.extract_eq_take_drop, List.drop_zero, Nat.sub_zero]
        rw [List.take_of_length_le (l := (chars x).drop k) (by rw [List.length_drop, size_chars]; omega), List.take_append_drop]
    · rename_i hc
      rw [if_neg hc] at h
      exact ih (k + 1) (by omega) (by omega) h
theorem parts_q {ws : List ByteArray} (m : Nat) : ∀ x : ByteArray, (3 ≤ x.size ∨ 0 < m) → parts ws (m + 1) x ≠ [] → PartsQ ws (m + 1) x (parts ws (m + 1) x) := by
  induction m with
  | zero =>
    intro x h3 h
    unfold parts at h ⊢
    split
    · rename_i hc
      exact ⟨⟨rfl, fun p hp => by rw [List.mem_singleton.1 hp]; exact ⟨hc, by omega⟩⟩, by simp⟩
    · rename_i hc
      rw [if_neg hc] at h
      exact absurd rfl h
  | succ m ih =>
    intro x h3 h
    unfold parts at h ⊢
    rcases Nat.lt_or_ge x.size 6 with h6 | h6
    · rw [show x.size - 5 = 0 by omega] at h
      exact absurd rfl h
    · exact cuts_q (fun y h1 h2 => ih y (.inl h1) h2) _ _ (by omega) (by omega) h
theorem partsOf_q {ws : List ByteArray} {x : ByteArray} (h : partsOf ws x ≠ []) : PartsQ ws (partsOf ws x).length x (partsOf ws x) ∧ ((partsOf ws x).length = 2 ∨ (partsOf ws x).length = 3) := by
  unfold partsOf at h ⊢
  split
  · rename_i hc
    rw [if_pos hc] at h
    have := parts_q (ws := ws) 2 x (.inr (by omega)) h
    rw [this.1.1]
    exact ⟨this, .inr rfl⟩
  · rename_i hc
    have := parts_q (ws := ws) 1 x (.inr (by omega)) hc
    rw [this.1.1]
    exact ⟨this, .inl rfl⟩

/-- Both sides' answers are one; if it isn't none, it is parts of the book's words. -/
theorem partsOf_ev {l0 : List SAff} {l1 : List SEnt} (hS : SmallB l0 l1) (x : ByteArray) (hx : x.size ≤ 2097152) :
    ∃ ps, (EvQ (fun k => impl_PartsOf.f k l0 l1 x) (· = ps) ∧ EvQ (fun k => spec_PartsOf.f k l0 l1 x) (· = ps)) ∧ (ps ≠ [] → BookP l0 l1 ∧ ∃ ws, WordsQ l0 l1 ws ∧ EvQ (fun k => impl_Book_words.f k l0 l1) (· = ws) ∧ ps = partsOf ws x) := by
  have j1 : EvQ (fun k => impl_PartsOf.j0 k x true l0 l1) (· = []) := by
    refine EvQ.succ (fun k => by rw [impl_PartsOf.j0]) ?_
    exact EvQ.pos rfl (EvQ.pure rfl)
  have j2 : EvQ (fun k => spec_PartsOf.j0 k x true l0 l1) (· = []) := by
    refine EvQ.succ (fun k => by rw [spec_PartsOf.j0]) ?_
    exact EvQ.pos rfl (EvQ.pure rfl)
  by_cases hB : BookP l0 l1
  · by_cases hW : IsWord x
    · obtain ⟨ws, hq, h1, h2⟩ := words_ev hB
      refine ⟨partsOf ws x, ⟨?_, ?_⟩, fun _ => ⟨hB, ws, hq, h1, rfl⟩⟩
      · unfold impl_PartsOf.f
        refine EvQ.bind (implBook_ev hS) fun r er => EvQ.pos (er.2 hB) (EvQ.bind (implWord_ev x hx) fun u eu => ?_)
        rw [eu.2 hW]
        refine EvQ.succ (fun k => by rw [impl_PartsOf.j0]) ?_
        refine EvQ.neg (by decide) (EvQ.bind h1 fun t ht => ?_)
        subst ht
        exact implParts_loop t hq.2 x hx
      · unfold spec_PartsOf.f
        refine EvQ.bind (specBook_ev hS) fun r er => EvQ.pos (er.2 hB) (EvQ.bind (specWord_ev x hx) fun u eu => ?_)
        rw [eu.2 hW]
        refine EvQ.succ (fun k => by rw [spec_PartsOf.j0]) ?_
        refine EvQ.neg (by decide) (EvQ.bind h2 fun t ht => ?_)
        subst ht
        exact EvQ.bind (l10Of_ev t hq.2 x hx) fun t ht => EvQ.pure ht
    · refine ⟨[], ⟨?_, ?_⟩, fun h => absurd rfl h⟩
      · unfold impl_PartsOf.f
        refine EvQ.bind (implBook_ev hS) fun r er => EvQ.pos (er.2 hB) (EvQ.bind (implWord_ev x hx) fun u eu => ?_)
        cases u with
        | true => exact absurd (eu.1 rfl) hW
        | false => exact j1
      · unfold spec_PartsOf.f
        refine EvQ.bind (specBook_ev hS) fun r er => EvQ.pos (er.2 hB) (EvQ.bind (specWord_ev x hx) fun u eu => ?_)
        cases u with
        | true => exact absurd (eu.1 rfl) hW
        | false => exact j2
  · refine ⟨[], ⟨?_, ?_⟩, fun h => absurd rfl h⟩
    · unfold impl_PartsOf.f
      exact EvQ.bind (implBook_ev hS) fun r er => EvQ.neg (fun g => hB (er.1 g)) j1
    · unfold spec_PartsOf.f
      exact EvQ.bind (specBook_ev hS) fun r er => EvQ.neg (fun g => hB (er.1 g)) j2
end Go.Proofs.Ytbopiacjioedeaa.P
/- The plain law of FnExactPartsOf: both sides' answers are one; marks are told again as they were laid. -/
set_option linter.unusedVariables false
set_option linter.unusedSimpArgs false
namespace Go.Proofs.Ytbopiacjioedeaa.P
open Go.RowKit Go.Proofs.YtbopiacjioedeaaW.PrintWords Go.Proofs.YtbopiacjioedeaaW.PrintLast Go.Proofs.YtbopiacjioedeaaW.PrintMore

abbrev LAff := S83
abbrev LEnt := S85
abbrev rdLA := rd_T83
abbrev rdLE := rd_T85
theorem rdLA_get (l : List LAff) (i : Nat) (h : i < l.length) : rd_T83 l (i : Int) = l[i] := by
  show l.getD i _ = _
  simp [List.getD_eq_getElem?_getD, h]
theorem rdLE_get (l : List LEnt) (i : Nat) (h : i < l.length) : rd_T85 l (i : Int) = l[i] := by
  show l.getD i _ = _
  simp [List.getD_eq_getElem?_getD, h]

/-! ### Sizes -/
def BigA (a : LAff) : Prop := (a.f0.size ≤ 9223372036854775807 ∧ a.f2.size ≤ 9223372036854775807) ∧ a.f3.size ≤ 9223372036854775807 ∧ a.f4.size ≤ 9223372036854775807
def BigE (a : LEnt) : Prop := a.f0.size ≤ 9223372036854775807 ∧ a.f1.size ≤ 9223372036854775807
def SzA (a : LAff) : Prop := (a.f0.size ≤ 1048576 ∧ a.f2.size ≤ 1048576) ∧ a.f3.size ≤ 1048576 ∧ a.f4.size ≤ 1048576
def SzE (a : LEnt) : Prop := a.f0.size ≤ 1048576 ∧ a.f1.size ≤ 1048576
theorem szAffix_ev (a : LAff) (ha : BigA a) (b : Int) (hb : 0 ≤ b) (hb2 : b ≤ 1048576) : ∃ r, laws_szAffix.f a.f0 a.f1 a.f2 a.f3 a.f4 b = some r ∧ r ≤ b ∧ (0 ≤ r → SzA a) := by
  obtain ⟨⟨h0, h2⟩, h3, h4⟩ := ha
  unfold laws_szAffix.f
  rw [w64 (n := b - (a.f0.size : Int)) (by omega) (by omega)]
  split
  · exact ⟨_, rfl, by omega, fun h => absurd h (by decide)⟩
  · rw [w64 (n := b - (a.f0.size : Int) - (a.f2.size : Int)) (by omega) (by omega)]
    split
    · exact ⟨_, rfl, by omega, fun h => absurd h (by decide)⟩
    · rw [w64 (n := b - (a.f0.size : Int) - (a.f2.size : Int) - (a.f3.size : Int)) (by omega) (by omega)]
      split
      · exact ⟨_, rfl, by omega, fun h => absurd h (by decide)⟩
      · rw [w64 (n := b - (a.f0.size : Int) - (a.f2.size : Int) - (a.f3.size : Int) - (a.f4.size : Int)) (by omega) (by omega)]
        split
        · exact ⟨_, rfl, by omega, fun h => absurd h (by decide)⟩
        · exact ⟨_, rfl, by omega, fun h => ⟨⟨by omega, by omega⟩, by omega, by omega⟩⟩
theorem szEntry_ev (a : LEnt) (ha : BigE a) (b : Int) (hb : 0 ≤ b) (hb2 : b ≤ 1048576) : ∃ r, laws_szEntry.f a.f0 a.f1 b = some r ∧ r ≤ b ∧ (0 ≤ r → SzE a) := by
  obtain ⟨h0, h2⟩ := ha
  unfold laws_szEntry.f
  rw [w64 (n := b - (a.f0.size : Int)) (by omega) (by omega)]
  split
  · exact ⟨_, rfl, by omega, fun h => absurd h (by decide)⟩
  · rw [w64 (n := b - (a.f0.size : Int) - (a.f1.size : Int)) (by omega) (by omega)]
    split
    · exact ⟨_, rfl, by omega, fun h => absurd h (by decide)⟩
    · exact ⟨_, rfl, by omega, fun h => ⟨by omega, by omega⟩⟩
theorem szAffs_loop (l : List LAff) (hl : l.length ≤ 281474976710656) (hg : ∀ a ∈ l, BigA a) (n : Nat) : ∀ (i : Nat) (b : Int), i + n = l.length → 0 ≤ b → b ≤ 1048576 →
    EvQ (fun k => laws_szAffixS.l0 k l b (i : Int)) (fun r => r ≤ b ∧ (0 ≤ r → ∀ a ∈ l.drop i, SzA a)) := by
  induction n with
  | zero =>
    intro i b hi hb hb2
    refine EvQ.succ (fun k => by rw [laws_szAffixS.l0]) ?_
    refine EvQ.neg (by omega) (EvQ.pure ⟨Int.le_refl _, fun _ a ha => ?_⟩)
    rw [List.drop_eq_nil_of_le (by omega)] at ha
    cases ha
  | succ n ih =>
    intro i b hi hb hb2
    have hi' : i < l.length := by omega
    have e1 : wrap64 ((i : Int) + 1) = ((i + 1 : Nat) : Int) := by rw [w64 (by omega) (by omega)]; omega
    obtain ⟨r, h1, h2, h3⟩ := szAffix_ev l[i] (hg _ (List.getElem_mem hi')) b hb hb2
    refine EvQ.succ (fun k => by rw [laws_szAffixS.l0]) ?_
    rw [e1, rdLA_get l i hi', h1]
    refine EvQ.pos (by omega) (EvQ.pos (by omega) (EvQ.some_bind (EvQ.both (fun h => EvQ.pure ⟨by omega, fun h => absurd h (by decide)⟩) (fun h => ?_))))
    refine (ih (i + 1) r (by omega) (by omega) (by omega)).imp fun u hu => ⟨by omega, fun hu0 a ha => ?_⟩
    rw [List.drop_eq_getElem_cons hi'] at ha
    rcases List.mem_cons.1 ha with rfl | ha
    · exact h3 (by omega)
    · exact hu.2 hu0 a ha
theorem szEnts_loop (l : List LEnt) (hl : l.length ≤ 281474976710656) (hg : ∀ a ∈ l, BigE a) (n : Nat) : ∀ (i : Nat) (b : Int), i + n = l.length → 0 ≤ b → b ≤ 1048576 →
    EvQ (fun k => laws_szEntryS.l0 k l b (i : Int)) (fun r => r ≤ b ∧ (0 ≤ r → ∀ a ∈ l.drop i, SzE a)) := by
  induction n with
  | zero =>
    intro i b hi hb hb2
    refine EvQ.succ (fun k => by rw [laws_szEntryS.l0]) ?_
    refine EvQ.neg (by omega) (EvQ.pure ⟨Int.le_refl _, fun _ a ha => ?_⟩)
    rw [List.drop_eq_nil_of_le (by omega)] at ha
    cases ha
  | succ n ih =>
    intro i b hi hb hb2
    have hi' : i < l.length := by omega
    have e1 : wrap64 ((i : Int) + 1) = ((i + 1 : Nat) : Int) := by rw [w64 (by omega) (by omega)]; omega
    obtain ⟨r, h1, h2, h3⟩ := szEntry_ev l[i] (hg _ (List.getElem_mem hi')) b hb hb2
    refine EvQ.succ (fun k => by rw [laws_szEntryS.l0]) ?_
    rw [e1, rdLE_get l i hi', h1]
    refine EvQ.pos (by omega) (EvQ.pos (by omega) (EvQ.some_bind (EvQ.both (fun h => EvQ.pure ⟨by omega, fun h => absurd h (by decide)⟩) (fun h => ?_))))
    refine (ih (i + 1) r (by omega) (by omega) (by omega)).imp fun u hu => ⟨by omega, fun hu0 a ha => ?_⟩
    rw [List.drop_eq_getElem_cons hi'] at ha
    rcases List.mem_cons.1 ha with rfl | ha
    · exact h3 (by omega)
    · exact hu.2 hu0 a ha
theorem szBook_ev (l0 : List LAff) (l1 : List LEnt) (h0 : l0.length ≤ 9223372036854775807) (h1 : l1.length ≤ 9223372036854775807) (g0 : ∀ a ∈ l0, BigA a) (g1 : ∀ a ∈ l1, BigE a) :
    EvQ (fun k => laws_szBook.f k l0 l1 1048576) (fun r => 0 ≤ r → (l0.length ≤ 1048576 ∧ ∀ a ∈ l0, SzA a) ∧ l1.length ≤ 1048576 ∧ ∀ a ∈ l1, SzE a) := by
  have A : ∀ b : Int, 0 ≤ b → b ≤ 1048576 → EvQ (fun k => laws_szAffixS.f k l0 b) (fun r => r ≤ b ∧ (0 ≤ r → l0.length ≤ 1048576 ∧ ∀ a ∈ l0, SzA a)) := by
    intro b hb hb2
    unfold laws_szAffixS.f
    rw [w64 (n := b - (l0.length : Int)) (by omega) (by omega)]
    refine EvQ.both (fun h => EvQ.pure ⟨by omega, fun h => absurd h (by decide)⟩) (fun h => ?_)
    exact (szAffs_loop l0 (by omega) g0 l0.length 0 _ (by omega) (by omega) (by omega)).imp fun r hr => ⟨by omega, fun h2 => ⟨by omega, hr.2 h2⟩⟩
  have B : ∀ b : Int, 0 ≤ b → b ≤ 1048576 → EvQ (fun k => laws_szEntryS.f k l1 b) (fun r => r ≤ b ∧ (0 ≤ r → l1.length ≤ 1048576 ∧ ∀ a ∈ l1, SzE a)) := by
    intro b hb hb2
    unfold laws_szEntryS.f
    rw [w64 (n := b - (l1.length : Int)) (by omega) (by omega)]
    refine EvQ.both (fun h => EvQ.pure ⟨by omega, fun h => absurd h (by decide)⟩) (fun h => ?_)
    exact (szEnts_loop l1 (by omega) g1 l1.length 0 _ (by omega) (by omega) (by omega)).imp fun r hr => ⟨by omega, fun h2 => ⟨by omega, hr.2 h2⟩⟩
  unfold laws_szBook.f
  refine EvQ.bind (A _ (by decide) (by decide)) fun r hr => EvQ.both (fun h => EvQ.pure fun h => absurd h (by decide)) (fun h => ?_)
  refine EvQ.bind (B r (by omega) (by omega)) fun u hu => EvQ.both (fun h => EvQ.pure fun h => absurd h (by decide)) (fun h2 => EvQ.pure fun h3 => ⟨hr.2 (by omega), hu.2 h3⟩)

/-! ### Copies -/
def toA (a : LAff) : SAff := ⟨a.f0, a.f1, a.f2, a.f3, a.f4⟩
def toE (a : LEnt) : SEnt := ⟨a.f0, a.f1⟩
theorem map_done {α β : Type} {f : α → β} {l : List α} {o : List β} (hl : o.length = l.length) (h : ∀ j, j < l.length → o[j]? = (l.map f)[j]?) : o = l.map f := by
  refine List.ext_getElem? fun j => ?_
  rcases Nat.lt_or_ge j l.length with hj | hj
  · exact h j hj
  · rw [List.getElem?_eq_none (by omega), List.getElem?_eq_none (by rw [List.length_map]; omega)]
theorem map_step {α β : Type} {f : α → β} {l : List α} {o : List β} {i : Nat} (hl : o.length = l.length) (hi : i < l.length) (h : ∀ j, j < i → o[j]? = (l.map f)[j]?) : ∀ j, j < i + 1 → (o.set i (f l[i]))[j]? = (l.map f)[j]? := by
  intro j hj
  rw [List.getElem?_set]
  split
  · rename_i e
    subst e
    rw [if_pos (by omega), List.getElem?_map, List.getElem?_eq_getElem hi]
    rfl
  · exact h j (by omega)
theorem toAffs_loop (l : List LAff) (hl : l.length ≤ 1048576) (n : Nat) : ∀ (i : Nat) (o : List SAff), i + n = l.length → o.length = l.length → (∀ j, j < i → o[j]? = (l.map toA)[j]?) →
    EvQ (fun k => laws_toAffixS.l0 k l o (i : Int)) (· = l.map toA) := by
  induction n with
  | zero =>
    intro i o hi ho h
    refine EvQ.succ (fun k => by rw [laws_toAffixS.l0]) ?_
    exact EvQ.neg (by omega) (EvQ.pure (map_done ho fun j hj => h j (by omega)))
  | succ n ih =>
    intro i o hi ho h
    have hi' : i < l.length := by omega
    have e1 : wrap64 ((i : Int) + 1) = ((i + 1 : Nat) : Int) := by rw [w64 (by omega) (by omega)]; omega
    refine EvQ.succ (fun k => by rw [laws_toAffixS.l0]) ?_
    rw [e1, rdLA_get l i hi']
    refine EvQ.pos (by omega) (EvQ.pos (by omega) ?_)
    unfold laws_toAffix.f
    exact EvQ.some_bind (EvQ.pos (by omega) (ih (i + 1) _ (by omega) (by rw [List.length_set]; exact ho) (map_step ho hi' h)))
theorem toEnts_loop (l : List LEnt) (hl : l.length ≤ 1048576) (n : Nat) : ∀ (i : Nat) (o : List SEnt), i + n = l.length → o.length = l.length → (∀ j, j < i → o[j]? = (l.map toE)[j]?) →
    EvQ (fun k => laws_toEntryS.l0 k l o (i : Int)) (· = l.map toE) := by
  induction n with
  | zero =>
    intro i o hi ho h
    refine EvQ.succ (fun k => by rw [laws_toEntryS.l0]) ?_
    exact EvQ.neg (by omega) (EvQ.pure (map_done ho fun j hj => h j (by omega)))
  | succ n ih =>
    intro i o hi ho h
    have hi' : i < l.length := by omega
    have e1 : wrap64 ((i : Int) + 1) = ((i + 1 : Nat) : Int) := by rw [w64 (by omega) (by omega)]; omega
    refine EvQ.succ (fun k => by rw [laws_toEntryS.l0]) ?_
    rw [e1, rdLE_get l i hi']
    refine EvQ.pos (by omega) (EvQ.pos (by omega) ?_)
    unfold laws_toEntry.f
    exact EvQ.some_bind (EvQ.pos (by omega) (ih (i + 1) _ (by omega) (by rw [List.length_set]; exact ho) (map_step ho hi' h)))
theorem toBook_ev (l0 : List LAff) (l1 : List LEnt) (h0 : l0.length ≤ 1048576) (h1 : l1.length ≤ 1048576) : EvQ (fun k => laws_toBook.f k l0 l1) (· = (l0.map toA, l1.map toE)) := by
  unfold laws_toBook.f laws_toAffixS.f laws_toEntryS.f
  refine EvQ.bind (Q := (· = l0.map toA)) (EvQ.pos (by omega) (EvQ.pos (by omega) (toAffs_loop l0 h0 l0.length 0 _ (by omega) (by simp) (fun j hj => by omega)))) fun r hr => ?_
  refine EvQ.bind (Q := (· = l1.map toE)) (EvQ.pos (by omega) (EvQ.pos (by omega) (toEnts_loop l1 h1 l1.length 0 _ (by omega) (by simp) (fun j hj => by omega)))) fun u hu => ?_
  exact EvQ.pure (by rw [hr, hu])

/-! ### Compared with itself -/
theorem eqStr_self (a : List ByteArray) (ha : a.length ≤ 100000) : EvQ (fun k => laws_eqStringS.f k a a) (· = true) := by
  unfold laws_eqStringS.f
  refine EvQ.pos rfl ?_
  have loop : ∀ c i : Nat, i + c = a.length → EvQ (fun k => laws_eqStringS.l0 k a a (i : Int)) (· = true) := by
    intro c
    induction c with
    | zero =>
      intro i hi
      refine EvQ.succ (fun k => by rw [laws_eqStringS.l0]) ?_
      exact EvQ.neg (by omega) (EvQ.pure rfl)
    | succ c ih =>
      intro i hi
      have e1 : wrap64 ((i : Int) + 1) = ((i + 1 : Nat) : Int) := by rw [w64 (by omega) (by omega)]; omega
      refine EvQ.succ (fun k => by rw [laws_eqStringS.l0]) ?_
      rw [e1]
      exact EvQ.pos (by omega) (EvQ.pos (by omega) (EvQ.pos (by omega) (EvQ.pos rfl (ih (i + 1) (by omega)))))
  exact loop a.length 0 (by omega)
theorem eqBook_self (l0 : List SAff) (l1 : List SEnt) (h0 : l0.length ≤ 1048576) (h1 : l1.length ≤ 1048576) : EvQ (fun k => laws_eqBook.f k l0 l1 l0 l1) (· = true) := by
  have A : ∀ c i : Nat, i + c = l0.length → EvQ (fun k => laws_eqAffixS.l0 k l0 l0 (i : Int)) (· = true) := by
    intro c
    induction c with
    | zero =>
      intro i hi
      refine EvQ.succ (fun k => by rw [laws_eqAffixS.l0]) ?_
      exact EvQ.neg (by omega) (EvQ.pure rfl)
    | succ c ih =>
      intro i hi
      have e1 : wrap64 ((i : Int) + 1) = ((i + 1 : Nat) : Int) := by rw [w64 (by omega) (by omega)]; omega
      refine EvQ.succ (fun k => by rw [laws_eqAffixS.l0]) ?_
      have e2 : ∀ a : SAff, laws_eqAffix.f a.f0 a.f1 a.f2 a.f3 a.f4 a.f0 a.f1 a.f2 a.f3 a.f4 = some true := fun a => by unfold laws_eqAffix.f; simp
      rw [e1, e2]
      exact EvQ.pos (by omega) (EvQ.pos (by omega) (EvQ.pos (by omega) (EvQ.some_bind (EvQ.pos rfl (ih (i + 1) (by omega))))))
  have B : ∀ c i : Nat, i + c = l1.length → EvQ (fun k => laws_eqEntryS.l0 k l1 l1 (i : Int)) (· = true) := by
    intro c
    induction c with
    | zero =>
      intro i hi
      refine EvQ.succ (fun k => by rw [laws_eqEntryS.l0]) ?_
      exact EvQ.neg (by omega) (EvQ.pure rfl)
    | succ c ih =>
      intro i hi
      have e1 : wrap64 ((i : Int) + 1) = ((i + 1 : Nat) : Int) := by rw [w64 (by omega) (by omega)]; omega
      refine EvQ.succ (fun k => by rw [laws_eqEntryS.l0]) ?_
      have e2 : ∀ a : SEnt, laws_eqEntry.f a.f0 a.f1 a.f0 a.f1 = some true := fun a => by unfold laws_eqEntry.f; simp
      rw [e1, e2]
      exact EvQ.pos (by omega) (EvQ.pos (by omega) (EvQ.pos (by omega) (EvQ.some_bind (EvQ.pos rfl (ih (i + 1) (by omega))))))
  unfold laws_eqBook.f laws_eqAffixS.f laws_eqEntryS.f
  refine EvQ.bind (Q := (· = true)) (EvQ.pos rfl (A l0.length 0 (by omega))) fun r hr => EvQ.pos hr ?_
  exact EvQ.bind (Q := (· = true)) (EvQ.pos rfl (B l1.length 0 (by omega))) fun r hr => EvQ.pos hr (EvQ.pure rfl)

/-! ### Marks -/
theorem mark_loop (n : Nat) : ∀ (x : Int) (s : ByteArray), 0 ≤ x → x ≤ n → n ≤ 1099511627776 → s.size + n ≤ 2199023255552 → EvQ (fun k => laws_markText.l0 k x s) (fun _ => True) := by
  induction n with
  | zero =>
    intro x s h0 h1 hn hs
    refine EvQ.succ (fun k => by rw [laws_markText.l0]) ?_
    exact EvQ.neg (by omega) (EvQ.pos (by omega) (EvQ.pure trivial))
  | succ n ih =>
    intro x s h0 h1 hn hs
    refine EvQ.succ (fun k => by rw [laws_markText.l0]) ?_
    refine EvQ.both (fun h => EvQ.some_bind ?_) (fun h => EvQ.pos (by omega) (EvQ.pure trivial))
    have hz : ∀ v : Int, (strOfNums [v]).size = 1 := fun v => rfl
    have e1 : Int.tdiv x 10 = x / 10 := Int.tdiv_eq_ediv_of_nonneg h0
    have e2 : wrap64 (x / 10) = x / 10 := w64 (by omega) (by omega)
    rw [e1, e2]
    refine EvQ.pos (by rw [hz]; omega) (ih _ _ (by omega) (by omega) (by omega) ?_)
    rw [ByteArray.size_append, hz]
    omega
theorem mark_ex {x : Int} (h : 0 ≤ x ∧ x ≤ 1099511627776) : ∃ t, EvQ (fun k => laws_markText.f k x) (· = t) := by
  have h1 : EvQ (fun k => laws_markText.f k x) (fun _ => True) := by
    unfold laws_markText.f
    refine EvQ.both (fun _ => EvQ.pure trivial) (fun _ => ?_)
    exact mark_loop 1099511627776 x _ h.1 h.2 (by decide) (by decide)
  obtain ⟨r, h2, _⟩ := h1
  exact ⟨r, r, h2, rfl⟩
open Classical in
/-- The text of a number's mark. -/
noncomputable def mkT (x : Int) : ByteArray := if h : 0 ≤ x ∧ x ≤ 1099511627776 then Classical.choose (mark_ex h) else ByteArray.empty
theorem mark_ev {x : Int} (h0 : 0 ≤ x) (h1 : x ≤ 1099511627776) : EvQ (fun k => laws_markText.f k x) (· = mkT x) := by
  have h : 0 ≤ x ∧ x ≤ 1099511627776 := ⟨h0, h1⟩
  unfold mkT
  rw [dif_pos h]
  exact Classical.choose_spec (mark_ex h)
theorem markAffs_loop (n : Nat) : ∀ (i : Nat) (x : Int) (l : List SAff), i + n = l.length → l.length ≤ 1048576 → 0 ≤ x → x + 5 * n ≤ 1099511000000 → EvQ (fun k => laws_markAffixS.l0 k l x (i : Int)) (fun r => r.1 = x + 5 * n) := by
  induction n with
  | zero =>
    intro i x l hi hl h0 h1
    refine EvQ.succ (fun k => by rw [laws_markAffixS.l0]) ?_
    exact EvQ.neg (by omega) (EvQ.pure (by dsimp only; omega))
  | succ n ih =>
    intro i x l hi hl h0 h1
    have e0 : wrap64 ((i : Int) + 1) = ((i + 1 : Nat) : Int) := by rw [w64 (by omega) (by omega)]; omega
    have e1 : wrap64 (x + 1) = x + 1 := w64 (by omega) (by omega)
    have e2 : wrap64 (x + 1 + 1) = x + 1 + 1 := w64 (by omega) (by omega)
    have e3 : wrap64 (x + 1 + 1 + 1) = x + 1 + 1 + 1 := w64 (by omega) (by omega)
    have e4 : wrap64 (x + 1 + 1 + 1 + 1) = x + 1 + 1 + 1 + 1 := w64 (by omega) (by omega)
    have e5 : wrap64 (x + 1 + 1 + 1 + 1 + 1) = x + 1 + 1 + 1 + 1 + 1 := w64 (by omega) (by omega)
    refine EvQ.succ (fun k => by rw [laws_markAffixS.l0]) ?_
    rw [e0, e1, e2, e3, e4, e5]
    clear e0 e1 e2 e3 e4 e5
    refine EvQ.pos (by omega) (EvQ.bind (mark_ev (by omega) (by omega)) fun t0 _ => EvQ.pos (by omega) (EvQ.some_bind (EvQ.some_bind (EvQ.bind (mark_ev (by omega) (by omega)) fun t1 _ => EvQ.some_bind (EvQ.bind (mark_ev (by omega) (by omega)) fun t2 _ => EvQ.some_bind (EvQ.bind (mark_ev (by omega) (by omega)) fun t3 _ => ?_))))))
    exact (ih (i + 1) _ _ (by simp only [List.length_set]; omega) (by simp only [List.length_set]; omega) (by omega) (by omega)).imp fun r hr => by rw [hr]; omega
theorem markEnts_loop (n : Nat) : ∀ (i : Nat) (x : Int) (l : List SEnt), i + n = l.length → l.length ≤ 1048576 → 0 ≤ x → x + 2 * n ≤ 1099511000000 → EvQ (fun k => laws_markEntryS.l0 k l x (i : Int)) (fun r => r.1 = x + 2 * n) := by
  induction n with
  | zero =>
    intro i x l hi hl h0 h1
    refine EvQ.succ (fun k => by rw [laws_markEntryS.l0]) ?_
    exact EvQ.neg (by omega) (EvQ.pure (by dsimp only; omega))
  | succ n ih =>
    intro i x l hi hl h0 h1
    have e0 : wrap64 ((i : Int) + 1) = ((i + 1 : Nat) : Int) := by rw [w64 (by omega) (by omega)]; omega
    have e1 : wrap64 (x + 1) = x + 1 := w64 (by omega) (by omega)
    have e2 : wrap64 (x + 1 + 1) = x + 1 + 1 := w64 (by omega) (by omega)
    refine EvQ.succ (fun k => by rw [laws_markEntryS.l0]) ?_
    rw [e0, e1, e2]
    clear e0 e1 e2
    refine EvQ.pos (by omega) (EvQ.bind (mark_ev (by omega) (by omega)) fun t0 _ => EvQ.pos (by omega) (EvQ.some_bind (EvQ.bind (mark_ev (by omega) (by omega)) fun t1 _ => ?_)))
    exact (ih (i + 1) _ _ (by simp only [List.length_set]; omega) (by simp only [List.length_set]; omega) (by omega) (by omega)).imp fun r hr => by rw [hr]; omega
theorem markBook_ev (l0 : List SAff) (l1 : List SEnt) (h0 : l0.length ≤ 1048576) (h1 : l1.length ≤ 1048576) : EvQ (fun k => laws_markBook.f k l0 l1 1) (fun r => 0 ≤ r.1) := by
  unfold laws_markBook.f laws_markAffixS.f laws_markEntryS.f
  refine EvQ.bind (markAffs_loop l0.length 0 1 l0 (by omega) h0 (by decide) (by omega)) fun r hr => ?_
  refine EvQ.bind (markEnts_loop l1.length 0 r.1 l1 (by omega) h1 (by omega) (by omega)) fun u hu => EvQ.pure ?_
  show 0 ≤ u.1
  omega
/-- A list of marks. -/
def Marked (n : Nat) (l : List ByteArray) : Prop := l.length = n ∧ ∀ j, j < n → l[j]? = some (mkT (1 + (j : Int)))
theorem markStr_loop (n : Nat) : ∀ (i : Nat) (l : List ByteArray), i + n = l.length → l.length ≤ 1048576 → (∀ j, j < i → l[j]? = some (mkT (1 + (j : Int)))) →
    EvQ (fun k => laws_markStringS.l0 k l (1 + (i : Int)) (i : Int)) (fun r => r.1 = 1 + (l.length : Int) ∧ Marked l.length r.2) := by
  induction n with
  | zero =>
    intro i l hi hl h
    refine EvQ.succ (fun k => by rw [laws_markStringS.l0]) ?_
    exact EvQ.neg (by omega) (EvQ.pure ⟨by dsimp only; omega, rfl, fun j hj => h j (by omega)⟩)
  | succ n ih =>
    intro i l hi hl h
    have hi' : i < l.length := by omega
    have e0 : wrap64 ((i : Int) + 1) = ((i + 1 : Nat) : Int) := by rw [w64 (by omega) (by omega)]; omega
    have e1 : wrap64 (1 + (i : Int) + 1) = 1 + ((i + 1 : Nat) : Int) := by rw [w64 (by omega) (by omega)]; omega
    refine EvQ.succ (fun k => by rw [laws_markStringS.l0]) ?_
    rw [e0, e1]
    clear e0 e1
    refine EvQ.pos (by omega) (EvQ.bind (mark_ev (by omega) (by omega)) fun t ht => EvQ.pos (by omega) ?_)
    have hls : (l.set ((i : Int)).toNat t).length = l.length := by rw [List.length_set]
    refine (ih (i + 1) (l.set ((i : Int)).toNat t) (by rw [hls]; omega) (by rw [hls]; omega) (fun j hj => ?_)).imp fun r hr => by rw [hls] at hr; exact hr
    have e3 : ((i : Int)).toNat = i := rfl
    rw [e3, List.getElem?_set]
    split
    · rename_i e
      subst e
      rw [ht]
    · exact h j (by omega)
theorem heldStr_loop (l : List ByteArray) (hl : l.length ≤ 1048576) (hm : Marked l.length l) (n : Nat) : ∀ (i : Nat), i + n = l.length → EvQ (fun k => laws_heldStringS.l0 k l (1 + (i : Int)) (i : Int)) (fun r => r = 1 + (l.length : Int)) := by
  induction n with
  | zero =>
    intro i hi
    refine EvQ.succ (fun k => by rw [laws_heldStringS.l0]) ?_
    exact EvQ.neg (by omega) (EvQ.pure (by omega))
  | succ n ih =>
    intro i hi
    have hi' : i < l.length := by omega
    have e0 : wrap64 ((i : Int) + 1) = ((i + 1 : Nat) : Int) := by rw [w64 (by omega) (by omega)]; omega
    have e1 : wrap64 (1 + (i : Int) + 1) = 1 + ((i + 1 : Nat) : Int) := by rw [w64 (by omega) (by omega)]; omega
    refine EvQ.succ (fun k => by rw [laws_heldStringS.l0]) ?_
    rw [e0, e1, rdB_get l i hi']
    clear e0 e1
    have hg : l[i] = mkT (1 + (i : Int)) := by
      have := hm.2 i hi'
      rw [List.getElem?_eq_getElem hi'] at this
      exact Option.some.inj this
    refine EvQ.pos (by omega) (EvQ.pos (by omega) (EvQ.bind (mark_ev (by omega) (by omega)) fun t ht => EvQ.pos (by rw [ht, hg]) (ih (i + 1) (by omega))))

/-! ### The law -/
theorem exact_small {l0 : List LAff} {l1 : List LEnt} (h0 : l0.length ≤ 1048576 ∧ ∀ a ∈ l0, SzA a) (h1 : l1.length ≤ 1048576 ∧ ∀ a ∈ l1, SzE a) : SmallB (l0.map toA) (l1.map toE) := by
  refine ⟨by rw [List.length_map]; omega, by rw [List.length_map]; omega, fun i hi => ?_, fun i hi => ?_⟩
  · rw [List.length_map] at hi
    have e : rdA (l0.map toA) i = toA l0[i] := by
      show (l0.map toA).getD i _ = _
      simp [List.getD_eq_getElem?_getD, hi]
    rw [e]
    obtain ⟨⟨a, b⟩, c, d⟩ := h0.2 _ (List.getElem_mem hi)
    exact ⟨by show l0[i].f0.size ≤ _; omega, by show l0[i].f2.size ≤ _; omega, by show l0[i].f3.size ≤ _; omega, by show l0[i].f4.size ≤ _; omega⟩
  · rw [List.length_map] at hi
    have e : rdE (l1.map toE) i = toE l1[i] := by
      show (l1.map toE).getD i _ = _
      simp [List.getD_eq_getElem?_getD, hi]
    rw [e]
    obtain ⟨a, b⟩ := h1.2 _ (List.getElem_mem hi)
    exact ⟨by show l1[i].f0.size ≤ _; omega, by show l1[i].f1.size ≤ _; omega⟩
theorem exact_ev (l0 : List LAff) (l1 : List LEnt) (x : ByteArray) (h0 : l0.length ≤ 9223372036854775807) (h1 : l1.length ≤ 9223372036854775807) (g0 : ∀ a ∈ l0, BigA a) (g1 : ∀ a ∈ l1, BigE a) :
    EvQ (fun k => laws_FnExactPartsOf.f k l0 l1 x) (· = true) := by
  unfold laws_FnExactPartsOf.f
  refine EvQ.both (fun _ => EvQ.pure rfl) (fun hx => EvQ.bind (szBook_ev l0 l1 h0 h1 g0 g1) fun r hr => EvQ.both (fun _ => EvQ.pure rfl) (fun hr0 => ?_))
  obtain ⟨s0, s1⟩ := hr (by omega)
  have hb := toBook_ev l0 l1 s0.1 s1.1
  have hS := exact_small s0 s1
  have hx2 : x.size ≤ 2097152 := by omega
  obtain ⟨ps, ⟨g1, g2⟩, g3⟩ := partsOf_ev hS x hx2
  have hl : ps.length ≤ 100000 := by
    rcases Nat.eq_zero_or_pos ps.length with e | e
    · omega
    · obtain ⟨_, ws, _, _, e2⟩ := g3 (fun c => by rw [c] at e; exact absurd e (by decide))
      have := (partsOf_q (ws := ws) (x := x) (by rw [← e2]; exact fun c => by rw [c] at e; exact absurd e (by decide))).2
      rw [← e2] at this
      omega
  have m0 : (l0.map toA).length ≤ 1048576 := by rw [List.length_map]; exact s0.1
  have m1 : (l1.map toE).length ≤ 1048576 := by rw [List.length_map]; exact s1.1
  refine EvQ.bind hb fun b hb1 => ?_
  rw [hb1]
  refine EvQ.bind g2 fun w hw => EvQ.bind hb fun c hc => ?_
  rw [hc]
  refine EvQ.bind g1 fun t ht => ?_
  obtain rfl : w = ps := hw
  obtain rfl : t = w := ht
  refine EvQ.bind (eqStr_self t hl) fun v hv => EvQ.pos hv (EvQ.bind hb fun d hd => ?_)
  rw [hd]
  refine EvQ.bind (eqBook_self _ _ m0 m1) fun v hv => EvQ.pos hv (EvQ.bind (markBook_ev _ _ m0 m1) fun mk hmk => EvQ.neg (by omega) (EvQ.bind (eqStr_self t hl) fun v2 hv2 => ?_))
  obtain rfl : v2 = true := hv2
  refine EvQ.succ (fun k => by rw [laws_FnExactPartsOf.j0]) ?_
  refine EvQ.neg (by decide) ?_
  unfold laws_markStringS.f laws_heldStringS.f
  refine EvQ.bind (markStr_loop t.length 0 t (by omega) (by omega) (fun j hj => by omega)) fun q hq => ?_
  obtain ⟨q1, q2⟩ := hq
  have q3 := q2.1
  have held : EvQ (fun k => laws_heldStringS.l0 k q.2 1 0) (fun r => r = 1 + (q.2.length : Int)) := heldStr_loop q.2 (by omega) (by rw [q3]; exact q2) q.2.length 0 (by omega)
  refine EvQ.bind held fun u hu => EvQ.neg (by omega) (EvQ.pos (by omega) (EvQ.bind hb fun e he => ?_))
  rw [he]
  refine EvQ.bind g1 fun t2 ht2 => ?_
  obtain rfl : t2 = t := ht2
  refine EvQ.bind (eqStr_self t2 hl) fun v hv => EvQ.pos hv (EvQ.bind held fun u2 hu2 => EvQ.neg (by omega) (EvQ.pos (by omega) (EvQ.pure rfl)))
end Go.Proofs.Ytbopiacjioedeaa.P
