/- Words and patterns that are ok: both sides say the same. -/
import Derived.Test.YtlmbmfnimpjgmaaDoorEv
import Derived.Test.YtlmbmfnimpjgmaaDoorP12
set_option linter.unusedVariables false
set_option linter.unusedSimpArgs false
namespace Go.Proofs.YtlmbmfnimpjgmaaDoor.P
open Go.RowKit Go.Proofs.YtlmbmfnimpjgmaaDoorW.PrintWords Go.Proofs.YtlmbmfnimpjgmaaDoorW.PrintLast Go.Proofs.YtlmbmfnimpjgmaaDoorW.PrintMore

/-- Small letters from a byte on. -/
def LowFrom (s : ByteArray) (i : Nat) : Prop := ∀ j : Nat, i ≤ j → j < s.size → 97 ≤ bt s j ∧ bt s j ≤ 122
theorem LowFrom.step {s : ByteArray} {i : Nat} (hi : i < s.size) : LowFrom s i ↔ (97 ≤ bt s i ∧ bt s i ≤ 122) ∧ LowFrom s (i + 1) := by
  constructor
  · exact fun h => ⟨h i (Nat.le_refl _) hi, fun j h1 h2 => h j (by omega) h2⟩
  · rintro ⟨h1, h2⟩ j hj hs
    rcases Nat.eq_or_lt_of_le hj with rfl | h
    · exact h1
    · exact h2 j h hs
theorem LowFrom.last {s : ByteArray} {i : Nat} (hi : s.size ≤ i) : LowFrom s i := fun j h1 h2 => by omega

theorem lower_loop (s : ByteArray) (hs : s.size ≤ 1000000) (n : Nat) : ∀ i : Nat, i + n = s.size → EvQ (fun k => impl_lower.l0 k s (s.size : Int) (i : Int)) (fun r => r = true ↔ LowFrom s i) := by
  induction n with
  | zero =>
    intro i hi
    refine EvQ.succ (fun k => by rw [impl_lower.l0]) ?_
    exact EvQ.neg (by omega) (EvQ.pure ⟨fun _ => LowFrom.last (by omega), fun _ => rfl⟩)
  | succ n ih =>
    intro i hi
    refine EvQ.succ (fun k => by rw [impl_lower.l0]) ?_
    refine EvQ.pos (by omega) (EvQ.pos (by omega) (EvQ.pos (by omega) ?_))
    refine EvQ.both (fun h => EvQ.pure ?_) (fun h => EvQ.both (fun h2 => EvQ.pure ?_) (fun h2 => ?_))
    · rw [LowFrom.step (by omega)]
      constructor
      · intro e; cases e
      · rintro ⟨⟨h1, _⟩, _⟩; omega
    · rw [LowFrom.step (by omega)]
      constructor
      · intro e; cases e
      · rintro ⟨⟨_, h1⟩, _⟩; omega
    · rw [w64 (by omega) (by omega)]
      refine (ih (i + 1) (by omega)).imp fun r hr => ?_
      rw [hr, LowFrom.step (i := i) (by omega)]
      exact ⟨fun h3 => ⟨⟨by omega, by omega⟩, h3⟩, fun h3 => h3.2⟩
theorem lower_ev (s : ByteArray) (hs : s.size ≤ 1000000) : EvQ (fun k => impl_lower.f k s) (fun r => r = true ↔ LowFrom s 0) := by
  unfold impl_lower.f
  exact lower_loop s hs s.size 0 (by omega)
theorem letters_loop (s : ByteArray) (m : Int) (hs : s.size ≤ 1000000) (n : Nat) : ∀ i : Nat, i + n = s.size → EvQ (fun k => spec_l1Letters.l0 k s m (i : Int)) (fun r => r = true ↔ LowFrom s i ∧ (s.size : Int) ≤ m) := by
  induction n with
  | zero =>
    intro i hi
    refine EvQ.succ (fun k => by rw [spec_l1Letters.l0]) ?_
    refine EvQ.neg (by omega) (EvQ.pure ?_)
    rw [decide_eq_true_iff]
    exact ⟨fun h => ⟨LowFrom.last (by omega), h⟩, fun h => h.2⟩
  | succ n ih =>
    intro i hi
    refine EvQ.succ (fun k => by rw [spec_l1Letters.l0]) ?_
    refine EvQ.pos (by omega) (EvQ.pos (by omega) ?_)
    refine EvQ.both (fun h => EvQ.pure ?_) (fun h => EvQ.both (fun h2 => EvQ.pure ?_) (fun h2 => ?_))
    · rw [LowFrom.step (by omega)]
      constructor
      · intro e; cases e
      · rintro ⟨⟨⟨h1, _⟩, _⟩, _⟩; omega
    · rw [LowFrom.step (by omega)]
      constructor
      · intro e; cases e
      · rintro ⟨⟨⟨_, h1⟩, _⟩, _⟩; omega
    · rw [w64 (by omega) (by omega)]
      refine (ih (i + 1) (by omega)).imp fun r hr => ?_
      rw [hr, LowFrom.step (i := i) (by omega)]
      exact ⟨fun h3 => ⟨⟨⟨by omega, by omega⟩, h3.1⟩, h3.2⟩, fun h3 => ⟨h3.1.2, h3.2⟩⟩

/-- A word. -/
def IsWord (s : ByteArray) : Prop := (1 ≤ s.size ∧ s.size ≤ 12) ∧ LowFrom s 0
theorem implWord_ev (s : ByteArray) (hs : s.size ≤ 1000000) : EvQ (fun k => impl_WordOk.f k s) (fun r => r = true ↔ IsWord s) := by
  unfold impl_WordOk.f
  have e : impl_within.f (s.size : Int) 1 12 = some (decide (1 ≤ s.size ∧ s.size ≤ 12)) := by
    unfold impl_within.f
    by_cases h : (s.size : Int) ≥ 1
    · rw [if_pos h]; congr 1; rw [decide_eq_decide]; omega
    · rw [if_neg h]; congr 1; symm; rw [decide_eq_false_iff_not]; omega
  rw [e]
  refine EvQ.some_bind (EvQ.both (fun h => ?_) (fun h => EvQ.pure ?_))
  · rw [decide_eq_true_iff] at h
    refine EvQ.bind (lower_ev s hs) fun r hr => EvQ.pure ?_
    rw [hr]
    exact ⟨fun h2 => ⟨h, h2⟩, fun h2 => h2.2⟩
  · rw [decide_eq_true_iff] at h
    constructor
    · intro e; cases e
    · exact fun h2 => absurd h2.1 h
theorem specWord_ev (s : ByteArray) (hs : s.size ≤ 1000000) : EvQ (fun k => spec_l1Word.f k s) (fun r => r = true ↔ IsWord s) := by
  unfold spec_l1Word.f spec_l1Letters.f
  refine EvQ.both (fun h => ?_) (fun h => EvQ.pure ?_)
  · refine EvQ.bind (letters_loop s 12 hs s.size 0 (by omega)) fun r hr => EvQ.pure ?_
    rw [hr]
    exact ⟨fun h2 => ⟨⟨by omega, by omega⟩, h2.1⟩, fun h2 => ⟨h2.2, by have := h2.1; omega⟩⟩
  · constructor
    · intro e; cases e
    · intro h2; have := h2.1; omega

/-! ### Patterns -/
/-- A letter of a pattern. -/
def Mark (a : ByteArray) (i : Nat) : Prop := (bt a i = 46 ∧ (i = 0 ∨ i + 1 = a.size)) ∨ (97 ≤ bt a i ∧ bt a i ≤ 122)
def MarksFrom (a : ByteArray) (i : Nat) : Prop := ∀ j : Nat, i ≤ j → j < a.size → Mark a j
theorem MarksFrom.step {a : ByteArray} {i : Nat} (hi : i < a.size) : MarksFrom a i ↔ Mark a i ∧ MarksFrom a (i + 1) := by
  constructor
  · exact fun h => ⟨h i (Nat.le_refl _) hi, fun j h1 h2 => h j (by omega) h2⟩
  · rintro ⟨h1, h2⟩ j hj hs
    rcases Nat.eq_or_lt_of_le hj with rfl | h
    · exact h1
    · exact h2 j h hs
def DigitsFrom (n : List Int) (i : Nat) : Prop := ∀ j : Nat, i ≤ j → j < n.length → 0 ≤ rd n j ∧ rd n j ≤ 9
theorem DigitsFrom.step {n : List Int} {i : Nat} (hi : i < n.length) : DigitsFrom n i ↔ (0 ≤ rd n i ∧ rd n i ≤ 9) ∧ DigitsFrom n (i + 1) := by
  constructor
  · exact fun h => ⟨h i (Nat.le_refl _) hi, fun j h1 h2 => h j (by omega) h2⟩
  · rintro ⟨h1, h2⟩ j hj hs
    rcases Nat.eq_or_lt_of_le hj with rfl | h
    · exact h1
    · exact h2 j h hs
theorem bt_one (a : ByteArray) (i : Nat) (hi : i < a.size) : bt (a.extract i (i + 1)) 0 = bt a i := by
  have h1 : (a.extract i (i + 1)).size = 1 := by rw [ByteArray.size_extract]; omega
  unfold bt
  have e : ((i : Int)).toNat = i := rfl
  simp only [Int.toNat_zero, e]
  rw [dif_pos (by omega), dif_pos hi]
  simp [ByteArray.getElem_eq_getElem_data, ByteArray.data_extract]
theorem low_one (a : ByteArray) (i : Nat) (hi : i < a.size) : LowFrom (a.extract i (i + 1)) 0 ↔ 97 ≤ bt a i ∧ bt a i ≤ 122 := by
  have h1 : (a.extract i (i + 1)).size = 1 := by rw [ByteArray.size_extract]; omega
  rw [← bt_one a i hi]
  exact ⟨fun h => h 0 (Nat.le_refl _) (by omega), fun h j _ hj => by obtain rfl : j = 0 := by omega
                                                                     exact h⟩
theorem within_ev (x lo hi : Int) : impl_within.f x lo hi = some (decide (lo ≤ x ∧ x ≤ hi)) := by
  unfold impl_within.f
  by_cases h : x ≥ lo
  · rw [if_pos h]; congr 1; rw [decide_eq_decide]; omega
  · rw [if_neg h]; congr 1; symm; rw [decide_eq_false_iff_not]; omega
theorem in_ev (x lo hi : Int) : spec_l1In.f x lo hi = some (decide (lo ≤ x ∧ x ≤ hi)) := by
  unfold spec_l1In.f
  by_cases h : x ≥ lo
  · rw [if_pos h]; congr 1; rw [decide_eq_decide]; omega
  · rw [if_neg h]; congr 1; symm; rw [decide_eq_false_iff_not]; omega

theorem implDigits (n : List Int) (hn : n.length ≤ 1000000) (m : Nat) : ∀ i : Nat, i + m = n.length → EvQ (fun k => impl_PatternOk.l1 k n (n.length : Int) (i : Int)) (fun r => r = true ↔ DigitsFrom n i) := by
  induction m with
  | zero =>
    intro i hi
    refine EvQ.succ (fun k => by rw [impl_PatternOk.l1]) ?_
    exact EvQ.neg (by omega) (EvQ.pure ⟨fun _ j h1 h2 => by omega, fun _ => rfl⟩)
  | succ m ih =>
    intro i hi
    refine EvQ.succ (fun k => by rw [impl_PatternOk.l1]) ?_
    refine EvQ.pos (by omega) (EvQ.pos (by omega) (EvQ.pos (by omega) ?_))
    rw [within_ev]
    refine EvQ.some_bind (EvQ.both (fun h => ?_) (fun h => EvQ.pure ?_))
    · rw [decide_eq_true_iff] at h
      rw [w64 (by omega) (by omega)]
      refine (ih (i + 1) (by omega)).imp fun r hr => ?_
      rw [hr, DigitsFrom.step (i := i) (by omega)]
      exact ⟨fun h3 => ⟨h, h3⟩, fun h3 => h3.2⟩
    · rw [decide_eq_true_iff] at h
      rw [DigitsFrom.step (i := i) (by omega)]
      constructor
      · intro e; cases e
      · exact fun h2 => absurd h2.1 h
theorem implMarks (a : ByteArray) (n : List Int) (ha : a.size ≤ 1000000) (hn : n.length ≤ 1000000) (m : Nat) : ∀ i : Nat, i + m = a.size → EvQ (fun k => impl_PatternOk.l0 k (a.size : Int) (i : Int) a n) (fun r => r = true ↔ MarksFrom a i ∧ DigitsFrom n 0) := by
  induction m with
  | zero =>
    intro i hi
    refine EvQ.succ (fun k => by rw [impl_PatternOk.l0]) ?_
    refine EvQ.neg (by omega) ((implDigits n hn n.length 0 (by omega)).imp fun r hr => ?_)
    rw [hr]
    exact ⟨fun h => ⟨fun j h1 h2 => by omega, h⟩, fun h => h.2⟩
  | succ m ih =>
    intro i hi
    refine EvQ.succ (fun k => by rw [impl_PatternOk.l0]) ?_
    have e1 : wrap64 ((i : Int) + 1) = ((i + 1 : Nat) : Int) := by rw [w64 (by omega) (by omega)]; omega
    have e2 : wrap64 ((a.size : Int) - 1) = (a.size : Int) - 1 := w64 (by omega) (by omega)
    have e3 : ((i + 1 : Nat) : Int).toNat = i + 1 := rfl
    have e4 : ((i : Nat) : Int).toNat = i := rfl
    simp only [e1, e2, e3, e4]
    have go : ∀ hm : Mark a i, EvQ (fun k => impl_PatternOk.l0 k (a.size : Int) ((i + 1 : Nat) : Int) a n) (fun r => r = true ↔ MarksFrom a i ∧ DigitsFrom n 0) := fun hm => by
      refine (ih (i + 1) (by omega)).imp fun r hr => ?_
      rw [hr, MarksFrom.step (i := i) (by omega)]
      exact ⟨fun h => ⟨⟨hm, h.1⟩, h.2⟩, fun h => ⟨h.1.2, h.2⟩⟩
    have hno : ∀ hm : ¬ Mark a i, (false = true ↔ MarksFrom a i ∧ DigitsFrom n 0) := fun hm => by
      rw [MarksFrom.step (i := i) (by omega)]
      constructor
      · intro e; cases e
      · exact fun h => absurd h.1.1 hm
    refine EvQ.pos (by omega) (EvQ.pos (by omega) (EvQ.pos (by omega) (EvQ.both (fun h => ?_) (fun h => ?_))))
    · refine EvQ.both (fun h0 => go (.inl ⟨h, .inl (by omega)⟩)) (fun h0 => EvQ.both (fun h1 => go (.inl ⟨h, .inr (by omega)⟩)) (fun h1 => ?_))
      refine EvQ.pos (by omega) (EvQ.pos (by omega) (EvQ.bind (lower_ev _ (by rw [ByteArray.size_extract]; omega)) fun r hr => ?_))
      rw [low_one a i (by omega)] at hr
      refine EvQ.both (fun h2 => by have := hr.1 h2; omega) (fun h2 => EvQ.pure (hno ?_))
      rintro (⟨_, h3⟩ | h3)
      · omega
      · omega
    · refine EvQ.pos (by omega) (EvQ.pos (by omega) (EvQ.bind (lower_ev _ (by rw [ByteArray.size_extract]; omega)) fun r hr => ?_))
      rw [low_one a i (by omega)] at hr
      refine EvQ.both (fun h2 => go (.inr (hr.1 h2))) (fun h2 => EvQ.pure (hno ?_))
      rintro (⟨h3, _⟩ | h3)
      · omega
      · exact h2 (hr.2 h3)

/-- A pattern that is ok. -/
def PatOk (a : ByteArray) (n : List Int) : Prop := (1 ≤ a.size ∧ a.size ≤ 8 ∧ n.length = a.size + 1) ∧ MarksFrom a 0 ∧ DigitsFrom n 0
theorem implPat_ev (a : ByteArray) (n : List Int) (ha : a.size ≤ 1000000) (hn : n.length ≤ 1000000) : EvQ (fun k => impl_PatternOk.f k a n) (fun r => r = true ↔ PatOk a n) := by
  unfold impl_PatternOk.f
  rw [within_ev]
  refine EvQ.some_bind (EvQ.both (fun h => ?_) (fun h => ?_))
  · rw [decide_eq_true_iff] at h
    refine EvQ.succ (fun k => by rw [impl_PatternOk.j0]) ?_
    have e : wrap64 ((a.size : Int) + 1) = (a.size : Int) + 1 := w64 (by omega) (by omega)
    rw [e]
    refine EvQ.both (fun h1 => EvQ.pure ?_) (fun h1 => ?_)
    · rw [bne_iff_ne] at h1
      constructor
      · intro e; cases e
      · intro h2; have := h2.1; omega
    · have h2 : (n.length : Int) = (a.size : Int) + 1 := by
        simpa using h1
      refine (implMarks a n ha hn a.size 0 (by omega)).imp fun r hr => ?_
      rw [hr]
      exact ⟨fun h3 => ⟨by omega, h3⟩, fun h3 => h3.2⟩
  · rw [decide_eq_true_iff] at h
    refine EvQ.succ (fun k => by rw [impl_PatternOk.j0]) (EvQ.pos rfl (EvQ.pure ?_))
    constructor
    · intro e; cases e
    · intro h2; have := h2.1; omega

theorem specDigits (s : Int) (a : ByteArray) (n : List Int) (hs : s = a.size) (ha : a.size ≤ 1000000) (hn : n.length ≤ 1000000) (m : Nat) : ∀ i : Nat, i + m = n.length → EvQ (fun k => spec_PatternOk.l1 k s (i : Int) a n) (fun r => r = true ↔ DigitsFrom n i ∧ (1 ≤ a.size ∧ a.size ≤ 8 ∧ n.length = a.size + 1)) := by
  subst hs
  induction m with
  | zero =>
    intro i hi
    refine EvQ.succ (fun k => by rw [spec_PatternOk.l1]) ?_
    refine EvQ.neg (by omega) ?_
    rw [in_ev]
    refine EvQ.some_bind (EvQ.both (fun h => EvQ.pure ?_) (fun h => EvQ.pure ?_))
    · rw [decide_eq_true_iff] at h
      rw [w64 (by omega) (by omega), beq_iff_eq]
      exact ⟨fun h1 => ⟨fun j h2 h3 => by omega, by omega⟩, fun h1 => by omega⟩
    · rw [decide_eq_true_iff] at h
      constructor
      · intro e; cases e
      · intro h2; omega
  | succ m ih =>
    intro i hi
    refine EvQ.succ (fun k => by rw [spec_PatternOk.l1]) ?_
    refine EvQ.pos (by omega) (EvQ.pos (by omega) ?_)
    rw [in_ev]
    refine EvQ.some_bind (EvQ.both (fun h => ?_) (fun h => EvQ.pure ?_))
    · rw [decide_eq_true_iff] at h
      rw [w64 (by omega) (by omega)]
      refine (ih (i + 1) (by omega)).imp fun r hr => ?_
      rw [hr, DigitsFrom.step (i := i) (by omega)]
      exact ⟨fun h3 => ⟨⟨h, h3.1⟩, h3.2⟩, fun h3 => ⟨h3.1.2, h3.2⟩⟩
    · rw [decide_eq_true_iff] at h
      rw [DigitsFrom.step (i := i) (by omega)]
      constructor
      · intro e; cases e
      · exact fun h2 => absurd h2.1.1 h
theorem specMarks (a : ByteArray) (n : List Int) (ha : a.size ≤ 1000000) (hn : n.length ≤ 1000000) (m : Nat) : ∀ i : Nat, i + m = a.size → EvQ (fun k => spec_PatternOk.l0 k (a.size : Int) (i : Int) a n) (fun r => r = true ↔ MarksFrom a i ∧ DigitsFrom n 0 ∧ (1 ≤ a.size ∧ a.size ≤ 8 ∧ n.length = a.size + 1)) := by
  induction m with
  | zero =>
    intro i hi
    refine EvQ.succ (fun k => by rw [spec_PatternOk.l0]) ?_
    refine EvQ.neg (by omega) ((specDigits _ a n rfl ha hn n.length 0 (by omega)).imp fun r hr => ?_)
    rw [hr]
    exact ⟨fun h => ⟨fun j h1 h2 => by omega, h⟩, fun h => h.2⟩
  | succ m ih =>
    intro i hi
    refine EvQ.succ (fun k => by rw [spec_PatternOk.l0]) ?_
    have e1 : wrap64 ((i : Int) + 1) = ((i + 1 : Nat) : Int) := by rw [w64 (by omega) (by omega)]; omega
    have e2 : wrap64 ((a.size : Int) - 1) = (a.size : Int) - 1 := w64 (by omega) (by omega)
    simp only [e1, e2]
    have go : ∀ hm : Mark a i, EvQ (fun k => spec_PatternOk.l0 k (a.size : Int) ((i + 1 : Nat) : Int) a n) (fun r => r = true ↔ MarksFrom a i ∧ DigitsFrom n 0 ∧ (1 ≤ a.size ∧ a.size ≤ 8 ∧ n.length = a.size + 1)) := fun hm => by
      refine (ih (i + 1) (by omega)).imp fun r hr => ?_
      rw [hr, MarksFrom.step (i := i) (by omega)]
      exact ⟨fun h => ⟨⟨hm, h.1⟩, h.2⟩, fun h => ⟨h.1.2, h.2⟩⟩
    have hno : ∀ hm : ¬ Mark a i, (false = true ↔ MarksFrom a i ∧ DigitsFrom n 0 ∧ (1 ≤ a.size ∧ a.size ≤ 8 ∧ n.length = a.size + 1)) := fun hm => by
      rw [MarksFrom.step (i := i) (by omega)]
      constructor
      · intro e; cases e
      · exact fun h => absurd h.1.1 hm
    refine EvQ.pos (by omega) (EvQ.pos (by omega) (EvQ.pos (by omega) (EvQ.both (fun h => ?_) (fun h => ?_))))
    · refine EvQ.both (fun h0 => go (.inl ⟨h, .inl (by omega)⟩)) (fun h0 => EvQ.both (fun h1 => go (.inl ⟨h, .inr (by omega)⟩)) (fun h1 => ?_))
      refine EvQ.both (fun h2 => EvQ.pure (hno ?_)) (fun h2 => by omega)
      rintro (⟨_, h3⟩ | h3)
      · omega
      · omega
    · refine EvQ.both (fun h2 => EvQ.pure (hno ?_)) (fun h2 => EvQ.both (fun h3 => EvQ.pure (hno ?_)) (fun h3 => go (.inr ⟨by omega, by omega⟩)))
      · rintro (⟨h3, _⟩ | h3)
        · omega
        · omega
      · rintro (⟨h4, _⟩ | h4)
        · omega
        · omega
theorem specPat_ev (a : ByteArray) (n : List Int) (ha : a.size ≤ 1000000) (hn : n.length ≤ 1000000) : EvQ (fun k => spec_PatternOk.f k a n) (fun r => r = true ↔ PatOk a n) := by
  unfold spec_PatternOk.f
  refine (specMarks a n ha hn a.size 0 (by omega)).imp fun r hr => ?_
  rw [hr]
  exact ⟨fun h => ⟨h.2.2, h.1, h.2.1⟩, fun h => ⟨h.2.1, h.2.2, h.1⟩⟩

/-! ### Lists of patterns -/
def PatsFrom (xs : List S42) (i : Nat) : Prop := ∀ j : Nat, i ≤ j → j < xs.length → PatOk (rd_T42 xs j).f0 (rd_T42 xs j).f1
theorem PatsFrom.step {xs : List S42} {i : Nat} (hi : i < xs.length) : PatsFrom xs i ↔ PatOk (rd_T42 xs i).f0 (rd_T42 xs i).f1 ∧ PatsFrom xs (i + 1) := by
  constructor
  · exact fun h => ⟨h i (Nat.le_refl _) hi, fun j h1 h2 => h j (by omega) h2⟩
  · rintro ⟨h1, h2⟩ j hj hs
    rcases Nat.eq_or_lt_of_le hj with rfl | h
    · exact h1
    · exact h2 j h hs
/-- Sizes in reach. -/
def Sized (xs : List S42) : Prop := xs.length ≤ 1000000 ∧ ∀ x ∈ xs, x.f0.size ≤ 1000000 ∧ x.f1.length ≤ 1000000
theorem Sized.at {xs : List S42} (h : Sized xs) (i : Nat) (hi : i < xs.length) : (rd_T42 xs i).f0.size ≤ 1000000 ∧ (rd_T42 xs i).f1.length ≤ 1000000 := by
  refine h.2 _ ?_
  unfold rd_T42
  have e : ((i : Nat) : Int).toNat = i := rfl
  rw [e, List.getD_eq_getElem?_getD, List.getElem?_eq_getElem hi]
  exact List.getElem_mem hi
def PatsOk (xs : List S42) : Prop := PatsFrom xs 0 ∧ xs.length ≤ 20
theorem implPats_ev (xs : List S42) (hx : Sized xs) : EvQ (fun k => impl_patternsOk.f k xs) (fun r => r = true ↔ PatsOk xs) := by
  have hlen := hx.1
  have loop : ∀ (m i : Nat), i + m = xs.length → EvQ (fun k => impl_patternsOk.l0 k xs xs (xs.length : Int) (i : Int)) (fun r => r = true ↔ PatsFrom xs i ∧ xs.length ≤ 20) := by
    intro m
    induction m with
    | zero =>
      intro i hi
      refine EvQ.succ (fun k => by rw [impl_patternsOk.l0]) ?_
      refine EvQ.neg (by omega) (EvQ.pure ?_)
      rw [decide_eq_true_iff]
      exact ⟨fun h => ⟨fun j h1 h2 => by omega, by omega⟩, fun h => by omega⟩
    | succ m ih =>
      intro i hi
      refine EvQ.succ (fun k => by rw [impl_patternsOk.l0]) ?_
      refine EvQ.pos (by omega) (EvQ.pos (by omega) (EvQ.pos (by omega) ?_))
      have hz := hx.at i (by omega)
      refine EvQ.bind (implPat_ev _ _ hz.1 hz.2) fun r hr => ?_
      refine EvQ.both (fun h => ?_) (fun h => EvQ.pure ?_)
      · rw [w64 (by omega) (by omega)]
        refine (ih (i + 1) (by omega)).imp fun u hu => ?_
        rw [hu, PatsFrom.step (i := i) (by omega)]
        exact ⟨fun h3 => ⟨⟨hr.1 h, h3.1⟩, h3.2⟩, fun h3 => ⟨h3.1.2, h3.2⟩⟩
      · rw [PatsFrom.step (i := i) (by omega)]
        constructor
        · intro e; cases e
        · exact fun h2 => absurd (hr.2 h2.1.1) h
  unfold impl_patternsOk.f
  exact loop xs.length 0 (by omega)
theorem specPats_ev (xs : List S42) (hx : Sized xs) : EvQ (fun k => spec_l9Patterns.f k xs) (fun r => r = true ↔ PatsOk xs) := by
  have hlen := hx.1
  have loop : ∀ (m i : Nat), i + m = xs.length → EvQ (fun k => spec_l9Patterns.l0 k xs (i : Int)) (fun r => r = true ↔ PatsFrom xs i ∧ xs.length ≤ 20) := by
    intro m
    induction m with
    | zero =>
      intro i hi
      refine EvQ.succ (fun k => by rw [spec_l9Patterns.l0]) ?_
      refine EvQ.neg (by omega) (EvQ.pure ?_)
      rw [decide_eq_true_iff]
      exact ⟨fun h => ⟨fun j h1 h2 => by omega, by omega⟩, fun h => by omega⟩
    | succ m ih =>
      intro i hi
      refine EvQ.succ (fun k => by rw [spec_l9Patterns.l0]) ?_
      refine EvQ.pos (by omega) (EvQ.pos (by omega) ?_)
      have hz := hx.at i (by omega)
      refine EvQ.bind (specPat_ev _ _ hz.1 hz.2) fun r hr => ?_
      refine EvQ.both (fun h => ?_) (fun h => EvQ.pure ?_)
      · rw [w64 (by omega) (by omega)]
        refine (ih (i + 1) (by omega)).imp fun u hu => ?_
        rw [hu, PatsFrom.step (i := i) (by omega)]
        exact ⟨fun h3 => ⟨⟨hr.1 h, h3.1⟩, h3.2⟩, fun h3 => ⟨h3.1.2, h3.2⟩⟩
      · rw [PatsFrom.step (i := i) (by omega)]
        constructor
        · intro e; cases e
        · exact fun h2 => absurd (hr.2 h2.1.1) h
  unfold spec_l9Patterns.f
  exact loop xs.length 0 (by omega)
end Go.Proofs.YtlmbmfnimpjgmaaDoor.P
