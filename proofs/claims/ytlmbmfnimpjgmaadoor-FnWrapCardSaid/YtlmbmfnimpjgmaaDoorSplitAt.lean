/- The places at which a word may be split: both sides find the same ones. -/
import Derived.Test.YtlmbmfnimpjgmaaDoorSplitOk
import Derived.Test.YtlmbmfnimpjgmaaDoorP12
import Derived.Laws.Strings
import Derived.Lib.SplitLaws
set_option linter.unusedVariables false
set_option linter.unusedSimpArgs false
namespace Go.Proofs.YtlmbmfnimpjgmaaDoor.P
open Go.RowKit Go.Proofs.YtlmbmfnimpjgmaaDoorW.PrintWords Go.Proofs.YtlmbmfnimpjgmaaDoorW.PrintLast Go.Proofs.YtlmbmfnimpjgmaaDoorW.PrintMore

theorem toList_data (s : ByteArray) : s.toList = s.data.toList := Go.ByteArray.toList_eq s
theorem sz (s : ByteArray) : s.data.toList.length = s.size := by rw [Array.length_toList]; rfl
/-- A pattern's letters stand at a place. -/
def Mt (D a : ByteArray) (at_ : Nat) : Prop := at_ + a.size ≤ D.size ∧ (D.data.toList.drop at_).take a.size = a.data.toList
instance (D a : ByteArray) (n : Nat) : Decidable (Mt D a n) := inferInstanceAs (Decidable (_ ∧ _))
/-- The greatest number ahead of each byte, as a function; one number more. -/
def upd (f : Nat → Int) (q : Nat) (v : Int) : Nat → Int := fun x => if x = q then (if f q < v then v else f q) else f x
def goN (n : List Int) (at_ : Nat) : Nat → Nat → (Nat → Int) → (Nat → Int)
  | 0, _, f => f
  | c + 1, j, f => goN n at_ c (j + 1) (upd f (at_ + j) (rd n j))
def goA (D a : ByteArray) (n : List Int) : Nat → Nat → (Nat → Int) → (Nat → Int)
  | 0, _, f => f
  | c + 1, p, f => goA D a n c (p + 1) (if Mt D a p then goN n p n.length 0 f else f)
def goL (D : ByteArray) (xs : List S42) : Nat → Nat → (Nat → Int) → (Nat → Int)
  | 0, _, f => f
  | c + 1, i, f => goL D xs c (i + 1) (goA D (rd_T42 xs i).f0 (rd_T42 xs i).f1 D.size 0 f)
theorem goA_none (D a : ByteArray) (n : List Int) (c : Nat) : ∀ (p : Nat) (f : Nat → Int), D.size < p + a.size → goA D a n c p f = f := by
  induction c with
  | zero => exact fun _ _ _ => rfl
  | succ c ih =>
    intro p f h
    unfold goA
    rw [if_neg (fun hm => by have := hm.1; omega), ih (p + 1) f (by omega)]

/-! ### The program's side: rows of len(word)+1 numbers -/
def RI (w : Nat) (f : Nat → Int) (xs : List Int) : Prop := xs.length = w + 1 ∧ ∀ p : Nat, p ≤ w → rd xs p = f (p + 1)
theorem rd_set (xs : List Int) (i j : Nat) (v : Int) (hi : i < xs.length) : rd (xs.set i v) j = if j = i then v else rd xs j := by
  unfold rd
  have e : ((j : Nat) : Int).toNat = j := rfl
  rw [e, List.getD_eq_getElem?_getD, List.getD_eq_getElem?_getD, List.getElem?_set]
  by_cases h : i = j
  · subst h; simp [hi]
  · rw [if_neg h, if_neg (fun h2 => h h2.symm)]
theorem mx_eq (a b : Int) : mx a b = if a < b then b else a := rfl
theorem RI.upd_in {w : Nat} {f : Nat → Int} {xs : List Int} (h : RI w f xs) {q : Nat} (v : Int) (hq : q ≤ w) : RI w (upd f (q + 1) v) (xs.set q (mx (rd xs q) v)) := by
  refine ⟨by rw [List.length_set]; exact h.1, fun p hp => ?_⟩
  rw [rd_set _ _ _ _ (by have := h.1; omega), h.2 q hq, mx_eq]
  unfold upd
  by_cases e : p = q
  · subst e; rw [if_pos rfl, if_pos rfl]
  · rw [if_neg e, if_neg (by omega), h.2 p hp]
theorem RI.upd_out {w : Nat} {f : Nat → Int} {xs : List Int} (h : RI w f xs) {q : Nat} (v : Int) (hq : q = 0 ∨ w + 1 < q) : RI w (upd f q v) xs := by
  refine ⟨h.1, fun p hp => ?_⟩
  unfold upd
  rw [if_neg (by omega), h.2 p hp]

section
variable (w : ByteArray) (x5 : List Int) (D : ByteArray) (xs : List S42) (hw : w.size ≤ 100) (hD : D.size = w.size + 2) (hx : Sized xs)
include hw hD hx

omit hx in
theorem implNums (n : List Int) (a : ByteArray) (hn : n.length ≤ 1000000) (p i : Nat) (hp : p < D.size) {Q : List Int → Prop} (c : Nat) : ∀ (j : Nat) (f : Nat → Int) (r : List Int), j + c = n.length → RI w.size f r →
    (∀ r', RI w.size (goN n p c j f) r' → EvQ (fun k => impl_SplitAt.l1 k w x5 r' D xs (xs.length : Int) (i : Int) (D.size : Int) ((p + 1 : Nat) : Int) a n) Q) →
    EvQ (fun k => impl_SplitAt.l2 k w x5 r D (p : Int) xs (xs.length : Int) (i : Int) (D.size : Int) (p : Int) n (n.length : Int) (j : Int) a n) Q := by
  induction c with
  | zero =>
    intro j f r hj hr go
    refine EvQ.succ (fun k => by rw [impl_SplitAt.l2]) ?_
    have e1 : wrap64 ((p : Int) + 1) = ((p + 1 : Nat) : Int) := by rw [w64 (by omega) (by omega)]; omega
    rw [e1]
    exact EvQ.neg (by omega) (go r hr)
  | succ c ih =>
    intro j f r hj hr go
    refine EvQ.succ (fun k => by rw [impl_SplitAt.l2]) ?_
    have e1 : wrap64 ((j : Int) + 1) = ((j + 1 : Nat) : Int) := by rw [w64 (by omega) (by omega)]; omega
    have e2 : wrap64 (wrap64 ((p : Int) + (j : Int)) - 1) = (p : Int) + (j : Int) - 1 := by rw [w64 (n := (p : Int) + (j : Int)) (by omega) (by omega), w64 (by omega) (by omega)]
    simp only [e1, e2, within_ev]
    refine EvQ.pos (by omega) (EvQ.pos (by omega) (EvQ.pos (by omega) (EvQ.some_bind (EvQ.both (fun h => ?_) (fun h => ?_)))))
    · rw [decide_eq_true_iff] at h
      have hl := hr.1
      obtain ⟨q, hq⟩ : ∃ q : Nat, (p : Int) + (j : Int) - 1 = (q : Int) := ⟨((p : Int) + (j : Int) - 1).toNat, by omega⟩
      rw [hq]
      have e3 : ((q : Nat) : Int).toNat = q := rfl
      rw [e3]
      refine EvQ.pos (by omega) (EvQ.pos (by omega) ?_)
      have hr' := hr.upd_in (q := q) (rd n j) (by omega)
      have e4 : q + 1 = p + j := by omega
      rw [e4] at hr'
      exact ih (j + 1) _ _ (by omega) hr' go
    · rw [decide_eq_true_iff] at h
      exact ih (j + 1) _ _ (by omega) (hr.upd_out (q := p + j) (rd n j) (by omega)) go

omit hw hx in
theorem prefix_ev (a : ByteArray) (p : Nat) (hp : p ≤ D.size) (hD2 : D.size ≤ 1000) : strings_HasPrefix.f (D.extract (p : Int).toNat D.size) a = some (decide (Mt D a p)) := by
  have e4 : ((p : Nat) : Int).toNat = p := rfl
  have e5 : ((a.size : Nat) : Int).toNat = a.size := rfl
  have h1 : (D.extract p D.size).size = D.size - p := by rw [ByteArray.size_extract]; omega
  unfold strings_HasPrefix.f stringslite_HasPrefix.f
  rw [e4, h1, e5]
  by_cases h : ((D.size - p : Nat) : Int) ≥ (a.size : Int)
  · rw [if_pos h, if_pos (by omega), if_pos (by omega), Option.bind_some]
    congr 1
    rw [Bool.eq_iff_iff, beq_iff_eq, decide_eq_true_iff, toList_data, toList_data, Lib.extract_data, Lib.extract_to_end]
    unfold Mt
    simp only [List.drop_zero, Nat.sub_zero]
    exact ⟨fun h2 => ⟨by omega, h2⟩, fun h2 => h2.2⟩
  · rw [if_neg h, Option.bind_some]
    congr 1
    symm
    rw [decide_eq_false_iff_not]
    rintro ⟨h2, _⟩
    omega
theorem implAts (n : List Int) (a : ByteArray) (hn : n.length ≤ 1000000) (i : Nat) (hi : i < xs.length) {Q : List Int → Prop} (c : Nat) : ∀ (p : Nat) (f : Nat → Int) (r : List Int), p + c = D.size → RI w.size f r →
    (∀ r', RI w.size (goA D a n c p f) r' → EvQ (fun k => impl_SplitAt.l0 k w x5 r' D xs (xs.length : Int) ((i + 1 : Nat) : Int)) Q) →
    EvQ (fun k => impl_SplitAt.l1 k w x5 r D xs (xs.length : Int) (i : Int) (D.size : Int) (p : Int) a n) Q := by
  have hxl := hx.1
  induction c with
  | zero =>
    intro p f r hp hr go
    refine EvQ.succ (fun k => by rw [impl_SplitAt.l1]) ?_
    have e1 : wrap64 ((i : Int) + 1) = ((i + 1 : Nat) : Int) := by rw [w64 (by omega) (by omega)]; omega
    rw [e1]
    exact EvQ.neg (by omega) (go r hr)
  | succ c ih =>
    intro p f r hp hr go
    refine EvQ.succ (fun k => by rw [impl_SplitAt.l1]) ?_
    have e1 : wrap64 ((p : Int) + 1) = ((p + 1 : Nat) : Int) := by rw [w64 (by omega) (by omega)]; omega
    rw [e1, prefix_ev w D hD a p (by omega) (by omega)]
    refine EvQ.pos (by omega) (EvQ.pos (by omega) (EvQ.pos (by omega) (EvQ.some_bind (EvQ.both (fun h => ?_) (fun h => ?_)))))
    · rw [decide_eq_true_iff] at h
      refine implNums w x5 D xs hw hD n a hn p i (by omega) n.length 0 f r (by omega) hr fun r' hr' => ?_
      refine ih (p + 1) _ r' (by omega) hr' fun r2 hr2 => go r2 ?_
      unfold goA
      rw [if_pos h]
      exact hr2
    · rw [decide_eq_true_iff] at h
      refine ih (p + 1) _ r (by omega) hr fun r2 hr2 => go r2 ?_
      unfold goA
      rw [if_neg h]
      exact hr2
theorem implList {Q : List Int → Prop} (c : Nat) : ∀ (i : Nat) (f : Nat → Int) (r : List Int), i + c = xs.length → RI w.size f r →
    (∀ r', RI w.size (goL D xs c i f) r' → EvQ (fun k => impl_SplitAt.l3 k w x5 r' 2) Q) →
    EvQ (fun k => impl_SplitAt.l0 k w x5 r D xs (xs.length : Int) (i : Int)) Q := by
  have hxl := hx.1
  induction c with
  | zero =>
    intro i f r hi hr go
    refine EvQ.succ (fun k => by rw [impl_SplitAt.l0]) ?_
    exact EvQ.neg (by omega) (go r hr)
  | succ c ih =>
    intro i f r hi hr go
    refine EvQ.succ (fun k => by rw [impl_SplitAt.l0]) ?_
    refine EvQ.pos (by omega) (EvQ.pos (by omega) (EvQ.pos (by omega) ?_))
    have hz := hx.at i (by omega)
    refine implAts w x5 D xs hw hD hx _ _ hz.2 i (by omega) D.size 0 f r (by omega) hr fun r' hr' => ?_
    exact ih (i + 1) _ r' (by omega) hr' go
end

/-! ### The places -/
def goP (f : Nat → Int) : Nat → Nat → List Int → List Int
  | 0, _, o => o
  | c + 1, p, o => goP f c (p + 1) (if Int.tmod (f (p + 1)) 2 = 1 then o ++ [(p : Int)] else o)
/-- Ascending, within bounds. -/
def Places (w : Nat) (lim : Nat) (o : List Int) : Prop := o.Pairwise (· ≤ ·) ∧ (∀ p ∈ o, 2 ≤ p ∧ p < (lim : Int) ∧ p + 2 ≤ (w : Int)) ∧ o.length ≤ lim
theorem goP_places (f : Nat → Int) (w : Nat) (c : Nat) : ∀ (p : Nat) (o : List Int), 2 ≤ p → p + c ≤ w - 1 ∨ c = 0 → Places w p o → Places w (p + c) (goP f c p o) := by
  induction c with
  | zero => exact fun p o _ _ h => h
  | succ c ih =>
    intro p o hp hc h
    unfold goP
    have e : p + (c + 1) = p + 1 + c := by omega
    rw [e]
    refine ih (p + 1) _ (by omega) (by omega) ?_
    obtain ⟨h1, h2, h3⟩ := h
    split
    · refine ⟨List.pairwise_append.2 ⟨h1, List.pairwise_singleton _ _, fun a ha b hb => ?_⟩, fun q hq => ?_, by rw [List.length_append, List.length_singleton]; omega⟩
      · obtain rfl := List.mem_singleton.1 hb
        have := h2 a ha
        omega
      · rcases List.mem_append.1 hq with hq | hq
        · have := h2 q hq
          omega
        · obtain rfl := List.mem_singleton.1 hq
          omega
    · exact ⟨h1, fun q hq => by have := h2 q hq; omega, by omega⟩
theorem implPlaces (w : ByteArray) (hw : w.size ≤ 100) (f : Nat → Int) (r : List Int) (hr : RI w.size f r) (c : Nat) : ∀ (p : Nat) (o : List Int), 2 ≤ p → p + c = max p (w.size - 1) → o.length ≤ p →
    EvQ (fun k => impl_SplitAt.l3 k w o r (p : Int)) (fun u => u = goP f c p o) := by
  have hl := hr.1
  induction c with
  | zero =>
    intro p o hp hc ho
    refine EvQ.succ (fun k => by rw [impl_SplitAt.l3]) ?_
    rw [w64 (by omega) (by omega)]
    exact EvQ.neg (by omega) (EvQ.pure rfl)
  | succ c ih =>
    intro p o hp hc ho
    refine EvQ.succ (fun k => by rw [impl_SplitAt.l3]) ?_
    have e1 : wrap64 ((p : Int) + 1) = ((p + 1 : Nat) : Int) := by rw [w64 (by omega) (by omega)]; omega
    rw [w64 (n := (w.size : Int) - 2) (by omega) (by omega), e1, hr.2 p (by omega)]
    refine EvQ.pos (by omega) (EvQ.pos (by omega) (EvQ.pos (by omega) (EvQ.both (fun h => ?_) (fun h => ?_))))
    · refine EvQ.pos (by omega) ?_
      have := ih (p + 1) (o ++ [(p : Int)]) (by omega) (by omega) (by rw [List.length_append, List.length_singleton]; omega)
      unfold goP
      rw [if_pos h]
      exact this
    · have := ih (p + 1) o (by omega) (by omega) (by omega)
      unfold goP
      rw [if_neg h]
      exact this

/-! ### The specification's side -/
def RS (m : Nat) (f : Nat → Int) (xs : List Int) : Prop := xs.length = m + 1 ∧ ∀ q : Nat, q ≤ m → rd xs q = f q
section
variable (D : ByteArray) (xs : List S42) (hD : D.size ≤ 200) (hx : Sized xs)
include hD hx
theorem specNums (i p : Nat) (hi : i < xs.length) (hok : (rd_T42 xs i).f1.length = (rd_T42 xs i).f0.size + 1) (hm : Mt D (rd_T42 xs i).f0 p) {Q : List Int → Prop} (c : Nat) : ∀ (j : Nat) (f : Nat → Int) (r : List Int), j + c = (rd_T42 xs i).f1.length → RS D.size f r →
    (∀ r', RS D.size (goN (rd_T42 xs i).f1 p c j f) r' → EvQ (fun k => spec_l9Marks.l1 k xs D r' (i : Int) ((rd_T42 xs i).f0.size : Int) ((p + 1 : Nat) : Int)) Q) →
    EvQ (fun k => spec_l9Marks.l2 k xs D r (i : Int) ((rd_T42 xs i).f0.size : Int) (p : Int) (j : Int)) Q := by
  have hxl := hx.1
  have hz := hx.at i hi
  have hm1 := hm.1
  induction c with
  | zero =>
    intro j f r hj hr go
    refine EvQ.succ (fun k => by rw [spec_l9Marks.l2]) ?_
    refine EvQ.neg (by omega) ?_
    refine EvQ.succ (fun k => by rw [spec_l9Marks.j3]) ?_
    have e1 : wrap64 ((p : Int) + 1) = ((p + 1 : Nat) : Int) := by rw [w64 (by omega) (by omega)]; omega
    rw [e1]
    exact EvQ.neg (by decide) (go r hr)
  | succ c ih =>
    intro j f r hj hr go
    have hl := hr.1
    refine EvQ.succ (fun k => by rw [spec_l9Marks.l2]) ?_
    have e1 : wrap64 ((p : Int) + ((rd_T42 xs i).f0.size : Int)) = ((p + (rd_T42 xs i).f0.size : Nat) : Int) := by rw [w64 (by omega) (by omega)]; omega
    have e2 : ((p : Nat) : Int).toNat = p := rfl
    have e3 : ((p + (rd_T42 xs i).f0.size : Nat) : Int).toNat = p + (rd_T42 xs i).f0.size := rfl
    have e4 : ((D.extract p (p + (rd_T42 xs i).f0.size)).toList == (rd_T42 xs i).f0.toList) = true := by
      rw [beq_iff_eq, toList_data, toList_data, Lib.extract_data, Nat.add_sub_cancel_left]
      exact hm.2
    rw [e1, e2, e3, e4]
    refine EvQ.pos (by omega) (EvQ.pos (by omega) (EvQ.pos (by omega) (EvQ.pos (by omega) (EvQ.pos (by omega) (EvQ.pos (by omega) ?_)))))
    clear e1 e2 e3 e4
    refine EvQ.succ (fun k => by rw [spec_l9Marks.j3]) ?_
    have hj3 : j < 1000000 := by omega
    have hp3 : p ≤ 200 := by omega
    have e5 : wrap64 ((p : Int) + (j : Int)) = ((p + j : Nat) : Int) := w64 (n := (p : Int) + (j : Int)) (by clear hz hm1 hj hl; omega) (by clear hz hm1 hj hl; omega)
    have e6 : wrap64 ((j : Int) + 1) = ((j + 1 : Nat) : Int) := w64 (n := (j : Int) + 1) (by clear hz hm1 hj hl; omega) (by clear hz hm1 hj hl; omega)
    have e7 : ((p + j : Nat) : Int).toNat = p + j := rfl
    rw [e5, e6, e7]
    clear e5 e6 e7
    refine EvQ.pos rfl (EvQ.pos (by omega) (EvQ.pos (by omega) (EvQ.pos (by omega) (EvQ.pos (by omega) (EvQ.pos (by omega) (EvQ.pos (by omega) (EvQ.both (fun h => ?_) (fun h => ?_))))))))
    · refine ih (j + 1) (upd f (p + j) (rd (rd_T42 xs i).f1 j)) _ (by omega) ⟨by rw [List.length_set]; exact hl, fun q hq => ?_⟩ go
      rw [hr.2 (p + j) (by omega)] at h
      rw [rd_set _ _ _ _ (by omega)]
      unfold upd
      by_cases e : q = p + j
      · rw [if_pos e, if_pos e, if_pos h]
      · rw [if_neg e, if_neg e, hr.2 q hq]
    · refine ih (j + 1) (upd f (p + j) (rd (rd_T42 xs i).f1 j)) _ (by omega) ⟨hl, fun q hq => ?_⟩ go
      rw [hr.2 (p + j) (by omega)] at h
      unfold upd
      by_cases e : q = p + j
      · rw [if_pos e, if_neg (by omega), e, hr.2 _ (by omega)]
      · rw [if_neg e, hr.2 q hq]
theorem specAts (i : Nat) (hi : i < xs.length) (hok : (rd_T42 xs i).f1.length = (rd_T42 xs i).f0.size + 1) {Q : List Int → Prop} (c : Nat) : ∀ (p : Nat) (f : Nat → Int) (r : List Int), p + c = D.size + 1 → RS D.size f r →
    (∀ r', RS D.size (goA D (rd_T42 xs i).f0 (rd_T42 xs i).f1 c p f) r' → EvQ (fun k => spec_l9Marks.l0 k xs D r' ((i + 1 : Nat) : Int)) Q) →
    EvQ (fun k => spec_l9Marks.l1 k xs D r (i : Int) ((rd_T42 xs i).f0.size : Int) (p : Int)) Q := by
  have hxl := hx.1
  have hz := hx.at i hi
  have e1 : wrap64 ((i : Int) + 1) = ((i + 1 : Nat) : Int) := by rw [w64 (by omega) (by omega)]; omega
  induction c with
  | zero =>
    intro p f r hp hr go
    refine EvQ.succ (fun k => by rw [spec_l9Marks.l1]) ?_
    rw [e1, w64 (by omega) (by omega)]
    exact EvQ.neg (by omega) (go r hr)
  | succ c ih =>
    intro p f r hp hr go
    refine EvQ.succ (fun k => by rw [spec_l9Marks.l1]) ?_
    rw [e1, w64 (n := (p : Int) + _) (by omega) (by omega)]
    refine EvQ.both (fun h => ?_) (fun h => ?_)
    · by_cases hm : Mt D (rd_T42 xs i).f0 p
      · refine specNums D xs hD hx i p hi hok hm (rd_T42 xs i).f1.length 0 f r (by omega) hr fun r' hr' => ?_
        refine ih (p + 1) _ r' (by omega) hr' fun r2 hr2 => go r2 ?_
        unfold goA
        rw [if_pos hm]
        exact hr2
      · refine EvQ.succ (fun k => by rw [spec_l9Marks.l2]) ?_
        have e2 : ((p : Nat) : Int).toNat = p := rfl
        have e5 : wrap64 ((p : Int) + ((rd_T42 xs i).f0.size : Int)) = ((p + (rd_T42 xs i).f0.size : Nat) : Int) := by rw [w64 (by omega) (by omega)]; omega
        have e3 : ((p + (rd_T42 xs i).f0.size : Nat) : Int).toNat = p + (rd_T42 xs i).f0.size := rfl
        have e4 : ((D.extract p (p + (rd_T42 xs i).f0.size)).toList == (rd_T42 xs i).f0.toList) = false := by
          rw [beq_eq_false_iff_ne, toList_data, toList_data, Lib.extract_data, Nat.add_sub_cancel_left]
          exact fun h2 => hm ⟨by omega, h2⟩
        rw [e5, e2, e3, e4]
        clear e5 e2 e3 e4
        refine EvQ.pos (by omega) (EvQ.pos (by omega) (EvQ.pos (by omega) (EvQ.pos (by omega) (EvQ.pos (by omega) (EvQ.pos (by omega) ?_)))))
        refine EvQ.succ (fun k => by rw [spec_l9Marks.j3]) ?_
        have e6 : wrap64 ((p : Int) + 1) = ((p + 1 : Nat) : Int) := by rw [w64 (by omega) (by omega)]; omega
        rw [e6]
        refine EvQ.neg (by decide) (ih (p + 1) _ r (by omega) hr fun r2 hr2 => go r2 ?_)
        unfold goA
        rw [if_neg hm]
        exact hr2
    · have := goA_none D (rd_T42 xs i).f0 (rd_T42 xs i).f1 (c + 1) p f (by omega)
      rw [this] at go
      exact go r hr
theorem specList (hok : ∀ i : Nat, i < xs.length → 1 ≤ (rd_T42 xs i).f0.size ∧ (rd_T42 xs i).f1.length = (rd_T42 xs i).f0.size + 1) {Q : List Int → Prop} (c : Nat) : ∀ (i : Nat) (f : Nat → Int) (r : List Int), i + c = xs.length → RS D.size f r →
    (∀ r', RS D.size (goL D xs c i f) r' → Q r') → EvQ (fun k => spec_l9Marks.l0 k xs D r (i : Int)) Q := by
  have hxl := hx.1
  induction c with
  | zero =>
    intro i f r hi hr go
    refine EvQ.succ (fun k => by rw [spec_l9Marks.l0]) ?_
    exact EvQ.neg (by omega) (EvQ.pure (go r hr))
  | succ c ih =>
    intro i f r hi hr go
    refine EvQ.succ (fun k => by rw [spec_l9Marks.l0]) ?_
    refine EvQ.pos (by omega) (EvQ.pos (by omega) ?_)
    have ho := hok i (by omega)
    refine specAts D xs hD hx i (by omega) ho.2 (D.size + 1) 0 f r (by omega) hr fun r' hr' => ?_
    refine ih (i + 1) _ r' (by omega) ?_ go
    have e : ∀ c p f, goA D (rd_T42 xs i).f0 (rd_T42 xs i).f1 (c + 1) p f = goA D (rd_T42 xs i).f0 (rd_T42 xs i).f1 c p f ∨ p + c ≠ D.size := by
      intro c
      induction c with
      | zero =>
        intro p f
        by_cases hp : p = D.size
        · left
          unfold goA
          rw [if_neg (fun hm => by have := hm.1; omega)]
          rfl
        · exact .inr (by omega)
      | succ c ihc =>
        intro p f
        by_cases hp : p + (c + 1) = D.size
        · left
          rw [goA]
          rcases ihc (p + 1) (if Mt D (rd_T42 xs i).f0 p then goN (rd_T42 xs i).f1 p (rd_T42 xs i).f1.length 0 f else f) with h | h
          · rw [h, ← goA]
          · omega
        · exact .inr hp
    rcases e D.size 0 f with h | h
    · rw [h] at hr'
      exact hr'
    · omega
end
theorem specPlaces (w : ByteArray) (hw : w.size ≤ 100) (f : Nat → Int) (r : List Int) (hr : RS (w.size + 2) f r) (c : Nat) : ∀ (p : Nat) (o : List Int), 2 ≤ p → p + c = max p (w.size - 1) → o.length ≤ p →
    EvQ (fun k => spec_l9At.l0 k w o r (p : Int)) (fun u => u = goP f c p o) := by
  have hl := hr.1
  induction c with
  | zero =>
    intro p o hp hc ho
    refine EvQ.succ (fun k => by rw [spec_l9At.l0]) ?_
    rw [w64 (n := (w.size : Int) - 2) (by omega) (by omega)]
    exact EvQ.neg (by omega) (EvQ.pure rfl)
  | succ c ih =>
    intro p o hp hc ho
    refine EvQ.succ (fun k => by rw [spec_l9At.l0]) ?_
    have e1 : wrap64 ((p : Int) + 1) = ((p + 1 : Nat) : Int) := by rw [w64 (by omega) (by omega)]; omega
    rw [w64 (n := (w.size : Int) - 2) (by omega) (by omega), e1, hr.2 (p + 1) (by omega)]
    refine EvQ.pos (by omega) (EvQ.pos (by omega) (EvQ.pos (by omega) (EvQ.both (fun h => ?_) (fun h => ?_))))
    · refine EvQ.pos (by omega) ?_
      have := ih (p + 1) (o ++ [(p : Int)]) (by omega) (by omega) (by rw [List.length_append, List.length_singleton]; omega)
      unfold goP
      rw [if_pos h]
      exact this
    · have := ih (p + 1) o (by omega) (by omega) (by omega)
      unfold goP
      rw [if_neg h]
      exact this

/-! ### Both -/
theorem dotted_size (w : ByteArray) : ((((⟨#[46]⟩ : ByteArray) ++ w) ++ (⟨#[46]⟩ : ByteArray))).size = w.size + 2 := by
  rw [ByteArray.size_append, ByteArray.size_append]
  show 1 + w.size + 1 = w.size + 2
  omega
theorem rd_zero (n i : Nat) : rd (List.replicate n 0) i = 0 := by
  unfold rd
  rw [List.getD_eq_getElem?_getD, List.getElem?_replicate]
  split <;> rfl
/-- The places, as the specification tells them of words alone. -/
def spec_SplitAt.f (k : Nat) (l0 : List (S42)) (a1 : ByteArray) : Option (List Int) := (spec_l9Patterns.f k l0).bind fun t316 => (if t316 = true then ((spec_l1Word.f k a1).bind fun t317 => (if t317 = true then ((spec_l9At.f k l0 a1).bind fun t318 => (some t318)) else (some (([] : List Int))))) else (some (([] : List Int))))
/-- The two answers are one; what it is like. -/
theorem splitAt_ev (xs : List S42) (w : ByteArray) (hx : Sized xs) (hw : w.size ≤ 100) :
    ∃ ps : List Int, EvQ (fun k => impl_SplitAt.f k xs w) (· = ps) ∧ EvQ (fun k => spec_SplitAt.f k xs w) (· = ps) ∧ Places w.size 100 ps ∧ (¬ IsWord w → ps = []) := by
  have hxl := hx.1
  by_cases hp : PatsOk xs
  · by_cases hq : IsWord w
    · have hws := hq.1
      let D : ByteArray := ((⟨#[46]⟩ : ByteArray) ++ w) ++ (⟨#[46]⟩ : ByteArray)
      have hD : D.size = w.size + 2 := dotted_size w
      let f := goL D xs xs.length 0 (fun _ => 0)
      refine ⟨goP f (w.size - 1 - 2) 2 [], ?_, ?_, ?_, fun h => absurd hq h⟩
      · unfold impl_SplitAt.f
        refine EvQ.some_bind (EvQ.bind (implPats_ev xs hx) fun r hr => ?_)
        refine EvQ.pos (hr.2 hp) (EvQ.bind (implWord_ev w (by omega)) fun u hu => ?_)
        rw [hu.2 hq]
        refine EvQ.succ (fun k => by rw [impl_SplitAt.j0]) ?_
        have e1 : wrap64 ((w.size : Int) + 1) = ((w.size + 1 : Nat) : Int) := by rw [w64 (by omega) (by omega)]; omega
        have e2 : ((w.size + 1 : Nat) : Int).toNat = w.size + 1 := rfl
        rw [e1, e2]
        refine EvQ.neg (by decide) (EvQ.pos (by omega) (EvQ.pos (by omega) (EvQ.pos (by omega) (EvQ.pos (by omega) ?_))))
        refine implList w [] D xs hw hD hx xs.length 0 (fun _ => 0) _ (by omega) ⟨List.length_replicate, fun p _ => rd_zero _ _⟩ fun r' hr' => ?_
        exact implPlaces w hw f r' hr' (w.size - 1 - 2) 2 [] (by omega) (by omega) (by simp)
      · unfold spec_SplitAt.f
        refine EvQ.bind (specPats_ev xs hx) fun r hr => ?_
        refine EvQ.pos (hr.2 hp) (EvQ.bind (specWord_ev w (by omega)) fun u hu => ?_)
        refine EvQ.pos (hu.2 hq) (EvQ.bind (Q := (· = goP f (w.size - 1 - 2) 2 [])) ?_ fun v hv => EvQ.pure hv)
        unfold spec_l9At.f
        refine EvQ.pos (by omega) (EvQ.pos (by omega) ?_)
        refine EvQ.bind (Q := fun r => RS (w.size + 2) f r) ?_ fun v hv => specPlaces w hw f v hv (w.size - 1 - 2) 2 [] (by omega) (by omega) (by simp)
        unfold spec_l9Marks.f
        have e0 : ((((⟨#[46]⟩ : ByteArray) ++ w) ++ (⟨#[46]⟩ : ByteArray))).size = w.size + 2 := hD
        have e1 : wrap64 ((((((⟨#[46]⟩ : ByteArray) ++ w) ++ (⟨#[46]⟩ : ByteArray))).size : Int) + 1) = ((w.size + 3 : Nat) : Int) := by rw [e0, w64 (by omega) (by omega)]; omega
        have e2 : ((w.size + 3 : Nat) : Int).toNat = w.size + 3 := rfl
        rw [e1, e2]
        refine EvQ.pos (by omega) (EvQ.pos (by omega) ?_)
        refine specList D xs (by omega) hx (fun i hi => ?_) xs.length 0 (fun _ => 0) _ (by omega) ⟨by rw [List.length_replicate, hD], fun p _ => rd_zero _ _⟩ fun r' hr' => by rw [hD] at hr'; exact hr'
        have := hp.1 i (Nat.zero_le _) hi
        exact ⟨this.1.1, this.1.2.2⟩
      · have := goP_places f w.size (w.size - 1 - 2) 2 [] (by omega) (by omega) ⟨List.Pairwise.nil, (fun p hp => by cases hp), by simp⟩
        exact ⟨this.1, fun p hp => by have := this.2.1 p hp; omega, by have := this.2.2; omega⟩
    · refine ⟨[], ?_, ?_, ⟨List.Pairwise.nil, (fun p hp => by cases hp), by simp⟩, fun _ => rfl⟩
      · unfold impl_SplitAt.f
        refine EvQ.some_bind (EvQ.bind (implPats_ev xs hx) fun r hr => ?_)
        refine EvQ.pos (hr.2 hp) (EvQ.bind (implWord_ev w (by omega)) fun u hu => ?_)
        have : u = false := by
          cases u with
          | false => rfl
          | true => exact absurd (hu.1 rfl) hq
        subst this
        refine EvQ.succ (fun k => by rw [impl_SplitAt.j0]) ?_
        exact EvQ.pos rfl (EvQ.pure rfl)
      · unfold spec_SplitAt.f
        refine EvQ.bind (specPats_ev xs hx) fun r hr => ?_
        refine EvQ.pos (hr.2 hp) (EvQ.bind (specWord_ev w (by omega)) fun u hu => ?_)
        exact EvQ.neg (fun h => hq (hu.1 h)) (EvQ.pure rfl)
  · refine ⟨[], ?_, ?_, ⟨List.Pairwise.nil, (fun p hp => by cases hp), by simp⟩, fun _ => rfl⟩
    · unfold impl_SplitAt.f
      refine EvQ.some_bind (EvQ.bind (implPats_ev xs hx) fun r hr => ?_)
      refine EvQ.neg (fun h => hp (hr.1 h)) ?_
      refine EvQ.succ (fun k => by rw [impl_SplitAt.j0]) ?_
      exact EvQ.pos rfl (EvQ.pure rfl)
    · unfold spec_SplitAt.f
      refine EvQ.bind (specPats_ev xs hx) fun r hr => ?_
      exact EvQ.neg (fun h => hp (hr.1 h)) (EvQ.pure rfl)
end Go.Proofs.YtlmbmfnimpjgmaaDoor.P
