/- The plain law of FnSplitText: a word that is split is the word again without strokes; the program's text is the specification's. -/
import Derived.Test.YtlmbmfnimpjgmaaDoorSplitAt
import Derived.Test.YtlmbmfnimpjgmaaDoorSplitDraws
import Derived.Test.YtlmbmfnimpjgmaaDoorP10
import Derived.Lib.IndexBytes
import Derived.Lib.Replace
set_option linter.unusedVariables false
set_option linter.unusedSimpArgs false
namespace Go.Proofs.YtlmbmfnimpjgmaaDoor.P
open Go.RowKit Go.Proofs.YtlmbmfnimpjgmaaDoorW.PrintWords Go.Proofs.YtlmbmfnimpjgmaaDoorW.PrintLast Go.Proofs.YtlmbmfnimpjgmaaDoorW.PrintMore

/-- A text cut at places, strokes between. -/
def joinT (w : List UInt8) : Nat → List Int → List UInt8
  | i, [] => w.drop i
  | i, p :: ps => (w.drop i).take (p.toNat - i) ++ 45 :: joinT w p.toNat ps
/-- From a byte on, ascending, within. -/
def Up (m : Nat) : Nat → List Int → Prop
  | i, [] => i ≤ m
  | i, p :: ps => 0 ≤ p ∧ i ≤ p.toNat ∧ p.toNat ≤ m ∧ Up m p.toNat ps
theorem Up.le {m : Nat} {i : Nat} {ps : List Int} (h : Up m i ps) : i ≤ m := by
  cases ps with
  | nil => exact h
  | cons p ps => obtain ⟨_, h1, h2, _⟩ := h; omega
theorem Up.back {m : Nat} {i j : Nat} {ps : List Int} (h : Up m i ps) (hj : j ≤ i) : Up m j ps := by
  cases ps with
  | nil => exact Nat.le_trans hj h
  | cons p ps => obtain ⟨h0, h1, h2, h3⟩ := h; exact ⟨h0, by omega, h2, h3⟩
theorem joinT_len (w : List UInt8) (ps : List Int) : ∀ i, Up w.length i ps → (joinT w i ps).length = w.length - i + ps.length := by
  induction ps with
  | nil => intro i h; simp [joinT]
  | cons p ps ih =>
    rintro i ⟨h0, h1, h2, h3⟩
    have := ih p.toNat h3
    simp only [joinT, List.length_append, List.length_take, List.length_drop, List.length_cons, this]
    omega
theorem joinT_cut (w : List UInt8) (ps : List Int) (i j : Nat) (hij : i ≤ j) (h : Up w.length j ps) : (joinT w i ps).take (j - i) = (w.drop i).take (j - i) ∧ (joinT w i ps).drop (j - i) = joinT w j ps := by
  cases ps with
  | nil =>
    refine ⟨rfl, ?_⟩
    simp only [joinT, List.drop_drop]
    rw [show i + (j - i) = j by omega]
  | cons p ps =>
    obtain ⟨h0, h1, h2, h3⟩ := h
    have hl : ((w.drop i).take (p.toNat - i)).length = p.toNat - i := by rw [List.length_take, List.length_drop]; omega
    simp only [joinT]
    constructor
    · rw [List.take_append_of_le_length (by omega), List.take_take, Nat.min_eq_left (by omega)]
    · rw [List.drop_append_of_le_length (by omega), List.drop_take, List.drop_drop]
      rw [show i + (j - i) = j by omega, show p.toNat - i - (j - i) = p.toNat - j by omega]
theorem bytes_ext {s t : ByteArray} (h : s.data.toList = t.data.toList) : s = t := Go.WideShapes.bytes_inj h
theorem data_app (s t : ByteArray) : (s ++ t).data.toList = s.data.toList ++ t.data.toList := by rw [ByteArray.data_append, Array.toList_append]
theorem up_of_places {m : Nat} {ps : List Int} (h1 : ps.Pairwise (· ≤ ·)) (h2 : ∀ p ∈ ps, 2 ≤ p ∧ p + 2 ≤ (m : Int)) : ∀ i : Nat, i ≤ m → (∀ p ∈ ps, (i : Int) ≤ p) → Up m i ps := by
  induction ps with
  | nil => exact fun i hi _ => hi
  | cons p ps ih =>
    intro i hi hp
    rw [List.pairwise_cons] at h1
    have a := h2 p (List.mem_cons_self ..)
    have b := hp p (List.mem_cons_self ..)
    refine ⟨by omega, by omega, by omega, ih h1.2 (fun q hq => h2 q (List.mem_cons_of_mem _ hq)) p.toNat (by omega) fun q hq => ?_⟩
    have := h1.1 q hq
    omega

/-! ### The program's text -/
theorem rd_at (ps : List Int) (i : Nat) (hi : i < ps.length) : rd ps i = ps[i] := by
  unfold rd
  have e : ((i : Nat) : Int).toNat = i := rfl
  rw [e, List.getD_eq_getElem?_getD, List.getElem?_eq_getElem hi]
  rfl
theorem up_drop {m : Nat} {ps : List Int} : ∀ {i : Nat}, Up m i ps → ∀ (n : Nat) (hn : n < ps.length), 0 ≤ ps[n] ∧ ps[n].toNat ≤ m ∧ Up m ps[n].toNat (ps.drop (n + 1)) := by
  induction ps with
  | nil => intro i h n hn; cases hn
  | cons p ps ih =>
    rintro i ⟨h0, h1, h2, h3⟩ n hn
    cases n with
    | zero => exact ⟨h0, h2, h3⟩
    | succ n => exact ih h3 n (by simpa using hn)
theorem up_drop0 {m : Nat} {ps : List Int} (h : Up m 0 ps) (n : Nat) (hn : n ≤ ps.length) : Up m 0 (ps.drop n) := by
  cases n with
  | zero => exact h
  | succ n => exact (up_drop h n (by omega)).2.2.back (Nat.zero_le _)
theorem implText_loop (w : ByteArray) (hw : w.size ≤ 100) (ps : List Int) (hps : ps.length ≤ 100) (hup : Up w.size 0 ps) (n : Nat) : ∀ (s : ByteArray), n ≤ ps.length →
    s.data.toList = joinT w.data.toList 0 (ps.drop n) → EvQ (fun k => impl_SplitText.l0 k s ps ((n : Int) - 1)) (fun r => r.data.toList = joinT w.data.toList 0 ps) := by
  induction n with
  | zero =>
    intro s hn hs
    refine EvQ.succ (fun k => by rw [impl_SplitText.l0]) ?_
    exact EvQ.neg (by omega) (EvQ.pure hs)
  | succ n ih =>
    intro s hn hs
    have e0 : ((n + 1 : Nat) : Int) - 1 = (n : Int) := by omega
    rw [e0]
    refine EvQ.succ (fun k => by rw [impl_SplitText.l0]) ?_
    rw [rd_at ps n (by omega)]
    have hd : ps.drop n = ps[n] :: ps.drop (n + 1) := List.drop_eq_getElem_cons (by omega)
    obtain ⟨u0, u2, u3⟩ := up_drop hup n (by omega)
    have hsl : s.size = w.size + (ps.length - (n + 1)) := by
      have := joinT_len w.data.toList (ps.drop (n + 1)) 0 (by rw [sz]; exact up_drop0 hup (n + 1) hn)
      rw [← hs, sz, sz, List.length_drop] at this
      omega
    refine EvQ.pos (by omega) (EvQ.pos (by omega) (EvQ.pos (by omega) (EvQ.pos u0 (EvQ.pos (by omega) (EvQ.pos (by omega) (EvQ.pos (by omega) ?_))))))
    rw [w64 (n := (n : Int) - 1) (by omega) (by omega)]
    have cut := joinT_cut w.data.toList (ps.drop (n + 1)) 0 (ps[n]).toNat (Nat.zero_le _) (by rw [sz]; exact u3)
    simp only [Nat.sub_zero, List.drop_zero] at cut
    refine ih _ (by omega) ?_
    rw [data_app, data_app, Lib.extract_data, Lib.extract_to_end, hs, hd]
    simp only [joinT, List.drop_zero, Nat.sub_zero]
    rw [cut.1, cut.2]
    simp
/-! ### The specification's -/
theorem specText_loop (w : ByteArray) (hw : w.size ≤ 100) (ps : List Int) (hps : ps.length ≤ 100) (c : Nat) : ∀ (j i : Nat) (s : ByteArray), j + c = ps.length → Up w.size i (ps.drop j) → s.size ≤ i + j →
    EvQ (fun k => spec_SplitText.l0 k w ps s (i : Int) (j : Int)) (fun r => r.data.toList = s.data.toList ++ joinT w.data.toList i (ps.drop j)) := by
  induction c with
  | zero =>
    intro j i s hj hu hs
    have hd : ps.drop j = [] := List.drop_eq_nil_of_le (by omega)
    have hi := hu.le
    refine EvQ.succ (fun k => by rw [spec_SplitText.l0]) ?_
    have e : ((i : Nat) : Int).toNat = i := rfl
    rw [e]
    clear e
    refine EvQ.neg (by omega) (EvQ.pos (by omega) (EvQ.pos (by omega) (EvQ.pos (by omega) (EvQ.pure ?_))))
    rw [data_app, Lib.extract_to_end, hd]
    rfl
  | succ c ih =>
    intro j i s hj hu hs
    have hd : ps.drop j = ps[j] :: ps.drop (j + 1) := List.drop_eq_getElem_cons (by omega)
    rw [hd] at hu ⊢
    obtain ⟨u0, u1, u2, u3⟩ := hu
    refine EvQ.succ (fun k => by rw [spec_SplitText.l0]) ?_
    have e : ((i : Nat) : Int).toNat = i := rfl
    rw [rd_at ps j (by omega), e]
    clear e
    refine EvQ.pos (by omega) (EvQ.pos (by omega) (EvQ.pos (by omega) (EvQ.pos (by omega) (EvQ.pos (by omega) (EvQ.pos (by omega) (EvQ.pos (by omega) ?_))))))
    have e1 : wrap64 ((j : Int) + 1) = ((j + 1 : Nat) : Int) := by rw [w64 (by omega) (by omega)]; omega
    obtain ⟨q, hq⟩ : ∃ q : Nat, ps[j] = (q : Int) := ⟨ps[j].toNat, by omega⟩
    have e2 : ((q : Nat) : Int).toNat = q := rfl
    rw [hq, e2] at u1 u2 u3
    rw [hq, e1, e2]
    clear e1 e2
    refine (ih (j + 1) q _ (by omega) u3 ?_).imp fun r hr => ?_
    · rw [ByteArray.size_append, ByteArray.size_append, ByteArray.size_extract]
      show s.size + _ + 1 ≤ q + (j + 1)
      omega
    · rw [hr, data_app, data_app, Lib.extract_data]
      simp only [joinT]
      rw [show ((q : Nat) : Int).toNat = q from rfl]
      simp

/-! ### Without strokes -/
theorem indexByte_cons_ne {b c : UInt8} (h : b ≠ c) (l : List UInt8) (i : Nat) (hi : Lib.indexByte l c = i) : Lib.indexByte (b :: l) c = ((i + 1 : Nat) : Int) := by
  unfold Lib.indexByte
  rw [if_neg (by simpa using h)]
  simp [hi]
  try omega
theorem indexByte_cons_eq (c : UInt8) (l : List UInt8) : Lib.indexByte (c :: l) c = ((0 : Nat) : Int) := by
  unfold Lib.indexByte
  rw [if_pos (by simp)]
  rfl
theorem replaceK_filter (c : UInt8) (s : List UInt8) : ∀ n, s.count c = n → Lib.replaceK [c] [] n s = s.filter (fun b => b != c) := by
  induction s with
  | nil =>
    intro n h
    obtain rfl : n = 0 := by simpa using h.symm
    rfl
  | cons b l ih =>
    intro n h
    by_cases hb : b = c
    · subst hb
      rw [List.count_cons_self] at h
      obtain ⟨m, rfl⟩ : ∃ m, n = m + 1 := ⟨n - 1, by omega⟩
      rw [Lib.replaceK_hit [b] [] m (b :: l) 0 (by rw [Lib.index_one]; exact indexByte_cons_eq b l)]
      simp only [List.take_zero, List.nil_append, Nat.zero_add, List.length_singleton, List.drop_succ_cons, List.drop_zero]
      rw [ih m (by omega)]
      simp
    · rw [List.count_cons_of_ne (by simpa using hb)] at h
      have e : (b :: l).filter (fun x => x != c) = b :: l.filter (fun x => x != c) := by simp [hb]
      rw [e, ← ih n h]
      cases n with
      | zero => rfl
      | succ m =>
        obtain ⟨i, hi⟩ := Lib.index_of_count (s := l) (old := [c]) (by rw [Lib.count_one]; omega)
        rw [Lib.replaceK_hit [c] [] m l i hi]
        rw [Lib.index_one] at hi
        rw [Lib.replaceK_hit [c] [] m (b :: l) (i + 1) (by rw [Lib.index_one]; exact indexByte_cons_ne hb l i hi)]
        simp [Nat.add_right_comm]
theorem replaceAll_filter (c : UInt8) (s : List UInt8) : Lib.replaceAll s [c] [] = s.filter (fun b => b != c) := by
  unfold Lib.replaceAll Lib.replace Lib.replaceNum
  rw [if_neg (by simp), if_pos (Or.inl (by decide)), Lib.count_one]
  exact replaceK_filter c s _ rfl
theorem joinT_filter (w : List UInt8) (hw : ∀ b ∈ w, b ≠ 45) (ps : List Int) : ∀ i, Up w.length i ps → (joinT w i ps).filter (fun b => b != 45) = w.drop i := by
  have keep : ∀ l : List UInt8, (∀ b ∈ l, b ∈ w) → l.filter (fun b => b != 45) = l := fun l hl => by
    rw [List.filter_eq_self]
    intro a ha
    simpa using hw a (hl a ha)
  induction ps with
  | nil =>
    intro i h
    exact keep _ fun b hb => List.mem_of_mem_drop hb
  | cons p ps ih =>
    rintro i ⟨h0, h1, h2, h3⟩
    simp only [joinT]
    rw [List.filter_append, keep _ fun b hb => List.mem_of_mem_drop (List.mem_of_mem_take hb)]
    rw [List.filter_cons_of_neg (by decide), ih _ h3]
    rw [show w.drop p.toNat = (w.drop i).drop (p.toNat - i) by rw [List.drop_drop, show i + (p.toNat - i) = p.toNat by omega]]
    exact List.take_append_drop _ _
theorem letters_no_stroke {w : ByteArray} (h : LowFrom w 0) : ∀ b ∈ w.data.toList, b ≠ 45 := by
  rintro b hb rfl
  obtain ⟨i, hi, he⟩ := List.mem_iff_getElem.1 hb
  rw [sz] at hi
  have := h i (Nat.zero_le _) hi
  have e : bt w i = 45 := by
    unfold bt
    have e2 : ((i : Nat) : Int).toNat = i := rfl
    simp only [e2]
    rw [dif_pos hi]
    have : w[i] = 45 := by rw [← he]; simp [ByteArray.getElem_eq_getElem_data]
    rw [this]
    rfl
  omega

/-! ### The law -/
theorem Smalls.sized {xs : List S42} (h : Smalls xs) (hl : xs.length ≤ 22) : Sized xs := ⟨by omega, fun x hx => by have := h x hx; unfold Small at this; omega⟩
theorem splitBoth_ev (xs : List S42) (w : ByteArray) (hx : Sized xs) (hw : w.size ≤ 100) :
    ∃ (ps : List Int) (s : ByteArray), EvQ (fun k => impl_SplitAt.f k xs w) (· = ps) ∧ EvQ (fun k => impl_SplitText.f k xs w) (· = s) ∧ EvQ (fun k => spec_SplitText.f k xs w) (· = s) ∧ ps.length ≤ 100 ∧ Up w.size 0 ps ∧ s.data.toList = joinT w.data.toList 0 ps := by
  obtain ⟨ps, h1, h2, ⟨h3, h4, h5⟩, h6⟩ := splitAt_ev xs w hx hw
  have hup : Up w.size 0 ps := up_of_places h3 (fun p hp => by have := h4 p hp; omega) 0 (Nat.zero_le _) (fun p hp => by have := h4 p hp; omega)
  refine ⟨ps, ⟨(joinT w.data.toList 0 ps).toArray⟩, h1, ?_, ?_, h5, hup, by simp⟩
  · unfold impl_SplitText.f
    refine EvQ.bind h1 fun r hr => ?_
    subst hr
    rw [w64 (by omega) (by omega)]
    refine (implText_loop w hw r h5 hup r.length w (Nat.le_refl _) (by rw [List.drop_length]; rfl)).imp fun u hu => bytes_ext (by rw [hu])
  · unfold spec_SplitText.f
    refine EvQ.bind h2 fun r hr => ?_
    subst hr
    refine (specText_loop w hw r h5 r.length 0 0 _ (by omega) hup (Nat.zero_le _)).imp fun u hu => bytes_ext (by rw [hu]; rfl)
end Go.Proofs.YtlmbmfnimpjgmaaDoor.P
namespace Go.Proofs.YtlmbmfnimpjgmaaDoor.Pure
open Go.RowKit Go.Proofs.YtlmbmfnimpjgmaaDoor.P
theorem bytes_of {l0 : List Int} (hw : ∀ x ∈ l0, (Lit.int .u8 x).wf = true) : Bytes l0 := fun x hx => by
  have := hw x hx
  simpa [Lit.wf, IntKind.min, IntKind.max, IntKind.signed, IntKind.bits] using this
theorem FnSplitText (l0 : List Int) (hm : l0.length ≤ maxLen) (hw : ∀ x ∈ l0, (Lit.int .u8 x).wf = true) : ∃ k, laws_FnSplitText.f k l0 = some true := by
  refine EvQ.out ?_
  unfold laws_FnSplitText.f
  refine EvQ.both (fun _ => EvQ.pure rfl) (fun _ => ?_)
  refine EvQ.bind (drawSplitText_ev (bytes_of hw)) fun r hr => ?_
  obtain ⟨⟨hr1, hr2⟩, hr3⟩ := hr
  obtain ⟨ps, s, g1, g2, g3, g4, g5, g6⟩ := splitBoth_ev r.1 r.2 (hr1.sized hr2) (by omega)
  refine EvQ.bind g2 fun a ha => EvQ.bind g3 fun b hb => ?_
  subst ha
  subst hb
  have again : EvQ (fun k => laws_FnSplitText.j0 k r.1 r.2 b true) (· = true) := by
    refine EvQ.succ (fun k => by rw [laws_FnSplitText.j0]) ?_
    refine EvQ.pos rfl (EvQ.bind g3 fun c hc => EvQ.pure ?_)
    subst hc
    simp
  refine EvQ.pos rfl ?_
  unfold spec_WordOk.f
  refine EvQ.bind (EvQ.bind (specWord_ev r.2 (by omega)) fun u hu => EvQ.pure hu) fun u hu => ?_
  cases u with
  | false => exact again
  | true =>
    have hwd := hu.1 rfl
    have hsz : b.size = r.2.size + ps.length := by
      have := joinT_len r.2.data.toList ps 0 (by rw [sz]; exact g5)
      rw [← g6, sz, sz] at this
      omega
    refine EvQ.succ (fun k => by rw [laws_FnSplitText.j0]) ?_
    have eb : impl_SplitBack.f b = some r.2 := by
      unfold impl_SplitBack.f strings_ReplaceAll.f
      have c0 : b.size < 4294967281 ∧ 1 ≤ (⟨#[45]⟩ : ByteArray).size ∧ b.size + Lib.countB b (⟨#[45]⟩ : ByteArray) * (⟨#[]⟩ : ByteArray).size ≤ 140737488355328 := by
        refine ⟨by omega, by decide, ?_⟩
        show b.size + _ * 0 ≤ _
        omega
      rw [if_pos c0, Option.bind_some]
      congr 1
      refine bytes_ext ?_
      show Lib.replaceAll b.data.toList [45] [] = _
      rw [replaceAll_filter, g6, joinT_filter _ (letters_no_stroke hwd.2) ps 0 (by rw [sz]; exact g5)]
      rfl
    rw [eb]
    refine EvQ.neg (by decide) (EvQ.some_bind (EvQ.pos rfl (EvQ.bind g1 fun q hq => EvQ.pure ?_)))
    subst hq
    rw [w64 (by omega) (by omega), beq_iff_eq]
    omega
end Go.Proofs.YtlmbmfnimpjgmaaDoor.Pure
