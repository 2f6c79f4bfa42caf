/- Lines unwrapped are the words again; the law. -/
import Derived.Test.YtlmbmfnimpjgmaaDoorPureWrap
set_option linter.unusedVariables false
set_option linter.unusedSimpArgs false
namespace Go.Proofs.YtlmbmfnimpjgmaaDoor.P
open Go.RowKit Go.Proofs.YtlmbmfnimpjgmaaDoorW.PrintWords Go.Proofs.YtlmbmfnimpjgmaaDoorW.PrintLast Go.Proofs.YtlmbmfnimpjgmaaDoorW.PrintMore

/-! ### Split at spaces -/
theorem indexByte_none (c : UInt8) (l : List UInt8) (h : ∀ b ∈ l, b ≠ c) : Lib.indexByte l c = -1 := by
  induction l with
  | nil => rfl
  | cons b l ih =>
    have h1 := h b (List.mem_cons_self ..)
    unfold Lib.indexByte
    rw [if_neg (by simpa using h1), ih fun x hx => h x (List.mem_cons_of_mem _ hx)]
    rfl
theorem indexByte_first (c : UInt8) (l r : List UInt8) (h : ∀ b ∈ l, b ≠ c) : Lib.indexByte (l ++ c :: r) c = (l.length : Int) := by
  induction l with
  | nil =>
    unfold Lib.indexByte
    simp
  | cons b l ih =>
    have h1 := h b (List.mem_cons_self ..)
    rw [List.cons_append]
    unfold Lib.indexByte
    rw [if_neg (by simpa using h1), ih fun x hx => h x (List.mem_cons_of_mem _ hx)]
    rw [if_neg (by rw [beq_iff_eq]; omega)]
    simp
theorem index_sp_none (s : ByteArray) (h : NoSp s) : Lib.indexB s (⟨#[32]⟩ : ByteArray) = -1 := by
  unfold Lib.indexB
  show Lib.index s.data.toList [32] = -1
  rw [Lib.index_one]
  exact indexByte_none 32 _ h
theorem index_sp (s r : ByteArray) (h : NoSp s) : Lib.indexB (s ++ ((⟨#[32]⟩ : ByteArray) ++ r)) (⟨#[32]⟩ : ByteArray) = (s.size : Int) := by
  unfold Lib.indexB
  show Lib.index _ [32] = _
  rw [Lib.index_one, app_data, app_data, ← sz]
  exact indexByte_first 32 _ _ h
theorem split_join (ts : List ByteArray) : ∀ t : ByteArray, NoSp t → (∀ x ∈ ts, NoSp x) → Lib.countB (joinW t ts) (⟨#[32]⟩ : ByteArray) = ts.length ∧ Lib.splitB (⟨#[32]⟩ : ByteArray) 0 ts.length (joinW t ts) = t :: ts := by
  induction ts with
  | nil =>
    intro t ht _
    refine ⟨?_, rfl⟩
    unfold Lib.countB
    show Lib.count t.data.toList [32] = 0
    rw [Lib.count_one, List.count_eq_zero]
    exact fun h => ht _ h rfl
  | cons u us ih =>
    intro t ht hts
    obtain ⟨h1, h2⟩ := ih u (hts u (List.mem_cons_self ..)) fun x hx => hts x (List.mem_cons_of_mem _ hx)
    have hi := index_sp t (joinW u us) ht
    have hs : (joinW t (u :: us)).size = t.size + (1 + (joinW u us).size) := by
      simp only [joinW]
      rw [ByteArray.size_append, ByteArray.size_append]
      rfl
    have e1 : (joinW t (u :: us)).extract (t.size + (⟨#[32]⟩ : ByteArray).size) (joinW t (u :: us)).size = joinW u us := by
      refine Go.WideShapes.bytes_inj ?_
      rw [Lib.extract_to_end]
      simp only [joinW]
      have e0 : (⟨#[32]⟩ : ByteArray).size = 1 := rfl
      rw [app_data, app_data, e0, ← sz, List.drop_append, List.drop_eq_nil_of_le (by omega), List.nil_append, Nat.add_sub_cancel_left]
      rfl
    have e2 : (joinW t (u :: us)).extract 0 (t.size + 0) = t := by
      refine Go.WideShapes.bytes_inj ?_
      rw [Lib.extract_data]
      simp only [joinW]
      rw [app_data, Nat.add_zero, Nat.sub_zero, List.drop_zero, ← sz, List.take_left']
      rfl
    constructor
    · rw [Lib.countB_hit (joinW t (u :: us)) (⟨#[32]⟩ : ByteArray) t.size (by decide) hi, e1, h1, List.length_cons]
      omega
    · rw [List.length_cons, Lib.splitB_hit (⟨#[32]⟩ : ByteArray) 0 us.length (joinW t (u :: us)) t.size hi, e1, e2, h2]
theorem split_ev (t : ByteArray) (ts : List ByteArray) (ht : NoSp t) (hts : ∀ x ∈ ts, NoSp x) (hs : (joinW t ts).size ≤ 1000) : strings_Split.f (joinW t ts) (⟨#[32]⟩ : ByteArray) = some (t :: ts) := by
  obtain ⟨h1, h2⟩ := split_join ts t ht hts
  unfold strings_Split.f
  rw [if_pos ⟨by omega, by decide⟩, h1, h2]

/-! ### A stroke at the end -/
theorem suffix_ev (s : ByteArray) (hs : 0 < s.size) (hs2 : s.size ≤ 1000) : strings_HasSuffix.f s (⟨#[45]⟩ : ByteArray) = some (decide (s.data.toList.getLast? = some 45)) := by
  have e5 : ((⟨#[45]⟩ : ByteArray).size : Int) = 1 := rfl
  have e6 : wrap64 ((s.size : Int) - 1) = ((s.size - 1 : Nat) : Int) := by rw [w64 (by omega) (by omega)]; omega
  have e7 : ((s.size - 1 : Nat) : Int).toNat = s.size - 1 := rfl
  unfold strings_HasSuffix.f stringslite_HasSuffix.f
  rw [e5, e6, e7]
  clear e6 e7
  rw [if_pos (by omega), if_pos (by omega), if_pos (by omega), Option.bind_some]
  congr 1
  rw [Bool.eq_iff_iff, beq_iff_eq, decide_eq_true_iff, toList_data, toList_data, Lib.extract_to_end]
  have hl : s.data.toList ≠ [] := by rw [← List.length_pos_iff, sz]; exact hs
  obtain ⟨d, a, hd⟩ : ∃ d a, s.data.toList = d ++ [a] := ⟨_, _, (List.dropLast_concat_getLast hl).symm⟩
  rw [← sz, hd, List.length_append, List.length_singleton, Nat.add_sub_cancel, List.drop_left' rfl, List.getLast?_concat]
  show [a] = [45] ↔ _
  simp
theorem trim_ev (u : ByteArray) (hu : u.size ≤ 900) : strings_TrimSuffix.f (u ++ (⟨#[45]⟩ : ByteArray)) (⟨#[45]⟩ : ByteArray) = some u := by
  have hs : (u ++ (⟨#[45]⟩ : ByteArray)).size = u.size + 1 := by rw [ByteArray.size_append]; rfl
  have h := suffix_ev (u ++ (⟨#[45]⟩ : ByteArray)) (by omega) (by omega)
  unfold strings_HasSuffix.f at h
  have h' : stringslite_HasSuffix.f (u ++ (⟨#[45]⟩ : ByteArray)) (⟨#[45]⟩ : ByteArray) = some true := by
    cases hq : stringslite_HasSuffix.f (u ++ (⟨#[45]⟩ : ByteArray)) (⟨#[45]⟩ : ByteArray) with
    | none => simp [hq] at h
    | some v =>
      rw [hq, Option.bind_some] at h
      rw [h]
      congr 1
      rw [decide_eq_true_iff, app_data]
      exact List.getLast?_concat ..
  have e5 : ((⟨#[45]⟩ : ByteArray).size : Int) = 1 := rfl
  have e6 : wrap64 (((u ++ (⟨#[45]⟩ : ByteArray)).size : Int) - 1) = (u.size : Int) := by rw [hs, w64 (by omega) (by omega)]; omega
  have e7 : ((u.size : Nat) : Int).toNat = u.size := rfl
  unfold strings_TrimSuffix.f stringslite_TrimSuffix.f
  rw [h', Option.bind_some, if_pos rfl, e5, e6, e7, if_pos (by omega), if_pos (by omega), Option.bind_some]
  congr 1
  refine Go.WideShapes.bytes_inj ?_
  rw [Lib.extract_data, app_data, List.drop_zero, Nat.sub_zero, ← sz, List.take_left']
  rfl
theorem last_app (x y : List UInt8) (h : y ≠ []) : (x ++ y).getLast? = y.getLast? := by
  rw [List.getLast?_append]
  cases hq : y.getLast? with
  | none => exact absurd (List.getLast?_eq_none_iff.1 hq) h
  | some a => rfl
theorem join_last (ts : List ByteArray) : ∀ t : ByteArray, (∀ x ∈ t :: ts, x.data.toList ≠ []) → (joinW t ts).data.toList.getLast? = ((t :: ts).getLast (by simp)).data.toList.getLast? := by
  induction ts with
  | nil => exact fun t _ => rfl
  | cons u us ih =>
    intro t h
    simp only [joinW]
    rw [app_data, app_data]
    have e := ih u fun x hx => h x (List.mem_cons_of_mem _ hx)
    rw [List.getLast_cons (by simp)]
    rw [← e]
    have hne : (joinW u us).data.toList ≠ [] := by
      cases us with
      | nil => exact h u (by simp)
      | cons v vs =>
        simp only [joinW]
        rw [app_data]
        intro hh
        exact h u (by simp) (List.append_eq_nil_iff.1 hh).1
    rw [last_app _ _ (by simp), last_app _ _ hne]

/-! ### Unwrapping -/
theorem join_size (ts : List ByteArray) : ∀ t : ByteArray, t.size + ts.length ≤ (joinW t ts).size := by
  induction ts with
  | nil => exact fun t => Nat.le_refl _
  | cons u us ih =>
    intro t
    have := ih u
    simp only [joinW]
    rw [ByteArray.size_append, ByteArray.size_append, List.length_cons]
    show _ ≤ t.size + (1 + _)
    omega
theorem cut_join (w : ByteArray) (b : Nat) (hb : b ≤ w.size) : w.extract 0 b ++ w.extract b w.size = w := by
  refine Go.WideShapes.bytes_inj ?_
  rw [app_data, Lib.extract_data, Lib.extract_to_end, List.drop_zero, Nat.sub_zero]
  exact List.take_append_drop _ _
theorem rdOf_last (l : List ByteArray) (u : ByteArray) : rdOf ByteArray.empty (l ++ [u]) (l.length : Int) = u := by
  rw [rdOf_at _ _ (by simp)]
  simp
theorem unwrap_ev (P : ByteArray → List Int) (hP : ∀ w : ByteArray, w.size ≤ 100 → Places w.size 100 (P w)) (width : Int) (h12 : 12 ≤ width) (h60 : width ≤ 60) (lines : List ByteArray) (hn : lines.length ≤ 1000) (ws : List ByteArray) :
    ∀ (i : Nat) (t : ByteArray) (ts out : List ByteArray) (c : ByteArray), Tok t → (∀ x ∈ ts, Tok x) → ((joinW t ts).size : Int) ≤ width → (∀ w ∈ ws, IsWord w) → lines.drop i = wrapL P width ws (joinW t ts) → i ≤ lines.length → c.size ≤ 100 → out.length ≤ 1000 * i →
    EvQ (fun k => impl_Unwrap.l0 k lines out c lines (lines.length : Int) (i : Int)) (· = out ++ (c ++ t) :: (ts ++ ws)) := by
  induction ws with
  | nil =>
    intro i t ts out c ht hts hsz _ hd hi hc ho
    have hi2 : i + 1 = lines.length := by
      have := congrArg List.length hd
      rw [List.length_drop] at this
      simp only [wrapL, List.length_singleton] at this
      omega
    have hli : lines[i]'(by omega) = joinW t ts := by
      have := List.drop_eq_getElem_cons (show i < lines.length by omega)
      rw [hd] at this
      simp only [wrapL, List.cons.injEq] at this
      exact this.1.symm
    have hjs := join_size ts t
    refine EvQ.succ (fun k => by rw [impl_Unwrap.l0]) ?_
    have e1 : wrap64 ((i : Int) + 1) = ((i + 1 : Nat) : Int) := by rw [w64 (by omega) (by omega)]; omega
    have e2 : wrap64 ((lines.length : Int) - 1) = (lines.length : Int) - 1 := by clear e1; exact w64 (by omega) (by omega)
    rw [rdOf_at lines i (by omega), hli, split_ev t ts ht.noSp (fun x hx => (hts x hx).noSp) (by omega), e1, e2]
    clear e1 e2
    refine EvQ.pos (by omega) (EvQ.pos (by omega) (EvQ.pos (by omega) (EvQ.some_bind (EvQ.pos (by rw [List.length_cons]; omega) (EvQ.pos ?_ (EvQ.some_bind (EvQ.neg (by omega) (EvQ.pos ?_ ?_))))))))
    · show c.size + t.size ≤ _
      omega
    · rw [List.length_set, List.length_cons]
      omega
    · refine EvQ.succ (fun k => by rw [impl_Unwrap.l0]) ?_
      exact EvQ.neg (by omega) (EvQ.pure (by simp [rdOf]))
  | cons w ws ih =>
    intro i t ts out c ht hts hsz hws hd hi hc ho
    have hw := hws w (List.mem_cons_self ..)
    have hwsz := hw.1
    have hws' : ∀ x ∈ ws, IsWord x := fun x hx => hws x (List.mem_cons_of_mem _ hx)
    have hjs := join_size ts t
    have ht0 : 0 < t.size := by have := ht.1; rw [← List.length_pos_iff, sz] at this; exact this
    have eah : aheadF (joinW t ts) = joinW t ts ++ (⟨#[32]⟩ : ByteArray) := by unfold aheadF; rw [if_neg (by omega)]
    have has : (aheadF (joinW t ts)).size = (joinW t ts).size + 1 := by rw [eah, ByteArray.size_append]; rfl
    simp only [wrapL] at hd
    by_cases hfit : ((aheadF (joinW t ts)).size : Int) + w.size ≤ width
    · rw [if_pos hfit] at hd
      have ej : aheadF (joinW t ts) ++ w = joinW t (ts ++ [w]) := by rw [eah, joinW_snoc, app_assoc]
      rw [ej] at hd
      have hs2 : ((joinW t (ts ++ [w])).size : Int) ≤ width := by rw [← ej, ByteArray.size_append]; omega
      refine (ih i t (ts ++ [w]) out c ht (fun x hx => ?_) hs2 hws' hd hi hc ho).imp fun r hr => ?_
      · rcases List.mem_append.1 hx with hx | hx
        · exact hts x hx
        · obtain rfl := List.mem_singleton.1 hx
          exact tok_word hw
      · rw [hr]
        simp
    · rw [if_neg hfit] at hd
      have hpl := hP w (by omega)
      have hb := bestF_in (width - (aheadF (joinW t ts)).size) w.size (P w) (fun p hp => by have := hpl.2.1 p hp; omega) 0 (.inl rfl)
      generalize bestF (width - (aheadF (joinW t ts)).size) (P w) 0 = b at hb hd
      have hne := wrapL_length P width ws (restF w b)
      have hi2 : i + 1 < lines.length := by
        have h1 := congrArg List.length hd
        rw [List.length_drop, List.length_cons] at h1
        have h2 := List.length_pos_iff.2 hne.2
        omega
      have hdd := List.drop_eq_getElem_cons (show i < lines.length by omega)
      rw [hd, List.cons.injEq] at hdd
      obtain ⟨hli, hnext⟩ := hdd
      refine EvQ.succ (fun k => by rw [impl_Unwrap.l0]) ?_
      have hil : i < lines.length := by omega
      rw [rdOf_at lines i hil, ← hli]
      have e1 : wrap64 ((i : Int) + 1) = ((i + 1 : Nat) : Int) := by rw [w64 (by omega) (by omega)]; omega
      have e2 : wrap64 ((lines.length : Int) - 1) = (lines.length : Int) - 1 := by clear e1; exact w64 (by omega) (by omega)
      rw [e1, e2]
      clear e1 e2
      by_cases hb0 : 0 < b
      · have hu : (w.extract 0 b.toNat).size = b.toNat := by rw [ByteArray.size_extract]; omega
        have hus : ((w.extract 0 b.toNat) ++ (⟨#[45]⟩ : ByteArray)).size = b.toNat + 1 := by rw [ByteArray.size_append, hu]; rfl
        have eL : lineF (aheadF (joinW t ts)) (joinW t ts) w b = joinW t (ts ++ [(w.extract 0 b.toNat) ++ (⟨#[45]⟩ : ByteArray)]) := by
          unfold lineF
          rw [if_pos hb0, eah, joinW_snoc]
          simp only [app_assoc]
        have eR : restF w b = joinW (w.extract b.toNat w.size) [] := by
          unfold restF
          rw [if_pos hb0]
          rfl
        have htu := tok_part (word_letters hw) 0 b.toNat (by omega) (by omega)
        have hnu : NoSp ((w.extract 0 b.toNat) ++ (⟨#[45]⟩ : ByteArray)) := by
          intro x hx
          rw [app_data] at hx
          rcases List.mem_append.1 hx with hx | hx
          · exact (htu.2 x hx).1
          · have : x = 45 := by simpa using hx
            rw [this]
            decide
        have hLs : (joinW t (ts ++ [(w.extract 0 b.toNat) ++ (⟨#[45]⟩ : ByteArray)])).size ≤ 1000 := by
          rw [joinW_snoc, ByteArray.size_append, ByteArray.size_append, hus]
          show _ + (1 + _) ≤ 1000
          omega
        have hL0 : 0 < (joinW t (ts ++ [(w.extract 0 b.toNat) ++ (⟨#[45]⟩ : ByteArray)])).size := by
          have := join_size (ts ++ [(w.extract 0 b.toNat) ++ (⟨#[45]⟩ : ByteArray)]) t
          omega
        have hsuf : strings_HasSuffix.f (joinW t (ts ++ [(w.extract 0 b.toNat) ++ (⟨#[45]⟩ : ByteArray)])) (⟨#[45]⟩ : ByteArray) = some true := by
          rw [suffix_ev _ hL0 hLs]
          congr 1
          rw [decide_eq_true_iff, joinW_snoc, app_data, app_data, app_data]
          rw [last_app _ _ (by simp), last_app _ _ (by simp), last_app _ _ (by simp)]
          rfl
        rw [eL, split_ev t _ ht.noSp (fun x hx => by
          rcases List.mem_append.1 hx with hx | hx
          · exact (hts x hx).noSp
          · obtain rfl := List.mem_singleton.1 hx
            exact hnu) hLs, hsuf]
        generalize hug : (w.extract 0 b.toNat) ++ (⟨#[45]⟩ : ByteArray) = u at *
        have e3 : ((t :: (ts ++ [u])).length : Int) = ((ts.length + 2 : Nat) : Int) := by simp only [List.length_cons, List.length_append, List.length_nil]
        have hk : ts.length ≤ 1000 := by omega
        refine EvQ.pos (by omega) (EvQ.pos (by omega) (EvQ.pos (by omega) (EvQ.some_bind (EvQ.pos (by rw [e3]; omega) (EvQ.pos ?_ (EvQ.some_bind (EvQ.pos (by omega) (EvQ.some_bind (EvQ.pos rfl ?_)))))))))
        · show c.size + t.size ≤ _
          omega
        have e4 : wrap64 (((t :: (ts ++ [u])).length : Int) - 1) = ((ts.length + 1 : Nat) : Int) := by
          rw [e3, w64 (n := ((ts.length + 2 : Nat) : Int) - 1) (by clear e3; omega) (by clear e3; omega)]
          omega
        have e5 : ((ts.length + 1 : Nat) : Int).toNat = ts.length + 1 := rfl
        have e8 : ((t :: (ts ++ [u])).set (Int.toNat 0) (c ++ rdOf ByteArray.empty (t :: (ts ++ [u])) 0) : List ByteArray) = ((c ++ t) :: ts) ++ [u] := rfl
        have e9 : rdOf ByteArray.empty (((c ++ t) :: ts) ++ [u]) ((ts.length + 1 : Nat) : Int) = u := rdOf_last ((c ++ t) :: ts) u
        have e10 : (((c ++ t) :: ts) ++ [u]).take (ts.length + 1) = (c ++ t) :: ts := List.take_left' (by simp)
        have e11 : strings_TrimSuffix.f u (⟨#[45]⟩ : ByteArray) = some (w.extract 0 b.toNat) := by rw [← hug]; exact trim_ev _ (by clear e4; omega)
        rw [e4, e5, e8, e9, e10, e11]
        clear e4 e5 e8 e9 e10 e11
        refine EvQ.pos (by omega) (EvQ.pos (by rw [e3]; omega) (EvQ.some_bind (EvQ.pos (by rw [e3]; omega) (EvQ.some_bind (EvQ.pos ?_ ?_)))))
        · rw [List.length_cons]; omega
        · have htr := tok_part (word_letters hw) b.toNat w.size (by omega) (Nat.le_refl _)
          rw [eR] at hnext
          refine (ih (i + 1) (w.extract b.toNat w.size) [] (out ++ (c ++ t) :: ts) (w.extract 0 b.toNat) htr (fun x hx => by cases hx) ?_ hws' hnext.symm (by omega) (by omega) ?_).imp fun r hr => ?_
          · show ((w.extract b.toNat w.size).size : Int) ≤ width
            rw [ByteArray.size_extract]
            omega
          · rw [List.length_append, List.length_cons]; omega
          · rw [hr, cut_join w b.toNat (by omega)]
            simp
      · have eL : lineF (aheadF (joinW t ts)) (joinW t ts) w b = joinW t ts := by unfold lineF; rw [if_neg hb0]
        have eR : restF w b = joinW w [] := by unfold restF; rw [if_neg hb0]; rfl
        have hall : ∀ x ∈ t :: ts, Tok x := fun x hx => by
          rcases List.mem_cons.1 hx with rfl | hx
          · exact ht
          · exact hts x hx
        have hsuf : strings_HasSuffix.f (joinW t ts) (⟨#[45]⟩ : ByteArray) = some false := by
          rw [suffix_ev _ (by omega) (by omega)]
          congr 1
          rw [decide_eq_false_iff_not, join_last ts t fun x hx => (hall x hx).1]
          intro h
          exact ((hall _ (List.getLast_mem (by simp))).2 45 (List.mem_of_getLast? h)).2 rfl
        rw [eL, split_ev t ts ht.noSp (fun x hx => (hts x hx).noSp) (by omega), hsuf]
        refine EvQ.pos (by omega) (EvQ.pos (by omega) (EvQ.pos (by omega) (EvQ.some_bind (EvQ.pos (by rw [List.length_cons]; omega) (EvQ.pos ?_ (EvQ.some_bind (EvQ.pos (by omega) (EvQ.some_bind (EvQ.neg (by decide) (EvQ.pos ?_ ?_))))))))))
        · show c.size + t.size ≤ _
          omega
        · rw [List.length_set, List.length_cons]
          omega
        · rw [eR] at hnext
          refine (ih (i + 1) w [] _ _ (tok_word hw) (fun x hx => by cases hx) ?_ hws' hnext.symm (by omega) (Nat.zero_le _) ?_).imp fun r hr => ?_
          · show (w.size : Int) ≤ width
            omega
          · rw [List.length_append, List.length_set, List.length_cons]; omega
          · have e0 : (⟨#[]⟩ : ByteArray) ++ w = w := empty_app _ _ rfl
            rw [hr, e0]
            simp [rdOf]
/-- Of words that are, the wrapped lines: none too long, none empty, few; unwrapped they are the words. -/
theorem lines_ev (P : ByteArray → List Int) (hP : ∀ w : ByteArray, w.size ≤ 100 → Places w.size 100 (P w)) (width : Int) (h12 : 12 ≤ width) (h60 : width ≤ 60) (ws : List ByteArray) (hl : ws.length ≤ 100) (hws : ∀ w ∈ ws, IsWord w) :
    (∀ l ∈ endF ws.length (wrapF P width ws [] (⟨#[]⟩ : ByteArray)), (l.size : Int) ≤ width ∧ 0 < l.size) ∧ (endF ws.length (wrapF P width ws [] (⟨#[]⟩ : ByteArray))).length ≤ ws.length ∧
      EvQ (fun k => impl_Unwrap.f k (endF ws.length (wrapF P width ws [] (⟨#[]⟩ : ByteArray)))) (· = ws) := by
  cases ws with
  | nil =>
    refine ⟨(fun l h => by cases h), Nat.le_refl _, ?_⟩
    show EvQ (fun k => impl_Unwrap.f k []) (· = [])
    unfold impl_Unwrap.f
    refine EvQ.succ (fun k => by rw [impl_Unwrap.l0]) ?_
    exact EvQ.neg (by decide) (EvQ.pure rfl)
  | cons w ws =>
    have hw := hws w (List.mem_cons_self ..)
    have hwsz := hw.1
    have hws' : ∀ x ∈ ws, IsWord x := fun x hx => hws x (List.mem_cons_of_mem _ hx)
    rw [List.length_cons] at hl
    have e0 : aheadF (⟨#[]⟩ : ByteArray) = (⟨#[]⟩ : ByteArray) := rfl
    have e1 : wrapL P width (w :: ws) (⟨#[]⟩ : ByteArray) = wrapL P width ws w := by
      rw [wrapL, e0, if_pos (by show ((0 : Nat) : Int) + _ ≤ _; omega), empty_app _ _ rfl]
    have e2 : endF (w :: ws).length (wrapF P width (w :: ws) [] (⟨#[]⟩ : ByteArray)) = wrapL P width ws w := by
      unfold endF
      rw [if_neg (by simp), wrapF_eq, e1]
      rfl
    rw [e2]
    have hlen := (wrapL_length P width ws w).1
    refine ⟨wrapL_fits P hP width h12 ws w (by omega) (by omega) hws', by rw [List.length_cons]; exact hlen, ?_⟩
    unfold impl_Unwrap.f
    refine (unwrap_ev P hP width h12 h60 (wrapL P width ws w) (by omega) ws 0 w [] [] _ (tok_word hw) (fun x hx => by cases hx) (by show (w.size : Int) ≤ width; omega) hws' rfl (Nat.zero_le _) (Nat.zero_le _) (Nat.zero_le _)).imp fun r hr => ?_
    have e3 : (⟨#[]⟩ : ByteArray) ++ w = w := empty_app _ _ rfl
    rw [hr, e3]
    rfl
theorem patsOk_nil : PatsOk [] := ⟨(fun j _ h => by cases h), by decide⟩
theorem sized_nil : Sized [] := ⟨by decide, (fun x hx => by cases hx)⟩
end Go.Proofs.YtlmbmfnimpjgmaaDoor.P
namespace Go.Proofs.YtlmbmfnimpjgmaaDoor.Pure
open Go.RowKit Go.Proofs.YtlmbmfnimpjgmaaDoor.P
theorem FnWrap (l0 : List Int) (hm : l0.length ≤ maxLen) (hw : ∀ x ∈ l0, (Lit.int .u8 x).wf = true) : ∃ k, laws_FnWrap.f k l0 = some true := by
  refine EvQ.out ?_
  have hb : Bytes l0 := fun x hx => by
    have := hw x hx
    simpa [Lit.wf, IntKind.min, IntKind.max, IntKind.signed, IntKind.bits] using this
  unfold laws_FnWrap.f
  refine EvQ.both (fun _ => EvQ.pure rfl) (fun _ => ?_)
  refine EvQ.bind (drawWrap_ev hb) fun r hr => ?_
  obtain ⟨⟨hr1, hr2⟩, ⟨hr3, hr4⟩, hr5, hr6⟩ := hr
  have hx : Sized r.1 := ⟨by omega, fun x hx => by have := hr1 x hx; unfold Small at this; omega⟩
  have hs : ∀ w ∈ r.2.1, w.size ≤ 100 := fun w h => by have := hr3 w h; omega
  obtain ⟨P, hP⟩ := places_of r.1 hx
  have hi := wrapImpl_ev r.1 r.2.1 r.2.2 hx hr4 hs P hP
  have hsp := wrapSpec_ev r.1 r.2.1 r.2.2 hx hr4 hs P hP
  refine EvQ.bind hi fun a ha => EvQ.bind hsp fun b hb2 => ?_
  have hab : a = b := by
    by_cases hg : WrapGood r.1 r.2.1 r.2.2
    · rw [ha.1 hg, hb2.1 hg]
    · rw [ha.2 hg, hb2.2 hg]
  subst hab
  have hlen : a.1.length ≤ 100000 := by
    by_cases hg : WrapGood r.1 r.2.1 r.2.2
    · rw [ha.1 hg]
      have := (lines_ev P (fun w h => (hP w h).2.2) r.2.2 hg.2.2.1.1 hg.2.2.1.2 r.2.1 hr4 hg.2.2.2).2.1
      dsimp only
      omega
    · rw [ha.2 hg]
      exact Nat.zero_le _
  refine EvQ.neg (by simp) (EvQ.bind (texts_ev a.1 a.1 hlen) fun t ht => EvQ.pos (ht.2 rfl) ?_)
  refine EvQ.succ (fun k => by rw [laws_FnWrap.j0]) ?_
  by_cases hg : WrapGood r.1 r.2.1 r.2.2
  · have ea := ha.1 hg
    obtain ⟨g1, g2, g3⟩ := lines_ev P (fun w h => (hP w h).2.2) r.2.2 hg.2.2.1.1 hg.2.2.1.2 r.2.1 hr4 hg.2.2.2
    have ea2 : a.2 = true := by rw [ea]
    have ea1 : a.1 = endF r.2.1.length (wrapF P r.2.2 r.2.1 [] (⟨#[]⟩ : ByteArray)) := by rw [ea]
    rw [← ea1] at g1 g2 g3
    rw [ea2]
    refine EvQ.neg (by decide) ?_
    have loop : ∀ c i : Nat, i + c = a.1.length → EvQ (fun k => laws_FnWrap.l0 k r.2.1 r.2.2 a.1 (i : Int)) (· = true) := by
      intro c
      induction c with
      | zero =>
        intro i hi
        refine EvQ.succ (fun k => by rw [laws_FnWrap.l0]) ?_
        refine EvQ.neg (by omega) ?_
        obtain ⟨P0, hP0⟩ := places_of [] sized_nil
        refine EvQ.bind (wrapImpl_ev [] r.2.1 r.2.2 sized_nil hr4 hs P0 hP0) fun q hq => ?_
        have eq := hq.1 ⟨patsOk_nil, hg.2⟩
        obtain ⟨f1, f2, f3⟩ := lines_ev P0 (fun w h => (hP0 w h).2.2) r.2.2 hg.2.2.1.1 hg.2.2.1.2 r.2.1 hr4 hg.2.2.2
        have eq1 : q.1 = endF r.2.1.length (wrapF P0 r.2.2 r.2.1 [] (⟨#[]⟩ : ByteArray)) := by rw [eq]
        rw [← eq1] at f3
        refine EvQ.bind g3 fun u hu => ?_
        subst hu
        refine EvQ.bind (texts_ev r.2.1 r.2.1 (by omega)) fun v hv => EvQ.pos (hv.2 rfl) ?_
        refine EvQ.bind f3 fun x hx2 => ?_
        rw [hx2]
        refine EvQ.bind (texts_ev r.2.1 r.2.1 (by omega)) fun v2 hv2 => EvQ.pos (hv2.2 rfl) (EvQ.pure ?_)
        rw [decide_eq_true_iff, w64 (by omega) (by omega)]
        omega
      | succ c ih =>
        intro i hi
        refine EvQ.succ (fun k => by rw [laws_FnWrap.l0]) ?_
        have hg1 := g1 a.1[i] (List.getElem_mem (by omega))
        rw [rdOf_at a.1 i (by omega)]
        have e1 : wrap64 ((i : Int) + 1) = ((i + 1 : Nat) : Int) := by rw [w64 (by omega) (by omega)]; omega
        rw [e1]
        clear e1
        exact EvQ.pos (by omega) (EvQ.pos (by omega) (EvQ.neg (by omega) (EvQ.neg (by omega) (ih (i + 1) (by omega)))))
    exact loop a.1.length 0 (by omega)
  · have ea := ha.2 hg
    have ea2 : a.2 = false := by rw [ea]
    rw [ea2]
    refine EvQ.pos rfl (EvQ.pos rfl (EvQ.bind (texts_ev a.1 a.1 hlen) fun v hv => EvQ.pure (hv.2 rfl)))
end Go.Proofs.YtlmbmfnimpjgmaaDoor.Pure
