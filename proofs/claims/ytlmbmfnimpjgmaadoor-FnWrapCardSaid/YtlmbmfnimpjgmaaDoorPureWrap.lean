/- The plain law of FnWrap: wrapped lines fit, and hold just the words. -/
import Derived.Test.YtlmbmfnimpjgmaaDoorWrapF
import Derived.Test.YtlmbmfnimpjgmaaDoorWrapDraws
import Derived.Test.YtlmbmfnimpjgmaaDoorP12
import Derived.Lib.IndexBytes
set_option linter.unusedVariables false
set_option linter.unusedSimpArgs false
namespace Go.Proofs.YtlmbmfnimpjgmaaDoor.P
open Go.RowKit Go.Proofs.YtlmbmfnimpjgmaaDoorW.PrintWords Go.Proofs.YtlmbmfnimpjgmaaDoorW.PrintLast Go.Proofs.YtlmbmfnimpjgmaaDoorW.PrintMore

/-! ### Words, and both sides' answer -/
theorem implWords (xs : List S42) (ws : List ByteArray) (width : Int) (hlen : ws.length ≤ 1000) (hsz : ∀ w ∈ ws, w.size ≤ 100) {Q : List ByteArray × Bool → Prop}
    (yes : (∀ w ∈ ws, IsWord w) → EvQ (fun k => impl_Wrap.l1 k xs ws width [] (⟨#[]⟩ : ByteArray) ws (ws.length : Int) 0) Q) (no : (¬ ∀ w ∈ ws, IsWord w) → Q ([], false)) (c : Nat) :
    ∀ i : Nat, i + c = ws.length → (∀ (j : Nat) (h : j < ws.length), j < i → IsWord ws[j]) → EvQ (fun k => impl_Wrap.l0 k xs ws width ws (ws.length : Int) (i : Int)) Q := by
  induction c with
  | zero =>
    intro i hi hp
    refine EvQ.succ (fun k => by rw [impl_Wrap.l0]) ?_
    refine EvQ.neg (by omega) (yes fun w hw => ?_)
    obtain ⟨j, hj, rfl⟩ := List.mem_iff_getElem.1 hw
    exact hp j hj (by omega)
  | succ c ih =>
    intro i hi hp
    refine EvQ.succ (fun k => by rw [impl_Wrap.l0]) ?_
    rw [rdOf_at ws i (by omega)]
    have hs := hsz ws[i] (List.getElem_mem _)
    refine EvQ.pos (by omega) (EvQ.pos (by omega) (EvQ.pos (by omega) (EvQ.bind (implWord_ev _ (by omega)) fun r hr => ?_)))
    refine EvQ.both (fun h => ?_) (fun h => EvQ.pure (no fun ha => h (hr.2 (ha _ (List.getElem_mem _)))))
    have e1 : wrap64 ((i : Int) + 1) = ((i + 1 : Nat) : Int) := by rw [w64 (by omega) (by omega)]; omega
    rw [e1]
    clear e1
    refine ih (i + 1) (by omega) fun j hj hji => ?_
    rcases Nat.lt_or_ge j i with h2 | h2
    · exact hp j hj h2
    · obtain rfl : j = i := by omega
      exact hr.1 h
/-- When wrapping is done at all. -/
def WrapGood (xs : List S42) (ws : List ByteArray) (width : Int) : Prop := PatsOk xs ∧ ws.length ≤ 40 ∧ (12 ≤ width ∧ width ≤ 60) ∧ ∀ w ∈ ws, IsWord w
theorem wrapImpl_ev (xs : List S42) (ws : List ByteArray) (width : Int) (hx : Sized xs) (hlen : ws.length ≤ 100) (hsz : ∀ w ∈ ws, w.size ≤ 100) (P : ByteArray → List Int) (hP : PlacesOf xs P) :
    EvQ (fun k => impl_Wrap.f k xs ws width) (fun r => (WrapGood xs ws width → r = (endF ws.length (wrapF P width ws [] (⟨#[]⟩ : ByteArray)), true)) ∧ (¬ WrapGood xs ws width → r = ([], false))) := by
  unfold impl_Wrap.f
  have bad : ∀ hb : ¬ WrapGood xs ws width, EvQ (fun k => impl_Wrap.j0 k xs ws width true) (fun r => (WrapGood xs ws width → r = (endF ws.length (wrapF P width ws [] (⟨#[]⟩ : ByteArray)), true)) ∧ (¬ WrapGood xs ws width → r = ([], false))) := fun hb => by
    refine EvQ.succ (fun k => by rw [impl_Wrap.j0]) ?_
    exact EvQ.pos rfl (EvQ.pure ⟨fun h => absurd h hb, fun _ => rfl⟩)
  refine EvQ.bind (implPats_ev xs hx) fun r hr => EvQ.both (fun h => ?_) (fun h => bad fun hg => h (hr.2 hg.1))
  refine EvQ.both (fun h2 => bad fun hg => by have := hg.2.1; omega) (fun h2 => ?_)
  rw [within_ev]
  refine EvQ.some_bind ?_
  by_cases h3 : 12 ≤ width ∧ width ≤ 60
  · rw [decide_eq_true h3]
    refine EvQ.succ (fun k => by rw [impl_Wrap.j0]) ?_
    refine EvQ.neg (by decide) (implWords xs ws width (by omega) hsz (fun ha => ?_) (fun ha => ⟨fun hg => absurd hg.2.2.2 ha, fun _ => rfl⟩) ws.length 0 (by omega) (fun j _ hj => by omega))
    refine (implWrap xs ws width P hP hlen ha h3.1 h3.2 ws.length 0 [] _ (by omega) (fun _ => rfl) (fun h4 => by omega) (Nat.zero_le _) (Nat.le_refl _)).imp fun u hu => ?_
    rw [List.drop_zero] at hu
    exact ⟨fun _ => hu, fun hb => absurd ⟨hr.1 h, by omega, h3, ha⟩ hb⟩
  · rw [decide_eq_false h3]
    exact bad fun hg => h3 hg.2.2.1
theorem wrapSpec_ev (xs : List S42) (ws : List ByteArray) (width : Int) (hx : Sized xs) (hlen : ws.length ≤ 100) (hsz : ∀ w ∈ ws, w.size ≤ 100) (P : ByteArray → List Int) (hP : PlacesOf xs P) :
    EvQ (fun k => spec_Wrap.f k xs ws width) (fun r => (WrapGood xs ws width → r = (endF ws.length (wrapF P width ws [] (⟨#[]⟩ : ByteArray)), true)) ∧ (¬ WrapGood xs ws width → r = ([], false))) := by
  have loop : ∀ c i : Nat, i + c = ws.length → (∀ (j : Nat) (h : j < ws.length), j < i → IsWord ws[j]) → EvQ (fun k => spec_Wrap.l0 k xs ws width (i : Int)) (fun r => (WrapGood xs ws width → r = (endF ws.length (wrapF P width ws [] (⟨#[]⟩ : ByteArray)), true)) ∧ (¬ WrapGood xs ws width → r = ([], false))) := by
    intro c
    induction c with
    | zero =>
      intro i hi hp
      have ha : ∀ w ∈ ws, IsWord w := fun w hw => by
        obtain ⟨j, hj, rfl⟩ := List.mem_iff_getElem.1 hw
        exact hp j hj (by omega)
      refine EvQ.succ (fun k => by rw [spec_Wrap.l0]) ?_
      refine EvQ.neg (by omega) (EvQ.bind (specPats_ev xs hx) fun r hr => EvQ.both (fun h => ?_) (fun h => EvQ.pure ⟨fun hg => absurd (hr.2 hg.1) h, fun _ => rfl⟩))
      refine EvQ.both (fun h2 => EvQ.pure ⟨fun hg => by have := hg.2.1; omega, fun _ => rfl⟩) (fun h2 => ?_)
      rw [in_ev]
      refine EvQ.some_bind (EvQ.both (fun h3 => ?_) (fun h3 => EvQ.pure ⟨fun hg => absurd (decide_eq_true hg.2.2.1) h3, fun _ => rfl⟩))
      rw [decide_eq_true_iff] at h3
      unfold spec_l9Wrap.f
      refine EvQ.bind (specWrap xs ws width P hP hlen ha h3.1 h3.2 (hr.1 h) ws.length 0 [] _ (by omega) (fun _ => rfl) (fun h4 => by omega) (Nat.zero_le _) (Nat.le_refl _)) fun u hu => EvQ.pure ?_
      rw [List.drop_zero] at hu
      subst hu
      exact ⟨fun _ => rfl, fun hb => absurd ⟨hr.1 h, by omega, h3, ha⟩ hb⟩
    | succ c ih =>
      intro i hi hp
      refine EvQ.succ (fun k => by rw [spec_Wrap.l0]) ?_
      rw [rdOf_at ws i (by omega)]
      have hs := hsz ws[i] (List.getElem_mem _)
      refine EvQ.pos (by omega) (EvQ.pos (by omega) (EvQ.bind (specWord_ev _ (by omega)) fun r hr => ?_))
      refine EvQ.both (fun h => ?_) (fun h => EvQ.pure ⟨fun hg => absurd (hr.2 (hg.2.2.2 _ (List.getElem_mem _))) h, fun _ => rfl⟩)
      have e1 : wrap64 ((i : Int) + 1) = ((i + 1 : Nat) : Int) := by rw [w64 (by omega) (by omega)]; omega
      rw [e1]
      clear e1
      refine ih (i + 1) (by omega) fun j hj hji => ?_
      rcases Nat.lt_or_ge j i with h2 | h2
      · exact hp j hj h2
      · obtain rfl : j = i := by omega
        exact hr.1 h
  unfold spec_Wrap.f
  exact loop ws.length 0 (by omega) fun j _ hj => by omega

/-! ### Lists of texts compared -/
theorem texts_ev (a b : List ByteArray) (ha : a.length ≤ 100000) : EvQ (fun k => laws_mdTexts.f k a b) (fun r => r = true ↔ a = b) := by
  unfold laws_mdTexts.f
  refine EvQ.both (fun h => ?_) (fun h => EvQ.pure ⟨(fun e => by cases e), fun e => absurd (by rw [e]) h⟩)
  have loop : ∀ c i : Nat, i + c = a.length → EvQ (fun k => laws_mdTexts.l0 k a b (i : Int)) (fun r => r = true ↔ a.drop i = b.drop i) := by
    intro c
    induction c with
    | zero =>
      intro i hi
      refine EvQ.succ (fun k => by rw [laws_mdTexts.l0]) ?_
      refine EvQ.neg (by omega) (EvQ.pure ?_)
      rw [List.drop_eq_nil_of_le (by omega), List.drop_eq_nil_of_le (by omega)]
      exact ⟨fun _ => rfl, fun _ => rfl⟩
    | succ c ih =>
      intro i hi
      refine EvQ.succ (fun k => by rw [laws_mdTexts.l0]) ?_
      rw [rdOf_at a i (by omega), rdOf_at b i (by omega), List.drop_eq_getElem_cons (show i < a.length by omega), List.drop_eq_getElem_cons (show i < b.length by omega)]
      have e1 : wrap64 ((i : Int) + 1) = ((i + 1 : Nat) : Int) := by rw [w64 (by omega) (by omega)]; omega
      rw [e1]
      clear e1
      refine EvQ.pos (by omega) (EvQ.pos (by omega) (EvQ.pos (by omega) (EvQ.both (fun h2 => ?_) (fun h2 => EvQ.pure ⟨(fun e => by cases e), fun e => ?_⟩))))
      · rw [toList_data, toList_data] at h2
        refine (ih (i + 1) (by omega)).imp fun r hr => ?_
        rw [hr, Go.WideShapes.bytes_inj h2, List.cons.injEq]
        exact ⟨fun e => ⟨rfl, e⟩, fun e => e.2⟩
      · rw [List.cons.injEq] at e
        exact absurd (by rw [e.1]) h2
  exact (loop a.length 0 (by omega)).imp fun r hr => by rw [hr, List.drop_zero, List.drop_zero]

/-! ### Lines as one list -/
def wrapL (P : ByteArray → List Int) (width : Int) : List ByteArray → ByteArray → List ByteArray
  | [], line => [line]
  | w :: ws, line =>
    if ((aheadF line).size : Int) + w.size ≤ width then wrapL P width ws (aheadF line ++ w)
    else lineF (aheadF line) line w (bestF (width - (aheadF line).size) (P w) 0) :: wrapL P width ws (restF w (bestF (width - (aheadF line).size) (P w) 0))
theorem wrapF_eq (P : ByteArray → List Int) (width : Int) (ws : List ByteArray) : ∀ (out : List ByteArray) (line : ByteArray), (wrapF P width ws out line).1 ++ [(wrapF P width ws out line).2] = out ++ wrapL P width ws line := by
  induction ws with
  | nil => exact fun _ _ => rfl
  | cons w ws ih =>
    intro out line
    simp only [wrapF, wrapL]
    split
    · exact ih _ _
    · rw [ih, List.append_assoc]
      rfl
theorem wrapL_length (P : ByteArray → List Int) (width : Int) (ws : List ByteArray) : ∀ line, (wrapL P width ws line).length ≤ ws.length + 1 ∧ wrapL P width ws line ≠ [] := by
  induction ws with
  | nil => exact fun line => ⟨Nat.le_refl _, by simp [wrapL]⟩
  | cons w ws ih =>
    intro line
    simp only [wrapL]
    split
    · have := ih (aheadF line ++ w)
      exact ⟨by rw [List.length_cons]; omega, this.2⟩
    · have := (ih (restF w (bestF (width - (aheadF line).size) (P w) 0))).1
      exact ⟨by rw [List.length_cons, List.length_cons]; omega, by simp⟩
/-- Lines fit, and none is empty. -/
theorem wrapL_fits (P : ByteArray → List Int) (hP : ∀ w : ByteArray, w.size ≤ 100 → Places w.size 100 (P w)) (width : Int) (h12 : 12 ≤ width) (ws : List ByteArray) : ∀ line : ByteArray, 0 < line.size → (line.size : Int) ≤ width → (∀ w ∈ ws, IsWord w) →
    ∀ l ∈ wrapL P width ws line, (l.size : Int) ≤ width ∧ 0 < l.size := by
  induction ws with
  | nil =>
    intro line h0 h1 _ l hl
    obtain rfl := List.mem_singleton.1 hl
    exact ⟨h1, h0⟩
  | cons w ws ih =>
    intro line h0 h1 hws l hl
    have hw := hws w (List.mem_cons_self ..)
    have hsz := hw.1
    have has := aheadF_size line
    rw [if_neg (by omega)] at has
    simp only [wrapL] at hl
    have hpl := hP w (by omega)
    have hb := bestF_in (width - (aheadF line).size) w.size (P w) (fun p hp => by have := hpl.2.1 p hp; omega) 0 (.inl rfl)
    split at hl
    · exact ih _ (by rw [ByteArray.size_append]; omega) (by rw [ByteArray.size_append]; omega) (fun x hx => hws x (List.mem_cons_of_mem _ hx)) l hl
    · generalize bestF (width - (aheadF line).size) (P w) 0 = b at hb hl
      rcases List.mem_cons.1 hl with rfl | hl
      · unfold lineF
        split
        · have e : ((aheadF line ++ (w.extract 0 b.toNat)) ++ (⟨#[45]⟩ : ByteArray)).size = (aheadF line).size + (min b.toNat w.size) + 1 := by
            rw [ByteArray.size_append, ByteArray.size_append, ByteArray.size_extract]; rfl
          rw [e]
          omega
        · exact ⟨h1, h0⟩
      · have e : 0 < (restF w b).size ∧ (restF w b).size ≤ 12 := by
          unfold restF
          split
          · rw [ByteArray.size_extract]; omega
          · omega
        exact ih _ e.1 (by omega) (fun x hx => hws x (List.mem_cons_of_mem _ hx)) l hl

/-! ### Tokens -/
def joinW : ByteArray → List ByteArray → ByteArray
  | t, [] => t
  | t, u :: us => t ++ ((⟨#[32]⟩ : ByteArray) ++ joinW u us)
theorem joinW_snoc (w : ByteArray) (ts : List ByteArray) : ∀ t, joinW t (ts ++ [w]) = joinW t ts ++ ((⟨#[32]⟩ : ByteArray) ++ w) := by
  induction ts with
  | nil => exact fun t => rfl
  | cons u us ih =>
    intro t
    simp only [List.cons_append, joinW]
    rw [ih u]
    simp only [app_assoc]
theorem app_data (s t : ByteArray) : (s ++ t).data.toList = s.data.toList ++ t.data.toList := by rw [ByteArray.data_append, Array.toList_append]
def NoSp (x : ByteArray) : Prop := ∀ b ∈ x.data.toList, b ≠ 32
/-- A whole token: letters. -/
def Tok (x : ByteArray) : Prop := x.data.toList ≠ [] ∧ ∀ b ∈ x.data.toList, b ≠ 32 ∧ b ≠ 45
theorem Tok.noSp {x : ByteArray} (h : Tok x) : NoSp x := fun b hb => (h.2 b hb).1
theorem tok_part {w : ByteArray} (h : ∀ b ∈ w.data.toList, b ≠ 32 ∧ b ≠ 45) (i j : Nat) (hij : i < j) (hj : j ≤ w.size) : Tok (w.extract i j) := by
  constructor
  · rw [← List.length_pos_iff, sz, ByteArray.size_extract]
    omega
  · rw [Lib.extract_data]
    exact fun b hb => h b (List.mem_of_mem_drop (List.mem_of_mem_take hb))
theorem word_letters {w : ByteArray} (h : IsWord w) : ∀ b ∈ w.data.toList, b ≠ 32 ∧ b ≠ 45 := by
  intro b hb
  obtain ⟨i, hi, he⟩ := List.mem_iff_getElem.1 hb
  rw [sz] at hi
  have hl := h.2 i (Nat.zero_le _) hi
  have e : bt w i = (b.toNat : Int) := by
    unfold bt
    have e2 : ((i : Nat) : Int).toNat = i := rfl
    simp only [e2]
    rw [dif_pos hi]
    have : w[i] = b := by rw [← he]; simp [ByteArray.getElem_eq_getElem_data]
    rw [this]
  rw [e] at hl
  constructor
  · rintro rfl
    have : (32 : UInt8).toNat = 32 := rfl
    omega
  · rintro rfl
    have : (45 : UInt8).toNat = 45 := rfl
    omega
theorem tok_word {w : ByteArray} (h : IsWord w) : Tok w := ⟨by rw [← List.length_pos_iff, sz]; exact h.1.1, word_letters h⟩
end Go.Proofs.YtlmbmfnimpjgmaaDoor.P
