/- Wrapping as one plain function: the program's and the specification's. -/
import Derived.Test.YtlmbmfnimpjgmaaDoorSplitAt
import Derived.Test.YtlmbmfnimpjgmaaDoorP12
set_option linter.unusedVariables false
set_option linter.unusedSimpArgs false
namespace Go.Proofs.YtlmbmfnimpjgmaaDoor.P
open Go.RowKit Go.Proofs.YtlmbmfnimpjgmaaDoorW.PrintWords Go.Proofs.YtlmbmfnimpjgmaaDoorW.PrintLast Go.Proofs.YtlmbmfnimpjgmaaDoorW.PrintMore

/-- What stands ahead of the next word. -/
def aheadF (line : ByteArray) : ByteArray := if line.size = 0 then line else line ++ (⟨#[32]⟩ : ByteArray)
theorem aheadF_size (line : ByteArray) : (aheadF line).size = if line.size = 0 then 0 else line.size + 1 := by
  unfold aheadF
  split
  · rename_i h; exact h
  · rw [ByteArray.size_append]; rfl
/-- The last place that fits. -/
def bestF (room : Int) : List Int → Int → Int
  | [], b => b
  | p :: ps, b => bestF room ps (if p + 1 ≤ room then p else b)
def lineF (ahead line w : ByteArray) (b : Int) : ByteArray := if 0 < b then (ahead ++ (w.extract 0 b.toNat)) ++ (⟨#[45]⟩ : ByteArray) else line
def restF (w : ByteArray) (b : Int) : ByteArray := if 0 < b then w.extract b.toNat w.size else w
def wrapF (P : ByteArray → List Int) (width : Int) : List ByteArray → List ByteArray → ByteArray → List ByteArray × ByteArray
  | [], out, line => (out, line)
  | w :: ws, out, line =>
    if ((aheadF line).size : Int) + w.size ≤ width then wrapF P width ws out (aheadF line ++ w)
    else wrapF P width ws (out ++ [lineF (aheadF line) line w (bestF (width - (aheadF line).size) (P w) 0)]) (restF w (bestF (width - (aheadF line).size) (P w) 0))
/-- What the places of each word are. -/
def PlacesOf (xs : List S42) (P : ByteArray → List Int) : Prop := ∀ w : ByteArray, w.size ≤ 100 → EvQ (fun k => impl_SplitAt.f k xs w) (· = P w) ∧ (PatsOk xs → IsWord w → EvQ (fun k => spec_l9At.f k xs w) (· = P w)) ∧ Places w.size 100 (P w)
theorem places_of (xs : List S42) (hx : Sized xs) : ∃ P, PlacesOf xs P := by
  refine Classical.axiomOfChoice (r := fun (w : ByteArray) (ps : List Int) => w.size ≤ 100 → EvQ (fun k => impl_SplitAt.f k xs w) (· = ps) ∧ (PatsOk xs → IsWord w → EvQ (fun k => spec_l9At.f k xs w) (· = ps)) ∧ Places w.size 100 ps) fun w => ?_
  by_cases hw : w.size ≤ 100
  · obtain ⟨ps, h1, h2, h3, _⟩ := splitAt_ev xs w hx hw
    refine ⟨ps, fun _ => ⟨h1, fun hp hq => ?_, h3⟩⟩
    obtain ⟨r, ⟨k0, h0⟩, rfl⟩ := h2
    obtain ⟨b, ⟨k1, g1⟩, hb⟩ := specPats_ev xs hx
    obtain ⟨u, ⟨k2, g2⟩, hu⟩ := specWord_ev w (by omega)
    refine ⟨r, ⟨k0 + k1 + k2, fun k hk => ?_⟩, rfl⟩
    have e := h0 k (by omega)
    simp only [spec_SplitAt.f, g1 k (by omega), g2 k (by omega), Option.bind_some, hb.2 hp, hu.2 hq, if_true] at e
    cases h : spec_l9At.f k xs w with
    | none => simp [h] at e
    | some v => simpa [h] using e
  · exact ⟨[], fun h => absurd h hw⟩
theorem rdOf_at (ws : List ByteArray) (i : Nat) (hi : i < ws.length) : rdOf ByteArray.empty ws i = ws[i] := by
  unfold rdOf
  have e : ((i : Nat) : Int).toNat = i := rfl
  rw [e, List.getD_eq_getElem?_getD, List.getElem?_eq_getElem hi]
  rfl
theorem rd_at' (ps : List Int) (i : Nat) (hi : i < ps.length) : rd ps i = ps[i] := by
  unfold rd
  have e : ((i : Nat) : Int).toNat = i := rfl
  rw [e, List.getD_eq_getElem?_getD, List.getElem?_eq_getElem hi]
  rfl
theorem nil_iff (s : ByteArray) : s.toList = ([] : List UInt8) ↔ s.size = 0 := by
  rw [toList_data, ← List.length_eq_zero_iff, sz]
theorem empty_app (s w : ByteArray) (h : s.size = 0) : s ++ w = w := by
  refine Go.WideShapes.bytes_inj ?_
  rw [ByteArray.data_append, Array.toList_append]
  have : s.data.toList = [] := by rw [← List.length_eq_zero_iff, sz, h]
  rw [this, List.nil_append]

theorem bestF_in (room : Int) (w : Nat) (ps : List Int) : (∀ p ∈ ps, 2 ≤ p ∧ p + 2 ≤ (w : Int)) → ∀ b : Int, (b = 0 ∨ (2 ≤ b ∧ b + 2 ≤ (w : Int) ∧ b + 1 ≤ room)) → bestF room ps b = 0 ∨ (2 ≤ bestF room ps b ∧ bestF room ps b + 2 ≤ (w : Int) ∧ bestF room ps b + 1 ≤ room) := by
  induction ps with
  | nil => exact fun _ b h => h
  | cons p ps ih =>
    intro h b hb
    unfold bestF
    refine ih (fun q hq => h q (List.mem_cons_of_mem _ hq)) _ ?_
    split
    · have := h p (List.mem_cons_self ..)
      exact .inr ⟨this.1, this.2, by omega⟩
    · exact hb
theorem app_assoc (a b c : ByteArray) : (a ++ b) ++ c = a ++ (b ++ c) := by
  refine Go.WideShapes.bytes_inj ?_
  simp only [ByteArray.data_append, Array.toList_append, List.append_assoc]
/-- The whole answer. -/
def endF (n : Nat) (r : List ByteArray × ByteArray) : List ByteArray := if n = 0 then r.1 else r.1 ++ [r.2]

section
variable (xs : List S42) (ws : List ByteArray) (width : Int) (P : ByteArray → List Int) (hP : PlacesOf xs P) (hlen : ws.length ≤ 100) (hws : ∀ w ∈ ws, IsWord w) (h12 : 12 ≤ width) (h60 : width ≤ 60)
include hP hlen hws h12 h60

omit hws in
theorem implBest (w : ByteArray) (hw : IsWord w) (ahead line : ByteArray) (ha : ahead.size ≤ 100) (out : List ByteArray) (ho : out.length ≤ 100) (i : Nat) (hi : i < ws.length) {Q : List ByteArray × Bool → Prop} (c : Nat) : ∀ (j : Nat) (b : Int), j + c = (P w).length →
    EvQ (fun k => impl_Wrap.l1 k xs ws width (out ++ [lineF ahead line w (bestF (width - ahead.size) ((P w).drop j) b)]) (restF w (bestF (width - ahead.size) ((P w).drop j) b)) ws (ws.length : Int) ((i + 1 : Nat) : Int)) Q →
    EvQ (fun k => impl_Wrap.l2 k xs ws width out (lineF ahead line w b) w ahead (restF w b) ws (ws.length : Int) (i : Int) (P w) ((P w).length : Int) (j : Int)) Q := by
  have hsz := hw.1
  obtain ⟨_, hp2, hp3⟩ := (hP w (by omega)).2.2
  have e1 : wrap64 ((i : Int) + 1) = ((i + 1 : Nat) : Int) := by rw [w64 (by omega) (by omega)]; omega
  induction c with
  | zero =>
    intro j b hj go
    rw [List.drop_eq_nil_of_le (by omega)] at go
    refine EvQ.succ (fun k => by rw [impl_Wrap.l2]) ?_
    rw [e1]
    clear e1
    exact EvQ.neg (by omega) (EvQ.pos (by omega) go)
  | succ c ih =>
    intro j b hj go
    have hd : (P w).drop j = (P w)[j] :: (P w).drop (j + 1) := List.drop_eq_getElem_cons (by omega)
    rw [hd] at go
    have hm := hp2 _ (List.getElem_mem (show j < (P w).length by omega))
    refine EvQ.succ (fun k => by rw [impl_Wrap.l2]) ?_
    have e2 : wrap64 ((j : Int) + 1) = ((j + 1 : Nat) : Int) := by clear e1; rw [w64 (by omega) (by omega)]; omega
    have e3 : wrap64 (wrap64 ((ahead.size : Int) + (P w)[j]) + 1) = (ahead.size : Int) + (P w)[j] + 1 := by clear e1 e2; rw [w64 (n := (ahead.size : Int) + _) (by omega) (by omega), w64 (by omega) (by omega)]
    rw [e2, rd_at' (P w) j (by clear e1 e2 e3; omega), e3]
    clear e1 e2 e3
    refine EvQ.pos (by omega) (EvQ.pos (by omega) (EvQ.pos (by omega) (EvQ.both (fun h => ?_) (fun h => ?_))))
    · refine EvQ.pos (by omega) (EvQ.pos (by omega) (EvQ.pos (by omega) (EvQ.pos (by omega) ?_)))
      have := ih (j + 1) (P w)[j] (by omega) (by
        simp only [bestF] at go
        rw [if_pos (by omega)] at go
        exact go)
      unfold lineF restF at this
      rw [if_pos (by omega), if_pos (by omega)] at this
      exact this
    · refine ih (j + 1) b (by omega) ?_
      simp only [bestF] at go
      rw [if_neg (by omega)] at go
      exact go
omit hP hlen h12 h60 in
theorem word_at (i : Nat) (hi : i < ws.length) : IsWord ws[i] := hws _ (List.getElem_mem hi)
theorem implWrap (c : Nat) : ∀ (i : Nat) (out : List ByteArray) (line : ByteArray), i + c = ws.length → (i = 0 → line.size = 0) → (0 < i → 0 < line.size) → line.size ≤ 60 → out.length ≤ i →
    EvQ (fun k => impl_Wrap.l1 k xs ws width out line ws (ws.length : Int) (i : Int)) (· = (endF ws.length (wrapF P width (ws.drop i) out line), true)) := by
  induction c with
  | zero =>
    intro i out line hi h0 h1 hl ho
    rw [List.drop_eq_nil_of_le (by omega)]
    refine EvQ.succ (fun k => by rw [impl_Wrap.l1]) ?_
    refine EvQ.neg (by omega) (EvQ.both (fun h => EvQ.pos (by omega) (EvQ.pure ?_)) (fun h => EvQ.pure ?_))
    · unfold endF wrapF
      rw [if_neg (by omega)]
    · unfold endF wrapF
      rw [if_pos (by omega)]
  | succ c ih =>
    intro i out line hi h0 h1 hl ho
    have hi' : i < ws.length := by omega
    have hd : ws.drop i = ws[i] :: ws.drop (i + 1) := List.drop_eq_getElem_cons hi'
    have hw := word_at ws hws i hi'
    have hsz := hw.1
    have has := aheadF_size line
    have has2 : (aheadF line).size ≤ 61 := by split at has <;> omega
    rw [hd]
    have hj : EvQ (fun k => impl_Wrap.j3 k xs ws width out line ws[i] (aheadF line) ws (ws.length : Int) (i : Int)) (· = (endF ws.length (wrapF P width (ws[i] :: ws.drop (i + 1)) out line), true)) := by
      refine EvQ.succ (fun k => by rw [impl_Wrap.j3]) ?_
      have e1 : wrap64 ((i : Int) + 1) = ((i + 1 : Nat) : Int) := by rw [w64 (by omega) (by omega)]; omega
      have e2 : wrap64 (((aheadF line).size : Int) + (ws[i].size : Int)) = ((aheadF line).size : Int) + (ws[i].size : Int) := w64 (by clear e1; omega) (by clear e1; omega)
      rw [e1, e2]
      clear e1 e2
      simp only [wrapF]
      refine EvQ.both (fun h => ?_) (fun h => ?_)
      · rw [if_pos h]
        refine EvQ.pos (by omega) (ih (i + 1) out _ (by omega) (by omega) (fun _ => ?_) ?_ (by omega))
        · rw [ByteArray.size_append]; omega
        · rw [ByteArray.size_append]; omega
      · rw [if_neg h]
        refine EvQ.bind (hP ws[i] (by omega)).1 fun r hr => ?_
        subst hr
        have hb := bestF_in (width - (aheadF line).size) ws[i].size (P ws[i]) (fun p hp => by have := (hP ws[i] (by omega)).2.2.2.1 p hp; omega) 0 (.inl rfl)
        have := implBest xs ws width P hP hlen h12 h60 ws[i] hw (aheadF line) line (by omega) out (by omega) i hi' (P ws[i]).length 0 0 (by omega)
          (by
            rw [List.drop_zero]
            refine ih (i + 1) _ _ (by omega) (by omega) (fun _ => ?_) ?_ (by rw [List.length_append, List.length_singleton]; omega)
            · unfold restF
              split
              · rw [ByteArray.size_extract]; omega
              · omega
            · unfold restF
              split
              · rw [ByteArray.size_extract]; omega
              · omega)
        unfold lineF restF at this
        rw [if_neg (by omega), if_neg (by omega)] at this
        exact this
    refine EvQ.succ (fun k => by rw [impl_Wrap.l1]) ?_
    rw [rdOf_at ws i hi']
    refine EvQ.pos (by omega) (EvQ.pos (by omega) (EvQ.pos (by omega) (EvQ.both (fun h => EvQ.pos (by omega) ?_) (fun h => ?_))))
    · have e : aheadF line = line ++ (⟨#[32]⟩ : ByteArray) := by unfold aheadF; rw [if_neg (by have := h1 (by omega); omega)]
      rw [← e]
      exact hj
    · have e : aheadF line = line := by unfold aheadF; rw [if_pos (h0 (by omega))]
      rw [e] at hj
      exact hj
omit hP hlen hws h12 h60 in
theorem specFit (room : Int) (hr : -1000 ≤ room ∧ room ≤ 1000) (ps : List Int) (hps : ps.length ≤ 100) (hpp : ∀ p ∈ ps, 2 ≤ p ∧ p ≤ 200) (c : Nat) : ∀ (j : Nat) (b : Int), j + c = ps.length → EvQ (fun k => spec_l9Fit.l0 k room ps b (j : Int)) (· = bestF room (ps.drop j) b) := by
  induction c with
  | zero =>
    intro j b hj
    rw [List.drop_eq_nil_of_le (by omega)]
    refine EvQ.succ (fun k => by rw [spec_l9Fit.l0]) ?_
    exact EvQ.neg (by omega) (EvQ.pure rfl)
  | succ c ih =>
    intro j b hj
    have hd : ps.drop j = ps[j] :: ps.drop (j + 1) := List.drop_eq_getElem_cons (by omega)
    have hm := hpp _ (List.getElem_mem (show j < ps.length by omega))
    refine EvQ.succ (fun k => by rw [spec_l9Fit.l0]) ?_
    have e1 : wrap64 ((j : Int) + 1) = ((j + 1 : Nat) : Int) := by rw [w64 (by omega) (by omega)]; omega
    have e2 : wrap64 (ps[j] + 1) = ps[j] + 1 := w64 (by clear e1; omega) (by clear e1; omega)
    rw [e1, rd_at' ps j (by clear e1 e2; omega), e2, hd]
    clear e1 e2
    refine EvQ.pos (by omega) (EvQ.pos (by omega) (EvQ.both (fun h => ?_) (fun h => ?_)))
    · simp only [bestF]
      rw [if_pos h]
      exact ih (j + 1) _ (by omega)
    · simp only [bestF]
      rw [if_neg h]
      exact ih (j + 1) _ (by omega)
omit hP hlen hws h12 h60 in
theorem join_ev (line w : ByteArray) (hl : line.size ≤ 1000) (hw : w.size ≤ 1000) : spec_l9Join.f line w = some (aheadF line ++ w) := by
  unfold spec_l9Join.f aheadF
  by_cases h : line.size = 0
  · rw [if_pos ((nil_iff _).2 h), if_pos h, empty_app _ _ h]
  · rw [if_neg (fun e => h ((nil_iff _).1 e)), if_neg h, if_pos (by omega), if_pos (by omega)]
theorem specWrap (hp : PatsOk xs) (c : Nat) : ∀ (i : Nat) (out : List ByteArray) (line : ByteArray), i + c = ws.length → (i = 0 → line.size = 0) → (0 < i → 0 < line.size) → line.size ≤ 60 → out.length ≤ i →
    EvQ (fun k => spec_l9Wrap.l0 k xs ws width out line (i : Int)) (· = endF ws.length (wrapF P width (ws.drop i) out line)) := by
  induction c with
  | zero =>
    intro i out line hi h0 h1 hl ho
    rw [List.drop_eq_nil_of_le (by omega)]
    refine EvQ.succ (fun k => by rw [spec_l9Wrap.l0]) ?_
    unfold endF wrapF
    refine EvQ.neg (by omega) (EvQ.both (fun h => EvQ.pure ?_) (fun h => EvQ.pos (by omega) (EvQ.pure ?_)))
    · rw [nil_iff] at h
      rw [if_pos (by omega)]
    · rw [nil_iff] at h
      rw [if_neg (by omega)]
  | succ c ih =>
    intro i out line hi h0 h1 hl ho
    have hi' : i < ws.length := by omega
    have hd : ws.drop i = ws[i] :: ws.drop (i + 1) := List.drop_eq_getElem_cons hi'
    have hw := word_at ws hws i hi'
    have hsz := hw.1
    have has := aheadF_size line
    have has2 : (aheadF line).size ≤ 61 := by split at has <;> omega
    rw [hd]
    have hj : EvQ (fun k => spec_l9Wrap.j1 k xs ws width out line (i : Int) (width - (aheadF line).size)) (· = endF ws.length (wrapF P width (ws[i] :: ws.drop (i + 1)) out line)) := by
      refine EvQ.succ (fun k => by rw [spec_l9Wrap.j1]) ?_
      have e1 : wrap64 ((i : Int) + 1) = ((i + 1 : Nat) : Int) := by rw [w64 (by omega) (by omega)]; omega
      rw [e1, rdOf_at ws i hi']
      clear e1
      simp only [wrapF]
      refine EvQ.pos (by omega) (EvQ.pos (by omega) (EvQ.both (fun h => ?_) (fun h => ?_)))
      · rw [if_pos (by omega), join_ev _ _ (by omega) (by omega)]
        refine EvQ.some_bind (ih (i + 1) out _ (by omega) (by omega) (fun _ => ?_) ?_ (by omega))
        · rw [ByteArray.size_append]; omega
        · rw [ByteArray.size_append]; omega
      · rw [if_neg (by omega)]
        have hpl := (hP ws[i] (by omega)).2.2
        have hb := bestF_in (width - (aheadF line).size) ws[i].size (P ws[i]) (fun p hp => by have := hpl.2.1 p hp; omega) 0 (.inl rfl)
        have hfit : EvQ (fun k => spec_l9Fit.f k xs ws[i] (width - (aheadF line).size)) (· = bestF (width - (aheadF line).size) (P ws[i]) 0) := by
          unfold spec_l9Fit.f
          refine EvQ.bind ((hP ws[i] (by omega)).2.1 hp hw) fun r hr => ?_
          subst hr
          have := specFit (width - (aheadF line).size) (by omega) (P ws[i]) hpl.2.2 (fun p hp => by have := hpl.2.1 p hp; omega) (P ws[i]).length 0 0 (by omega)
          rw [List.drop_zero] at this
          exact this
        refine EvQ.bind hfit fun r hr => ?_
        subst hr
        generalize bestF (width - (aheadF line).size) (P ws[i]) 0 = b at hb ⊢
        unfold lineF restF
        refine EvQ.both (fun h2 => ?_) (fun h2 => ?_)
        · rw [if_pos (by omega), if_pos (by omega)]
          refine EvQ.pos (by omega) (EvQ.pos (by omega) (EvQ.pos (by omega) ?_))
          have e3 : ((ws[i].extract 0 b.toNat) ++ (⟨#[45]⟩ : ByteArray)).size ≤ 1000 := by
            rw [ByteArray.size_append, ByteArray.size_extract]
            show _ + 1 ≤ 1000
            omega
          rw [join_ev _ _ (by omega) e3, ← app_assoc]
          refine EvQ.some_bind (EvQ.pos (by omega) (ih (i + 1) _ _ (by omega) (by omega) (fun _ => ?_) ?_ (by rw [List.length_append, List.length_singleton]; omega)))
          · rw [ByteArray.size_extract]; omega
          · rw [ByteArray.size_extract]; omega
        · rw [if_neg (by omega), if_neg (by omega)]
          refine EvQ.both (fun h3 => ?_) (fun h3 => ?_)
          · rw [nil_iff] at h3
            rw [if_pos h3] at has
            omega
          · exact EvQ.pos (by omega) (ih (i + 1) _ _ (by omega) (by omega) (fun _ => by omega) (by omega) (by rw [List.length_append, List.length_singleton]; omega))
    refine EvQ.succ (fun k => by rw [spec_l9Wrap.l0]) ?_
    refine EvQ.pos (by omega) (EvQ.both (fun h => ?_) (fun h => ?_))
    · rw [nil_iff] at h
      rw [if_pos h] at has
      have e : wrap64 (width - (line.size : Int)) = width - ((aheadF line).size : Int) := by rw [w64 (by omega) (by omega)]; omega
      rw [e]
      exact hj
    · rw [nil_iff] at h
      rw [if_neg h] at has
      have e : wrap64 (wrap64 (width - (line.size : Int)) - 1) = width - ((aheadF line).size : Int) := by rw [w64 (n := width - (line.size : Int)) (by omega) (by omega), w64 (by omega) (by omega)]; omega
      rw [e]
      exact hj
end
end Go.Proofs.YtlmbmfnimpjgmaaDoor.P
