-- Written by programs of this session (wip/gen/gen.py, put.py) out of Lean's print of the loaded program; Lean checks it.
import Derived.Test.YtbopiacjioedeaaP0
import Derived.Test.YtbopiacjioedeaaSq2
namespace Go.Proofs.Ytbopiacjioedeaa.P
open Go.RowKit Go.Proofs.YtbopiacjioedeaaW.PrintWords Go.Proofs.YtbopiacjioedeaaW.PrintLast Go.Proofs.YtbopiacjioedeaaW.PrintMore
attribute [local go_sem] max2_int min2_int max_two min_two max_three min_three max_four min_four IntKind.wrap_u8 IntKind.wrap_u32 w64_256 w64_u32
set_option maxHeartbeats 8000000
set_option maxRecDepth 100000
set_option linter.unusedVariables false
set_option linter.unusedSimpArgs false
/-! ### spec_l1Put: function 54 -/
def spec_l1Put.l0 : Nat → List ByteArray → ByteArray → Int → Option (List ByteArray)
 | 0, _, _, _ => none
 | k + 1, x0, x1, x5 => if x5 < (x0.length : Int) then (if 0 ≤ x5 then (if (Op.bytesLess ((rdOf ByteArray.empty x0 x5).toList) x1.toList) = true then (spec_l1Put.l0 k x0 x1 (wrap64 (x5 + 1))) else (if (rdOf ByteArray.empty x0 x5).toList = x1.toList then (some x0) else ((some (([] : List ByteArray) : List ByteArray)).bind fun y293 => (if x5 ≤ (x0.length : Int) then (if y293.length + (x0.take (x5 : Int).toNat).length < 8796093022208 then ((some (y293 ++ (x0.take (x5 : Int).toNat) : List ByteArray)).bind fun y297 => ((some (([x1] : List ByteArray) : List ByteArray)).bind fun y300 => (if y297.length + y300.length < 8796093022208 then ((some (y297 ++ y300 : List ByteArray)).bind fun y303 => (if y303.length + (x0.drop (x5 : Int).toNat).length < 8796093022208 then (some (y303 ++ (x0.drop (x5 : Int).toNat))) else (none))) else (none)))) else (none)) else (none))))) else (none)) else ((some (([] : List ByteArray) : List ByteArray)).bind fun y310 => (if 0 ≤ x5 then (if x5 ≤ (x0.length : Int) then (if y310.length + (x0.take (x5 : Int).toNat).length < 8796093022208 then ((some (y310 ++ (x0.take (x5 : Int).toNat) : List ByteArray)).bind fun y314 => ((some (([x1] : List ByteArray) : List ByteArray)).bind fun y317 => (if y314.length + y317.length < 8796093022208 then ((some (y314 ++ y317 : List ByteArray)).bind fun y320 => (if y320.length + (x0.drop (x5 : Int).toNat).length < 8796093022208 then (some (y320 ++ (x0.drop (x5 : Int).toNat))) else (none))) else (none)))) else (none)) else (none)) else (none)))
def spec_l1Put.f (k : Nat) (l0 : List ByteArray) (a1 : ByteArray) : Option (List ByteArray) := spec_l1Put.l0 k l0 a1 0
theorem spec_l1Put.mono_l : ∀ k, (∀ y0 y1 y2, LeO (spec_l1Put.l0 k y0 y1 y2) (spec_l1Put.l0 (k + 1) y0 y1 y2))
 | 0 => fun _ _ _ r h => by simp [spec_l1Put.l0] at h
 | k + 1 => by
  have ih0 := spec_l1Put.mono_l k
  · intro y0 y1 y2
    unfold spec_l1Put.l0
    exact mn_
theorem spec_l1Put.mono : ∀ a0 a1 k, LeO (spec_l1Put.f k a0 a1) (spec_l1Put.f (k + 1) a0 a1) := by
 intro a0 a1 k
 have ih0 := spec_l1Put.mono_l k
 unfold spec_l1Put.f
 exact mn_
def spec_l1Put.T6 : Bool × List (List Nat × List Nat) := (true, [([], []), ([], []), ([], []), ([1, 2], [1, 2]), ([0, 3], [0, 3]), ([], []), ([5], [5]), ([4, 6, 4], [4, 6]), ([], []), ([], []), ([8, 9], [8, 9]), ([7, 10, 7], [7, 10]), ([11, 11, 0, 1, 2, 3, 4, 5, 6, 7, 8, 9, 10, 11], [11])])
def spec_l1Put.B6 : List Nat := [0, 0, 0, 6, 15, 0, 32, 127, 0, 0, 768, 2047, 4095]
theorem spec_l1Put.tab6 : rtab .any (opsOf Try.f54 6) = spec_l1Put.T6 := by kernel_rfl
theorem spec_l1Put.bits6 : waitsOk spec_l1Put.T6.2 spec_l1Put.B6 = true := by kernel_rfl
theorem spec_l1Put.callsC (k : Nat) (A0 : Option Addr) (c0 : Nat) (l0 : List ByteArray) (a1 : ByteArray) (r : List ByteArray) (w : World) (hr0 : Kd.C Kd.string w A0 l0.length l0) (hc0 : l0.length ≤ c0) (h : spec_l1Put.f k l0 a1 = some r) :
 Calls Try.prog 54 #[.slice A0 l0.length c0, .string a1] w fun e w' => ∃ v0_ : Value, e = .returned (v0_) ∧ ((v0_ = .slice A0 l0.length c0 ∧ r = l0) ∨ Kd.R Kd.string 9 w' w.heap.size (fun _ => True) v0_ r) ∧ Below w.heap.size w w' := by
 have HR0 := Aside0.mk hr0
 have HC0 := Aside0.mk hc0
 clear hr0 hc0
 have HB := Aside0.mk (Below.refl w.heap.size w)
 have H : (spec_l1Put.l0 k l0 a1 0) = some r := h
 clear h
 have H' := Aside0.mk H; clear H
 go_enter Try.func54, Try.ntmps54
 go_wp2
 go_loopg [5] k (fun kq v5 w' => ∃ (x5_1 : Int), v5 = .int .i64 x5_1 ∧ Aside0 (spec_l1Put.l0 kq l0 a1 x5_1 = some r) ∧ Aside0 (kq ≤ k) ∧ Aside0 (Below w.heap.size w w'))
 case atStart => exact ⟨(0), rf_, H', ⟨Nat.le_refl _⟩, ⟨bl_⟩⟩
 case round =>
  clear H'
  try clear p2
  obtain ⟨x5_1, rfl, HA, HK1, HB⟩ := hrel
  cases gk with
  | zero => exact absurd HA.out (by simp [spec_l1Put.l0])
  | succ k1 =>
   have H := HA.out
   clear HA
   simp only [spec_l1Put.l0] at H
   replace H := iudd_ H; rcases H with ⟨c3b0, H⟩ | ⟨c3b0, H⟩
   · obtain ⟨y310, hy_⟩ : ∃ y_ : List ByteArray, y_ = (([] : List ByteArray)) := ⟨_, rfl⟩
     replace H : (if 0 ≤ x5_1 then (if x5_1 ≤ (l0.length : Int) then (if y310.length + (l0.take (x5_1 : Int).toNat).length < 8796093022208 then ((some (y310 ++ (l0.take (x5_1 : Int).toNat) : List ByteArray)).bind fun y314 => ((some (([a1] : List ByteArray) : List ByteArray)).bind fun y317 => (if y314.length + y317.length < 8796093022208 then ((some (y314 ++ y317 : List ByteArray)).bind fun y320 => (if y320.length + (l0.drop (x5_1 : Int).toNat).length < 8796093022208 then (some (y320 ++ (l0.drop (x5_1 : Int).toNat))) else (none))) else (none)))) else (none)) else (none)) else (none)) = some r := ry_
     have Ny310 := Aside0.mk hy_; clear hy_
     replace H := inc_ H; obtain ⟨c31, H⟩ := H
     have c31b0 := eq_true c31
     have c31b1 : decide (0 ≤ x5_1) = true := decide_eq_true c31
     clear c31
     replace H := inc_ H; obtain ⟨c32, H⟩ := H
     have c32b0 := eq_true c32
     have c32b1 : decide (x5_1 ≤ (l0.length : Int)) = true := decide_eq_true c32
     clear c32
     replace H := inc_ H; obtain ⟨c33, H⟩ := H
     have LMc33 := Aside0.mk c33
     clear c33
     obtain ⟨y314, hy_⟩ : ∃ y_ : List ByteArray, y_ = (y310 ++ (l0.take (x5_1 : Int).toNat)) := ⟨_, rfl⟩
     replace H : ((some (([a1] : List ByteArray) : List ByteArray)).bind fun y317 => (if y314.length + y317.length < 8796093022208 then ((some (y314 ++ y317 : List ByteArray)).bind fun y320 => (if y320.length + (l0.drop (x5_1 : Int).toNat).length < 8796093022208 then (some (y320 ++ (l0.drop (x5_1 : Int).toNat))) else (none))) else (none))) = some r := ry_
     have Ny314 := Aside0.mk hy_; clear hy_
     obtain ⟨y317, hy_⟩ : ∃ y_ : List ByteArray, y_ = (([a1] : List ByteArray)) := ⟨_, rfl⟩
     replace H : (if y314.length + y317.length < 8796093022208 then ((some (y314 ++ y317 : List ByteArray)).bind fun y320 => (if y320.length + (l0.drop (x5_1 : Int).toNat).length < 8796093022208 then (some (y320 ++ (l0.drop (x5_1 : Int).toNat))) else (none))) else (none)) = some r := ry_
     have Ny317 := Aside0.mk hy_; clear hy_
     replace H := inc_ H; obtain ⟨c34, H⟩ := H
     have LMc34 := Aside0.mk c34
     clear c34
     obtain ⟨y320, hy_⟩ : ∃ y_ : List ByteArray, y_ = (y314 ++ y317) := ⟨_, rfl⟩
     replace H : (if y320.length + (l0.drop (x5_1 : Int).toNat).length < 8796093022208 then (some (y320 ++ (l0.drop (x5_1 : Int).toNat))) else (none)) = some r := ry_
     have Ny320 := Aside0.mk hy_; clear hy_
     have c35b0 := eq_true (od_ : 0 ≤ x5_1)
     have c36b0 := eq_true (od_ : x5_1 ≤ (l0.length : Int))
     replace H := inc_ H; obtain ⟨c37, H⟩ := H
     have LMc37 := Aside0.mk c37
     clear c37
     obtain ⟨y324, hy_⟩ : ∃ y_ : List ByteArray, y_ = (y320 ++ (l0.drop (x5_1 : Int).toNat)) := ⟨_, rfl⟩
     replace H : (some y324) = some r := ry_
     have Ny324 := Aside0.mk hy_; clear hy_
     obtain rfl := Option.some.inj H
     try go_wp2
     replace HB := Aside0.mk (below_drew1 HB.out)
     obtain ⟨i039, hi039, _, hsz39, _⟩ := info_parts info9
     obtain ⟨hcut39, hA39, hC39⟩ := print_take_of (P := Try.prog) Value.string (⟨#[]⟩ : ByteArray) 29 9 .i64 Try.underlying29 hi039 hsz39 A0 c0 l0 x5_1 (od_) (od_) HC0.out
     have HR313 := Aside0.mk (Kd.C_of_reads (h1 := fun _ => rfl) (hA39 _ (Kd.reads_of_C HR0.out)))
     have HC313 := Aside0.mk hC39
     clear hA39 hC39 hi039 hsz39
     obtain ⟨i040, hi040, _, hsz40, _⟩ := info_parts info9
     obtain ⟨A40, hcut40, hA40, hC40⟩ := print_drop_of (P := Try.prog) Value.string (⟨#[]⟩ : ByteArray) 29 9 .i64 Try.underlying29 hi040 hsz40 A0 c0 l0 x5_1 (od_) (od_) HC0.out
     have HR323 := Aside0.mk (Kd.C_of_reads (h1 := fun _ => rfl) (hA40 _ (Kd.reads_of_C HR0.out)))
     have HC323 := Aside0.mk hC40
     clear hA40 hC40 hi040 hsz40
     refine start_ (n := 13) (S := fun w' => True) (ds := []) (bm 13 0) (by kernel_rfl) rfl rfl trivial (fun hHeld => ?_); refine with_tabW spec_l1Put.tab6 spec_l1Put.bits6 (fun HT_ HW_ => ?_)
     generalize wr.drew = w38 at HB HR313 HR323 hHeld ⊢
     refine sp_ 1 (some 34) (bm 13 2) HT_ (h := ?_)
     refine sp_ 2 (some 35) (bm 13 6) HT_ (h := ?_)
     refine sp_ 3 (some 36) (bm 13 14) HT_ (h := ?_)
     refine sp_ 5 (some 38) (bm 13 46) HT_ (h := ?_)
     refine sp_ 8 (some 41) (bm 13 302) HT_ (h := ?_)
     refine sp_ 9 (some 42) (bm 13 814) HT_ (h := ?_)
     refine sp_ 10 (some 43) (bm 13 1838) HT_ (h := ?_)
     refine join_ (σ := Value × Value × Value) 3 (bm 13 1919) (fun s_ => [(33, s_.1), (37, s_.2.1), (39, s_.2.2)]) (fun s_ w' => (Kd.R Kd.string 9 w' w.heap.size (fun k_ => some k_ ≠ (s_.2.2 : Value).ownBlock) s_.2.1 y314) ∧ (Kd.R Kd.string 9 w' w.heap.size (fun k_ => some k_ ≠ (s_.2.1 : Value).ownBlock) s_.2.2 y317) ∧ (Below w.heap.size w w')) ?_ ?_
     rotate_left
     · intro hCont
       refine two_ (i := 0) (j := 6) (Ni := some 33) (Nj := some 39) (bm 13 1839) (bm 13 1902) rfl rfl rfl rfl (two_of HT_.out (by kernel_rfl)) (by decide) (by decide) (fun K hK => ?_) (fun K hK => ?_)
       · skip
         refine Kd.R_lit_step Kd.string _ 9 ?hg (N := 33) ?hd (xs := ([] : List ByteArray)) (inner := []) (ok := fun _ => True) (okp := fun _ => True) ?hr ?hp (fun _ hk => hk) trivial (Below.refl _ _) (Nat.le_refl _) (by simp) ?_; (case hd => rfl); (case hg => rfl); (case hr => first | (go_simp; done) | (go_simp; rfl)); (case hp => exact (Reps.none _ _))
         intro v311 w41 ho42 hb hg_ hnew_
         clear hg_ hnew_
         (first | rw [← Ny310.out] at ho42 | (simp only [Int.reduceToNat, Int.toNat_natCast] at ho42; rw [← Ny310.out] at ho42))
         have HO312 := Aside0.mk (Kd.R_lower ho42 (below_size (bl_)))
         replace HB := Aside0.mk (below_step (bl_) hb)
         clear hb ho42
         refine hK.out _ _ trivial (fun hHeld => ?_)
         clear hK K
         refine nm_ ?_
         refine two_ (i := 4) (j := 6) (Ni := some 37) (Nj := some 39) (bm 13 1855) (bm 13 1903) rfl rfl rfl rfl (two_of HT_.out (by kernel_rfl)) (by decide) (by decide) (fun K hK => ?_) (fun K hK => ?_)
         · skip
           refine Kd.R_append_rows_step Kd.string (w0 := w) w.heap.size (by rfl) (.tmp 33) (.tmp 36) 29 9 (.string ⟨#[]⟩) 16 rfl Try.underlying29 info9 rfl (by decide) (by omega) v311 y310 (l0.take (x5_1 : Int).toNat) _ _ _ (fun _ => True) (fun _ => False) rfl rfl ?aO ?aR (fun _ _ h => h) (fun _ h => h.elim) ?aF ?aB ?aS ?aL ?_
           (case aR => first | (refine (congrArg (fun m_ => ReadsRow _ _ _ _ m_ _) (show (l0.take (x5_1 : Int).toNat).length = x5_1.toNat from (by rw [List.length_take]; have h_ : (x5_1 : Int) ≤ (l0.length : Int) := od_; omega))).mp ?_; repeat (first | exact (Kd.C_below HR313.out HB.out) | (with_reducible refine Kd.C_alloc ?_ _) | (with_reducible refine Kd.C_drewN ?_ _) | (with_reducible refine Kd.C_drew ?_))) | (repeat (first | exact (Kd.C_below HR313.out HB.out) | (with_reducible refine Kd.C_alloc ?_ _) | (with_reducible refine Kd.C_drewN ?_ _) | (with_reducible refine Kd.C_drew ?_))))
           (case aB => exact (bl_))
           (case aF => exact (fun _ _ => trivial))
           (case aO => exact (kR_ HO312))
           (case aS => exact (below_size (bl_)))
           (case aL => have := LMc33.out; have hlx_ := (show (l0.take (x5_1 : Int).toNat).length = x5_1.toNat from (by rw [List.length_take]; have h_ : (x5_1 : Int) ≤ (l0.length : Int) := od_; omega)); omega)
           intro v315 w43 ho hb hg hat
           rw [← Ny314.out] at ho
           replace HB := Aside0.mk (hb)
           have HO316 := Aside0.mk (ho)
           clear HO312
           clear ho hb hg hat
           refine hK.out _ _ trivial (fun hHeld => ?_)
           clear hK K
           refine nm_ ?_
           refine sn_ 6 (some 39) (bm 13 1919) HT_ (fun K hK => ?_)
           refine Kd.R_lit_step Kd.string _ 9 ?hg (N := 39) ?hd (xs := ([a1] : List ByteArray)) (inner := [.string a1]) (ok := fun _ => True) (okp := fun _ => True) ?hr ?hp (fun _ hk => hk) trivial (Below.refl _ _) (Nat.le_refl _) (by simp) ?_; (case hd => rfl); (case hg => rfl); (case hr => first | (go_simp; done) | (go_simp; rfl)); (case hp => exact (Reps.one (show Kd.M Kd.string _ _ _ a1 [.string a1] from rfl) (Reps.none _ _)))
           intro v318 w44 ho45 hb hg_ hnew_
           clear hg_ hnew_
           (first | rw [← Ny317.out] at ho45 | (simp only [Int.reduceToNat, Int.toNat_natCast] at ho45; rw [← Ny317.out] at ho45))
           have HO319 := Aside0.mk (Kd.R_lower (Kd.R_new' ho45 (Kd.R_lt (kR_ HO316))) (below_size (bl_)))
           replace HO316 := Aside0.mk (Kd.R_elder' (kR_ HO316) (Kd.R_base ho45) hb)
           replace HB := Aside0.mk (below_step (bl_) hb)
           clear hb ho45
           refine hK.out _ _ trivial (fun hHeld => ?_)
           clear hK K
           refine nm_ ?_
           exact norm_ (by simp only [putAll, Act.put, List.setIfInBounds_toArray, List.set_cons_zero, List.set_cons_succ]) (hCont (v311, v315, v318) _ ⟨(by (with_reducible repeat (first | apply Kd.R_alloc | apply Kd.R_drewN | apply Kd.R_drew)); exact Kd.R_mono HO316.out (fun _ hk => hk.2)), (by (with_reducible repeat (first | apply Kd.R_alloc | apply Kd.R_drewN | apply Kd.R_drew)); exact Kd.R_mono HO319.out (fun _ hk => hk.2)), (bl_)⟩)
         · skip
           refine Kd.R_lit_step Kd.string _ 9 ?hg (N := 39) ?hd (xs := ([a1] : List ByteArray)) (inner := [.string a1]) (ok := fun _ => True) (okp := fun _ => True) ?hr ?hp (fun _ hk => hk) trivial (Below.refl _ _) (Nat.le_refl _) (by simp) ?_; (case hd => rfl); (case hg => rfl); (case hr => first | (go_simp; done) | (go_simp; rfl)); (case hp => exact (Reps.one (show Kd.M Kd.string _ _ _ a1 [.string a1] from rfl) (Reps.none _ _)))
           intro v318 w43 ho44 hb hg_ hnew_
           clear hg_ hnew_
           (first | rw [← Ny317.out] at ho44 | (simp only [Int.reduceToNat, Int.toNat_natCast] at ho44; rw [← Ny317.out] at ho44))
           have HO319 := Aside0.mk (Kd.R_lower (Kd.R_new' ho44 (Kd.R_lt (kR_ HO312))) (below_size (bl_)))
           replace HO312 := Aside0.mk (Kd.R_elder' (kR_ HO312) (Kd.R_base ho44) hb)
           replace HB := Aside0.mk (below_step (bl_) hb)
           clear hb ho44
           refine hK.out _ _ trivial (fun hHeld => ?_)
           clear hK K
           refine nm_ ?_
           refine sn_ 4 (some 37) (bm 13 1919) HT_ (fun K hK => ?_)
           refine Kd.R_append_rows_step Kd.string (w0 := w) w.heap.size (by rfl) (.tmp 33) (.tmp 36) 29 9 (.string ⟨#[]⟩) 16 rfl Try.underlying29 info9 rfl (by decide) (by omega) v311 y310 (l0.take (x5_1 : Int).toNat) _ _ _ (fun k_ => some k_ ≠ (v318 : Value).ownBlock) (fun _ => False) rfl rfl ?aO ?aR (fun _ _ h => h) (fun _ h => h.elim) ?aF ?aB ?aS ?aL ?_
           (case aR => first | (refine (congrArg (fun m_ => ReadsRow _ _ _ _ m_ _) (show (l0.take (x5_1 : Int).toNat).length = x5_1.toNat from (by rw [List.length_take]; have h_ : (x5_1 : Int) ≤ (l0.length : Int) := od_; omega))).mp ?_; repeat (first | exact (Kd.C_below HR313.out HB.out) | (with_reducible refine Kd.C_alloc ?_ _) | (with_reducible refine Kd.C_drewN ?_ _) | (with_reducible refine Kd.C_drew ?_))) | (repeat (first | exact (Kd.C_below HR313.out HB.out) | (with_reducible refine Kd.C_alloc ?_ _) | (with_reducible refine Kd.C_drewN ?_ _) | (with_reducible refine Kd.C_drew ?_))))
           (case aB => exact (bl_))
           (case aF => exact (fun k_ hk => Kd.fresh' (Kd.R_lt (kR_ HO319)) k_ hk))
           (case aO => exact (by (with_reducible repeat (first | apply Kd.R_alloc | apply Kd.R_drewN | apply Kd.R_drew)); exact Kd.R_mono HO312.out (fun _ hk => hk.2)))
           (case aS => exact (below_size (bl_)))
           (case aL => have := LMc33.out; have hlx_ := (show (l0.take (x5_1 : Int).toNat).length = x5_1.toNat from (by rw [List.length_take]; have h_ : (x5_1 : Int) ≤ (l0.length : Int) := od_; omega)); omega)
           intro v315 w45 ho hb hg hat
           rw [← Ny314.out] at ho
           replace HO319 := Aside0.mk (Kd.R_after (ok := (fun _ => True)) (kR_ HO319) hg hat)
           replace HB := Aside0.mk (hb)
           have HO316 := Aside0.mk (ho)
           clear HO312
           clear ho hb hg hat
           refine hK.out _ _ trivial (fun hHeld => ?_)
           clear hK K
           refine nm_ ?_
           exact norm_ (by simp only [putAll, Act.put, List.setIfInBounds_toArray, List.set_cons_zero, List.set_cons_succ]) (hCont (v311, v315, v318) _ ⟨(kR_ HO316), (by (with_reducible repeat (first | apply Kd.R_alloc | apply Kd.R_drewN | apply Kd.R_drew)); exact Kd.R_mono HO319.out (fun _ hk => hk.2)), (bl_)⟩)
       · skip
         refine Kd.R_lit_step Kd.string _ 9 ?hg (N := 39) ?hd (xs := ([a1] : List ByteArray)) (inner := [.string a1]) (ok := fun _ => True) (okp := fun _ => True) ?hr ?hp (fun _ hk => hk) trivial (Below.refl _ _) (Nat.le_refl _) (by simp) ?_; (case hd => rfl); (case hg => rfl); (case hr => first | (go_simp; done) | (go_simp; rfl)); (case hp => exact (Reps.one (show Kd.M Kd.string _ _ _ a1 [.string a1] from rfl) (Reps.none _ _)))
         intro v318 w41 ho42 hb hg_ hnew_
         clear hg_ hnew_
         (first | rw [← Ny317.out] at ho42 | (simp only [Int.reduceToNat, Int.toNat_natCast] at ho42; rw [← Ny317.out] at ho42))
         have HO319 := Aside0.mk (Kd.R_lower ho42 (below_size (bl_)))
         replace HB := Aside0.mk (below_step (bl_) hb)
         clear hb ho42
         refine hK.out _ _ trivial (fun hHeld => ?_)
         clear hK K
         refine nm_ ?_
         refine sn_ 0 (some 33) (bm 13 1903) HT_ (fun K hK => ?_)
         refine Kd.R_lit_step Kd.string _ 9 ?hg (N := 33) ?hd (xs := ([] : List ByteArray)) (inner := []) (ok := fun _ => True) (okp := fun _ => True) ?hr ?hp (fun _ hk => hk) trivial (Below.refl _ _) (Nat.le_refl _) (by simp) ?_; (case hd => rfl); (case hg => rfl); (case hr => first | (go_simp; done) | (go_simp; rfl)); (case hp => exact (Reps.none _ _))
         intro v311 w43 ho44 hb hg_ hnew_
         clear hg_ hnew_
         (first | rw [← Ny310.out] at ho44 | (simp only [Int.reduceToNat, Int.toNat_natCast] at ho44; rw [← Ny310.out] at ho44))
         have HO312 := Aside0.mk (Kd.R_lower (Kd.R_new' ho44 (Kd.R_lt (kR_ HO319))) (below_size (bl_)))
         replace HO319 := Aside0.mk (Kd.R_elder' (kR_ HO319) (Kd.R_base ho44) hb)
         replace HB := Aside0.mk (below_step (bl_) hb)
         clear hb ho44
         refine hK.out _ _ trivial (fun hHeld => ?_)
         clear hK K
         refine nm_ ?_
         refine sn_ 4 (some 37) (bm 13 1919) HT_ (fun K hK => ?_)
         refine Kd.R_append_rows_step Kd.string (w0 := w) w.heap.size (by rfl) (.tmp 33) (.tmp 36) 29 9 (.string ⟨#[]⟩) 16 rfl Try.underlying29 info9 rfl (by decide) (by omega) v311 y310 (l0.take (x5_1 : Int).toNat) _ _ _ (fun k_ => some k_ ≠ (v318 : Value).ownBlock) (fun _ => False) rfl rfl ?aO ?aR (fun _ _ h => h) (fun _ h => h.elim) ?aF ?aB ?aS ?aL ?_
         (case aR => first | (refine (congrArg (fun m_ => ReadsRow _ _ _ _ m_ _) (show (l0.take (x5_1 : Int).toNat).length = x5_1.toNat from (by rw [List.length_take]; have h_ : (x5_1 : Int) ≤ (l0.length : Int) := od_; omega))).mp ?_; repeat (first | exact (Kd.C_below HR313.out HB.out) | (with_reducible refine Kd.C_alloc ?_ _) | (with_reducible refine Kd.C_drewN ?_ _) | (with_reducible refine Kd.C_drew ?_))) | (repeat (first | exact (Kd.C_below HR313.out HB.out) | (with_reducible refine Kd.C_alloc ?_ _) | (with_reducible refine Kd.C_drewN ?_ _) | (with_reducible refine Kd.C_drew ?_))))
         (case aB => exact (bl_))
         (case aF => exact (fun k_ hk => Kd.fresh' (Kd.R_lt (kR_ HO319)) k_ hk))
         (case aO => exact (by (with_reducible repeat (first | apply Kd.R_alloc | apply Kd.R_drewN | apply Kd.R_drew)); exact Kd.R_mono HO312.out (fun _ hk => hk.2)))
         (case aS => exact (below_size (bl_)))
         (case aL => have := LMc33.out; have hlx_ := (show (l0.take (x5_1 : Int).toNat).length = x5_1.toNat from (by rw [List.length_take]; have h_ : (x5_1 : Int) ≤ (l0.length : Int) := od_; omega)); omega)
         intro v315 w45 ho hb hg hat
         rw [← Ny314.out] at ho
         replace HO319 := Aside0.mk (Kd.R_after (ok := (fun _ => True)) (kR_ HO319) hg hat)
         replace HB := Aside0.mk (hb)
         have HO316 := Aside0.mk (ho)
         clear HO312
         clear ho hb hg hat
         refine hK.out _ _ trivial (fun hHeld => ?_)
         clear hK K
         refine nm_ ?_
         exact norm_ (by simp only [putAll, Act.put, List.setIfInBounds_toArray, List.set_cons_zero, List.set_cons_succ]) (hCont (v311, v315, v318) _ ⟨(kR_ HO316), (by (with_reducible repeat (first | apply Kd.R_alloc | apply Kd.R_drewN | apply Kd.R_drew)); exact Kd.R_mono HO319.out (fun _ hk => hk.2)), (bl_)⟩)
     rintro ⟨v311, v315, v318⟩ w46 ⟨h0_, h1_, h2_⟩
     have n0_ : Aside0 (Kd.R Kd.string 9 w46 w.heap.size (fun k_ => some k_ ≠ (v318 : Value).ownBlock) v315 y314) := ⟨h0_⟩
     have n1_ : Aside0 (Kd.R Kd.string 9 w46 w.heap.size (fun k_ => some k_ ≠ (v315 : Value).ownBlock) v318 y317) := ⟨h1_⟩
     have n2_ : Aside0 (Below w.heap.size w w46) := ⟨h2_⟩
     clear HB
     clear h0_ h1_ h2_
     have HO316 := n0_
     have HO319 := n1_
     have HB := n2_
     clear n0_ n1_ n2_
     have hHeld := trivial
     obtain ⟨Ao48, co48, eo48⟩ := Kd.R_slice HO319.out
     (first | subst eo48 | (injection eo48 with f1_ f2_ f3_; have f4_ := f1_.symm; have f5_ := f3_.symm; clear f1_ f2_ f3_; subst f4_; subst f5_))
     refine norm_ (a' := ?_) ?_ ?_
     rotate_left
     · simp only [putAll, Act.put, List.setIfInBounds_toArray, List.set_cons_zero, List.set_cons_succ]
       rfl
     refine sn_ 7 (some 40) (bm 13 2047) HT_ (fun K hK => ?_)
     refine Kd.R_append_rows_step Kd.string (w0 := w) w.heap.size (by rfl) (.tmp 37) (.tmp 39) 29 9 (.string ⟨#[]⟩) 16 rfl Try.underlying29 info9 rfl (by decide) (by omega) v315 y314 y317 _ _ _ (fun k_ => some k_ ≠ (.slice Ao48 y317.length co48 : Value).ownBlock) (fun _ => False) rfl rfl ?aO ?aR (fun _ _ h => h) (fun _ h => h.elim) ?aF ?aB ?aS ?aL ?_
     (case aR => exact cr_ HO319)
     (case aB => exact (bl_))
     (case aF => exact (fun k_ hk => Kd.fresh' (Kd.R_lt (kR_ HO319)) k_ hk))
     (case aO => exact (kR_ HO316))
     (case aS => exact (below_size (bl_)))
     (case aL => have := LMc34.out; omega)
     intro v321 w47 ho hb hg hat
     rw [← Ny320.out] at ho
     replace HO319 := Aside0.mk (Kd.R_after (ok := (fun _ => True)) (by (with_reducible repeat (first | apply Kd.R_alloc | apply Kd.R_drewN | apply Kd.R_drew)); exact Kd.R_mono HO319.out (fun _ hk => ⟨trivial, hk⟩)) hg hat)
     replace HB := Aside0.mk (hb)
     have HO322 := Aside0.mk (ho)
     clear HO316
     clear ho hb hg hat
     refine hK.out _ _ trivial (fun hHeld => ?_)
     clear hK K
     refine nm_ ?_
     refine sn_ 11 (some 44) (bm 13 4095) HT_ (fun K hK => ?_)
     refine Kd.R_append_rows_step Kd.string (w0 := w) w.heap.size (by rfl) (.tmp 40) (.tmp 43) 29 9 (.string ⟨#[]⟩) 16 rfl Try.underlying29 info9 rfl (by decide) (by omega) v321 y320 (l0.drop (x5_1 : Int).toNat) _ _ _ (fun k_ => some k_ ≠ (.slice Ao48 y317.length co48 : Value).ownBlock) (fun _ => False) rfl rfl ?aO ?aR (fun _ _ h => h) (fun _ h => h.elim) ?aF ?aB ?aS ?aL ?_
     (case aR => first | (rw [← show (l0.drop (x5_1 : Int).toNat).length = (l0.length - x5_1.toNat) from List.length_drop]; repeat (first | exact (Kd.C_below HR323.out HB.out) | (with_reducible refine Kd.C_alloc ?_ _) | (with_reducible refine Kd.C_drewN ?_ _) | (with_reducible refine Kd.C_drew ?_))) | (repeat (first | exact (Kd.C_below HR323.out HB.out) | (with_reducible refine Kd.C_alloc ?_ _) | (with_reducible refine Kd.C_drewN ?_ _) | (with_reducible refine Kd.C_drew ?_))))
     (case aB => exact (bl_))
     (case aF => exact (fun k_ hk => Kd.fresh' (Kd.R_lt (kR_ HO319)) k_ hk))
     (case aO => exact (kR_ HO322))
     (case aS => exact (below_size (bl_)))
     (case aL => have := LMc37.out; have hlx_ := (show (l0.drop (x5_1 : Int).toNat).length = (l0.length - x5_1.toNat) from List.length_drop); omega)
     intro v325 w49 ho hb hg hat
     rw [← Ny324.out] at ho
     replace HO319 := Aside0.mk (Kd.R_after (ok := (fun _ => True)) (kR_ HO319) hg hat)
     replace HB := Aside0.mk (hb)
     have HO326 := Aside0.mk (ho)
     clear HO322
     clear ho hb hg hat
     refine hK.out _ _ trivial (fun hHeld => ?_)
     clear hK K
     refine nm_ ?_
     refine sp_ 12 (some 4) (bm 13 8191) HT_ (h := ?_)
     refine done_ (done_of HT_.out (by kernel_rfl)) ?_
     try go_wp2
     go_ret
     exact ⟨_, rfe_, .inr (by (with_reducible repeat (first | apply Kd.R_alloc | apply Kd.R_drewN | apply Kd.R_drew)); exact Kd.R_mono HO326.out (fun _ hk => trivial)), bl_⟩
   replace H := ind_ H; obtain ⟨c4b0, H⟩ := H
   replace H := itcc_ H; rcases H with ⟨c5, H⟩ | ⟨c5, H⟩
   · have c5b0 : (Op.bytesLess ((rdOf ByteArray.empty l0 x5_1).toList) a1.toList) = true := c5
     clear c5
     have H' := Aside0.mk H; clear H
     have p285 : 0 ≤ (x5_1 : Int) := od_
     have q285 : x5_1 < (l0.length : Int) := od_
     obtain ⟨ad285, e285, hx285_0⟩ := Kd.at_string HR0.out x5_1 p285 q285
     cases e285
     replace hx285_0 := hc_ HB hx285_0
     replace p285 := eq_true p285; replace q285 := eq_true q285
     go_wp2
     go_roundg k1
     case measure => have := HK1.out; omega
     case rel => exact ⟨(wrap64 (x5_1 + 1)), rf_, H', ⟨by have := HK1.out; omega⟩, ⟨bl_⟩⟩
   have c5b0 : (Op.bytesLess ((rdOf ByteArray.empty l0 x5_1).toList) a1.toList) = false := by simpa using c5
   clear c5
   replace H := itcc_ H; rcases H with ⟨c6, H⟩ | ⟨c6, H⟩
   · have c6b0 : ((rdOf ByteArray.empty l0 x5_1).toList == a1.toList) = true := beq_iff_eq.mpr c6
     have c6b1 : ((rdOf ByteArray.empty l0 x5_1).toList != a1.toList) = false := bne_eq_false_iff_eq.mpr c6
     clear c6
     obtain rfl := Option.some.inj H
     have p_ : 0 ≤ (x5_1 : Int) := od_
     have q_ : x5_1 < (l0.length : Int) := od_
     obtain ⟨ad_, e_, hx_⟩ := Kd.at_string HR0.out x5_1 p_ q_
     cases e_
     replace hx_ := hc_ HB hx_
     replace p_ := eq_true p_
     replace q_ := eq_true q_
     go_wp2
     go_ret
     exact ⟨_, rfl, .inl (by first | exact ⟨rfl, rfl⟩ | rfl), bl_⟩
   have c6b0 : ((rdOf ByteArray.empty l0 x5_1).toList == a1.toList) = false := beq_eq_false_iff_ne.mpr c6
   have c6b1 : ((rdOf ByteArray.empty l0 x5_1).toList != a1.toList) = true := bne_iff_ne.mpr c6
   obtain ⟨y293, hy_⟩ : ∃ y_ : List ByteArray, y_ = (([] : List ByteArray)) := ⟨_, rfl⟩
   replace H : (if x5_1 ≤ (l0.length : Int) then (if y293.length + (l0.take (x5_1 : Int).toNat).length < 8796093022208 then ((some (y293 ++ (l0.take (x5_1 : Int).toNat) : List ByteArray)).bind fun y297 => ((some (([a1] : List ByteArray) : List ByteArray)).bind fun y300 => (if y297.length + y300.length < 8796093022208 then ((some (y297 ++ y300 : List ByteArray)).bind fun y303 => (if y303.length + (l0.drop (x5_1 : Int).toNat).length < 8796093022208 then (some (y303 ++ (l0.drop (x5_1 : Int).toNat))) else (none))) else (none)))) else (none)) else (none)) = some r := ry_
   have Ny293 := Aside0.mk hy_; clear hy_
   have c12b0 := eq_true (od_ : 0 ≤ x5_1)
   replace H := inc_ H; obtain ⟨c13, H⟩ := H
   have c13b0 := eq_true c13
   have c13b1 : decide (x5_1 ≤ (l0.length : Int)) = true := decide_eq_true c13
   clear c13
   replace H := inc_ H; obtain ⟨c14, H⟩ := H
   have LMc14 := Aside0.mk c14
   clear c14
   obtain ⟨y297, hy_⟩ : ∃ y_ : List ByteArray, y_ = (y293 ++ (l0.take (x5_1 : Int).toNat)) := ⟨_, rfl⟩
   replace H : ((some (([a1] : List ByteArray) : List ByteArray)).bind fun y300 => (if y297.length + y300.length < 8796093022208 then ((some (y297 ++ y300 : List ByteArray)).bind fun y303 => (if y303.length + (l0.drop (x5_1 : Int).toNat).length < 8796093022208 then (some (y303 ++ (l0.drop (x5_1 : Int).toNat))) else (none))) else (none))) = some r := ry_
   have Ny297 := Aside0.mk hy_; clear hy_
   obtain ⟨y300, hy_⟩ : ∃ y_ : List ByteArray, y_ = (([a1] : List ByteArray)) := ⟨_, rfl⟩
   replace H : (if y297.length + y300.length < 8796093022208 then ((some (y297 ++ y300 : List ByteArray)).bind fun y303 => (if y303.length + (l0.drop (x5_1 : Int).toNat).length < 8796093022208 then (some (y303 ++ (l0.drop (x5_1 : Int).toNat))) else (none))) else (none)) = some r := ry_
   have Ny300 := Aside0.mk hy_; clear hy_
   replace H := inc_ H; obtain ⟨c15, H⟩ := H
   have LMc15 := Aside0.mk c15
   clear c15
   obtain ⟨y303, hy_⟩ : ∃ y_ : List ByteArray, y_ = (y297 ++ y300) := ⟨_, rfl⟩
   replace H : (if y303.length + (l0.drop (x5_1 : Int).toNat).length < 8796093022208 then (some (y303 ++ (l0.drop (x5_1 : Int).toNat))) else (none)) = some r := ry_
   have Ny303 := Aside0.mk hy_; clear hy_
   have c16b0 := eq_true (od_ : 0 ≤ x5_1)
   have c17b0 := eq_true (od_ : x5_1 ≤ (l0.length : Int))
   replace H := inc_ H; obtain ⟨c18, H⟩ := H
   have LMc18 := Aside0.mk c18
   clear c18
   obtain ⟨y307, hy_⟩ : ∃ y_ : List ByteArray, y_ = (y303 ++ (l0.drop (x5_1 : Int).toNat)) := ⟨_, rfl⟩
   replace H : (some y307) = some r := ry_
   have Ny307 := Aside0.mk hy_; clear hy_
   obtain rfl := Option.some.inj H
   have p285 : 0 ≤ (x5_1 : Int) := od_
   have q285 : x5_1 < (l0.length : Int) := od_
   obtain ⟨ad285, e285, hx285_0⟩ := Kd.at_string HR0.out x5_1 p285 q285
   cases e285
   replace hx285_0 := hc_ HB hx285_0
   replace p285 := eq_true p285; replace q285 := eq_true q285
   have p286 : 0 ≤ (x5_1 : Int) := od_
   have q286 : x5_1 < (l0.length : Int) := od_
   obtain ⟨ad286, e286, hx286_0⟩ := Kd.at_string HR0.out x5_1 p286 q286
   obtain rfl : ad285 = ad286 := (by injection e286)
   replace hx286_0 := hc_ HB hx286_0
   replace p286 := eq_true p286; replace q286 := eq_true q286
   try go_wp2
   replace HB := Aside0.mk (below_drew1 HB.out)
   obtain ⟨i020, hi020, _, hsz20, _⟩ := info_parts info9
   obtain ⟨hcut20, hA20, hC20⟩ := print_take_of (P := Try.prog) Value.string (⟨#[]⟩ : ByteArray) 29 9 .i64 Try.underlying29 hi020 hsz20 (some ad285) c0 l0 x5_1 (od_) (od_) HC0.out
   have HR296 := Aside0.mk (Kd.C_of_reads (h1 := fun _ => rfl) (hA20 _ (Kd.reads_of_C HR0.out)))
   have HC296 := Aside0.mk hC20
   clear hA20 hC20 hi020 hsz20
   obtain ⟨i021, hi021, _, hsz21, _⟩ := info_parts info9
   obtain ⟨A21, hcut21, hA21, hC21⟩ := print_drop_of (P := Try.prog) Value.string (⟨#[]⟩ : ByteArray) 29 9 .i64 Try.underlying29 hi021 hsz21 (some ad285) c0 l0 x5_1 (od_) (od_) HC0.out
   have HR306 := Aside0.mk (Kd.C_of_reads (h1 := fun _ => rfl) (hA21 _ (Kd.reads_of_C HR0.out)))
   have HC306 := Aside0.mk hC21
   clear hA21 hC21 hi021 hsz21
   refine start_ (n := 13) (S := fun w' => True) (ds := []) (bm 13 0) (by kernel_rfl) rfl rfl trivial (fun hHeld => ?_); refine with_tabW spec_l1Put.tab6 spec_l1Put.bits6 (fun HT_ HW_ => ?_)
   generalize wr.drew = w19 at HB HR296 HR306 hHeld ⊢
   refine sp_ 1 (some 34) (bm 13 2) HT_ (h := ?_)
   refine sp_ 2 (some 35) (bm 13 6) HT_ (h := ?_)
   refine sp_ 3 (some 36) (bm 13 14) HT_ (h := ?_)
   refine sp_ 5 (some 38) (bm 13 46) HT_ (h := ?_)
   refine sp_ 8 (some 41) (bm 13 302) HT_ (h := ?_)
   refine sp_ 9 (some 42) (bm 13 814) HT_ (h := ?_)
   refine sp_ 10 (some 43) (bm 13 1838) HT_ (h := ?_)
   refine join_ (σ := Value × Value × Value) 3 (bm 13 1919) (fun s_ => [(33, s_.1), (37, s_.2.1), (39, s_.2.2)]) (fun s_ w' => (Kd.R Kd.string 9 w' w.heap.size (fun k_ => some k_ ≠ (s_.2.2 : Value).ownBlock) s_.2.1 y297) ∧ (Kd.R Kd.string 9 w' w.heap.size (fun k_ => some k_ ≠ (s_.2.1 : Value).ownBlock) s_.2.2 y300) ∧ (Below w.heap.size w w')) ?_ ?_
   rotate_left
   · intro hCont
     refine two_ (i := 0) (j := 6) (Ni := some 33) (Nj := some 39) (bm 13 1839) (bm 13 1902) rfl rfl rfl rfl (two_of HT_.out (by kernel_rfl)) (by decide) (by decide) (fun K hK => ?_) (fun K hK => ?_)
     · skip
       refine Kd.R_lit_step Kd.string _ 9 ?hg (N := 33) ?hd (xs := ([] : List ByteArray)) (inner := []) (ok := fun _ => True) (okp := fun _ => True) ?hr ?hp (fun _ hk => hk) trivial (Below.refl _ _) (Nat.le_refl _) (by simp) ?_; (case hd => rfl); (case hg => rfl); (case hr => first | (go_simp; done) | (go_simp; rfl)); (case hp => exact (Reps.none _ _))
       intro v294 w22 ho23 hb hg_ hnew_
       clear hg_ hnew_
       (first | rw [← Ny293.out] at ho23 | (simp only [Int.reduceToNat, Int.toNat_natCast] at ho23; rw [← Ny293.out] at ho23))
       have HO295 := Aside0.mk (Kd.R_lower ho23 (below_size (bl_)))
       replace HB := Aside0.mk (below_step (bl_) hb)
       clear hb ho23
       refine hK.out _ _ trivial (fun hHeld => ?_)
       clear hK K
       refine nm_ ?_
       refine two_ (i := 4) (j := 6) (Ni := some 37) (Nj := some 39) (bm 13 1855) (bm 13 1903) rfl rfl rfl rfl (two_of HT_.out (by kernel_rfl)) (by decide) (by decide) (fun K hK => ?_) (fun K hK => ?_)
       · skip
         refine Kd.R_append_rows_step Kd.string (w0 := w) w.heap.size (by rfl) (.tmp 33) (.tmp 36) 29 9 (.string ⟨#[]⟩) 16 rfl Try.underlying29 info9 rfl (by decide) (by omega) v294 y293 (l0.take (x5_1 : Int).toNat) _ _ _ (fun _ => True) (fun _ => False) rfl rfl ?aO ?aR (fun _ _ h => h) (fun _ h => h.elim) ?aF ?aB ?aS ?aL ?_
         (case aR => first | (refine (congrArg (fun m_ => ReadsRow _ _ _ _ m_ _) (show (l0.take (x5_1 : Int).toNat).length = x5_1.toNat from (by rw [List.length_take]; have h_ : (x5_1 : Int) ≤ (l0.length : Int) := od_; omega))).mp ?_; repeat (first | exact (Kd.C_below HR296.out HB.out) | (with_reducible refine Kd.C_alloc ?_ _) | (with_reducible refine Kd.C_drewN ?_ _) | (with_reducible refine Kd.C_drew ?_))) | (repeat (first | exact (Kd.C_below HR296.out HB.out) | (with_reducible refine Kd.C_alloc ?_ _) | (with_reducible refine Kd.C_drewN ?_ _) | (with_reducible refine Kd.C_drew ?_))))
         (case aB => exact (bl_))
         (case aF => exact (fun _ _ => trivial))
         (case aO => exact (kR_ HO295))
         (case aS => exact (below_size (bl_)))
         (case aL => have := LMc14.out; have hlx_ := (show (l0.take (x5_1 : Int).toNat).length = x5_1.toNat from (by rw [List.length_take]; have h_ : (x5_1 : Int) ≤ (l0.length : Int) := od_; omega)); omega)
         intro v298 w24 ho hb hg hat
         rw [← Ny297.out] at ho
         replace HB := Aside0.mk (hb)
         have HO299 := Aside0.mk (ho)
         clear HO295
         clear ho hb hg hat
         refine hK.out _ _ trivial (fun hHeld => ?_)
         clear hK K
         refine nm_ ?_
         refine sn_ 6 (some 39) (bm 13 1919) HT_ (fun K hK => ?_)
         refine Kd.R_lit_step Kd.string _ 9 ?hg (N := 39) ?hd (xs := ([a1] : List ByteArray)) (inner := [.string a1]) (ok := fun _ => True) (okp := fun _ => True) ?hr ?hp (fun _ hk => hk) trivial (Below.refl _ _) (Nat.le_refl _) (by simp) ?_; (case hd => rfl); (case hg => rfl); (case hr => first | (go_simp; done) | (go_simp; rfl)); (case hp => exact (Reps.one (show Kd.M Kd.string _ _ _ a1 [.string a1] from rfl) (Reps.none _ _)))
         intro v301 w25 ho26 hb hg_ hnew_
         clear hg_ hnew_
         (first | rw [← Ny300.out] at ho26 | (simp only [Int.reduceToNat, Int.toNat_natCast] at ho26; rw [← Ny300.out] at ho26))
         have HO302 := Aside0.mk (Kd.R_lower (Kd.R_new' ho26 (Kd.R_lt (kR_ HO299))) (below_size (bl_)))
         replace HO299 := Aside0.mk (Kd.R_elder' (kR_ HO299) (Kd.R_base ho26) hb)
         replace HB := Aside0.mk (below_step (bl_) hb)
         clear hb ho26
         refine hK.out _ _ trivial (fun hHeld => ?_)
         clear hK K
         refine nm_ ?_
         exact norm_ (by simp only [putAll, Act.put, List.setIfInBounds_toArray, List.set_cons_zero, List.set_cons_succ]) (hCont (v294, v298, v301) _ ⟨(by (with_reducible repeat (first | apply Kd.R_alloc | apply Kd.R_drewN | apply Kd.R_drew)); exact Kd.R_mono HO299.out (fun _ hk => hk.2)), (by (with_reducible repeat (first | apply Kd.R_alloc | apply Kd.R_drewN | apply Kd.R_drew)); exact Kd.R_mono HO302.out (fun _ hk => hk.2)), (bl_)⟩)
       · skip
         refine Kd.R_lit_step Kd.string _ 9 ?hg (N := 39) ?hd (xs := ([a1] : List ByteArray)) (inner := [.string a1]) (ok := fun _ => True) (okp := fun _ => True) ?hr ?hp (fun _ hk => hk) trivial (Below.refl _ _) (Nat.le_refl _) (by simp) ?_; (case hd => rfl); (case hg => rfl); (case hr => first | (go_simp; done) | (go_simp; rfl)); (case hp => exact (Reps.one (show Kd.M Kd.string _ _ _ a1 [.string a1] from rfl) (Reps.none _ _)))
         intro v301 w24 ho25 hb hg_ hnew_
         clear hg_ hnew_
         (first | rw [← Ny300.out] at ho25 | (simp only [Int.reduceToNat, Int.toNat_natCast] at ho25; rw [← Ny300.out] at ho25))
         have HO302 := Aside0.mk (Kd.R_lower (Kd.R_new' ho25 (Kd.R_lt (kR_ HO295))) (below_size (bl_)))
         replace HO295 := Aside0.mk (Kd.R_elder' (kR_ HO295) (Kd.R_base ho25) hb)
         replace HB := Aside0.mk (below_step (bl_) hb)
         clear hb ho25
         refine hK.out _ _ trivial (fun hHeld => ?_)
         clear hK K
         refine nm_ ?_
         refine sn_ 4 (some 37) (bm 13 1919) HT_ (fun K hK => ?_)
         refine Kd.R_append_rows_step Kd.string (w0 := w) w.heap.size (by rfl) (.tmp 33) (.tmp 36) 29 9 (.string ⟨#[]⟩) 16 rfl Try.underlying29 info9 rfl (by decide) (by omega) v294 y293 (l0.take (x5_1 : Int).toNat) _ _ _ (fun k_ => some k_ ≠ (v301 : Value).ownBlock) (fun _ => False) rfl rfl ?aO ?aR (fun _ _ h => h) (fun _ h => h.elim) ?aF ?aB ?aS ?aL ?_
         (case aR => first | (refine (congrArg (fun m_ => ReadsRow _ _ _ _ m_ _) (show (l0.take (x5_1 : Int).toNat).length = x5_1.toNat from (by rw [List.length_take]; have h_ : (x5_1 : Int) ≤ (l0.length : Int) := od_; omega))).mp ?_; repeat (first | exact (Kd.C_below HR296.out HB.out) | (with_reducible refine Kd.C_alloc ?_ _) | (with_reducible refine Kd.C_drewN ?_ _) | (with_reducible refine Kd.C_drew ?_))) | (repeat (first | exact (Kd.C_below HR296.out HB.out) | (with_reducible refine Kd.C_alloc ?_ _) | (with_reducible refine Kd.C_drewN ?_ _) | (with_reducible refine Kd.C_drew ?_))))
         (case aB => exact (bl_))
         (case aF => exact (fun k_ hk => Kd.fresh' (Kd.R_lt (kR_ HO302)) k_ hk))
         (case aO => exact (by (with_reducible repeat (first | apply Kd.R_alloc | apply Kd.R_drewN | apply Kd.R_drew)); exact Kd.R_mono HO295.out (fun _ hk => hk.2)))
         (case aS => exact (below_size (bl_)))
         (case aL => have := LMc14.out; have hlx_ := (show (l0.take (x5_1 : Int).toNat).length = x5_1.toNat from (by rw [List.length_take]; have h_ : (x5_1 : Int) ≤ (l0.length : Int) := od_; omega)); omega)
         intro v298 w26 ho hb hg hat
         rw [← Ny297.out] at ho
         replace HO302 := Aside0.mk (Kd.R_after (ok := (fun _ => True)) (kR_ HO302) hg hat)
         replace HB := Aside0.mk (hb)
         have HO299 := Aside0.mk (ho)
         clear HO295
         clear ho hb hg hat
         refine hK.out _ _ trivial (fun hHeld => ?_)
         clear hK K
         refine nm_ ?_
         exact norm_ (by simp only [putAll, Act.put, List.setIfInBounds_toArray, List.set_cons_zero, List.set_cons_succ]) (hCont (v294, v298, v301) _ ⟨(kR_ HO299), (by (with_reducible repeat (first | apply Kd.R_alloc | apply Kd.R_drewN | apply Kd.R_drew)); exact Kd.R_mono HO302.out (fun _ hk => hk.2)), (bl_)⟩)
     · skip
       refine Kd.R_lit_step Kd.string _ 9 ?hg (N := 39) ?hd (xs := ([a1] : List ByteArray)) (inner := [.string a1]) (ok := fun _ => True) (okp := fun _ => True) ?hr ?hp (fun _ hk => hk) trivial (Below.refl _ _) (Nat.le_refl _) (by simp) ?_; (case hd => rfl); (case hg => rfl); (case hr => first | (go_simp; done) | (go_simp; rfl)); (case hp => exact (Reps.one (show Kd.M Kd.string _ _ _ a1 [.string a1] from rfl) (Reps.none _ _)))
       intro v301 w22 ho23 hb hg_ hnew_
       clear hg_ hnew_
       (first | rw [← Ny300.out] at ho23 | (simp only [Int.reduceToNat, Int.toNat_natCast] at ho23; rw [← Ny300.out] at ho23))
       have HO302 := Aside0.mk (Kd.R_lower ho23 (below_size (bl_)))
       replace HB := Aside0.mk (below_step (bl_) hb)
       clear hb ho23
       refine hK.out _ _ trivial (fun hHeld => ?_)
       clear hK K
       refine nm_ ?_
       refine sn_ 0 (some 33) (bm 13 1903) HT_ (fun K hK => ?_)
       refine Kd.R_lit_step Kd.string _ 9 ?hg (N := 33) ?hd (xs := ([] : List ByteArray)) (inner := []) (ok := fun _ => True) (okp := fun _ => True) ?hr ?hp (fun _ hk => hk) trivial (Below.refl _ _) (Nat.le_refl _) (by simp) ?_; (case hd => rfl); (case hg => rfl); (case hr => first | (go_simp; done) | (go_simp; rfl)); (case hp => exact (Reps.none _ _))
       intro v294 w24 ho25 hb hg_ hnew_
       clear hg_ hnew_
       (first | rw [← Ny293.out] at ho25 | (simp only [Int.reduceToNat, Int.toNat_natCast] at ho25; rw [← Ny293.out] at ho25))
       have HO295 := Aside0.mk (Kd.R_lower (Kd.R_new' ho25 (Kd.R_lt (kR_ HO302))) (below_size (bl_)))
       replace HO302 := Aside0.mk (Kd.R_elder' (kR_ HO302) (Kd.R_base ho25) hb)
       replace HB := Aside0.mk (below_step (bl_) hb)
       clear hb ho25
       refine hK.out _ _ trivial (fun hHeld => ?_)
       clear hK K
       refine nm_ ?_
       refine sn_ 4 (some 37) (bm 13 1919) HT_ (fun K hK => ?_)
       refine Kd.R_append_rows_step Kd.string (w0 := w) w.heap.size (by rfl) (.tmp 33) (.tmp 36) 29 9 (.string ⟨#[]⟩) 16 rfl Try.underlying29 info9 rfl (by decide) (by omega) v294 y293 (l0.take (x5_1 : Int).toNat) _ _ _ (fun k_ => some k_ ≠ (v301 : Value).ownBlock) (fun _ => False) rfl rfl ?aO ?aR (fun _ _ h => h) (fun _ h => h.elim) ?aF ?aB ?aS ?aL ?_
       (case aR => first | (refine (congrArg (fun m_ => ReadsRow _ _ _ _ m_ _) (show (l0.take (x5_1 : Int).toNat).length = x5_1.toNat from (by rw [List.length_take]; have h_ : (x5_1 : Int) ≤ (l0.length : Int) := od_; omega))).mp ?_; repeat (first | exact (Kd.C_below HR296.out HB.out) | (with_reducible refine Kd.C_alloc ?_ _) | (with_reducible refine Kd.C_drewN ?_ _) | (with_reducible refine Kd.C_drew ?_))) | (repeat (first | exact (Kd.C_below HR296.out HB.out) | (with_reducible refine Kd.C_alloc ?_ _) | (with_reducible refine Kd.C_drewN ?_ _) | (with_reducible refine Kd.C_drew ?_))))
       (case aB => exact (bl_))
       (case aF => exact (fun k_ hk => Kd.fresh' (Kd.R_lt (kR_ HO302)) k_ hk))
       (case aO => exact (by (with_reducible repeat (first | apply Kd.R_alloc | apply Kd.R_drewN | apply Kd.R_drew)); exact Kd.R_mono HO295.out (fun _ hk => hk.2)))
       (case aS => exact (below_size (bl_)))
       (case aL => have := LMc14.out; have hlx_ := (show (l0.take (x5_1 : Int).toNat).length = x5_1.toNat from (by rw [List.length_take]; have h_ : (x5_1 : Int) ≤ (l0.length : Int) := od_; omega)); omega)
       intro v298 w26 ho hb hg hat
       rw [← Ny297.out] at ho
       replace HO302 := Aside0.mk (Kd.R_after (ok := (fun _ => True)) (kR_ HO302) hg hat)
       replace HB := Aside0.mk (hb)
       have HO299 := Aside0.mk (ho)
       clear HO295
       clear ho hb hg hat
       refine hK.out _ _ trivial (fun hHeld => ?_)
       clear hK K
       refine nm_ ?_
       exact norm_ (by simp only [putAll, Act.put, List.setIfInBounds_toArray, List.set_cons_zero, List.set_cons_succ]) (hCont (v294, v298, v301) _ ⟨(kR_ HO299), (by (with_reducible repeat (first | apply Kd.R_alloc | apply Kd.R_drewN | apply Kd.R_drew)); exact Kd.R_mono HO302.out (fun _ hk => hk.2)), (bl_)⟩)
   rintro ⟨v294, v298, v301⟩ w27 ⟨h0_, h1_, h2_⟩
   have n0_ : Aside0 (Kd.R Kd.string 9 w27 w.heap.size (fun k_ => some k_ ≠ (v301 : Value).ownBlock) v298 y297) := ⟨h0_⟩
   have n1_ : Aside0 (Kd.R Kd.string 9 w27 w.heap.size (fun k_ => some k_ ≠ (v298 : Value).ownBlock) v301 y300) := ⟨h1_⟩
   have n2_ : Aside0 (Below w.heap.size w w27) := ⟨h2_⟩
   clear HB
   clear h0_ h1_ h2_
   have HO299 := n0_
   have HO302 := n1_
   have HB := n2_
   clear n0_ n1_ n2_
   have hHeld := trivial
   obtain ⟨Ao29, co29, eo29⟩ := Kd.R_slice HO302.out
   (first | subst eo29 | (injection eo29 with f1_ f2_ f3_; have f4_ := f1_.symm; have f5_ := f3_.symm; clear f1_ f2_ f3_; subst f4_; subst f5_))
   refine norm_ (a' := ?_) ?_ ?_
   rotate_left
   · simp only [putAll, Act.put, List.setIfInBounds_toArray, List.set_cons_zero, List.set_cons_succ]
     rfl
   refine sn_ 7 (some 40) (bm 13 2047) HT_ (fun K hK => ?_)
   refine Kd.R_append_rows_step Kd.string (w0 := w) w.heap.size (by rfl) (.tmp 37) (.tmp 39) 29 9 (.string ⟨#[]⟩) 16 rfl Try.underlying29 info9 rfl (by decide) (by omega) v298 y297 y300 _ _ _ (fun k_ => some k_ ≠ (.slice Ao29 y300.length co29 : Value).ownBlock) (fun _ => False) rfl rfl ?aO ?aR (fun _ _ h => h) (fun _ h => h.elim) ?aF ?aB ?aS ?aL ?_
   (case aR => exact cr_ HO302)
   (case aB => exact (bl_))
   (case aF => exact (fun k_ hk => Kd.fresh' (Kd.R_lt (kR_ HO302)) k_ hk))
   (case aO => exact (kR_ HO299))
   (case aS => exact (below_size (bl_)))
   (case aL => have := LMc15.out; omega)
   intro v304 w28 ho hb hg hat
   rw [← Ny303.out] at ho
   replace HO302 := Aside0.mk (Kd.R_after (ok := (fun _ => True)) (by (with_reducible repeat (first | apply Kd.R_alloc | apply Kd.R_drewN | apply Kd.R_drew)); exact Kd.R_mono HO302.out (fun _ hk => ⟨trivial, hk⟩)) hg hat)
   replace HB := Aside0.mk (hb)
   have HO305 := Aside0.mk (ho)
   clear HO299
   clear ho hb hg hat
   refine hK.out _ _ trivial (fun hHeld => ?_)
   clear hK K
   refine nm_ ?_
   refine sn_ 11 (some 44) (bm 13 4095) HT_ (fun K hK => ?_)
   refine Kd.R_append_rows_step Kd.string (w0 := w) w.heap.size (by rfl) (.tmp 40) (.tmp 43) 29 9 (.string ⟨#[]⟩) 16 rfl Try.underlying29 info9 rfl (by decide) (by omega) v304 y303 (l0.drop (x5_1 : Int).toNat) _ _ _ (fun k_ => some k_ ≠ (.slice Ao29 y300.length co29 : Value).ownBlock) (fun _ => False) rfl rfl ?aO ?aR (fun _ _ h => h) (fun _ h => h.elim) ?aF ?aB ?aS ?aL ?_
   (case aR => first | (rw [← show (l0.drop (x5_1 : Int).toNat).length = (l0.length - x5_1.toNat) from List.length_drop]; repeat (first | exact (Kd.C_below HR306.out HB.out) | (with_reducible refine Kd.C_alloc ?_ _) | (with_reducible refine Kd.C_drewN ?_ _) | (with_reducible refine Kd.C_drew ?_))) | (repeat (first | exact (Kd.C_below HR306.out HB.out) | (with_reducible refine Kd.C_alloc ?_ _) | (with_reducible refine Kd.C_drewN ?_ _) | (with_reducible refine Kd.C_drew ?_))))
   (case aB => exact (bl_))
   (case aF => exact (fun k_ hk => Kd.fresh' (Kd.R_lt (kR_ HO302)) k_ hk))
   (case aO => exact (kR_ HO305))
   (case aS => exact (below_size (bl_)))
   (case aL => have := LMc18.out; have hlx_ := (show (l0.drop (x5_1 : Int).toNat).length = (l0.length - x5_1.toNat) from List.length_drop); omega)
   intro v308 w30 ho hb hg hat
   rw [← Ny307.out] at ho
   replace HO302 := Aside0.mk (Kd.R_after (ok := (fun _ => True)) (kR_ HO302) hg hat)
   replace HB := Aside0.mk (hb)
   have HO309 := Aside0.mk (ho)
   clear HO305
   clear ho hb hg hat
   refine hK.out _ _ trivial (fun hHeld => ?_)
   clear hK K
   refine nm_ ?_
   refine sp_ 12 (some 4) (bm 13 8191) HT_ (h := ?_)
   refine done_ (done_of HT_.out (by kernel_rfl)) ?_
   try go_wp2
   go_ret
   exact ⟨_, rfe_, .inr (by (with_reducible repeat (first | apply Kd.R_alloc | apply Kd.R_drewN | apply Kd.R_drew)); exact Kd.R_mono HO309.out (fun _ hk => trivial)), bl_⟩

/-- The same of a list of the caller's own, handed over. -/
theorem spec_l1Put.calls (k : Nat) (P0_ : Nat → Prop) (u9000_ : Value) (l0 : List ByteArray) (a1 : ByteArray) (r : List ByteArray) (w0 w : World) (hB : Below w0.heap.size w0 w) (ho0 : Kd.R Kd.string 9 w w0.heap.size P0_ u9000_ l0) (h : spec_l1Put.f k l0 a1 = some r) :
 Calls Try.prog 54 #[u9000_, .string a1] w fun e w' => ∃ v0_ : Value, e = .returned (v0_) ∧ Kd.R Kd.string 9 w' w0.heap.size (fun k_ => (P0_ k_ ∨ w.heap.size ≤ k_)) v0_ r ∧ Below w0.heap.size w0 w' ∧ Kept w w' (fun k_ => P0_ k_) := by
 obtain ⟨A, c, e⟩ := Kd.R_slice ho0
 subst e
 refine (spec_l1Put.callsC k A c l0 a1 r w (Kd.R_reads' ho0).2.2 (Kd.R_reads' ho0).2.1 h).mono ?_
 rintro e w' ⟨v, rfl, hv, hb⟩
 refine ⟨v, rfl, ?_, below_then hB hB.size hb, Kept.below (S := fun k_ => P0_ k_) (Kept.refl w _) hb⟩
 rcases hv with ⟨rfl, rfl⟩ | hR
 · exact Kd.R_mono (Kd.R_below ho0 hb) (fun _ h => .inl h)
 · exact Kd.R_mono (Kd.R_lower (Kd.R_bound hR) hB.size) (fun _ h => .inr h.2.1)

end Go.Proofs.Ytbopiacjioedeaa.P
